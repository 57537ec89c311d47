/- What functions of the program answer, each at every input that its row names; walked through their code. -/
import Derived.Test.YtkdiaknbndmajaaGreatSy15
namespace Go.Proofs.YtkdiaknbndmajaaGreat.Sx
open Go Go.RowKit Go.Proofs
set_option linter.unusedVariables false
set_option linter.unusedSimpArgs false
def tab15 : Tab := { size := [], off := [], elem := [] }
theorem tab_ok15 : tab15.check Tryz.prog = true := by kernel_rfl
noncomputable abbrev X15 (N : Nat) (w : World) : Cx := ⟨Tryz.prog, tab15, tab_ok15, wide, N, w, none, []⟩

/-! laws.FnExactIsAnswered -/
set_option maxRecDepth 20000 in
set_option maxHeartbeats 2000000 in
theorem laws_FnExactIsAnswered (w : World) (aDims : Int) (aI : Int) {AaNotes : Option Addr} {caNotes : Nat} {aNotes : List Note} {saNotes_ : List Nat} (haNotes : (Kd.sl kNoteS).Rel w [.slice AaNotes aNotes.length caNotes] aNotes [] saNotes_)  : Calls Tryz.prog 4 #[.slice AaNotes aNotes.length caNotes, .int .i64 aDims, .int .i64 aI] w (fun e_ w2_ => e_ = .returned (.bool true) ∧ Below w.heap.size w w2_) := by
  have LaNotes := Kd.sl_len haNotes; have CaNotes := Kd.sl_cap haNotes
  have n0 := szList_nn szNote_nn aNotes
  refine fnc (X := X15 35 w) (args := [.slice AaNotes aNotes.length caNotes, .int .i64 aDims, .int .i64 aI]) (l := [(0, .slice AaNotes aNotes.length caNotes), (1, .int .i64 aDims), (2, .int .i64 aI)]) (G := [dat (Kd.sl kNoteS) [.slice AaNotes aNotes.length caNotes] aNotes ([]) saNotes_]) Tryz.func4 rfl rfl rfl ⟨rfl, rfl, rfl, trivial⟩ (s0d haNotes (s0n w)).1 ?_
  refine sq (rg (a_ rfl rfl (en (nx (sq (rg (a_ rfl rfl (en (nx (sq (rg (m_ rfl rfl (m_ rfl rfl (cs_ (v := .int .i64 (szTake (szList szNote aNotes) 1048576)) (by kernel_rfl) rfl rfl rfl (fun w_ hs_ => laws_szNoteS w_ _ (hs_.at 0 rfl) (by omega) (by omega)) (a_ rfl rfl (en (nx (sq (sq (rg (m_ rfl rfl (vl (cm rfl rfl rfl rfl) rfl (en (nx ?_))))))))))))))))))))))))
  by_cases h1 : (szTake (szList szNote aNotes) 1048576) < (0 : Int)
  · have eh1 := szTake_t h1
    refine ct rfl (decide_eq_true h1) (sq (rg (a_ rfl rfl (en (nx (rt (xr (ret1 rfl rfl (fun w_ hs_ => ⟨?_, hs_.below⟩)))))))))
    rfl
  · have eh1 := szTake_f h1
    refine cf rfl (decide_eq_false h1) (sk (nx (sq (rg (m_ rfl rfl (cm_ (dk := (Kd.row 67 kNoteO)) (x := aNotes) (S := []) (by kernel_rfl) rfl rfl rfl sn0 (fun w_ hs_ => laws_toNoteS w_ (hs_.at 0 rfl) (by omega)) (fun cs_ o4 s5 w_ r6 t7 => ?_)))))))
    obtain ⟨A2, c3, rfl⟩ := Kd.row_sh r6
    refine m_ rfl rfl (m_ rfl rfl (cs_ (v := .bool (isAnswered aNotes aDims aI)) (by kernel_rfl) rfl rfl rfl (fun w_ hs_ => bor (Kd.Seals.row kNoteO_seal _) (hs_.at 0 rfl) fun _ lb0_ => spec_IsAnswered w_ _ _ lb0_) (a_ rfl rfl (en (nx (sq (rg (m_ rfl rfl (cm_ (dk := (Kd.row 67 kNoteO)) (x := aNotes) (S := []) (by kernel_rfl) rfl rfl rfl sn0 (fun w_ hs_ => laws_toNoteS w_ (hs_.at 1 rfl) (by omega)) (fun cs_ o11 s12 w_ r13 t14 => ?_))))))))))
    obtain ⟨A9, c10, rfl⟩ := Kd.row_sh r13
    refine a_ rfl rfl (en (nx (sq (rg (m_ rfl rfl (m_ rfl rfl (m_ rfl rfl (cs_ (v := .bool (isAnswered aNotes aDims aI)) (by kernel_rfl) rfl rfl rfl (fun w_ hs_ => bor (Kd.Seals.row kNoteO_seal _) (hs_.at 0 rfl) fun _ lb0_ => impl_IsAnswered w_ _ _ lb0_) (a_ rfl rfl (en (nx (sq (sq (rg (m_ rfl rfl (m_ rfl rfl (vl (cmbn rfl rfl rfl Tryz.underlying4) rfl (en (nx (cf rfl rfl (sk (nx (sq (sq (rg (m_ rfl rfl (m_ rfl rfl (cm_ (dk := (Kd.row 67 kNoteO)) (x := aNotes) (S := []) (by kernel_rfl) rfl rfl rfl sn0 (fun w_ hs_ => laws_toNoteS w_ (hs_.at 2 rfl) (by omega)) (fun cs_ o18 s19 w_ r20 t21 => ?_)))))))))))))))))))))))))))))
    obtain ⟨A16, c17, rfl⟩ := Kd.row_sh r20
    refine cs_ (v := .bool (decide (aNotes = aNotes))) (by kernel_rfl) rfl rfl rfl (fun w_ hs_ => bor (Kd.Seals.row kNoteO_seal _) (hs_.at 1 rfl) fun _ lb0_ => bor (Kd.Seals.row kNoteO_seal _) (hs_.at 0 rfl) fun _ lb1_ => laws_eqNoteS w_ lb0_ lb1_) (vl (nt rfl rfl) rfl (en (nx (cf rfl (not_f (decide_eq_true rfl)) (sk (nx (sq (rg (a_ rfl rfl (en (nx (rt (ret1 rfl rfl (fun w_ hs_ => ⟨?_, hs_.below⟩))))))))))))))
    rfl
/-! laws.FnExactIsExplained -/
set_option maxRecDepth 20000 in
set_option maxHeartbeats 2000000 in
theorem laws_FnExactIsExplained (w : World) (aDims : Int) {AaNotes : Option Addr} {caNotes : Nat} {aNotes : List Note} {saNotes_ : List Nat} (haNotes : (Kd.sl kNoteS).Rel w [.slice AaNotes aNotes.length caNotes] aNotes [] saNotes_)  : Calls Tryz.prog 5 #[.slice AaNotes aNotes.length caNotes, .int .i64 aDims] w (fun e_ w2_ => e_ = .returned (.bool true) ∧ Below w.heap.size w w2_) := by
  have LaNotes := Kd.sl_len haNotes; have CaNotes := Kd.sl_cap haNotes
  have n0 := szList_nn szNote_nn aNotes
  refine fnc (X := X15 31 w) (args := [.slice AaNotes aNotes.length caNotes, .int .i64 aDims]) (l := [(0, .slice AaNotes aNotes.length caNotes), (1, .int .i64 aDims)]) (G := [dat (Kd.sl kNoteS) [.slice AaNotes aNotes.length caNotes] aNotes ([]) saNotes_]) Tryz.func5 rfl rfl rfl ⟨rfl, rfl, trivial⟩ (s0d haNotes (s0n w)).1 ?_
  refine sq (rg (a_ rfl rfl (en (nx (sq (rg (a_ rfl rfl (en (nx (sq (rg (m_ rfl rfl (m_ rfl rfl (cs_ (v := .int .i64 (szTake (szList szNote aNotes) 1048576)) (by kernel_rfl) rfl rfl rfl (fun w_ hs_ => laws_szNoteS w_ _ (hs_.at 0 rfl) (by omega) (by omega)) (a_ rfl rfl (en (nx (sq (sq (rg (m_ rfl rfl (vl (cm rfl rfl rfl rfl) rfl (en (nx ?_))))))))))))))))))))))))
  by_cases h1 : (szTake (szList szNote aNotes) 1048576) < (0 : Int)
  · have eh1 := szTake_t h1
    refine ct rfl (decide_eq_true h1) (sq (rg (a_ rfl rfl (en (nx (rt (xr (ret1 rfl rfl (fun w_ hs_ => ⟨?_, hs_.below⟩)))))))))
    rfl
  · have eh1 := szTake_f h1
    refine cf rfl (decide_eq_false h1) (sk (nx (sq (rg (m_ rfl rfl (cm_ (dk := (Kd.row 67 kNoteO)) (x := aNotes) (S := []) (by kernel_rfl) rfl rfl rfl sn0 (fun w_ hs_ => laws_toNoteS w_ (hs_.at 0 rfl) (by omega)) (fun cs_ o4 s5 w_ r6 t7 => ?_)))))))
    obtain ⟨A2, c3, rfl⟩ := Kd.row_sh r6
    refine m_ rfl rfl (cs_ (v := .bool (isExplained aNotes aDims)) (by kernel_rfl) rfl rfl rfl (fun w_ hs_ => bor (Kd.Seals.row kNoteO_seal _) (hs_.at 0 rfl) fun _ lb0_ => spec_IsExplained w_ _ lb0_) (a_ rfl rfl (en (nx (sq (rg (m_ rfl rfl (cm_ (dk := (Kd.row 67 kNoteO)) (x := aNotes) (S := []) (by kernel_rfl) rfl rfl rfl sn0 (fun w_ hs_ => laws_toNoteS w_ (hs_.at 1 rfl) (by omega)) (fun cs_ o11 s12 w_ r13 t14 => ?_)))))))))
    obtain ⟨A9, c10, rfl⟩ := Kd.row_sh r13
    refine a_ rfl rfl (en (nx (sq (rg (m_ rfl rfl (m_ rfl rfl (cs_ (v := .bool (isExplained aNotes aDims)) (by kernel_rfl) rfl rfl rfl (fun w_ hs_ => bor (Kd.Seals.row kNoteO_seal _) (hs_.at 0 rfl) fun _ lb0_ => impl_IsExplained w_ _ lb0_) (a_ rfl rfl (en (nx (sq (sq (rg (m_ rfl rfl (m_ rfl rfl (vl (cmbn rfl rfl rfl Tryz.underlying4) rfl (en (nx (cf rfl rfl (sk (nx (sq (sq (rg (m_ rfl rfl (m_ rfl rfl (cm_ (dk := (Kd.row 67 kNoteO)) (x := aNotes) (S := []) (by kernel_rfl) rfl rfl rfl sn0 (fun w_ hs_ => laws_toNoteS w_ (hs_.at 2 rfl) (by omega)) (fun cs_ o18 s19 w_ r20 t21 => ?_))))))))))))))))))))))))))))
    obtain ⟨A16, c17, rfl⟩ := Kd.row_sh r20
    refine cs_ (v := .bool (decide (aNotes = aNotes))) (by kernel_rfl) rfl rfl rfl (fun w_ hs_ => bor (Kd.Seals.row kNoteO_seal _) (hs_.at 1 rfl) fun _ lb0_ => bor (Kd.Seals.row kNoteO_seal _) (hs_.at 0 rfl) fun _ lb1_ => laws_eqNoteS w_ lb0_ lb1_) (vl (nt rfl rfl) rfl (en (nx (cf rfl (not_f (decide_eq_true rfl)) (sk (nx (sq (rg (a_ rfl rfl (en (nx (rt (ret1 rfl rfl (fun w_ hs_ => ⟨?_, hs_.below⟩))))))))))))))
    rfl
end Go.Proofs.YtkdiaknbndmajaaGreat.Sx
