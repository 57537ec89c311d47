/- What functions of the program answer, each at every input that its row names; walked through their code. -/
import Derived.Test.YtfdhhhodfjbnjaaSy9
namespace Go.Proofs.Ytfdhhhodfjbnjaa.Sx
open Go Go.RowKit Go.Proofs
set_option linter.unusedVariables false
set_option linter.unusedSimpArgs false
def tab9 : Tab := { size := [(25, 3, true)], off := [], elem := [] }
theorem tab_ok9 : tab9.check Try.prog = true := by kernel_rfl
noncomputable abbrev X9 (N : Nat) (w : World) : Cx := ⟨Try.prog, tab9, tab_ok9, wide, N, w, none, []⟩

/-! laws.FnExactSpanOf -/
set_option maxRecDepth 20000 in
set_option maxHeartbeats 2000000 in
theorem laws_FnExactSpanOf (w : World) (aDims : Int) (aI : Int) {AaNotes : Option Addr} {caNotes : Nat} {aNotes : List Note} {saNotes_ : List Nat} (haNotes : (Kd.sl kNoteS).Rel w [.slice AaNotes aNotes.length caNotes] aNotes [] saNotes_)  : Calls Try.prog 3 #[.slice AaNotes aNotes.length caNotes, .int .i64 aDims, .int .i64 aI] w (fun e_ w2_ => e_ = .returned (.bool true) ∧ Below w.heap.size w w2_) := by
  have LaNotes := Kd.sl_len haNotes; have CaNotes := Kd.sl_cap haNotes
  have n0 := szList_nn szNote_nn aNotes
  refine fnc (X := X9 36 w) (args := [.slice AaNotes aNotes.length caNotes, .int .i64 aDims, .int .i64 aI]) (l := [(0, .slice AaNotes aNotes.length caNotes), (1, .int .i64 aDims), (2, .int .i64 aI)]) (G := [dat (Kd.sl kNoteS) [.slice AaNotes aNotes.length caNotes] aNotes ([]) saNotes_]) Try.func3 rfl rfl rfl ⟨rfl, rfl, rfl, trivial⟩ (s0d haNotes (s0n w)).1 ?_
  refine sq (rg (a_ rfl rfl (en (nx (sq (rg (a_ rfl rfl (en (nx (sq (rg (m_ rfl rfl (m_ rfl rfl (cs_ (v := .int .i64 (szTake (szList szNote aNotes) 1048576)) (by kernel_rfl) rfl rfl rfl (fun w_ hs_ => laws_szNoteS w_ _ (hs_.at 0 rfl) (by omega) (by omega)) (a_ rfl rfl (en (nx (sq (sq (rg (m_ rfl rfl (vl (cm rfl rfl rfl rfl) rfl (en (nx ?_))))))))))))))))))))))))
  by_cases h1 : (szTake (szList szNote aNotes) 1048576) < (0 : Int)
  · have eh1 := szTake_t h1
    refine ct rfl (decide_eq_true h1) (sq (rg (a_ rfl rfl (en (nx (rt (xr (ret1 rfl rfl (fun w_ hs_ => ⟨?_, hs_.below⟩)))))))))
    rfl
  · have eh1 := szTake_f h1
    refine cf rfl (decide_eq_false h1) (sk (nx (sq (rg (m_ rfl rfl (cm_ (dk := (Kd.row 62 kNoteO)) (x := aNotes) (S := []) (by kernel_rfl) rfl rfl rfl sn0 (fun w_ hs_ => laws_toNoteS w_ (hs_.at 0 rfl) (by omega)) (fun cs_ o4 s5 w_ r6 t7 => ?_)))))))
    obtain ⟨A2, c3, rfl⟩ := Kd.row_sh r6
    refine m_ rfl rfl (m_ rfl rfl (cm_ (dk := kSpanResultO) (x := (spanRes aNotes aDims aI)) (S := []) (by kernel_rfl) rfl rfl rfl sn0 (fun w_ hs_ => bor (Kd.Seals.row kNoteO_seal _) (hs_.at 0 rfl) fun _ lb0_ => spec_SpanOf w_ _ _ lb0_) (fun cs_ o9 s10 w_ r11 t12 => ?_)))
    obtain ⟨rfl⟩ := kSpanResultO_sh r11
    refine al zero25 rfl rfl rfl ?_
    intro b14
    refine sto rfl rfl rfl rfl rfl rfl rfl (cs' := [.int .i64 ((spanRes aNotes aDims aI).code), .int .i64 ((spanRes aNotes aDims aI).begin_), .int .i64 ((spanRes aNotes aDims aI).end_)]) rfl (en (nx (sq (rg (m_ rfl rfl (cm_ (dk := (Kd.row 62 kNoteO)) (x := aNotes) (S := []) (by kernel_rfl) rfl rfl rfl sn0 (fun w_ hs_ => laws_toNoteS w_ (hs_.at 3 rfl) (by omega)) (fun cs_ o17 s18 w_ r19 t20 => ?_)))))))
    obtain ⟨A15, c16, rfl⟩ := Kd.row_sh r19
    refine a_ rfl rfl (en (nx (sq (rg (m_ rfl rfl (m_ rfl rfl (m_ rfl rfl (cm_ (dk := kSpanResultO) (x := (spanRes aNotes aDims aI)) (S := []) (by kernel_rfl) rfl rfl rfl sn0 (fun w_ hs_ => bor (Kd.Seals.row kNoteO_seal _) (hs_.at 0 rfl) fun _ lb0_ => impl_SpanOf w_ _ _ lb0_) (fun cs_ o22 s23 w_ r24 t25 => ?_)))))))))
    obtain ⟨rfl⟩ := kSpanResultO_sh r24
    refine al zero25 rfl rfl rfl ?_
    intro b27
    refine sto rfl rfl rfl rfl rfl rfl rfl (cs' := [.int .i64 ((spanRes aNotes aDims aI).code), .int .i64 ((spanRes aNotes aDims aI).begin_), .int .i64 ((spanRes aNotes aDims aI).end_)]) rfl (en (nx (sq (sq (rg (vl (ldb 0 rfl rfl rfl rfl rfl rfl rfl) rfl (vl (ldb 3 rfl rfl rfl rfl rfl rfl rfl) rfl (cs_ (v := .bool (decide ((spanRes aNotes aDims aI) = (spanRes aNotes aDims aI)))) (by kernel_rfl) rfl rfl rfl (fun w_ hs_ => bor kSpanResultO_seal (hs_.at 1 rfl) fun _ lb0_ => bor kSpanResultO_seal (hs_.at 1 rfl) fun _ lb1_ => laws_eqSpanResult w_ lb0_ lb1_) (vl (nt rfl rfl) rfl (en (nx (cf rfl (not_f (decide_eq_true rfl)) (sk (nx (sq (sq (rg (m_ rfl rfl (m_ rfl rfl (cm_ (dk := (Kd.row 62 kNoteO)) (x := aNotes) (S := []) (by kernel_rfl) rfl rfl rfl sn0 (fun w_ hs_ => laws_toNoteS w_ (hs_.at 6 rfl) (by omega)) (fun cs_ o30 s31 w_ r32 t33 => ?_)))))))))))))))))))))
    obtain ⟨A28, c29, rfl⟩ := Kd.row_sh r32
    refine cs_ (v := .bool (decide (aNotes = aNotes))) (by kernel_rfl) rfl rfl rfl (fun w_ hs_ => bor (Kd.Seals.row kNoteO_seal _) (hs_.at 3 rfl) fun _ lb0_ => bor (Kd.Seals.row kNoteO_seal _) (hs_.at 0 rfl) fun _ lb1_ => laws_eqNoteS w_ lb0_ lb1_) (vl (nt rfl rfl) rfl (en (nx (cf rfl (not_f (decide_eq_true rfl)) (sk (nx (sq (rg (a_ rfl rfl (en (nx (rt (ret1 rfl rfl (fun w_ hs_ => ⟨?_, hs_.below⟩))))))))))))))
    rfl
end Go.Proofs.Ytfdhhhodfjbnjaa.Sx
