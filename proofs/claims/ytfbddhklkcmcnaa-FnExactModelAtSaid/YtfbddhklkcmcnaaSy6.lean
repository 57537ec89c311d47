/- What functions of the program answer, each at every input that its row names; walked through their code. -/
import Derived.Test.YtfbddhklkcmcnaaSy5
namespace Go.Proofs.Ytfbddhklkcmcnaa.Sx
open Go Go.RowKit Go.Proofs
set_option linter.unusedVariables false
set_option linter.unusedSimpArgs false
def tab5 : Tab := { size := [(39, 3, true), (44, 3, true)], off := [], elem := [] }
theorem tab_ok5 : tab5.check Try.prog = true := by kernel_rfl
noncomputable abbrev X5 (N : Nat) (w : World) : Cx := ⟨Try.prog, tab5, tab_ok5, wide, N, w⟩

/-! laws.FnExactWasIn -/
set_option maxRecDepth 20000 in
set_option maxHeartbeats 2000000 in
theorem laws_FnExactWasIn (w : World) (aDims : Int) (aFrom : Int) (aTo : Int) {AaNotes : Option Addr} {caNotes : Nat} {aNotes : List Note} {saNotes_ : List Nat} (haNotes : (Kd.sl kNoteS).Rel w [.slice AaNotes aNotes.length caNotes] aNotes [] saNotes_) {AaP1 : Option Addr} {caP1 : Nat} {AaP2 : Option Addr} {caP2 : Nat} {aP : Pair} {saP_ : List Nat} (haP : kPairS.Rel w [.int .i64 aP.id, .slice AaP1 aP.rect.low.length caP1, .slice AaP2 aP.rect.high.length caP2] aP [] saP_)  : Calls Try.prog 6 #[.slice AaNotes aNotes.length caNotes, .int .i64 aDims, .int .i64 aFrom, .int .i64 aTo, .agg #[.int .i64 aP.id, .slice AaP1 aP.rect.low.length caP1, .slice AaP2 aP.rect.high.length caP2]] w (fun e w' => e = .returned (.bool true) ∧ Below w.heap.size w w') := by
  have LaNotes := Kd.sl_len haNotes
  have n0 := szList_nn szNote_nn aNotes; have n1 := szPair_nn aP
  refine fnc (X := X5 57 w) (args := [.slice AaNotes aNotes.length caNotes, .int .i64 aDims, .int .i64 aFrom, .int .i64 aTo, .agg #[.int .i64 aP.id, .slice AaP1 aP.rect.low.length caP1, .slice AaP2 aP.rect.high.length caP2]]) (l := [(0, .slice AaNotes aNotes.length caNotes), (1, .int .i64 aDims), (2, .int .i64 aFrom), (3, .int .i64 aTo), (4, .agg #[.int .i64 aP.id, .slice AaP1 aP.rect.low.length caP1, .slice AaP2 aP.rect.high.length caP2])]) (G := [dat kPairS [.int .i64 aP.id, .slice AaP1 aP.rect.low.length caP1, .slice AaP2 aP.rect.high.length caP2] aP ([]) saP_, dat (Kd.sl kNoteS) [.slice AaNotes aNotes.length caNotes] aNotes ([]) saNotes_]) Try.func6 rfl rfl rfl ⟨rfl, rfl, rfl, rfl, rfl, trivial⟩ (s0d haP (s0d haNotes (s0n w))).1 ?_
  refine sq (rg (bx rfl rfl rfl rfl ?_))
  intro b1
  refine a_ rfl rfl (en (nx (sq (rg (a_ rfl rfl (en (nx (sq (rg (m_ rfl rfl (m_ rfl rfl (cs_ (v := .int .i64 (szTake (szList szNote aNotes) 1048576)) (by kernel_rfl) rfl rfl rfl (fun w_ hs_ => laws_szNoteS w_ _ (hs_.at 2 rfl) (by omega) (by omega)) (a_ rfl rfl (en (nx (sq (sq (rg (m_ rfl rfl (vl (cm rfl rfl rfl rfl) rfl (en (nx ?_))))))))))))))))))))))
  by_cases h2 : (szTake (szList szNote aNotes) 1048576) < (0 : Int)
  · have eh2 := szTake_t h2
    refine ct rfl (decide_eq_true h2) (sq (rg (a_ rfl rfl (en (nx (rt (xr (ret1 rfl rfl (fun w_ hs_ => ⟨?_, hs_.below⟩)))))))))
    rfl
  · have eh2 := szTake_f h2
    refine cf rfl (decide_eq_false h2) (sk (nx (sq (rg (vl (ldb 0 rfl rfl rfl rfl rfl rfl rfl) rfl (m_ rfl rfl (cs_ (v := .int .i64 (szTake (szPair aP) (szTake (szList szNote aNotes) 1048576))) (by kernel_rfl) rfl rfl rfl (fun w_ hs_ => laws_szPair w_ _ (hs_.at 1 rfl) (by omega) (by omega)) (a_ rfl rfl (en (nx (sq (sq (rg (m_ rfl rfl (vl (cm rfl rfl rfl rfl) rfl (en (nx ?_)))))))))))))))))
    by_cases h3 : (szTake (szPair aP) (szTake (szList szNote aNotes) 1048576)) < (0 : Int)
    · have eh3 := szTake_t h3
      refine ct rfl (decide_eq_true h3) (sq (rg (a_ rfl rfl (en (nx (rt (xr (ret1 rfl rfl (fun w_ hs_ => ⟨?_, hs_.below⟩)))))))))
      rfl
    · have eh3 := szTake_f h3
      refine cf rfl (decide_eq_false h3) (sk (nx (sq ?_)))
      refine r0 (qv 0 rfl (mv rfl rfl) rfl (by kernel_rfl) (qv 2 rfl (mv rfl rfl) rfl (by kernel_rfl) (qv 3 rfl (mv rfl rfl) rfl (by kernel_rfl) (qv 4 rfl (mv rfl rfl) rfl (by kernel_rfl) (qv 5 rfl (ldb 0 rfl rfl rfl rfl rfl rfl rfl) rfl (by kernel_rfl) (q1 1 [0, 0, 0] rfl (by kernel_rfl) rfl (cm_ (dk := (Kd.row 84 kNoteO)) (x := aNotes) (S := []) (by kernel_rfl) rfl rfl rfl sn0 (fun w_ hs_ => by exact laws_toNoteS w_ (hs_.at 2 rfl) (by omega)) (fun cs_ o12 s13 w_ r14 t15 => ?_))))))))
      obtain ⟨A10, c11, rfl⟩ := Kd.row_sh r14
      refine qn (q1 6 [1, 1, 1] rfl (by kernel_rfl) rfl (cm_ (dk := kPairO) (x := aP) (S := []) (by kernel_rfl) rfl rfl rfl sn0 (fun w_ hs_ => by exact laws_toPair w_ (hs_.at 2 rfl) (by omega)) (fun cs_ o21 s22 w_ r23 t24 => ?_)))
      obtain ⟨A17, c18, A19, c20, rfl⟩ := kPairO_sh r23
      refine qn (q1 7 [2, 2, 2] rfl (by kernel_rfl) rfl (cs_ (v := .bool (wasIn aNotes aDims aFrom aTo aP)) (by kernel_rfl) rfl rfl rfl (fun w_ hs_ => by exact bor (Kd.Seals.row kNoteO_seal _) (hs_.at 1 rfl) fun _ lb0_ => bor kPairO_seal (hs_.at 0 rfl) fun _ lb1_ => spec_WasIn w_ _ _ _ lb0_ lb1_) (qn (qv 8 rfl (as_ rfl rfl) rfl (by kernel_rfl) (qe [2, 2, 2] (by kernel_rfl) rfl (nx (sq (rg (m_ rfl rfl (cm_ (dk := (Kd.row 84 kNoteO)) (x := aNotes) (S := []) (by kernel_rfl) rfl rfl rfl sn0 (fun w_ hs_ => laws_toNoteS w_ (hs_.at 4 rfl) (by omega)) (fun cs_ o28 s29 w_ r30 t31 => ?_)))))))))))
      obtain ⟨A26, c27, rfl⟩ := Kd.row_sh r30
      refine a_ rfl rfl (en (nx (sq (rg (vl (ldb 3 rfl rfl rfl rfl rfl rfl rfl) rfl (cm_ (dk := kPairO) (x := aP) (S := []) (by kernel_rfl) rfl rfl rfl sn0 (fun w_ hs_ => laws_toPair w_ (hs_.at 4 rfl) (by omega)) (fun cs_ o37 s38 w_ r39 t40 => ?_)))))))
      obtain ⟨A33, c34, A35, c36, rfl⟩ := kPairO_sh r39
      refine al zero44 rfl rfl rfl ?_
      intro b42
      refine sto rfl rfl rfl rfl rfl rfl rfl (cs' := [.int .i64 aP.id, .slice A33 aP.rect.low.length c34, .slice A35 aP.rect.high.length c36]) rfl (en (nx (sq (rg (m_ rfl rfl (m_ rfl rfl (m_ rfl rfl (m_ rfl rfl (vl (ldb 0 rfl rfl rfl rfl rfl rfl rfl) rfl (cs_ (v := .bool (wasIn aNotes aDims aFrom aTo aP)) (by kernel_rfl) rfl rfl rfl (fun w_ hs_ => bor (Kd.Seals.row kNoteO_seal _) (hs_.at 2 rfl) fun _ lb0_ => bor kPairO_seal (hs_.at 1 rfl) fun _ lb1_ => impl_WasIn w_ _ _ _ lb0_ lb1_) (a_ rfl rfl (en (nx (sq (sq (rg (m_ rfl rfl (m_ rfl rfl (vl (cmbn rfl rfl rfl Try.underlying4) rfl (en (nx (cf rfl rfl (sk (nx (sq (sq (rg (m_ rfl rfl (m_ rfl rfl (cm_ (dk := (Kd.row 84 kNoteO)) (x := aNotes) (S := []) (by kernel_rfl) rfl rfl rfl sn0 (fun w_ hs_ => laws_toNoteS w_ (hs_.at 7 rfl) (by omega)) (fun cs_ o45 s46 w_ r47 t48 => ?_)))))))))))))))))))))))))))))))
      obtain ⟨A43, c44, rfl⟩ := Kd.row_sh r47
      refine cs_ (v := .bool (decide (aNotes = aNotes))) (by kernel_rfl) rfl rfl rfl (fun w_ hs_ => bor (Kd.Seals.row kNoteO_seal _) (hs_.at 3 rfl) fun _ lb0_ => bor (Kd.Seals.row kNoteO_seal _) (hs_.at 0 rfl) fun _ lb1_ => laws_eqNoteS w_ lb0_ lb1_) (vl (nt rfl rfl) rfl (en (nx (cf rfl (not_f (decide_eq_true rfl)) (sk (nx (sq (sq ?_))))))))
      refine r0 (qv 0 rfl (ldb 1 rfl rfl rfl rfl rfl rfl rfl) rfl (by kernel_rfl) (qv 1 rfl (ldb 6 rfl rfl rfl rfl rfl rfl rfl) rfl (by kernel_rfl) (q1 2 [0, 0, 0, 0, 0, 0, 0, 0, 0] rfl (by kernel_rfl) rfl (cm_ (dk := kPairO) (x := aP) (S := []) (by kernel_rfl) rfl rfl rfl sn0 (fun w_ hs_ => by exact laws_toPair w_ (hs_.at 7 rfl) (by omega)) (fun cs_ o58 s59 w_ r60 t61 => ?_)))))
      obtain ⟨A54, c55, A56, c57, rfl⟩ := kPairO_sh r60
      refine qn (q1 3 [1, 1, 1, 1, 1, 1, 1, 1, 1] rfl (by kernel_rfl) rfl (cs_ (v := .bool (decide (aP = aP))) (by kernel_rfl) rfl rfl rfl (fun w_ hs_ => by exact bor kPairO_seal (hs_.at 3 rfl) fun _ lb0_ => bor kPairO_seal (hs_.at 0 rfl) fun _ lb1_ => laws_eqPair w_ lb0_ lb1_) (qn (qv 4 rfl (nt rfl rfl) rfl (by kernel_rfl) (qe [1, 1, 1, 1, 1, 1, 1, 1, 1] (by kernel_rfl) rfl (nx (cf rfl (not_f (decide_eq_true rfl)) (sk (nx (sq (rg (a_ rfl rfl (en (nx (rt (ret1 rfl rfl (fun w_ hs_ => ⟨?_, hs_.below⟩)))))))))))))))))
      rfl
end Go.Proofs.Ytfbddhklkcmcnaa.Sx
