/- What functions of the program answer, each at every input that its row names; walked through their code. -/
import Derived.Test.YtkdiaknbndmajaaGreatSy15
namespace Go.Proofs.YtkdiaknbndmajaaGreat.Sx
open Go Go.RowKit Go.Proofs
set_option linter.unusedVariables false
set_option linter.unusedSimpArgs false
def tab15 : Tab := { size := [(26, 2, true)], off := [], elem := [] }
theorem tab_ok15 : tab15.check Tryz.prog = true := by kernel_rfl
noncomputable abbrev X15 (N : Nat) (w : World) : Cx := ⟨Tryz.prog, tab15, tab_ok15, wide, N, w, none, []⟩

/-! laws.FnExactStableIn -/
set_option maxRecDepth 20000 in
set_option maxHeartbeats 2000000 in
theorem laws_FnExactStableIn (w : World) (aDims : Int) (aLo : Int) (aHi : Int) {AaNotes : Option Addr} {caNotes : Nat} {aNotes : List Note} {saNotes_ : List Nat} (haNotes : (Kd.sl kNoteS).Rel w [.slice AaNotes aNotes.length caNotes] aNotes [] saNotes_)  : Calls Tryz.prog 3 #[.slice AaNotes aNotes.length caNotes, .int .i64 aDims, .int .i64 aLo, .int .i64 aHi] w (fun e_ w2_ => e_ = .returned (.bool true) ∧ Below w.heap.size w w2_) := by
  have LaNotes := Kd.sl_len haNotes; have CaNotes := Kd.sl_cap haNotes
  have n0 := szList_nn szNote_nn aNotes; have nr := stableRes_cnt aNotes aDims aLo aHi; have nn := cnt_list cntE_Note_sz aNotes; have nz := sum_nn cntE_Note_nn aNotes
  refine fnc (X := X15 84 w) (args := [.slice AaNotes aNotes.length caNotes, .int .i64 aDims, .int .i64 aLo, .int .i64 aHi]) (l := [(0, .slice AaNotes aNotes.length caNotes), (1, .int .i64 aDims), (2, .int .i64 aLo), (3, .int .i64 aHi)]) (G := [dat (Kd.sl kNoteS) [.slice AaNotes aNotes.length caNotes] aNotes ([]) saNotes_]) Tryz.func3 rfl rfl rfl ⟨rfl, rfl, rfl, rfl, trivial⟩ (s0d haNotes (s0n w)).1 ?_
  refine sq (rg (a_ rfl rfl (en (nx (sq (rg (a_ rfl rfl (en (nx (sq (rg (m_ rfl rfl (m_ rfl rfl (cs_ (v := .int .i64 (szTake (szList szNote aNotes) 1048576)) (by kernel_rfl) rfl rfl rfl (fun w_ hs_ => laws_szNoteS w_ _ (hs_.at 0 rfl) (by omega) (by omega)) (a_ rfl rfl (en (nx (sq (sq (rg (m_ rfl rfl (vl (cm rfl rfl rfl rfl) rfl (en (nx ?_))))))))))))))))))))))))
  by_cases h1 : (szTake (szList szNote aNotes) 1048576) < (0 : Int)
  · have eh1 := szTake_t h1
    refine ct rfl (decide_eq_true h1) (sq (rg (a_ rfl rfl (en (nx (rt (xr (ret1 rfl rfl (fun w_ hs_ => ⟨?_, hs_.below⟩)))))))))
    rfl
  · have eh1 := szTake_f h1
    refine cf rfl (decide_eq_false h1) (sk (nx (sq (rg (m_ rfl rfl (cm_ (dk := (Kd.row 67 kNoteO)) (x := aNotes) (S := []) (by kernel_rfl) rfl rfl rfl sn0 (fun w_ hs_ => laws_toNoteS w_ (hs_.at 0 rfl) (by omega)) (fun cs_ o4 s5 w_ r6 t7 => ?_)))))))
    obtain ⟨A2, c3, rfl⟩ := Kd.row_sh r6
    refine m_ rfl rfl (m_ rfl rfl (m_ rfl rfl (cm_ (dk := kPairsResultO) (x := (stableRes aNotes aDims aLo aHi)) (S := []) (by kernel_rfl) rfl rfl rfl sn0 (fun w_ hs_ => bor (Kd.Seals.row kNoteO_seal _) (hs_.at 0 rfl) fun _ lb0_ => spec_StableIn w_ _ _ _ lb0_) (fun cs_ o11 s12 w_ r13 t14 => ?_))))
    obtain ⟨A9, c10, rfl⟩ := kPairsResultO_sh r13
    refine al zero26 rfl rfl rfl ?_
    intro b16
    refine sto rfl rfl rfl rfl rfl rfl rfl (cs' := [.int .i64 ((stableRes aNotes aDims aLo aHi).code), .slice A9 ((stableRes aNotes aDims aLo aHi).pairs.length) c10]) rfl (en (nx (sq (rg (m_ rfl rfl (cm_ (dk := (Kd.row 67 kNoteO)) (x := aNotes) (S := []) (by kernel_rfl) rfl rfl rfl sn0 (fun w_ hs_ => laws_toNoteS w_ (hs_.at 3 rfl) (by omega)) (fun cs_ o19 s20 w_ r21 t22 => ?_)))))))
    obtain ⟨A17, c18, rfl⟩ := Kd.row_sh r21
    refine a_ rfl rfl (en (nx (sq (rg (m_ rfl rfl (m_ rfl rfl (m_ rfl rfl (m_ rfl rfl (cm_ (dk := kPairsResultO) (x := (stableRes aNotes aDims aLo aHi)) (S := []) (by kernel_rfl) rfl rfl rfl sn0 (fun w_ hs_ => bor (Kd.Seals.row kNoteO_seal _) (hs_.at 0 rfl) fun _ lb0_ => impl_StableIn w_ _ _ _ lb0_) (fun cs_ o26 s27 w_ r28 t29 => ?_))))))))))
    obtain ⟨A24, c25, rfl⟩ := kPairsResultO_sh r28
    refine al zero26 rfl rfl rfl ?_
    intro b31
    refine sto rfl rfl rfl rfl rfl rfl rfl (cs' := [.int .i64 ((stableRes aNotes aDims aLo aHi).code), .slice A24 ((stableRes aNotes aDims aLo aHi).pairs.length) c25]) rfl (en (nx (sq (sq (rg (vl (ldb 0 rfl rfl rfl rfl rfl rfl rfl) rfl (vl (ldb 3 rfl rfl rfl rfl rfl rfl rfl) rfl (cs_ (v := .bool (decide ((stableRes aNotes aDims aLo aHi) = (stableRes aNotes aDims aLo aHi)))) (by kernel_rfl) rfl rfl rfl (fun w_ hs_ => bor kPairsResultO_seal (hs_.at 1 rfl) fun _ lb0_ => bor kPairsResultO_seal (hs_.at 4 rfl) fun _ lb1_ => laws_eqPairsResult w_ lb0_ lb1_) (vl (nt rfl rfl) rfl (en (nx (cf rfl (not_f (decide_eq_true rfl)) (sk (nx (sq (sq (rg (m_ rfl rfl (m_ rfl rfl (cm_ (dk := (Kd.row 67 kNoteO)) (x := aNotes) (S := []) (by kernel_rfl) rfl rfl rfl sn0 (fun w_ hs_ => laws_toNoteS w_ (hs_.at 6 rfl) (by omega)) (fun cs_ o34 s35 w_ r36 t37 => ?_)))))))))))))))))))))
    obtain ⟨A32, c33, rfl⟩ := Kd.row_sh r36
    refine cs_ (v := .bool (decide (aNotes = aNotes))) (by kernel_rfl) rfl rfl rfl (fun w_ hs_ => bor (Kd.Seals.row kNoteO_seal _) (hs_.at 3 rfl) fun _ lb0_ => bor (Kd.Seals.row kNoteO_seal _) (hs_.at 0 rfl) fun _ lb1_ => laws_eqNoteS w_ lb0_ lb1_) (vl (nt rfl rfl) rfl (en (nx (cf rfl (not_f (decide_eq_true rfl)) (sk (nx (sq (rg (a_ rfl rfl (en (nx (sq (rg (m_ rfl rfl (m_ rfl rfl (f3 (cto (dk := (Kd.row 67 kNoteO)) (cs := [.slice A17 aNotes.length c18]) (x := (mkL mkE_Note cntE_Note 1 aNotes)) (v := .int .i64 (1 + (aNotes.map cntE_Note).sum)) (S := (s20)) (by kernel_rfl) rfl rfl rfl (snt 0 rfl) _ (fun _ hs_ => hs_.below.size) (fun w_ hs_ => laws_markNoteS w_ _ ((hs_.pk [0] rfl).nl) (by omega) (by omega)) (fun o39 s40 t41 => ?_))))))))))))))))))
    refine a_ rfl rfl (en (nx (sq (sq (rg (m_ rfl rfl (vl (cm rfl rfl rfl rfl) rfl (m_ rfl rfl ?_))))))))
    by_cases h42 : (1 + (aNotes.map cntE_Note).sum) < (0 : Int)
    · exfalso; omega
    · refine vg (ldb 2 rfl rfl rfl rfl rfl rfl rfl) rfl rfl (decide_eq_false h42) (vg (ldb 4 rfl rfl rfl rfl rfl rfl rfl) rfl rfl (decide_eq_false h42) (gw rfl rfl (decide_eq_false h42) (cs_ (v := .bool (decide ((stableRes aNotes aDims aLo aHi) = (stableRes aNotes aDims aLo aHi)))) (by kernel_rfl) rfl rfl rfl (fun w_ hs_ => bor kPairsResultO_seal (hs_.at 3 rfl) fun _ lb0_ => bor kPairsResultO_seal (hs_.at 5 rfl) fun _ lb1_ => laws_eqPairsResult w_ lb0_ lb1_) (vg (nt rfl rfl) rfl rfl (decide_eq_false h42) (vl (pk (b := false) rfl rfl (decide_eq_false h42) rfl) rfl (en (nx (cf rfl (not_f (decide_eq_true rfl)) (sk (nx (sq (rg (a_ rfl rfl (en (nx (sq (rg (vl (ldb 2 rfl rfl rfl rfl rfl rfl rfl) rfl (m_ rfl rfl (f3 (cto (dk := kPairsResultO) (cs := [.int .i64 ((stableRes aNotes aDims aLo aHi).code), .slice A24 ((stableRes aNotes aDims aLo aHi).pairs.length) c25]) (x := (mkV_PairsResult 1 (stableRes aNotes aDims aLo aHi))) (v := .int .i64 (1 + ((stableRes aNotes aDims aLo aHi).pairs.map cntE_Pair).sum)) (S := (s27)) (by kernel_rfl) rfl rfl rfl (snt 0 rfl) _ (fun _ hs_ => hs_.below.size) (fun w_ hs_ => laws_markPairsResult w_ _ ((hs_.pk [0] rfl).nl) (by omega) (by omega)) (fun o43 s44 t45 => ?_))))))))))))))))))))))
      refine a_ rfl rfl (en (nx (sq (rg (a_ rfl rfl (en (nx (sq (rg (vl (ldb 3 rfl rfl rfl rfl rfl rfl rfl) rfl (m_ rfl rfl (cs_ (v := .int .i64 (1 + ((stableRes aNotes aDims aLo aHi).pairs.map cntE_Pair).sum)) (by kernel_rfl) rfl rfl rfl (fun w_ hs_ => bor kPairsResultO_seal (hs_.at 0 rfl) fun _ lb0_ => laws_heldPairsResult w_ _ lb0_ (by omega) (by omega)) (a_ rfl rfl (en (nx (sq (sq (rg (m_ rfl rfl (vl (cm rfl rfl rfl rfl) rfl (en (nx ?_))))))))))))))))))))))
      by_cases h46 : (1 + ((stableRes aNotes aDims aLo aHi).pairs.map cntE_Pair).sum) < (0 : Int)
      · exfalso; omega
      · refine cf rfl (decide_eq_false h46) (sk (nx (sq (sq (rg (m_ rfl rfl (m_ rfl rfl (vl (cm rfl rfl rfl rfl) rfl (en (nx (cf rfl (bne_eq_false_iff_eq.2 rfl) (sk (nx (sq (rg (m_ rfl rfl (cm_ (dk := (Kd.row 67 kNoteO)) (x := aNotes) (S := []) (by kernel_rfl) rfl rfl rfl sn0 (fun w_ hs_ => laws_toNoteS w_ (hs_.at 7 rfl) (by omega)) (fun cs_ o49 s50 w_ r51 t52 => ?_))))))))))))))))))
        obtain ⟨A47, c48, rfl⟩ := Kd.row_sh r51
        refine m_ rfl rfl (m_ rfl rfl (m_ rfl rfl (cm_ (dk := kPairsResultO) (x := (stableRes aNotes aDims aLo aHi)) (S := []) (by kernel_rfl) rfl rfl rfl sn0 (fun w_ hs_ => bor (Kd.Seals.row kNoteO_seal _) (hs_.at 0 rfl) fun _ lb0_ => impl_StableIn w_ _ _ _ lb0_) (fun cs_ o56 s57 w_ r58 t59 => ?_))))
        obtain ⟨A54, c55, rfl⟩ := kPairsResultO_sh r58
        refine al zero26 rfl rfl rfl ?_
        intro b61
        refine sto rfl rfl rfl rfl rfl rfl rfl (cs' := [.int .i64 ((stableRes aNotes aDims aLo aHi).code), .slice A54 ((stableRes aNotes aDims aLo aHi).pairs.length) c55]) rfl (en (nx (sq (sq (rg (vl (ldb 0 rfl rfl rfl rfl rfl rfl rfl) rfl (vl (ldb 7 rfl rfl rfl rfl rfl rfl rfl) rfl (cs_ (v := .bool (decide ((stableRes aNotes aDims aLo aHi) = (stableRes aNotes aDims aLo aHi)))) (by kernel_rfl) rfl rfl rfl (fun w_ hs_ => bor kPairsResultO_seal (hs_.at 1 rfl) fun _ lb0_ => bor kPairsResultO_seal (hs_.at 8 rfl) fun _ lb1_ => laws_eqPairsResult w_ lb0_ lb1_) (vl (nt rfl rfl) rfl (en (nx (cf rfl (not_f (decide_eq_true rfl)) (sk (nx (sq (rg (a_ rfl rfl (en (nx (sq (rg (vl (ldb 6 rfl rfl rfl rfl rfl rfl rfl) rfl (m_ rfl rfl (cs_ (v := .int .i64 (1 + ((stableRes aNotes aDims aLo aHi).pairs.map cntE_Pair).sum)) (by kernel_rfl) rfl rfl rfl (fun w_ hs_ => bor kPairsResultO_seal (hs_.at 3 rfl) fun _ lb0_ => laws_heldPairsResult w_ _ lb0_ (by omega) (by omega)) (a_ rfl rfl (en (nx (sq (sq (rg (m_ rfl rfl (vl (cm rfl rfl rfl rfl) rfl (en (nx (cf rfl (decide_eq_false h46) (sk (nx (sq (sq (rg (m_ rfl rfl (m_ rfl rfl (vl (cm rfl rfl rfl rfl) rfl (en (nx (cf rfl (bne_eq_false_iff_eq.2 rfl) (sk (nx (sq (rg (a_ rfl rfl (en (nx (rt (ret1 rfl rfl (fun w_ hs_ => ⟨?_, hs_.below⟩))))))))))))))))))))))))))))))))))))))))))))))))))))))))
        rfl
end Go.Proofs.YtkdiaknbndmajaaGreat.Sx
