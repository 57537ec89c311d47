/- What functions of the program answer, each at every input that its row names; walked through their code. -/
import Derived.Test.YtkilionclpeonaaSy10
namespace Go.Proofs.Ytkilionclpeonaa.Sx
open Go Go.RowKit Go.Proofs
set_option linter.unusedVariables false
set_option linter.unusedSimpArgs false
def tab11 : Tab := { size := [(32, 2, true), (48, 7, true), (53, 7, true)], off := [], elem := [] }
theorem tab_ok11 : tab11.check Try.prog = true := by kernel_rfl
noncomputable abbrev X11 (N : Nat) (w : World) : Cx := ⟨Try.prog, tab11, tab_ok11, wide, N, w, none, []⟩

theorem tell_mem {l : Look} {x : Pair} (h : x ∈ tellL l) : x ∈ l.found := by
  unfold tellL at h
  split at h
  · exact near_mem (List.mem_of_mem_take h)
  · exact h
theorem tell_len (l : Look) : (tellL l).length ≤ l.found.length := by
  unfold tellL
  split
  · rw [List.length_take, nearList_len]; exact Nat.min_le_right _ _
  · exact Nat.le_refl _
theorem tellRes_cnt (l : Look) (d : Int) : 0 ≤ ((tellRes l d).pairs.map cntE_Pair).sum ∧ ((tellRes l d).pairs.map cntE_Pair).sum ≤ 10000 := by
  refine ⟨sum_nn cntE_Pair_nn _, ?_⟩
  unfold tellRes
  split
  · rename_i h
    have mm := look_0 h
    have h3 := sum_le (f := cntE_Pair) (c := 7) (l := tellL l) (fun x hx => by have := mm.2.2.2.1 x (tell_mem hx); unfold szPair szRect at this; unfold cntE_Pair; omega)
    have h4 := tell_len l
    have h5 := mm.2.1
    show ((tellL l).map cntE_Pair).sum ≤ 10000
    omega
  · simp
/-! laws.FnExactAnswerIn -/
set_option maxRecDepth 20000 in
set_option maxHeartbeats 2000000 in
theorem laws_FnExactAnswerIn (w : World) (aDims : Int) {AaL1 : Option Addr} {caL1 : Nat} {AaL2 : Option Addr} {caL2 : Nat} {AaL3 : Option Addr} {caL3 : Nat} {AaL5 : Option Addr} {caL5 : Nat} {AaL6 : Option Addr} {caL6 : Nat} {aL : Look} {saL_ : List Nat} (haL : kLookS.Rel w [.int .i64 aL.query.kind, .slice AaL1 aL.query.rect.low.length caL1, .slice AaL2 aL.query.rect.high.length caL2, .slice AaL3 aL.query.point.length caL3, .int .i64 aL.query.k, .slice AaL5 aL.front.length caL5, .slice AaL6 aL.found.length caL6] aL [] saL_)  : Calls Try.prog 4 #[.agg #[.int .i64 aL.query.kind, .slice AaL1 aL.query.rect.low.length caL1, .slice AaL2 aL.query.rect.high.length caL2, .slice AaL3 aL.query.point.length caL3, .int .i64 aL.query.k, .slice AaL5 aL.front.length caL5, .slice AaL6 aL.found.length caL6], .int .i64 aDims] w (fun e_ w2_ => e_ = .returned (.bool true) ∧ Below w.heap.size w w2_) := by
  have n0 := szLook_nn aL; have nr := tellRes_cnt aL aDims; have nn := cnt_list cntE_Pair_sz aL.found; have nz := sum_nn cntE_Pair_nn aL.found; have nm := sum_nn cntE_Mark_nn aL.front; have nf := szList_nn szPair_nn aL.found; have nq := szRect_nn aL.query.rect; have nq0 := szQuery_nn aL.query; have nl : szLook aL = szQuery aL.query + (aL.front.length : Int) + szList szPair aL.found := rfl; have nq1 : szQuery aL.query = szRect aL.query.rect + (aL.query.point.length : Int) := rfl; have nq2 : szRect aL.query.rect = (aL.query.rect.low.length : Int) + (aL.query.rect.high.length : Int) := rfl; have nmc := sum_le (f := cntE_Mark) (c := 3) (l := aL.front) (fun x _ => by unfold cntE_Mark; omega)
  refine fnc (X := X11 74 w) (args := [.agg #[.int .i64 aL.query.kind, .slice AaL1 aL.query.rect.low.length caL1, .slice AaL2 aL.query.rect.high.length caL2, .slice AaL3 aL.query.point.length caL3, .int .i64 aL.query.k, .slice AaL5 aL.front.length caL5, .slice AaL6 aL.found.length caL6], .int .i64 aDims]) (l := [(0, .agg #[.int .i64 aL.query.kind, .slice AaL1 aL.query.rect.low.length caL1, .slice AaL2 aL.query.rect.high.length caL2, .slice AaL3 aL.query.point.length caL3, .int .i64 aL.query.k, .slice AaL5 aL.front.length caL5, .slice AaL6 aL.found.length caL6]), (1, .int .i64 aDims)]) (G := [dat kLookS [.int .i64 aL.query.kind, .slice AaL1 aL.query.rect.low.length caL1, .slice AaL2 aL.query.rect.high.length caL2, .slice AaL3 aL.query.point.length caL3, .int .i64 aL.query.k, .slice AaL5 aL.front.length caL5, .slice AaL6 aL.found.length caL6] aL ([]) saL_]) Try.func4 rfl rfl rfl ⟨rfl, rfl, trivial⟩ (s0d haL (s0n w)).1 ?_
  refine sq (rg (bx rfl rfl rfl rfl ?_))
  intro b1
  refine a_ rfl rfl (en (nx (sq (rg (a_ rfl rfl (en (nx (sq (rg (vl (ldb 0 rfl rfl rfl rfl rfl rfl rfl) rfl (m_ rfl rfl (cs_ (v := .int .i64 (szTake (szLook aL) 1048576)) (by kernel_rfl) rfl rfl rfl (fun w_ hs_ => laws_szLook w_ _ (hs_.at 1 rfl) (by omega) (by omega)) (a_ rfl rfl (en (nx (sq (sq (rg (m_ rfl rfl (vl (cm rfl rfl rfl rfl) rfl (en (nx ?_))))))))))))))))))))))
  by_cases h2 : (szTake (szLook aL) 1048576) < (0 : Int)
  · have eh2 := szTake_t h2
    refine ct rfl (decide_eq_true h2) (sq (rg (a_ rfl rfl (en (nx (rt (xr (ret1 rfl rfl (fun w_ hs_ => ⟨?_, hs_.below⟩)))))))))
    rfl
  · have eh2 := szTake_f h2
    refine cf rfl (decide_eq_false h2) (sk (nx (sq (rg (vl (ldb 0 rfl rfl rfl rfl rfl rfl rfl) rfl (cm_ (dk := kLookO) (x := aL) (S := []) (by kernel_rfl) rfl rfl rfl sn0 (fun w_ hs_ => laws_toLook w_ (hs_.at 1 rfl) (by omega)) (fun cs_ o13 s14 w_ r15 t16 => ?_)))))))
    obtain ⟨A3, c4, A5, c6, A7, c8, A9, c10, A11, c12, rfl⟩ := kLookO_sh r15
    refine m_ rfl rfl (cm_ (dk := kPairsResultS) (x := (tellRes aL aDims)) (S := []) (by kernel_rfl) rfl rfl rfl sn0 (fun w_ hs_ => bor kLookO_seal (hs_.at 0 rfl) fun _ lb0_ => spec_AnswerIn w_ _ lb0_) (fun cs_ o20 s21 w_ r22 t23 => ?_))
    obtain ⟨A18, c19, rfl⟩ := kPairsResultS_sh r22
    obtain rfl : o20 = [] := kPairsResultS_pure _ _ _ _ _ r22
    refine al zero32 rfl rfl rfl ?_
    intro b25
    refine sto rfl rfl rfl rfl rfl rfl rfl (cs' := [.int .i64 ((tellRes aL aDims).code), .slice A18 ((tellRes aL aDims).pairs.length) c19]) rfl (en (nx (sq (rg (vl (ldb 3 rfl rfl rfl rfl rfl rfl rfl) rfl (cm_ (dk := kLookO) (x := aL) (S := []) (by kernel_rfl) rfl rfl rfl sn0 (fun w_ hs_ => laws_toLook w_ (hs_.at 4 rfl) (by omega)) (fun cs_ o36 s37 w_ r38 t39 => ?_)))))))
    obtain ⟨A26, c27, A28, c29, A30, c31, A32, c33, A34, c35, rfl⟩ := kLookO_sh r38
    refine al zero53 rfl rfl rfl ?_
    intro b41
    refine sto rfl rfl rfl rfl rfl rfl rfl (cs' := [.int .i64 aL.query.kind, .slice A26 aL.query.rect.low.length c27, .slice A28 aL.query.rect.high.length c29, .slice A30 aL.query.point.length c31, .int .i64 aL.query.k, .slice A32 aL.front.length c33, .slice A34 aL.found.length c35]) rfl (en (nx (sq (rg (vl (ldb 0 rfl rfl rfl rfl rfl rfl rfl) rfl (m_ rfl rfl (cm_ (dk := kPairsResultO) (x := (tellRes aL aDims)) (S := []) (by kernel_rfl) rfl rfl rfl sn0 (fun w_ hs_ => bor kLookO_seal (hs_.at 1 rfl) fun _ lb0_ => impl_AnswerIn w_ _ lb0_) (fun cs_ o44 s45 w_ r46 t47 => ?_))))))))
    obtain ⟨A42, c43, rfl⟩ := kPairsResultO_sh r46
    refine al zero32 rfl rfl rfl ?_
    intro b49
    refine sto rfl rfl rfl rfl rfl rfl rfl (cs' := [.int .i64 ((tellRes aL aDims).code), .slice A42 ((tellRes aL aDims).pairs.length) c43]) rfl (en (nx (sq (sq (rg (vl (ldb 0 rfl rfl rfl rfl rfl rfl rfl) rfl (vl (ldb 4 rfl rfl rfl rfl rfl rfl rfl) rfl (cs_ (v := .bool (decide ((tellRes aL aDims) = (tellRes aL aDims)))) (by kernel_rfl) rfl rfl rfl (fun w_ hs_ => bor kPairsResultO_seal (hs_.at 1 rfl) fun _ lb0_ => laws_eqPairsResult w_ lb0_ (hs_.at 5 rfl)) (vl (nt rfl rfl) rfl (en (nx (cf rfl (not_f (decide_eq_true rfl)) (sk (nx (sq (sq ?_))))))))))))))))
    refine r0 (qv 0 rfl (ldb 2 rfl rfl rfl rfl rfl rfl rfl) rfl (by kernel_rfl) (qv 1 rfl (ldb 7 rfl rfl rfl rfl rfl rfl rfl) rfl (by kernel_rfl) (q1 2 [0, 0, 0, 0, 0, 0, 0, 0, 0] rfl (by kernel_rfl) rfl (cm_ (dk := kLookO) (x := aL) (S := []) (by kernel_rfl) rfl rfl rfl sn0 (fun w_ hs_ => by exact laws_toLook w_ (hs_.at 8 rfl) (by omega)) (fun cs_ o70 s71 w_ r72 t73 => ?_)))))
    obtain ⟨A60, c61, A62, c63, A64, c65, A66, c67, A68, c69, rfl⟩ := kLookO_sh r72
    refine qn (q1 3 [1, 1, 1, 1, 1, 1, 1, 1, 1] rfl (by kernel_rfl) rfl (cs_ (v := .bool (decide (aL = aL))) (by kernel_rfl) rfl rfl rfl (fun w_ hs_ => by exact bor kLookO_seal (hs_.at 4 rfl) fun _ lb0_ => bor kLookO_seal (hs_.at 0 rfl) fun _ lb1_ => laws_eqLook w_ lb0_ lb1_) (qn (qv 4 rfl (nt rfl rfl) rfl (by kernel_rfl) (qe [1, 1, 1, 1, 1, 1, 1, 1, 1] (by kernel_rfl) rfl (nx (cf rfl (not_f (decide_eq_true rfl)) (sk (nx (sq (rg (a_ rfl rfl (en (nx (sq (rg (vl (ldb 3 rfl rfl rfl rfl rfl rfl rfl) rfl (m_ rfl rfl (f4 (cto (dk := kLookO) (cs := [.int .i64 aL.query.kind, .slice A26 aL.query.rect.low.length c27, .slice A28 aL.query.rect.high.length c29, .slice A30 aL.query.point.length c31, .int .i64 aL.query.k, .slice A32 aL.front.length c33, .slice A34 aL.found.length c35]) (x := (mkV_Look 1 aL)) (v := .int .i64 (1 + (aL.query.rect.low.length : Int) + (aL.query.rect.high.length : Int) + (aL.query.point.length : Int) + (aL.front.map cntE_Mark).sum + (aL.found.map cntE_Pair).sum)) (S := (s37)) (by kernel_rfl) rfl rfl rfl (snt 0 rfl) _ (fun _ hs_ => hs_.below.size) (fun w_ hs_ => laws_markLook w_ _ ((hs_.pk [0] rfl).nl) (by omega) (by omega)) (fun o75 s76 t77 => ?_)))))))))))))))))))))
    refine a_ rfl rfl (en (nx (sq (sq (rg (m_ rfl rfl (vl (cm rfl rfl rfl rfl) rfl (m_ rfl rfl ?_))))))))
    by_cases h78 : (1 + (aL.query.rect.low.length : Int) + (aL.query.rect.high.length : Int) + (aL.query.point.length : Int) + (aL.front.map cntE_Mark).sum + (aL.found.map cntE_Pair).sum) < (0 : Int)
    · exfalso; omega
    · refine vg (ldb 2 rfl rfl rfl rfl rfl rfl rfl) rfl rfl (decide_eq_false h78) (vg (ldb 5 rfl rfl rfl rfl rfl rfl rfl) rfl rfl (decide_eq_false h78) (gw rfl rfl (decide_eq_false h78) (cs_ (v := .bool (decide ((tellRes aL aDims) = (tellRes aL aDims)))) (by kernel_rfl) rfl rfl rfl (fun w_ hs_ => bor kPairsResultO_seal (hs_.at 3 rfl) fun _ lb0_ => laws_eqPairsResult w_ lb0_ (hs_.at 6 rfl)) (vg (nt rfl rfl) rfl rfl (decide_eq_false h78) (vl (pk (b := false) rfl rfl (decide_eq_false h78) rfl) rfl (en (nx (cf rfl (not_f (decide_eq_true rfl)) (sk (nx (sq (rg (a_ rfl rfl (en (nx (sq (rg (vl (ldb 2 rfl rfl rfl rfl rfl rfl rfl) rfl (m_ rfl rfl (f3 (cto (dk := kPairsResultO) (cs := [.int .i64 ((tellRes aL aDims).code), .slice A42 ((tellRes aL aDims).pairs.length) c43]) (x := (mkV_PairsResult 1 (tellRes aL aDims))) (v := .int .i64 (1 + ((tellRes aL aDims).pairs.map cntE_Pair).sum)) (S := (s45)) (by kernel_rfl) rfl rfl rfl (snt 0 rfl) _ (fun _ hs_ => hs_.below.size) (fun w_ hs_ => laws_markPairsResult w_ _ ((hs_.pk [0] rfl).nl) (by omega) (by omega)) (fun o79 s80 t81 => ?_))))))))))))))))))))))
      refine a_ rfl rfl (en (nx (sq (rg (a_ rfl rfl (en (nx (sq (rg (vl (ldb 3 rfl rfl rfl rfl rfl rfl rfl) rfl (m_ rfl rfl (cs_ (v := .int .i64 (1 + ((tellRes aL aDims).pairs.map cntE_Pair).sum)) (by kernel_rfl) rfl rfl rfl (fun w_ hs_ => bor kPairsResultO_seal (hs_.at 0 rfl) fun _ lb0_ => laws_heldPairsResult w_ _ lb0_ (by omega) (by omega)) (a_ rfl rfl (en (nx (sq (sq (rg (m_ rfl rfl (vl (cm rfl rfl rfl rfl) rfl (en (nx ?_))))))))))))))))))))))
      by_cases h82 : (1 + ((tellRes aL aDims).pairs.map cntE_Pair).sum) < (0 : Int)
      · exfalso; omega
      · refine cf rfl (decide_eq_false h82) (sk (nx (sq (sq (rg (m_ rfl rfl (m_ rfl rfl (vl (cm rfl rfl rfl rfl) rfl (en (nx (cf rfl (bne_eq_false_iff_eq.2 rfl) (sk (nx (sq (rg (vl (ldb 8 rfl rfl rfl rfl rfl rfl rfl) rfl (cm_ (dk := kLookO) (x := aL) (S := []) (by kernel_rfl) rfl rfl rfl sn0 (fun w_ hs_ => laws_toLook w_ (hs_.at 9 rfl) (by omega)) (fun cs_ o93 s94 w_ r95 t96 => ?_))))))))))))))))))
        obtain ⟨A83, c84, A85, c86, A87, c88, A89, c90, A91, c92, rfl⟩ := kLookO_sh r95
        refine m_ rfl rfl (cm_ (dk := kPairsResultO) (x := (tellRes aL aDims)) (S := []) (by kernel_rfl) rfl rfl rfl sn0 (fun w_ hs_ => bor kLookO_seal (hs_.at 0 rfl) fun _ lb0_ => impl_AnswerIn w_ _ lb0_) (fun cs_ o100 s101 w_ r102 t103 => ?_))
        obtain ⟨A98, c99, rfl⟩ := kPairsResultO_sh r102
        refine al zero32 rfl rfl rfl ?_
        intro b105
        refine sto rfl rfl rfl rfl rfl rfl rfl (cs' := [.int .i64 ((tellRes aL aDims).code), .slice A98 ((tellRes aL aDims).pairs.length) c99]) rfl (en (nx (sq (sq (rg (vl (ldb 0 rfl rfl rfl rfl rfl rfl rfl) rfl (vl (ldb 8 rfl rfl rfl rfl rfl rfl rfl) rfl (cs_ (v := .bool (decide ((tellRes aL aDims) = (tellRes aL aDims)))) (by kernel_rfl) rfl rfl rfl (fun w_ hs_ => bor kPairsResultO_seal (hs_.at 1 rfl) fun _ lb0_ => laws_eqPairsResult w_ lb0_ (hs_.at 9 rfl)) (vl (nt rfl rfl) rfl (en (nx (cf rfl (not_f (decide_eq_true rfl)) (sk (nx (sq (rg (a_ rfl rfl (en (nx (sq (rg (vl (ldb 6 rfl rfl rfl rfl rfl rfl rfl) rfl (m_ rfl rfl (cs_ (v := .int .i64 (1 + ((tellRes aL aDims).pairs.map cntE_Pair).sum)) (by kernel_rfl) rfl rfl rfl (fun w_ hs_ => bor kPairsResultO_seal (hs_.at 3 rfl) fun _ lb0_ => laws_heldPairsResult w_ _ lb0_ (by omega) (by omega)) (a_ rfl rfl (en (nx (sq (sq (rg (m_ rfl rfl (vl (cm rfl rfl rfl rfl) rfl (en (nx (cf rfl (decide_eq_false h82) (sk (nx (sq (sq (rg (m_ rfl rfl (m_ rfl rfl (vl (cm rfl rfl rfl rfl) rfl (en (nx (cf rfl (bne_eq_false_iff_eq.2 rfl) (sk (nx (sq (rg (a_ rfl rfl (en (nx (rt (ret1 rfl rfl (fun w_ hs_ => ⟨?_, hs_.below⟩))))))))))))))))))))))))))))))))))))))))))))))))))))))))
        rfl
end Go.Proofs.Ytkilionclpeonaa.Sx
