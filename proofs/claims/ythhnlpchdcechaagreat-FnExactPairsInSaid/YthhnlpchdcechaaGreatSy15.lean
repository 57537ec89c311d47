/- What functions of the program answer, each at every input that its row names; walked through their code. -/
import Derived.Test.YthhnlpchdcechaaGreatSy14
namespace Go.Proofs.YthhnlpchdcechaaGreat.Sx
open Go Go.RowKit Go.Proofs
set_option linter.unusedVariables false
set_option linter.unusedSimpArgs false
def tab15 : Tab := { size := [(82, 8, true), (85, 2, true), (88, 8, true)], off := [], elem := [] }
theorem tab_ok15 : tab15.check Tryz.prog = true := by kernel_rfl
noncomputable abbrev X15 (N : Nat) (w : World) : Cx := ⟨Tryz.prog, tab15, tab_ok15, wide, N, w, none, []⟩

/-! laws.FnExactPairsIn -/
set_option maxRecDepth 20000 in
set_option maxHeartbeats 4000000 in
theorem laws_FnExactPairsIn (w : World) {AaT2 : Option Addr} {caT2 : Nat} {AaT3 : Option Addr} {caT3 : Nat} {AaT4 : Option Addr} {caT4 : Nat} {aT : Tree} {saT_ : List Nat} (haT : kTreeS.Rel w [.int .i64 aT.style, .int .i64 aT.arena.dims, .slice AaT2 aT.arena.nodes.length caT2, .slice AaT3 aT.arena.free.length caT3, .slice AaT4 aT.arena.retired.length caT4, .int .i64 aT.root, .int .i64 aT.rootNsn, .int .i64 aT.counter] aT [] saT_)  : Calls Tryz.prog 6 #[.agg #[.int .i64 aT.style, .int .i64 aT.arena.dims, .slice AaT2 aT.arena.nodes.length caT2, .slice AaT3 aT.arena.free.length caT3, .slice AaT4 aT.arena.retired.length caT4, .int .i64 aT.root, .int .i64 aT.rootNsn, .int .i64 aT.counter]] w (fun e_ w2_ => e_ = .returned (.bool true) ∧ Below w.heap.size w w2_) := by
  have n0 := szTree_nn aT; have nr := pairsRes_cnt aT; have ntr := cntTree_sz aT
  refine fnc (X := X15 69 w) (args := [.agg #[.int .i64 aT.style, .int .i64 aT.arena.dims, .slice AaT2 aT.arena.nodes.length caT2, .slice AaT3 aT.arena.free.length caT3, .slice AaT4 aT.arena.retired.length caT4, .int .i64 aT.root, .int .i64 aT.rootNsn, .int .i64 aT.counter]]) (l := [(0, .agg #[.int .i64 aT.style, .int .i64 aT.arena.dims, .slice AaT2 aT.arena.nodes.length caT2, .slice AaT3 aT.arena.free.length caT3, .slice AaT4 aT.arena.retired.length caT4, .int .i64 aT.root, .int .i64 aT.rootNsn, .int .i64 aT.counter])]) (G := [dat kTreeS [.int .i64 aT.style, .int .i64 aT.arena.dims, .slice AaT2 aT.arena.nodes.length caT2, .slice AaT3 aT.arena.free.length caT3, .slice AaT4 aT.arena.retired.length caT4, .int .i64 aT.root, .int .i64 aT.rootNsn, .int .i64 aT.counter] aT ([]) saT_]) Tryz.func6 rfl rfl rfl ⟨rfl, trivial⟩ (s0d haT (s0n w)).1 ?_
  refine sq (rg (bx rfl rfl rfl rfl ?_))
  intro b1
  refine a_ rfl rfl (en (nx (sq (rg (a_ rfl rfl (en (nx (sq (rg (vl (ldb 0 rfl rfl rfl rfl rfl rfl rfl) rfl (m_ rfl rfl (cs_ (v := .int .i64 (szTake (szTree aT) 1048576)) (by kernel_rfl) rfl rfl rfl (fun w_ hs_ => laws_szTree w_ _ (hs_.at 1 rfl) (by omega) (by omega)) (a_ rfl rfl (en (nx (sq (sq (rg (m_ rfl rfl (vl (cm rfl rfl rfl rfl) rfl (en (nx ?_))))))))))))))))))))))
  by_cases h2 : (szTake (szTree aT) 1048576) < (0 : Int)
  · have eh2 := szTake_t h2
    refine ct rfl (decide_eq_true h2) (sq (rg (a_ rfl rfl (en (nx (rt (xr (ret1 rfl rfl (fun w_ hs_ => ⟨?_, hs_.below⟩)))))))))
    rfl
  · have eh2 := szTake_f h2
    refine cf rfl (decide_eq_false h2) (sk (nx (sq (rg (vl (ldb 0 rfl rfl rfl rfl rfl rfl rfl) rfl (cm_ (dk := kTreeO) (x := aT) (S := []) (by kernel_rfl) rfl rfl rfl sn0 (fun w_ hs_ => laws_toTree w_ (hs_.at 1 rfl) (by omega)) (fun cs_ o9 s10 w_ r11 t12 => ?_)))))))
    obtain ⟨A3, c4, A5, c6, A7, c8, rfl⟩ := kTreeO_sh r11
    refine cm_ (dk := kPairsResultO) (x := (pairsRes aT)) (S := []) (by kernel_rfl) rfl rfl rfl sn0 (fun w_ hs_ => bor kTreeO_seal (hs_.at 0 rfl) fun _ lb0_ => spec_PairsIn w_ lb0_) (fun cs_ o16 s17 w_ r18 t19 => ?_)
    obtain ⟨A14, c15, rfl⟩ := kPairsResultO_sh r18
    refine al zero85 rfl rfl rfl ?_
    intro b21
    refine sto rfl rfl rfl rfl rfl rfl rfl (cs' := [.int .i64 ((pairsRes aT).code), .slice A14 (((pairsRes aT).pairs).length) c15]) rfl (en (nx (sq (rg (vl (ldb 3 rfl rfl rfl rfl rfl rfl rfl) rfl (cm_ (dk := kTreeO) (x := aT) (S := []) (by kernel_rfl) rfl rfl rfl sn0 (fun w_ hs_ => laws_toTree w_ (hs_.at 4 rfl) (by omega)) (fun cs_ o28 s29 w_ r30 t31 => ?_)))))))
    obtain ⟨A22, c23, A24, c25, A26, c27, rfl⟩ := kTreeO_sh r30
    refine al zero88 rfl rfl rfl ?_
    intro b33
    refine sto rfl rfl rfl rfl rfl rfl rfl (cs' := [.int .i64 aT.style, .int .i64 aT.arena.dims, .slice A22 aT.arena.nodes.length c23, .slice A24 aT.arena.free.length c25, .slice A26 aT.arena.retired.length c27, .int .i64 aT.root, .int .i64 aT.rootNsn, .int .i64 aT.counter]) rfl (en (nx (sq (rg (vl (ldb 0 rfl rfl rfl rfl rfl rfl rfl) rfl (cm_ (dk := kPairsResultO) (x := (pairsRes aT)) (S := []) (by kernel_rfl) rfl rfl rfl sn0 (fun w_ hs_ => bor kTreeO_seal (hs_.at 1 rfl) fun _ lb0_ => impl_PairsIn w_ lb0_) (fun cs_ o36 s37 w_ r38 t39 => ?_)))))))
    obtain ⟨A34, c35, rfl⟩ := kPairsResultO_sh r38
    refine al zero85 rfl rfl rfl ?_
    intro b41
    refine sto rfl rfl rfl rfl rfl rfl rfl (cs' := [.int .i64 ((pairsRes aT).code), .slice A34 (((pairsRes aT).pairs).length) c35]) rfl (en (nx (sq (sq (rg (vl (ldb 0 rfl rfl rfl rfl rfl rfl rfl) rfl (vl (ldb 4 rfl rfl rfl rfl rfl rfl rfl) rfl (cs_ (v := .bool (decide ((pairsRes aT) = (pairsRes aT)))) (by kernel_rfl) rfl rfl rfl (fun w_ hs_ => bor kPairsResultO_seal (hs_.at 1 rfl) fun _ lb0_ => bor kPairsResultO_seal (hs_.at 5 rfl) fun _ lb1_ => laws_eqPairsResult w_ lb0_ lb1_) (vl (nt rfl rfl) rfl (en (nx (cf rfl (not_f (decide_eq_true rfl)) (sk (nx (sq (sq ?_))))))))))))))))
    refine r0 (qv 0 rfl (ldb 2 rfl rfl rfl rfl rfl rfl rfl) rfl (by kernel_rfl) (qv 1 rfl (ldb 7 rfl rfl rfl rfl rfl rfl rfl) rfl (by kernel_rfl) (q1 2 [0, 0, 0, 0, 0, 0, 0, 0, 0] rfl (by kernel_rfl) rfl (cm_ (dk := kTreeO) (x := aT) (S := []) (by kernel_rfl) rfl rfl rfl sn0 (fun w_ hs_ => by exact laws_toTree w_ (hs_.at 8 rfl) (by omega)) (fun cs_ o54 s55 w_ r56 t57 => ?_)))))
    obtain ⟨A48, c49, A50, c51, A52, c53, rfl⟩ := kTreeO_sh r56
    refine qn (q1 3 [1, 1, 1, 1, 1, 1, 1, 1, 1] rfl (by kernel_rfl) rfl (cs_ (v := .bool (decide (aT = aT))) (by kernel_rfl) rfl rfl rfl (fun w_ hs_ => by exact bor kTreeO_seal (hs_.at 4 rfl) fun _ lb0_ => bor kTreeO_seal (hs_.at 0 rfl) fun _ lb1_ => laws_eqTree w_ lb0_ lb1_) (qn (qv 4 rfl (nt rfl rfl) rfl (by kernel_rfl) (qe [1, 1, 1, 1, 1, 1, 1, 1, 1] (by kernel_rfl) rfl (nx (cf rfl (not_f (decide_eq_true rfl)) (sk (nx (sq (rg (a_ rfl rfl (en (nx (sq (rg (vl (ldb 3 rfl rfl rfl rfl rfl rfl rfl) rfl (m_ rfl rfl (f4 (cto (dk := kTreeO) (cs := [.int .i64 aT.style, .int .i64 aT.arena.dims, .slice A22 aT.arena.nodes.length c23, .slice A24 aT.arena.free.length c25, .slice A26 aT.arena.retired.length c27, .int .i64 aT.root, .int .i64 aT.rootNsn, .int .i64 aT.counter]) (x := (mkV_Tree 1 aT)) (v := .int .i64 (1 + (aT.arena.nodes.map cntE_Node).sum + (aT.arena.free.length : Int) + (aT.arena.retired.map cntE_Retired).sum)) (S := (s29)) (by kernel_rfl) rfl rfl rfl (snt 0 rfl) _ (fun _ hs_ => hs_.below.size) (fun w_ hs_ => laws_markTree w_ _ ((hs_.pk [0] rfl).nl) (by omega) (by omega)) (fun o59 s60 t61 => ?_)))))))))))))))))))))
    refine a_ rfl rfl (en (nx (sq (sq (rg (m_ rfl rfl (vl (cm rfl rfl rfl rfl) rfl (m_ rfl rfl ?_))))))))
    by_cases h62 : (1 + (aT.arena.nodes.map cntE_Node).sum + (aT.arena.free.length : Int) + (aT.arena.retired.map cntE_Retired).sum) < (0 : Int)
    · exfalso; omega
    · refine vg (ldb 2 rfl rfl rfl rfl rfl rfl rfl) rfl rfl (decide_eq_false h62) (vg (ldb 5 rfl rfl rfl rfl rfl rfl rfl) rfl rfl (decide_eq_false h62) (gw rfl rfl (decide_eq_false h62) (cs_ (v := .bool (decide ((pairsRes aT) = (pairsRes aT)))) (by kernel_rfl) rfl rfl rfl (fun w_ hs_ => bor kPairsResultO_seal (hs_.at 3 rfl) fun _ lb0_ => bor kPairsResultO_seal (hs_.at 6 rfl) fun _ lb1_ => laws_eqPairsResult w_ lb0_ lb1_) (vg (nt rfl rfl) rfl rfl (decide_eq_false h62) (vl (pk (b := false) rfl rfl (decide_eq_false h62) rfl) rfl (en (nx (cf rfl (not_f (decide_eq_true rfl)) (sk (nx (sq (rg (a_ rfl rfl (en (nx (sq (rg (vl (ldb 2 rfl rfl rfl rfl rfl rfl rfl) rfl (m_ rfl rfl (f3 (cto (dk := kPairsResultO) (cs := [.int .i64 ((pairsRes aT).code), .slice A34 (((pairsRes aT).pairs).length) c35]) (x := (mkV_PairsResult 1 (pairsRes aT))) (v := .int .i64 (1 + ((pairsRes aT).pairs.map cntE_Pair).sum)) (S := (s37)) (by kernel_rfl) rfl rfl rfl (snt 0 rfl) _ (fun _ hs_ => hs_.below.size) (fun w_ hs_ => laws_markPairsResult w_ _ ((hs_.pk [0] rfl).nl) (by omega) (by omega)) (fun o63 s64 t65 => ?_))))))))))))))))))))))
      refine a_ rfl rfl (en (nx (sq (rg (a_ rfl rfl (en (nx (sq (rg (vl (ldb 3 rfl rfl rfl rfl rfl rfl rfl) rfl (m_ rfl rfl (cs_ (v := .int .i64 (1 + ((pairsRes aT).pairs.map cntE_Pair).sum)) (by kernel_rfl) rfl rfl rfl (fun w_ hs_ => bor kPairsResultO_seal (hs_.at 0 rfl) fun _ lb0_ => laws_heldPairsResult w_ _ lb0_ (by omega) (by omega)) (a_ rfl rfl (en (nx (sq (sq (rg (m_ rfl rfl (vl (cm rfl rfl rfl rfl) rfl (en (nx ?_))))))))))))))))))))))
      by_cases h66 : (1 + ((pairsRes aT).pairs.map cntE_Pair).sum) < (0 : Int)
      · exfalso; omega
      · refine cf rfl (decide_eq_false h66) (sk (nx (sq (sq (rg (m_ rfl rfl (m_ rfl rfl (vl (cm rfl rfl rfl rfl) rfl (en (nx (cf rfl (bne_eq_false_iff_eq.2 rfl) (sk (nx (sq (rg (vl (ldb 8 rfl rfl rfl rfl rfl rfl rfl) rfl (cm_ (dk := kTreeO) (x := aT) (S := []) (by kernel_rfl) rfl rfl rfl sn0 (fun w_ hs_ => laws_toTree w_ (hs_.at 9 rfl) (by omega)) (fun cs_ o73 s74 w_ r75 t76 => ?_))))))))))))))))))
        obtain ⟨A67, c68, A69, c70, A71, c72, rfl⟩ := kTreeO_sh r75
        refine cm_ (dk := kPairsResultO) (x := (pairsRes aT)) (S := []) (by kernel_rfl) rfl rfl rfl sn0 (fun w_ hs_ => bor kTreeO_seal (hs_.at 0 rfl) fun _ lb0_ => impl_PairsIn w_ lb0_) (fun cs_ o80 s81 w_ r82 t83 => ?_)
        obtain ⟨A78, c79, rfl⟩ := kPairsResultO_sh r82
        refine al zero85 rfl rfl rfl ?_
        intro b85
        refine sto rfl rfl rfl rfl rfl rfl rfl (cs' := [.int .i64 ((pairsRes aT).code), .slice A78 (((pairsRes aT).pairs).length) c79]) rfl (en (nx (sq (sq (rg (vl (ldb 0 rfl rfl rfl rfl rfl rfl rfl) rfl (vl (ldb 8 rfl rfl rfl rfl rfl rfl rfl) rfl (cs_ (v := .bool (decide ((pairsRes aT) = (pairsRes aT)))) (by kernel_rfl) rfl rfl rfl (fun w_ hs_ => bor kPairsResultO_seal (hs_.at 1 rfl) fun _ lb0_ => bor kPairsResultO_seal (hs_.at 9 rfl) fun _ lb1_ => laws_eqPairsResult w_ lb0_ lb1_) (vl (nt rfl rfl) rfl (en (nx (cf rfl (not_f (decide_eq_true rfl)) (sk (nx (sq (rg (a_ rfl rfl (en (nx (sq (rg (vl (ldb 6 rfl rfl rfl rfl rfl rfl rfl) rfl (m_ rfl rfl (cs_ (v := .int .i64 (1 + ((pairsRes aT).pairs.map cntE_Pair).sum)) (by kernel_rfl) rfl rfl rfl (fun w_ hs_ => bor kPairsResultO_seal (hs_.at 3 rfl) fun _ lb0_ => laws_heldPairsResult w_ _ lb0_ (by omega) (by omega)) (a_ rfl rfl (en (nx (sq (sq (rg (m_ rfl rfl (vl (cm rfl rfl rfl rfl) rfl (en (nx (cf rfl (decide_eq_false h66) (sk (nx (sq (sq (rg (m_ rfl rfl (m_ rfl rfl (vl (cm rfl rfl rfl rfl) rfl (en (nx (cf rfl (bne_eq_false_iff_eq.2 rfl) (sk (nx (sq (rg (a_ rfl rfl (en (nx (rt (ret1 rfl rfl (fun w_ hs_ => ⟨?_, hs_.below⟩))))))))))))))))))))))))))))))))))))))))))))))))))))))))
        rfl
end Go.Proofs.YthhnlpchdcechaaGreat.Sx
