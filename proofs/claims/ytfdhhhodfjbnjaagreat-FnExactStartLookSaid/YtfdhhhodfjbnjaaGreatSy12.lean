/- What functions of the program answer, each at every input that its row names; walked through their code. -/
import Derived.Test.YtfdhhhodfjbnjaaGreatSy11
namespace Go.Proofs.YtfdhhhodfjbnjaaGreat.Sx
open Go Go.RowKit Go.Proofs
set_option linter.unusedVariables false
set_option linter.unusedSimpArgs false
def tab12 : Tab := { size := [(2, 1, false), (28, 8, true), (31, 2, true), (33, 1, false), (38, 8, true), (162, 4, true)], off := [((36, 1), 1), ((38, 1), 1), ((38, 2), 5), ((162, 0), 0)], elem := [(33, 162)] }
theorem tab_ok12 : tab12.check Tryz.prog = true := by kernel_rfl
noncomputable abbrev X12 (N : Nat) (w : World) : Cx := ⟨Tryz.prog, tab12, tab_ok12, wide, N, w, none, []⟩

def needOf (t : Tree) : IntResult := valued (treeFault t) ((nodeAt t.arena t.root).level + 2)
/-! spec.l6Need -/
set_option maxRecDepth 20000 in
set_option maxHeartbeats 2000000 in
theorem spec_l6Need (w : World) {At2 : Option Addr} {ct2 : Nat} {At3 : Option Addr} {ct3 : Nat} {At4 : Option Addr} {ct4 : Nat} {t : Tree} {st_ : List Nat} {pt : Addr} (ht : (ptr kTreeS pt [.int .i64 t.style, .int .i64 t.arena.dims, .slice At2 t.arena.nodes.length ct2, .slice At3 t.arena.free.length ct3, .slice At4 t.arena.retired.length ct4, .int .i64 t.root, .int .i64 t.rootNsn, .int .i64 t.counter] t st_).P w) (hS : Sound t.arena) (hp : isPlace t.arena t.root = true) : Calls Tryz.prog 46 #[.pointer (some pt)] w (fun e_ w2_ => e_ = .returned (.int .i64 ((nodeAt t.arena t.root).level + 2)) ∧ Below w.heap.size w w2_) := by
  have hq := within_t hp; have hnl := node_0 (hS.node _ (nodeAt_mem hp).1); have hll := leaf_len hS hp; have hwk := wk_at hp; have hsl := hS.len
  refine fnc (X := X12 16 w) (args := [.pointer (some pt)]) (l := [(0, .pointer (some pt))]) (G := [ptr kTreeS pt [.int .i64 t.style, .int .i64 t.arena.dims, .slice At2 t.arena.nodes.length ct2, .slice At3 t.arena.free.length ct3, .slice At4 t.arena.retired.length ct4, .int .i64 t.root, .int .i64 t.rootNsn, .int .i64 t.counter] t st_]) Tryz.func46 rfl rfl rfl ⟨rfl, trivial⟩ (s0p ht (s0n w)).1 ?_
  refine sq (rg (a_ rfl rfl (en (nx (sq ?_)))))
  refine gp 0 kTreeS_p2_1 rfl (cs' := [.slice At2 t.arena.nodes.length ct2]) rfl fun s1 w_ rs1 us1 => ?_
  have Ls1 := Kd.sl_len rs1; have Cs1 := Kd.sl_cap rs1
  refine gx 0 t.root.toNat rfl (by omega) fun y7 p2 cs_ s3 w6 m8 e4 r5 us3 => ?_
  obtain ⟨A9, c10, rfl⟩ := kNodeS_sh r5
  have ey7 := nodeAt_of m8; subst ey7
  refine r0 (qv 0 rfl (mv rfl rfl) rfl (by kernel_rfl) (qv 1 rfl (nc rfl rfl) rfl (by kernel_rfl) (qv 2 rfl (fa rfl rfl rfl) rfl (by kernel_rfl) (qv 3 rfl (fb rfl rfl rfl) rfl (by kernel_rfl) (qv 4 rfl (ldp (u := .slice At2 t.arena.nodes.length ct2) 2 rfl rfl rfl rfl rfl rfl rfl) rfl (by kernel_rfl) (qv 5 rfl (mv rfl rfl) rfl (by kernel_rfl) (qv 6 rfl (nc rfl rfl) rfl (by kernel_rfl) (qv 7 rfl (fa rfl rfl rfl) rfl (by kernel_rfl) (qv 8 rfl (ldp (u := .int .i64 t.root) 2 rfl rfl rfl rfl rfl rfl rfl) rfl (by kernel_rfl) (qv 9 rfl (ixz t.root.toNat (by omega) e4 rfl rfl rfl rfl rfl (by omega)) rfl (by kernel_rfl) (qv 10 rfl (fa rfl rfl rfl) rfl (by kernel_rfl) (qv 11 rfl (ldp (u := .int .i64 ((nodeAt t.arena t.root).level)) 0 rfl rfl rfl rfl rfl rfl rfl) rfl (by kernel_rfl) (qv 12 rfl (ra (c := (nodeAt t.arena t.root).level + 2) rfl rfl rfl rfl (by omega) (by omega)) rfl (by kernel_rfl) (qv 13 rfl (as_ rfl rfl) rfl (by kernel_rfl) (qe [0, 0, 0] (by kernel_rfl) rfl (nx (rt (ret1 rfl rfl (fun w_ hs_ => ⟨?_, hs_.below⟩)))))))))))))))))))
  rfl
/-! (impl.Tree).need -/
set_option maxRecDepth 20000 in
set_option maxHeartbeats 2000000 in
theorem impl_Tree_need (w : World) {At2 : Option Addr} {ct2 : Nat} {At3 : Option Addr} {ct3 : Nat} {At4 : Option Addr} {ct4 : Nat} {t : Tree} {st_ : List Nat} (ht : kTreeS.Rel w [.int .i64 t.style, .int .i64 t.arena.dims, .slice At2 t.arena.nodes.length ct2, .slice At3 t.arena.free.length ct3, .slice At4 t.arena.retired.length ct4, .int .i64 t.root, .int .i64 t.rootNsn, .int .i64 t.counter] t [] st_) (hS : Sound t.arena) (hp : isPlace t.arena t.root = true) : Calls Tryz.prog 49 #[.agg #[.int .i64 t.style, .int .i64 t.arena.dims, .slice At2 t.arena.nodes.length ct2, .slice At3 t.arena.free.length ct3, .slice At4 t.arena.retired.length ct4, .int .i64 t.root, .int .i64 t.rootNsn, .int .i64 t.counter]] w (fun e_ w2_ => e_ = .returned (.int .i64 ((nodeAt t.arena t.root).level + 2)) ∧ Below w.heap.size w w2_) := by
  have hq := within_t hp; have hnl := node_0 (hS.node _ (nodeAt_mem hp).1); have hll := leaf_len hS hp; have hwk := wk_at hp; have hsl := hS.len
  refine fnc (X := X12 12 w) (args := [.agg #[.int .i64 t.style, .int .i64 t.arena.dims, .slice At2 t.arena.nodes.length ct2, .slice At3 t.arena.free.length ct3, .slice At4 t.arena.retired.length ct4, .int .i64 t.root, .int .i64 t.rootNsn, .int .i64 t.counter]]) (l := [(0, .agg #[.int .i64 t.style, .int .i64 t.arena.dims, .slice At2 t.arena.nodes.length ct2, .slice At3 t.arena.free.length ct3, .slice At4 t.arena.retired.length ct4, .int .i64 t.root, .int .i64 t.rootNsn, .int .i64 t.counter])]) (G := [dat kTreeS [.int .i64 t.style, .int .i64 t.arena.dims, .slice At2 t.arena.nodes.length ct2, .slice At3 t.arena.free.length ct3, .slice At4 t.arena.retired.length ct4, .int .i64 t.root, .int .i64 t.rootNsn, .int .i64 t.counter] t ([]) st_]) Tryz.func49 rfl rfl rfl ⟨rfl, trivial⟩ (s0d ht (s0n w)).1 ?_
  refine sq (rg (bx rfl rfl rfl rfl ?_))
  intro b1
  refine a_ rfl rfl (en (nx (sq (rg (vl (fa rfl rfl rfl) rfl (vl (fa rfl rfl rfl) rfl (vl (ldb (u := .slice At2 t.arena.nodes.length ct2) 0 rfl rfl rfl rfl rfl rfl rfl) rfl (vl (fa rfl rfl rfl) rfl (vl (ldb (u := .int .i64 t.root) 0 rfl rfl rfl rfl rfl rfl rfl) rfl ?_)))))))))
  refine gd 1 kTreeS_p2_1 rfl (cs' := [.slice At2 t.arena.nodes.length ct2]) rfl fun s2 w_ rs2 us2 => ?_
  have Ls2 := Kd.sl_len rs2; have Cs2 := Kd.sl_cap rs2
  refine gx 0 t.root.toNat rfl (by omega) fun y8 p3 cs_ s4 w7 m9 e5 r6 us4 => ?_
  obtain ⟨A10, c11, rfl⟩ := kNodeS_sh r6
  have ey8 := nodeAt_of m9; subst ey8
  refine vl (ixz t.root.toNat (by omega) e5 rfl rfl rfl rfl rfl (by omega)) rfl (vl (fa rfl rfl rfl) rfl (vl (ldp (u := .int .i64 ((nodeAt t.arena t.root).level)) 0 rfl rfl rfl rfl rfl rfl rfl) rfl (vl (ra (c := (nodeAt t.arena t.root).level + 2) rfl rfl rfl rfl (by omega) (by omega)) rfl (a_ rfl rfl (en (nx (rt (ret1 rfl rfl (fun w_ hs_ => ⟨?_, hs_.below⟩)))))))))
  rfl
/-! spec.NeedOf -/
set_option maxRecDepth 20000 in
set_option maxHeartbeats 2000000 in
theorem spec_NeedOf (w : World) {At2 : Option Addr} {ct2 : Nat} {At3 : Option Addr} {ct3 : Nat} {At4 : Option Addr} {ct4 : Nat} {t : Tree} {st_ : List Nat} (ht : kTreeS.Rel w [.int .i64 t.style, .int .i64 t.arena.dims, .slice At2 t.arena.nodes.length ct2, .slice At3 t.arena.free.length ct3, .slice At4 t.arena.retired.length ct4, .int .i64 t.root, .int .i64 t.rootNsn, .int .i64 t.counter] t [] st_)  : Calls Tryz.prog 8 #[.agg #[.int .i64 t.style, .int .i64 t.arena.dims, .slice At2 t.arena.nodes.length ct2, .slice At3 t.arena.free.length ct3, .slice At4 t.arena.retired.length ct4, .int .i64 t.root, .int .i64 t.rootNsn, .int .i64 t.counter]] w (Made kIntResultO w (needOf t) []) := by
  refine fnc (X := X12 12 w) (args := [.agg #[.int .i64 t.style, .int .i64 t.arena.dims, .slice At2 t.arena.nodes.length ct2, .slice At3 t.arena.free.length ct3, .slice At4 t.arena.retired.length ct4, .int .i64 t.root, .int .i64 t.rootNsn, .int .i64 t.counter]]) (l := [(0, .agg #[.int .i64 t.style, .int .i64 t.arena.dims, .slice At2 t.arena.nodes.length ct2, .slice At3 t.arena.free.length ct3, .slice At4 t.arena.retired.length ct4, .int .i64 t.root, .int .i64 t.rootNsn, .int .i64 t.counter])]) (G := [dat kTreeS [.int .i64 t.style, .int .i64 t.arena.dims, .slice At2 t.arena.nodes.length ct2, .slice At3 t.arena.free.length ct3, .slice At4 t.arena.retired.length ct4, .int .i64 t.root, .int .i64 t.rootNsn, .int .i64 t.counter] t ([]) st_]) Tryz.func8 rfl rfl rfl ⟨rfl, trivial⟩ (s0d ht (s0n w)).1 ?_
  refine sq (rg (bx rfl rfl rfl rfl ?_))
  intro b1
  refine al zero31 rfl rfl rfl ?_
  intro b2
  refine en (nx (sq (sq (rg (vl (ldb 1 rfl rfl rfl rfl rfl rfl rfl) rfl ?_)))))
  refine cs_ (v := .int .i64 (treeFault t)) (by kernel_rfl) rfl rfl rfl (fun w_ hs_ => spec_TreeFault w_ (hs_.at 2 rfl)) (a_ rfl rfl (en (nx (sq (rg (m_ rfl rfl (vl (cm rfl rfl rfl rfl) rfl (en (nx ?_)))))))))
  by_cases h3 : (treeFault t) = (0 : Int)
  · obtain ⟨hS, hp, hr⟩ := tree_0 h3; have hq := within_t hp; have hnl := node_0 (hS.node _ (nodeAt_mem hp).1); have hsl := hS.len
    refine cf rfl (bne_eq_false_iff_eq.2 h3) (sk (nx (sq (rg ?_))))
    exact cs_ (v := .int .i64 ((nodeAt t.arena t.root).level + 2)) (by kernel_rfl) rfl rfl rfl (fun w_ hs_ => spec_l6Need w_ (ptr_blk (hs_.at 1 rfl) (hs_.at 2 rfl) rfl) hS hp) (vl (bd bld31 rfl rfl rfl) rfl (sto rfl rfl rfl rfl rfl rfl rfl (cs' := [.int .i64 0, .int .i64 ((nodeAt t.arena t.root).level + 2)]) rfl (en (nx (rt (gs Kd.i64 [.int .i64 ((nodeAt t.arena t.root).level + 2)] ((⟨0, ((nodeAt t.arena t.root).level + 2)⟩ : IntResult).value) (fun _ => ⟨rfl, rfl, rfl⟩) (gs Kd.i64 [.int .i64 0] ((⟨0, ((nodeAt t.arena t.root).level + 2)⟩ : IntResult).code) (fun _ => ⟨rfl, rfl, rfl⟩) (gj (da := (Kd.via Kd.i64 IntResult.code)) (db := (Kd.via Kd.i64 IntResult.value)) (x := (⟨0, ((nodeAt t.arena t.root).level + 2)⟩ : IntResult)) (cs := [.int .i64 0, .int .i64 ((nodeAt t.arena t.root).level + 2)]) rfl (gr (needOf t) (by unfold needOf valued; rw [if_pos h3]) (retc 1 rfl rfl rfl rfl rfl rfl (fun w_ hs_ => made hs_ rfl (see_app see_nil see_nil))))))))))))
  · exact ct rfl (bne_iff_ne.2 h3) (sq (rg (m_ rfl rfl (vl (bd bld31 rfl rfl rfl) rfl (sto rfl rfl rfl rfl rfl rfl rfl (cs' := [.int .i64 (treeFault t), .int .i64 0]) rfl (en (nx (rt (xr (gs Kd.i64 [.int .i64 0] ((⟨(treeFault t), 0⟩ : IntResult).value) (fun _ => ⟨rfl, rfl, rfl⟩) (gs Kd.i64 [.int .i64 (treeFault t)] ((⟨(treeFault t), 0⟩ : IntResult).code) (fun _ => ⟨rfl, rfl, rfl⟩) (gj (da := (Kd.via Kd.i64 IntResult.code)) (db := (Kd.via Kd.i64 IntResult.value)) (x := (⟨(treeFault t), 0⟩ : IntResult)) (cs := [.int .i64 (treeFault t), .int .i64 0]) rfl (gr (needOf t) (by unfold needOf valued; rw [if_neg h3]) (retc 1 rfl rfl rfl rfl rfl rfl (fun w_ hs_ => made hs_ rfl (see_app see_nil see_nil))))))))))))))))
/-! impl.NeedOf -/
set_option maxRecDepth 20000 in
set_option maxHeartbeats 2000000 in
theorem impl_NeedOf (w : World) {At2 : Option Addr} {ct2 : Nat} {At3 : Option Addr} {ct3 : Nat} {At4 : Option Addr} {ct4 : Nat} {t : Tree} {st_ : List Nat} (ht : kTreeS.Rel w [.int .i64 t.style, .int .i64 t.arena.dims, .slice At2 t.arena.nodes.length ct2, .slice At3 t.arena.free.length ct3, .slice At4 t.arena.retired.length ct4, .int .i64 t.root, .int .i64 t.rootNsn, .int .i64 t.counter] t [] st_)  : Calls Tryz.prog 10 #[.agg #[.int .i64 t.style, .int .i64 t.arena.dims, .slice At2 t.arena.nodes.length ct2, .slice At3 t.arena.free.length ct3, .slice At4 t.arena.retired.length ct4, .int .i64 t.root, .int .i64 t.rootNsn, .int .i64 t.counter]] w (Made kIntResultO w (needOf t) []) := by
  refine fnc (X := X12 8 w) (args := [.agg #[.int .i64 t.style, .int .i64 t.arena.dims, .slice At2 t.arena.nodes.length ct2, .slice At3 t.arena.free.length ct3, .slice At4 t.arena.retired.length ct4, .int .i64 t.root, .int .i64 t.rootNsn, .int .i64 t.counter]]) (l := [(0, .agg #[.int .i64 t.style, .int .i64 t.arena.dims, .slice At2 t.arena.nodes.length ct2, .slice At3 t.arena.free.length ct3, .slice At4 t.arena.retired.length ct4, .int .i64 t.root, .int .i64 t.rootNsn, .int .i64 t.counter])]) (G := [dat kTreeS [.int .i64 t.style, .int .i64 t.arena.dims, .slice At2 t.arena.nodes.length ct2, .slice At3 t.arena.free.length ct3, .slice At4 t.arena.retired.length ct4, .int .i64 t.root, .int .i64 t.rootNsn, .int .i64 t.counter] t ([]) st_]) Tryz.func10 rfl rfl rfl ⟨rfl, trivial⟩ (s0d ht (s0n w)).1 ?_
  refine sq (rg (bx rfl rfl rfl rfl ?_))
  intro b1
  refine al zero31 rfl rfl rfl ?_
  intro b2
  refine en (nx (sq ?_))
  refine rd (Gq := [blk b1 [.int .i64 t.style, .int .i64 t.arena.dims, .slice At2 t.arena.nodes.length ct2, .slice At3 t.arena.free.length ct3, .slice At4 t.arena.retired.length ct4, .int .i64 t.root, .int .i64 t.rootNsn, .int .i64 t.counter] 38, dat kTreeS [.int .i64 t.style, .int .i64 t.arena.dims, .slice At2 t.arena.nodes.length ct2, .slice At3 t.arena.free.length ct3, .slice At4 t.arena.retired.length ct4, .int .i64 t.root, .int .i64 t.rootNsn, .int .i64 t.counter] t ([]) st_]) [1, 1] rfl (qv 0 rfl (ldb 0 rfl rfl rfl rfl rfl rfl rfl) rfl (by kernel_rfl) (qv 2 rfl (ldb 0 rfl rfl rfl rfl rfl rfl rfl) rfl (by kernel_rfl) (qv 3 rfl (mf rfl rfl rfl) rfl (by kernel_rfl) (q1 1 [1, 1] rfl (by kernel_rfl) rfl ?_))))
  refine cs_ (v := .int .i64 (treeFault t)) (by kernel_rfl) rfl rfl rfl (fun w_ hs_ => by exact impl_TreeFault w_ (hs_.at 2 rfl)) (qn (q1 4 [1, 1] rfl (by kernel_rfl) rfl (cm_ (dk := kIntResultO) (x := (valued (treeFault t) ((nodeAt t.arena t.root).level + 2))) (S := []) (by kernel_rfl) rfl rfl rfl sn0 (fun w_ hs_ => by exact impl_valued w_ _ ((nodeAt t.arena t.root).level + 2) (by kernel_rfl) (fun w1  mc_ b_  => impl_Tree_need w1  ((hs_.step b_).at 2 rfl) (tree_0 mc_).1 (tree_0 mc_).2.1)) (fun cs_ o3 s4 w_ r5 t6 => ?_))))
  obtain ⟨rfl⟩ := kIntResultO_sh r5
  exact qn (q1 5 [2, 2] rfl (by kernel_rfl) rfl (f1 (sto rfl rfl rfl rfl rfl rfl rfl (cs' := [.int .i64 ((valued (treeFault t) ((nodeAt t.arena t.root).level + 2)).code), .int .i64 ((valued (treeFault t) ((nodeAt t.arena t.root).level + 2)).value)]) rfl (qn (qe [2, 2] (by kernel_rfl) rfl (nx (rt (f1 (gr (needOf t) rfl (retc 1 rfl rfl rfl rfl rfl rfl (fun w_ hs_ => made hs_ rfl t6)))))))))))
/-! laws.FnExactNeedOf -/
set_option maxRecDepth 20000 in
set_option maxHeartbeats 2000000 in
theorem laws_FnExactNeedOf (w : World) {AaT2 : Option Addr} {caT2 : Nat} {AaT3 : Option Addr} {caT3 : Nat} {AaT4 : Option Addr} {caT4 : Nat} {aT : Tree} {saT_ : List Nat} (haT : kTreeS.Rel w [.int .i64 aT.style, .int .i64 aT.arena.dims, .slice AaT2 aT.arena.nodes.length caT2, .slice AaT3 aT.arena.free.length caT3, .slice AaT4 aT.arena.retired.length caT4, .int .i64 aT.root, .int .i64 aT.rootNsn, .int .i64 aT.counter] aT [] saT_)  : Calls Tryz.prog 3 #[.agg #[.int .i64 aT.style, .int .i64 aT.arena.dims, .slice AaT2 aT.arena.nodes.length caT2, .slice AaT3 aT.arena.free.length caT3, .slice AaT4 aT.arena.retired.length caT4, .int .i64 aT.root, .int .i64 aT.rootNsn, .int .i64 aT.counter]] w (fun e_ w2_ => e_ = .returned (.bool true) ∧ Below w.heap.size w w2_) := by
  have n0 := szTree_nn aT
  refine fnc (X := X12 28 w) (args := [.agg #[.int .i64 aT.style, .int .i64 aT.arena.dims, .slice AaT2 aT.arena.nodes.length caT2, .slice AaT3 aT.arena.free.length caT3, .slice AaT4 aT.arena.retired.length caT4, .int .i64 aT.root, .int .i64 aT.rootNsn, .int .i64 aT.counter]]) (l := [(0, .agg #[.int .i64 aT.style, .int .i64 aT.arena.dims, .slice AaT2 aT.arena.nodes.length caT2, .slice AaT3 aT.arena.free.length caT3, .slice AaT4 aT.arena.retired.length caT4, .int .i64 aT.root, .int .i64 aT.rootNsn, .int .i64 aT.counter])]) (G := [dat kTreeS [.int .i64 aT.style, .int .i64 aT.arena.dims, .slice AaT2 aT.arena.nodes.length caT2, .slice AaT3 aT.arena.free.length caT3, .slice AaT4 aT.arena.retired.length caT4, .int .i64 aT.root, .int .i64 aT.rootNsn, .int .i64 aT.counter] aT ([]) saT_]) Tryz.func3 rfl rfl rfl ⟨rfl, trivial⟩ (s0d haT (s0n w)).1 ?_
  refine sq (rg (bx rfl rfl rfl rfl ?_))
  intro b1
  refine a_ rfl rfl (en (nx (sq (rg (a_ rfl rfl (en (nx (sq (rg (vl (ldb 0 rfl rfl rfl rfl rfl rfl rfl) rfl (m_ rfl rfl (cs_ (v := .int .i64 (szTake (szTree aT) 1048576)) (by kernel_rfl) rfl rfl rfl (fun w_ hs_ => laws_szTree w_ _ (hs_.at 1 rfl) (by omega) (by omega)) (a_ rfl rfl (en (nx (sq (sq (rg (m_ rfl rfl (vl (cm rfl rfl rfl rfl) rfl (en (nx ?_))))))))))))))))))))))
  by_cases h2 : (szTake (szTree aT) 1048576) < (0 : Int)
  · have eh2 := szTake_t h2
    refine ct rfl (decide_eq_true h2) (sq (rg (a_ rfl rfl (en (nx (rt (xr (ret1 rfl rfl (fun w_ hs_ => ⟨?_, hs_.below⟩)))))))))
    rfl
  · have eh2 := szTake_f h2
    refine cf rfl (decide_eq_false h2) (sk (nx (sq (rg (vl (ldb 0 rfl rfl rfl rfl rfl rfl rfl) rfl (cm_ (dk := kTreeO) (x := aT) (S := []) (by kernel_rfl) rfl rfl rfl sn0 (fun w_ hs_ => laws_toTree w_ (hs_.at 1 rfl) (by omega)) (fun cs_ o9 s10 w_ r11 t12 => ?_)))))))
    obtain ⟨A3, c4, A5, c6, A7, c8, rfl⟩ := kTreeO_sh r11
    refine cm_ (dk := kIntResultO) (x := (needOf aT)) (S := []) (by kernel_rfl) rfl rfl rfl sn0 (fun w_ hs_ => bor kTreeO_seal (hs_.at 0 rfl) fun _ lb0_ => spec_NeedOf w_ lb0_) (fun cs_ o14 s15 w_ r16 t17 => ?_)
    obtain ⟨rfl⟩ := kIntResultO_sh r16
    refine al zero31 rfl rfl rfl ?_
    intro b19
    refine sto rfl rfl rfl rfl rfl rfl rfl (cs' := [.int .i64 ((needOf aT).code), .int .i64 ((needOf aT).value)]) rfl (en (nx (sq (rg (vl (ldb 3 rfl rfl rfl rfl rfl rfl rfl) rfl (cm_ (dk := kTreeO) (x := aT) (S := []) (by kernel_rfl) rfl rfl rfl sn0 (fun w_ hs_ => laws_toTree w_ (hs_.at 4 rfl) (by omega)) (fun cs_ o26 s27 w_ r28 t29 => ?_)))))))
    obtain ⟨A20, c21, A22, c23, A24, c25, rfl⟩ := kTreeO_sh r28
    refine al zero38 rfl rfl rfl ?_
    intro b31
    refine sto rfl rfl rfl rfl rfl rfl rfl (cs' := [.int .i64 aT.style, .int .i64 aT.arena.dims, .slice A20 aT.arena.nodes.length c21, .slice A22 aT.arena.free.length c23, .slice A24 aT.arena.retired.length c25, .int .i64 aT.root, .int .i64 aT.rootNsn, .int .i64 aT.counter]) rfl (en (nx (sq (rg (vl (ldb 0 rfl rfl rfl rfl rfl rfl rfl) rfl (cm_ (dk := kIntResultO) (x := (needOf aT)) (S := []) (by kernel_rfl) rfl rfl rfl sn0 (fun w_ hs_ => bor kTreeO_seal (hs_.at 1 rfl) fun _ lb0_ => impl_NeedOf w_ lb0_) (fun cs_ o32 s33 w_ r34 t35 => ?_)))))))
    obtain ⟨rfl⟩ := kIntResultO_sh r34
    refine al zero31 rfl rfl rfl ?_
    intro b37
    refine sto rfl rfl rfl rfl rfl rfl rfl (cs' := [.int .i64 ((needOf aT).code), .int .i64 ((needOf aT).value)]) rfl (en (nx (sq (sq (rg (vl (ldb 0 rfl rfl rfl rfl rfl rfl rfl) rfl (vl (ldb 4 rfl rfl rfl rfl rfl rfl rfl) rfl (cs_ (v := .bool (decide ((needOf aT) = (needOf aT)))) (by kernel_rfl) rfl rfl rfl (fun w_ hs_ => bor kIntResultO_seal (hs_.at 1 rfl) fun _ lb0_ => bor kIntResultO_seal (hs_.at 1 rfl) fun _ lb1_ => laws_eqIntResult w_ lb0_ lb1_) (vl (nt rfl rfl) rfl (en (nx (cf rfl (not_f (decide_eq_true rfl)) (sk (nx (sq (sq ?_))))))))))))))))
    refine r0 (qv 0 rfl (ldb 2 rfl rfl rfl rfl rfl rfl rfl) rfl (by kernel_rfl) (qv 1 rfl (ldb 7 rfl rfl rfl rfl rfl rfl rfl) rfl (by kernel_rfl) (q1 2 [0, 0, 0, 0, 0, 0, 0, 0, 0] rfl (by kernel_rfl) rfl (cm_ (dk := kTreeO) (x := aT) (S := []) (by kernel_rfl) rfl rfl rfl sn0 (fun w_ hs_ => by exact laws_toTree w_ (hs_.at 8 rfl) (by omega)) (fun cs_ o50 s51 w_ r52 t53 => ?_)))))
    obtain ⟨A44, c45, A46, c47, A48, c49, rfl⟩ := kTreeO_sh r52
    refine qn (q1 3 [1, 1, 1, 1, 1, 1, 1, 1, 1] rfl (by kernel_rfl) rfl (cs_ (v := .bool (decide (aT = aT))) (by kernel_rfl) rfl rfl rfl (fun w_ hs_ => by exact bor kTreeO_seal (hs_.at 4 rfl) fun _ lb0_ => bor kTreeO_seal (hs_.at 0 rfl) fun _ lb1_ => laws_eqTree w_ lb0_ lb1_) (qn (qv 4 rfl (nt rfl rfl) rfl (by kernel_rfl) (qe [1, 1, 1, 1, 1, 1, 1, 1, 1] (by kernel_rfl) rfl (nx (cf rfl (not_f (decide_eq_true rfl)) (sk (nx (sq (rg (a_ rfl rfl (en (nx (rt (ret1 rfl rfl (fun w_ hs_ => ⟨?_, hs_.below⟩)))))))))))))))))
    rfl
end Go.Proofs.YtfdhhhodfjbnjaaGreat.Sx
