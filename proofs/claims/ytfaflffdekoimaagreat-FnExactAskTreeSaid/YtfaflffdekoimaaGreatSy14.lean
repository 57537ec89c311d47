/- What functions of the program answer, each at every input that its row names; walked through their code. -/
import Derived.Test.YtfaflffdekoimaaGreatSy13
namespace Go.Proofs.YtfaflffdekoimaaGreat.Sx
open Go Go.RowKit Go.Proofs
set_option linter.unusedVariables false
set_option linter.unusedSimpArgs false
def tab14 : Tab := { size := [(2, 1, false), (37, 2, true), (44, 8, true), (46, 2, true), (91, 3, true), (140, 4, true)], off := [((91, 0), 0), ((140, 0), 0), ((140, 1), 2)], elem := [(35, 91), (114, 140)] }
theorem tab_ok14 : tab14.check Tryz.prog = true := by kernel_rfl
noncomputable abbrev X14 (N : Nat) (w : World) : Cx := ⟨Tryz.prog, tab14, tab_ok14, wide, N, w, none, []⟩
theorem zero37 : (Tryz.prog.info? 37).bind (·.zero) = some (.agg #[.int .i64 0, .slice none 0 0]) := by kernel_rfl
theorem bld37 : bld Tryz.prog 37 = some ([(0, 1), (1, 1)], [.int .i64 0, .slice none 0 0]) := by kernel_rfl

/-! cmp.isNaN[int64] -/
set_option maxRecDepth 20000 in
set_option maxHeartbeats 2000000 in
theorem cmp_isNaN_int64 (w : World) (x : Int)  : Calls Tryz.prog 153 #[.int .i64 x] w (fun e_ w2_ => e_ = .returned (.bool false) ∧ Below w.heap.size w w2_) := by
  refine fnc (X := X14 6 w) (args := [.int .i64 x]) (l := [(0, .int .i64 x)]) (G := []) Tryz.func153 rfl rfl rfl ⟨rfl, trivial⟩ (s0n w).1 ?_
  refine sq (rg (a_ rfl rfl (en (nx (sq (rg (m_ rfl rfl (m_ rfl rfl (vl (cm rfl rfl rfl rfl) rfl (a_ rfl rfl (en (nx (rt (ret1 rfl rfl (fun w_ hs_ => ⟨?_, hs_.below⟩)))))))))))))))
  exact rb (by simp)
/-! cmp.Compare[int64] -/
set_option maxRecDepth 20000 in
set_option maxHeartbeats 2000000 in
theorem cmp_Compare_int64 (w : World) (x : Int) (y : Int)  : Calls Tryz.prog 108 #[.int .i64 x, .int .i64 y] w (fun e_ w2_ => e_ = .returned (.int .i64 (cmpI x y)) ∧ Below w.heap.size w w2_) := by
  refine fnc (X := X14 20 w) (args := [.int .i64 x, .int .i64 y]) (l := [(0, .int .i64 x), (1, .int .i64 y)]) (G := []) Tryz.func108 rfl rfl rfl ⟨rfl, rfl, trivial⟩ (s0n w).1 ?_
  refine sq (rg (a_ rfl rfl (en (nx (sq (rg (m_ rfl rfl (cs_ (v := .bool false) (by kernel_rfl) rfl rfl rfl (fun w_ hs_ => cmp_isNaN_int64 w_ _) (a_ rfl rfl (en (nx (sq (rg (m_ rfl rfl (cs_ (v := .bool false) (by kernel_rfl) rfl rfl rfl (fun w_ hs_ => cmp_isNaN_int64 w_ _) (a_ rfl rfl (en (nx (sq (sq (rg (m_ rfl rfl (en (nx (cf rfl rfl (sk (nx (sq (sq (rg (m_ rfl rfl (en (nx (cf rfl rfl (sk (nx (sq (sq (rg (m_ rfl rfl (m_ rfl rfl (vl (cm rfl rfl rfl rfl) rfl (en (nx ?_))))))))))))))))))))))))))))))))))))))))))))
  by_cases h1 : x < y
  · refine ct rfl (decide_eq_true h1) (sq (rg (a_ rfl rfl (en (nx (rt (xr (ret1 rfl rfl (fun w_ hs_ => ⟨?_, hs_.below⟩)))))))))
    exact ri (by unfold cmpI; grind)
  · refine cf rfl (decide_eq_false h1) (sk (nx (sq (sq (rg (m_ rfl rfl (m_ rfl rfl (vl (cm rfl rfl rfl rfl) rfl (en (nx ?_))))))))))
    by_cases h2 : y < x
    · refine ct rfl (decide_eq_true h2) (sq (rg (a_ rfl rfl (en (nx (rt (xr (ret1 rfl rfl (fun w_ hs_ => ⟨?_, hs_.below⟩)))))))))
      exact ri (by unfold cmpI; grind)
    · refine cf rfl (decide_eq_false h2) (sk (nx (sq (rg (a_ rfl rfl (en (nx (rt (ret1 rfl rfl (fun w_ hs_ => ⟨?_, hs_.below⟩))))))))))
      exact ri (by unfold cmpI; grind)
/-! (impl.Tree).pairs$1 -/
set_option maxRecDepth 20000 in
set_option maxHeartbeats 2000000 in
theorem impl_Tree_pairs_1 (w : World) {Ap1 : Option Addr} {cp1 : Nat} {Ap2 : Option Addr} {cp2 : Nat} {p : Pair} {sp_ : List Nat} (hp : kPairS.Rel w [.int .i64 p.id, .slice Ap1 p.rect.low.length cp1, .slice Ap2 p.rect.high.length cp2] p [] sp_) {Aq1 : Option Addr} {cq1 : Nat} {Aq2 : Option Addr} {cq2 : Nat} {q : Pair} {sq_ : List Nat} (hq : kPairS.Rel w [.int .i64 q.id, .slice Aq1 q.rect.low.length cq1, .slice Aq2 q.rect.high.length cq2] q [] sq_)  : Calls Tryz.prog 107 #[.agg #[.int .i64 p.id, .slice Ap1 p.rect.low.length cp1, .slice Ap2 p.rect.high.length cp2], .agg #[.int .i64 q.id, .slice Aq1 q.rect.low.length cq1, .slice Aq2 q.rect.high.length cq2]] w (fun e_ w2_ => e_ = .returned (.int .i64 (idC p q)) ∧ Below w.heap.size w w2_) := by
  refine fnc (X := X14 10 w) (args := [.agg #[.int .i64 p.id, .slice Ap1 p.rect.low.length cp1, .slice Ap2 p.rect.high.length cp2], .agg #[.int .i64 q.id, .slice Aq1 q.rect.low.length cq1, .slice Aq2 q.rect.high.length cq2]]) (l := [(0, .agg #[.int .i64 p.id, .slice Ap1 p.rect.low.length cp1, .slice Ap2 p.rect.high.length cp2]), (1, .agg #[.int .i64 q.id, .slice Aq1 q.rect.low.length cq1, .slice Aq2 q.rect.high.length cq2])]) (G := [dat kPairS [.int .i64 q.id, .slice Aq1 q.rect.low.length cq1, .slice Aq2 q.rect.high.length cq2] q ([]) sq_, dat kPairS [.int .i64 p.id, .slice Ap1 p.rect.low.length cp1, .slice Ap2 p.rect.high.length cp2] p ([]) sp_]) Tryz.func107 rfl rfl rfl ⟨rfl, rfl, trivial⟩ (s0d hq (s0d hp (s0n w))).1 ?_
  refine sq (rg (bx rfl rfl rfl rfl ?_))
  intro b1
  refine bx rfl rfl rfl rfl ?_
  intro b2
  refine a_ rfl rfl (en (nx (sq (rg (vl (fa rfl rfl rfl) rfl (vl (ldb (u := .int .i64 p.id) 1 rfl rfl rfl rfl rfl rfl rfl) rfl (vl (fa rfl rfl rfl) rfl (vl (ldb (u := .int .i64 q.id) 0 rfl rfl rfl rfl rfl rfl rfl) rfl (cs_ (v := .int .i64 (cmpI p.id q.id)) (by kernel_rfl) rfl rfl rfl (fun w_ hs_ => cmp_Compare_int64 w_ _ _) (a_ rfl rfl (en (nx (rt (ret1 rfl rfl (fun w_ hs_ => ⟨?_, hs_.below⟩)))))))))))))))
  rfl
/-! (impl.Tree).pairs -/
set_option maxRecDepth 20000 in
set_option maxHeartbeats 2000000 in
theorem impl_Tree_pairs (w : World) {At2 : Option Addr} {ct2 : Nat} {At3 : Option Addr} {ct3 : Nat} {At4 : Option Addr} {ct4 : Nat} {t : Tree} {st_ : List Nat} (ht : kTreeS.Rel w [.int .i64 t.style, .int .i64 t.arena.dims, .slice At2 t.arena.nodes.length ct2, .slice At3 t.arena.free.length ct3, .slice At4 t.arena.retired.length ct4, .int .i64 t.root, .int .i64 t.rootNsn, .int .i64 t.counter] t [] st_) (hS : Sound t.arena) (hp : isPlace t.arena t.root = true) (hr : treeRight t = true) : Calls Tryz.prog 64 #[.agg #[.int .i64 t.style, .int .i64 t.arena.dims, .slice At2 t.arena.nodes.length ct2, .slice At3 t.arena.free.length ct3, .slice At4 t.arena.retired.length ct4, .int .i64 t.root, .int .i64 t.rootNsn, .int .i64 t.counter]] w (Made (Kd.row 91 kPairO) w (pairsT t) []) := by
  have hq := within_t hp; have hnl := node_0 (hS.node _ (nodeAt_mem hp).1); have hll := leaf_len hS hp; have hwk := wk_at hp; have hsl := hS.len
  refine fnc (X := X14 27 w) (args := [.agg #[.int .i64 t.style, .int .i64 t.arena.dims, .slice At2 t.arena.nodes.length ct2, .slice At3 t.arena.free.length ct3, .slice At4 t.arena.retired.length ct4, .int .i64 t.root, .int .i64 t.rootNsn, .int .i64 t.counter]]) (l := [(0, .agg #[.int .i64 t.style, .int .i64 t.arena.dims, .slice At2 t.arena.nodes.length ct2, .slice At3 t.arena.free.length ct3, .slice At4 t.arena.retired.length ct4, .int .i64 t.root, .int .i64 t.rootNsn, .int .i64 t.counter])]) (G := [dat kTreeS [.int .i64 t.style, .int .i64 t.arena.dims, .slice At2 t.arena.nodes.length ct2, .slice At3 t.arena.free.length ct3, .slice At4 t.arena.retired.length ct4, .int .i64 t.root, .int .i64 t.rootNsn, .int .i64 t.counter] t ([]) st_]) Tryz.func64 rfl rfl rfl ⟨rfl, trivial⟩ (s0d ht (s0n w)).1 ?_
  refine sq (rg (bx rfl rfl rfl rfl ?_))
  intro b1
  refine a_ rfl rfl (en (nx (sq (rg (bs0 (dk := kPairO) rfl info91 rfl rfl ?_)))))
  intro b2
  refine a_ rfl rfl (en (nx (sq (sq (rg (vl (ldb 1 rfl rfl rfl rfl rfl rfl rfl) rfl (cm_ (dk := (Kd.row 140 kEntryS)) (x := (leafE t (wk t))) (S := (st_)) (by kernel_rfl) rfl rfl rfl (snt 2 rfl) (fun w_ hs_ => impl_Tree_leafEntries w_ (hs_.at 2 rfl) hS hp) (fun cs_ o5 s6 w_ r7 t8 => ?_))))))))
  obtain ⟨A3, c4, rfl⟩ := Kd.row_sh r7
  refine vl (ln rfl rfl rfl) rfl (m_ rfl rfl (en (nx (bk (gl (Kd.Seals.row kEntryS_self _) (fun s10 us10 => ?_))))))
  refine lp (σ := Nat × List Pair × Option Addr × Nat × List Nat × List Nat) (fun z_ : Nat × List Pair × Option Addr × Nat × List Nat × List Nat => match z_ with | (k, out1, A_out1, c_out1, o_out1, s_out1) => [(3, .slice A_out1 out1.length c_out1), (8, .slice A3 ((leafE t (wk t)).length) c4), (9, .int .i64 (((leafE t (wk t)).length : Nat) : Int)), (10, .int .i64 ((k : Nat) : Int))])
      (fun z_ : Nat × List Pair × Option Addr × Nat × List Nat × List Nat => match z_ with | (k, out1, A_out1, c_out1, o_out1, s_out1) => [dat (Kd.row 91 kPairO) [.slice A_out1 out1.length c_out1] out1 o_out1 s_out1, dat (Kd.sl kEntryS) [.slice A3 ((leafE t (wk t)).length) c4] (leafE t (wk t)) ([]) s10])
      (fun z_ : Nat × List Pair × Option Addr × Nat × List Nat × List Nat => match z_ with | (k, out1, A_out1, c_out1, o_out1, s_out1) => (k ≤ (leafE t (wk t)).length ∧ out1 = ((leafE t (wk t)).take k).map pairOf ∧ out1.length ≤ k) ∧ (∀ q ∈ s_out1, w.heap.size ≤ q)) (fun z_ : Nat × List Pair × Option Addr × Nat × List Nat × List Nat => match z_ with | (k, out1, A_out1, c_out1, o_out1, s_out1) => (leafE t (wk t)).length - k) (0, [], (some ⟨b2, 0, none⟩), 0, [b2], []) [1, 0] ⟨⟨Nat.zero_le _, by simp, by simp⟩, by grind⟩ ⟨rfl, rfl, rfl, rfl, trivial⟩ rfl ?_
  rintro ⟨k, out1, A_out1, c_out1, o_out1, s_out1⟩ hp_
  obtain ⟨hinv1, hsee1out1⟩ := hp_; have hlen_ := hinv1.2.2
  refine sq (rg (vl (cm rfl rfl rfl rfl) rfl (en (nx (sq ?_)))))
  by_cases h11 : ((k : Nat) : Int) < (((leafE t (wk t)).length : Nat) : Int)
  · refine ct rfl (decide_eq_true h11) (sk (nx (sq (bk (sq (rg ?_))))))
    refine gx 1 k rfl (by omega) fun y17 p12 cs_ s13 w16 m18 e14 r15 us13 => ?_
    obtain ⟨A19, c20, A21, c22, rfl⟩ := kEntryS_sh r15
    refine vl (ix k e14 rfl rfl rfl rfl rfl (by omega)) rfl (vl (ldq 0 rfl rfl rfl rfl rfl rfl rfl) rfl (al zero140 rfl rfl rfl ?_))
    intro b23
    refine sto rfl rfl rfl rfl rfl rfl rfl (cs' := [.slice A19 y17.rect.low.length c20, .slice A21 y17.rect.high.length c22, .int .i64 y17.ref, .int .i64 y17.nsn]) rfl (en (nx ?_))
    refine gp 1 kEntryS_p0_2 rfl (cs' := [.slice A19 y17.rect.low.length c20, .slice A21 y17.rect.high.length c22]) rfl fun s24 w_ rs24 us24 => ?_
    refine rd (Gq := [dat kRectS [.slice A19 y17.rect.low.length c20, .slice A21 y17.rect.high.length c22] y17.rect ([]) s24, blk b23 [.slice A19 y17.rect.low.length c20, .slice A21 y17.rect.high.length c22, .int .i64 y17.ref, .int .i64 y17.nsn] 140, ptr kEntryS p12 [.slice A19 y17.rect.low.length c20, .slice A21 y17.rect.high.length c22, .int .i64 y17.ref, .int .i64 y17.nsn] y17 s13, dat (Kd.sl kEntryS) [.slice A3 ((leafE t (wk t)).length) c4] (leafE t (wk t)) ([]) s10]) [0, 0, 0, 1] rfl (qv 0 rfl (mv rfl rfl) rfl (by kernel_rfl) (qv 1 rfl (fa rfl rfl rfl) rfl (by kernel_rfl) (qv 2 rfl (ldb (u := .int .i64 y17.ref) 1 rfl rfl rfl rfl rfl rfl rfl) rfl (by kernel_rfl) (qv 3 rfl (fa rfl rfl rfl) rfl (by kernel_rfl) (qv 4 rfl (ldb 1 rfl rfl rfl rfl rfl rfl rfl) rfl (by kernel_rfl) (q1 5 [0, 0, 0, 1] rfl (by kernel_rfl) rfl (cm_ (dk := kRectO) (x := y17.rect) (S := []) (by kernel_rfl) rfl rfl rfl sn0 (fun w_ hs_ => by exact impl_Rect_cloned w_ (hs_.at 0 rfl) (by have z := leafE_in (wk_met hp).2 hS _ (List.mem_of_getElem? m18); omega)) (fun cs_ o33 s34 w_ r35 t36 => ?_))))))))
    obtain ⟨A29, c30, A31, c32, rfl⟩ := kRectO_sh r35
    refine qn (qv 6 rfl (bd bld91 rfl rfl rfl) rfl (by kernel_rfl) (q1 7 [1, 1, 1, 2] rfl (by kernel_rfl) rfl (gs Kd.i64 [.int .i64 y17.ref] ((pairOf y17).id) (fun _ => ⟨rfl, rfl, rfl⟩) (gj (da := (Kd.via Kd.i64 Pair.id)) (db := (Kd.via kRectO Pair.rect)) (x := (pairOf y17)) (cs := [.int .i64 y17.ref, .slice A29 y17.rect.low.length c30, .slice A31 y17.rect.high.length c32]) rfl (bs1 (dk := kPairO) rfl info91 (by decide) rfl rfl rfl rfl ?_)))))
    intro b38
    refine qn (q1 8 [1, 1, 1, 2] rfl (by kernel_rfl) rfl ?_)
    refine f4 (ap (out1 ++ [(pairOf y17)]) rfl info91 rfl rfl (by decide) rfl rfl rfl rfl (by rw [List.length_append, List.length_cons, List.length_nil]; omega) (by rw [List.length_append, List.length_cons, List.length_nil]; omega) rfl (fun A39 c40 o41 s42 t43 => ?_))
    refine qn (qv 9 rfl (as_ rfl rfl) rfl (by kernel_rfl) (qe [1, 1, 1, 1] (by kernel_rfl) rfl (xn (nx (rg (vl (ra (c := ((k + 1 : Nat) : Int)) rfl rfl rfl (by omega) (by omega) (by omega)) rfl (m_ rfl rfl (en ?_))))))))
    exact lpe (s := (k, out1, A_out1, c_out1, o_out1, s_out1)) (k + 1, (out1 ++ [(pairOf y17)]), A39, c40, o41, s42) [0, 3] ⟨⟨by omega, by rw [take_snoc m18, List.map_append, ← hinv1.2.1]; rfl, by rw [List.length_append, List.length_cons, List.length_nil]; omega⟩, by grind⟩ (by show (leafE t (wk t)).length - (k + 1) < (leafE t (wk t)).length - k; omega) ⟨rfl, rfl, rfl, rfl, trivial⟩ rfl
  · refine cf rfl (decide_eq_false h11) (xt (xq (xq (xb (nx (sq (rg (m_ rfl rfl ?_))))))))
    have yn44 : ∀ b ∈ s_out1, b ∈ ([] : List Nat) ∨ w.heap.size ≤ b := by grind
    have ycap := hlen_
    refine gtag kPairO_seal rfl (fun ts bs_ s45 et eo_ en_ es_ ex_ ee_ => ?_)
    have etl : ts.length = out1.length := (by rw [← et, List.length_map])
    refine cto (dk := (Kd.row 91 kPairT)) (cs := [.slice A_out1 out1.length c_out1]) (x := (ts.mergeSort (fun x y => !ltOf idC y.1 x.1))) (v := .tuple #[]) (S := s45) (by kernel_rfl) rfl rfl rfl (snt 0 rfl) _ (fun _ hs_ => hs_.below.size) (fun w_ hs_ => sort_pairs w_ idC (by kernel_rfl) ((hs_.pk [0] rfl).nl) (fun w1 x0 x1 m0_ m1_ b_ _ _ _ _ _ _ _ _ _ r0_ _ r1_ => impl_Tree_pairs_1 w1  r0_ r1_) id_swo (tag_uniq (et.trans (by rw [hinv1.2.1, List.take_of_length_le (by omega)]; rfl : out1 = leafP t (wk t))) (right_uniq hr)) (by omega) (by omega)) (fun o46 s47 t48 => ?_)
    refine en (nx (sq (rg (m_ rfl rfl (a_ rfl rfl (en (nx (rt (gut 0 kPairO_seal kPairS_pure rfl (fun t ht => (List.mergeSort_perm _ _).mem_iff.1 ht) (((perm_flat (f := fun t : Tg Pair => t.2.2.1) (List.mergeSort_perm _ _)).nodup_iff).2 en_) eo_ (fun o_ => ?_) ex_)))))))))
    exact gr (pairsT t) (tag_ids (et.trans (by rw [hinv1.2.1, List.take_of_length_le (by omega)]; rfl : out1 = leafP t (wk t))) (right_uniq hr)) (ret1 rfl rfl (fun w_ hs_ => made hs_ rfl (fun b hb => .inr (see_tag es_ yn44 (fun t ht => (List.mergeSort_perm _ _).mem_iff.1 ht) b hb))))
/-! spec.l6Sorted -/
set_option maxRecDepth 20000 in
set_option maxHeartbeats 2000000 in
theorem spec_l6Sorted (w : World) {At2 : Option Addr} {ct2 : Nat} {At3 : Option Addr} {ct3 : Nat} {At4 : Option Addr} {ct4 : Nat} {t : Tree} {st_ : List Nat} {pt : Addr} (ht : (ptr kTreeS pt [.int .i64 t.style, .int .i64 t.arena.dims, .slice At2 t.arena.nodes.length ct2, .slice At3 t.arena.free.length ct3, .slice At4 t.arena.retired.length ct4, .int .i64 t.root, .int .i64 t.rootNsn, .int .i64 t.counter] t st_).P w) (hS : Sound t.arena) (hp : isPlace t.arena t.root = true) (hr : treeRight t = true) : Calls Tryz.prog 48 #[.pointer (some pt)] w (Made (Kd.row 91 kPairO) w (pairsT t) []) := by
  have hq := within_t hp; have hnl := node_0 (hS.node _ (nodeAt_mem hp).1); have hll := leaf_len hS hp; have hwk := wk_at hp; have hsl := hS.len; have esh := shape_wk hr; have epl : (leafP t (shapeOf t)).length ≤ 200 := (by rw [esh, leafP_len]; exact hll.1)
  refine fnc (X := X14 31 w) (args := [.pointer (some pt)]) (l := [(0, .pointer (some pt))]) (G := [ptr kTreeS pt [.int .i64 t.style, .int .i64 t.arena.dims, .slice At2 t.arena.nodes.length ct2, .slice At3 t.arena.free.length ct3, .slice At4 t.arena.retired.length ct4, .int .i64 t.root, .int .i64 t.rootNsn, .int .i64 t.counter] t st_]) Tryz.func48 rfl rfl rfl ⟨rfl, trivial⟩ (s0p ht (s0n w)).1 ?_
  refine sq (rg (a_ rfl rfl (en (nx (sq (rg (m_ rfl rfl (cmT (dk := (Kd.row 2 Kd.i64)) (x := (shapeOf t)) (S := []) (f := (fun v_ => .tuple #[v_, .bool (treeRight t)])) (by kernel_rfl) rfl rfl rfl sn0 (fun w_ hs_ => spec_l6Shape w_ (hs_.at 0 rfl) hS hp) (fun cs_ o3 s4 w_ r5 t6 => ?_)))))))))
  obtain ⟨A1, c2, rfl⟩ := Kd.row_sh r5
  refine m_ rfl rfl (vl (ex rfl rfl rfl) rfl (vl (ex rfl rfl rfl) rfl (a_ rfl rfl (a_ rfl rfl (en (nx (sq (rg (m_ rfl rfl (m_ rfl rfl (cm_ (dk := (Kd.row 91 kPairS)) (x := (leafP t (shapeOf t))) (S := (st_)) (by kernel_rfl) rfl rfl rfl (snp 1 rfl) (fun w_ hs_ => bor (Kd.Seals.row Kd.Seals.i64 _) (hs_.at 0 rfl) fun _ lb0_ => spec_l6Pairs w_ (hs_.at 1 rfl) lb0_ hS (by rw [esh]; exact (wk_met hp).2) (by rw [esh]; exact hll.2)) (fun cs_ o10 s11 w_ r12 t13 => ?_))))))))))))
  obtain ⟨A8, c9, rfl⟩ := Kd.row_sh r12
  refine a_ rfl rfl (en (nx (sq (rg (bs0 (dk := kPairS) rfl info91 rfl rfl ?_)))))
  intro b15
  refine a_ rfl rfl (en (nx (sq (sq (rg (a_ rfl rfl (en (nx (bk (f1 (gl (Kd.Seals.row kPairS_self _) (fun s16 us16 => ?_))))))))))))
  refine lp (σ := Nat × List Pair × Option Addr × Nat × List Nat × List Nat) (fun z_ : Nat × List Pair × Option Addr × Nat × List Nat × List Nat => match z_ with | (k, out1, A_out1, c_out1, o_out1, s_out1) => [(5, .slice A8 ((leafP t (shapeOf t)).length) c9), (6, .slice A_out1 out1.length c_out1), (7, .int .i64 ((k : Nat) : Int))])
      (fun z_ : Nat × List Pair × Option Addr × Nat × List Nat × List Nat => match z_ with | (k, out1, A_out1, c_out1, o_out1, s_out1) => [dat (Kd.row 91 kPairS) [.slice A_out1 out1.length c_out1] out1 o_out1 s_out1, dat (Kd.sl kPairS) [.slice A8 ((leafP t (shapeOf t)).length) c9] (leafP t (shapeOf t)) ([]) s16, ptr kTreeS pt [.int .i64 t.style, .int .i64 t.arena.dims, .slice At2 t.arena.nodes.length ct2, .slice At3 t.arena.free.length ct3, .slice At4 t.arena.retired.length ct4, .int .i64 t.root, .int .i64 t.rootNsn, .int .i64 t.counter] t st_])
      (fun z_ : Nat × List Pair × Option Addr × Nat × List Nat × List Nat => match z_ with | (k, out1, A_out1, c_out1, o_out1, s_out1) => (k ≤ (leafP t (shapeOf t)).length ∧ out1 = ((leafP t (shapeOf t)).take k).foldl addTo [] ∧ out1.length ≤ k) ∧ (∀ q ∈ s_out1, q ∈ st_ ∨ w.heap.size ≤ q)) (fun z_ : Nat × List Pair × Option Addr × Nat × List Nat × List Nat => match z_ with | (k, out1, A_out1, c_out1, o_out1, s_out1) => (leafP t (shapeOf t)).length - k) (0, [], (some ⟨b15, 0, none⟩), 0, [b15], []) [1, 0, 1] ⟨⟨Nat.zero_le _, rfl, by simp⟩, by grind⟩ ⟨rfl, rfl, rfl, trivial⟩ rfl ?_
  rintro ⟨k, out1, A_out1, c_out1, o_out1, s_out1⟩ hp_
  obtain ⟨hinv1, hsee1out1⟩ := hp_
  refine sq (sq (rg (m_ rfl rfl (m_ rfl rfl (vl (ln rfl rfl rfl) rfl (vl (cm rfl rfl rfl rfl) rfl (en (nx ?_))))))))
  by_cases h17 : ((k : Nat) : Int) < (((leafP t (shapeOf t)).length : Nat) : Int)
  · refine ct rfl (decide_eq_true h17) (sk (nx (sq (bk (rg (m_ rfl rfl (m_ rfl rfl (m_ rfl rfl ?_))))))))
    refine gx 1 k rfl (by omega) fun y23 p18 cs_ s19 w22 m24 e20 r21 us19 => ?_
    obtain ⟨A25, c26, A27, c28, rfl⟩ := kPairS_sh r21
    refine vl (ix k e20 rfl rfl rfl rfl rfl (by omega)) rfl (vl (ldq 0 rfl rfl rfl rfl rfl rfl rfl) rfl (f1 (gl (Kd.Seals.row kPairS_self _) (fun s29 us29 => ?_))))
    refine gp 1 Kd.Sub.rfl rfl (cs' := [.int .i64 y23.id, .slice A25 y23.rect.low.length c26, .slice A27 y23.rect.high.length c28]) rfl fun s30 w_ rs30 us30 => ?_
    refine cm_ (dk := (Kd.row 91 kPairS)) (x := (addTo out1 y23)) (S := (s29 ++ s30)) (by kernel_rfl) rfl rfl rfl (sna (snt 1 rfl) (snt 0 rfl)) (fun w_ hs_ => spec_l2Add w_ (hs_.at 1 rfl) (hs_.at 0 rfl) (by omega)) (fun cs_ o33 s34 w_ r35 t36 => ?_)
    obtain ⟨A31, c32, rfl⟩ := Kd.row_sh r35
    refine a_ rfl rfl (en (xn (nx (rg (m_ rfl rfl (vl (ra (c := ((k + 1 : Nat) : Int)) rfl rfl rfl (by omega) (by omega) (by omega)) rfl (a_ rfl rfl (en ?_))))))))
    exact lpe (s := (k, out1, A_out1, c_out1, o_out1, s_out1)) (k + 1, (addTo out1 y23), A31, c32, o33, s34) [0, 3, 3] ⟨⟨by omega, sortP_snoc hinv1.2.1 m24, by rw [addTo_len]; omega⟩, by grind⟩ (by show (leafP t (shapeOf t)).length - (k + 1) < (leafP t (shapeOf t)).length - k; omega) ⟨rfl, rfl, rfl, trivial⟩ rfl
  · refine cf rfl (decide_eq_false h17) (xt (xq (xq (xb (nx (sq (rg (m_ rfl rfl (cm_ (dk := (Kd.row 91 kPairO)) (x := out1) (S := []) (by kernel_rfl) rfl rfl rfl sn0 (fun w_ hs_ => bor (Kd.Seals.row kPairS_self _) (hs_.at 0 rfl) fun _ lb0_ => spec_l2Copies w_ lb0_ (by first | omega | (have z := sortP_len (leafP t (wk t)); omega)) (fun p hp_ => by have z := leafP_in (wk_met hp).2 hS p (by rw [← esh]; exact sortP_mem (by rw [hinv1.2.1, List.take_of_length_le (by omega)] at hp_; exact hp_)); omega)) (fun cs_ o40 s41 w_ r42 t43 => ?_))))))))))
    obtain ⟨A38, c39, rfl⟩ := Kd.row_sh r42
    exact a_ rfl rfl (en (nx (rt (gr (pairsT t) (by rw [hinv1.2.1, List.take_of_length_le (by omega), esh]; rfl) (ret1 rfl rfl (fun w_ hs_ => made hs_ rfl (by grind)))))))
/-! impl.PairsIn -/
set_option maxRecDepth 20000 in
set_option maxHeartbeats 2000000 in
theorem impl_PairsIn (w : World) {At2 : Option Addr} {ct2 : Nat} {At3 : Option Addr} {ct3 : Nat} {At4 : Option Addr} {ct4 : Nat} {t : Tree} {st_ : List Nat} (ht : kTreeS.Rel w [.int .i64 t.style, .int .i64 t.arena.dims, .slice At2 t.arena.nodes.length ct2, .slice At3 t.arena.free.length ct3, .slice At4 t.arena.retired.length ct4, .int .i64 t.root, .int .i64 t.rootNsn, .int .i64 t.counter] t [] st_)  : Calls Tryz.prog 29 #[.agg #[.int .i64 t.style, .int .i64 t.arena.dims, .slice At2 t.arena.nodes.length ct2, .slice At3 t.arena.free.length ct3, .slice At4 t.arena.retired.length ct4, .int .i64 t.root, .int .i64 t.rootNsn, .int .i64 t.counter]] w (Made kPairsResultO w (pairsRes t) []) := by
  refine fnc (X := X14 19 w) (args := [.agg #[.int .i64 t.style, .int .i64 t.arena.dims, .slice At2 t.arena.nodes.length ct2, .slice At3 t.arena.free.length ct3, .slice At4 t.arena.retired.length ct4, .int .i64 t.root, .int .i64 t.rootNsn, .int .i64 t.counter]]) (l := [(0, .agg #[.int .i64 t.style, .int .i64 t.arena.dims, .slice At2 t.arena.nodes.length ct2, .slice At3 t.arena.free.length ct3, .slice At4 t.arena.retired.length ct4, .int .i64 t.root, .int .i64 t.rootNsn, .int .i64 t.counter])]) (G := [dat kTreeS [.int .i64 t.style, .int .i64 t.arena.dims, .slice At2 t.arena.nodes.length ct2, .slice At3 t.arena.free.length ct3, .slice At4 t.arena.retired.length ct4, .int .i64 t.root, .int .i64 t.rootNsn, .int .i64 t.counter] t ([]) st_]) Tryz.func29 rfl rfl rfl ⟨rfl, trivial⟩ (s0d ht (s0n w)).1 ?_
  refine sq (rg (bx rfl rfl rfl rfl ?_))
  intro b1
  refine al zero37 rfl rfl rfl ?_
  intro b2
  refine en (nx (sq (sq (rg (vl (ldb 1 rfl rfl rfl rfl rfl rfl rfl) rfl ?_)))))
  refine cs_ (v := .int .i64 (treeFault t)) (by kernel_rfl) rfl rfl rfl (fun w_ hs_ => impl_TreeFault w_ (hs_.at 2 rfl)) (a_ rfl rfl (en (nx (sq (rg (m_ rfl rfl (vl (cm rfl rfl rfl rfl) rfl (en (nx ?_)))))))))
  by_cases h3 : (treeFault t) = (0 : Int)
  · obtain ⟨hS, hp, hr⟩ := tree_0 h3; have hpn := pairsT_len hS hp
    refine cf rfl (bne_eq_false_iff_eq.2 h3) (sk (nx (sq (rg (vl (ldb 1 rfl rfl rfl rfl rfl rfl rfl) rfl (cm_ (dk := (Kd.row 91 kPairO)) (x := (pairsT t)) (S := []) (by kernel_rfl) rfl rfl rfl sn0 (fun w_ hs_ => impl_Tree_pairs w_ (hs_.at 2 rfl) hS hp hr) (fun cs_ o6 s7 w_ r8 t9 => ?_)))))))
    obtain ⟨A4, c5, rfl⟩ := Kd.row_sh r8
    refine a_ rfl rfl (en (nx (sq (sq (rg (m_ rfl rfl (vl (ln rfl rfl rfl) rfl (vl (cm rfl rfl rfl rfl) rfl (en (nx ?_))))))))))
    by_cases h11 : (60 : Int) < (((pairsT t).length : Nat) : Int)
    · exact ct rfl (decide_eq_true h11) (sq (rg (vl (bd bld37 rfl rfl rfl) rfl (f1 (sto rfl rfl rfl rfl rfl rfl rfl (cs' := [.int .i64 2, .slice none 0 0]) rfl (en (nx (rt (xr (gs (Kd.row 91 kPairO) [.slice none 0 0] ((⟨2, []⟩ : PairsResult).pairs) (fun _ => .inl ⟨rfl, rfl, rfl, rfl⟩) (gs Kd.i64 [.int .i64 2] ((⟨2, []⟩ : PairsResult).code) (fun _ => ⟨rfl, rfl, rfl⟩) (gj (da := (Kd.via Kd.i64 PairsResult.code)) (db := (Kd.via (Kd.row 91 kPairO) PairsResult.pairs)) (x := (⟨2, []⟩ : PairsResult)) (cs := [.int .i64 2, .slice none 0 0]) rfl (gr (pairsRes t) (by unfold pairsRes; rw [if_pos h3, if_pos h11]) (retc 1 rfl rfl rfl rfl rfl rfl (fun w_ hs_ => made hs_ rfl (see_app see_nil see_nil))))))))))))))))
    · exact cf rfl (decide_eq_false h11) (sk (nx (sq (rg (m_ rfl rfl (vl (bd bld37 rfl rfl rfl) rfl (f1 (sto rfl rfl rfl rfl rfl rfl rfl (cs' := [.int .i64 0, .slice A4 ((pairsT t).length) c5]) rfl (en (nx (rt (f1 (gs Kd.i64 [.int .i64 0] ((⟨0, (pairsT t)⟩ : PairsResult).code) (fun _ => ⟨rfl, rfl, rfl⟩) (gj (da := (Kd.via Kd.i64 PairsResult.code)) (db := (Kd.via (Kd.row 91 kPairO) PairsResult.pairs)) (x := (⟨0, (pairsT t)⟩ : PairsResult)) (cs := [.int .i64 0, .slice A4 ((pairsT t).length) c5]) rfl (gr (pairsRes t) (by unfold pairsRes; rw [if_pos h3, if_neg h11]) (retc 1 rfl rfl rfl rfl rfl rfl (fun w_ hs_ => made hs_ rfl (see_app see_nil t9))))))))))))))))))
  · exact ct rfl (bne_iff_ne.2 h3) (sq (rg (m_ rfl rfl (vl (bd bld37 rfl rfl rfl) rfl (sto rfl rfl rfl rfl rfl rfl rfl (cs' := [.int .i64 (treeFault t), .slice none 0 0]) rfl (en (nx (rt (xr (gs (Kd.row 91 kPairO) [.slice none 0 0] ((⟨(treeFault t), []⟩ : PairsResult).pairs) (fun _ => .inl ⟨rfl, rfl, rfl, rfl⟩) (gs Kd.i64 [.int .i64 (treeFault t)] ((⟨(treeFault t), []⟩ : PairsResult).code) (fun _ => ⟨rfl, rfl, rfl⟩) (gj (da := (Kd.via Kd.i64 PairsResult.code)) (db := (Kd.via (Kd.row 91 kPairO) PairsResult.pairs)) (x := (⟨(treeFault t), []⟩ : PairsResult)) (cs := [.int .i64 (treeFault t), .slice none 0 0]) rfl (gr (pairsRes t) (by unfold pairsRes; rw [if_neg h3]) (retc 1 rfl rfl rfl rfl rfl rfl (fun w_ hs_ => made hs_ rfl (see_app see_nil see_nil))))))))))))))))
/-! spec.PairsIn -/
set_option maxRecDepth 20000 in
set_option maxHeartbeats 2000000 in
theorem spec_PairsIn (w : World) {At2 : Option Addr} {ct2 : Nat} {At3 : Option Addr} {ct3 : Nat} {At4 : Option Addr} {ct4 : Nat} {t : Tree} {st_ : List Nat} (ht : kTreeS.Rel w [.int .i64 t.style, .int .i64 t.arena.dims, .slice At2 t.arena.nodes.length ct2, .slice At3 t.arena.free.length ct3, .slice At4 t.arena.retired.length ct4, .int .i64 t.root, .int .i64 t.rootNsn, .int .i64 t.counter] t [] st_)  : Calls Tryz.prog 22 #[.agg #[.int .i64 t.style, .int .i64 t.arena.dims, .slice At2 t.arena.nodes.length ct2, .slice At3 t.arena.free.length ct3, .slice At4 t.arena.retired.length ct4, .int .i64 t.root, .int .i64 t.rootNsn, .int .i64 t.counter]] w (Made kPairsResultO w (pairsRes t) []) := by
  refine fnc (X := X14 18 w) (args := [.agg #[.int .i64 t.style, .int .i64 t.arena.dims, .slice At2 t.arena.nodes.length ct2, .slice At3 t.arena.free.length ct3, .slice At4 t.arena.retired.length ct4, .int .i64 t.root, .int .i64 t.rootNsn, .int .i64 t.counter]]) (l := [(0, .agg #[.int .i64 t.style, .int .i64 t.arena.dims, .slice At2 t.arena.nodes.length ct2, .slice At3 t.arena.free.length ct3, .slice At4 t.arena.retired.length ct4, .int .i64 t.root, .int .i64 t.rootNsn, .int .i64 t.counter])]) (G := [dat kTreeS [.int .i64 t.style, .int .i64 t.arena.dims, .slice At2 t.arena.nodes.length ct2, .slice At3 t.arena.free.length ct3, .slice At4 t.arena.retired.length ct4, .int .i64 t.root, .int .i64 t.rootNsn, .int .i64 t.counter] t ([]) st_]) Tryz.func22 rfl rfl rfl ⟨rfl, trivial⟩ (s0d ht (s0n w)).1 ?_
  refine sq (rg (bx rfl rfl rfl rfl ?_))
  intro b1
  refine al zero37 rfl rfl rfl ?_
  intro b2
  refine en (nx (sq (sq (rg (vl (ldb 1 rfl rfl rfl rfl rfl rfl rfl) rfl ?_)))))
  refine cs_ (v := .int .i64 (treeFault t)) (by kernel_rfl) rfl rfl rfl (fun w_ hs_ => spec_TreeFault w_ (hs_.at 2 rfl)) (a_ rfl rfl (en (nx (sq (rg (m_ rfl rfl (vl (cm rfl rfl rfl rfl) rfl (en (nx ?_)))))))))
  by_cases h3 : (treeFault t) = (0 : Int)
  · obtain ⟨hS, hp, hr⟩ := tree_0 h3; have hpn := pairsT_len hS hp
    refine cf rfl (bne_eq_false_iff_eq.2 h3) (sk (nx (sq (rg (cm_ (dk := (Kd.row 91 kPairO)) (x := (pairsT t)) (S := []) (by kernel_rfl) rfl rfl rfl sn0 (fun w_ hs_ => spec_l6Sorted w_ (ptr_blk (hs_.at 1 rfl) (hs_.at 2 rfl) rfl) hS hp hr) (fun cs_ o6 s7 w_ r8 t9 => ?_))))))
    obtain ⟨A4, c5, rfl⟩ := Kd.row_sh r8
    refine a_ rfl rfl (en (nx (sq (sq (rg (m_ rfl rfl (vl (ln rfl rfl rfl) rfl (vl (cm rfl rfl rfl rfl) rfl (en (nx ?_))))))))))
    by_cases h11 : (60 : Int) < (((pairsT t).length : Nat) : Int)
    · exact ct rfl (decide_eq_true h11) (sq (rg (vl (bd bld37 rfl rfl rfl) rfl (f1 (sto rfl rfl rfl rfl rfl rfl rfl (cs' := [.int .i64 2, .slice none 0 0]) rfl (en (nx (rt (xr (gs (Kd.row 91 kPairO) [.slice none 0 0] ((⟨2, []⟩ : PairsResult).pairs) (fun _ => .inl ⟨rfl, rfl, rfl, rfl⟩) (gs Kd.i64 [.int .i64 2] ((⟨2, []⟩ : PairsResult).code) (fun _ => ⟨rfl, rfl, rfl⟩) (gj (da := (Kd.via Kd.i64 PairsResult.code)) (db := (Kd.via (Kd.row 91 kPairO) PairsResult.pairs)) (x := (⟨2, []⟩ : PairsResult)) (cs := [.int .i64 2, .slice none 0 0]) rfl (gr (pairsRes t) (by unfold pairsRes; rw [if_pos h3, if_pos h11]) (retc 1 rfl rfl rfl rfl rfl rfl (fun w_ hs_ => made hs_ rfl (see_app see_nil see_nil))))))))))))))))
    · exact cf rfl (decide_eq_false h11) (sk (nx (sq (rg (m_ rfl rfl (vl (bd bld37 rfl rfl rfl) rfl (f1 (sto rfl rfl rfl rfl rfl rfl rfl (cs' := [.int .i64 0, .slice A4 ((pairsT t).length) c5]) rfl (en (nx (rt (f1 (gs Kd.i64 [.int .i64 0] ((⟨0, (pairsT t)⟩ : PairsResult).code) (fun _ => ⟨rfl, rfl, rfl⟩) (gj (da := (Kd.via Kd.i64 PairsResult.code)) (db := (Kd.via (Kd.row 91 kPairO) PairsResult.pairs)) (x := (⟨0, (pairsT t)⟩ : PairsResult)) (cs := [.int .i64 0, .slice A4 ((pairsT t).length) c5]) rfl (gr (pairsRes t) (by unfold pairsRes; rw [if_pos h3, if_neg h11]) (retc 1 rfl rfl rfl rfl rfl rfl (fun w_ hs_ => made hs_ rfl (see_app see_nil t9))))))))))))))))))
  · exact ct rfl (bne_iff_ne.2 h3) (sq (rg (m_ rfl rfl (vl (bd bld37 rfl rfl rfl) rfl (sto rfl rfl rfl rfl rfl rfl rfl (cs' := [.int .i64 (treeFault t), .slice none 0 0]) rfl (en (nx (rt (xr (gs (Kd.row 91 kPairO) [.slice none 0 0] ((⟨(treeFault t), []⟩ : PairsResult).pairs) (fun _ => .inl ⟨rfl, rfl, rfl, rfl⟩) (gs Kd.i64 [.int .i64 (treeFault t)] ((⟨(treeFault t), []⟩ : PairsResult).code) (fun _ => ⟨rfl, rfl, rfl⟩) (gj (da := (Kd.via Kd.i64 PairsResult.code)) (db := (Kd.via (Kd.row 91 kPairO) PairsResult.pairs)) (x := (⟨(treeFault t), []⟩ : PairsResult)) (cs := [.int .i64 (treeFault t), .slice none 0 0]) rfl (gr (pairsRes t) (by unfold pairsRes; rw [if_neg h3]) (retc 1 rfl rfl rfl rfl rfl rfl (fun w_ hs_ => made hs_ rfl (see_app see_nil see_nil))))))))))))))))
end Go.Proofs.YtfaflffdekoimaaGreat.Sx
