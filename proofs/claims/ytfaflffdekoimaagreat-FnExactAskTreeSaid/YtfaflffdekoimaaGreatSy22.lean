/- What functions of the program answer, each at every input that its row names; walked through their code. -/
import Derived.Test.YtfaflffdekoimaaGreatSy21
namespace Go.Proofs.YtfaflffdekoimaaGreat.Sx
open Go Go.RowKit Go.Proofs
set_option linter.unusedVariables false
set_option linter.unusedSimpArgs false
def tab22 : Tab := { size := [(2, 1, false), (23, 1, false), (37, 2, true), (46, 2, true), (48, 5, true), (91, 3, true)], off := [((48, 0), 0), ((48, 2), 3), ((48, 3), 4), ((91, 1), 1)], elem := [(35, 91)] }
theorem tab_ok22 : tab22.check Tryz.prog = true := by kernel_rfl
noncomputable abbrev X22 (N : Nat) (w : World) : Cx := ⟨Tryz.prog, tab22, tab_ok22, wide, N, w, none, []⟩

/-! impl.answered -/
set_option maxRecDepth 20000 in
set_option maxHeartbeats 2000000 in
theorem impl_answered (w : World) {Alist : Option Addr} {clist : Nat} {list : List Pair} {slist_ : List Nat} (hlist : (Kd.sl kPairS).Rel w [.slice Alist list.length clist] list [] slist_) {Aq1 : Option Addr} {cq1 : Nat} {Aq2 : Option Addr} {cq2 : Nat} {Aq3 : Option Addr} {cq3 : Nat} {q : Query} {sq_ : List Nat} (hq : kQueryS.Rel w [.int .i64 q.kind, .slice Aq1 q.rect.low.length cq1, .slice Aq2 q.rect.high.length cq2, .slice Aq3 q.point.length cq3, .int .i64 q.k] q [] sq_) {d : Nat} (hd : d ≤ 3) (yFl : ∀ x ∈ list, FitR d x.rect) (yFq : FitQ d q) (hz : list.length ≤ 60) (yFs : ∀ x ∈ list, szPair x ≤ 1048576) (yU : ∀ x ∈ list, ∀ y ∈ list, x.id = y.id → x = y) (yN : list.Nodup) : Calls Tryz.prog 66 #[.slice Alist list.length clist, .agg #[.int .i64 q.kind, .slice Aq1 q.rect.low.length cq1, .slice Aq2 q.rect.high.length cq2, .slice Aq3 q.point.length cq3, .int .i64 q.k]] w (Made (Kd.row 91 kPairO) w (answerL list q) []) := by
  have Llist := Kd.sl_len hlist; have Clist := Kd.sl_cap hlist
  refine fnc (X := X22 42 w) (args := [.slice Alist list.length clist, .agg #[.int .i64 q.kind, .slice Aq1 q.rect.low.length cq1, .slice Aq2 q.rect.high.length cq2, .slice Aq3 q.point.length cq3, .int .i64 q.k]]) (l := [(0, .slice Alist list.length clist), (1, .agg #[.int .i64 q.kind, .slice Aq1 q.rect.low.length cq1, .slice Aq2 q.rect.high.length cq2, .slice Aq3 q.point.length cq3, .int .i64 q.k])]) (G := [dat kQueryS [.int .i64 q.kind, .slice Aq1 q.rect.low.length cq1, .slice Aq2 q.rect.high.length cq2, .slice Aq3 q.point.length cq3, .int .i64 q.k] q ([]) sq_, dat (Kd.sl kPairS) [.slice Alist list.length clist] list ([]) slist_]) Tryz.func66 rfl rfl rfl ⟨rfl, rfl, trivial⟩ (s0d hq (s0d hlist (s0n w))).1 ?_
  refine sq (rg (bx rfl rfl rfl rfl ?_))
  intro b1
  refine a_ rfl rfl (en (nx (sq (rg (bs0 (dk := kPairT) rfl info91 rfl rfl ?_)))))
  intro b2
  refine a_ rfl rfl (en (nx (sq (sq (rg (m_ rfl rfl (cm_ (dk := (Kd.row 91 kPairO)) (x := list) (S := []) (by kernel_rfl) rfl rfl rfl sn0 (fun w_ hs_ => impl_clonedPairs w_ (hs_.at 3 rfl) (by omega) yFs) (fun cs_ o5 s6 w_ r7 t8 => ?_))))))))
  obtain ⟨A3, c4, rfl⟩ := Kd.row_sh r7
  refine vl (ln rfl rfl rfl) rfl (m_ rfl rfl (en (nx (bk (gtag kPairO_seal rfl (fun ts bs_ s10 et eo_ en_ es_ ex_ ee_ => ?_))))))
  have yn_ := t8
  have etl : ts.length = list.length := by rw [← et, List.length_map]
  refine gl (Kd.Seals.row kPairT_self _) (fun s11 us11 => ?_)
  refine lp (σ := Nat × List (Tg Pair) × Option Addr × Nat × List Nat × List Nat) (fun z_ : Nat × List (Tg Pair) × Option Addr × Nat × List Nat × List Nat => match z_ with | (k, out1, A_out1, c_out1, o_out1, s_out1) => [(3, .pointer (some ⟨b1, 0, none⟩)), (5, .slice A_out1 out1.length c_out1), (10, .slice A3 list.length c4), (11, .int .i64 ((list.length : Nat) : Int)), (12, .int .i64 ((k : Nat) : Int))])
      (fun z_ : Nat × List (Tg Pair) × Option Addr × Nat × List Nat × List Nat => match z_ with | (k, out1, A_out1, c_out1, o_out1, s_out1) => [dat (Kd.row 91 kPairT) [.slice A_out1 out1.length c_out1] out1 o_out1 s_out1, dat (Kd.sl kPairT) [.slice A3 list.length c4] ts ([]) s11, pool kPairO ts, blk b1 [.int .i64 q.kind, .slice Aq1 q.rect.low.length cq1, .slice Aq2 q.rect.high.length cq2, .slice Aq3 q.point.length cq3, .int .i64 q.k] 48, dat kQueryS [.int .i64 q.kind, .slice Aq1 q.rect.low.length cq1, .slice Aq2 q.rect.high.length cq2, .slice Aq3 q.point.length cq3, .int .i64 q.k] q ([]) sq_])
      (fun z_ : Nat × List (Tg Pair) × Option Addr × Nat × List Nat × List Nat => match z_ with | (k, out1, A_out1, c_out1, o_out1, s_out1) => (k ≤ list.length ∧ out1 = (ts.take k).filter (hitT q)) ∧ (∀ q ∈ s_out1, True)) (fun z_ : Nat × List (Tg Pair) × Option Addr × Nat × List Nat × List Nat => match z_ with | (k, out1, A_out1, c_out1, o_out1, s_out1) => list.length - k) (0, [], (some ⟨b2, 0, none⟩), 0, [b2], []) [2, 0, 0, 0, 0] ⟨⟨Nat.zero_le _, rfl⟩, by grind⟩ ⟨rfl, rfl, rfl, rfl, rfl, trivial⟩ rfl ?_
  rintro ⟨k, out1, A_out1, c_out1, o_out1, s_out1⟩ hp_
  obtain ⟨hinv1, hsee1out1⟩ := hp_; have zo : out1.length ≤ list.length := (by rw [hinv1.2]; exact Nat.le_trans (List.length_filter_le _ _) (by rw [List.length_take]; omega)); have yFm := tag_fit hinv1.2 et yFl
  refine sq (rg (vl (cm rfl rfl rfl rfl) rfl (en (nx (sq ?_)))))
  by_cases h12 : ((k : Nat) : Int) < ((list.length : Nat) : Int)
  · refine ct rfl (decide_eq_true h12) (sk (nx (sq (bk (sq (rg ?_))))))
    refine gx 1 k rfl (by omega) fun y18 p13 cs_ s14 w17 m19 e15 r16 us14 => ?_
    obtain ⟨A20, c21, A22, c23, rfl⟩ := kPairT_sh r16
    refine vl (ix k e15 rfl rfl rfl rfl rfl (by omega)) rfl (vl (ldq 0 rfl rfl rfl rfl rfl rfl rfl) rfl (al zero91 rfl rfl rfl ?_))
    intro b24
    refine sto rfl rfl rfl rfl rfl rfl rfl (cs' := [.int .i64 y18.1.id, .slice A20 y18.1.rect.low.length c21, .slice A22 y18.1.rect.high.length c23]) rfl (en (nx (sq (rg (vl (ldb 5 rfl rfl rfl rfl rfl rfl rfl) rfl (vl (fa rfl rfl rfl) rfl (vl (ldb 0 rfl rfl rfl rfl rfl rfl rfl) rfl ?_)))))))
    refine gp 1 kPairT_p1_2 rfl (cs' := [.slice A20 y18.1.rect.low.length c21, .slice A22 y18.1.rect.high.length c23]) rfl fun s25 w_ rs25 us25 => ?_
    refine cs_ (v := .bool (matchQ q y18.1.rect)) (by kernel_rfl) rfl rfl rfl (fun w_ hs_ => impl_Query_matches w_ (hs_.at 7 rfl) (hs_.at 0 rfl) hd yFq (yFl _ (by rw [← et]; exact List.mem_map_of_mem (List.mem_of_getElem? m19)))) (en (nx ?_))
    by_cases h26 : matchQ q y18.1.rect = true
    · refine ct rfl h26 (rg (m_ rfl rfl (vl (ldb 1 rfl rfl rfl rfl rfl rfl rfl) rfl ?_)))
      refine gp 2 Kd.Sub.rfl rfl (cs' := [.int .i64 y18.1.id, .slice A20 y18.1.rect.low.length c21, .slice A22 y18.1.rect.high.length c23]) rfl fun s28 w_ rs28 us28 => ?_
      refine gd 0 Kd.Sub.rfl rfl (cs' := [.int .i64 y18.1.id, .slice A20 y18.1.rect.low.length c21, .slice A22 y18.1.rect.high.length c23]) rfl fun s29 w_ rs29 us29 => ?_
      refine bs1 (dk := kPairT) rfl info91 (by decide) rfl rfl rfl rfl ?_
      intro b27
      refine f5 (ap (out1 ++ [y18]) rfl info91 rfl rfl (by decide) rfl rfl rfl rfl (by first | omega | (simp only [List.length_append, List.length_cons, List.length_nil]; omega)) (by first | omega | (simp only [List.length_append, List.length_cons, List.length_nil]; omega)) rfl (fun A30 c31 o32 s33 t34 => ?_))
      refine a_ rfl rfl (en (xn (nx (rg (vl (ra (c := ((k + 1 : Nat) : Int)) rfl rfl rfl (by omega) (by omega) (by omega)) rfl (m_ rfl rfl (en ?_)))))))
      exact lpe (s := (k, out1, A_out1, c_out1, o_out1, s_out1)) (k + 1, (out1 ++ [y18]), A30, c31, o32, s33) [0, 4, 4, 4, 4] ⟨⟨by omega, tag_y hinv1.2 m19 h26⟩, by grind⟩ (by show list.length - (k + 1) < list.length - k; omega) ⟨rfl, rfl, rfl, rfl, rfl, trivial⟩ rfl
    · refine cf rfl (Bool.eq_false_iff.2 h26) (sk (xn (nx (rg (vl (ra (c := ((k + 1 : Nat) : Int)) rfl rfl rfl (by omega) (by omega) (by omega)) rfl (m_ rfl rfl (en ?_)))))))
      exact lpe (s := (k, out1, A_out1, c_out1, o_out1, s_out1)) (k + 1, out1, A_out1, c_out1, o_out1, s_out1) [3, 3, 3, 3, 3] ⟨⟨by omega, tag_n hinv1.2 m19 h26⟩, by grind⟩ (by show list.length - (k + 1) < list.length - k; omega) ⟨rfl, rfl, rfl, rfl, rfl, trivial⟩ rfl
  · refine cf rfl (decide_eq_false h12) (xt (xq (xq (xb (nx (sq (sq (rg (vl (fa rfl rfl rfl) rfl (vl (ldb (u := .int .i64 q.kind) 3 rfl rfl rfl rfl rfl rfl rfl) rfl (vl (cm rfl rfl rfl rfl) rfl (en (nx ?_)))))))))))))
    by_cases h35 : q.kind = (4 : Int)
    · have yk := yFq.k h35; have yp := yFq.pt (.inr h35)
      refine ct rfl (beq_iff_eq.2 h35) (sq (rg (m_ rfl rfl (vl (fa rfl rfl rfl) rfl (vl (ldb (u := .slice Aq3 q.point.length cq3) 3 rfl rfl rfl rfl rfl rfl rfl) rfl ?_)))))
      refine gd 4 kQueryS_p3_1 rfl (cs' := [.slice Aq3 q.point.length cq3]) rfl fun s36 w_ rs36 us36 => ?_
      have Ls36 := Kd.sl_len rs36; have Cs36 := Kd.sl_cap rs36
      refine cbk (gf := 158) (T := 23) (v := .slice Aq3 q.point.length cq3) (by kernel_rfl) rfl rfl rfl (fun w_ hs_ => impl_nearFirst w_ (hs_.at 0 rfl)) (fun b37 => ?_)
      refine f2 (cto (dk := (Kd.row 91 kPairT)) (cs := [.slice A_out1 out1.length c_out1]) (x := (out1.mergeSort (farT q.point))) (v := .tuple #[]) (S := s_out1) (by kernel_rfl) rfl rfl rfl (snt 0 rfl) _ (fun _ hs_ => hs_.below.size) (fun w_ hs_ => sort_pairs w_ (nearC q.point) (by kernel_rfl) ((hs_.pk [0] rfl).nl) (fun w1 x0 x1 m0_ m1_ b_ _ _ _ _ _ _ _ _ _ r0_ _ r1_ => impl_nearFirst_1 w1  r0_ r1_ (ptr_blk (hs_.far b_ 0 rfl) (hs_.far b_ 1 rfl) rfl) hd (yFm _ m0_) (yFm _ m1_) yp) (near_swo _) (tag_one (tag_all hinv1.2 et (by omega)) et yU yN) (by omega) rfl) (fun o38 s39 t40 => ?_))
      refine en (nx (rg (m_ rfl rfl (vl (fa rfl rfl rfl) rfl (vl (ldb (u := .int .i64 q.k) 5 rfl rfl rfl rfl rfl rfl rfl) rfl (m_ rfl rfl (vl (ln rfl rfl rfl) rfl (vl (mn rfl rfl rfl) rfl (gl (Kd.Seals.row kPairT_self _) (fun s41 us41 => ?_))))))))))
      refine gd 0 Kd.Sub.rfl rfl (cs' := [.slice A_out1 out1.length c_out1]) rfl fun s42 w_ rs42 us42 => ?_
      have Cs42 := Kd.sl_cap rs42
      refine vl (evr (v' := .slice A_out1 (((out1.mergeSort (farT q.point)).take ((gmin q.k ((out1.length : Nat) : Int)).toNat)).length) c_out1) (shi (i := ((gmin q.k ((out1.length : Nat) : Int)).toNat)) rfl rfl rfl rfl (congrArg (fun z => some (Value.int .i64 z)) (show (gmin q.k ((out1.length : Nat) : Int)) = (((gmin q.k ((out1.length : Nat) : Int)).toNat : Nat) : Int) from (by unfold gmin; split <;> omega))) (by unfold gmin; split <;> simp only [List.length_mergeSort] at * <;> omega)) (sl_eq (by simp only [List.length_take, List.length_mergeSort]; unfold gmin; split <;> omega))) rfl ?_
      refine gct 0 ((gmin q.k ((out1.length : Nat) : Int)).toNat) rfl (by unfold gmin; split <;> simp only [List.length_mergeSort] at * <;> omega) fun s43 w_ rs43 us43 => ?_
      have Ls43 := Kd.sl_len rs43
      refine cm_ (dk := (Kd.row 91 kPairT)) (x := ((out1.mergeSort (farT q.point)).take ((gmin q.k ((out1.length : Nat) : Int)).toNat))) (S := (s43)) (by kernel_rfl) rfl rfl rfl (snt 0 rfl) (fun w_ hs_ => clone_T w_ (hs_.at 0 rfl) (by simp only [List.length_take, List.length_mergeSort]; omega)) (fun cs_ o46 s47 w_ r48 t49 => ?_)
      obtain ⟨A44, c45, rfl⟩ := Kd.row_sh r48
      refine a_ rfl rfl (en (nx (sq (rg (m_ rfl rfl (a_ rfl rfl (en (nx (rt (gut 6 kPairO_seal kPairS_pure rfl (tag_mem2 (tag_all hinv1.2 et (by omega))) (tag_nd2 (tag_all hinv1.2 et (by omega)) en_) eo_ (fun o_ => ?_) ex_))))))))))
      exact gr (answerL list q) (tag_near (tag_all hinv1.2 et (by omega)) et yU h35 (by unfold gmin; split <;> omega)) (ret1 rfl rfl (fun w_ hs_ => made hs_ rfl (fun b hb => .inr (see_tag es_ yn_ (tag_mem2 (tag_all hinv1.2 et (by omega))) b hb))))
    · refine cf rfl (beq_eq_false_iff_ne.2 h35) (sk (nx (sq (rg (m_ rfl rfl (a_ rfl rfl (en (nx (rt (gut 1 kPairO_seal kPairS_pure rfl (fun t ht => (tag_in (tag_all hinv1.2 et (by omega))).subset ht) (tag_nd (tag_all hinv1.2 et (by omega)) en_) eo_ (fun o_ => ?_) ex_))))))))))
      exact gr (answerL list q) (tag_far (tag_all hinv1.2 et (by omega)) et h35) (ret1 rfl rfl (fun w_ hs_ => made hs_ rfl (fun b hb => .inr (see_tag es_ yn_ (fun t ht => (tag_in (tag_all hinv1.2 et (by omega))).subset ht) b hb))))
theorem model_nd {l : List Pair} {d : Int} (h : modelFault l d = 0) : l.Nodup := by
  unfold modelFault at h
  split at h
  · split at h
    · split at h
      · split at h
        · rename_i hr
          exact (risesP_sorted hr).imp (fun {a b} hab e => by rw [e] at hab; exact absurd hab (Int.lt_irrefl _))
        · cases h
      · rename_i h0; exact absurd h h0
    · cases h
  · cases h
theorem ans_mem {l : List Pair} {q : Query} {x : Pair} (h : x ∈ answerL l q) : x ∈ l := by
  unfold answerL at h
  split at h
  · exact (List.mem_filter.1 (near_mem (List.mem_of_mem_take h))).1
  · exact (List.mem_filter.1 h).1
theorem ans_len (l : List Pair) (q : Query) : (answerL l q).length ≤ l.length := by
  unfold answerL
  split
  · rw [List.length_take, nearList_len]; exact Nat.le_trans (Nat.min_le_right _ _) (List.length_filter_le _ _)
  · exact List.length_filter_le _ _
theorem answerRes_cnt (l : List Pair) (d : Int) (q : Query) : 0 ≤ ((answerRes l d q).pairs.map cntE_Pair).sum ∧ ((answerRes l d q).pairs.map cntE_Pair).sum ≤ 1000 := by
  refine ⟨sum_nn cntE_Pair_nn _, ?_⟩
  unfold answerRes
  split
  · rename_i h
    split
    · have mm := model_0 h
      have h3 := sum_le (f := cntE_Pair) (c := 7) (l := answerL l q) (fun x hx => by have := mm.2.2.2.1 x (ans_mem hx); unfold szPair szRect at this; unfold cntE_Pair; omega)
      have h4 := ans_len l q
      have h5 := mm.2.1
      show ((answerL l q).map cntE_Pair).sum ≤ 1000
      omega
    · simp
  · simp
/-! impl.AnswerOf -/
set_option maxRecDepth 20000 in
set_option maxHeartbeats 2000000 in
theorem impl_AnswerOf (w : World) (dims : Int) {Alist : Option Addr} {clist : Nat} {list : List Pair} {slist_ : List Nat} (hlist : (Kd.sl kPairS).Rel w [.slice Alist list.length clist] list [] slist_) {Aq1 : Option Addr} {cq1 : Nat} {Aq2 : Option Addr} {cq2 : Nat} {Aq3 : Option Addr} {cq3 : Nat} {q : Query} {sq_ : List Nat} (hq : kQueryS.Rel w [.int .i64 q.kind, .slice Aq1 q.rect.low.length cq1, .slice Aq2 q.rect.high.length cq2, .slice Aq3 q.point.length cq3, .int .i64 q.k] q [] sq_)  : Calls Tryz.prog 30 #[.slice Alist list.length clist, .int .i64 dims, .agg #[.int .i64 q.kind, .slice Aq1 q.rect.low.length cq1, .slice Aq2 q.rect.high.length cq2, .slice Aq3 q.point.length cq3, .int .i64 q.k]] w (Made kPairsResultO w (answerRes list dims q) []) := by
  have Llist := Kd.sl_len hlist; have Clist := Kd.sl_cap hlist
  refine fnc (X := X22 24 w) (args := [.slice Alist list.length clist, .int .i64 dims, .agg #[.int .i64 q.kind, .slice Aq1 q.rect.low.length cq1, .slice Aq2 q.rect.high.length cq2, .slice Aq3 q.point.length cq3, .int .i64 q.k]]) (l := [(0, .slice Alist list.length clist), (1, .int .i64 dims), (2, .agg #[.int .i64 q.kind, .slice Aq1 q.rect.low.length cq1, .slice Aq2 q.rect.high.length cq2, .slice Aq3 q.point.length cq3, .int .i64 q.k])]) (G := [dat kQueryS [.int .i64 q.kind, .slice Aq1 q.rect.low.length cq1, .slice Aq2 q.rect.high.length cq2, .slice Aq3 q.point.length cq3, .int .i64 q.k] q ([]) sq_, dat (Kd.sl kPairS) [.slice Alist list.length clist] list ([]) slist_]) Tryz.func30 rfl rfl rfl ⟨rfl, rfl, rfl, trivial⟩ (s0d hq (s0d hlist (s0n w))).1 ?_
  refine sq (rg (bx rfl rfl rfl rfl ?_))
  intro b1
  refine al zero37 rfl rfl rfl ?_
  intro b2
  refine en (nx (sq (rg (m_ rfl rfl (m_ rfl rfl (cs_ (v := .int .i64 (modelFault list dims)) (by kernel_rfl) rfl rfl rfl (fun w_ hs_ => impl_ModelFault w_ _ (hs_.at 3 rfl)) (a_ rfl rfl (en (nx (sq (sq (rg (m_ rfl rfl (vl (cm rfl rfl rfl rfl) rfl (en (nx ?_))))))))))))))))
  by_cases h3 : (modelFault list dims) = (0 : Int)
  · have mm := model_0 h3
    refine ct rfl (beq_iff_eq.2 h3) (rg (vl (ldb 1 rfl rfl rfl rfl rfl rfl rfl) rfl (m_ rfl rfl (cs_ (v := .int .i64 (queryFault q dims)) (by kernel_rfl) rfl rfl rfl (fun w_ hs_ => impl_QueryFault w_ _ (hs_.at 2 rfl)) (a_ rfl rfl (en (nx (sq (sq (rg (m_ rfl rfl (vl (cm rfl rfl rfl rfl) rfl (en (nx ?_))))))))))))))
    by_cases h4 : (queryFault q dims) = (0 : Int)
    · have yFq := (query_fit h4).1
      refine cf rfl (bne_eq_false_iff_eq.2 h4) (sk (nx (sq (rg (m_ rfl rfl (vl (ldb 1 rfl rfl rfl rfl rfl rfl rfl) rfl (cm_ (dk := (Kd.row 91 kPairO)) (x := (answerL list q)) (S := []) (by kernel_rfl) rfl rfl rfl sn0 (fun w_ hs_ => impl_answered w_ (hs_.at 3 rfl) (hs_.at 2 rfl) mm.1 mm.2.2.1 yFq mm.2.1 (fun x hx => by have z := mm.2.2.2.1 x hx; omega) mm.2.2.2.2 (model_nd h3)) (fun cs_ o7 s8 w_ r9 t10 => ?_))))))))
      obtain ⟨A5, c6, rfl⟩ := Kd.row_sh r9
      exact vl (bd bld37 rfl rfl rfl) rfl (f1 (sto rfl rfl rfl rfl rfl rfl rfl (cs' := [.int .i64 0, .slice A5 ((answerL list q).length) c6]) rfl (en (nx (rt (f1 (gs Kd.i64 [.int .i64 0] ((⟨0, (answerL list q)⟩ : PairsResult).code) (fun _ => ⟨rfl, rfl, rfl⟩) (gj (da := (Kd.via Kd.i64 PairsResult.code)) (db := (Kd.via (Kd.row 91 kPairO) PairsResult.pairs)) (x := (⟨0, (answerL list q)⟩ : PairsResult)) (cs := [.int .i64 0, .slice A5 ((answerL list q).length) c6]) rfl (gr (answerRes list dims q) (by unfold answerRes; rw [if_pos h3, if_pos h4]) (retc 1 rfl rfl rfl rfl rfl rfl (fun w_ hs_ => made hs_ rfl (see_app see_nil t10))))))))))))
    · exact ct rfl (bne_iff_ne.2 h4) (sq (rg (m_ rfl rfl (vl (bd bld37 rfl rfl rfl) rfl (sto rfl rfl rfl rfl rfl rfl rfl (cs' := [.int .i64 (queryFault q dims), .slice none 0 0]) rfl (en (nx (rt (xr (gs (Kd.row 91 kPairO) [.slice none 0 0] ((⟨(queryFault q dims), []⟩ : PairsResult).pairs) (fun _ => .inl ⟨rfl, rfl, rfl, rfl⟩) (gs Kd.i64 [.int .i64 (queryFault q dims)] ((⟨(queryFault q dims), []⟩ : PairsResult).code) (fun _ => ⟨rfl, rfl, rfl⟩) (gj (da := (Kd.via Kd.i64 PairsResult.code)) (db := (Kd.via (Kd.row 91 kPairO) PairsResult.pairs)) (x := (⟨(queryFault q dims), []⟩ : PairsResult)) (cs := [.int .i64 (queryFault q dims), .slice none 0 0]) rfl (gr (answerRes list dims q) (by unfold answerRes; rw [if_pos h3, if_neg h4]) (retc 1 rfl rfl rfl rfl rfl rfl (fun w_ hs_ => made hs_ rfl (see_app see_nil see_nil))))))))))))))))
  · exact cf rfl (beq_eq_false_iff_ne.2 h3) (sk (nx (sq (sq (rg (m_ rfl rfl (vl (cm rfl rfl rfl rfl) rfl (en (nx (ct rfl (bne_iff_ne.2 h3) (sq (rg (m_ rfl rfl (vl (bd bld37 rfl rfl rfl) rfl (sto rfl rfl rfl rfl rfl rfl rfl (cs' := [.int .i64 (modelFault list dims), .slice none 0 0]) rfl (en (nx (rt (xr (gs (Kd.row 91 kPairO) [.slice none 0 0] ((⟨(modelFault list dims), []⟩ : PairsResult).pairs) (fun _ => .inl ⟨rfl, rfl, rfl, rfl⟩) (gs Kd.i64 [.int .i64 (modelFault list dims)] ((⟨(modelFault list dims), []⟩ : PairsResult).code) (fun _ => ⟨rfl, rfl, rfl⟩) (gj (da := (Kd.via Kd.i64 PairsResult.code)) (db := (Kd.via (Kd.row 91 kPairO) PairsResult.pairs)) (x := (⟨(modelFault list dims), []⟩ : PairsResult)) (cs := [.int .i64 (modelFault list dims), .slice none 0 0]) rfl (gr (answerRes list dims q) (by unfold answerRes; rw [if_neg h3]) (retc 1 rfl rfl rfl rfl rfl rfl (fun w_ hs_ => made hs_ rfl (see_app see_nil see_nil))))))))))))))))))))))))))
end Go.Proofs.YtfaflffdekoimaaGreat.Sx
