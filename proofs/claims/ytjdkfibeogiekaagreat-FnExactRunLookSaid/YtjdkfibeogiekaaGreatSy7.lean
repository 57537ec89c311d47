/- What functions of the program answer, each at every input that its row names; walked through their code. -/
import Derived.Test.YtjdkfibeogiekaaGreatSy6
namespace Go.Proofs.YtjdkfibeogiekaaGreat.Sx
open Go Go.RowKit Go.Proofs
set_option linter.unusedVariables false
set_option linter.unusedSimpArgs false
set_option maxRecDepth 20000
set_option maxHeartbeats 2000000
variable {Alist Ap1 Ap2 : Option Addr} {clist cp1 cp2 : Nat} {slist_ sp_ : List Nat}
def tab7 : Tab := { size := [(2, 1, false), (82, 2, true)], off := [((208, 0), 0), ((208, 1), 1)], elem := [(75, 208)] }
theorem tab_ok7 : tab7.check Tryz.prog = true:=by kernel_rfl
noncomputable abbrev X7 (N : Nat) (w : World) : Cx := ⟨Tryz.prog, tab7, tab_ok7, wide, N, w, none, []⟩

theorem impl_added_1 (w : World) {Aq1 : Option Addr} {cq1 : Nat} {Aq2 : Option Addr} {cq2 : Nat} {q : Pair} {sq_ : List Nat} (hq : kPairS.Rel w [.int .i64 q.id,.slice Aq1 q.rect.low.length cq1,.slice Aq2 q.rect.high.length cq2] q [] sq_) {p : Pair} {pp : Addr} (hp : (ptr kPairS pp [.int .i64 p.id,.slice Ap1 p.rect.low.length cp1,.slice Ap2 p.rect.high.length cp2] p sp_).P w)  : Calls Tryz.prog 296 #[.agg #[.int .i64 q.id,.slice Aq1 q.rect.low.length cq1,.slice Aq2 q.rect.high.length cq2],.pointer (some pp)] w (fun e_ w2_=>e_ = .returned (.bool (decide (q.id > p.id))) ∧ Below w.heap.size w w2_):=by
  refine fnc (X:=X7 9 w) (l:=[(0,.agg #[.int .i64 q.id,.slice Aq1 q.rect.low.length cq1,.slice Aq2 q.rect.high.length cq2]),(1,.pointer (some pp))]) Tryz.func296 rfl rfl rfl ⟨rfl,rfl,trivial⟩ (s0p hp (s0d hq (s0n w))).1 ?_
  refine sq (rg (bx rfl rfl rfl rfl ?_))
  intro b1
  refine rn ik 14 [0,0,1,1] rfl (ret1 rfl rfl (fun w_ hs_=>⟨?_,hs_.below⟩))
  rfl
theorem impl_indexOf_1 (w : World) {p : Pair} (hp : kPairS.Rel w [.int .i64 p.id,.slice Ap1 p.rect.low.length cp1,.slice Ap2 p.rect.high.length cp2] p [] sp_)  {id : Int} {sid_ : List Nat} {pid : Addr} (hid : (ptr Kd.i64 pid [.int .i64 id] id sid_).P w)  : Calls Tryz.prog 294 #[.agg #[.int .i64 p.id,.slice Ap1 p.rect.low.length cp1,.slice Ap2 p.rect.high.length cp2],.pointer (some pid)] w (fun e_ w2_=>e_ = .returned (.bool (p.id == id)) ∧ Below w.heap.size w w2_):=by
  refine fnc (X:=X7 8 w) (l:=[(0,.agg #[.int .i64 p.id,.slice Ap1 p.rect.low.length cp1,.slice Ap2 p.rect.high.length cp2]),(1,.pointer (some pid))]) Tryz.func294 rfl rfl rfl ⟨rfl,rfl,trivial⟩ (s0p hid (s0d hp (s0n w))).1 ?_
  refine sq (rg (bx rfl rfl rfl rfl ?_))
  intro b1
  refine rn ik 13 [0,0,1,0] rfl (ret1 rfl rfl (fun w_ hs_=>⟨?_,hs_.below⟩))
  rfl
theorem impl_indexOf (w : World) (id : Int) {list : List Pair} (hlist : (Kd.sl kPairS).Rel w [.slice Alist list.length clist] list [] slist_)  : Calls Tryz.prog 260 #[.slice Alist list.length clist,.int .i64 id] w (fun e_ w2_=>e_ = .returned (.int .i64 (idx (fun (x0 : Pair)=>x0.id == id) list)) ∧ Below w.heap.size w w2_):=by
  have Llist:=Kd.sl_len hlist; have Clist:=Kd.sl_cap hlist
  refine fnc (X:=X7 8 w) (l:=[(0,.slice Alist list.length clist),(1,.int .i64 id)]) Tryz.func260 rfl rfl rfl ⟨rfl,rfl,trivial⟩ (s0d hlist (s0n w)).1 ?_
  refine sq (rg (bx rfl rfl rfl rfl ?_))
  intro b1
  refine rn ik 6 [] rfl (vl (mf rfl rfl rfl) rfl (gs Kd.i64 [.int .i64 id] id (fun _=>⟨rfl,rfl,rfl⟩) ?_))
  refine cs_ (v:=.int .i64 (idx (fun (x0 : Pair)=>x0.id == id) list)) (by kernel_rfl) rfl rfl rfl (fun w_ hs_=>slices_IndexFunc_impl_Pair_impl_Pair w_ (fun (x0 : Pair)=>x0.id == id) (by kernel_rfl) (hs_.at 2 rfl) (fun w1 x0 m0_ b_ _ _ _ _ _ r0_=>impl_indexOf_1 w1  r0_ (ptr_blk ((hs_.step b_).at 1 rfl) ((hs_.step b_).at 0 rfl) rfl))) (rn ik 4 [] rfl (ret1 rfl rfl (fun w_ hs_=>⟨?_,hs_.below⟩)))
  rfl
theorem impl_added (w : World) {list : List Pair} (hlist : (Kd.sl kPairS).Rel w [.slice Alist list.length clist] list [] slist_) {p : Pair} (hp : kPairS.Rel w [.int .i64 p.id,.slice Ap1 p.rect.low.length cp1,.slice Ap2 p.rect.high.length cp2] p [] sp_) (hz : list.length ≤ 1000000) (hz2 : ∀ p ∈ list,szPair p ≤ 1048576) (hzp : szRect p.rect ≤ 1048576) : Calls Tryz.prog 262 #[.slice Alist list.length clist,.agg #[.int .i64 p.id,.slice Ap1 p.rect.low.length cp1,.slice Ap2 p.rect.high.length cp2]] w (Made (Kd.row 208 kPairO) w (addTo list p) []):=by
  have Llist:=Kd.sl_len hlist; have Clist:=Kd.sl_cap hlist
  refine fnc (X:=X7 24 w) (l:=[(0,.slice Alist list.length clist),(1,.agg #[.int .i64 p.id,.slice Ap1 p.rect.low.length cp1,.slice Ap2 p.rect.high.length cp2])]) Tryz.func262 rfl rfl rfl ⟨rfl,rfl,trivial⟩ (s0d hp (s0d hlist (s0n w))).1 ?_
  refine sq (rg (bx rfl rfl rfl rfl ?_))
  intro b1
  refine rn ik 6 [] rfl (vl (mf rfl rfl rfl) rfl (cs_ (v:=.int .i64 (idx (fun (x0 : Pair)=>decide (x0.id > p.id)) list)) (by kernel_rfl) rfl rfl rfl (fun w_ hs_=>slices_IndexFunc_impl_Pair_impl_Pair w_ (fun (x0 : Pair)=>decide (x0.id > p.id)) (by kernel_rfl) (hs_.at 2 rfl) (fun w1 x0 m0_ b_ _ _ _ _ _ r0_=>impl_added_1 w1  r0_ (ptr_blk ((hs_.step b_).at 0 rfl) ((hs_.step b_).at 1 rfl) rfl))) (rn ik 10 [] rfl ?_)))
  by_cases h2 : (idx (fun (x0 : Pair)=>decide (x0.id > p.id)) list) < (0 : Int)
  · refine r1_ ik 8 [1] rfl (decide_eq_true h2) ?_
    refine gd 1 kPairS_p1_2 rfl (cs':=[.slice Ap1 p.rect.low.length cp1,.slice Ap2 p.rect.high.length cp2]) rfl fun s5 w_ rs5 us5=>?_
    refine rn ik 7 [1,3,4,5,1,0,6,7,1,0] rfl (q1 1 [0,0,0,0] rfl (by kernel_rfl) rfl (cm_ (dk:=(Kd.row 208 kPairO)) (x:=list) (S:=[]) (by kernel_rfl) rfl rfl rfl sn0 (fun w_ hs_=>by exact impl_clonedPairs w_ (hs_.at 3 rfl) (by omega) hz2) (fun cs_ o16 s17 w_ r18 t19=>?_)))
    obtain ⟨A14,c15,rfl⟩:=Kd.row_sh r18
    refine qn (q1 7 [1,1,1,1] rfl (by kernel_rfl) rfl (cm_ (dk:=kRectO) (x:=p.rect) (S:=[]) (by kernel_rfl) rfl rfl rfl sn0 (fun w_ hs_=>by exact impl_Rect_cloned w_ (hs_.at 1 rfl) (by omega)) (fun cs_ o25 s26 w_ r27 t28=>?_)))
    obtain ⟨A21,c22,A23,c24,rfl⟩:=kRectO_sh r27
    refine qn (qv 8 rfl (bd bld208 rfl rfl rfl) rfl (by kernel_rfl) (q1 9 [2,2,2,2] rfl (by kernel_rfl) rfl (gs Kd.i64 [.int .i64 p.id] p.id (fun _=>⟨rfl,rfl,rfl⟩) (gj (da:=(Kd.via Kd.i64 Pair.id)) (db:=(Kd.via kRectO Pair.rect)) (x:=p) rfl (bs1 (dk:=kPairO) rfl info208 (by decide) rfl rfl rfl rfl ?_)))))
    intro b30
    refine qn (q1 10 [2,2,2,2] rfl (by kernel_rfl) rfl ?_)
    refine f1 (gnos (Kd.NoSee.row kPairO_nos _) (fun z41=>?_))
    refine gtagx kPairO_seal rfl (fun z31 z32 z33 z34 z35 z36 z37 z38 z39 z40=>?_)
    have etl : z31.length = list.length:=(by rw [← z34,List.length_map])
    rw [← etl]
    refine f2 (gnos (Kd.NoSee.row kPairO_nos _) (fun z53=>?_))
    refine gap 1 rfl (fun z54=>?_)
    refine gtagx kPairO_seal rfl (fun z43 z44 z45 z46 z47 z48 z49 z50 z51 z52=>?_)
    obtain ⟨z55,rfl,z56⟩:=map_one z46
    refine gl (Kd.Seals.seen _) (fun s57 us57=>?_)
    refine f2 (co (dk:=(Kd.row 208 kPairT)) (x:=(List.take z31.length z31 ++ [z55] ++ List.drop z31.length z31)) (S:=(z33 ++ s57)) (by kernel_rfl) rfl rfl rfl (sna (snt 0 rfl) (snt 1 rfl)) (fun w_ hs_=>insert_T w_ _ ((hs_.pk [0,0] rfl).nl) (by omega) (by omega)) (fun cs_ o60 s61 w_ r62 t63=>?_))
    obtain ⟨A58,c59,rfl⟩:=Kd.row_sh r62
    refine qn (r1_ ik 4 [12,0] rfl ⟨[4,4,4,4],rfl⟩ (f2 (f3 (pool2 (f1 ?_)))))
    have hm_ : ∀ t ∈ (List.take z31.length z31 ++ [z55] ++ List.drop z31.length z31),t ∈ z31 ++ [z55]:=fun t ht=>ins_perm.subset ht
    have hn_ : (List.flatMap (fun t=>t.2.2.1) (List.take z31.length z31 ++ [z55] ++ List.drop z31.length z31)).Nodup:=ins_nd z36 z48 (fun b hb hb'=>z54 b (z52 b hb) (List.mem_append_left _ hb'))
    refine gut (ts:=z31 ++ [z55]) (tx:=(List.take z31.length z31 ++ [z55] ++ List.drop z31.length z31)) 0 kPairO_seal kPairS_pure rfl hm_ hn_ (new2 z35 z47) (fun o_=>?_) (nos_sep z37 z49)
    exact gr (addTo list p) (by rw [List.map_append,List.map_append,List.map_take,List.map_drop,z34,List.map_cons,List.map_nil,z56]; first | exact put_end h2 | (rw [etl]; exact put_end h2)) (ret1 rfl rfl (fun w_ hs_=>made hs_ rfl (nos_in z37 z49 hm_)))
  · obtain ⟨kh2,yh2,eh2,lh2,mh2,ph2,fh2⟩:=idx_pos (Int.not_lt.1 h2); rw [eh2] at h2; rw [eh2]
    refine r1_ ik 4 [0] rfl (decide_eq_false h2) ?_
    refine gd 1 kPairS_p1_2 rfl (cs':=[.slice Ap1 p.rect.low.length cp1,.slice Ap2 p.rect.high.length cp2]) rfl fun s66 w_ rs66 us66=>?_
    refine rn ik 7 [1,3,4,5,1,0,6,7,1,0] rfl (q1 1 [0,0,0,0] rfl (by kernel_rfl) rfl (cm_ (dk:=(Kd.row 208 kPairO)) (x:=list) (S:=[]) (by kernel_rfl) rfl rfl rfl sn0 (fun w_ hs_=>by exact impl_clonedPairs w_ (hs_.at 3 rfl) (by omega) hz2) (fun cs_ o77 s78 w_ r79 t80=>?_)))
    obtain ⟨A75,c76,rfl⟩:=Kd.row_sh r79
    refine qn (q1 7 [1,1,1,1] rfl (by kernel_rfl) rfl (cm_ (dk:=kRectO) (x:=p.rect) (S:=[]) (by kernel_rfl) rfl rfl rfl sn0 (fun w_ hs_=>by exact impl_Rect_cloned w_ (hs_.at 1 rfl) (by omega)) (fun cs_ o86 s87 w_ r88 t89=>?_)))
    obtain ⟨A82,c83,A84,c85,rfl⟩:=kRectO_sh r88
    refine qn (qv 8 rfl (bd bld208 rfl rfl rfl) rfl (by kernel_rfl) (q1 9 [2,2,2,2] rfl (by kernel_rfl) rfl (gs Kd.i64 [.int .i64 p.id] p.id (fun _=>⟨rfl,rfl,rfl⟩) (gj (da:=(Kd.via Kd.i64 Pair.id)) (db:=(Kd.via kRectO Pair.rect)) (x:=p) rfl (bs1 (dk:=kPairO) rfl info208 (by decide) rfl rfl rfl rfl ?_)))))
    intro b91
    refine qn (q1 10 [2,2,2,2] rfl (by kernel_rfl) rfl ?_)
    refine f1 (gnos (Kd.NoSee.row kPairO_nos _) (fun z102=>?_))
    refine gtagx kPairO_seal rfl (fun z92 z93 z94 z95 z96 z97 z98 z99 z100 z101=>?_)
    have etl : z92.length = list.length:=(by rw [← z95,List.length_map])
    rw [← etl]
    refine f2 (gnos (Kd.NoSee.row kPairO_nos _) (fun z114=>?_))
    refine gap 1 rfl (fun z115=>?_)
    refine gtagx kPairO_seal rfl (fun z104 z105 z106 z107 z108 z109 z110 z111 z112 z113=>?_)
    obtain ⟨z116,rfl,z117⟩:=map_one z107
    refine gl (Kd.Seals.seen _) (fun s118 us118=>?_)
    refine f2 (co (dk:=(Kd.row 208 kPairT)) (x:=(List.take kh2 z92 ++ [z116] ++ List.drop kh2 z92)) (S:=(z94 ++ s118)) (by kernel_rfl) rfl rfl rfl (sna (snt 0 rfl) (snt 1 rfl)) (fun w_ hs_=>insert_T w_ _ ((hs_.pk [0,0] rfl).nl) (by omega) (by omega)) (fun cs_ o121 s122 w_ r123 t124=>?_))
    obtain ⟨A119,c120,rfl⟩:=Kd.row_sh r123
    refine qn (r1_ ik 4 [12,0] rfl ⟨[4,4,4,4],rfl⟩ (f2 (f3 (pool2 (f1 ?_)))))
    have hm_ : ∀ t ∈ (List.take kh2 z92 ++ [z116] ++ List.drop kh2 z92),t ∈ z92 ++ [z116]:=fun t ht=>ins_perm.subset ht
    have hn_ : (List.flatMap (fun t=>t.2.2.1) (List.take kh2 z92 ++ [z116] ++ List.drop kh2 z92)).Nodup:=ins_nd z97 z109 (fun b hb hb'=>z115 b (z113 b hb) (List.mem_append_left _ hb'))
    refine gut (ts:=z92 ++ [z116]) (tx:=(List.take kh2 z92 ++ [z116] ++ List.drop kh2 z92)) 0 kPairO_seal kPairS_pure rfl hm_ hn_ (new2 z96 z108) (fun o_=>?_) (nos_sep z98 z110)
    exact gr (addTo list p) (by rw [List.map_append,List.map_append,List.map_take,List.map_drop,z95,List.map_cons,List.map_nil,z117]; first | exact put_at lh2 mh2 ph2 fh2 | (rw [etl]; exact put_at lh2 mh2 ph2 fh2)) (ret1 rfl rfl (fun w_ hs_=>made hs_ rfl (nos_in z98 z110 hm_)))
end Go.Proofs.YtjdkfibeogiekaaGreat.Sx
