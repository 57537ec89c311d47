/- What functions of the program answer, each at every input that its row names; walked through their code. -/
import Derived.Test.YtdokhlakakflmaaGreatSy3
namespace Go.Proofs.YtdokhlakakflmaaGreat.Sx
open Go Go.RowKit Go.Proofs
set_option linter.unusedVariables false
set_option linter.unusedSimpArgs false
def tab4 : Tab := { size := [(2, 1, false), (37, 2, true), (39, 5, true), (40, 1, false), (41, 1, false), (115, 3, true), (119, 3, true)], off := [((39, 0), 0), ((43, 0), 0), ((43, 1), 5), ((43, 2), 6), ((115, 0), 0), ((115, 1), 1), ((115, 2), 2), ((119, 0), 0), ((119, 1), 1)], elem := [(40, 115), (41, 119)] }
theorem tab_ok4 : tab4.check Tryz.prog = true:=by kernel_rfl
noncomputable abbrev X4 (N : Nat) (w : World) : Cx := ⟨Tryz.prog, tab4, tab_ok4, wide, N, w, none, []⟩
theorem bld119 : bld Tryz.prog 119 = some ([(0,1),(1,2)],[.int .i64 0,.slice none 0 0,.slice none 0 0]):=by kernel_rfl

set_option maxRecDepth 20000 in
set_option maxHeartbeats 2000000 in
theorem slices_IndexFunc_impl_Pair_impl_Pair (w : World) (p : Pair → Bool) {fp : FuncId} {cfp : List Value} (hEp : enters Tryz.prog fp = true) {As : Option Addr} {cs : Nat} {s : List Pair} {ss_ : List Nat} (hs : (Kd.sl kPairS).Rel w [.slice As s.length cs] s [] ss_) (hfp : ∀ (w1 : World) (x0 : Pair),x0 ∈ s → Below w.heap.size w w1 → ∀ (A0_2 : Option Addr) (c0_2 : Nat),∀ (A0_1 : Option Addr) (c0_1 : Nat),∀ s0_ : List Nat,kPairS.Rel w1 [.int .i64 x0.id,.slice A0_1 x0.rect.low.length c0_1,.slice A0_2 x0.rect.high.length c0_2] x0 [] s0_ → Calls Tryz.prog fp (([.agg #[.int .i64 x0.id,.slice A0_1 x0.rect.low.length c0_1,.slice A0_2 x0.rect.high.length c0_2]] : List Value) ++ cfp).toArray w1 (fun e_ w2_=>e_ = .returned (.bool (p x0)) ∧ Below w1.heap.size w1 w2_))  : Calls Tryz.prog 180 #[.slice As s.length cs,.func (.func fp) #[] cfp.toArray] w (fun e_ w2_=>e_ = .returned (.int .i64 (idx p s)) ∧ Below w.heap.size w w2_):=by
  have Ls:=Kd.sl_len hs; have Cs:=Kd.sl_cap hs
  refine fnc (X:=X4 19 w) (l:=[(0,.slice As s.length cs),(1,.func (.func fp) #[] cfp.toArray)]) Tryz.func180 rfl rfl rfl ⟨rfl,rfl,trivial⟩ (s0d hs (s0n w)).1 ?_
  refine sq (rg (a_ rfl rfl (en (nx (sq (sq (rg (m_ rfl rfl (vl (ln rfl rfl rfl) rfl (m_ rfl rfl (en (nx (bk ?_)))))))))))))
  refine lp (σ:=Nat) (fun k : Nat=>[(0,.slice As s.length cs),(1,.func (.func fp) #[] cfp.toArray),(7,.int .i64 ((s.length : Nat) : Int)),(8,.int .i64 ((k : Nat) : Int))])
      (fun k : Nat=>[dat (Kd.sl kPairS) [.slice As s.length cs] s ([]) ss_])
      (fun k : Nat=>k ≤ s.length ∧ ∀ j x,j < k → s[j]? = some x → p x = false) (fun k : Nat=>s.length - k) 0 [0] ⟨Nat.zero_le _,by simp⟩ ⟨rfl,rfl,rfl,rfl,trivial⟩ rfl ?_
  intro k hp_
  obtain ⟨hk,hinv⟩:=hp_
  refine sq (rg (vl (cm rfl rfl rfl rfl) rfl (en (nx (sq ?_)))))
  by_cases h1 : ((k : Nat) : Int) < ((s.length : Nat) : Int)
  · refine ct rfl (decide_eq_true h1) (sk (nx (sq (bk (sq (rg (m_ rfl rfl (a_ rfl rfl (en (nx (sq (rg (m_ rfl rfl (m_ rfl rfl (m_ rfl rfl ?_)))))))))))))))
    refine gx 0 k rfl (by omega) fun y7 p2 cs_ s3 w6 m8 e4 r5 us3=>?_
    obtain ⟨A9,c10,A11,c12,rfl⟩:=kPairS_sh r5
    refine vl (ix k e4 rfl rfl rfl rfl rfl (by omega)) rfl (vl (ldq 0 rfl rfl rfl rfl rfl rfl rfl) rfl ?_)
    refine gp 0 Kd.Sub.rfl rfl (cs':=[.int .i64 y7.id,.slice A9 y7.rect.low.length c10,.slice A11 y7.rect.high.length c12]) rfl fun s13 w_ rs13 us13=>?_
    refine cv_ (v:=.bool (p y7)) hEp rfl rfl rfl rfl (fun w_ hs_=>hfp w_ y7 (List.mem_of_getElem? m8) hs_.below _ _ _ _ _ (hs_.at 0 rfl)) (en (nx ?_))
    by_cases h14 : p y7 = true
    · refine ct rfl h14 (sq (rg (m_ rfl rfl (a_ rfl rfl (en (nx (rt (xrb (xr (xr (xrb (xr (ret1 rfl rfl (fun w_ hs_=>⟨?_,hs_.below⟩))))))))))))))
      rw [idx_some hinv m8 h14]
    · exact cf rfl (Bool.eq_false_iff.2 h14) (sk (xn (nx (rg (vl (ra (c:=((k + 1 : Nat) : Int)) rfl rfl rfl (by omega) (by omega) (by omega)) rfl (m_ rfl rfl (en (lpe (s:=k) (k + 1) [2] ⟨by omega,idx_step hinv m8 (Bool.eq_false_iff.2 h14)⟩ (by omega) ⟨rfl,rfl,rfl,rfl,trivial⟩ rfl))))))))
  · refine cf rfl (decide_eq_false h1) (xt (xq (xq (xb (nx (sq (rg (a_ rfl rfl (en (nx (rt (ret1 rfl rfl (fun w_ hs_=>⟨?_,hs_.below⟩)))))))))))))
    rw [idx_none hinv (by omega)]









def pairFault (p : Pair) (dims : Int) : Int := if within p.id 0 999 = true then rectFault p.rect dims else 3
set_option maxRecDepth 20000 in
set_option maxHeartbeats 2000000 in
theorem impl_pairFault (w : World) (dims : Int) {Ap1 : Option Addr} {cp1 : Nat} {Ap2 : Option Addr} {cp2 : Nat} {p : Pair} {sp_ : List Nat} (hp : kPairS.Rel w [.int .i64 p.id,.slice Ap1 p.rect.low.length cp1,.slice Ap2 p.rect.high.length cp2] p [] sp_)  : Calls Tryz.prog 87 #[.agg #[.int .i64 p.id,.slice Ap1 p.rect.low.length cp1,.slice Ap2 p.rect.high.length cp2],.int .i64 dims] w (fun e_ w2_=>e_ = .returned (.int .i64 (pairFault p dims)) ∧ Below w.heap.size w w2_):=by
  refine fnc (X:=X4 13 w) (l:=[(0,.agg #[.int .i64 p.id,.slice Ap1 p.rect.low.length cp1,.slice Ap2 p.rect.high.length cp2]),(1,.int .i64 dims)]) Tryz.func87 rfl rfl rfl ⟨rfl,rfl,trivial⟩ (s0d hp (s0n w)).1 ?_
  refine sq (rg (bx rfl rfl rfl rfl ?_))
  intro b1
  refine a_ rfl rfl (en (nx (sq (sq (rg (vl (fa rfl rfl rfl) rfl (vl (ldb (u:=.int .i64 p.id) 0 rfl rfl rfl rfl rfl rfl rfl) rfl (cs_ (v:=.bool (within p.id 0 999)) (by kernel_rfl) rfl rfl rfl (fun w_ hs_=>impl_isId w_ _) (vl (nt rfl rfl) rfl (en (nx ?_)))))))))))
  by_cases h2 : within p.id 0 999 = true
  · refine cf rfl (not_f h2) (sk (nx (sq (rg (vl (fa rfl rfl rfl) rfl (vl (ldb 0 rfl rfl rfl rfl rfl rfl rfl) rfl (m_ rfl rfl ?_)))))))
    refine gd 1 kPairS_p1_2 rfl (cs':=[.slice Ap1 p.rect.low.length cp1,.slice Ap2 p.rect.high.length cp2]) rfl fun s3 w_ rs3 us3=>?_
    refine cs_ (v:=.int .i64 (rectFault p.rect dims)) (by kernel_rfl) rfl rfl rfl (fun w_ hs_=>impl_RectFault w_ _ (hs_.at 0 rfl)) (a_ rfl rfl (en (nx (rt (ret1 rfl rfl (fun w_ hs_=>⟨?_,hs_.below⟩))))))
    simp [pairFault,h2]
  · refine ct rfl (not_t (Bool.eq_false_iff.2 h2)) (sq (rg (a_ rfl rfl (en (nx (rt (xr (ret1 rfl rfl (fun w_ hs_=>⟨?_,hs_.below⟩)))))))))
    simp [pairFault,h2]
set_option maxRecDepth 20000 in
set_option maxHeartbeats 2000000 in
theorem spec_l2Pair (w : World) (dims : Int) {Ap1 : Option Addr} {cp1 : Nat} {Ap2 : Option Addr} {cp2 : Nat} {p : Pair} {sp_ : List Nat} {pp : Addr} (hp : (ptr kPairS pp [.int .i64 p.id,.slice Ap1 p.rect.low.length cp1,.slice Ap2 p.rect.high.length cp2] p sp_).P w)  : Calls Tryz.prog 63 #[.pointer (some pp),.int .i64 dims] w (fun e_ w2_=>e_ = .returned (.int .i64 (pairFault p dims)) ∧ Below w.heap.size w w2_):=by
  refine fnc (X:=X4 17 w) (l:=[(0,.pointer (some pp)),(1,.int .i64 dims)]) Tryz.func63 rfl rfl rfl ⟨rfl,rfl,trivial⟩ (s0p hp (s0n w)).1 ?_
  refine sq (rg (a_ rfl rfl (en (nx (sq (sq (rg (m_ rfl rfl (vl (nc rfl rfl) rfl (vl (fa rfl rfl rfl) rfl (vl (ldp (u:=.int .i64 p.id) 0 rfl rfl rfl rfl rfl rfl rfl) rfl (cs_ (v:=.bool (within p.id 0 999)) (by kernel_rfl) rfl rfl rfl (fun w_ hs_=>spec_l1In w_ _ _ _) (vl (nt rfl rfl) rfl (en (nx ?_)))))))))))))))
  by_cases h1 : within p.id 0 999 = true
  · refine cf rfl (not_f h1) (sk (nx (sq (rg (m_ rfl rfl (vl (nc rfl rfl) rfl (vl (fa rfl rfl rfl) rfl (vl (ldp 0 rfl rfl rfl rfl rfl rfl rfl) rfl (m_ rfl rfl ?_)))))))))
    refine gp 0 kPairS_p1_2 rfl (cs':=[.slice Ap1 p.rect.low.length cp1,.slice Ap2 p.rect.high.length cp2]) rfl fun s2 w_ rs2 us2=>?_
    refine cs_ (v:=.int .i64 (rectFault p.rect dims)) (by kernel_rfl) rfl rfl rfl (fun w_ hs_=>spec_RectFault w_ _ (hs_.at 0 rfl)) (a_ rfl rfl (en (nx (rt (ret1 rfl rfl (fun w_ hs_=>⟨?_,hs_.below⟩))))))
    simp [pairFault,h1]
  · refine ct rfl (not_t (Bool.eq_false_iff.2 h1)) (sq (rg (a_ rfl rfl (en (nx (rt (xr (ret1 rfl rfl (fun w_ hs_=>⟨?_,hs_.below⟩)))))))))
    simp [pairFault,h1]
set_option maxRecDepth 20000 in
set_option maxHeartbeats 2000000 in
theorem spec_l2Copy (w : World) {Ap1 : Option Addr} {cp1 : Nat} {Ap2 : Option Addr} {cp2 : Nat} {p : Pair} {sp_ : List Nat} {pp : Addr} (hp : (ptr kPairS pp [.int .i64 p.id,.slice Ap1 p.rect.low.length cp1,.slice Ap2 p.rect.high.length cp2] p sp_).P w) (hz : szPair p ≤ 1048576) : Calls Tryz.prog 123 #[.pointer (some pp)] w (Made kPairO w p []):=by
  unfold szPair at hz
  refine fnc (X:=X4 12 w) (l:=[(0,.pointer (some pp))]) Tryz.func123 rfl rfl rfl ⟨rfl,trivial⟩ (s0p hp (s0n w)).1 ?_
  refine sq (rg (al zero119 rfl rfl rfl ?_))
  intro b1
  refine en (nx (sq ?_))
  refine gq 1 kPairS_p1_2 rfl (cs':=[.slice Ap1 p.rect.low.length cp1,.slice Ap2 p.rect.high.length cp2]) rfl fun s2 w_ rs2 us2=>?_
  refine rd (Gq:=[ptr kRectS (pp.add 1) [.slice Ap1 p.rect.low.length cp1,.slice Ap2 p.rect.high.length cp2] p.rect s2,ptr kPairS pp [.int .i64 p.id,.slice Ap1 p.rect.low.length cp1,.slice Ap2 p.rect.high.length cp2] p sp_]) [0,1] rfl (qv 0 rfl (mv rfl rfl) rfl (by kernel_rfl) (qv 1 rfl (nc rfl rfl) rfl (by kernel_rfl) (qv 2 rfl (fa rfl rfl rfl) rfl (by kernel_rfl) (qv 3 rfl (ldp (u:=.int .i64 p.id) 1 rfl rfl rfl rfl rfl rfl rfl) rfl (by kernel_rfl) (qv 4 rfl (mv rfl rfl) rfl (by kernel_rfl) (qv 5 rfl (nc rfl rfl) rfl (by kernel_rfl) (qv 6 rfl (fa rfl rfl rfl) rfl (by kernel_rfl) (q1 7 [0,1] rfl (by kernel_rfl) rfl (cm_ (dk:=kRectO) (x:=p.rect) (S:=[]) (by kernel_rfl) rfl rfl rfl sn0 (fun w_ hs_=>by exact spec_l1Copy w_ (hs_.at 0 rfl) (by omega)) (fun cs_ o11 s12 w_ r13 t14=>?_))))))))))
  obtain ⟨A7,c8,A9,c10,rfl⟩:=kRectO_sh r13
  exact qn (qv 8 rfl (bd bld119 rfl rfl rfl) rfl (by kernel_rfl) (q1 9 [1,2] rfl (by kernel_rfl) rfl (f2 (sto rfl rfl rfl rfl rfl rfl rfl (cs':=[.int .i64 p.id,.slice A7 p.rect.low.length c8,.slice A9 p.rect.high.length c10]) rfl (qn (qe [2,2] (by kernel_rfl) rfl (nx (rt (f1 (gs Kd.i64 [.int .i64 p.id] p.id (fun _=>⟨rfl,rfl,rfl⟩) (gj (da:=(Kd.via Kd.i64 Pair.id)) (db:=(Kd.via kRectO Pair.rect)) (x:=p) rfl (retc 1 rfl rfl rfl rfl rfl rfl (fun w_ hs_=>made hs_ rfl (see_app see_nil t14))))))))))))))
set_option maxRecDepth 20000 in
set_option maxHeartbeats 2000000 in
theorem impl_clonedPairs (w : World) {Alist : Option Addr} {clist : Nat} {list : List Pair} {slist_ : List Nat} (hlist : (Kd.sl kPairS).Rel w [.slice Alist list.length clist] list [] slist_) (hz : list.length ≤ 1048576) (hz2 : ∀ p ∈ list,szPair p ≤ 1048576) : Calls Tryz.prog 94 #[.slice Alist list.length clist] w (Made (Kd.row 119 kPairO) w list []):=by
  have Llist:=Kd.sl_len hlist; have Clist:=Kd.sl_cap hlist
  refine fnc (X:=X4 24 w) (l:=[(0,.slice Alist list.length clist)]) Tryz.func94 rfl rfl rfl ⟨rfl,trivial⟩ (s0d hlist (s0n w)).1 ?_
  refine sq (rg (a_ rfl rfl (en (nx (sq (rg (bs0 (dk:=kPairO) rfl info119 rfl rfl ?_)))))))
  intro b1
  refine a_ rfl rfl (en (nx (sq (sq (rg (m_ rfl rfl (vl (ln rfl rfl rfl) rfl (m_ rfl rfl (en (nx (bk ?_)))))))))))
  refine lp (σ:=Nat × List Pair × Option Addr × Nat × List Nat × List Nat) (fun z_ : Nat × List Pair × Option Addr × Nat × List Nat × List Nat=>match z_ with | (k,out,A_,c_,o_,s_)=>[(3,.slice A_ out.length c_),(7,.slice Alist list.length clist),(8,.int .i64 ((list.length : Nat) : Int)),(9,.int .i64 ((k : Nat) : Int))])
      (fun z_ : Nat × List Pair × Option Addr × Nat × List Nat × List Nat=>match z_ with | (k,out,A_,c_,o_,s_)=>[dat (Kd.row 119 kPairO) [.slice A_ out.length c_] out o_ s_,dat (Kd.sl kPairS) [.slice Alist list.length clist] list ([]) slist_])
      (fun z_ : Nat × List Pair × Option Addr × Nat × List Nat × List Nat=>match z_ with | (k,out,A_,c_,o_,s_)=>k ≤ list.length ∧ (out = list.take k) ∧ (∀ q ∈ s_,w.heap.size ≤ q) ∧ out.length ≤ k) (fun z_ : Nat × List Pair × Option Addr × Nat × List Nat × List Nat=>match z_ with | (k,out,A_,c_,o_,s_)=>list.length - k) (0,[],(some ⟨b1,0,none⟩),0,[b1],[]) [0,0] ⟨Nat.zero_le _,by simp,by simp,by simp⟩ ⟨rfl,rfl,rfl,rfl,trivial⟩ rfl ?_
  rintro ⟨k,out,A_,c_,o_,s_⟩ hp_
  obtain ⟨hk,hinv,hsee,hlen⟩:=hp_
  refine sq (rg (vl (cm rfl rfl rfl rfl) rfl (en (nx (sq ?_)))))
  by_cases h2 : ((k : Nat) : Int) < ((list.length : Nat) : Int)
  · refine ct rfl (decide_eq_true h2) (sk (nx (sq (bk (sq (rg ?_))))))
    refine gx 1 k rfl (by omega) fun y8 p3 cs_ s4 w7 m9 e5 r6 us4=>?_
    obtain ⟨A10,c11,A12,c13,rfl⟩:=kPairS_sh r6
    refine vl (ix k e5 rfl rfl rfl rfl rfl (by omega)) rfl (vl (ldq 0 rfl rfl rfl rfl rfl rfl rfl) rfl (al zero119 rfl rfl rfl ?_))
    intro b14
    refine sto rfl rfl rfl rfl rfl rfl rfl (cs':=[.int .i64 y8.id,.slice A10 y8.rect.low.length c11,.slice A12 y8.rect.high.length c13]) rfl (en (nx ?_))
    refine gp 1 kPairS_p1_2 rfl (cs':=[.slice A10 y8.rect.low.length c11,.slice A12 y8.rect.high.length c13]) rfl fun s15 w_ rs15 us15=>?_
    refine rd (Gq:=[dat kRectS [.slice A10 y8.rect.low.length c11,.slice A12 y8.rect.high.length c13] y8.rect ([]) s15,blk b14 [.int .i64 y8.id,.slice A10 y8.rect.low.length c11,.slice A12 y8.rect.high.length c13] 119,ptr kPairS p3 [.int .i64 y8.id,.slice A10 y8.rect.low.length c11,.slice A12 y8.rect.high.length c13] y8 s4,dat (Kd.sl kPairS) [.slice Alist list.length clist] list ([]) slist_]) [0,0,0,1] rfl (qv 0 rfl (mv rfl rfl) rfl (by kernel_rfl) (qv 1 rfl (fa rfl rfl rfl) rfl (by kernel_rfl) (qv 2 rfl (ldb (u:=.int .i64 y8.id) 1 rfl rfl rfl rfl rfl rfl rfl) rfl (by kernel_rfl) (qv 3 rfl (fa rfl rfl rfl) rfl (by kernel_rfl) (qv 4 rfl (ldb 1 rfl rfl rfl rfl rfl rfl rfl) rfl (by kernel_rfl) (q1 5 [0,0,0,1] rfl (by kernel_rfl) rfl (cm_ (dk:=kRectO) (x:=y8.rect) (S:=[]) (by kernel_rfl) rfl rfl rfl sn0 (fun w_ hs_=>by exact impl_Rect_cloned w_ (hs_.at 0 rfl) (by have z:=hz2 _ (List.mem_of_getElem? m9); unfold szPair at z; omega)) (fun cs_ o24 s25 w_ r26 t27=>?_))))))))
    obtain ⟨A20,c21,A22,c23,rfl⟩:=kRectO_sh r26
    refine qn (qv 6 rfl (bd bld119 rfl rfl rfl) rfl (by kernel_rfl) (q1 7 [1,1,1,2] rfl (by kernel_rfl) rfl (gs Kd.i64 [.int .i64 y8.id] y8.id (fun _=>⟨rfl,rfl,rfl⟩) (gj (da:=(Kd.via Kd.i64 Pair.id)) (db:=(Kd.via kRectO Pair.rect)) (x:=y8) rfl (bs1 (dk:=kPairO) rfl info119 (by decide) rfl rfl rfl rfl ?_)))))
    intro b29
    refine qn (q1 8 [1,1,1,2] rfl (by kernel_rfl) rfl ?_)
    refine f4 (ap (out ++ [y8]) rfl info119 rfl rfl (by decide) rfl rfl rfl rfl (by simp only [List.length_append,List.length_cons,List.length_nil]; omega) (by simp only [List.length_append,List.length_cons,List.length_nil]; omega) rfl (fun A30 c31 o32 s33 t34=>?_))
    exact qn (qv 9 rfl (as_ rfl rfl) rfl (by kernel_rfl) (qe [1,1,1,1] (by kernel_rfl) rfl (xn (nx (rg (vl (ra (c:=((k + 1 : Nat) : Int)) rfl rfl rfl (by omega) (by omega) (by omega)) rfl (m_ rfl rfl (en (lpe (s:=(k,out,A_,c_,o_,s_)) (k + 1,(out ++ [y8]),A30,c31,o32,s33) [0,3] ⟨by omega,(by rw [take_snoc m9,← hinv]),by grind,by first | omega | (simp only [List.length_append,List.length_cons,List.length_nil]; omega)⟩ (by show list.length - (k + 1) < list.length - k; omega) ⟨rfl,rfl,rfl,rfl,trivial⟩ rfl)))))))))
  · exact cf rfl (decide_eq_false h2) (xt (xq (xq (xb (nx (sq (rg (m_ rfl rfl (a_ rfl rfl (en (nx (rt (gr list (by rw [hinv,List.take_of_length_le (by omega)]) (ret1 rfl rfl (fun w_ hs_=>made hs_ rfl (by grind))))))))))))))))
set_option maxRecDepth 20000 in
set_option maxHeartbeats 2000000 in
theorem spec_l2Copies (w : World) {Alist : Option Addr} {clist : Nat} {list : List Pair} {slist_ : List Nat} (hlist : (Kd.sl kPairS).Rel w [.slice Alist list.length clist] list [] slist_) (hz : list.length ≤ 1048576) (hz2 : ∀ p ∈ list,szPair p ≤ 1048576) : Calls Tryz.prog 67 #[.slice Alist list.length clist] w (Made (Kd.row 119 kPairO) w list []):=by
  have Llist:=Kd.sl_len hlist; have Clist:=Kd.sl_cap hlist
  refine fnc (X:=X4 20 w) (l:=[(0,.slice Alist list.length clist)]) Tryz.func67 rfl rfl rfl ⟨rfl,trivial⟩ (s0d hlist (s0n w)).1 ?_
  refine sq (rg (a_ rfl rfl (en (nx (sq (rg (bs0 (dk:=kPairO) rfl info119 rfl rfl ?_)))))))
  intro b1
  refine a_ rfl rfl (en (nx (sq (sq (rg (a_ rfl rfl (en (nx (bk ?_)))))))))
  refine lp (σ:=Nat × List Pair × Option Addr × Nat × List Nat × List Nat) (fun z_ : Nat × List Pair × Option Addr × Nat × List Nat × List Nat=>match z_ with | (k,out,A_,c_,o_,s_)=>[(0,.slice Alist list.length clist),(3,.slice A_ out.length c_),(4,.int .i64 ((k : Nat) : Int))])
      (fun z_ : Nat × List Pair × Option Addr × Nat × List Nat × List Nat=>match z_ with | (k,out,A_,c_,o_,s_)=>[dat (Kd.row 119 kPairO) [.slice A_ out.length c_] out o_ s_,dat (Kd.sl kPairS) [.slice Alist list.length clist] list ([]) slist_])
      (fun z_ : Nat × List Pair × Option Addr × Nat × List Nat × List Nat=>match z_ with | (k,out,A_,c_,o_,s_)=>k ≤ list.length ∧ (out = list.take k) ∧ (∀ q ∈ s_,w.heap.size ≤ q) ∧ out.length ≤ k) (fun z_ : Nat × List Pair × Option Addr × Nat × List Nat × List Nat=>match z_ with | (k,out,A_,c_,o_,s_)=>list.length - k) (0,[],(some ⟨b1,0,none⟩),0,[b1],[]) [0,0] ⟨Nat.zero_le _,by simp,by simp,by simp⟩ ⟨rfl,rfl,rfl,trivial⟩ rfl ?_
  rintro ⟨k,out,A_,c_,o_,s_⟩ hp_
  obtain ⟨hk,hinv,hsee,hlen⟩:=hp_
  refine sq (sq (rg (m_ rfl rfl (m_ rfl rfl (vl (ln rfl rfl rfl) rfl (vl (cm rfl rfl rfl rfl) rfl (en (nx ?_))))))))
  by_cases h2 : ((k : Nat) : Int) < ((list.length : Nat) : Int)
  · refine ct rfl (decide_eq_true h2) (sk (nx (sq (bk (rg (m_ rfl rfl (m_ rfl rfl (m_ rfl rfl ?_))))))))
    refine gx 1 k rfl (by omega) fun y8 p3 cs_ s4 w7 m9 e5 r6 us4=>?_
    obtain ⟨A10,c11,A12,c13,rfl⟩:=kPairS_sh r6
    refine vl (ix k e5 rfl rfl rfl rfl rfl (by omega)) rfl (cm_ (dk:=kPairO) (x:=y8) (S:=[]) (by kernel_rfl) rfl rfl rfl sn0 (fun w_ hs_=>spec_l2Copy w_ (hs_.at 0 rfl) (by have z:=hz2 _ (List.mem_of_getElem? m9); omega)) (fun cs_ o18 s19 w_ r20 t21=>?_))
    obtain ⟨A14,c15,A16,c17,rfl⟩:=kPairO_sh r20
    refine bs1 (dk:=kPairO) rfl info119 (by decide) rfl rfl rfl rfl ?_
    intro b23
    refine f2 (ap (out ++ [y8]) rfl info119 rfl rfl (by decide) rfl rfl rfl rfl (by simp only [List.length_append,List.length_cons,List.length_nil]; omega) (by simp only [List.length_append,List.length_cons,List.length_nil]; omega) rfl (fun A24 c25 o26 s27 t28=>?_))
    exact a_ rfl rfl (en (xn (nx (rg (m_ rfl rfl (vl (ra (c:=((k + 1 : Nat) : Int)) rfl rfl rfl (by omega) (by omega) (by omega)) rfl (a_ rfl rfl (en (lpe (s:=(k,out,A_,c_,o_,s_)) (k + 1,(out ++ [y8]),A24,c25,o26,s27) [0,1] ⟨by omega,(by rw [take_snoc m9,← hinv]),by grind,by first | omega | (simp only [List.length_append,List.length_cons,List.length_nil]; omega)⟩ (by show list.length - (k + 1) < list.length - k; omega) ⟨rfl,rfl,rfl,trivial⟩ rfl)))))))))
  · exact cf rfl (decide_eq_false h2) (xt (xq (xq (xb (nx (sq (rg (m_ rfl rfl (a_ rfl rfl (en (nx (rt (gr list (by rw [hinv,List.take_of_length_le (by omega)]) (ret1 rfl rfl (fun w_ hs_=>made hs_ rfl (by grind))))))))))))))))
def markFault (kind : Int) (m : Mark) : Int := if within m.dist 0 10000 = true ∧ within m.id 0 39 = true ∧ within m.nsn 0 100000 = true then if ¬ m.dist = 0 ∧ ¬ kind = 4 then 1 else 0 else 3
def foundFault (l : List Pair) (d : Int) : Nat → Int
  | 0=>match l[0]? with
    | some p=>pairFault p d
    | none=>0
  | i + 1=>match l[i + 1]?,l[i]? with
    | some p,some a=>if pairFault p d = 0 then if p.id ≤ a.id then 1 else 0 else pairFault p d
    | _,_=>0
def lookFault (l : Look) (d : Int) : Int :=
  if queryFault l.query d = 0 then
    if (l.front.length : Int) ≤ 20000 ∧ (l.found.length : Int) ≤ 1000 then
      if firstFault (markFault l.query.kind) l.front = 0 then firstFault (foundFault l.found d) (List.range l.found.length) else firstFault (markFault l.query.kind) l.front
    else 2
  else queryFault l.query d
theorem found_bad {l : List Pair} {d : Int} {k : Nat} {p : Pair} (hp : l[k]? = some p) (h : ¬ pairFault p d = 0) : foundFault l d k = pairFault p d:=by
  cases k with
  | zero=>simp only [foundFault,hp]
  | succ k =>
    have hk : k + 1 < l.length:=(List.getElem?_eq_some_iff.1 hp).1
    have ha : l[k]? = some l[k]:=List.getElem?_eq_getElem (by omega)
    simp only [foundFault,hp,ha,if_neg h]
theorem found_ok {l : List Pair} {d : Int} {k : Nat} {p : Pair} (hp : l[k]? = some p) (h : pairFault p d = 0) (hk : k = 0 ∨ ∃ i a,i + 1 = k ∧ l[i]? = some a ∧ ¬ p.id ≤ a.id) : foundFault l d k = 0:=by
  cases k with
  | zero=>simp only [foundFault,hp,h]
  | succ k =>
    rcases hk with hk | ⟨i,a,hi,ha,hn⟩
    · omega
    · obtain rfl : i = k:=by omega
      simp only [foundFault,hp,ha,if_pos h,if_neg hn]
theorem found_low {l : List Pair} {d : Int} {k i : Nat} {p a : Pair} (hp : l[k]? = some p) (h : pairFault p d = 0) (hk : i + 1 = k) (ha : l[i]? = some a) (hn : p.id ≤ a.id) : foundFault l d k = 1:=by
  cases k with
  | zero=>omega
  | succ k =>
    obtain rfl : i = k:=by omega
    simp only [foundFault,hp,ha,if_pos h,if_pos hn]
theorem range_get {n k x : Nat} (h : (List.range n)[k]? = some x) : x = k ∧ k < n:=by
  obtain ⟨h1,h2⟩:=List.getElem?_eq_some_iff.1 h
  simp at h1 h2; exact ⟨h2.symm,h1⟩
theorem ffr_at {f : Nat → Int} {n k : Nat} (h : ∀ j,j < k → f j = 0) (hk : k < n) (hf : ¬ f k = 0) : firstFault f (List.range n) = f k :=
  firstFault_at (k:=k) (fun j x hj hx=>by rw [(range_get hx).1]; exact h j hj) (by simp [hk]) hf
theorem ffr_0 {f : Nat → Int} {n k : Nat} (h : ∀ j,j < k → f j = 0) (hk : n ≤ k) : firstFault f (List.range n) = 0 :=
  firstFault_0 (k:=k) (fun j x hj hx=>by rw [(range_get hx).1]; exact h j hj) (by simpa using hk)
theorem step_le {f : Nat → Int} {k : Nat} (h : ∀ j,j < k → f j = 0) (hk : f k = 0) : ∀ j,j < k + 1 → f j = 0:=fun j hj=>by
  rcases Nat.lt_succ_iff_lt_or_eq.1 hj with hlt | rfl
  · exact h j hlt
  · exact hk
theorem lf_q {l : Look} {d : Int} (h : ¬ queryFault l.query d = 0) : queryFault l.query d = lookFault l d:=by unfold lookFault; rw [if_neg h]
theorem lf_many {l : Look} {d : Int} (h0 : queryFault l.query d = 0) (h : ¬ ((l.front.length : Int) ≤ 20000 ∧ (l.found.length : Int) ≤ 1000)) : 2 = lookFault l d:=by unfold lookFault; rw [if_pos h0,if_neg h]
theorem lf_front {l : Look} {d v : Int} (h0 : queryFault l.query d = 0) (h : (l.front.length : Int) ≤ 20000 ∧ (l.found.length : Int) ≤ 1000) (z : firstFault (markFault l.query.kind) l.front = v) (hv : ¬ v = 0) : v = lookFault l d:=by unfold lookFault; rw [if_pos h0,if_pos h,z,if_neg hv]
theorem lf_found {l : Look} {d v : Int} (h0 : queryFault l.query d = 0) (h : (l.front.length : Int) ≤ 20000 ∧ (l.found.length : Int) ≤ 1000) (z : firstFault (markFault l.query.kind) l.front = 0) (y : firstFault (foundFault l.found d) (List.range l.found.length) = v) : v = lookFault l d:=by unfold lookFault; rw [if_pos h0,if_pos h,if_pos z,y]
theorem mark_3 {k : Int} {m : Mark} (h : ¬ (within m.dist 0 10000 = true ∧ within m.id 0 39 = true ∧ within m.nsn 0 100000 = true)) : markFault k m = 3:=by unfold markFault; rw [if_neg h]
theorem mark_1 {k : Int} {m : Mark} (h : within m.dist 0 10000 = true ∧ within m.id 0 39 = true ∧ within m.nsn 0 100000 = true) (h2 : ¬ m.dist = 0 ∧ ¬ k = 4) : markFault k m = 1:=by unfold markFault; rw [if_pos h,if_pos h2]
set_option maxRecDepth 20000 in
set_option maxHeartbeats 2000000 in
theorem impl_LookFault (w : World) (dims : Int) {Al1 : Option Addr} {cl1 : Nat} {Al2 : Option Addr} {cl2 : Nat} {Al3 : Option Addr} {cl3 : Nat} {Al5 : Option Addr} {cl5 : Nat} {Al6 : Option Addr} {cl6 : Nat} {l : Look} {sl_ : List Nat} (hl : kLookS.Rel w [.int .i64 l.query.kind,.slice Al1 l.query.rect.low.length cl1,.slice Al2 l.query.rect.high.length cl2,.slice Al3 l.query.point.length cl3,.int .i64 l.query.k,.slice Al5 l.front.length cl5,.slice Al6 l.found.length cl6] l [] sl_)  : Calls Tryz.prog 35 #[.agg #[.int .i64 l.query.kind,.slice Al1 l.query.rect.low.length cl1,.slice Al2 l.query.rect.high.length cl2,.slice Al3 l.query.point.length cl3,.int .i64 l.query.k,.slice Al5 l.front.length cl5,.slice Al6 l.found.length cl6],.int .i64 dims] w (fun e_ w2_=>e_ = .returned (.int .i64 (lookFault l dims)) ∧ Below w.heap.size w w2_):=by
  have Ll5:=Kd.sub_len kLookS_p5_1 hl; have Cl5:=Kd.sub_cap kLookS_p5_1 hl rfl
  have Ll6:=Kd.sub_len kLookS_p6_1 hl; have Cl6:=Kd.sub_cap kLookS_p6_1 hl rfl
  refine fnc (X:=X4 92 w) (l:=[(0,.agg #[.int .i64 l.query.kind,.slice Al1 l.query.rect.low.length cl1,.slice Al2 l.query.rect.high.length cl2,.slice Al3 l.query.point.length cl3,.int .i64 l.query.k,.slice Al5 l.front.length cl5,.slice Al6 l.found.length cl6]),(1,.int .i64 dims)]) Tryz.func35 rfl rfl rfl ⟨rfl,rfl,trivial⟩ (s0d hl (s0n w)).1 ?_
  refine sq (rg (bx rfl rfl rfl rfl ?_))
  intro b1
  refine a_ rfl rfl (en (nx (sq (rg (vl (fa rfl rfl rfl) rfl (vl (ldb 0 rfl rfl rfl rfl rfl rfl rfl) rfl (m_ rfl rfl ?_)))))))
  refine gd 1 kLookS_p0_5 rfl (cs':=[.int .i64 l.query.kind,.slice Al1 l.query.rect.low.length cl1,.slice Al2 l.query.rect.high.length cl2,.slice Al3 l.query.point.length cl3,.int .i64 l.query.k]) rfl fun s2 w_ rs2 us2=>?_
  refine cs_ (v:=.int .i64 (queryFault l.query dims)) (by kernel_rfl) rfl rfl rfl (fun w_ hs_=>impl_QueryFault w_ _ (hs_.at 0 rfl)) (a_ rfl rfl (en (nx (sq (bk (sq (rg (m_ rfl rfl (vl (cm rfl rfl rfl rfl) rfl (a_ rfl rfl (en (nx ?_))))))))))))
  by_cases h3 : (queryFault l.query dims) = (0 : Int)
  · refine cf rfl (bne_eq_false_iff_eq.2 h3) (sq (rg (vl (fa rfl rfl rfl) rfl (vl (ldb (u:=.slice Al5 l.front.length cl5) 1 rfl rfl rfl rfl rfl rfl rfl) rfl (vl (ln rfl rfl rfl) rfl (vl (cm rfl rfl rfl rfl) rfl (m_ rfl rfl ?_)))))))
    by_cases h4 : (20000 : Int) < ((l.front.length : Nat) : Int)
    · refine sg rfl rfl (decide_eq_true h4) (sg rfl rfl (decide_eq_true h4) (sg rfl rfl (decide_eq_true h4) (sg rfl rfl (decide_eq_true h4) (vl (pk (b:=true) rfl rfl (decide_eq_true h4) rfl) rfl (a_ rfl rfl (en (nx (ct rfl rfl (sq (rg (a_ rfl rfl (en (nx (rt (xrb (xr (ret1 rfl rfl (fun w_ hs_=>⟨?_,hs_.below⟩))))))))))))))))))
      exact ri (lf_many h3 (by omega))
    · refine vg (fa rfl rfl rfl) rfl rfl (decide_eq_false h4) (vg (ldb (u:=.slice Al6 l.found.length cl6) 1 rfl rfl rfl rfl rfl rfl rfl) rfl rfl (decide_eq_false h4) (vg (ln rfl rfl rfl) rfl rfl (decide_eq_false h4) (vg (cm rfl rfl rfl rfl) rfl rfl (decide_eq_false h4) (vl (pk (b:=false) rfl rfl (decide_eq_false h4) rfl) rfl (a_ rfl rfl (en (nx ?_)))))))
      by_cases h5 : (1000 : Int) < ((l.found.length : Nat) : Int)
      · refine ct rfl (decide_eq_true h5) (sq (rg (a_ rfl rfl (en (nx (rt (xrb (xr (ret1 rfl rfl (fun w_ hs_=>⟨?_,hs_.below⟩))))))))))
        exact ri (lf_many h3 (by omega))
      · refine cf rfl (decide_eq_false h5) (sk (xn (nx (sq (sq (rg (vl (fa rfl rfl rfl) rfl (vl (ldb (u:=.slice Al5 l.front.length cl5) 1 rfl rfl rfl rfl rfl rfl rfl) rfl (vl (ln rfl rfl rfl) rfl (m_ rfl rfl (en (nx (bk ?_)))))))))))))
        refine lp (σ:=Nat) (fun k : Nat=>[(1,.int .i64 dims),(2,.pointer (some ⟨b1,0,none⟩)),(31,.slice Al5 l.front.length cl5),(32,.int .i64 ((l.front.length : Nat) : Int)),(33,.int .i64 ((k : Nat) : Int))])
            (fun k : Nat=>[dat kQueryS [.int .i64 l.query.kind,.slice Al1 l.query.rect.low.length cl1,.slice Al2 l.query.rect.high.length cl2,.slice Al3 l.query.point.length cl3,.int .i64 l.query.k] l.query ([]) s2,blk b1 [.int .i64 l.query.kind,.slice Al1 l.query.rect.low.length cl1,.slice Al2 l.query.rect.high.length cl2,.slice Al3 l.query.point.length cl3,.int .i64 l.query.k,.slice Al5 l.front.length cl5,.slice Al6 l.found.length cl6] 43,dat kLookS [.int .i64 l.query.kind,.slice Al1 l.query.rect.low.length cl1,.slice Al2 l.query.rect.high.length cl2,.slice Al3 l.query.point.length cl3,.int .i64 l.query.k,.slice Al5 l.front.length cl5,.slice Al6 l.found.length cl6] l ([]) sl_])
            (fun k : Nat=>k ≤ l.front.length ∧ ∀ j x,j < k → l.front[j]? = some x → markFault l.query.kind x = 0) (fun k : Nat=>l.front.length - k) 0 [0,0,0] ⟨Nat.zero_le _,by simp⟩ ⟨rfl,rfl,rfl,rfl,rfl,trivial⟩ rfl ?_
        intro k hp_
        obtain ⟨hk,hinv⟩:=hp_
        refine sq (rg (vl (cm rfl rfl rfl rfl) rfl (en (nx (sq ?_)))))
        by_cases h6 : ((k : Nat) : Int) < ((l.front.length : Nat) : Int)
        · refine ct rfl (decide_eq_true h6) (sk (nx (sq (bk (sq (rg ?_))))))
          refine gd 2 kLookS_p5_1 rfl (cs':=[.slice Al5 l.front.length cl5]) rfl fun s7 w_ rs7 us7=>?_
          have Ls7:=Kd.sl_len rs7; have Cs7:=Kd.sl_cap rs7
          refine gx 0 k rfl (by omega) fun y13 p8 cs_ s9 w12 m14 e10 r11 us9=>?_
          obtain ⟨rfl⟩:=kMarkS_sh r11
          refine vl (ix k e10 rfl rfl rfl rfl rfl (by omega)) rfl (vl (ldq 0 rfl rfl rfl rfl rfl rfl rfl) rfl (al zero115 rfl rfl rfl ?_))
          intro b15
          refine sto rfl rfl rfl rfl rfl rfl rfl (cs':=[.int .i64 y13.dist,.int .i64 y13.id,.int .i64 y13.nsn]) rfl (en (nx (sq (sq (rg (vl (fa rfl rfl rfl) rfl (vl (ldb (u:=.int .i64 y13.dist) 0 rfl rfl rfl rfl rfl rfl rfl) rfl (cs_ (v:=.bool (within y13.dist 0 10000)) (by kernel_rfl) rfl rfl rfl (fun w_ hs_=>impl_within w_ _ _ _) (vl (nt rfl rfl) rfl (m_ rfl rfl ?_))))))))))
          by_cases h16 : within y13.dist 0 10000 = true
          · refine vg (fa rfl rfl rfl) rfl rfl (not_f h16) (vg (ldb (u:=.int .i64 y13.id) 0 rfl rfl rfl rfl rfl rfl rfl) rfl rfl (not_f h16) (gw rfl rfl (not_f h16) (cs_ (v:=.bool (within y13.id 0 39)) (by kernel_rfl) rfl rfl rfl (fun w_ hs_=>impl_within w_ _ _ _) (vg (nt rfl rfl) rfl rfl (not_f h16) (vl (pk (b:=false) rfl rfl (not_f h16) rfl) rfl (m_ rfl rfl ?_))))))
            by_cases h17 : within y13.id 0 39 = true
            · refine vg (fa rfl rfl rfl) rfl rfl (not_f h17) (vg (ldb (u:=.int .i64 y13.nsn) 0 rfl rfl rfl rfl rfl rfl rfl) rfl rfl (not_f h17) (gw rfl rfl (not_f h17) (cs_ (v:=.bool (within y13.nsn 0 100000)) (by kernel_rfl) rfl rfl rfl (fun w_ hs_=>impl_isNsn w_ _) (vg (nt rfl rfl) rfl rfl (not_f h17) (vl (pk (b:=false) rfl rfl (not_f h17) rfl) rfl (en (nx ?_)))))))
              by_cases h18 : within y13.nsn 0 100000 = true
              · refine cf rfl (not_f h18) (sk (nx (sq (rg (vl (fa rfl rfl rfl) rfl (vl (ldb (u:=.int .i64 y13.dist) 0 rfl rfl rfl rfl rfl rfl rfl) rfl (vl (cm rfl rfl rfl rfl) rfl (m_ rfl rfl ?_))))))))
                by_cases h19 : y13.dist = (0 : Int)
                · exact sg rfl rfl (bne_eq_false_iff_eq.2 h19) (sg rfl rfl (bne_eq_false_iff_eq.2 h19) (sg rfl rfl (bne_eq_false_iff_eq.2 h19) (sg rfl rfl (bne_eq_false_iff_eq.2 h19) (vl (pk (b:=false) rfl rfl (bne_eq_false_iff_eq.2 h19) rfl) rfl (en (nx (cf rfl rfl (sk (xn (nx (rg (vl (ra (c:=((k + 1 : Nat) : Int)) rfl rfl rfl (by omega) (by omega) (by omega)) rfl (m_ rfl rfl (en (lpe (s:=k) (k + 1) [3,3,3] ⟨by omega,zero_step (f:=markFault l.query.kind) hinv m14 (by grind [markFault])⟩ (by omega) ⟨rfl,rfl,rfl,rfl,rfl,trivial⟩ rfl)))))))))))))))
                · refine vg (fa rfl rfl rfl) rfl rfl (bne_iff_ne.2 h19) (vg (fa rfl rfl rfl) rfl rfl (bne_iff_ne.2 h19) (vg (ldb (u:=.int .i64 l.query.kind) 4 rfl rfl rfl rfl rfl rfl rfl) rfl rfl (bne_iff_ne.2 h19) (vg (cm rfl rfl rfl rfl) rfl rfl (bne_iff_ne.2 h19) (vl (pk (b:=true) rfl rfl (bne_iff_ne.2 h19) rfl) rfl (en (nx ?_))))))
                  by_cases h20 : l.query.kind = (4 : Int)
                  · exact cf rfl (bne_eq_false_iff_eq.2 h20) (sk (xn (nx (rg (vl (ra (c:=((k + 1 : Nat) : Int)) rfl rfl rfl (by omega) (by omega) (by omega)) rfl (m_ rfl rfl (en (lpe (s:=k) (k + 1) [3,3,3] ⟨by omega,zero_step (f:=markFault l.query.kind) hinv m14 (by grind [markFault])⟩ (by omega) ⟨rfl,rfl,rfl,rfl,rfl,trivial⟩ rfl))))))))
                  · refine ct rfl (bne_iff_ne.2 h20) (sq (rg (a_ rfl rfl (en (nx (rt (xrb (xr (xr (xrb (xr (ret1 rfl rfl (fun w_ hs_=>⟨?_,hs_.below⟩)))))))))))))
                    exact ri (by have e:=mark_1 (k:=l.query.kind) (m:=y13) (by grind) (by grind); exact lf_front h3 ⟨by omega,by omega⟩ ((firstFault_at (f:=markFault l.query.kind) hinv m14 (by rw [e]; decide)).trans e) (by decide))
              · refine ct rfl (not_t (Bool.eq_false_iff.2 h18)) (sq (rg (a_ rfl rfl (en (nx (rt (xr (xrb (xr (xr (xrb (xr (ret1 rfl rfl (fun w_ hs_=>⟨?_,hs_.below⟩))))))))))))))
                exact ri (by have e:=mark_3 (k:=l.query.kind) (m:=y13) (by grind); exact lf_front h3 ⟨by omega,by omega⟩ ((firstFault_at (f:=markFault l.query.kind) hinv m14 (by rw [e]; decide)).trans e) (by decide))
            · refine sg rfl rfl (not_t (Bool.eq_false_iff.2 h17)) (sg rfl rfl (not_t (Bool.eq_false_iff.2 h17)) (sg rfl rfl (not_t (Bool.eq_false_iff.2 h17)) (sg rfl rfl (not_t (Bool.eq_false_iff.2 h17)) (vl (pk (b:=true) rfl rfl (not_t (Bool.eq_false_iff.2 h17)) rfl) rfl (en (nx (ct rfl rfl (sq (rg (a_ rfl rfl (en (nx (rt (xr (xrb (xr (xr (xrb (xr (ret1 rfl rfl (fun w_ hs_=>⟨?_,hs_.below⟩)))))))))))))))))))))
              exact ri (by have e:=mark_3 (k:=l.query.kind) (m:=y13) (by grind); exact lf_front h3 ⟨by omega,by omega⟩ ((firstFault_at (f:=markFault l.query.kind) hinv m14 (by rw [e]; decide)).trans e) (by decide))
          · refine sg rfl rfl (not_t (Bool.eq_false_iff.2 h16)) (sg rfl rfl (not_t (Bool.eq_false_iff.2 h16)) (sg rfl rfl (not_t (Bool.eq_false_iff.2 h16)) (sg rfl rfl (not_t (Bool.eq_false_iff.2 h16)) (vl (pk (b:=true) rfl rfl (not_t (Bool.eq_false_iff.2 h16)) rfl) rfl (m_ rfl rfl (sg rfl rfl rfl (sg rfl rfl rfl (sg rfl rfl rfl (sg rfl rfl rfl (vl (pk (b:=true) rfl rfl rfl rfl) rfl (en (nx (ct rfl rfl (sq (rg (a_ rfl rfl (en (nx (rt (xr (xrb (xr (xr (xrb (xr (ret1 rfl rfl (fun w_ hs_=>⟨?_,hs_.below⟩)))))))))))))))))))))))))))
            exact ri (by have e:=mark_3 (k:=l.query.kind) (m:=y13) (by grind); exact lf_front h3 ⟨by omega,by omega⟩ ((firstFault_at (f:=markFault l.query.kind) hinv m14 (by rw [e]; decide)).trans e) (by decide))
        · refine cf rfl (decide_eq_false h6) (xt (xq (xq (xb (nx (sq (sq (rg (vl (fa rfl rfl rfl) rfl (vl (ldb (u:=.slice Al6 l.found.length cl6) 1 rfl rfl rfl rfl rfl rfl rfl) rfl (vl (ln rfl rfl rfl) rfl (m_ rfl rfl (en (nx (bk ?_)))))))))))))))
          refine lp (σ:=Nat) (fun k2 : Nat=>[(1,.int .i64 dims),(2,.pointer (some ⟨b1,0,none⟩)),(64,.slice Al6 l.found.length cl6),(65,.int .i64 ((l.found.length : Nat) : Int)),(66,.int .i64 ((k2 : Nat) : Int))])
              (fun k2 : Nat=>[dat kQueryS [.int .i64 l.query.kind,.slice Al1 l.query.rect.low.length cl1,.slice Al2 l.query.rect.high.length cl2,.slice Al3 l.query.point.length cl3,.int .i64 l.query.k] l.query ([]) s2,blk b1 [.int .i64 l.query.kind,.slice Al1 l.query.rect.low.length cl1,.slice Al2 l.query.rect.high.length cl2,.slice Al3 l.query.point.length cl3,.int .i64 l.query.k,.slice Al5 l.front.length cl5,.slice Al6 l.found.length cl6] 43,dat kLookS [.int .i64 l.query.kind,.slice Al1 l.query.rect.low.length cl1,.slice Al2 l.query.rect.high.length cl2,.slice Al3 l.query.point.length cl3,.int .i64 l.query.k,.slice Al5 l.front.length cl5,.slice Al6 l.found.length cl6] l ([]) sl_])
              (fun k2 : Nat=>k2 ≤ l.found.length ∧ ∀ j,j < k2 → foundFault l.found dims j = 0) (fun k2 : Nat=>l.found.length - k2) 0 [0,0,0] ⟨Nat.zero_le _,by simp⟩ ⟨rfl,rfl,rfl,rfl,rfl,trivial⟩ rfl ?_
          intro k2 hp_
          obtain ⟨hk2,hinv2⟩:=hp_
          refine sq (rg (vl (cm rfl rfl rfl rfl) rfl (en (nx (sq ?_)))))
          by_cases h21 : ((k2 : Nat) : Int) < ((l.found.length : Nat) : Int)
          · refine ct rfl (decide_eq_true h21) (sk (nx (sq (bk (sq (rg (m_ rfl rfl ?_)))))))
            refine gd 2 kLookS_p6_1 rfl (cs':=[.slice Al6 l.found.length cl6]) rfl fun s22 w_ rs22 us22=>?_
            have Ls22:=Kd.sl_len rs22; have Cs22:=Kd.sl_cap rs22
            refine gx 0 k2 rfl (by omega) fun y28 p23 cs_ s24 w27 m29 e25 r26 us24=>?_
            obtain ⟨A30,c31,A32,c33,rfl⟩:=kPairS_sh r26
            refine vl (ix k2 e25 rfl rfl rfl rfl rfl (by omega)) rfl (vl (ldq 0 rfl rfl rfl rfl rfl rfl rfl) rfl (al zero119 rfl rfl rfl ?_))
            intro b34
            refine a_ rfl rfl (sto rfl rfl rfl rfl rfl rfl rfl (cs':=[.int .i64 y28.id,.slice A30 y28.rect.low.length c31,.slice A32 y28.rect.high.length c33]) rfl (en (nx (sq (sq (rg (vl (ldb 0 rfl rfl rfl rfl rfl rfl rfl) rfl (m_ rfl rfl ?_))))))))
            refine gp 1 Kd.Sub.rfl rfl (cs':=[.int .i64 y28.id,.slice A30 y28.rect.low.length c31,.slice A32 y28.rect.high.length c33]) rfl fun s35 w_ rs35 us35=>?_
            refine cs_ (v:=.int .i64 (pairFault y28 dims)) (by kernel_rfl) rfl rfl rfl (fun w_ hs_=>impl_pairFault w_ _ (hs_.at 0 rfl)) (a_ rfl rfl (en (nx (sq (rg (m_ rfl rfl (vl (cm rfl rfl rfl rfl) rfl (en (nx ?_)))))))))
            by_cases h36 : (pairFault y28 dims) = (0 : Int)
            · refine cf rfl (bne_eq_false_iff_eq.2 h36) (sk (nx (sq ?_)))
              by_cases h37 : (0 : Int) < ((k2 : Nat) : Int)
              · refine gx 3 ((((k2 : Nat) : Int) - 1).toNat) rfl (by omega) fun y43 p38 cs_ s39 w42 m44 e40 r41 us39=>?_
                obtain ⟨A45,c46,A47,c48,rfl⟩:=kPairS_sh r41
                refine r0 (qv 0 rfl (mv rfl rfl) rfl (by kernel_rfl) (qv 1 rfl (cm rfl rfl rfl rfl) rfl (by kernel_rfl) (qv 2 rfl (mv rfl rfl) rfl (by kernel_rfl) (qg 3 rfl (fa rfl rfl rfl) rfl rfl (decide_eq_true h37) (by kernel_rfl) (qg 4 rfl (ldb (u:=.slice Al6 l.found.length cl6) 6 rfl rfl rfl rfl rfl rfl rfl) rfl rfl (decide_eq_true h37) (by kernel_rfl) (qg 5 rfl (mv rfl rfl) rfl rfl (decide_eq_true h37) (by kernel_rfl) (qg 6 rfl (rs (c:=((k2 : Nat) : Int) - 1) rfl rfl rfl rfl (by omega) (by omega)) rfl rfl (decide_eq_true h37) (by kernel_rfl) (qg 7 rfl (ixz ((((k2 : Nat) : Int) - 1).toNat) (by omega) e40 rfl rfl rfl rfl rfl (by omega)) rfl rfl (decide_eq_true h37) (by kernel_rfl) (qg 8 rfl (fa rfl rfl rfl) rfl rfl (decide_eq_true h37) (by kernel_rfl) (qg 9 rfl (ldp (u:=.int .i64 y43.id) 0 rfl rfl rfl rfl rfl rfl rfl) rfl rfl (decide_eq_true h37) (by kernel_rfl) (qg 10 rfl (fa rfl rfl rfl) rfl rfl (decide_eq_true h37) (by kernel_rfl) (qg 11 rfl (ldb (u:=.int .i64 y28.id) 2 rfl rfl rfl rfl rfl rfl rfl) rfl rfl (decide_eq_true h37) (by kernel_rfl) (qg 12 rfl (cm rfl rfl rfl rfl) rfl rfl (decide_eq_true h37) (by kernel_rfl) (qv 13 rfl (pk (b:=true) rfl rfl (decide_eq_true h37) rfl) rfl (by kernel_rfl) (qe [0,0,0,0,0,0,0,0] (by kernel_rfl) rfl (nx ?_))))))))))))))))
                by_cases h49 : y28.id ≤ y43.id
                · refine ct rfl (decide_eq_true h49) (sq (rg (a_ rfl rfl (en (nx (rt (xrb (xr (xr (xrb (xr (ret1 rfl rfl (fun w_ hs_=>⟨?_,hs_.below⟩)))))))))))))
                  exact ri (by have e:=found_low (d:=dims) m29 h36 (by omega) m44 (by omega); exact lf_found h3 ⟨by omega,by omega⟩ (firstFault_0 (f:=markFault l.query.kind) hinv (by omega)) ((ffr_at (f:=foundFault l.found dims) hinv2 (by omega) (by rw [e]; decide)).trans e))
                · exact cf rfl (decide_eq_false h49) (sk (xn (nx (rg (vl (ra (c:=((k2 + 1 : Nat) : Int)) rfl rfl rfl (by omega) (by omega) (by omega)) rfl (m_ rfl rfl (en (lpe (s:=k2) (k2 + 1) [5,5,5] ⟨by omega,step_le hinv2 (found_ok m29 h36 (.inr ⟨_,_,by omega,m44,by omega⟩))⟩ (by omega) ⟨rfl,rfl,rfl,rfl,rfl,trivial⟩ rfl))))))))
              · exact r0 (qv 0 rfl (mv rfl rfl) rfl (by kernel_rfl) (qv 1 rfl (cm rfl rfl rfl rfl) rfl (by kernel_rfl) (qv 2 rfl (mv rfl rfl) rfl (by kernel_rfl) (qs 3 rfl rfl rfl (decide_eq_false h37) (by kernel_rfl) (qs 4 rfl rfl rfl (decide_eq_false h37) (by kernel_rfl) (qs 5 rfl rfl rfl (decide_eq_false h37) (by kernel_rfl) (qs 6 rfl rfl rfl (decide_eq_false h37) (by kernel_rfl) (qs 7 rfl rfl rfl (decide_eq_false h37) (by kernel_rfl) (qs 8 rfl rfl rfl (decide_eq_false h37) (by kernel_rfl) (qs 9 rfl rfl rfl (decide_eq_false h37) (by kernel_rfl) (qs 10 rfl rfl rfl (decide_eq_false h37) (by kernel_rfl) (qs 11 rfl rfl rfl (decide_eq_false h37) (by kernel_rfl) (qs 12 rfl rfl rfl (decide_eq_false h37) (by kernel_rfl) (qv 13 rfl (pk (b:=false) rfl rfl (decide_eq_false h37) rfl) rfl (by kernel_rfl) (qe [0,0,0,0,0,0,0] (by kernel_rfl) rfl (nx (cf rfl rfl (sk (xn (nx (rg (vl (ra (c:=((k2 + 1 : Nat) : Int)) rfl rfl rfl (by omega) (by omega) (by omega)) rfl (m_ rfl rfl (en (lpe (s:=k2) (k2 + 1) [4,4,4] ⟨by omega,step_le hinv2 (found_ok m29 h36 (.inl (by omega)))⟩ (by omega) ⟨rfl,rfl,rfl,rfl,rfl,trivial⟩ rfl)))))))))))))))))))))))))
            · refine ct rfl (bne_iff_ne.2 h36) (sq (rg (m_ rfl rfl (a_ rfl rfl (en (nx (rt (xr (xrb (xr (xr (xrb (xr (ret1 rfl rfl (fun w_ hs_=>⟨?_,hs_.below⟩)))))))))))))))
              exact ri (lf_found h3 ⟨by omega,by omega⟩ (firstFault_0 (f:=markFault l.query.kind) hinv (by omega)) ((ffr_at (f:=foundFault l.found dims) hinv2 (by omega) (by rw [found_bad m29 h36]; exact h36)).trans (found_bad m29 h36)))
          · refine cf rfl (decide_eq_false h21) (xt (xq (xq (xb (nx (sq (rg (a_ rfl rfl (en (nx (rt (ret1 rfl rfl (fun w_ hs_=>⟨?_,hs_.below⟩)))))))))))))
            exact ri (lf_found h3 ⟨by omega,by omega⟩ (firstFault_0 (f:=markFault l.query.kind) hinv (by omega)) (ffr_0 (f:=foundFault l.found dims) (n:=l.found.length) hinv2 (by omega)))
  · refine ct rfl (bne_iff_ne.2 h3) (sq (rg (m_ rfl rfl (a_ rfl rfl (en (nx (rt (xrb (xr (ret1 rfl rfl (fun w_ hs_=>⟨?_,hs_.below⟩)))))))))))
    exact ri (lf_q h3)
set_option maxRecDepth 20000 in
set_option maxHeartbeats 2000000 in
theorem spec_LookFault (w : World) (dims : Int) {Al1 : Option Addr} {cl1 : Nat} {Al2 : Option Addr} {cl2 : Nat} {Al3 : Option Addr} {cl3 : Nat} {Al5 : Option Addr} {cl5 : Nat} {Al6 : Option Addr} {cl6 : Nat} {l : Look} {sl_ : List Nat} (hl : kLookS.Rel w [.int .i64 l.query.kind,.slice Al1 l.query.rect.low.length cl1,.slice Al2 l.query.rect.high.length cl2,.slice Al3 l.query.point.length cl3,.int .i64 l.query.k,.slice Al5 l.front.length cl5,.slice Al6 l.found.length cl6] l [] sl_)  : Calls Tryz.prog 24 #[.agg #[.int .i64 l.query.kind,.slice Al1 l.query.rect.low.length cl1,.slice Al2 l.query.rect.high.length cl2,.slice Al3 l.query.point.length cl3,.int .i64 l.query.k,.slice Al5 l.front.length cl5,.slice Al6 l.found.length cl6],.int .i64 dims] w (fun e_ w2_=>e_ = .returned (.int .i64 (lookFault l dims)) ∧ Below w.heap.size w w2_):=by
  have Ll5:=Kd.sub_len kLookS_p5_1 hl; have Cl5:=Kd.sub_cap kLookS_p5_1 hl rfl
  have Ll6:=Kd.sub_len kLookS_p6_1 hl; have Cl6:=Kd.sub_cap kLookS_p6_1 hl rfl
  refine fnc (X:=X4 98 w) (l:=[(0,.agg #[.int .i64 l.query.kind,.slice Al1 l.query.rect.low.length cl1,.slice Al2 l.query.rect.high.length cl2,.slice Al3 l.query.point.length cl3,.int .i64 l.query.k,.slice Al5 l.front.length cl5,.slice Al6 l.found.length cl6]),(1,.int .i64 dims)]) Tryz.func24 rfl rfl rfl ⟨rfl,rfl,trivial⟩ (s0d hl (s0n w)).1 ?_
  refine sq (rg (bx rfl rfl rfl rfl ?_))
  intro b1
  refine a_ rfl rfl (en (nx (sq (sq (rg (vl (fa rfl rfl rfl) rfl (vl (ldb 0 rfl rfl rfl rfl rfl rfl rfl) rfl (m_ rfl rfl ?_))))))))
  refine gd 1 kLookS_p0_5 rfl (cs':=[.int .i64 l.query.kind,.slice Al1 l.query.rect.low.length cl1,.slice Al2 l.query.rect.high.length cl2,.slice Al3 l.query.point.length cl3,.int .i64 l.query.k]) rfl fun s2 w_ rs2 us2=>?_
  refine cs_ (v:=.int .i64 (queryFault l.query dims)) (by kernel_rfl) rfl rfl rfl (fun w_ hs_=>spec_QueryFault w_ _ (hs_.at 0 rfl)) (a_ rfl rfl (en (nx (sq (rg (m_ rfl rfl (vl (cm rfl rfl rfl rfl) rfl (en (nx ?_)))))))))
  by_cases h3 : (queryFault l.query dims) = (0 : Int)
  · refine cf rfl (bne_eq_false_iff_eq.2 h3) (sk (nx (sq (sq (rg (vl (fa rfl rfl rfl) rfl (vl (ldb (u:=.slice Al5 l.front.length cl5) 1 rfl rfl rfl rfl rfl rfl rfl) rfl (vl (ln rfl rfl rfl) rfl (vl (cm rfl rfl rfl rfl) rfl (m_ rfl rfl ?_))))))))))
    by_cases h4 : (20000 : Int) < ((l.front.length : Nat) : Int)
    · refine sg rfl rfl (decide_eq_true h4) (sg rfl rfl (decide_eq_true h4) (sg rfl rfl (decide_eq_true h4) (sg rfl rfl (decide_eq_true h4) (vl (pk (b:=true) rfl rfl (decide_eq_true h4) rfl) rfl (en (nx (ct rfl rfl (sq (rg (a_ rfl rfl (en (nx (rt (xr (ret1 rfl rfl (fun w_ hs_=>⟨?_,hs_.below⟩))))))))))))))))
      exact ri (lf_many h3 (by omega))
    · refine vg (fa rfl rfl rfl) rfl rfl (decide_eq_false h4) (vg (ldb (u:=.slice Al6 l.found.length cl6) 1 rfl rfl rfl rfl rfl rfl rfl) rfl rfl (decide_eq_false h4) (vg (ln rfl rfl rfl) rfl rfl (decide_eq_false h4) (vg (cm rfl rfl rfl rfl) rfl rfl (decide_eq_false h4) (vl (pk (b:=false) rfl rfl (decide_eq_false h4) rfl) rfl (en (nx ?_))))))
      by_cases h5 : (1000 : Int) < ((l.found.length : Nat) : Int)
      · refine ct rfl (decide_eq_true h5) (sq (rg (a_ rfl rfl (en (nx (rt (xr (ret1 rfl rfl (fun w_ hs_=>⟨?_,hs_.below⟩)))))))))
        exact ri (lf_many h3 (by omega))
      · refine cf rfl (decide_eq_false h5) (sk (nx (sq (sq (rg (a_ rfl rfl (en (nx (bk ?_)))))))))
        refine lp (σ:=Nat) (fun k : Nat=>[(1,.int .i64 dims),(2,.pointer (some ⟨b1,0,none⟩)),(6,.int .i64 ((k : Nat) : Int))])
            (fun k : Nat=>[dat kQueryS [.int .i64 l.query.kind,.slice Al1 l.query.rect.low.length cl1,.slice Al2 l.query.rect.high.length cl2,.slice Al3 l.query.point.length cl3,.int .i64 l.query.k] l.query ([]) s2,blk b1 [.int .i64 l.query.kind,.slice Al1 l.query.rect.low.length cl1,.slice Al2 l.query.rect.high.length cl2,.slice Al3 l.query.point.length cl3,.int .i64 l.query.k,.slice Al5 l.front.length cl5,.slice Al6 l.found.length cl6] 43,dat kLookS [.int .i64 l.query.kind,.slice Al1 l.query.rect.low.length cl1,.slice Al2 l.query.rect.high.length cl2,.slice Al3 l.query.point.length cl3,.int .i64 l.query.k,.slice Al5 l.front.length cl5,.slice Al6 l.found.length cl6] l ([]) sl_])
            (fun k : Nat=>k ≤ l.front.length ∧ ∀ j x,j < k → l.front[j]? = some x → markFault l.query.kind x = 0) (fun k : Nat=>l.front.length - k) 0 [0,0,0] ⟨Nat.zero_le _,by simp⟩ ⟨rfl,rfl,rfl,trivial⟩ rfl ?_
        intro k hp_
        obtain ⟨hk,hinv⟩:=hp_
        refine sq (sq (rg (m_ rfl rfl (vl (fa rfl rfl rfl) rfl (vl (ldb (u:=.slice Al5 l.front.length cl5) 1 rfl rfl rfl rfl rfl rfl rfl) rfl (vl (ln rfl rfl rfl) rfl (vl (cm rfl rfl rfl rfl) rfl (en (nx ?_)))))))))
        by_cases h6 : ((k : Nat) : Int) < ((l.front.length : Nat) : Int)
        · refine ct rfl (decide_eq_true h6) (sk (nx (sq (bk (sq (rg (vl (fa rfl rfl rfl) rfl (vl (ldb (u:=.slice Al5 l.front.length cl5) 1 rfl rfl rfl rfl rfl rfl rfl) rfl (m_ rfl rfl ?_)))))))))
          refine gd 2 kLookS_p5_1 rfl (cs':=[.slice Al5 l.front.length cl5]) rfl fun s7 w_ rs7 us7=>?_
          have Ls7:=Kd.sl_len rs7; have Cs7:=Kd.sl_cap rs7
          refine gx 0 k rfl (by omega) fun y13 p8 cs_ s9 w12 m14 e10 r11 us9=>?_
          obtain ⟨rfl⟩:=kMarkS_sh r11
          refine vl (ix k e10 rfl rfl rfl rfl rfl (by omega)) rfl (vl (ldq 0 rfl rfl rfl rfl rfl rfl rfl) rfl (al zero115 rfl rfl rfl ?_))
          intro b15
          refine sto rfl rfl rfl rfl rfl rfl rfl (cs':=[.int .i64 y13.dist,.int .i64 y13.id,.int .i64 y13.nsn]) rfl (en (nx (sq (sq (rg (vl (fa rfl rfl rfl) rfl (vl (ldb (u:=.int .i64 y13.dist) 0 rfl rfl rfl rfl rfl rfl rfl) rfl (cs_ (v:=.bool (within y13.dist 0 10000)) (by kernel_rfl) rfl rfl rfl (fun w_ hs_=>spec_l1In w_ _ _ _) (vl (nt rfl rfl) rfl (m_ rfl rfl ?_))))))))))
          by_cases h16 : within y13.dist 0 10000 = true
          · refine vg (fa rfl rfl rfl) rfl rfl (not_f h16) (vg (ldb (u:=.int .i64 y13.id) 0 rfl rfl rfl rfl rfl rfl rfl) rfl rfl (not_f h16) (gw rfl rfl (not_f h16) (cs_ (v:=.bool (within y13.id 0 39)) (by kernel_rfl) rfl rfl rfl (fun w_ hs_=>spec_l1In w_ _ _ _) (vg (nt rfl rfl) rfl rfl (not_f h16) (vl (pk (b:=false) rfl rfl (not_f h16) rfl) rfl (m_ rfl rfl ?_))))))
            by_cases h17 : within y13.id 0 39 = true
            · refine vg (fa rfl rfl rfl) rfl rfl (not_f h17) (vg (ldb (u:=.int .i64 y13.nsn) 0 rfl rfl rfl rfl rfl rfl rfl) rfl rfl (not_f h17) (gw rfl rfl (not_f h17) (cs_ (v:=.bool (within y13.nsn 0 100000)) (by kernel_rfl) rfl rfl rfl (fun w_ hs_=>spec_l1In w_ _ _ _) (vg (nt rfl rfl) rfl rfl (not_f h17) (vl (pk (b:=false) rfl rfl (not_f h17) rfl) rfl (en (nx ?_)))))))
              by_cases h18 : within y13.nsn 0 100000 = true
              · refine cf rfl (not_f h18) (sk (nx (sq (rg (vl (fa rfl rfl rfl) rfl (vl (ldb (u:=.int .i64 y13.dist) 0 rfl rfl rfl rfl rfl rfl rfl) rfl (vl (cm rfl rfl rfl rfl) rfl (m_ rfl rfl ?_))))))))
                by_cases h19 : y13.dist = (0 : Int)
                · exact sg rfl rfl (bne_eq_false_iff_eq.2 h19) (sg rfl rfl (bne_eq_false_iff_eq.2 h19) (sg rfl rfl (bne_eq_false_iff_eq.2 h19) (sg rfl rfl (bne_eq_false_iff_eq.2 h19) (vl (pk (b:=false) rfl rfl (bne_eq_false_iff_eq.2 h19) rfl) rfl (en (nx (cf rfl rfl (sk (xn (nx (rg (m_ rfl rfl (vl (ra (c:=((k + 1 : Nat) : Int)) rfl rfl rfl (by omega) (by omega) (by omega)) rfl (a_ rfl rfl (en (lpe (s:=k) (k + 1) [3,3,3] ⟨by omega,zero_step (f:=markFault l.query.kind) hinv m14 (by grind [markFault])⟩ (by omega) ⟨rfl,rfl,rfl,trivial⟩ rfl))))))))))))))))
                · refine vg (fa rfl rfl rfl) rfl rfl (bne_iff_ne.2 h19) (vg (fa rfl rfl rfl) rfl rfl (bne_iff_ne.2 h19) (vg (ldb (u:=.int .i64 l.query.kind) 4 rfl rfl rfl rfl rfl rfl rfl) rfl rfl (bne_iff_ne.2 h19) (vg (cm rfl rfl rfl rfl) rfl rfl (bne_iff_ne.2 h19) (vl (pk (b:=true) rfl rfl (bne_iff_ne.2 h19) rfl) rfl (en (nx ?_))))))
                  by_cases h20 : l.query.kind = (4 : Int)
                  · exact cf rfl (bne_eq_false_iff_eq.2 h20) (sk (xn (nx (rg (m_ rfl rfl (vl (ra (c:=((k + 1 : Nat) : Int)) rfl rfl rfl (by omega) (by omega) (by omega)) rfl (a_ rfl rfl (en (lpe (s:=k) (k + 1) [3,3,3] ⟨by omega,zero_step (f:=markFault l.query.kind) hinv m14 (by grind [markFault])⟩ (by omega) ⟨rfl,rfl,rfl,trivial⟩ rfl)))))))))
                  · refine ct rfl (bne_iff_ne.2 h20) (sq (rg (a_ rfl rfl (en (nx (rt (xrb (xr (xr (xrb (xr (ret1 rfl rfl (fun w_ hs_=>⟨?_,hs_.below⟩)))))))))))))
                    exact ri (by have e:=mark_1 (k:=l.query.kind) (m:=y13) (by grind) (by grind); exact lf_front h3 ⟨by omega,by omega⟩ ((firstFault_at (f:=markFault l.query.kind) hinv m14 (by rw [e]; decide)).trans e) (by decide))
              · refine ct rfl (not_t (Bool.eq_false_iff.2 h18)) (sq (rg (a_ rfl rfl (en (nx (rt (xr (xrb (xr (xr (xrb (xr (ret1 rfl rfl (fun w_ hs_=>⟨?_,hs_.below⟩))))))))))))))
                exact ri (by have e:=mark_3 (k:=l.query.kind) (m:=y13) (by grind); exact lf_front h3 ⟨by omega,by omega⟩ ((firstFault_at (f:=markFault l.query.kind) hinv m14 (by rw [e]; decide)).trans e) (by decide))
            · refine sg rfl rfl (not_t (Bool.eq_false_iff.2 h17)) (sg rfl rfl (not_t (Bool.eq_false_iff.2 h17)) (sg rfl rfl (not_t (Bool.eq_false_iff.2 h17)) (sg rfl rfl (not_t (Bool.eq_false_iff.2 h17)) (vl (pk (b:=true) rfl rfl (not_t (Bool.eq_false_iff.2 h17)) rfl) rfl (en (nx (ct rfl rfl (sq (rg (a_ rfl rfl (en (nx (rt (xr (xrb (xr (xr (xrb (xr (ret1 rfl rfl (fun w_ hs_=>⟨?_,hs_.below⟩)))))))))))))))))))))
              exact ri (by have e:=mark_3 (k:=l.query.kind) (m:=y13) (by grind); exact lf_front h3 ⟨by omega,by omega⟩ ((firstFault_at (f:=markFault l.query.kind) hinv m14 (by rw [e]; decide)).trans e) (by decide))
          · refine sg rfl rfl (not_t (Bool.eq_false_iff.2 h16)) (sg rfl rfl (not_t (Bool.eq_false_iff.2 h16)) (sg rfl rfl (not_t (Bool.eq_false_iff.2 h16)) (sg rfl rfl (not_t (Bool.eq_false_iff.2 h16)) (vl (pk (b:=true) rfl rfl (not_t (Bool.eq_false_iff.2 h16)) rfl) rfl (m_ rfl rfl (sg rfl rfl rfl (sg rfl rfl rfl (sg rfl rfl rfl (sg rfl rfl rfl (vl (pk (b:=true) rfl rfl rfl rfl) rfl (en (nx (ct rfl rfl (sq (rg (a_ rfl rfl (en (nx (rt (xr (xrb (xr (xr (xrb (xr (ret1 rfl rfl (fun w_ hs_=>⟨?_,hs_.below⟩)))))))))))))))))))))))))))
            exact ri (by have e:=mark_3 (k:=l.query.kind) (m:=y13) (by grind); exact lf_front h3 ⟨by omega,by omega⟩ ((firstFault_at (f:=markFault l.query.kind) hinv m14 (by rw [e]; decide)).trans e) (by decide))
        · refine cf rfl (decide_eq_false h6) (xt (xq (xq (xb (nx (sq (sq (rg (a_ rfl rfl (en (nx (bk ?_))))))))))))
          refine lp (σ:=Nat) (fun k2 : Nat=>[(1,.int .i64 dims),(2,.pointer (some ⟨b1,0,none⟩)),(8,.int .i64 ((k2 : Nat) : Int))])
              (fun k2 : Nat=>[dat kQueryS [.int .i64 l.query.kind,.slice Al1 l.query.rect.low.length cl1,.slice Al2 l.query.rect.high.length cl2,.slice Al3 l.query.point.length cl3,.int .i64 l.query.k] l.query ([]) s2,blk b1 [.int .i64 l.query.kind,.slice Al1 l.query.rect.low.length cl1,.slice Al2 l.query.rect.high.length cl2,.slice Al3 l.query.point.length cl3,.int .i64 l.query.k,.slice Al5 l.front.length cl5,.slice Al6 l.found.length cl6] 43,dat kLookS [.int .i64 l.query.kind,.slice Al1 l.query.rect.low.length cl1,.slice Al2 l.query.rect.high.length cl2,.slice Al3 l.query.point.length cl3,.int .i64 l.query.k,.slice Al5 l.front.length cl5,.slice Al6 l.found.length cl6] l ([]) sl_])
              (fun k2 : Nat=>k2 ≤ l.found.length ∧ ∀ j,j < k2 → foundFault l.found dims j = 0) (fun k2 : Nat=>l.found.length - k2) 0 [0,0,0] ⟨Nat.zero_le _,by simp⟩ ⟨rfl,rfl,rfl,trivial⟩ rfl ?_
          intro k2 hp_
          obtain ⟨hk2,hinv2⟩:=hp_
          refine sq (sq (rg (m_ rfl rfl (vl (fa rfl rfl rfl) rfl (vl (ldb (u:=.slice Al6 l.found.length cl6) 1 rfl rfl rfl rfl rfl rfl rfl) rfl (vl (ln rfl rfl rfl) rfl (vl (cm rfl rfl rfl rfl) rfl (en (nx ?_)))))))))
          by_cases h21 : ((k2 : Nat) : Int) < ((l.found.length : Nat) : Int)
          · refine ct rfl (decide_eq_true h21) (sk (nx (sq (bk (sq (sq (rg (vl (fa rfl rfl rfl) rfl (vl (ldb (u:=.slice Al6 l.found.length cl6) 1 rfl rfl rfl rfl rfl rfl rfl) rfl (m_ rfl rfl ?_))))))))))
            refine gd 2 kLookS_p6_1 rfl (cs':=[.slice Al6 l.found.length cl6]) rfl fun s22 w_ rs22 us22=>?_
            have Ls22:=Kd.sl_len rs22; have Cs22:=Kd.sl_cap rs22
            refine gx 0 k2 rfl (by omega) fun y28 p23 cs_ s24 w27 m29 e25 r26 us24=>?_
            obtain ⟨A30,c31,A32,c33,rfl⟩:=kPairS_sh r26
            refine vl (ix k2 e25 rfl rfl rfl rfl rfl (by omega)) rfl (m_ rfl rfl (cs_ (v:=.int .i64 (pairFault y28 dims)) (by kernel_rfl) rfl rfl rfl (fun w_ hs_=>spec_l2Pair w_ _ (hs_.at 0 rfl)) (a_ rfl rfl (en (nx (sq (rg (m_ rfl rfl (vl (cm rfl rfl rfl rfl) rfl (en (nx ?_)))))))))))
            by_cases h34 : (pairFault y28 dims) = (0 : Int)
            · refine cf rfl (bne_eq_false_iff_eq.2 h34) (sk (nx (sq ?_)))
              by_cases h35 : (0 : Int) < ((k2 : Nat) : Int)
              · refine gx 1 ((((k2 : Nat) : Int) - 1).toNat) rfl (by omega) fun y41 p36 cs_ s37 w40 m42 e38 r39 us37=>?_
                obtain ⟨A43,c44,A45,c46,rfl⟩:=kPairS_sh r39
                refine r0 (qv 0 rfl (mv rfl rfl) rfl (by kernel_rfl) (qv 1 rfl (cm rfl rfl rfl rfl) rfl (by kernel_rfl) (qv 2 rfl (mv rfl rfl) rfl (by kernel_rfl) (qg 3 rfl (fa rfl rfl rfl) rfl rfl (decide_eq_true h35) (by kernel_rfl) (qg 4 rfl (ldb (u:=.slice Al6 l.found.length cl6) 4 rfl rfl rfl rfl rfl rfl rfl) rfl rfl (decide_eq_true h35) (by kernel_rfl) (qg 5 rfl (mv rfl rfl) rfl rfl (decide_eq_true h35) (by kernel_rfl) (qg 6 rfl (ix k2 e25 rfl rfl rfl rfl rfl (by omega)) rfl rfl (decide_eq_true h35) (by kernel_rfl) (qg 7 rfl (fa rfl rfl rfl) rfl rfl (decide_eq_true h35) (by kernel_rfl) (qg 8 rfl (ldp (u:=.int .i64 y28.id) 1 rfl rfl rfl rfl rfl rfl rfl) rfl rfl (decide_eq_true h35) (by kernel_rfl) (qg 9 rfl (fa rfl rfl rfl) rfl rfl (decide_eq_true h35) (by kernel_rfl) (qg 10 rfl (ldb (u:=.slice Al6 l.found.length cl6) 4 rfl rfl rfl rfl rfl rfl rfl) rfl rfl (decide_eq_true h35) (by kernel_rfl) (qg 11 rfl (mv rfl rfl) rfl rfl (decide_eq_true h35) (by kernel_rfl) (qg 12 rfl (rs (c:=((k2 : Nat) : Int) - 1) rfl rfl rfl rfl (by omega) (by omega)) rfl rfl (decide_eq_true h35) (by kernel_rfl) (qg 13 rfl (ixz ((((k2 : Nat) : Int) - 1).toNat) (by omega) e38 rfl rfl rfl rfl rfl (by omega)) rfl rfl (decide_eq_true h35) (by kernel_rfl) (qg 14 rfl (fa rfl rfl rfl) rfl rfl (decide_eq_true h35) (by kernel_rfl) (qg 15 rfl (ldp (u:=.int .i64 y41.id) 0 rfl rfl rfl rfl rfl rfl rfl) rfl rfl (decide_eq_true h35) (by kernel_rfl) (qg 16 rfl (cm rfl rfl rfl rfl) rfl rfl (decide_eq_true h35) (by kernel_rfl) (qv 17 rfl (pk (b:=true) rfl rfl (decide_eq_true h35) rfl) rfl (by kernel_rfl) (qe [0,0,0,0,0,0] (by kernel_rfl) rfl (nx ?_))))))))))))))))))))
                by_cases h47 : y28.id ≤ y41.id
                · refine ct rfl (decide_eq_true h47) (sq (rg (a_ rfl rfl (en (nx (rt (xrb (xr (xr (xrb (xr (ret1 rfl rfl (fun w_ hs_=>⟨?_,hs_.below⟩)))))))))))))
                  exact ri (by have e:=found_low (d:=dims) m29 h34 (by omega) m42 (by omega); exact lf_found h3 ⟨by omega,by omega⟩ (firstFault_0 (f:=markFault l.query.kind) hinv (by omega)) ((ffr_at (f:=foundFault l.found dims) hinv2 (by omega) (by rw [e]; decide)).trans e))
                · exact cf rfl (decide_eq_false h47) (sk (xn (nx (rg (m_ rfl rfl (vl (ra (c:=((k2 + 1 : Nat) : Int)) rfl rfl rfl (by omega) (by omega) (by omega)) rfl (a_ rfl rfl (en (lpe (s:=k2) (k2 + 1) [3,3,3] ⟨by omega,step_le hinv2 (found_ok m29 h34 (.inr ⟨_,_,by omega,m42,by omega⟩))⟩ (by omega) ⟨rfl,rfl,rfl,trivial⟩ rfl)))))))))
              · exact r0 (qv 0 rfl (mv rfl rfl) rfl (by kernel_rfl) (qv 1 rfl (cm rfl rfl rfl rfl) rfl (by kernel_rfl) (qv 2 rfl (mv rfl rfl) rfl (by kernel_rfl) (qs 3 rfl rfl rfl (decide_eq_false h35) (by kernel_rfl) (qs 4 rfl rfl rfl (decide_eq_false h35) (by kernel_rfl) (qs 5 rfl rfl rfl (decide_eq_false h35) (by kernel_rfl) (qs 6 rfl rfl rfl (decide_eq_false h35) (by kernel_rfl) (qs 7 rfl rfl rfl (decide_eq_false h35) (by kernel_rfl) (qs 8 rfl rfl rfl (decide_eq_false h35) (by kernel_rfl) (qs 9 rfl rfl rfl (decide_eq_false h35) (by kernel_rfl) (qs 10 rfl rfl rfl (decide_eq_false h35) (by kernel_rfl) (qs 11 rfl rfl rfl (decide_eq_false h35) (by kernel_rfl) (qs 12 rfl rfl rfl (decide_eq_false h35) (by kernel_rfl) (qs 13 rfl rfl rfl (decide_eq_false h35) (by kernel_rfl) (qs 14 rfl rfl rfl (decide_eq_false h35) (by kernel_rfl) (qs 15 rfl rfl rfl (decide_eq_false h35) (by kernel_rfl) (qs 16 rfl rfl rfl (decide_eq_false h35) (by kernel_rfl) (qv 17 rfl (pk (b:=false) rfl rfl (decide_eq_false h35) rfl) rfl (by kernel_rfl) (qe [0,0,0,0,0] (by kernel_rfl) rfl (nx (cf rfl rfl (sk (xn (nx (rg (m_ rfl rfl (vl (ra (c:=((k2 + 1 : Nat) : Int)) rfl rfl rfl (by omega) (by omega) (by omega)) rfl (a_ rfl rfl (en (lpe (s:=k2) (k2 + 1) [2,2,2] ⟨by omega,step_le hinv2 (found_ok m29 h34 (.inl (by omega)))⟩ (by omega) ⟨rfl,rfl,rfl,trivial⟩ rfl))))))))))))))))))))))))))))))
            · refine ct rfl (bne_iff_ne.2 h34) (sq (rg (m_ rfl rfl (a_ rfl rfl (en (nx (rt (xr (xrb (xr (xr (xrb (xr (ret1 rfl rfl (fun w_ hs_=>⟨?_,hs_.below⟩)))))))))))))))
              exact ri (lf_found h3 ⟨by omega,by omega⟩ (firstFault_0 (f:=markFault l.query.kind) hinv (by omega)) ((ffr_at (f:=foundFault l.found dims) hinv2 (by omega) (by rw [found_bad m29 h34]; exact h34)).trans (found_bad m29 h34)))
          · refine cf rfl (decide_eq_false h21) (xt (xq (xq (xb (nx (sq (rg (a_ rfl rfl (en (nx (rt (ret1 rfl rfl (fun w_ hs_=>⟨?_,hs_.below⟩)))))))))))))
            exact ri (lf_found h3 ⟨by omega,by omega⟩ (firstFault_0 (f:=markFault l.query.kind) hinv (by omega)) (ffr_0 (f:=foundFault l.found dims) (n:=l.found.length) hinv2 (by omega)))
  · refine ct rfl (bne_iff_ne.2 h3) (sq (rg (m_ rfl rfl (a_ rfl rfl (en (nx (rt (xr (ret1 rfl rfl (fun w_ hs_=>⟨?_,hs_.below⟩))))))))))
    exact ri (lf_q h3)
end Go.Proofs.YtdokhlakakflmaaGreat.Sx
