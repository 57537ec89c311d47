/- What functions of the program answer, each at every input that its row names; walked through their code. -/
import Derived.Test.YtjdkfibeogiekaaGreatSy3
namespace Go.Proofs.YtjdkfibeogiekaaGreat.Sx
open Go Go.RowKit Go.Proofs
set_option linter.unusedVariables false
set_option linter.unusedSimpArgs false
set_option maxRecDepth 20000
set_option maxHeartbeats 2000000
variable {Alist : Option Addr} {clist : Nat} {slist_ : List Nat}
def tab4 : Tab := { size := [(2, 1, false), (82, 2, true), (102, 4, true), (208, 3, true)], off := [((102, 0), 0), ((102, 1), 2), ((208, 0), 0), ((208, 1), 1)], elem := [(24, 102), (75, 208)] }
theorem tab_ok4 : tab4.check Tryz.prog = true:=by kernel_rfl
noncomputable abbrev X4 (N : Nat) (w : World) : Cx := ⟨Tryz.prog, tab4, tab_ok4, wide, N, w, none, []⟩
theorem zero208 : (Tryz.prog.info? 208).bind (·.zero) = some (.agg #[.int .i64 0,.slice none 0 0,.slice none 0 0]):=by kernel_rfl
theorem info208 : (Tryz.prog.info? 208).map (fun i=>(i.zero,i.size,i.bytes)) = some (some (.agg #[.int .i64 0,.slice none 0 0,.slice none 0 0]),3,56):=by kernel_rfl
theorem bld208 : bld Tryz.prog 208 = some ([(0,1),(1,2)],[.int .i64 0,.slice none 0 0,.slice none 0 0]):=by kernel_rfl

theorem slices_IndexFunc_impl_Pair_impl_Pair (w : World) (p : Pair → Bool) {fp : FuncId} {cfp : List Value} (hEp : enters Tryz.prog fp = true) {As : Option Addr} {cs : Nat} {s : List Pair} {ss_ : List Nat} (hs : (Kd.sl kPairS).Rel w [.slice As s.length cs] s [] ss_) (hfp : ∀ (w1 : World) (x0 : Pair),x0 ∈ s → Below w.heap.size w w1 → ∀ (A0_2 : Option Addr) (c0_2 : Nat),∀ (A0_1 : Option Addr) (c0_1 : Nat),∀ s0_ : List Nat,kPairS.Rel w1 [.int .i64 x0.id,.slice A0_1 x0.rect.low.length c0_1,.slice A0_2 x0.rect.high.length c0_2] x0 [] s0_ → Calls Tryz.prog fp (([.agg #[.int .i64 x0.id,.slice A0_1 x0.rect.low.length c0_1,.slice A0_2 x0.rect.high.length c0_2]] : List Value) ++ cfp).toArray w1 (fun e_ w2_=>e_ = .returned (.bool (p x0)) ∧ Below w1.heap.size w1 w2_))  : Calls Tryz.prog 293 #[.slice As s.length cs,.func (.func fp) #[] cfp.toArray] w (fun e_ w2_=>e_ = .returned (.int .i64 (idx p s)) ∧ Below w.heap.size w w2_):=by
  have Ls:=Kd.sl_len hs; have Cs:=Kd.sl_cap hs
  refine fnc (X:=X4 19 w) (l:=[(0,.slice As s.length cs),(1,.func (.func fp) #[] cfp.toArray)]) Tryz.func293 rfl rfl rfl ⟨rfl,rfl,trivial⟩ (s0d hs (s0n w)).1 ?_
  refine rn ik 14 [] rfl ?_
  refine lp (σ:=Nat) (fun k : Nat=>[(0,.slice As s.length cs),(1,.func (.func fp) #[] cfp.toArray),(7,.int .i64 ((s.length : Nat) : Int)),(8,.int .i64 ((k : Nat) : Int))])
      (fun k : Nat=>[dat (Kd.sl kPairS) [.slice As s.length cs] s ([]) ss_])
      (fun k : Nat=>k ≤ s.length ∧ ∀ j x,j < k → s[j]? = some x → p x = false) (fun k : Nat=>s.length - k) 0 [0] ⟨Nat.zero_le _,by simp⟩ ⟨rfl,rfl,rfl,rfl,trivial⟩ rfl ?_
  intro k hp_
  obtain ⟨hk,hinv⟩:=hp_
  refine rn ik 6 [] rfl ?_
  by_cases h1 : ((k : Nat) : Int) < ((s.length : Nat) : Int)
  · refine r1_ ik 16 [1] rfl (decide_eq_true h1) ?_
    refine gx 0 k rfl (by omega) fun y7 p2 cs_ s3 w6 m8 e4 r5 us3=>?_
    obtain ⟨A9,c10,A11,c12,rfl⟩:=kPairS_sh r5
    refine vl (ix k e4 rfl rfl rfl rfl rfl (by omega)) rfl (vl (ldq 0 rfl rfl rfl rfl rfl rfl rfl) rfl ?_)
    refine gp 0 Kd.Sub.rfl rfl (cs':=[.int .i64 y7.id,.slice A9 y7.rect.low.length c10,.slice A11 y7.rect.high.length c12]) rfl fun s13 w_ rs13 us13=>?_
    refine cv_ (v:=.bool (p y7)) hEp rfl rfl rfl rfl (fun w_ hs_=>hfp w_ y7 (List.mem_of_getElem? m8) hs_.below _ _ _ _ _ (hs_.at 0 rfl)) (en (nx ?_))
    by_cases h14 : p y7 = true
    · refine r1_ ik 13 [1] rfl h14 (ret1 rfl rfl (fun w_ hs_=>⟨?_,hs_.below⟩))
      rw [idx_some hinv m8 h14]
    · exact r1_ ik 5 [0] rfl (Bool.eq_false_iff.2 h14) (vl (ra (c:=((k + 1 : Nat) : Int)) rfl rfl rfl (by omega) (by omega) (by omega)) rfl (rn ik 2 [] rfl (lpe (s:=k) (k + 1) [2] ⟨by omega,idx_step hinv m8 (Bool.eq_false_iff.2 h14)⟩ (by omega) ⟨rfl,rfl,rfl,rfl,trivial⟩ rfl)))
  · refine r1_ ik 12 [0] rfl (decide_eq_false h1) (ret1 rfl rfl (fun w_ hs_=>⟨?_,hs_.below⟩))
    rw [idx_none hinv (by omega)]









theorem spec_l2Copy (w : World) {Ap1 : Option Addr} {cp1 : Nat} {Ap2 : Option Addr} {cp2 : Nat} {p : Pair} {sp_ : List Nat} {pp : Addr} (hp : (ptr kPairS pp [.int .i64 p.id,.slice Ap1 p.rect.low.length cp1,.slice Ap2 p.rect.high.length cp2] p sp_).P w) (hz : szPair p ≤ 1048576) : Calls Tryz.prog 248 #[.pointer (some pp)] w (Made kPairO w p []):=by
  unfold szPair at hz
  refine fnc (X:=X4 12 w) (l:=[(0,.pointer (some pp))]) Tryz.func248 rfl rfl rfl ⟨rfl,trivial⟩ (s0p hp (s0n w)).1 ?_
  refine sq (rg (al zero208 rfl rfl rfl ?_))
  intro b1
  refine en (nx (sq ?_))
  refine gq 1 kPairS_p1_2 rfl (cs':=[.slice Ap1 p.rect.low.length cp1,.slice Ap2 p.rect.high.length cp2]) rfl fun s2 w_ rs2 us2=>?_
  refine rd (Gq:=[ptr kRectS (pp.add 1) [.slice Ap1 p.rect.low.length cp1,.slice Ap2 p.rect.high.length cp2] p.rect s2,ptr kPairS pp [.int .i64 p.id,.slice Ap1 p.rect.low.length cp1,.slice Ap2 p.rect.high.length cp2] p sp_]) [0,1] rfl (rn ik 7 [1,2,3,4,1,1,5,6,7] rfl (q1 7 [0,1] rfl (by kernel_rfl) rfl (cm_ (dk:=kRectO) (x:=p.rect) (S:=[]) (by kernel_rfl) rfl rfl rfl sn0 (fun w_ hs_=>by exact spec_l1Copy w_ (hs_.at 0 rfl) (by omega)) (fun cs_ o11 s12 w_ r13 t14=>?_))))
  obtain ⟨A7,c8,A9,c10,rfl⟩:=kRectO_sh r13
  exact qn (qv 8 rfl (bd bld208 rfl rfl rfl) rfl (by kernel_rfl) (q1 9 [1,2] rfl (by kernel_rfl) rfl (f2 (sto rfl rfl rfl rfl rfl rfl rfl (cs':=[.int .i64 p.id,.slice A7 p.rect.low.length c8,.slice A9 p.rect.high.length c10]) rfl (qn (r1_ ik 3 [0] rfl ⟨[2,2],rfl⟩ (f1 (gs Kd.i64 [.int .i64 p.id] p.id (fun _=>⟨rfl,rfl,rfl⟩) (gj (da:=(Kd.via Kd.i64 Pair.id)) (db:=(Kd.via kRectO Pair.rect)) (x:=p) rfl (retc 1 rfl rfl rfl rfl rfl rfl (fun w_ hs_=>made hs_ rfl (see_app see_nil t14))))))))))))
theorem impl_clonedPairs (w : World) {list : List Pair} (hlist : (Kd.sl kPairS).Rel w [.slice Alist list.length clist] list [] slist_) (hz : list.length ≤ 1048576) (hz2 : ∀ p ∈ list,szPair p ≤ 1048576) : Calls Tryz.prog 200 #[.slice Alist list.length clist] w (Made (Kd.row 208 kPairO) w list []):=by
  have Llist:=Kd.sl_len hlist; have Clist:=Kd.sl_cap hlist
  refine fnc (X:=X4 24 w) (l:=[(0,.slice Alist list.length clist)]) Tryz.func200 rfl rfl rfl ⟨rfl,trivial⟩ (s0d hlist (s0n w)).1 ?_
  refine rn ik 7 [] rfl (bs0 (dk:=kPairO) rfl info208 rfl rfl ?_)
  intro b1
  refine rn ik 12 [] rfl ?_
  refine lp (σ:=Nat × List Pair × Option Addr × Nat × List Nat × List Nat) (fun z_ : Nat × List Pair × Option Addr × Nat × List Nat × List Nat=>match z_ with | (k,out,A_,c_,o_,s_)=>[(3,.slice A_ out.length c_),(7,.slice Alist list.length clist),(8,.int .i64 ((list.length : Nat) : Int)),(9,.int .i64 ((k : Nat) : Int))])
      (fun z_ : Nat × List Pair × Option Addr × Nat × List Nat × List Nat=>match z_ with | (k,out,A_,c_,o_,s_)=>[dat (Kd.row 208 kPairO) [.slice A_ out.length c_] out o_ s_,dat (Kd.sl kPairS) [.slice Alist list.length clist] list ([]) slist_])
      (fun z_ : Nat × List Pair × Option Addr × Nat × List Nat × List Nat=>match z_ with | (k,out,A_,c_,o_,s_)=>k ≤ list.length ∧ (out = list.take k) ∧ (∀ q ∈ s_,w.heap.size ≤ q) ∧ out.length ≤ k) (fun z_ : Nat × List Pair × Option Addr × Nat × List Nat × List Nat=>match z_ with | (k,out,A_,c_,o_,s_)=>list.length - k) (0,[],(some ⟨b1,0,none⟩),0,[b1],[]) [0,0] ⟨Nat.zero_le _,by simp,by simp,by simp⟩ ⟨rfl,rfl,rfl,rfl,trivial⟩ rfl ?_
  rintro ⟨k,out,A_,c_,o_,s_⟩ hp_
  obtain ⟨hk,hinv,hsee,hlen⟩:=hp_
  refine rn ik 6 [] rfl ?_
  by_cases h2 : ((k : Nat) : Int) < ((list.length : Nat) : Int)
  · refine r1_ ik 7 [1] rfl (decide_eq_true h2) ?_
    refine gx 1 k rfl (by omega) fun y8 p3 cs_ s4 w7 m9 e5 r6 us4=>?_
    obtain ⟨A10,c11,A12,c13,rfl⟩:=kPairS_sh r6
    refine vl (ix k e5 rfl rfl rfl rfl rfl (by omega)) rfl (vl (ldq 0 rfl rfl rfl rfl rfl rfl rfl) rfl (al zero208 rfl rfl rfl ?_))
    intro b14
    refine sto rfl rfl rfl rfl rfl rfl rfl (cs':=[.int .i64 y8.id,.slice A10 y8.rect.low.length c11,.slice A12 y8.rect.high.length c13]) rfl (en (nx ?_))
    refine gp 1 kPairS_p1_2 rfl (cs':=[.slice A10 y8.rect.low.length c11,.slice A12 y8.rect.high.length c13]) rfl fun s15 w_ rs15 us15=>?_
    refine rd (Gq:=[dat kRectS [.slice A10 y8.rect.low.length c11,.slice A12 y8.rect.high.length c13] y8.rect ([]) s15,blk b14 [.int .i64 y8.id,.slice A10 y8.rect.low.length c11,.slice A12 y8.rect.high.length c13] 208,ptr kPairS p3 [.int .i64 y8.id,.slice A10 y8.rect.low.length c11,.slice A12 y8.rect.high.length c13] y8 s4,dat (Kd.sl kPairS) [.slice Alist list.length clist] list ([]) slist_]) [0,0,0,1] rfl (rn ik 5 [1,2,3,1,0,4,5,1,0] rfl (q1 5 [0,0,0,1] rfl (by kernel_rfl) rfl (cm_ (dk:=kRectO) (x:=y8.rect) (S:=[]) (by kernel_rfl) rfl rfl rfl sn0 (fun w_ hs_=>by exact impl_Rect_cloned w_ (hs_.at 0 rfl) (by have z:=hz2 _ (List.mem_of_getElem? m9); unfold szPair at z; omega)) (fun cs_ o24 s25 w_ r26 t27=>?_))))
    obtain ⟨A20,c21,A22,c23,rfl⟩:=kRectO_sh r26
    refine qn (qv 6 rfl (bd bld208 rfl rfl rfl) rfl (by kernel_rfl) (q1 7 [1,1,1,2] rfl (by kernel_rfl) rfl (gs Kd.i64 [.int .i64 y8.id] y8.id (fun _=>⟨rfl,rfl,rfl⟩) (gj (da:=(Kd.via Kd.i64 Pair.id)) (db:=(Kd.via kRectO Pair.rect)) (x:=y8) rfl (bs1 (dk:=kPairO) rfl info208 (by decide) rfl rfl rfl rfl ?_)))))
    intro b29
    refine qn (q1 8 [1,1,1,2] rfl (by kernel_rfl) rfl ?_)
    refine f4 (ap (out ++ [y8]) rfl info208 rfl rfl (by decide) rfl rfl rfl rfl (by simp only [List.length_append,List.length_cons,List.length_nil]; omega) (by simp only [List.length_append,List.length_cons,List.length_nil]; omega) rfl (fun A30 c31 o32 s33 t34=>?_))
    exact qn (r1_ ik 5 [10,0] rfl ⟨[1,1,1,1],rfl⟩ (vl (ra (c:=((k + 1 : Nat) : Int)) rfl rfl rfl (by omega) (by omega) (by omega)) rfl (rn ik 2 [] rfl (lpe (s:=(k,out,A_,c_,o_,s_)) (k + 1,(out ++ [y8]),A30,c31,o32,s33) [0,3] ⟨by omega,(by rw [take_snoc m9,← hinv]),by grind,by first | omega | (simp only [List.length_append,List.length_cons,List.length_nil]; omega)⟩ (by show list.length - (k + 1) < list.length - k; omega) ⟨rfl,rfl,rfl,rfl,trivial⟩ rfl))))
  · exact r1_ ik 13 [0] rfl (decide_eq_false h2) (gr list (by rw [hinv,List.take_of_length_le (by omega)]) (ret1 rfl rfl (fun w_ hs_=>made hs_ rfl (by grind))))
theorem spec_l2Copies (w : World) {list : List Pair} (hlist : (Kd.sl kPairS).Rel w [.slice Alist list.length clist] list [] slist_) (hz : list.length ≤ 1048576) (hz2 : ∀ p ∈ list,szPair p ≤ 1048576) : Calls Tryz.prog 183 #[.slice Alist list.length clist] w (Made (Kd.row 208 kPairO) w list []):=by
  have Llist:=Kd.sl_len hlist; have Clist:=Kd.sl_cap hlist
  refine fnc (X:=X4 20 w) (l:=[(0,.slice Alist list.length clist)]) Tryz.func183 rfl rfl rfl ⟨rfl,trivial⟩ (s0d hlist (s0n w)).1 ?_
  refine rn ik 7 [] rfl (bs0 (dk:=kPairO) rfl info208 rfl rfl ?_)
  intro b1
  refine rn ik 10 [] rfl ?_
  refine lp (σ:=Nat × List Pair × Option Addr × Nat × List Nat × List Nat) (fun z_ : Nat × List Pair × Option Addr × Nat × List Nat × List Nat=>match z_ with | (k,out,A_,c_,o_,s_)=>[(0,.slice Alist list.length clist),(3,.slice A_ out.length c_),(4,.int .i64 ((k : Nat) : Int))])
      (fun z_ : Nat × List Pair × Option Addr × Nat × List Nat × List Nat=>match z_ with | (k,out,A_,c_,o_,s_)=>[dat (Kd.row 208 kPairO) [.slice A_ out.length c_] out o_ s_,dat (Kd.sl kPairS) [.slice Alist list.length clist] list ([]) slist_])
      (fun z_ : Nat × List Pair × Option Addr × Nat × List Nat × List Nat=>match z_ with | (k,out,A_,c_,o_,s_)=>k ≤ list.length ∧ (out = list.take k) ∧ (∀ q ∈ s_,w.heap.size ≤ q) ∧ out.length ≤ k) (fun z_ : Nat × List Pair × Option Addr × Nat × List Nat × List Nat=>match z_ with | (k,out,A_,c_,o_,s_)=>list.length - k) (0,[],(some ⟨b1,0,none⟩),0,[b1],[]) [0,0] ⟨Nat.zero_le _,by simp,by simp,by simp⟩ ⟨rfl,rfl,rfl,trivial⟩ rfl ?_
  rintro ⟨k,out,A_,c_,o_,s_⟩ hp_
  obtain ⟨hk,hinv,hsee,hlen⟩:=hp_
  refine rn ik 9 [] rfl ?_
  by_cases h2 : ((k : Nat) : Int) < ((list.length : Nat) : Int)
  · refine r1_ ik 9 [1] rfl (decide_eq_true h2) ?_
    refine gx 1 k rfl (by omega) fun y8 p3 cs_ s4 w7 m9 e5 r6 us4=>?_
    obtain ⟨A10,c11,A12,c13,rfl⟩:=kPairS_sh r6
    refine vl (ix k e5 rfl rfl rfl rfl rfl (by omega)) rfl (cm_ (dk:=kPairO) (x:=y8) (S:=[]) (by kernel_rfl) rfl rfl rfl sn0 (fun w_ hs_=>spec_l2Copy w_ (hs_.at 0 rfl) (by have z:=hz2 _ (List.mem_of_getElem? m9); omega)) (fun cs_ o18 s19 w_ r20 t21=>?_))
    obtain ⟨A14,c15,A16,c17,rfl⟩:=kPairO_sh r20
    refine bs1 (dk:=kPairO) rfl info208 (by decide) rfl rfl rfl rfl ?_
    intro b23
    refine f2 (ap (out ++ [y8]) rfl info208 rfl rfl (by decide) rfl rfl rfl rfl (by simp only [List.length_append,List.length_cons,List.length_nil]; omega) (by simp only [List.length_append,List.length_cons,List.length_nil]; omega) rfl (fun A24 c25 o26 s27 t28=>?_))
    exact rn ik 6 [] rfl (vl (ra (c:=((k + 1 : Nat) : Int)) rfl rfl rfl (by omega) (by omega) (by omega)) rfl (rn ik 2 [] rfl (lpe (s:=(k,out,A_,c_,o_,s_)) (k + 1,(out ++ [y8]),A24,c25,o26,s27) [0,1] ⟨by omega,(by rw [take_snoc m9,← hinv]),by grind,by first | omega | (simp only [List.length_append,List.length_cons,List.length_nil]; omega)⟩ (by show list.length - (k + 1) < list.length - k; omega) ⟨rfl,rfl,rfl,trivial⟩ rfl)))
  · exact r1_ ik 13 [0] rfl (decide_eq_false h2) (gr list (by rw [hinv,List.take_of_length_le (by omega)]) (ret1 rfl rfl (fun w_ hs_=>made hs_ rfl (by grind))))


end Go.Proofs.YtjdkfibeogiekaaGreat.Sx
