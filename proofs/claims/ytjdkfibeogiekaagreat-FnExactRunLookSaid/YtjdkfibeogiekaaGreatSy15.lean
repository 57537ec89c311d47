/- What functions of the program answer, each at every input that its row names; walked through their code. -/
import Derived.Test.YtjdkfibeogiekaaGreatSy14
namespace Go.Proofs.YtjdkfibeogiekaaGreat.Sx
open Go Go.RowKit Go.Proofs
set_option linter.unusedVariables false
set_option linter.unusedSimpArgs false
set_option maxRecDepth 20000
set_option maxHeartbeats 2000000
variable {Al1 Al2 Al3 Al5 Al6 : Option Addr} {cl1 cl2 cl3 cl5 cl6 d n : Nat} {sl_ : List Nat}
def tab15 : Tab := { size := [(2, 1, false), (37, 1, false), (75, 1, false), (156, 7, true), (208, 3, true)], off := [((84, 0), 0), ((84, 2), 3), ((84, 3), 4), ((156, 0), 0), ((156, 2), 6)], elem := [(75, 208)] }
theorem tab_ok15 : tab15.check Tryz.prog = true:=by kernel_rfl
noncomputable abbrev X15 (N : Nat) (w : World) : Cx := ⟨Tryz.prog, tab15, tab_ok15, wide, N, w, none, []⟩

def tellL (l : Look) : List Pair := if l.query.kind = 4 then (nearList l.query.point l.found).take l.query.k.toNat else l.found
theorem tell_far {l : Look} (h : ¬ l.query.kind = 4) : l.found = tellL l:=by unfold tellL; rw [if_neg h]
theorem tell_cut {l : Look} (h : l.query.kind = 4) : (nearList l.query.point l.found).take l.query.k.toNat = tellL l:=by unfold tellL; rw [if_pos h]
theorem tell_all {l : Look} (h : l.query.kind = 4) (hn : ¬ l.query.k < ((nearList l.query.point l.found).length : Int)) : nearList l.query.point l.found = tellL l:=by
  unfold tellL; rw [if_pos h,List.take_of_length_le (by omega)]

theorem spec_l9Answer (w : World) {l : Look} {pl : Addr} (hl : (ptr kLookS pl [.int .i64 l.query.kind,.slice Al1 l.query.rect.low.length cl1,.slice Al2 l.query.rect.high.length cl2,.slice Al3 l.query.point.length cl3,.int .i64 l.query.k,.slice Al5 l.front.length cl5,.slice Al6 l.found.length cl6] l sl_).P w) (hd : d ≤ 3) (yFl : ∀ x ∈ l.found,FitR d x.rect) (yFq : FitQ d l.query) (hz : l.found.length ≤ 1000) (yFs : ∀ x ∈ l.found,szPair x ≤ 1048576) : Calls Tryz.prog 114 #[.pointer (some pl)] w (Made (Kd.sl kPairS) w (tellL l) []):=by
  have Ll6:=Kd.sub_len kLookS_p6_1 hl.2.2.2; have Cl6:=Kd.sub_cap kLookS_p6_1 hl.2.2.2 rfl
  refine fnc (X:=X15 38 w) (l:=[(0,.pointer (some pl))]) Tryz.func114 rfl rfl rfl ⟨rfl,trivial⟩ (s0p hl (s0n w)).1 ?_
  refine rn ik 11 [0,7] rfl ?_
  refine gp 0 kLookS_p6_1 rfl (cs':=[.slice Al6 l.found.length cl6]) rfl fun s1 w_ rs1 us1=>?_
  have Ls1:=Kd.sl_len rs1; have Cs1:=Kd.sl_cap rs1
  refine cm_ (dk:=(Kd.row 208 kPairO)) (x:=l.found) (S:=[]) (by kernel_rfl) rfl rfl rfl sn0 (fun w_ hs_=>spec_l2Copies w_ (hs_.at 0 rfl) (by omega) yFs) (fun cs_ o4 s5 w_ r6 t7=>?_)
  obtain ⟨A2,c3,rfl⟩:=Kd.row_sh r6
  refine rn ik 9 [] rfl (vl (fb rfl rfl rfl) rfl (rn ik 4 [2,1] rfl ?_))
  by_cases h9 : l.query.kind = (4 : Int)
  · have yk:=yFq.k h9; have yp:=yFq.pt (.inr h9)
    refine r1_ ik 7 [1] rfl (beq_iff_eq.2 h9) (vl (fb rfl rfl rfl) rfl (vl (ldp (u:=.slice Al3 l.query.point.length cl3) 2 rfl rfl rfl rfl rfl rfl rfl) rfl (gl (Kd.Seals.row kPairO_seal _) (fun s10 us10=>?_))))
    refine gp 2 kLookS_p3_1 rfl (cs':=[.slice Al3 l.query.point.length cl3]) rfl fun s11 w_ rs11 us11=>?_
    have Ls11:=Kd.sl_len rs11; have Cs11:=Kd.sl_cap rs11
    refine cm_ (dk:=(Kd.sl kPairS)) (x:=(nearList l.query.point l.found)) (S:=(s10)) (by kernel_rfl) rfl rfl rfl (snt 1 rfl) (fun w_ hs_=>spec_l2Near w_ (hs_.at 1 rfl) (hs_.at 0 rfl) hd yFl yp (by omega)) (fun cs_ o14 s15 w_ r16 t17=>?_)
    obtain ⟨rfl,A12,c13,rfl,Cr16,Lr16,-⟩:=r16
    refine rn ik 10 [] rfl (vl (fb rfl rfl rfl) rfl (rn ik 4 [4,5] rfl ?_))
    by_cases h19 : l.query.k < (((nearList l.query.point l.found).length : Nat) : Int)
    · refine r1_ ik 6 [1] rfl (decide_eq_true h19) (vl (fb rfl rfl rfl) rfl (vl (ldp (u:=.int .i64 l.query.k) 4 rfl rfl rfl rfl rfl rfl rfl) rfl (vl (evr (v':=.slice A12 (((nearList l.query.point l.found).take l.query.k.toNat).length) c13) (shi (i:=l.query.k.toNat) rfl rfl rfl rfl (congrArg (fun z=>some (Value.int .i64 z)) (show l.query.k = ((l.query.k.toNat : Nat) : Int) from (by omega))) (by omega)) (sl_eq (by first | (simp; done) | (simp; omega)))) rfl (rn ik 10 [] rfl ?_))))
      refine gct 0 l.query.k.toNat rfl (by omega) fun s20 w_ rs20 us20=>?_
      have Ls20:=Kd.sl_len rs20
      exact gr (tellL l) (tell_cut h9) (ret1 rfl rfl (fun w_ hs_=>made hs_ rfl (by grind)))
    · exact r1_ ik 10 [0] rfl (decide_eq_false h19) (gr (tellL l) (tell_all h9 h19) (ret1 rfl rfl (fun w_ hs_=>made hs_ rfl (by grind))))
  · refine r1_ ik 10 [0] rfl (beq_eq_false_iff_ne.2 h9) (gl (Kd.Seals.row kPairO_seal _) (fun s21 us21=>?_))
    exact gr (tellL l) (tell_far h9) (ret1 rfl rfl (fun w_ hs_=>made hs_ rfl (by grind)))
theorem rcutA {X : Cx} {K : Act → World → Prop} {l : List (Nat × Value)} {G : List Asn} {α : Type} {dk : Kd α} (i : Nat) {e n c : Nat} {A : Option Addr} {xs : List α} {o1 s1 : List Nat} (hpu : dk.Pure) (hi : i ≤ n) (h : ∀ o3 s3,(∀ q ∈ s3,q ∈ s1) → SK X K l (dat (Kd.row e dk) [.slice A i c] (xs.take i) o3 s3 :: G)) : SK X K l (dat (Kd.row e dk) [.slice A n c] xs o1 s1 :: G):=fun a w hk hs=>by
  have hr : (Kd.row e dk).Rel w [.slice A n c] xs o1 s1:=hs.at 0 rfl
  rcases hr with ⟨rfl,rfl,rfl,hc⟩ | ⟨b,c',cur,o',hc,rfl,hb,h1,h2,h3,he⟩
  · obtain ⟨rfl,rfl,rfl⟩ : A = none ∧ n = 0 ∧ c = 0:=by simpa using hc
    obtain rfl : i = 0:=by omega
    exact h [] [] (fun _ h=>h) a w hk (by simpa using hs)
  · obtain ⟨rfl,rfl,rfl⟩ : A = some ⟨b,0,none⟩ ∧ n = xs.length ∧ c = c':=by simpa using hc
    exact rcut i hpu hi h a w hk hs
theorem all_hit {ts : List (Tg Pair)} {q : Query} (h4 : q.kind = 4) : ts = ts.filter (hitT q):=by
  symm; rw [List.filter_eq_self]
  intro t _
  unfold hitT matchQ
  rw [if_neg (by omega),if_neg (by omega),if_neg (by omega)]
theorem tell_ans {l : Look} (h4 : l.query.kind = 4) : answerL l.found l.query = tellL l:=by
  have h : hits l.found l.query = l.found:=by
    unfold hits; rw [List.filter_eq_self]
    intro t _
    unfold matchQ
    rw [if_neg (by omega),if_neg (by omega),if_neg (by omega)]
  unfold answerL tellL; rw [if_pos h4,if_pos h4,h]
theorem impl_Look_nearest (w : World) {l : Look} (hl : kLookS.Rel w [.int .i64 l.query.kind,.slice Al1 l.query.rect.low.length cl1,.slice Al2 l.query.rect.high.length cl2,.slice Al3 l.query.point.length cl3,.int .i64 l.query.k,.slice Al5 l.front.length cl5,.slice Al6 l.found.length cl6] l [] sl_) (hd : d ≤ 3) (yFl : ∀ x ∈ l.found,FitR d x.rect) (yFq : FitQ d l.query) (hz : l.found.length ≤ 1000) (yFs : ∀ x ∈ l.found,szPair x ≤ 1048576) (h4 : l.query.kind = 4) (yU : ∀ x ∈ l.found,∀ y ∈ l.found,x.id = y.id → x = y) (yN : l.found.Nodup) : Calls Tryz.prog 190 #[.agg #[.int .i64 l.query.kind,.slice Al1 l.query.rect.low.length cl1,.slice Al2 l.query.rect.high.length cl2,.slice Al3 l.query.point.length cl3,.int .i64 l.query.k,.slice Al5 l.front.length cl5,.slice Al6 l.found.length cl6]] w (Made (Kd.row 208 kPairO) w (answerL l.found l.query) []):=by
  have Ll6:=Kd.sub_len kLookS_p6_1 hl; have Cl6:=Kd.sub_cap kLookS_p6_1 hl rfl
  have yk:=yFq.k h4; have yp:=yFq.pt (.inr h4)
  refine fnc (X:=X15 21 w) (l:=[(0,.agg #[.int .i64 l.query.kind,.slice Al1 l.query.rect.low.length cl1,.slice Al2 l.query.rect.high.length cl2,.slice Al3 l.query.point.length cl3,.int .i64 l.query.k,.slice Al5 l.front.length cl5,.slice Al6 l.found.length cl6])]) Tryz.func190 rfl rfl rfl ⟨rfl,trivial⟩ (s0d hl (s0n w)).1 ?_
  refine sq (rg (bx rfl rfl rfl rfl ?_))
  intro b1
  refine rn ik 7 [0,0] rfl ?_
  refine gd 1 kLookS_p6_1 rfl (cs':=[.slice Al6 l.found.length cl6]) rfl fun s2 w_ rs2 us2=>?_
  have Ls2:=Kd.sl_len rs2; have Cs2:=Kd.sl_cap rs2
  refine cm_ (dk:=(Kd.row 208 kPairO)) (x:=l.found) (S:=[]) (by kernel_rfl) rfl rfl rfl sn0 (fun w_ hs_=>impl_clonedPairs w_ (hs_.at 0 rfl) (by omega) yFs) (fun cs_ o5 s6 w_ r7 t8=>?_)
  obtain ⟨A3,c4,rfl⟩:=Kd.row_sh r7
  refine rn ik 9 [2,0] rfl ?_
  refine gd 3 kLookS_p3_1 rfl (cs':=[.slice Al3 l.query.point.length cl3]) rfl fun s10 w_ rs10 us10=>?_
  have Ls10:=Kd.sl_len rs10; have Cs10:=Kd.sl_cap rs10
  refine cbk (gf:=292) (T:=37) (v:=.slice Al3 l.query.point.length cl3) (by kernel_rfl) rfl rfl rfl (fun w_ hs_=>impl_nearFirst w_ (hs_.at 0 rfl)) (fun b11=>?_)
  refine f2 (gtag kPairO_seal rfl (fun ts bs_ s12 et eo_ en_ es_ ex_ ee_=>?_))
  have yn_:=t8; have etl : ts.length = l.found.length:=(by rw [← et,List.length_map]); have ycap:=Kd.row_cap r7
  refine cto (dk:=(Kd.row 208 kPairT)) (cs:=[.slice A3 l.found.length c4]) (x:=(ts.mergeSort (farT l.query.point))) (v:=.tuple #[]) (S:=s12) (by kernel_rfl) rfl rfl rfl (snt 0 rfl) _ (fun _ hs_=>hs_.below.size) (fun w_ hs_=>sort_pairs w_ (nearC l.query.point) (by kernel_rfl) ((hs_.pk [0] rfl).nl) (fun w1 x0 x1 m0_ m1_ b_ _ _ _ _ _ _ _ _ _ r0_ _ r1_=>impl_nearFirst_1 w1  r0_ r1_ (ptr_blk (hs_.far b_ 1 rfl) (hs_.far b_ 2 rfl) rfl) hd (yFl _ (by rw [← et]; exact m0_)) (yFl _ (by rw [← et]; exact m1_)) yp) (near_swo _) (tag_one (all_hit h4) et yU yN) (by omega) etl.symm) (fun o13 s14 t15=>?_)
  refine rn ik 10 [5,0] rfl (vl (mn rfl rfl rfl) rfl (vl (shi (i:=((gmin l.query.k ((l.found.length : Nat) : Int)).toNat)) rfl rfl rfl rfl (congrArg (fun z=>some (Value.int .i64 z)) (show (gmin l.query.k ((l.found.length : Nat) : Int)) = (((gmin l.query.k ((l.found.length : Nat) : Int)).toNat : Nat) : Int) from (by unfold gmin; split <;> omega))) (by unfold gmin; split <;> omega)) rfl (rn ik 4 [] rfl (rcutA ((gmin l.query.k ((l.found.length : Nat) : Int)).toNat) kPairT_pure (by unfold gmin; split <;> omega) (fun o16 s17 t18=>?_)))))
  refine gut 0 kPairO_seal kPairS_pure rfl (tag_mem2 (all_hit h4)) (tag_nd2 (all_hit h4) en_) eo_ (fun o_=>?_) ex_
  refine gr (answerL l.found l.query) (tag_near (all_hit h4) et yU h4 (by unfold gmin; split <;> omega)) ?_
  exact ret1 rfl rfl (fun w_ hs_=>made hs_ rfl (fun b hb=>.inr (see_tag es_ yn_ (tag_mem2 (all_hit h4)) b hb)))
theorem clone_n (w : World) {As : Option Addr} {cs : Nat} {s : List (Tg Pair)} {ss_ : List Nat} (hs : (Kd.sl kPairT).Rel w [.slice As n cs] s [] ss_) (hz : s.length ≤ 1048576) (hn : n = s.length) : Calls Tryz.prog 199 #[.slice As n cs] w (Made (Kd.row 208 kPairT) w s (ss_)):=by
  subst hn
  exact clone_T w hs hz
theorem impl_Look_told (w : World) {l : Look} (hl : kLookS.Rel w [.int .i64 l.query.kind,.slice Al1 l.query.rect.low.length cl1,.slice Al2 l.query.rect.high.length cl2,.slice Al3 l.query.point.length cl3,.int .i64 l.query.k,.slice Al5 l.front.length cl5,.slice Al6 l.found.length cl6] l [] sl_) (hd : d ≤ 3) (yFl : ∀ x ∈ l.found,FitR d x.rect) (yFq : FitQ d l.query) (hz : l.found.length ≤ 1000) (yFs : ∀ x ∈ l.found,szPair x ≤ 1048576) (yU : ∀ x ∈ l.found,∀ y ∈ l.found,x.id = y.id → x = y) (yN : l.found.Nodup) : Calls Tryz.prog 121 #[.agg #[.int .i64 l.query.kind,.slice Al1 l.query.rect.low.length cl1,.slice Al2 l.query.rect.high.length cl2,.slice Al3 l.query.point.length cl3,.int .i64 l.query.k,.slice Al5 l.front.length cl5,.slice Al6 l.found.length cl6]] w (Made (Kd.row 208 kPairO) w (tellL l) []):=by
  have Ll6:=Kd.sub_len kLookS_p6_1 hl; have Cl6:=Kd.sub_cap kLookS_p6_1 hl rfl
  refine fnc (X:=X15 13 w) (l:=[(0,.agg #[.int .i64 l.query.kind,.slice Al1 l.query.rect.low.length cl1,.slice Al2 l.query.rect.high.length cl2,.slice Al3 l.query.point.length cl3,.int .i64 l.query.k,.slice Al5 l.front.length cl5,.slice Al6 l.found.length cl6])]) Tryz.func121 rfl rfl rfl ⟨rfl,trivial⟩ (s0d hl (s0n w)).1 ?_
  refine sq (rg (bx rfl rfl rfl rfl ?_))
  intro b1
  refine rn ik 12 [0,0] rfl ?_
  by_cases h2 : l.query.kind = (4 : Int)
  · have yk:=yFq.k h2; have yp:=yFq.pt (.inr h2)
    refine r1_ ik 4 [1,0,0] rfl (beq_iff_eq.2 h2) (cm_ (dk:=(Kd.row 208 kPairO)) (x:=(answerL l.found l.query)) (S:=[]) (by kernel_rfl) rfl rfl rfl sn0 (fun w_ hs_=>impl_Look_nearest w_ (hs_.at 1 rfl) hd yFl yFq hz yFs h2 yU yN) (fun cs_ o5 s6 w_ r7 t8=>?_))
    obtain ⟨A3,c4,rfl⟩:=Kd.row_sh r7
    refine gtag kPairO_seal rfl (fun ts bs_ s10 et eo_ en_ es_ ex_ ee_=>?_)
    have yn_:=t8; have etl : ts.length = (answerL l.found l.query).length:=(by rw [← et,List.length_map]); have ycap:=Kd.row_cap r7
    refine gl (Kd.Seals.row kPairT_self _) (fun s11 us11=>?_)
    refine cm_ (dk:=(Kd.row 208 kPairT)) (x:=ts) (S:=(s11)) (by kernel_rfl) rfl rfl rfl (snt 0 rfl) (fun w_ hs_=>clone_n w_ (hs_.at 0 rfl) (by have z:=ans_len l.found l.query; rw [etl]; omega) etl.symm) (fun cs_ o14 s15 w_ r16 t17=>?_)
    obtain ⟨A12,c13,rfl⟩:=Kd.row_sh r16
    refine rn ik 5 [] rfl (gut 1 kPairO_seal kPairS_pure rfl (fun t ht=>ht) en_ eo_ (fun o_=>?_) ex_)
    refine gr (tellL l) (et.trans (tell_ans h2)) ?_
    exact ret1 rfl rfl (fun w_ hs_=>made hs_ rfl (fun b hb=>.inr (see_tag es_ yn_ (fun t ht=>ht) b hb)))
  · refine r1_ ik 7 [0,0,0] rfl (beq_eq_false_iff_ne.2 h2) ?_
    refine gd 1 kLookS_p6_1 rfl (cs':=[.slice Al6 l.found.length cl6]) rfl fun s19 w_ rs19 us19=>?_
    have Ls19:=Kd.sl_len rs19; have Cs19:=Kd.sl_cap rs19
    refine cm_ (dk:=(Kd.row 208 kPairO)) (x:=l.found) (S:=[]) (by kernel_rfl) rfl rfl rfl sn0 (fun w_ hs_=>impl_clonedPairs w_ (hs_.at 0 rfl) (by omega) yFs) (fun cs_ o22 s23 w_ r24 t25=>?_)
    obtain ⟨A20,c21,rfl⟩:=Kd.row_sh r24
    exact rn ik 4 [] rfl (gr (tellL l) (tell_far h2) (ret1 rfl rfl (fun w_ hs_=>made hs_ rfl (by grind))))

end Go.Proofs.YtjdkfibeogiekaaGreat.Sx
