/- What functions of the program answer, each at every input that its row names; walked through their code. -/
import Derived.Test.YtjdkfibeogiekaaGreatSy2
namespace Go.Proofs.YtjdkfibeogiekaaGreat.Sx
open Go Go.RowKit Go.Proofs
set_option linter.unusedVariables false
set_option linter.unusedSimpArgs false
set_option maxRecDepth 20000
set_option maxHeartbeats 2000000
variable {Aa Aa0 Aa1 Aa2 Aa3 Ab1 Ab2 Aq1 Aq2 Aq3 : Option Addr} {ca ca0 ca1 ca2 ca3 cb1 cb2 cq1 cq2 cq3 na0 : Nat} {oa_ sa_ sb_ sq_ : List Nat}
def tab3 : Tab := { size := [(2, 1, false), (24, 1, false), (36, 1, false), (37, 1, false), (38, 1, false), (52, 4, true), (70, 2, true), (82, 2, true), (84, 5, true), (102, 4, true), (133, 2, true), (208, 3, true)], off := [((40, 1), 1), ((40, 2), 2), ((40, 3), 3), ((52, 0), 0), ((52, 1), 1), ((52, 2), 2), ((52, 3), 3), ((72, 0), 0), ((72, 1), 1), ((72, 2), 3), ((72, 3), 4), ((82, 0), 0), ((82, 1), 1), ((84, 0), 0), ((84, 1), 1), ((84, 2), 3), ((84, 3), 4), ((102, 0), 0), ((102, 1), 2), ((102, 2), 3), ((133, 0), 0), ((133, 1), 1), ((208, 0), 0), ((208, 1), 1)], elem := [(24, 102), (36, 52), (37, 2), (38, 133), (75, 208)] }
theorem tab_ok3 : tab3.check Tryz.prog = true:=by kernel_rfl
noncomputable abbrev X3 (N : Nat) (w : World) : Cx := ⟨Tryz.prog, tab3, tab_ok3, wide, N, w, none, []⟩
theorem zero84 : (Tryz.prog.info? 84).bind (·.zero) = some (.agg #[.int .i64 0,.slice none 0 0,.slice none 0 0,.slice none 0 0,.int .i64 0]):=by kernel_rfl

structure Query where
  kind : Int
  rect : Rect
  point : List Int
  k : Int
  deriving DecidableEq
def kQueryS : Kd Query := ((Kd.i64.via Query.kind).cat ((kRectS.via Query.rect).cat (((Kd.sl Kd.i64).via Query.point).cat (Kd.i64.via Query.k))))
theorem kQueryS_sh {w : World} {cs : List Value} {x : Query} {o s : List Nat} (h : kQueryS.Rel w cs x o s) : ∃ (A1 : Option Addr) (c1 : Nat) (A2 : Option Addr) (c2 : Nat) (A3 : Option Addr) (c3 : Nat),cs = [.int .i64 x.kind,.slice A1 x.rect.low.length c1,.slice A2 x.rect.high.length c2,.slice A3 x.point.length c3,.int .i64 x.k]:=by
  obtain ⟨c10,c20,o10,o20,s10,s20,rfl,rfl,rfl,h0,k0⟩:=h
  obtain ⟨rfl,-,-⟩:=h0
  obtain ⟨c11,c21,o11,o21,s11,s21,rfl,rfl,rfl,h1,k1⟩:=k0
  obtain ⟨_,_,_,_,rfl⟩:=kRectS_sh h1
  obtain ⟨c12,c22,o12,o22,s12,s22,rfl,rfl,rfl,h2,k2⟩:=k1
  obtain ⟨-,A2_,c2_,rfl,-⟩:=h2
  obtain ⟨rfl,-,-⟩:=k2
  exact ⟨_,_,_,_,_,_,rfl⟩
theorem kQueryS_p1_2 : Kd.Sub kQueryS 1 kRectS (fun x=>x.rect):=(Kd.Sub.right (Kd.Sub.left (Kd.Sub.rfl.via Query.rect) _ (by decide)) _)
theorem kQueryS_p1_1 : Kd.Sub kQueryS 1 (Kd.sl Kd.i64) (fun x=>x.rect.low):=(Kd.Sub.right (Kd.Sub.left (kRectS_p0_1.via Query.rect) _ (by decide)) _)
theorem kQueryS_p2_1 : Kd.Sub kQueryS 2 (Kd.sl Kd.i64) (fun x=>x.rect.high):=(Kd.Sub.right (Kd.Sub.left (kRectS_p1_1.via Query.rect) _ (by decide)) _)
theorem kQueryS_p3_1 : Kd.Sub kQueryS 3 (Kd.sl Kd.i64) (fun x=>x.point):=(Kd.Sub.right (Kd.Sub.right (Kd.Sub.left (Kd.Sub.rfl.via Query.point) _ (by decide)) _) _)
def kQueryO : Kd Query := ((Kd.i64.via Query.kind).cat ((kRectO.via Query.rect).cat (((Kd.row 2 Kd.i64).via Query.point).cat (Kd.i64.via Query.k))))
theorem kQueryO_sh {w : World} {cs : List Value} {x : Query} {o s : List Nat} (h : kQueryO.Rel w cs x o s) : ∃ (A1 : Option Addr) (c1 : Nat) (A2 : Option Addr) (c2 : Nat) (A3 : Option Addr) (c3 : Nat),cs = [.int .i64 x.kind,.slice A1 x.rect.low.length c1,.slice A2 x.rect.high.length c2,.slice A3 x.point.length c3,.int .i64 x.k]:=by
  obtain ⟨c10,c20,o10,o20,s10,s20,rfl,rfl,rfl,h0,k0⟩:=h
  obtain ⟨rfl,-,-⟩:=h0
  obtain ⟨c11,c21,o11,o21,s11,s21,rfl,rfl,rfl,h1,k1⟩:=k0
  obtain ⟨_,_,_,_,rfl⟩:=kRectO_sh h1
  obtain ⟨c12,c22,o12,o22,s12,s22,rfl,rfl,rfl,h2,k2⟩:=k1
  obtain ⟨A2_,c2_,rfl⟩:=Kd.row_sh h2
  obtain ⟨rfl,-,-⟩:=k2
  exact ⟨_,_,_,_,_,_,rfl⟩
theorem kQueryO_seal : Kd.Seals kQueryO kQueryS:=(Kd.Seals.cat (Kd.Seals.via Kd.Seals.i64 _) (Kd.Seals.cat (Kd.Seals.via kRectO_seal _) (Kd.Seals.cat (Kd.Seals.via (Kd.Seals.row Kd.Seals.i64 _) _) (Kd.Seals.via Kd.Seals.i64 _))))
theorem Query_eq (a b : Query) : decide (a = b) = (decide (a.kind = b.kind) && decide (a.rect = b.rect) && decide (a.point = b.point) && decide (a.k = b.k)):=by
  cases a; cases b; rw [Bool.eq_iff_iff]; simp [and_assoc]
def rectEmpty (r : Rect) : Bool := decide ((r.low.length : Int) = 0) && decide ((r.high.length : Int) = 0)
theorem rectEmpty_f {r : Rect} (h : (0 : Int) < ((r.low.length : Nat) : Int) + ((r.high.length : Nat) : Int)) : rectEmpty r = false:=by
  simp only [rectEmpty,Bool.and_eq_false_iff,decide_eq_false_iff_not]; omega
theorem rectEmpty_t {r : Rect} (h : ¬ (0 : Int) < ((r.low.length : Nat) : Int) + ((r.high.length : Nat) : Int)) : rectEmpty r = true:=by
  simp only [rectEmpty,Bool.and_eq_true,decide_eq_true_eq]; omega
theorem rectEmpty_1 {r : Rect} (h : ¬ ((r.low.length : Nat) : Int) = (0 : Int)) : rectEmpty r = false:=by
  simp only [rectEmpty,Bool.and_eq_false_iff,decide_eq_false_iff_not]; exact .inl h
theorem rectEmpty_2 {r : Rect} (h : ¬ ((r.high.length : Nat) : Int) = (0 : Int)) : rectEmpty r = false:=by
  simp only [rectEmpty,Bool.and_eq_false_iff,decide_eq_false_iff_not]; exact .inr h
theorem rectEmpty_3 {r : Rect} (h1 : ((r.low.length : Nat) : Int) = (0 : Int)) (h2 : ((r.high.length : Nat) : Int) = (0 : Int)) : rectEmpty r = true:=by
  simp only [rectEmpty,Bool.and_eq_true,decide_eq_true_eq]; exact ⟨h1,h2⟩
def hasRect (k : Int) : Bool := k == 1 || k == 2
def queryFault (q : Query) (dims : Int) : Int :=
  if isDims dims = true then
    if within q.kind 1 4 = true then
      if hasRect q.kind = true ∧ (0 : Int) < (q.point.length : Int) then 1 else
      if hasRect q.kind = false ∧ rectEmpty q.rect = false then 1 else
      if ¬ q.kind = 4 ∧ ¬ q.k = 0 then 1 else
      if hasRect q.kind = true then rectFault q.rect dims else
      if pointFault q.point dims = 0 then if q.kind = 4 ∧ within q.k 1 20 = false then 3 else 0 else pointFault q.point dims
    else 1
  else 3
theorem impl_hasRect (w : World) (kind : Int)  : Calls Tryz.prog 253 #[.int .i64 kind] w (fun e_ w2_=>e_ = .returned (.bool (hasRect kind)) ∧ Below w.heap.size w w2_):=by
  refine fnc (X:=X3 9 w) (l:=[(0,.int .i64 kind)]) Tryz.func253 rfl rfl rfl ⟨rfl,trivial⟩ (s0n w).1 ?_
  refine rn ik 10 [] rfl ?_
  by_cases h1 : kind = (1 : Int)
  · refine r3_ ik 7 [0,0,1] rfl (beq_iff_eq.2 h1) (beq_iff_eq.2 h1) (beq_iff_eq.2 h1) (ret1 rfl rfl (fun w_ hs_=>⟨?_,hs_.below⟩))
    simp [hasRect,h1]
  · refine r3_ ik 7 [1,1,0] rfl (beq_eq_false_iff_ne.2 h1) (beq_eq_false_iff_ne.2 h1) (beq_eq_false_iff_ne.2 h1) (ret1 rfl rfl (fun w_ hs_=>⟨?_,hs_.below⟩))
    simp [hasRect,h1]
theorem impl_QueryFault (w : World) (dims : Int) {q : Query} (hq : kQueryS.Rel w [.int .i64 q.kind,.slice Aq1 q.rect.low.length cq1,.slice Aq2 q.rect.high.length cq2,.slice Aq3 q.point.length cq3,.int .i64 q.k] q [] sq_)  : Calls Tryz.prog 188 #[.agg #[.int .i64 q.kind,.slice Aq1 q.rect.low.length cq1,.slice Aq2 q.rect.high.length cq2,.slice Aq3 q.point.length cq3,.int .i64 q.k],.int .i64 dims] w (fun e_ w2_=>e_ = .returned (.int .i64 (queryFault q dims)) ∧ Below w.heap.size w w2_):=by
  refine fnc (X:=X3 77 w) (l:=[(0,.agg #[.int .i64 q.kind,.slice Aq1 q.rect.low.length cq1,.slice Aq2 q.rect.high.length cq2,.slice Aq3 q.point.length cq3,.int .i64 q.k]),(1,.int .i64 dims)]) Tryz.func188 rfl rfl rfl ⟨rfl,rfl,trivial⟩ (s0d hq (s0n w)).1 ?_
  refine sq (rg (bx rfl rfl rfl rfl ?_))
  intro b1
  refine rn ik 11 [0,0] rfl ?_
  by_cases h2 : ((q.rect.low.length : Nat) : Int) = (0 : Int)
  · refine rp ik 14 [1,1,1,0,0,1,1,1] rfl ⟨(beq_iff_eq.2 h2),(beq_iff_eq.2 h2),(beq_iff_eq.2 h2),(beq_iff_eq.2 h2),(beq_iff_eq.2 h2),(beq_iff_eq.2 h2),⟨⟩⟩ (cs_ (v:=.bool (isDims dims)) (by kernel_rfl) rfl rfl rfl (fun w_ hs_=>impl_isDims w_ _) (rn ik 4 [] rfl ?_))
    by_cases h3 : isDims dims = true
    · refine r1_ ik 6 [0,0,0] rfl (not_f h3) (cs_ (v:=.bool (within q.kind 1 4)) (by kernel_rfl) rfl rfl rfl (fun w_ hs_=>impl_within w_ _ _ _) (rn ik 4 [] rfl ?_))
      by_cases h4 : within q.kind 1 4 = true
      · refine r1_ ik 5 [0,0,0] rfl (not_f h4) (cs_ (v:=.bool (hasRect q.kind)) (by kernel_rfl) rfl rfl rfl (fun w_ hs_=>impl_hasRect w_ _) (m_ rfl rfl ?_))
        by_cases h5 : hasRect q.kind = true
        · refine rp ik 8 [1,1,0,0,1,1,1] rfl ⟨h5,h5,h5,h5,h5,⟨⟩⟩ ?_
          by_cases h6 : (0 : Int) < ((q.point.length : Nat) : Int)
          · refine r2_ ik 12 [1,1] rfl (decide_eq_true h6) (decide_eq_true h6) (ret1 rfl rfl (fun w_ hs_=>⟨?_,hs_.below⟩))
            exact ri (by grind [queryFault])
          · refine r1_ ik 5 [0,0,0] rfl (decide_eq_false h6) (cs_ (v:=.bool (hasRect q.kind)) (by kernel_rfl) rfl rfl rfl (fun w_ hs_=>impl_hasRect w_ _) (r4_ ik 14 [0,0,0,0,0,0] rfl (not_f h5) (not_f h5) (not_f h5) rfl ?_))
            by_cases h7 : q.kind = (4 : Int)
            · refine rp ik 12 [0,0,0,0,0,0,0] rfl ⟨rfl,(bne_eq_false_iff_eq.2 h7),(bne_eq_false_iff_eq.2 h7),(bne_eq_false_iff_eq.2 h7),(bne_eq_false_iff_eq.2 h7),⟨⟩⟩ (cs_ (v:=.bool (hasRect q.kind)) (by kernel_rfl) rfl rfl rfl (fun w_ hs_=>impl_hasRect w_ _) (r1_ ik 9 [1,0,0] rfl h5 ?_))
              refine gd 1 kQueryS_p1_2 rfl (cs':=[.slice Aq1 q.rect.low.length cq1,.slice Aq2 q.rect.high.length cq2]) rfl fun s8 w_ rs8 us8=>?_
              refine cs_ (v:=.int .i64 (rectFault q.rect dims)) (by kernel_rfl) rfl rfl rfl (fun w_ hs_=>impl_RectFault w_ _ (hs_.at 0 rfl)) (rn ik 6 [] rfl (ret1 rfl rfl (fun w_ hs_=>⟨?_,hs_.below⟩)))
              exact ri (by grind [queryFault])
            · refine r4_ ik 7 [1,1,0,0,1,1] rfl (bne_iff_ne.2 h7) (bne_iff_ne.2 h7) (bne_iff_ne.2 h7) (bne_iff_ne.2 h7) ?_
              by_cases h9 : q.k = (0 : Int)
              · refine r1_ ik 5 [0,0,0] rfl (bne_eq_false_iff_eq.2 h9) (cs_ (v:=.bool (hasRect q.kind)) (by kernel_rfl) rfl rfl rfl (fun w_ hs_=>impl_hasRect w_ _) (r1_ ik 9 [1,0,0] rfl h5 ?_))
                refine gd 1 kQueryS_p1_2 rfl (cs':=[.slice Aq1 q.rect.low.length cq1,.slice Aq2 q.rect.high.length cq2]) rfl fun s10 w_ rs10 us10=>?_
                refine cs_ (v:=.int .i64 (rectFault q.rect dims)) (by kernel_rfl) rfl rfl rfl (fun w_ hs_=>impl_RectFault w_ _ (hs_.at 0 rfl)) (rn ik 6 [] rfl (ret1 rfl rfl (fun w_ hs_=>⟨?_,hs_.below⟩)))
                exact ri (by grind [queryFault])
              · refine r1_ ik 9 [1] rfl (bne_iff_ne.2 h9) (ret1 rfl rfl (fun w_ hs_=>⟨?_,hs_.below⟩))
                exact ri (by grind [queryFault])
        · refine rp ik 13 [0,0,0,0,0,0,0,0] rfl ⟨rfl,(Bool.eq_false_iff.2 h5),(Bool.eq_false_iff.2 h5),(Bool.eq_false_iff.2 h5),(Bool.eq_false_iff.2 h5),(Bool.eq_false_iff.2 h5),⟨⟩⟩ (cs_ (v:=.bool (hasRect q.kind)) (by kernel_rfl) rfl rfl rfl (fun w_ hs_=>impl_hasRect w_ _) (r3_ ik 8 [1,1,1] rfl (not_t (Bool.eq_false_iff.2 h5)) (not_t (Bool.eq_false_iff.2 h5)) (not_t (Bool.eq_false_iff.2 h5)) ?_))
          by_cases h11 : ((q.rect.high.length : Nat) : Int) = (0 : Int)
          · have gh11:=rectEmpty_3 (r:=q.rect) h2 h11
            refine r1_ ik 6 [0,0,0] rfl (not_f (beq_iff_eq.2 h11)) ?_
            by_cases h12 : q.kind = (4 : Int)
            · refine rp ik 12 [0,0,0,0,0,0,0] rfl ⟨rfl,(bne_eq_false_iff_eq.2 h12),(bne_eq_false_iff_eq.2 h12),(bne_eq_false_iff_eq.2 h12),(bne_eq_false_iff_eq.2 h12),⟨⟩⟩ (cs_ (v:=.bool (hasRect q.kind)) (by kernel_rfl) rfl rfl rfl (fun w_ hs_=>impl_hasRect w_ _) (r1_ ik 13 [0,0,0] rfl (Bool.eq_false_iff.2 h5) ?_))
              refine gd 1 kQueryS_p3_1 rfl (cs':=[.slice Aq3 q.point.length cq3]) rfl fun s13 w_ rs13 us13=>?_
              have Ls13:=Kd.sl_len rs13; have Cs13:=Kd.sl_cap rs13
              refine cs_ (v:=.int .i64 (pointFault q.point dims)) (by kernel_rfl) rfl rfl rfl (fun w_ hs_=>impl_PointFault w_ _ (hs_.at 0 rfl)) (rn ik 9 [] rfl ?_)
              by_cases h14 : (pointFault q.point dims) = (0 : Int)
              · refine r3_ ik 12 [0,1,0,1,1,1,0] rfl (bne_eq_false_iff_eq.2 h14) (beq_iff_eq.2 h12) (beq_iff_eq.2 h12) (gw rfl rfl (beq_iff_eq.2 h12) (cs_ (v:=.bool (within q.k 1 20)) (by kernel_rfl) rfl rfl rfl (fun w_ hs_=>impl_within w_ _ _ _) (r2_ ik 4 [1,1] rfl (beq_iff_eq.2 h12) (beq_iff_eq.2 h12) ?_)))
                by_cases h15 : within q.k 1 20 = true
                · refine r1_ ik 9 [0] rfl (not_f h15) (ret1 rfl rfl (fun w_ hs_=>⟨?_,hs_.below⟩))
                  exact ri (by grind [queryFault])
                · refine r1_ ik 8 [1] rfl (not_t (Bool.eq_false_iff.2 h15)) (ret1 rfl rfl (fun w_ hs_=>⟨?_,hs_.below⟩))
                  exact ri (by grind [queryFault])
              · refine r1_ ik 9 [1] rfl (bne_iff_ne.2 h14) (ret1 rfl rfl (fun w_ hs_=>⟨?_,hs_.below⟩))
                exact ri (by grind [queryFault])
            · refine r4_ ik 7 [1,1,0,0,1,1] rfl (bne_iff_ne.2 h12) (bne_iff_ne.2 h12) (bne_iff_ne.2 h12) (bne_iff_ne.2 h12) ?_
              by_cases h16 : q.k = (0 : Int)
              · refine r1_ ik 5 [0,0,0] rfl (bne_eq_false_iff_eq.2 h16) (cs_ (v:=.bool (hasRect q.kind)) (by kernel_rfl) rfl rfl rfl (fun w_ hs_=>impl_hasRect w_ _) (r1_ ik 13 [0,0,0] rfl (Bool.eq_false_iff.2 h5) ?_))
                refine gd 1 kQueryS_p3_1 rfl (cs':=[.slice Aq3 q.point.length cq3]) rfl fun s17 w_ rs17 us17=>?_
                have Ls17:=Kd.sl_len rs17; have Cs17:=Kd.sl_cap rs17
                refine cs_ (v:=.int .i64 (pointFault q.point dims)) (by kernel_rfl) rfl rfl rfl (fun w_ hs_=>impl_PointFault w_ _ (hs_.at 0 rfl)) (rn ik 9 [] rfl ?_)
                by_cases h18 : (pointFault q.point dims) = (0 : Int)
                · refine rp ik 26 [0,1,0,0,0,0,0,0,0] rfl ⟨rfl,(beq_eq_false_iff_ne.2 h12),(beq_eq_false_iff_ne.2 h12),(beq_eq_false_iff_ne.2 h12),(beq_eq_false_iff_ne.2 h12),(beq_eq_false_iff_ne.2 h12),(bne_eq_false_iff_eq.2 h18),⟨⟩⟩ (ret1 rfl rfl (fun w_ hs_=>⟨?_,hs_.below⟩))
                  exact ri (by grind [queryFault])
                · refine r1_ ik 9 [1] rfl (bne_iff_ne.2 h18) (ret1 rfl rfl (fun w_ hs_=>⟨?_,hs_.below⟩))
                  exact ri (by grind [queryFault])
              · refine r1_ ik 9 [1] rfl (bne_iff_ne.2 h16) (ret1 rfl rfl (fun w_ hs_=>⟨?_,hs_.below⟩))
                exact ri (by grind [queryFault])
          · have gh11:=rectEmpty_2 (r:=q.rect) h11
            refine r2_ ik 12 [1,1] rfl (not_t (beq_eq_false_iff_ne.2 h11)) (not_t (beq_eq_false_iff_ne.2 h11)) (ret1 rfl rfl (fun w_ hs_=>⟨?_,hs_.below⟩))
            exact ri (by grind [queryFault])
      · refine r2_ ik 12 [1,1] rfl (not_t (Bool.eq_false_iff.2 h4)) (not_t (Bool.eq_false_iff.2 h4)) (ret1 rfl rfl (fun w_ hs_=>⟨?_,hs_.below⟩))
        exact ri (by grind [queryFault])
    · refine r1_ ik 9 [1] rfl (not_t (Bool.eq_false_iff.2 h3)) (ret1 rfl rfl (fun w_ hs_=>⟨?_,hs_.below⟩))
      exact ri (by grind [queryFault])
  · have gh2:=rectEmpty_1 (r:=q.rect) h2
    refine rp ik 14 [0,0,0,0,0,0] rfl ⟨(beq_eq_false_iff_ne.2 h2),(beq_eq_false_iff_ne.2 h2),(beq_eq_false_iff_ne.2 h2),(beq_eq_false_iff_ne.2 h2),(beq_eq_false_iff_ne.2 h2),(beq_eq_false_iff_ne.2 h2),⟨⟩⟩ (cs_ (v:=.bool (isDims dims)) (by kernel_rfl) rfl rfl rfl (fun w_ hs_=>impl_isDims w_ _) (rn ik 4 [] rfl ?_))
    by_cases h19 : isDims dims = true
    · refine r1_ ik 6 [0,0,0] rfl (not_f h19) (cs_ (v:=.bool (within q.kind 1 4)) (by kernel_rfl) rfl rfl rfl (fun w_ hs_=>impl_within w_ _ _ _) (rn ik 4 [] rfl ?_))
      by_cases h20 : within q.kind 1 4 = true
      · refine r1_ ik 5 [0,0,0] rfl (not_f h20) (cs_ (v:=.bool (hasRect q.kind)) (by kernel_rfl) rfl rfl rfl (fun w_ hs_=>impl_hasRect w_ _) (m_ rfl rfl ?_))
        by_cases h21 : hasRect q.kind = true
        · refine rp ik 8 [1,1,0,0,1,1,1] rfl ⟨h21,h21,h21,h21,h21,⟨⟩⟩ ?_
          by_cases h22 : (0 : Int) < ((q.point.length : Nat) : Int)
          · refine r2_ ik 12 [1,1] rfl (decide_eq_true h22) (decide_eq_true h22) (ret1 rfl rfl (fun w_ hs_=>⟨?_,hs_.below⟩))
            exact ri (by grind [queryFault])
          · refine r1_ ik 5 [0,0,0] rfl (decide_eq_false h22) (cs_ (v:=.bool (hasRect q.kind)) (by kernel_rfl) rfl rfl rfl (fun w_ hs_=>impl_hasRect w_ _) (r4_ ik 14 [0,0,0,0,0,0] rfl (not_f h21) (not_f h21) (not_f h21) rfl ?_))
            by_cases h23 : q.kind = (4 : Int)
            · refine rp ik 12 [0,0,0,0,0,0,0] rfl ⟨rfl,(bne_eq_false_iff_eq.2 h23),(bne_eq_false_iff_eq.2 h23),(bne_eq_false_iff_eq.2 h23),(bne_eq_false_iff_eq.2 h23),⟨⟩⟩ (cs_ (v:=.bool (hasRect q.kind)) (by kernel_rfl) rfl rfl rfl (fun w_ hs_=>impl_hasRect w_ _) (r1_ ik 9 [1,0,0] rfl h21 ?_))
              refine gd 1 kQueryS_p1_2 rfl (cs':=[.slice Aq1 q.rect.low.length cq1,.slice Aq2 q.rect.high.length cq2]) rfl fun s24 w_ rs24 us24=>?_
              refine cs_ (v:=.int .i64 (rectFault q.rect dims)) (by kernel_rfl) rfl rfl rfl (fun w_ hs_=>impl_RectFault w_ _ (hs_.at 0 rfl)) (rn ik 6 [] rfl (ret1 rfl rfl (fun w_ hs_=>⟨?_,hs_.below⟩)))
              exact ri (by grind [queryFault])
            · refine r4_ ik 7 [1,1,0,0,1,1] rfl (bne_iff_ne.2 h23) (bne_iff_ne.2 h23) (bne_iff_ne.2 h23) (bne_iff_ne.2 h23) ?_
              by_cases h25 : q.k = (0 : Int)
              · refine r1_ ik 5 [0,0,0] rfl (bne_eq_false_iff_eq.2 h25) (cs_ (v:=.bool (hasRect q.kind)) (by kernel_rfl) rfl rfl rfl (fun w_ hs_=>impl_hasRect w_ _) (r1_ ik 9 [1,0,0] rfl h21 ?_))
                refine gd 1 kQueryS_p1_2 rfl (cs':=[.slice Aq1 q.rect.low.length cq1,.slice Aq2 q.rect.high.length cq2]) rfl fun s26 w_ rs26 us26=>?_
                refine cs_ (v:=.int .i64 (rectFault q.rect dims)) (by kernel_rfl) rfl rfl rfl (fun w_ hs_=>impl_RectFault w_ _ (hs_.at 0 rfl)) (rn ik 6 [] rfl (ret1 rfl rfl (fun w_ hs_=>⟨?_,hs_.below⟩)))
                exact ri (by grind [queryFault])
              · refine r1_ ik 9 [1] rfl (bne_iff_ne.2 h25) (ret1 rfl rfl (fun w_ hs_=>⟨?_,hs_.below⟩))
                exact ri (by grind [queryFault])
        · refine rp ik 13 [0,0,0,0,0,0,0,0] rfl ⟨rfl,(Bool.eq_false_iff.2 h21),(Bool.eq_false_iff.2 h21),(Bool.eq_false_iff.2 h21),(Bool.eq_false_iff.2 h21),(Bool.eq_false_iff.2 h21),⟨⟩⟩ (cs_ (v:=.bool (hasRect q.kind)) (by kernel_rfl) rfl rfl rfl (fun w_ hs_=>impl_hasRect w_ _) (rp ik 20 [1,1,1,1,1] rfl ⟨rfl,rfl,(not_t (Bool.eq_false_iff.2 h21)),(not_t (Bool.eq_false_iff.2 h21)),(not_t (Bool.eq_false_iff.2 h21)),⟨⟩⟩ (ret1 rfl rfl (fun w_ hs_=>⟨?_,hs_.below⟩))))
          exact ri (by grind [queryFault])
      · refine r2_ ik 12 [1,1] rfl (not_t (Bool.eq_false_iff.2 h20)) (not_t (Bool.eq_false_iff.2 h20)) (ret1 rfl rfl (fun w_ hs_=>⟨?_,hs_.below⟩))
        exact ri (by grind [queryFault])
    · refine r1_ ik 9 [1] rfl (not_t (Bool.eq_false_iff.2 h19)) (ret1 rfl rfl (fun w_ hs_=>⟨?_,hs_.below⟩))
      exact ri (by grind [queryFault])
theorem spec_QueryFault (w : World) (dims : Int) {q : Query} (hq : kQueryS.Rel w [.int .i64 q.kind,.slice Aq1 q.rect.low.length cq1,.slice Aq2 q.rect.high.length cq2,.slice Aq3 q.point.length cq3,.int .i64 q.k] q [] sq_)  : Calls Tryz.prog 177 #[.agg #[.int .i64 q.kind,.slice Aq1 q.rect.low.length cq1,.slice Aq2 q.rect.high.length cq2,.slice Aq3 q.point.length cq3,.int .i64 q.k],.int .i64 dims] w (fun e_ w2_=>e_ = .returned (.int .i64 (queryFault q dims)) ∧ Below w.heap.size w w2_):=by
  have Lq1:=Kd.sub_len kQueryS_p1_1 hq; have Cq1:=Kd.sub_cap kQueryS_p1_1 hq rfl
  have Lq2:=Kd.sub_len kQueryS_p2_1 hq; have Cq2:=Kd.sub_cap kQueryS_p2_1 hq rfl
  refine fnc (X:=X3 78 w) (l:=[(0,.agg #[.int .i64 q.kind,.slice Aq1 q.rect.low.length cq1,.slice Aq2 q.rect.high.length cq2,.slice Aq3 q.point.length cq3,.int .i64 q.k]),(1,.int .i64 dims)]) Tryz.func177 rfl rfl rfl ⟨rfl,rfl,trivial⟩ (s0d hq (s0n w)).1 ?_
  refine sq (rg (bx rfl rfl rfl rfl ?_))
  intro b1
  refine rn ik 7 [] rfl (cs_ (v:=.bool (within dims 2 3)) (by kernel_rfl) rfl rfl rfl (fun w_ hs_=>spec_l1In w_ _ _ _) (rn ik 3 [] rfl ?_))
  by_cases h2 : within dims 2 3 = true
  · refine r1_ ik 9 [0,0,0] rfl (not_f h2) ?_
    by_cases h3 : q.kind = (1 : Int)
    · refine r4_ ik 12 [0,0,0,1,0,0] rfl (beq_iff_eq.2 h3) (beq_iff_eq.2 h3) (beq_iff_eq.2 h3) (beq_iff_eq.2 h3) (cs_ (v:=.bool (within q.kind 1 4)) (by kernel_rfl) rfl rfl rfl (fun w_ hs_=>spec_l1In w_ _ _ _) (rn ik 2 [] rfl ?_))
      by_cases h4 : within q.kind 1 4 = true
      · refine rp ik 9 [1,1,1,1,0,0,1,1,1,1,0] rfl ⟨(not_f h4),rfl,(not_f h4),rfl,rfl,rfl,rfl,(not_f h4),(not_f h4),⟨⟩⟩ ?_
        by_cases h5 : (0 : Int) < ((q.point.length : Nat) : Int)
        · refine rp ik 35 [0,0,0,0,0,0,0,0,0,0,0,0,0,0,1,0,0,0,0,0,0,0,0,1,1] rfl ⟨rfl,rfl,rfl,rfl,rfl,rfl,rfl,(decide_eq_true h5),(decide_eq_true h5),(decide_eq_true h5),(decide_eq_true h5),(decide_eq_true h5),⟨⟩⟩ (ret1 rfl rfl (fun w_ hs_=>⟨?_,hs_.below⟩))
          exact ri (by grind [queryFault,hasRect,isDims])
        · refine rp ik 20 [1,1,1,0,0,0,0,0,0,0,0,0,0,1,0,0,1,1,0,0,1,1] rfl ⟨rfl,rfl,rfl,rfl,(decide_eq_false h5),rfl,(decide_eq_false h5),rfl,rfl,rfl,rfl,rfl,rfl,rfl,rfl,rfl,rfl,(decide_eq_false h5),(decide_eq_false h5),(decide_eq_false h5),⟨⟩⟩ ?_
          by_cases h6 : q.kind = (4 : Int)
          · refine rp ik 22 [0,0,0,1,0,0,0,1,0,0] rfl ⟨rfl,rfl,rfl,(bne_eq_false_iff_eq.2 h6),rfl,(bne_eq_false_iff_eq.2 h6),(bne_eq_false_iff_eq.2 h6),(bne_eq_false_iff_eq.2 h6),⟨⟩⟩ ?_
            refine gd 1 kQueryS_p1_2 rfl (cs':=[.slice Aq1 q.rect.low.length cq1,.slice Aq2 q.rect.high.length cq2]) rfl fun s7 w_ rs7 us7=>?_
            refine cs_ (v:=.int .i64 (rectFault q.rect dims)) (by kernel_rfl) rfl rfl rfl (fun w_ hs_=>spec_RectFault w_ _ (hs_.at 0 rfl)) (rn ik 5 [] rfl (ret1 rfl rfl (fun w_ hs_=>⟨?_,hs_.below⟩)))
            exact ri (by grind [queryFault,hasRect,isDims])
          · refine rp ik 7 [1,1,0,0,1,1,1,0] rfl ⟨rfl,(bne_iff_ne.2 h6),rfl,(bne_iff_ne.2 h6),(bne_iff_ne.2 h6),(bne_iff_ne.2 h6),⟨⟩⟩ ?_
            by_cases h8 : q.k = (0 : Int)
            · refine r2_ ik 15 [0,1,0,0] rfl (bne_eq_false_iff_eq.2 h8) rfl ?_
              refine gd 1 kQueryS_p1_2 rfl (cs':=[.slice Aq1 q.rect.low.length cq1,.slice Aq2 q.rect.high.length cq2]) rfl fun s9 w_ rs9 us9=>?_
              refine cs_ (v:=.int .i64 (rectFault q.rect dims)) (by kernel_rfl) rfl rfl rfl (fun w_ hs_=>spec_RectFault w_ _ (hs_.at 0 rfl)) (rn ik 5 [] rfl (ret1 rfl rfl (fun w_ hs_=>⟨?_,hs_.below⟩)))
              exact ri (by grind [queryFault,hasRect,isDims])
            · refine r1_ ik 8 [1] rfl (bne_iff_ne.2 h8) (ret1 rfl rfl (fun w_ hs_=>⟨?_,hs_.below⟩))
              exact ri (by grind [queryFault,hasRect,isDims])
      · refine rp ik 44 [0,0,0,0,0,0,0,1,0,0,0,0,0,0,0,0,0,0,0,0,0,0,1,0,0,0,0,0,0,0,0,1,1] rfl ⟨rfl,rfl,rfl,rfl,rfl,rfl,rfl,rfl,rfl,rfl,rfl,rfl,(not_t (Bool.eq_false_iff.2 h4)),(not_t (Bool.eq_false_iff.2 h4)),(not_t (Bool.eq_false_iff.2 h4)),(not_t (Bool.eq_false_iff.2 h4)),⟨⟩⟩ (ret1 rfl rfl (fun w_ hs_=>⟨?_,hs_.below⟩))
        exact ri (by grind [queryFault,hasRect,isDims])
    · refine r4_ ik 12 [1,1,0,0,1,0,0,0] rfl (beq_eq_false_iff_ne.2 h3) (beq_eq_false_iff_ne.2 h3) (beq_eq_false_iff_ne.2 h3) (beq_eq_false_iff_ne.2 h3) (cs_ (v:=.bool (within q.kind 1 4)) (by kernel_rfl) rfl rfl rfl (fun w_ hs_=>spec_l1In w_ _ _ _) (rn ik 2 [] rfl ?_))
      by_cases h10 : within q.kind 1 4 = true
      · refine r2_ ik 2 [1,1] rfl (not_f h10) (not_f h10) ?_
        by_cases h11 : q.kind = (2 : Int)
        · refine rp ik 7 [1,1,0,0,1,1,1,1,0] rfl ⟨(not_f h10),(beq_iff_eq.2 h11),(not_f h10),(beq_iff_eq.2 h11),(beq_iff_eq.2 h11),(beq_iff_eq.2 h11),(beq_iff_eq.2 h11),⟨⟩⟩ ?_
          by_cases h12 : (0 : Int) < ((q.point.length : Nat) : Int)
          · refine rp ik 35 [0,0,0,0,0,0,0,0,0,0,0,0,0,0,1,0,0,0,0,0,0,0,0,1,1] rfl ⟨rfl,rfl,rfl,rfl,rfl,rfl,rfl,(decide_eq_true h12),(decide_eq_true h12),(decide_eq_true h12),(decide_eq_true h12),(decide_eq_true h12),⟨⟩⟩ (ret1 rfl rfl (fun w_ hs_=>⟨?_,hs_.below⟩))
            exact ri (by grind [queryFault,hasRect,isDims])
          · refine rp ik 20 [1,1,1,0,0,0,0,0,0,0,0,0,0,1,0,0,1,1,0,0,1,1] rfl ⟨rfl,rfl,rfl,rfl,(decide_eq_false h12),(not_f (beq_iff_eq.2 h11)),(decide_eq_false h12),(not_f (beq_iff_eq.2 h11)),(not_f (beq_iff_eq.2 h11)),(not_f (beq_iff_eq.2 h11)),(not_f (beq_iff_eq.2 h11)),(not_f (beq_iff_eq.2 h11)),(not_f (beq_iff_eq.2 h11)),(not_f (beq_iff_eq.2 h11)),(not_f (beq_iff_eq.2 h11)),(not_f (beq_iff_eq.2 h11)),(not_f (beq_iff_eq.2 h11)),(decide_eq_false h12),(decide_eq_false h12),(decide_eq_false h12),⟨⟩⟩ ?_
            by_cases h13 : q.kind = (4 : Int)
            · refine rp ik 22 [0,0,0,1,0,0,0,1,0,0] rfl ⟨(beq_iff_eq.2 h11),rfl,rfl,(bne_eq_false_iff_eq.2 h13),rfl,(bne_eq_false_iff_eq.2 h13),(bne_eq_false_iff_eq.2 h13),(bne_eq_false_iff_eq.2 h13),⟨⟩⟩ ?_
              refine gd 1 kQueryS_p1_2 rfl (cs':=[.slice Aq1 q.rect.low.length cq1,.slice Aq2 q.rect.high.length cq2]) rfl fun s14 w_ rs14 us14=>?_
              refine cs_ (v:=.int .i64 (rectFault q.rect dims)) (by kernel_rfl) rfl rfl rfl (fun w_ hs_=>spec_RectFault w_ _ (hs_.at 0 rfl)) (rn ik 5 [] rfl (ret1 rfl rfl (fun w_ hs_=>⟨?_,hs_.below⟩)))
              exact ri (by grind [queryFault,hasRect,isDims])
            · refine rp ik 7 [1,1,0,0,1,1,1,0] rfl ⟨rfl,(bne_iff_ne.2 h13),rfl,(bne_iff_ne.2 h13),(bne_iff_ne.2 h13),(bne_iff_ne.2 h13),⟨⟩⟩ ?_
              by_cases h15 : q.k = (0 : Int)
              · refine r2_ ik 15 [0,1,0,0] rfl (bne_eq_false_iff_eq.2 h15) (beq_iff_eq.2 h11) ?_
                refine gd 1 kQueryS_p1_2 rfl (cs':=[.slice Aq1 q.rect.low.length cq1,.slice Aq2 q.rect.high.length cq2]) rfl fun s16 w_ rs16 us16=>?_
                refine cs_ (v:=.int .i64 (rectFault q.rect dims)) (by kernel_rfl) rfl rfl rfl (fun w_ hs_=>spec_RectFault w_ _ (hs_.at 0 rfl)) (rn ik 5 [] rfl (ret1 rfl rfl (fun w_ hs_=>⟨?_,hs_.below⟩)))
                exact ri (by grind [queryFault,hasRect,isDims])
              · refine r1_ ik 8 [1] rfl (bne_iff_ne.2 h15) (ret1 rfl rfl (fun w_ hs_=>⟨?_,hs_.below⟩))
                exact ri (by grind [queryFault,hasRect,isDims])
        · refine rp ik 18 [0,0,0,0,1,0,0,1,1,1,1,1,1,0,0,1,1,1,1,0,0,1] rfl ⟨(not_t (beq_eq_false_iff_ne.2 h11)),(not_t (beq_eq_false_iff_ne.2 h11)),(not_t (beq_eq_false_iff_ne.2 h11)),(not_t (beq_eq_false_iff_ne.2 h11)),(not_t (beq_eq_false_iff_ne.2 h11)),(not_t (beq_eq_false_iff_ne.2 h11)),(not_t (beq_eq_false_iff_ne.2 h11)),(not_t (beq_eq_false_iff_ne.2 h11)),rfl,rfl,rfl,(not_f h10),(beq_eq_false_iff_ne.2 h11),(not_f h10),(beq_eq_false_iff_ne.2 h11),(beq_eq_false_iff_ne.2 h11),(beq_eq_false_iff_ne.2 h11),(beq_eq_false_iff_ne.2 h11),⟨⟩⟩ (vg (ra (c:=((q.rect.low.length : Nat) : Int) + ((q.rect.high.length : Nat) : Int)) rfl rfl rfl rfl (by omega) (by omega)) rfl rfl (not_t (beq_eq_false_iff_ne.2 h11)) (r4_ ik 4 [1,1,1,0] rfl (not_t (beq_eq_false_iff_ne.2 h11)) rfl (not_t (beq_eq_false_iff_ne.2 h11)) rfl ?_))
          by_cases h17 : (0 : Int) < ((q.rect.low.length : Nat) : Int) + ((q.rect.high.length : Nat) : Int)
          · have gh17:=rectEmpty_f (r:=q.rect) h17
            refine rp ik 19 [0,0,0,0,0,0,0,0,1,1] rfl ⟨rfl,(decide_eq_true h17),(decide_eq_true h17),(decide_eq_true h17),(decide_eq_true h17),(decide_eq_true h17),(decide_eq_true h17),⟨⟩⟩ (ret1 rfl rfl (fun w_ hs_=>⟨?_,hs_.below⟩))
            exact ri (by grind [queryFault,hasRect,isDims])
          · have gh17:=rectEmpty_t (r:=q.rect) h17
            refine r4_ ik 4 [1,1,0,0,1,1] rfl (decide_eq_false h17) (decide_eq_false h17) (decide_eq_false h17) (decide_eq_false h17) ?_
            by_cases h18 : q.kind = (4 : Int)
            · refine rp ik 25 [0,0,0,1,0,0,0,0,0,0] rfl ⟨(beq_eq_false_iff_ne.2 h11),rfl,(decide_eq_false h17),(bne_eq_false_iff_eq.2 h18),(decide_eq_false h17),(bne_eq_false_iff_eq.2 h18),(bne_eq_false_iff_eq.2 h18),(bne_eq_false_iff_eq.2 h18),⟨⟩⟩ ?_
              refine gd 1 kQueryS_p3_1 rfl (cs':=[.slice Aq3 q.point.length cq3]) rfl fun s19 w_ rs19 us19=>?_
              have Ls19:=Kd.sl_len rs19; have Cs19:=Kd.sl_cap rs19
              refine cs_ (v:=.int .i64 (pointFault q.point dims)) (by kernel_rfl) rfl rfl rfl (fun w_ hs_=>spec_PointFault w_ _ (hs_.at 0 rfl)) (rn ik 9 [] rfl ?_)
              by_cases h20 : (pointFault q.point dims) = (0 : Int)
              · refine r3_ ik 12 [0,1,0,1,1,1,0] rfl (bne_eq_false_iff_eq.2 h20) (beq_iff_eq.2 h18) (beq_iff_eq.2 h18) (gw rfl rfl (beq_iff_eq.2 h18) (cs_ (v:=.bool (within q.k 1 20)) (by kernel_rfl) rfl rfl rfl (fun w_ hs_=>spec_l1In w_ _ _ _) (r2_ ik 4 [1,1] rfl (beq_iff_eq.2 h18) (beq_iff_eq.2 h18) ?_)))
                by_cases h21 : within q.k 1 20 = true
                · refine r1_ ik 9 [0] rfl (not_f h21) (ret1 rfl rfl (fun w_ hs_=>⟨?_,hs_.below⟩))
                  exact ri (by grind [queryFault,hasRect,isDims])
                · refine r1_ ik 8 [1] rfl (not_t (Bool.eq_false_iff.2 h21)) (ret1 rfl rfl (fun w_ hs_=>⟨?_,hs_.below⟩))
                  exact ri (by grind [queryFault,hasRect,isDims])
              · refine r1_ ik 9 [1] rfl (bne_iff_ne.2 h20) (ret1 rfl rfl (fun w_ hs_=>⟨?_,hs_.below⟩))
                exact ri (by grind [queryFault,hasRect,isDims])
            · refine rp ik 7 [1,1,0,0,1,1,1,0] rfl ⟨(decide_eq_false h17),(bne_iff_ne.2 h18),(decide_eq_false h17),(bne_iff_ne.2 h18),(bne_iff_ne.2 h18),(bne_iff_ne.2 h18),⟨⟩⟩ ?_
              by_cases h22 : q.k = (0 : Int)
              · refine r2_ ik 18 [0,0,0,0] rfl (bne_eq_false_iff_eq.2 h22) (beq_eq_false_iff_ne.2 h11) ?_
                refine gd 1 kQueryS_p3_1 rfl (cs':=[.slice Aq3 q.point.length cq3]) rfl fun s23 w_ rs23 us23=>?_
                have Ls23:=Kd.sl_len rs23; have Cs23:=Kd.sl_cap rs23
                refine cs_ (v:=.int .i64 (pointFault q.point dims)) (by kernel_rfl) rfl rfl rfl (fun w_ hs_=>spec_PointFault w_ _ (hs_.at 0 rfl)) (rn ik 9 [] rfl ?_)
                by_cases h24 : (pointFault q.point dims) = (0 : Int)
                · refine rp ik 26 [0,1,0,0,0,0,0,0,0] rfl ⟨rfl,(beq_eq_false_iff_ne.2 h18),(beq_eq_false_iff_ne.2 h18),(beq_eq_false_iff_ne.2 h18),(beq_eq_false_iff_ne.2 h18),(beq_eq_false_iff_ne.2 h18),(bne_eq_false_iff_eq.2 h24),⟨⟩⟩ (ret1 rfl rfl (fun w_ hs_=>⟨?_,hs_.below⟩))
                  exact ri (by grind [queryFault,hasRect,isDims])
                · refine r1_ ik 9 [1] rfl (bne_iff_ne.2 h24) (ret1 rfl rfl (fun w_ hs_=>⟨?_,hs_.below⟩))
                  exact ri (by grind [queryFault,hasRect,isDims])
              · refine r1_ ik 8 [1] rfl (bne_iff_ne.2 h22) (ret1 rfl rfl (fun w_ hs_=>⟨?_,hs_.below⟩))
                exact ri (by grind [queryFault,hasRect,isDims])
      · refine rp ik 44 [0,0,0,0,0,0,0,1,0,0,0,0,0,0,0,0,0,0,0,0,0,0,1,0,0,0,0,0,0,0,0,1,1] rfl ⟨rfl,rfl,rfl,rfl,rfl,rfl,rfl,rfl,rfl,rfl,rfl,rfl,(not_t (Bool.eq_false_iff.2 h10)),(not_t (Bool.eq_false_iff.2 h10)),(not_t (Bool.eq_false_iff.2 h10)),(not_t (Bool.eq_false_iff.2 h10)),⟨⟩⟩ (ret1 rfl rfl (fun w_ hs_=>⟨?_,hs_.below⟩))
        exact ri (by grind [queryFault,hasRect,isDims])
  · refine r1_ ik 8 [1] rfl (not_t (Bool.eq_false_iff.2 h2)) (ret1 rfl rfl (fun w_ hs_=>⟨?_,hs_.below⟩))
    exact ri (by grind [queryFault,hasRect,isDims])
structure Mark where
  dist : Int
  id : Int
  nsn : Int
  deriving DecidableEq
structure Look where
  query : Query
  front : List Mark
  found : List Pair
  deriving DecidableEq
structure Moved where
  level : Int
  entries : List Entry
  deriving DecidableEq
structure LookResult where
  code : Int
  look : Look
  deriving DecidableEq
structure PairsResult where
  code : Int
  pairs : List Pair
  deriving DecidableEq
def kMarkS : Kd Mark := ((Kd.i64.via Mark.dist).cat ((Kd.i64.via Mark.id).cat (Kd.i64.via Mark.nsn)))
theorem kMarkS_sh {w : World} {cs : List Value} {x : Mark} {o s : List Nat} (h : kMarkS.Rel w cs x o s) : cs = [.int .i64 x.dist,.int .i64 x.id,.int .i64 x.nsn]:=by
  obtain ⟨c10,c20,o10,o20,s10,s20,rfl,rfl,rfl,h0,k0⟩:=h
  obtain ⟨rfl,-,-⟩:=h0
  obtain ⟨c11,c21,o11,o21,s11,s21,rfl,rfl,rfl,h1,k1⟩:=k0
  obtain ⟨rfl,-,-⟩:=h1
  obtain ⟨rfl,-,-⟩:=k1
  exact rfl
theorem kMarkS_pure : Kd.Pure kMarkS:=(Kd.Pure.cat (Kd.Pure.via Kd.Pure.i64 _) (Kd.Pure.cat (Kd.Pure.via Kd.Pure.i64 _) (Kd.Pure.via Kd.Pure.i64 _)))
def kLookS : Kd Look := ((kQueryS.via Look.query).cat (((Kd.sl kMarkS).via Look.front).cat ((Kd.sl kPairS).via Look.found)))
theorem kLookS_p3_1 : Kd.Sub kLookS 3 (Kd.sl Kd.i64) (fun x=>x.query.point):=(Kd.Sub.left (kQueryS_p3_1.via Look.query) _ (by decide))
theorem kLookS_p5_1 : Kd.Sub kLookS 5 (Kd.sl kMarkS) (fun x=>x.front):=(Kd.Sub.right (Kd.Sub.left (Kd.Sub.rfl.via Look.front) _ (by decide)) _)
theorem kLookS_p6_1 : Kd.Sub kLookS 6 (Kd.sl kPairS) (fun x=>x.found):=(Kd.Sub.right (Kd.Sub.right (Kd.Sub.rfl.via Look.found) _) _)
def kMarkO : Kd Mark := ((Kd.i64.via Mark.dist).cat ((Kd.i64.via Mark.id).cat (Kd.i64.via Mark.nsn)))
theorem kMarkO_seal : Kd.Seals kMarkO kMarkS:=(Kd.Seals.cat (Kd.Seals.via Kd.Seals.i64 _) (Kd.Seals.cat (Kd.Seals.via Kd.Seals.i64 _) (Kd.Seals.via Kd.Seals.i64 _)))
def kLookO : Kd Look := ((kQueryO.via Look.query).cat (((Kd.row 210 kMarkO).via Look.front).cat ((Kd.row 208 kPairO).via Look.found)))
theorem kLookO_sh {w : World} {cs : List Value} {x : Look} {o s : List Nat} (h : kLookO.Rel w cs x o s) : ∃ (A1 : Option Addr) (c1 : Nat) (A2 : Option Addr) (c2 : Nat) (A3 : Option Addr) (c3 : Nat) (A5 : Option Addr) (c5 : Nat) (A6 : Option Addr) (c6 : Nat),cs = [.int .i64 x.query.kind,.slice A1 x.query.rect.low.length c1,.slice A2 x.query.rect.high.length c2,.slice A3 x.query.point.length c3,.int .i64 x.query.k,.slice A5 x.front.length c5,.slice A6 x.found.length c6]:=by
  obtain ⟨c10,c20,o10,o20,s10,s20,rfl,rfl,rfl,h0,k0⟩:=h
  obtain ⟨_,_,_,_,_,_,rfl⟩:=kQueryO_sh h0
  obtain ⟨c11,c21,o11,o21,s11,s21,rfl,rfl,rfl,h1,k1⟩:=k0
  obtain ⟨A1_,c1_,rfl⟩:=Kd.row_sh h1
  obtain ⟨A2_,c2_,rfl⟩:=Kd.row_sh k1
  exact ⟨_,_,_,_,_,_,_,_,_,_,rfl⟩
theorem kLookO_seal : Kd.Seals kLookO kLookS:=(Kd.Seals.cat (Kd.Seals.via kQueryO_seal _) (Kd.Seals.cat (Kd.Seals.via (Kd.Seals.row kMarkO_seal _) _) (Kd.Seals.via (Kd.Seals.row kPairO_seal _) _)))
def kLookResultO : Kd LookResult := ((Kd.i64.via LookResult.code).cat (kLookO.via LookResult.look))
theorem kLookResultO_sh {w : World} {cs : List Value} {x : LookResult} {o s : List Nat} (h : kLookResultO.Rel w cs x o s) : ∃ (A2 : Option Addr) (c2 : Nat) (A3 : Option Addr) (c3 : Nat) (A4 : Option Addr) (c4 : Nat) (A6 : Option Addr) (c6 : Nat) (A7 : Option Addr) (c7 : Nat),cs = [.int .i64 x.code,.int .i64 x.look.query.kind,.slice A2 x.look.query.rect.low.length c2,.slice A3 x.look.query.rect.high.length c3,.slice A4 x.look.query.point.length c4,.int .i64 x.look.query.k,.slice A6 x.look.front.length c6,.slice A7 x.look.found.length c7]:=by
  obtain ⟨c10,c20,o10,o20,s10,s20,rfl,rfl,rfl,h0,k0⟩:=h
  obtain ⟨rfl,-,-⟩:=h0
  obtain ⟨_,_,_,_,_,_,_,_,_,_,rfl⟩:=kLookO_sh k0
  exact ⟨_,_,_,_,_,_,_,_,_,_,rfl⟩






def szQuery (a : Query) : Int := szRect a.rect + (a.point.length : Int)
theorem szQuery_nn (a : Query) : 0 ≤ szQuery a:=by have:=szRect_nn a.rect; unfold szQuery; omega
def zQuery : Query := (⟨0, zRect, [], 0⟩ : Query)
theorem laws_eqQuery (w : World) {a : Query} (ha : kQueryS.Rel w [.int .i64 a.kind,.slice Aa1 a.rect.low.length ca1,.slice Aa2 a.rect.high.length ca2,.slice Aa3 a.point.length ca3,.int .i64 a.k] a [] sa_) {Ab3 : Option Addr} {cb3 : Nat} {b : Query} (hb : kQueryS.Rel w [.int .i64 b.kind,.slice Ab1 b.rect.low.length cb1,.slice Ab2 b.rect.high.length cb2,.slice Ab3 b.point.length cb3,.int .i64 b.k] b [] sb_)  : Calls Tryz.prog 43 #[.agg #[.int .i64 a.kind,.slice Aa1 a.rect.low.length ca1,.slice Aa2 a.rect.high.length ca2,.slice Aa3 a.point.length ca3,.int .i64 a.k],.agg #[.int .i64 b.kind,.slice Ab1 b.rect.low.length cb1,.slice Ab2 b.rect.high.length cb2,.slice Ab3 b.point.length cb3,.int .i64 b.k]] w (fun e_ w2_=>e_ = .returned (.bool (decide (a = b))) ∧ Below w.heap.size w w2_):=by
  refine fnc (X:=X3 27 w) (l:=[(0,.agg #[.int .i64 a.kind,.slice Aa1 a.rect.low.length ca1,.slice Aa2 a.rect.high.length ca2,.slice Aa3 a.point.length ca3,.int .i64 a.k]),(1,.agg #[.int .i64 b.kind,.slice Ab1 b.rect.low.length cb1,.slice Ab2 b.rect.high.length cb2,.slice Ab3 b.point.length cb3,.int .i64 b.k])]) Tryz.func43 rfl rfl rfl ⟨rfl,rfl,trivial⟩ (s0d hb (s0d ha (s0n w))).1 ?_
  refine sq (rg (bx rfl rfl rfl rfl ?_))
  intro b1
  refine bx rfl rfl rfl rfl ?_
  intro b2
  refine rn ik 13 [1,0,0,0] rfl ?_
  by_cases h3 : a.kind = b.kind
  · refine r1_ ik 10 [0,1,0,0,0] rfl (bne_eq_false_iff_eq.2 h3) ?_
    refine gd 3 kQueryS_p1_2 rfl (cs':=[.slice Aa1 a.rect.low.length ca1,.slice Aa2 a.rect.high.length ca2]) rfl fun s4 w_ rs4 us4=>?_
    refine gd 3 kQueryS_p1_2 rfl (cs':=[.slice Ab1 b.rect.low.length cb1,.slice Ab2 b.rect.high.length cb2]) rfl fun s5 w_ rs5 us5=>?_
    refine cs_ (v:=.bool (decide (a.rect = b.rect))) (by kernel_rfl) rfl rfl rfl (fun w_ hs_=>laws_eqRect w_ (hs_.at 1 rfl) (hs_.at 0 rfl)) (rn ik 3 [] rfl ?_)
    by_cases h6 : decide (a.rect = b.rect) = true
    · refine r1_ ik 10 [0,3,0,2,0] rfl (not_f h6) ?_
      refine gd 5 kQueryS_p3_1 rfl (cs':=[.slice Aa3 a.point.length ca3]) rfl fun s7 w_ rs7 us7=>?_
      have Ls7:=Kd.sl_len rs7; have Cs7:=Kd.sl_cap rs7
      refine gd 5 kQueryS_p3_1 rfl (cs':=[.slice Ab3 b.point.length cb3]) rfl fun s8 w_ rs8 us8=>?_
      have Ls8:=Kd.sl_len rs8; have Cs8:=Kd.sl_cap rs8
      refine cs_ (v:=.bool (decide (a.point = b.point))) (by kernel_rfl) rfl rfl rfl (fun w_ hs_=>laws_eqInt64S w_ (hs_.at 1 rfl) (hs_.at 0 rfl)) (rn ik 3 [] rfl ?_)
      by_cases h9 : decide (a.point = b.point) = true
      · refine r1_ ik 13 [0,5,0,4,0] rfl (not_f h9) ?_
        by_cases h10 : a.k = b.k
        · refine r1_ ik 9 [0] rfl (bne_eq_false_iff_eq.2 h10) (ret1 rfl rfl (fun w_ hs_=>⟨?_,hs_.below⟩))
          rw [Query_eq]; simp [h3,h6,h9,h10]
        · refine r1_ ik 8 [1] rfl (bne_iff_ne.2 h10) (ret1 rfl rfl (fun w_ hs_=>⟨?_,hs_.below⟩))
          rw [Query_eq]; simp [h3,h6,h9,h10]
      · refine r1_ ik 8 [1] rfl (not_t (Bool.eq_false_iff.2 h9)) (ret1 rfl rfl (fun w_ hs_=>⟨?_,hs_.below⟩))
        rw [Query_eq]; simp [h3,h6,h9]
    · refine r1_ ik 8 [1] rfl (not_t (Bool.eq_false_iff.2 h6)) (ret1 rfl rfl (fun w_ hs_=>⟨?_,hs_.below⟩))
      rw [Query_eq]; simp [h3,h6]
  · refine r1_ ik 8 [1] rfl (bne_iff_ne.2 h3) (ret1 rfl rfl (fun w_ hs_=>⟨?_,hs_.below⟩))
    rw [Query_eq]; simp [h3]
theorem laws_szQuery (w : World) (left : Int) {a : Query} (ha : kQueryS.Rel w [.int .i64 a.kind,.slice Aa1 a.rect.low.length ca1,.slice Aa2 a.rect.high.length ca2,.slice Aa3 a.point.length ca3,.int .i64 a.k] a [] sa_) (h0 : 0 ≤ left) (h1 : left ≤ 1152921504606846976) : Calls Tryz.prog 36 #[.agg #[.int .i64 a.kind,.slice Aa1 a.rect.low.length ca1,.slice Aa2 a.rect.high.length ca2,.slice Aa3 a.point.length ca3,.int .i64 a.k],.int .i64 left] w (fun e_ w2_=>e_ = .returned (.int .i64 (szTake (szQuery a) left)) ∧ Below w.heap.size w w2_):=by
  have n0:=szRect_nn a.rect
  refine fnc (X:=X3 18 w) (l:=[(0,.agg #[.int .i64 a.kind,.slice Aa1 a.rect.low.length ca1,.slice Aa2 a.rect.high.length ca2,.slice Aa3 a.point.length ca3,.int .i64 a.k]),(1,.int .i64 left)]) Tryz.func36 rfl rfl rfl ⟨rfl,rfl,trivial⟩ (s0d ha (s0n w)).1 ?_
  refine sq (rg (bx rfl rfl rfl rfl ?_))
  intro b1
  refine rn ik 8 [0,0] rfl ?_
  refine gd 1 kQueryS_p1_2 rfl (cs':=[.slice Aa1 a.rect.low.length ca1,.slice Aa2 a.rect.high.length ca2]) rfl fun s2 w_ rs2 us2=>?_
  refine cs_ (v:=.int .i64 (szTake (szRect a.rect) left)) (by kernel_rfl) rfl rfl rfl (fun w_ hs_=>laws_szRect w_ _ (hs_.at 0 rfl) (by omega) (by omega)) (rn ik 10 [] rfl ?_)
  by_cases h3 : (szTake (szRect a.rect) left) < (0 : Int)
  · have eh3:=szTake_t h3
    refine r1_ ik 8 [1] rfl (decide_eq_true h3) (ret1 rfl rfl (fun w_ hs_=>⟨?_,hs_.below⟩))
    exact ri (by unfold szTake szQuery; split <;> omega)
  · have eh3:=szTake_f h3
    refine r1_ ik 8 [0,1,0] rfl (decide_eq_false h3) ?_
    refine gd 2 kQueryS_p3_1 rfl (cs':=[.slice Aa3 a.point.length ca3]) rfl fun s4 w_ rs4 us4=>?_
    have Ls4:=Kd.sl_len rs4; have Cs4:=Kd.sl_cap rs4
    refine cs_ (v:=.int .i64 (szTake ((a.point.length : Nat) : Int) (szTake (szRect a.rect) left))) (by kernel_rfl) rfl rfl rfl (fun w_ hs_=>laws_szInt64S w_ _ (hs_.at 0 rfl) (by omega) (by omega)) (rn ik 10 [] rfl ?_)
    by_cases h5 : (szTake ((a.point.length : Nat) : Int) (szTake (szRect a.rect) left)) < (0 : Int)
    · have eh5:=szTake_t h5
      refine r1_ ik 8 [1] rfl (decide_eq_true h5) (ret1 rfl rfl (fun w_ hs_=>⟨?_,hs_.below⟩))
      exact ri (by unfold szTake szQuery; split <;> omega)
    · have eh5:=szTake_f h5
      refine r1_ ik 10 [0] rfl (decide_eq_false h5) (ret1 rfl rfl (fun w_ hs_=>⟨?_,hs_.below⟩))
      exact ri (by unfold szTake szQuery; split <;> omega)
theorem laws_toQuery (w : World) {a : Query} (ha : kQueryS.Rel w [.int .i64 a.kind,.slice Aa1 a.rect.low.length ca1,.slice Aa2 a.rect.high.length ca2,.slice Aa3 a.point.length ca3,.int .i64 a.k] a [] sa_) (hz : szQuery a ≤ 1048576) : Calls Tryz.prog 39 #[.agg #[.int .i64 a.kind,.slice Aa1 a.rect.low.length ca1,.slice Aa2 a.rect.high.length ca2,.slice Aa3 a.point.length ca3,.int .i64 a.k]] w (Made kQueryO w a []):=by
  unfold szQuery at hz; have n0:=szRect_nn a.rect
  refine fnc (X:=X3 19 w) (l:=[(0,.agg #[.int .i64 a.kind,.slice Aa1 a.rect.low.length ca1,.slice Aa2 a.rect.high.length ca2,.slice Aa3 a.point.length ca3,.int .i64 a.k])]) Tryz.func39 rfl rfl rfl ⟨rfl,trivial⟩ (s0d ha (s0n w)).1 ?_
  refine sq (rg (bx rfl rfl rfl rfl ?_))
  intro b1
  refine al zero84 rfl rfl rfl ?_
  intro b2
  refine rn ik 4 [] rfl (al zero84 rfl rfl rfl ?_)
  intro b3
  refine rn ik 7 [2,0] rfl (sto rfl rfl rfl rfl rfl rfl rfl (cs':=[.int .i64 a.kind,.slice none 0 0,.slice none 0 0,.slice none 0 0,.int .i64 0]) rfl (rn ik 6 [2,0] rfl ?_))
  refine gd 3 kQueryS_p1_2 rfl (cs':=[.slice Aa1 a.rect.low.length ca1,.slice Aa2 a.rect.high.length ca2]) rfl fun s4 w_ rs4 us4=>?_
  refine cm_ (dk:=kRectO) (x:=a.rect) (S:=[]) (by kernel_rfl) rfl rfl rfl sn0 (fun w_ hs_=>laws_toRect w_ (hs_.at 0 rfl) (by omega)) (fun cs_ o9 s10 w_ r11 t12=>?_)
  obtain ⟨A5,c6,A7,c8,rfl⟩:=kRectO_sh r11
  refine vl (fa rfl rfl rfl) rfl (f2 (sto rfl rfl rfl rfl rfl rfl rfl (cs':=[.int .i64 a.kind,.slice A5 a.rect.low.length c6,.slice A7 a.rect.high.length c8,.slice none 0 0,.int .i64 0]) rfl (rn ik 6 [4,0] rfl ?_)))
  refine gd 5 kQueryS_p3_1 rfl (cs':=[.slice Aa3 a.point.length ca3]) rfl fun s14 w_ rs14 us14=>?_
  have Ls14:=Kd.sl_len rs14; have Cs14:=Kd.sl_cap rs14
  refine cm_ (dk:=(Kd.row 2 Kd.i64)) (x:=a.point) (S:=[]) (by kernel_rfl) rfl rfl rfl sn0 (fun w_ hs_=>laws_toInt64S w_ (hs_.at 0 rfl) (by omega)) (fun cs_ o17 s18 w_ r19 t20=>?_)
  obtain ⟨A15,c16,rfl⟩:=Kd.row_sh r19
  exact vl (fa rfl rfl rfl) rfl (f2 (sto rfl rfl rfl rfl rfl rfl rfl (cs':=[.int .i64 a.kind,.slice A5 a.rect.low.length c6,.slice A7 a.rect.high.length c8,.slice A15 a.point.length c16,.int .i64 0]) rfl (rn ik 7 [6,0] rfl (sto rfl rfl rfl rfl rfl rfl rfl (cs':=[.int .i64 a.kind,.slice A5 a.rect.low.length c6,.slice A7 a.rect.high.length c8,.slice A15 a.point.length c16,.int .i64 a.k]) rfl (rn ik 5 [0,0] rfl (f5 (sto rfl rfl rfl rfl rfl rfl rfl (cs':=[.int .i64 a.kind,.slice A5 a.rect.low.length c6,.slice A7 a.rect.high.length c8,.slice A15 a.point.length c16,.int .i64 a.k]) rfl (en (nx (rt (gs Kd.i64 [.int .i64 a.k] a.k (fun _=>⟨rfl,rfl,rfl⟩) (f3 (gj (da:=(Kd.via (Kd.row 2 Kd.i64) Query.point)) (db:=(Kd.via Kd.i64 Query.k)) (x:=a) rfl (f4 (gj (da:=(Kd.via kRectO Query.rect)) (db:=((Kd.via (Kd.row 2 Kd.i64) Query.point).cat (Kd.via Kd.i64 Query.k))) (x:=a) rfl (gs Kd.i64 [.int .i64 a.kind] a.kind (fun _=>⟨rfl,rfl,rfl⟩) (gj (da:=(Kd.via Kd.i64 Query.kind)) (db:=((Kd.via kRectO Query.rect).cat ((Kd.via (Kd.row 2 Kd.i64) Query.point).cat (Kd.via Kd.i64 Query.k)))) (x:=a) rfl (retc 1 rfl rfl rfl rfl rfl rfl (fun w_ hs_=>made hs_ rfl (see_app see_nil (see_app t12 (see_app t20 see_nil))))))))))))))))))))))
def szPair (a : Pair) : Int := szRect a.rect

def zPair : Pair := (⟨0, zRect⟩ : Pair)
theorem laws_eqPair (w : World) {a : Pair} (ha : kPairS.Rel w [.int .i64 a.id,.slice Aa1 a.rect.low.length ca1,.slice Aa2 a.rect.high.length ca2] a [] sa_) {b : Pair} (hb : kPairS.Rel w [.int .i64 b.id,.slice Ab1 b.rect.low.length cb1,.slice Ab2 b.rect.high.length cb2] b [] sb_)  : Calls Tryz.prog 201 #[.agg #[.int .i64 a.id,.slice Aa1 a.rect.low.length ca1,.slice Aa2 a.rect.high.length ca2],.agg #[.int .i64 b.id,.slice Ab1 b.rect.low.length cb1,.slice Ab2 b.rect.high.length cb2]] w (fun e_ w2_=>e_ = .returned (.bool (decide (a = b))) ∧ Below w.heap.size w w2_):=by
  refine fnc (X:=X3 16 w) (l:=[(0,.agg #[.int .i64 a.id,.slice Aa1 a.rect.low.length ca1,.slice Aa2 a.rect.high.length ca2]),(1,.agg #[.int .i64 b.id,.slice Ab1 b.rect.low.length cb1,.slice Ab2 b.rect.high.length cb2])]) Tryz.func201 rfl rfl rfl ⟨rfl,rfl,trivial⟩ (s0d hb (s0d ha (s0n w))).1 ?_
  refine sq (rg (bx rfl rfl rfl rfl ?_))
  intro b1
  refine bx rfl rfl rfl rfl ?_
  intro b2
  refine rn ik 13 [1,0,0,0] rfl ?_
  by_cases h3 : a.id = b.id
  · refine r1_ ik 10 [0,1,0,0,0] rfl (bne_eq_false_iff_eq.2 h3) ?_
    refine gd 3 kPairS_p1_2 rfl (cs':=[.slice Aa1 a.rect.low.length ca1,.slice Aa2 a.rect.high.length ca2]) rfl fun s4 w_ rs4 us4=>?_
    refine gd 3 kPairS_p1_2 rfl (cs':=[.slice Ab1 b.rect.low.length cb1,.slice Ab2 b.rect.high.length cb2]) rfl fun s5 w_ rs5 us5=>?_
    refine cs_ (v:=.bool (decide (a.rect = b.rect))) (by kernel_rfl) rfl rfl rfl (fun w_ hs_=>laws_eqRect w_ (hs_.at 1 rfl) (hs_.at 0 rfl)) (rn ik 3 [] rfl ?_)
    by_cases h6 : decide (a.rect = b.rect) = true
    · refine r1_ ik 9 [0] rfl (not_f h6) (ret1 rfl rfl (fun w_ hs_=>⟨?_,hs_.below⟩))
      rw [Pair_eq]; simp [h3,h6]
    · refine r1_ ik 8 [1] rfl (not_t (Bool.eq_false_iff.2 h6)) (ret1 rfl rfl (fun w_ hs_=>⟨?_,hs_.below⟩))
      rw [Pair_eq]; simp [h3,h6]
  · refine r1_ ik 8 [1] rfl (bne_iff_ne.2 h3) (ret1 rfl rfl (fun w_ hs_=>⟨?_,hs_.below⟩))
    rw [Pair_eq]; simp [h3]
theorem laws_eqPairS (w : World) {a : List Pair} (ha : (Kd.sl kPairS).Rel w [.slice Aa a.length ca] a [] sa_) {Ab : Option Addr} {cb : Nat} {b : List Pair} (hb : (Kd.sl kPairS).Rel w [.slice Ab b.length cb] b [] sb_)  : Calls Tryz.prog 122 #[.slice Aa a.length ca,.slice Ab b.length cb] w (fun e_ w2_=>e_ = .returned (.bool (decide (a = b))) ∧ Below w.heap.size w w2_):=by
  have La:=Kd.sl_len ha; have Ca:=Kd.sl_cap ha
  have Lb:=Kd.sl_len hb; have Cb:=Kd.sl_cap hb
  refine fnc (X:=X3 27 w) (l:=[(0,.slice Aa a.length ca),(1,.slice Ab b.length cb)]) Tryz.func122 rfl rfl rfl ⟨rfl,rfl,trivial⟩ (s0d hb (s0d ha (s0n w))).1 ?_
  refine rn ik 15 [] rfl ?_
  by_cases h1 : ((a.length : Nat) : Int) = ((b.length : Nat) : Int)
  · refine r1_ ik 10 [0] rfl (bne_eq_false_iff_eq.2 h1) ?_
    refine lp (σ:=Nat) (fun k : Nat=>[(0,.slice Aa a.length ca),(1,.slice Ab b.length cb),(5,.int .i64 ((k : Nat) : Int))])
        (fun k : Nat=>[dat (Kd.sl kPairS) [.slice Ab b.length cb] b ([]) sb_,dat (Kd.sl kPairS) [.slice Aa a.length ca] a ([]) sa_])
        (fun k : Nat=>k ≤ a.length ∧ ∀ j x y,j < k → a[j]? = some x → b[j]? = some y → x = y) (fun k : Nat=>a.length - k) 0 [0,0] ⟨Nat.zero_le _,by simp⟩ ⟨rfl,rfl,rfl,trivial⟩ rfl ?_
    intro k hp_
    obtain ⟨hk,hinv⟩:=hp_
    refine rn ik 9 [] rfl ?_
    by_cases h2 : ((k : Nat) : Int) < ((a.length : Nat) : Int)
    · refine r1_ ik 6 [1] rfl (decide_eq_true h2) ?_
      refine gx 1 k rfl (by omega) fun y8 p3 cs_ s4 w7 m9 e5 r6 us4=>?_
      obtain ⟨A10,c11,A12,c13,rfl⟩:=kPairS_sh r6
      refine gx 1 k rfl (by omega) fun y19 p14 cs_ s15 w18 m20 e16 r17 us15=>?_
      obtain ⟨A21,c22,A23,c24,rfl⟩:=kPairS_sh r17
      refine gp 1 Kd.Sub.rfl rfl (cs':=[.int .i64 y8.id,.slice A10 y8.rect.low.length c11,.slice A12 y8.rect.high.length c13]) rfl fun s25 w_ rs25 us25=>?_
      refine gp 1 Kd.Sub.rfl rfl (cs':=[.int .i64 y19.id,.slice A21 y19.rect.low.length c22,.slice A23 y19.rect.high.length c24]) rfl fun s26 w_ rs26 us26=>?_
      refine rn ik 3 [1,2] rfl (qv 2 rfl (ix k e5 rfl rfl rfl rfl rfl (by omega)) rfl (by kernel_rfl) (rn ik 3 [4,3,0,5,6] rfl (qv 6 rfl (ix k e16 rfl rfl rfl rfl rfl (by omega)) rfl (by kernel_rfl) (qv 7 rfl (ldq 2 rfl rfl rfl rfl rfl rfl rfl) rfl (by kernel_rfl) (q1 8 [0,0,0,0,0,0] rfl (by kernel_rfl) rfl (cs_ (v:=.bool (decide (y8 = y19))) (by kernel_rfl) rfl rfl rfl (fun w_ hs_=>by exact laws_eqPair w_ (hs_.at 1 rfl) (hs_.at 0 rfl)) (qn (r1_ ik 3 [10,0] rfl ⟨[0,0,0,0,0,0],rfl⟩ ?_))))))))
      by_cases h27 : decide (y8 = y19) = true
      · exact r1_ ik 6 [0] rfl (not_f h27) (vl (ra (c:=((k + 1 : Nat) : Int)) rfl rfl rfl (by omega) (by omega) (by omega)) rfl (rn ik 2 [] rfl (lpe (s:=k) (k + 1) [4,4] ⟨by omega,eq_step hinv m9 m20 (by simpa using h27)⟩ (by omega) ⟨rfl,rfl,rfl,trivial⟩ rfl)))
      · refine r1_ ik 12 [1] rfl (not_t (Bool.eq_false_iff.2 h27)) (ret1 rfl rfl (fun w_ hs_=>⟨?_,hs_.below⟩))
        exact rb (eqS_f m9 m20 (by simpa using h27)).symm
    · refine r1_ ik 12 [0] rfl (decide_eq_false h2) (ret1 rfl rfl (fun w_ hs_=>⟨?_,hs_.below⟩))
      exact rb (eqS_t (by omega) hinv (by omega)).symm
  · refine r1_ ik 8 [1] rfl (bne_iff_ne.2 h1) (ret1 rfl rfl (fun w_ hs_=>⟨?_,hs_.below⟩))
    exact rb (by rw [eq_comm,decide_eq_false_iff_not]; rintro rfl; exact h1 rfl)

def zMark : Mark := (⟨0, 0, 0⟩ : Mark)

def zLook : Look := (⟨zQuery, [], []⟩ : Look)
theorem vi {k : IntKind} {a b : Int} (h : a = b) : Value.int k a = Value.int k b:=by rw [h]
def mkV_Rect (k : Int) (a : Rect) : Rect := ⟨mkL mI cI (k) a.low, mkL mI cI (k + (a.low.length : Int)) a.high⟩

def mkV_Query (k : Int) (a : Query) : Query := ⟨a.kind, ⟨mkL mI cI (k) a.rect.low, mkL mI cI (k + (a.rect.low.length : Int)) a.rect.high⟩, mkL mI cI (k + (a.rect.low.length : Int) + (a.rect.high.length : Int)) a.point, a.k⟩


def mkE_Pair (k : Int) (a : Pair) : Pair := ⟨k, ⟨mkL mI cI (k + 1) a.rect.low, mkL mI cI (k + 1 + (a.rect.low.length : Int)) a.rect.high⟩⟩
def cntE_Pair (a : Pair) : Int := 0 + 1 + (a.rect.low.length : Int) + (a.rect.high.length : Int)
theorem cntE_Pair_nn (a : Pair) : 0 ≤ cntE_Pair a:=by
  unfold cntE_Pair; omega


theorem laws_markInt64S (w : World) (k : Int) {a : List Int} (hst : St (nul w) w [dat (Kd.row 2 Kd.i64) [.slice Aa a.length ca] a oa_ sa_]) (hk0 : 0 ≤ k) (hk1 : k + ((a.length : Nat) : Int) ≤ 1152921504606846976) : Calls Tryz.prog 60 #[.slice Aa a.length ca,.int .i64 k] w (TurnO (Kd.row 2 Kd.i64) [.slice Aa a.length ca] (.int .i64 (k + ((a.length : Nat) : Int))) w oa_ (mkL mI cI k a) (sa_)):=by
  have La:=Kd.row_len (hst.at 0 rfl); have Ca:=Kd.row_cap (hst.at 0 rfl)
  refine fnc (X:=X3 19 (nul w)) (l:=[(0,.slice Aa a.length ca),(1,.int .i64 k)]) Tryz.func60 rfl rfl rfl ⟨rfl,rfl,trivial⟩ (⟨hst.fr oa_ (by simp [owns,dat,ptr]),trivial⟩ : _ ∧ True).1 ?_
  refine rn ik 12 [] rfl ?_
  refine lp (σ:=Nat × Int × List Nat × List Nat) (fun z_ : Nat × Int × List Nat × List Nat=>match z_ with | (i,v,o_,s_)=>[(0,.slice Aa a.length ca),(1,.int .i64 v),(5,.int .i64 ((i : Nat) : Int))])
      (fun z_ : Nat × Int × List Nat × List Nat=>match z_ with | (i,v,o_,s_)=>[dat (Kd.row 2 Kd.i64) [.slice Aa a.length ca] (mkL mI cI k (a.take i) ++ a.drop i) o_ s_,frm w oa_])
      (fun z_ : Nat × Int × List Nat × List Nat=>match z_ with | (i,v,o_,s_)=>i ≤ a.length ∧ v = k + sumTo cI a i ∧ ∀ q ∈ s_,q ∈ sa_ ∨ w.heap.size ≤ q) (fun z_ : Nat × Int × List Nat × List Nat=>match z_ with | (i,v,o_,s_)=>a.length - i) (0,k,oa_,sa_) [1,0] ⟨Nat.zero_le _,by simp [sumTo],fun q h=>.inl h⟩ ⟨rfl,rfl,rfl,trivial⟩ rfl ?_
  rintro ⟨i,v,o_,s_⟩ hp_
  obtain ⟨hi,hv,hsee⟩:=hp_; have z0:=sumTo_nn cI_nn a i; have zt:=sumTo_le cI_nn a i; have ze:=cI_sum a; have zj:=cI_to hi
  refine rn ik 9 [] rfl ?_
  by_cases h1 : ((i : Nat) : Int) < ((a.length : Nat) : Int)
  · obtain ⟨ba,rfl⟩:=Kd.row_pos (hst.at 0 rfl) (by omega)
    refine r1_ ik 10 [1] rfl (decide_eq_true h1) (vl (ix i rfl rfl rfl rfl rfl rfl (by omega)) rfl (gs Kd.i64 [.int .i64 v] v (fun _=>⟨rfl,rfl,rfl⟩) (f1 (ste i rfl rfl rfl rfl rfl (by rw [List.length_append,mkL_len,List.length_take,List.length_drop]; omega) (fun o2 s3 t4=>?_)))))
    exact gr (mkL mI cI k (a.take (i + 1)) ++ a.drop (i + 1)) (mk_step (List.getElem?_eq_getElem (by omega)) (by simp only [mI]; exact hv)) (rn ik 4 [] rfl (vl (ra (c:=v + 1) rfl rfl rfl rfl (by omega) (by omega)) rfl (rn ik 6 [] rfl (vl (ra (c:=((i + 1 : Nat) : Int)) rfl rfl rfl (by omega) (by omega) (by omega)) rfl (rn ik 2 [] rfl (lpe (s:=(i,v,o_,s_)) (i + 1,v + 1,o2,s3) [0,0] ⟨by omega,by have zs:=sumTo_step (f:=cI) (List.getElem?_eq_getElem (show i < a.length by omega)); simp only [cI] at zs; omega,by grind⟩ (by show a.length - (i + 1) < a.length - i; omega) ⟨rfl,rfl,rfl,trivial⟩ rfl))))))
  · exact r1_ ik 13 [0] rfl (decide_eq_false h1) (gr (mkL mI cI k a) (mk_end (by omega)) (ret1 rfl rfl (fun w_ hs_=>turno hs_ 0 rfl (by exact vi (by have z:=sumTo_end (f:=cI) (l:=a) (k:=i) (by omega); omega)) (by grind))))
theorem laws_heldInt64S (w : World) (k : Int) {a : List Int} (ha : (Kd.sl Kd.i64).Rel w [.slice Aa0 na0 ca0] (mkL mI cI k a) [] sa_) (hk0 : 0 ≤ k) (hk1 : k + ((a.length : Nat) : Int) ≤ 1152921504606846976) : Calls Tryz.prog 137 #[.slice Aa0 na0 ca0,.int .i64 k] w (fun e_ w2_=>e_ = .returned (.int .i64 (k + ((a.length : Nat) : Int))) ∧ Below w.heap.size w w2_):=by
  have La:=Kd.sl_len ha; have Ea:=Kd.sl_n ha; rw [mkL_len] at La Ea
  refine fnc (X:=X3 21 w) (l:=[(0,.slice Aa0 na0 ca0),(1,.int .i64 k)]) Tryz.func137 rfl rfl rfl ⟨rfl,rfl,trivial⟩ (s0d ha (s0n w)).1 ?_
  refine rn ik 12 [] rfl ?_
  refine lp (σ:=Nat × Int) (fun z_ : Nat × Int=>match z_ with | (i,v)=>[(0,.slice Aa0 na0 ca0),(1,.int .i64 v),(5,.int .i64 ((i : Nat) : Int))])
      (fun z_ : Nat × Int=>match z_ with | (i,v)=>[dat (Kd.sl Kd.i64) [.slice Aa0 na0 ca0] (mkL mI cI k a) ([]) sa_])
      (fun z_ : Nat × Int=>match z_ with | (i,v)=>i ≤ a.length ∧ v = k + sumTo cI a i) (fun z_ : Nat × Int=>match z_ with | (i,v)=>a.length - i) (0,k) [0] ⟨Nat.zero_le _,by simp [sumTo]⟩ ⟨rfl,rfl,rfl,trivial⟩ rfl ?_
  rintro ⟨i,v⟩ hp_
  obtain ⟨hi,hv⟩:=hp_; have z0:=sumTo_nn cI_nn a i; have zt:=sumTo_le cI_nn a i; have ze:=cI_sum a; have zj:=cI_to hi
  refine rn ik 9 [] rfl ?_
  by_cases h1 : ((i : Nat) : Int) < ((na0 : Nat) : Int)
  · refine r1_ ik 10 [1] rfl (decide_eq_true h1) ?_
    refine gx 0 i rfl (by first | omega | (rw [mkL_len]; omega)) fun y7 p2 cs_ s3 w6 m8 e4 r5 us3=>?_
    obtain ⟨rfl,-,-⟩:=r5
    obtain ⟨y9,hy9⟩:=mkL_some m8
    have zy9:=mkL_at' m8 hy9 hv
    have zs:=sumTo_step (f:=cI) hy9; have zl:=sumTo_le cI_nn a (i + 1); have z0:=sumTo_nn cI_nn a i; have ze:=cI_sum a; have zc : cI y9 = 1:=rfl
    refine vl (ix i e4 rfl rfl rfl rfl rfl (by first | omega | (rw [mkL_len]; omega))) rfl (rn ik 5 [0,0] rfl ?_)
    by_cases h10 : y7 = v
    · exact r1_ ik 5 [0] rfl (bne_eq_false_iff_eq.2 h10) (vl (ra (c:=v + 1) rfl rfl rfl rfl (by omega) (by omega)) rfl (rn ik 6 [] rfl (vl (ra (c:=((i + 1 : Nat) : Int)) rfl rfl rfl (by omega) (by omega) (by omega)) rfl (rn ik 2 [] rfl (lpe (s:=(i,v)) (i + 1,v + 1) [1] ⟨by omega,by omega⟩ (by show a.length - (i + 1) < a.length - i; omega) ⟨rfl,rfl,rfl,trivial⟩ rfl)))))
    · exact absurd zy9 h10
  · refine r1_ ik 13 [0] rfl (decide_eq_false h1) (ret1 rfl rfl (fun w_ hs_=>⟨?_,hs_.below⟩))
    exact ri (by have z:=sumTo_end (f:=cI) (l:=a) (k:=i) (by omega); omega)
theorem laws_markRect (w : World) (k : Int) {a : Rect} (hst : St (nul w) w [dat kRectO [.slice Aa0 a.low.length ca0,.slice Aa1 a.high.length ca1] a oa_ sa_]) (hk0 : 0 ≤ k) (hk1 : k + (0 + (a.low.length : Int) + (a.high.length : Int)) ≤ 1152921504606846976) : Calls Tryz.prog 127 #[.agg #[.slice Aa0 a.low.length ca0,.slice Aa1 a.high.length ca1],.int .i64 k] w (TurnO kRectO [.slice Aa0 a.low.length ca0,.slice Aa1 a.high.length ca1] (.int .i64 (k + (a.low.length : Int) + (a.high.length : Int))) w oa_ (mkV_Rect k a) (sa_)):=by
  skip
  refine fnc (X:=X3 14 (nul w)) (l:=[(0,.agg #[.slice Aa0 a.low.length ca0,.slice Aa1 a.high.length ca1]),(1,.int .i64 k)]) Tryz.func127 rfl rfl rfl ⟨rfl,rfl,trivial⟩ (⟨hst.fr oa_ (by simp [owns,dat,ptr]),trivial⟩ : _ ∧ True).1 ?_
  refine f1 (gsp (da:=(Kd.via (Kd.row 2 Kd.i64) Rect.low)) rfl rfl (fun o1 o2 s3 s4 us3 us4=>?_))
  refine gv (f1 (gv ?_))
  refine sq (rg (bx rfl rfl rfl rfl ?_))
  intro b5
  refine rn ik 8 [0,0] rfl (f2 (cto (dk:=(Kd.row 2 Kd.i64)) (cs:=[.slice Aa0 a.low.length ca0]) (x:=(mkL mI cI k a.low)) (v:=.int .i64 (k + ((a.low.length : Nat) : Int))) (S:=(s3)) (by kernel_rfl) rfl rfl rfl (snt 0 rfl) w.heap.size (fun w_ hs_=>(hs_.mod 3 rfl).size) (fun w_ hs_=>laws_markInt64S w_ _ ((hs_.pk [0] rfl).nl) (by omega) (by omega)) (fun o6 s7 t8=>?_)))
  refine rn ik 8 [1,0] rfl (f2 (cto (dk:=(Kd.row 2 Kd.i64)) (cs:=[.slice Aa1 a.high.length ca1]) (x:=(mkL mI cI (k + ((a.low.length : Nat) : Int)) a.high)) (v:=.int .i64 ((k + ((a.low.length : Nat) : Int)) + ((a.high.length : Nat) : Int))) (S:=(s4)) (by kernel_rfl) rfl rfl rfl (snt 0 rfl) w.heap.size (fun w_ hs_=>(hs_.mod 3 rfl).size) (fun w_ hs_=>laws_markInt64S w_ _ ((hs_.pk [0] rfl).nl) (by omega) (by omega)) (fun o9 s10 t11=>?_)))
  exact rn ik 10 [] rfl (f1 (gj (da:=(Kd.via (Kd.row 2 Kd.i64) Rect.low)) (db:=(Kd.via (Kd.row 2 Kd.i64) Rect.high)) (x:=(mkV_Rect k a)) rfl (ret1 rfl rfl (fun w_ hs_=>turno hs_ 1 rfl (by exact vi (by omega)) (see_app (by grind) (by grind))))))
theorem laws_markQuery (w : World) (k : Int) {a : Query} (hst : St (nul w) w [dat kQueryO [.int .i64 a.kind,.slice Aa1 a.rect.low.length ca1,.slice Aa2 a.rect.high.length ca2,.slice Aa3 a.point.length ca3,.int .i64 a.k] a oa_ sa_]) (hk0 : 0 ≤ k) (hk1 : k + (0 + (a.rect.low.length : Int) + (a.rect.high.length : Int) + (a.point.length : Int)) ≤ 1152921504606846976) : Calls Tryz.prog 45 #[.agg #[.int .i64 a.kind,.slice Aa1 a.rect.low.length ca1,.slice Aa2 a.rect.high.length ca2,.slice Aa3 a.point.length ca3,.int .i64 a.k],.int .i64 k] w (TurnO kQueryO [.int .i64 a.kind,.slice Aa1 a.rect.low.length ca1,.slice Aa2 a.rect.high.length ca2,.slice Aa3 a.point.length ca3,.int .i64 a.k] (.int .i64 (k + (a.rect.low.length : Int) + (a.rect.high.length : Int) + (a.point.length : Int))) w oa_ (mkV_Query k a) (sa_)):=by
  skip
  refine fnc (X:=X3 14 (nul w)) (l:=[(0,.agg #[.int .i64 a.kind,.slice Aa1 a.rect.low.length ca1,.slice Aa2 a.rect.high.length ca2,.slice Aa3 a.point.length ca3,.int .i64 a.k]),(1,.int .i64 k)]) Tryz.func45 rfl rfl rfl ⟨rfl,rfl,trivial⟩ (⟨hst.fr oa_ (by simp [owns,dat,ptr]),trivial⟩ : _ ∧ True).1 ?_
  refine f1 (gsp (da:=(Kd.via Kd.i64 Query.kind)) rfl rfl (fun o1 o2 s3 s4 us3 us4=>?_))
  refine gv (f1 (gsp (da:=(Kd.via kRectO Query.rect)) rfl rfl (fun o5 o6 s7 s8 us7 us8=>?_)))
  refine gv (f1 (gsp (da:=(Kd.via (Kd.row 2 Kd.i64) Query.point)) rfl rfl (fun o9 o10 s11 s12 us11 us12=>?_)))
  refine gv (f1 (gv ?_))
  refine sq (rg (bx rfl rfl rfl rfl ?_))
  intro b13
  refine rn ik 8 [0,0] rfl (f3 (cto (dk:=kRectO) (cs:=[.slice Aa1 a.rect.low.length ca1,.slice Aa2 a.rect.high.length ca2]) (x:=(mkV_Rect k a.rect)) (v:=.int .i64 (k + (a.rect.low.length : Int) + (a.rect.high.length : Int))) (S:=(s7)) (by kernel_rfl) rfl rfl rfl (snt 0 rfl) w.heap.size (fun w_ hs_=>(hs_.mod 5 rfl).size) (fun w_ hs_=>laws_markRect w_ _ ((hs_.pk [0] rfl).nl) (by omega) (by omega)) (fun o14 s15 t16=>?_)))
  refine rn ik 8 [1,0] rfl (f3 (cto (dk:=(Kd.row 2 Kd.i64)) (cs:=[.slice Aa3 a.point.length ca3]) (x:=(mkL mI cI (k + (a.rect.low.length : Int) + (a.rect.high.length : Int)) a.point)) (v:=.int .i64 ((k + (a.rect.low.length : Int) + (a.rect.high.length : Int)) + ((a.point.length : Nat) : Int))) (S:=(s11)) (by kernel_rfl) rfl rfl rfl (snt 0 rfl) w.heap.size (fun w_ hs_=>(hs_.mod 5 rfl).size) (fun w_ hs_=>laws_markInt64S w_ _ ((hs_.pk [0] rfl).nl) (by omega) (by omega)) (fun o17 s18 t19=>?_)))
  exact rn ik 10 [] rfl (gs Kd.i64 [.int .i64 a.k] ((mkV_Query k a).k) (fun _=>⟨rfl,rfl,rfl⟩) (f1 (gj (da:=(Kd.via (Kd.row 2 Kd.i64) Query.point)) (db:=(Kd.via Kd.i64 Query.k)) (x:=(mkV_Query k a)) rfl (f1 (gj (da:=(Kd.via kRectO Query.rect)) (db:=((Kd.via (Kd.row 2 Kd.i64) Query.point).cat (Kd.via Kd.i64 Query.k))) (x:=(mkV_Query k a)) rfl (gs Kd.i64 [.int .i64 a.kind] ((mkV_Query k a).kind) (fun _=>⟨rfl,rfl,rfl⟩) (gj (da:=(Kd.via Kd.i64 Query.kind)) (db:=((Kd.via kRectO Query.rect).cat ((Kd.via (Kd.row 2 Kd.i64) Query.point).cat (Kd.via Kd.i64 Query.k)))) (x:=(mkV_Query k a)) rfl (ret1 rfl rfl (fun w_ hs_=>turno hs_ 3 rfl (by exact vi (by omega)) (see_app see_nil (see_app (by grind) (see_app (by grind) see_nil))))))))))))
theorem laws_markPairS (w : World) (k : Int) {a : List Pair} (hst : St (nul w) w [dat (Kd.row 208 kPairO) [.slice Aa a.length ca] a oa_ sa_]) (hk0 : 0 ≤ k) (hk1 : k + (a.map cntE_Pair).sum ≤ 1152921504606846976) : Calls Tryz.prog 128 #[.slice Aa a.length ca,.int .i64 k] w (TurnO (Kd.row 208 kPairO) [.slice Aa a.length ca] (.int .i64 (k + (a.map cntE_Pair).sum)) w oa_ (mkL mkE_Pair cntE_Pair k a) (sa_)):=by
  have La:=Kd.row_len (hst.at 0 rfl); have Ca:=Kd.row_cap (hst.at 0 rfl)
  refine fnc (X:=X3 36 (nul w)) (l:=[(0,.slice Aa a.length ca),(1,.int .i64 k)]) Tryz.func128 rfl rfl rfl ⟨rfl,rfl,trivial⟩ (⟨hst.fr oa_ (by simp [owns,dat,ptr]),trivial⟩ : _ ∧ True).1 ?_
  refine rn ik 12 [] rfl ?_
  refine lp (σ:=Nat × Int × List Nat × List Nat) (fun z_ : Nat × Int × List Nat × List Nat=>match z_ with | (i,v,o_,s_)=>[(0,.slice Aa a.length ca),(1,.int .i64 v),(5,.int .i64 ((i : Nat) : Int))])
      (fun z_ : Nat × Int × List Nat × List Nat=>match z_ with | (i,v,o_,s_)=>[dat (Kd.row 208 kPairO) [.slice Aa a.length ca] (mkL mkE_Pair cntE_Pair k (a.take i) ++ a.drop i) o_ s_,frm w oa_])
      (fun z_ : Nat × Int × List Nat × List Nat=>match z_ with | (i,v,o_,s_)=>i ≤ a.length ∧ v = k + sumTo cntE_Pair a i ∧ ∀ q ∈ s_,q ∈ sa_ ∨ w.heap.size ≤ q) (fun z_ : Nat × Int × List Nat × List Nat=>match z_ with | (i,v,o_,s_)=>a.length - i) (0,k,oa_,sa_) [1,0] ⟨Nat.zero_le _,by simp [sumTo],fun q h=>.inl h⟩ ⟨rfl,rfl,rfl,trivial⟩ rfl ?_
  rintro ⟨i,v,o_,s_⟩ hp_
  obtain ⟨hi,hv,hsee⟩:=hp_; have z0:=sumTo_nn cntE_Pair_nn a i; have zt:=sumTo_le cntE_Pair_nn a i
  refine rn ik 9 [] rfl ?_
  by_cases h1 : ((i : Nat) : Int) < ((a.length : Nat) : Int)
  · obtain ⟨ba,rfl⟩:=Kd.row_pos (hst.at 0 rfl) (by omega)
    refine r1_ ik 10 [1] rfl (decide_eq_true h1) (vl (ix i rfl rfl rfl rfl rfl rfl (by omega)) rfl ?_)
    refine foc i (by rw [List.length_append,mkL_len,List.length_take,List.length_drop]; omega) fun y2 ci_ o3 s4 o5 s6 w_ m7 r8 us4 us6=>?_
    obtain ⟨A9,c10,A11,c12,rfl⟩:=kPairO_sh r8
    refine f1 (gsp (da:=(Kd.via Kd.i64 Pair.id)) rfl rfl (fun o13 o14 s15 s16 us15 us16=>?_))
    refine gv (f1 (gv (gsp (da:=(Kd.via (Kd.row 2 Kd.i64) Rect.low)) rfl rfl (fun o17 o18 s19 s20 us19 us20=>?_))))
    refine gv (f1 (gv ?_))
    have zs:=sumTo_step (f:=cntE_Pair) (mk_raw m7); have zl:=sumTo_le cntE_Pair_nn a (i + 1); have z0:=sumTo_nn cntE_Pair_nn a i; have zc : cntE_Pair y2 = 0 + 1 + (y2.rect.low.length : Int) + (y2.rect.high.length : Int):=rfl
    refine vl (fa rfl rfl rfl) rfl (f3 (sth (off:=0) rfl rfl pa1 rfl rfl rfl rfl rfl (ci':=[.int .i64 v,.slice A9 y2.rect.low.length c10,.slice A11 y2.rect.high.length c12]) rfl (rn ik 5 [] rfl (vl (ra (c:=v + 1) rfl rfl rfl rfl (by omega) (by omega)) rfl (rn ik 7 [] rfl (vl (ix i rfl rfl rfl rfl rfl rfl (by omega)) rfl (vl (fa rfl rfl rfl) rfl (vl (fb rfl rfl rfl) rfl (vl (ldh (u:=.slice A9 y2.rect.low.length c10) 0 (off:=1) rfl rfl rfl rfl pa1 rfl rfl rfl) rfl (m_ rfl rfl (f2 (cto (dk:=(Kd.row 2 Kd.i64)) (cs:=[.slice A9 y2.rect.low.length c10]) (x:=(mkL mI cI (v + 1) y2.rect.low)) (v:=.int .i64 (v + 1 + ((y2.rect.low.length : Nat) : Int))) (S:=(s19)) (by kernel_rfl) rfl rfl rfl (snt 0 rfl) w.heap.size (fun w_ hs_=>(hs_.mod 4 rfl).size) (fun w_ hs_=>laws_markInt64S w_ _ ((hs_.pk [0] rfl).nl) (by omega) (by omega)) (fun o21 s22 t23=>?_)))))))))))))
    refine rn ik 6 [] rfl (vl (ix i rfl rfl rfl rfl rfl rfl (by omega)) rfl (vl (fa rfl rfl rfl) rfl (vl (fb rfl rfl rfl) rfl (vl (ldh (u:=.slice A11 y2.rect.high.length c12) 1 (off:=2) rfl rfl rfl rfl pa1 rfl rfl rfl) rfl (m_ rfl rfl (f2 (cto (dk:=(Kd.row 2 Kd.i64)) (cs:=[.slice A11 y2.rect.high.length c12]) (x:=(mkL mI cI (v + 1 + ((y2.rect.low.length : Nat) : Int)) y2.rect.high)) (v:=.int .i64 ((v + 1 + ((y2.rect.low.length : Nat) : Int)) + ((y2.rect.high.length : Nat) : Int))) (S:=(s20)) (by kernel_rfl) rfl rfl rfl (snt 0 rfl) w.heap.size (fun w_ hs_=>(hs_.mod 4 rfl).size) (fun w_ hs_=>laws_markInt64S w_ _ ((hs_.pk [0] rfl).nl) (by omega) (by omega)) (fun o24 s25 t26=>?_))))))))
    refine rn ik 6 [] rfl (vl (ra (c:=((i + 1 : Nat) : Int)) rfl rfl rfl (by omega) (by omega) (by omega)) rfl (rn ik 2 [] rfl (f1 (gj (da:=(Kd.via (Kd.row 2 Kd.i64) Rect.low)) (db:=(Kd.via (Kd.row 2 Kd.i64) Rect.high)) (x:=((mkE_Pair v y2).rect)) rfl (gs Kd.i64 [.int .i64 v] ((mkE_Pair v y2).id) (fun _=>⟨rfl,rfl,rfl⟩) (gj (da:=(Kd.via Kd.i64 Pair.id)) (db:=(Kd.via kRectO Pair.rect)) (x:=(mkE_Pair v y2)) rfl (f1 (unf (fun o27 s28 t29=>?_)))))))))
    refine gr (mkL mkE_Pair cntE_Pair k (a.take (i + 1)) ++ a.drop (i + 1)) (mk_step (mk_raw m7) (by rw [← hv])) ?_
    exact lpe (s:=(i,v,o_,s_)) (i + 1,((v + 1 + ((y2.rect.low.length : Nat) : Int)) + ((y2.rect.high.length : Nat) : Int)),o27,s28) [0,1] ⟨by omega,by omega,by grind⟩ (by show a.length - (i + 1) < a.length - i; omega) ⟨rfl,rfl,rfl,trivial⟩ rfl
  · exact r1_ ik 13 [0] rfl (decide_eq_false h1) (gr (mkL mkE_Pair cntE_Pair k a) (mk_end (by omega)) (ret1 rfl rfl (fun w_ hs_=>turno hs_ 0 rfl (by exact vi (by have z:=sumTo_end (f:=cntE_Pair) (l:=a) (k:=i) (by omega); omega)) (by grind))))
theorem laws_heldPairS (w : World) (k : Int) {a : List Pair} (ha : (Kd.sl kPairS).Rel w [.slice Aa0 na0 ca0] (mkL mkE_Pair cntE_Pair k a) [] sa_) (hk0 : 0 ≤ k) (hk1 : k + (a.map cntE_Pair).sum ≤ 1152921504606846976) : Calls Tryz.prog 129 #[.slice Aa0 na0 ca0,.int .i64 k] w (fun e_ w2_=>e_ = .returned (.int .i64 (k + (a.map cntE_Pair).sum)) ∧ Below w.heap.size w w2_):=by
  have La:=Kd.sl_len ha; have Ea:=Kd.sl_n ha; rw [mkL_len] at La Ea
  refine fnc (X:=X3 42 w) (l:=[(0,.slice Aa0 na0 ca0),(1,.int .i64 k)]) Tryz.func129 rfl rfl rfl ⟨rfl,rfl,trivial⟩ (s0d ha (s0n w)).1 ?_
  refine rn ik 12 [] rfl ?_
  refine lp (σ:=Nat × Int) (fun z_ : Nat × Int=>match z_ with | (i,v)=>[(0,.slice Aa0 na0 ca0),(1,.int .i64 v),(5,.int .i64 ((i : Nat) : Int))])
      (fun z_ : Nat × Int=>match z_ with | (i,v)=>[dat (Kd.sl kPairS) [.slice Aa0 na0 ca0] (mkL mkE_Pair cntE_Pair k a) ([]) sa_])
      (fun z_ : Nat × Int=>match z_ with | (i,v)=>i ≤ a.length ∧ v = k + sumTo cntE_Pair a i) (fun z_ : Nat × Int=>match z_ with | (i,v)=>a.length - i) (0,k) [0] ⟨Nat.zero_le _,by simp [sumTo]⟩ ⟨rfl,rfl,rfl,trivial⟩ rfl ?_
  rintro ⟨i,v⟩ hp_
  obtain ⟨hi,hv⟩:=hp_; have z0:=sumTo_nn cntE_Pair_nn a i; have zt:=sumTo_le cntE_Pair_nn a i
  refine rn ik 9 [] rfl ?_
  by_cases h1 : ((i : Nat) : Int) < ((na0 : Nat) : Int)
  · refine r1_ ik 10 [1] rfl (decide_eq_true h1) ?_
    refine gx 0 i rfl (by first | omega | (rw [mkL_len]; omega)) fun y7 p2 cs_ s3 w6 m8 e4 r5 us3=>?_
    obtain ⟨A9,c10,A11,c12,rfl⟩:=kPairS_sh r5
    obtain ⟨y13,hy13⟩:=mkL_some m8
    have zy13:=mkL_at' m8 hy13 hv; subst zy13
    have zs:=sumTo_step (f:=cntE_Pair) hy13; have zl:=sumTo_le cntE_Pair_nn a (i + 1); have z0:=sumTo_nn cntE_Pair_nn a i; have zc : cntE_Pair y13 = 0 + 1 + (y13.rect.low.length : Int) + (y13.rect.high.length : Int):=rfl
    refine vl (ix i e4 rfl rfl rfl rfl rfl (by first | omega | (rw [mkL_len]; omega))) rfl (rn ik 6 [0,1] rfl ?_)
    by_cases h14 : (mkE_Pair v y13).id = v
    · refine r1_ ik 6 [0] rfl (bne_eq_false_iff_eq.2 h14) (vl (ra (c:=v + 1) rfl rfl rfl rfl (by omega) (by omega)) rfl (rn ik 7 [] rfl (vl (ix i e4 rfl rfl rfl rfl rfl (by first | omega | (rw [mkL_len]; omega))) rfl (vl (fa rfl rfl rfl) rfl (vl (fb rfl rfl rfl) rfl (rn ik 2 [0,2] rfl ?_))))))
      refine gp 0 kPairS_p1_1 rfl (cs':=[.slice A9 ((mkE_Pair v y13).rect.low.length) c10]) rfl fun s15 w_ rs15 us15=>?_
      have Ls15:=Kd.sl_len rs15; have Cs15:=Kd.sl_cap rs15
      refine gr (mkL mI cI (v + 1) y13.rect.low) rfl (cs_ (v:=.int .i64 (v + 1 + ((y13.rect.low.length : Nat) : Int))) (by kernel_rfl) rfl rfl rfl (fun w_ hs_=>laws_heldInt64S w_ _ (hs_.at 0 rfl) (by omega) (by omega)) (rn ik 10 [] rfl ?_))
      by_cases h16 : (v + 1 + ((y13.rect.low.length : Nat) : Int)) < (0 : Int)
      · exfalso; omega
      · refine r1_ ik 7 [0] rfl (decide_eq_false h16) (vl (ix i e4 rfl rfl rfl rfl rfl (by first | omega | (rw [mkL_len]; omega))) rfl (vl (fa rfl rfl rfl) rfl (vl (fb rfl rfl rfl) rfl (rn ik 2 [1,3] rfl ?_))))
        refine gp 1 kPairS_p2_1 rfl (cs':=[.slice A11 ((mkE_Pair v y13).rect.high.length) c12]) rfl fun s17 w_ rs17 us17=>?_
        have Ls17:=Kd.sl_len rs17; have Cs17:=Kd.sl_cap rs17
        refine gr (mkL mI cI (v + 1 + (y13.rect.low.length : Int)) y13.rect.high) rfl (cs_ (v:=.int .i64 ((v + 1 + ((y13.rect.low.length : Nat) : Int)) + ((y13.rect.high.length : Nat) : Int))) (by kernel_rfl) rfl rfl rfl (fun w_ hs_=>laws_heldInt64S w_ _ (hs_.at 0 rfl) (by omega) (by omega)) (rn ik 9 [] rfl ?_))
        by_cases h18 : ((v + 1 + ((y13.rect.low.length : Nat) : Int)) + ((y13.rect.high.length : Nat) : Int)) < (0 : Int)
        · exfalso; omega
        · exact r1_ ik 6 [0] rfl (decide_eq_false h18) (vl (ra (c:=((i + 1 : Nat) : Int)) rfl rfl rfl (by omega) (by omega) (by omega)) rfl (rn ik 2 [] rfl (lpe (s:=(i,v)) (i + 1,((v + 1 + ((y13.rect.low.length : Nat) : Int)) + ((y13.rect.high.length : Nat) : Int))) [3] ⟨by omega,by omega⟩ (by show a.length - (i + 1) < a.length - i; omega) ⟨rfl,rfl,rfl,trivial⟩ rfl)))
    · exact absurd rfl h14
  · refine r1_ ik 13 [0] rfl (decide_eq_false h1) (ret1 rfl rfl (fun w_ hs_=>⟨?_,hs_.below⟩))
    exact ri (by have z:=sumTo_end (f:=cntE_Pair) (l:=a) (k:=i) (by omega); omega)
def mkE_Entry (k : Int) (a : Entry) : Entry := ⟨⟨mkL mI cI (k) a.rect.low, mkL mI cI (k + (a.rect.low.length : Int)) a.rect.high⟩, k + (a.rect.low.length : Int) + (a.rect.high.length : Int), k + (a.rect.low.length : Int) + (a.rect.high.length : Int) + 1⟩
def cntE_Entry (a : Entry) : Int := 0 + (a.rect.low.length : Int) + (a.rect.high.length : Int) + 1 + 1
theorem cntE_Entry_nn (a : Entry) : 0 ≤ cntE_Entry a:=by
  unfold cntE_Entry; omega
def mkE_Node (k : Int) (a : Node) : Node := ⟨k, k + 1, k + 1 + 1, mkL mkE_Entry cntE_Entry (k + 1 + 1 + 1) a.entries⟩
def cntE_Node (a : Node) : Int := 0 + 1 + 1 + 1 + (a.entries.map cntE_Entry).sum
theorem cntE_Node_nn (a : Node) : 0 ≤ cntE_Node a:=by
  have:=sum_nn cntE_Entry_nn a.entries
  unfold cntE_Node; omega
def mkE_Retired (k : Int) (a : Retired) : Retired := ⟨k, mkL mI cI (k + 1) a.watch⟩
def cntE_Retired (a : Retired) : Int := 0 + 1 + (a.watch.length : Int)
theorem cntE_Retired_nn (a : Retired) : 0 ≤ cntE_Retired a:=by
  unfold cntE_Retired; omega
def mkV_Arena (k : Int) (a : Arena) : Arena := ⟨a.dims, mkL mkE_Node cntE_Node (k) a.nodes, mkL mI cI (k + (a.nodes.map cntE_Node).sum) a.free, mkL mkE_Retired cntE_Retired (k + (a.nodes.map cntE_Node).sum + (a.free.length : Int)) a.retired⟩

theorem laws_markEntryS (w : World) (k : Int) {a : List Entry} (hst : St (nul w) w [dat (Kd.row 102 kEntryO) [.slice Aa a.length ca] a oa_ sa_]) (hk0 : 0 ≤ k) (hk1 : k + (a.map cntE_Entry).sum ≤ 1152921504606846976) : Calls Tryz.prog 13 #[.slice Aa a.length ca,.int .i64 k] w (TurnO (Kd.row 102 kEntryO) [.slice Aa a.length ca] (.int .i64 (k + (a.map cntE_Entry).sum)) w oa_ (mkL mkE_Entry cntE_Entry k a) (sa_)):=by
  have La:=Kd.row_len (hst.at 0 rfl); have Ca:=Kd.row_cap (hst.at 0 rfl)
  refine fnc (X:=X3 43 (nul w)) (l:=[(0,.slice Aa a.length ca),(1,.int .i64 k)]) Tryz.func13 rfl rfl rfl ⟨rfl,rfl,trivial⟩ (⟨hst.fr oa_ (by simp [owns,dat,ptr]),trivial⟩ : _ ∧ True).1 ?_
  refine rn ik 12 [] rfl ?_
  refine lp (σ:=Nat × Int × List Nat × List Nat) (fun z_ : Nat × Int × List Nat × List Nat=>match z_ with | (i,v,o_,s_)=>[(0,.slice Aa a.length ca),(1,.int .i64 v),(5,.int .i64 ((i : Nat) : Int))])
      (fun z_ : Nat × Int × List Nat × List Nat=>match z_ with | (i,v,o_,s_)=>[dat (Kd.row 102 kEntryO) [.slice Aa a.length ca] (mkL mkE_Entry cntE_Entry k (a.take i) ++ a.drop i) o_ s_,frm w oa_])
      (fun z_ : Nat × Int × List Nat × List Nat=>match z_ with | (i,v,o_,s_)=>i ≤ a.length ∧ v = k + sumTo cntE_Entry a i ∧ ∀ q ∈ s_,q ∈ sa_ ∨ w.heap.size ≤ q) (fun z_ : Nat × Int × List Nat × List Nat=>match z_ with | (i,v,o_,s_)=>a.length - i) (0,k,oa_,sa_) [1,0] ⟨Nat.zero_le _,by simp [sumTo],fun q h=>.inl h⟩ ⟨rfl,rfl,rfl,trivial⟩ rfl ?_
  rintro ⟨i,v,o_,s_⟩ hp_
  obtain ⟨hi,hv,hsee⟩:=hp_; have z0:=sumTo_nn cntE_Entry_nn a i; have zt:=sumTo_le cntE_Entry_nn a i
  refine rn ik 9 [] rfl ?_
  by_cases h1 : ((i : Nat) : Int) < ((a.length : Nat) : Int)
  · obtain ⟨ba,rfl⟩:=Kd.row_pos (hst.at 0 rfl) (by omega)
    refine r1_ ik 9 [1] rfl (decide_eq_true h1) (vl (ix i rfl rfl rfl rfl rfl rfl (by omega)) rfl ?_)
    refine foc i (by rw [List.length_append,mkL_len,List.length_take,List.length_drop]; omega) fun y2 ci_ o3 s4 o5 s6 w_ m7 r8 us4 us6=>?_
    obtain ⟨A9,c10,A11,c12,rfl⟩:=kEntryO_sh r8
    refine f1 (gsp (da:=(Kd.via kRectO Entry.rect)) rfl rfl (fun o13 o14 s15 s16 us15 us16=>?_))
    refine gv (f1 (gsp (da:=(Kd.via Kd.i64 Entry.ref)) rfl rfl (fun o17 o18 s19 s20 us19 us20=>?_)))
    refine gv (f1 (gv (f2 (gsp (da:=(Kd.via (Kd.row 2 Kd.i64) Rect.low)) rfl rfl (fun o21 o22 s23 s24 us23 us24=>?_)))))
    refine gv (f1 (gv ?_))
    have zs:=sumTo_step (f:=cntE_Entry) (mk_raw m7); have zl:=sumTo_le cntE_Entry_nn a (i + 1); have z0:=sumTo_nn cntE_Entry_nn a i; have zc : cntE_Entry y2 = 0 + (y2.rect.low.length : Int) + (y2.rect.high.length : Int) + 1 + 1:=rfl
    refine vl (fa rfl rfl rfl) rfl (vl (fb rfl rfl rfl) rfl (vl (ldh (u:=.slice A9 y2.rect.low.length c10) 4 (off:=0) rfl rfl rfl rfl pa1 rfl rfl rfl) rfl (m_ rfl rfl (f1 (cto (dk:=(Kd.row 2 Kd.i64)) (cs:=[.slice A9 y2.rect.low.length c10]) (x:=(mkL mI cI v y2.rect.low)) (v:=.int .i64 (v + ((y2.rect.low.length : Nat) : Int))) (S:=(s23)) (by kernel_rfl) rfl rfl rfl (snt 0 rfl) w.heap.size (fun w_ hs_=>(hs_.mod 5 rfl).size) (fun w_ hs_=>laws_markInt64S w_ _ ((hs_.pk [0] rfl).nl) (by omega) (by omega)) (fun o25 s26 t27=>?_))))))
    refine rn ik 7 [] rfl (vl (ix i rfl rfl rfl rfl rfl rfl (by omega)) rfl (vl (fa rfl rfl rfl) rfl (vl (fb rfl rfl rfl) rfl (vl (ldh (u:=.slice A11 y2.rect.high.length c12) 4 (off:=1) rfl rfl rfl rfl pa1 rfl rfl rfl) rfl (m_ rfl rfl (f1 (cto (dk:=(Kd.row 2 Kd.i64)) (cs:=[.slice A11 y2.rect.high.length c12]) (x:=(mkL mI cI (v + ((y2.rect.low.length : Nat) : Int)) y2.rect.high)) (v:=.int .i64 ((v + ((y2.rect.low.length : Nat) : Int)) + ((y2.rect.high.length : Nat) : Int))) (S:=(s24)) (by kernel_rfl) rfl rfl rfl (snt 0 rfl) w.heap.size (fun w_ hs_=>(hs_.mod 5 rfl).size) (fun w_ hs_=>laws_markInt64S w_ _ ((hs_.pk [0] rfl).nl) (by omega) (by omega)) (fun o28 s29 t30=>?_))))))))
    refine rn ik 8 [] rfl (vl (ix i rfl rfl rfl rfl rfl rfl (by omega)) rfl (vl (fa rfl rfl rfl) rfl (f4 (sth (off:=2) rfl rfl pa1 rfl rfl rfl rfl rfl (ci':=[.slice A9 y2.rect.low.length c10,.slice A11 y2.rect.high.length c12,.int .i64 ((v + ((y2.rect.low.length : Nat) : Int)) + ((y2.rect.high.length : Nat) : Int)),.int .i64 y2.nsn]) rfl (rn ik 5 [] rfl (vl (ra (c:=((v + ((y2.rect.low.length : Nat) : Int)) + ((y2.rect.high.length : Nat) : Int)) + 1) rfl rfl rfl rfl (by omega) (by omega)) rfl (rn ik 8 [] rfl (vl (ix i rfl rfl rfl rfl rfl rfl (by omega)) rfl (vl (fa rfl rfl rfl) rfl (sth (off:=3) rfl rfl pa1 rfl rfl rfl rfl rfl (ci':=[.slice A9 y2.rect.low.length c10,.slice A11 y2.rect.high.length c12,.int .i64 ((v + ((y2.rect.low.length : Nat) : Int)) + ((y2.rect.high.length : Nat) : Int)),.int .i64 (((v + ((y2.rect.low.length : Nat) : Int)) + ((y2.rect.high.length : Nat) : Int)) + 1)]) rfl (rn ik 4 [] rfl (vl (ra (c:=((v + ((y2.rect.low.length : Nat) : Int)) + ((y2.rect.high.length : Nat) : Int)) + 1 + 1) rfl rfl rfl rfl (by omega) (by omega)) rfl (rn ik 6 [] rfl (vl (ra (c:=((i + 1 : Nat) : Int)) rfl rfl rfl (by omega) (by omega) (by omega)) rfl (rn ik 2 [] rfl (gs Kd.i64 [.int .i64 (((v + ((y2.rect.low.length : Nat) : Int)) + ((y2.rect.high.length : Nat) : Int)) + 1)] ((mkE_Entry v y2).nsn) (fun _=>⟨rfl,rfl,rfl⟩) (gs Kd.i64 [.int .i64 ((v + ((y2.rect.low.length : Nat) : Int)) + ((y2.rect.high.length : Nat) : Int))] ((mkE_Entry v y2).ref) (fun _=>⟨rfl,rfl,rfl⟩) (gj (da:=(Kd.via Kd.i64 Entry.ref)) (db:=(Kd.via Kd.i64 Entry.nsn)) (x:=(mkE_Entry v y2)) rfl (f2 (f3 (gj (da:=(Kd.via (Kd.row 2 Kd.i64) Rect.low)) (db:=(Kd.via (Kd.row 2 Kd.i64) Rect.high)) (x:=((mkE_Entry v y2).rect)) rfl (gj (da:=(Kd.via kRectO Entry.rect)) (db:=((Kd.via Kd.i64 Entry.ref).cat (Kd.via Kd.i64 Entry.nsn))) (x:=(mkE_Entry v y2)) rfl (f1 (unf (fun o31 s32 t33=>?_)))))))))))))))))))))))))
    refine gr (mkL mkE_Entry cntE_Entry k (a.take (i + 1)) ++ a.drop (i + 1)) (mk_step (mk_raw m7) (by rw [← hv])) ?_
    exact lpe (s:=(i,v,o_,s_)) (i + 1,((v + ((y2.rect.low.length : Nat) : Int)) + ((y2.rect.high.length : Nat) : Int)) + 1 + 1,o31,s32) [0,2] ⟨by omega,by omega,by grind⟩ (by show a.length - (i + 1) < a.length - i; omega) ⟨rfl,rfl,rfl,trivial⟩ rfl
  · exact r1_ ik 13 [0] rfl (decide_eq_false h1) (gr (mkL mkE_Entry cntE_Entry k a) (mk_end (by omega)) (ret1 rfl rfl (fun w_ hs_=>turno hs_ 0 rfl (by exact vi (by have z:=sumTo_end (f:=cntE_Entry) (l:=a) (k:=i) (by omega); omega)) (by grind))))
theorem laws_markNodeS (w : World) (k : Int) {a : List Node} (hst : St (nul w) w [dat (Kd.row 52 kNodeO) [.slice Aa a.length ca] a oa_ sa_]) (hk0 : 0 ≤ k) (hk1 : k + (a.map cntE_Node).sum ≤ 1152921504606846976) : Calls Tryz.prog 204 #[.slice Aa a.length ca,.int .i64 k] w (TurnO (Kd.row 52 kNodeO) [.slice Aa a.length ca] (.int .i64 (k + (a.map cntE_Node).sum)) w oa_ (mkL mkE_Node cntE_Node k a) (sa_)):=by
  have La:=Kd.row_len (hst.at 0 rfl); have Ca:=Kd.row_cap (hst.at 0 rfl)
  refine fnc (X:=X3 41 (nul w)) (l:=[(0,.slice Aa a.length ca),(1,.int .i64 k)]) Tryz.func204 rfl rfl rfl ⟨rfl,rfl,trivial⟩ (⟨hst.fr oa_ (by simp [owns,dat,ptr]),trivial⟩ : _ ∧ True).1 ?_
  refine rn ik 12 [] rfl ?_
  refine lp (σ:=Nat × Int × List Nat × List Nat) (fun z_ : Nat × Int × List Nat × List Nat=>match z_ with | (i,v,o_,s_)=>[(0,.slice Aa a.length ca),(1,.int .i64 v),(5,.int .i64 ((i : Nat) : Int))])
      (fun z_ : Nat × Int × List Nat × List Nat=>match z_ with | (i,v,o_,s_)=>[dat (Kd.row 52 kNodeO) [.slice Aa a.length ca] (mkL mkE_Node cntE_Node k (a.take i) ++ a.drop i) o_ s_,frm w oa_])
      (fun z_ : Nat × Int × List Nat × List Nat=>match z_ with | (i,v,o_,s_)=>i ≤ a.length ∧ v = k + sumTo cntE_Node a i ∧ ∀ q ∈ s_,q ∈ sa_ ∨ w.heap.size ≤ q) (fun z_ : Nat × Int × List Nat × List Nat=>match z_ with | (i,v,o_,s_)=>a.length - i) (0,k,oa_,sa_) [1,0] ⟨Nat.zero_le _,by simp [sumTo],fun q h=>.inl h⟩ ⟨rfl,rfl,rfl,trivial⟩ rfl ?_
  rintro ⟨i,v,o_,s_⟩ hp_
  obtain ⟨hi,hv,hsee⟩:=hp_; have z0:=sumTo_nn cntE_Node_nn a i; have zt:=sumTo_le cntE_Node_nn a i
  refine rn ik 9 [] rfl ?_
  by_cases h1 : ((i : Nat) : Int) < ((a.length : Nat) : Int)
  · obtain ⟨ba,rfl⟩:=Kd.row_pos (hst.at 0 rfl) (by omega)
    refine r1_ ik 10 [1] rfl (decide_eq_true h1) (vl (ix i rfl rfl rfl rfl rfl rfl (by omega)) rfl ?_)
    refine foc i (by rw [List.length_append,mkL_len,List.length_take,List.length_drop]; omega) fun y2 ci_ o3 s4 o5 s6 w_ m7 r8 us4 us6=>?_
    obtain ⟨A9,c10,rfl⟩:=kNodeO_sh r8
    refine f1 (gsp (da:=(Kd.via Kd.i64 Node.level)) rfl rfl (fun o11 o12 s13 s14 us13 us14=>?_))
    refine gv (f1 (gsp (da:=(Kd.via Kd.i64 Node.nsn)) rfl rfl (fun o15 o16 s17 s18 us17 us18=>?_)))
    refine gv (f1 (gsp (da:=(Kd.via Kd.i64 Node.right)) rfl rfl (fun o19 o20 s21 s22 us21 us22=>?_)))
    refine gv (f1 (gv ?_))
    have zs:=sumTo_step (f:=cntE_Node) (mk_raw m7); have zl:=sumTo_le cntE_Node_nn a (i + 1); have z0:=sumTo_nn cntE_Node_nn a i; have zc : cntE_Node y2 = 0 + 1 + 1 + 1 + (y2.entries.map cntE_Entry).sum:=rfl; have zn0:=sum_nn cntE_Entry_nn y2.entries
    refine vl (fa rfl rfl rfl) rfl (f4 (sth (off:=0) rfl rfl pa1 rfl rfl rfl rfl rfl (ci':=[.int .i64 v,.int .i64 y2.nsn,.int .i64 y2.right,.slice A9 y2.entries.length c10]) rfl (rn ik 5 [] rfl (vl (ra (c:=v + 1) rfl rfl rfl rfl (by omega) (by omega)) rfl (rn ik 8 [] rfl (vl (ix i rfl rfl rfl rfl rfl rfl (by omega)) rfl (vl (fa rfl rfl rfl) rfl (sth (off:=1) rfl rfl pa1 rfl rfl rfl rfl rfl (ci':=[.int .i64 v,.int .i64 (v + 1),.int .i64 y2.right,.slice A9 y2.entries.length c10]) rfl (rn ik 5 [] rfl (vl (ra (c:=v + 1 + 1) rfl rfl rfl rfl (by omega) (by omega)) rfl (rn ik 8 [] rfl (vl (ix i rfl rfl rfl rfl rfl rfl (by omega)) rfl (vl (fa rfl rfl rfl) rfl (sth (off:=2) rfl rfl pa1 rfl rfl rfl rfl rfl (ci':=[.int .i64 v,.int .i64 (v + 1),.int .i64 (v + 1 + 1),.slice A9 y2.entries.length c10]) rfl (rn ik 5 [] rfl (vl (ra (c:=v + 1 + 1 + 1) rfl rfl rfl rfl (by omega) (by omega)) rfl (rn ik 6 [] rfl (vl (ix i rfl rfl rfl rfl rfl rfl (by omega)) rfl (vl (fa rfl rfl rfl) rfl (vl (ldh (u:=.slice A9 y2.entries.length c10) 0 (off:=3) rfl rfl rfl rfl pa1 rfl rfl rfl) rfl (m_ rfl rfl (f1 (cto (dk:=(Kd.row 102 kEntryO)) (cs:=[.slice A9 y2.entries.length c10]) (x:=(mkL mkE_Entry cntE_Entry (v + 1 + 1 + 1) y2.entries)) (v:=.int .i64 (v + 1 + 1 + 1 + (y2.entries.map cntE_Entry).sum)) (S:=(s22)) (by kernel_rfl) rfl rfl rfl (snt 0 rfl) w.heap.size (fun w_ hs_=>(hs_.mod 5 rfl).size) (fun w_ hs_=>laws_markEntryS w_ _ ((hs_.pk [0] rfl).nl) (by omega) (by omega)) (fun o23 s24 t25=>?_))))))))))))))))))))))))
    refine rn ik 6 [] rfl (vl (ra (c:=((i + 1 : Nat) : Int)) rfl rfl rfl (by omega) (by omega) (by omega)) rfl (rn ik 2 [] rfl (gs Kd.i64 [.int .i64 (v + 1 + 1)] ((mkE_Node v y2).right) (fun _=>⟨rfl,rfl,rfl⟩) (gj (da:=(Kd.via Kd.i64 Node.right)) (db:=(Kd.via (Kd.row 102 kEntryO) Node.entries)) (x:=(mkE_Node v y2)) rfl (gs Kd.i64 [.int .i64 (v + 1)] ((mkE_Node v y2).nsn) (fun _=>⟨rfl,rfl,rfl⟩) (gj (da:=(Kd.via Kd.i64 Node.nsn)) (db:=((Kd.via Kd.i64 Node.right).cat (Kd.via (Kd.row 102 kEntryO) Node.entries))) (x:=(mkE_Node v y2)) rfl (gs Kd.i64 [.int .i64 v] ((mkE_Node v y2).level) (fun _=>⟨rfl,rfl,rfl⟩) (gj (da:=(Kd.via Kd.i64 Node.level)) (db:=((Kd.via Kd.i64 Node.nsn).cat ((Kd.via Kd.i64 Node.right).cat (Kd.via (Kd.row 102 kEntryO) Node.entries)))) (x:=(mkE_Node v y2)) rfl (f1 (unf (fun o26 s27 t28=>?_)))))))))))
    refine gr (mkL mkE_Node cntE_Node k (a.take (i + 1)) ++ a.drop (i + 1)) (mk_step (mk_raw m7) (by rw [← hv])) ?_
    exact lpe (s:=(i,v,o_,s_)) (i + 1,(v + 1 + 1 + 1 + (y2.entries.map cntE_Entry).sum),o26,s27) [0,3] ⟨by omega,by omega,by grind⟩ (by show a.length - (i + 1) < a.length - i; omega) ⟨rfl,rfl,rfl,trivial⟩ rfl
  · exact r1_ ik 13 [0] rfl (decide_eq_false h1) (gr (mkL mkE_Node cntE_Node k a) (mk_end (by omega)) (ret1 rfl rfl (fun w_ hs_=>turno hs_ 0 rfl (by exact vi (by have z:=sumTo_end (f:=cntE_Node) (l:=a) (k:=i) (by omega); omega)) (by grind))))
theorem laws_markRetiredS (w : World) (k : Int) {a : List Retired} (hst : St (nul w) w [dat (Kd.row 133 kRetiredO) [.slice Aa a.length ca] a oa_ sa_]) (hk0 : 0 ≤ k) (hk1 : k + (a.map cntE_Retired).sum ≤ 1152921504606846976) : Calls Tryz.prog 205 #[.slice Aa a.length ca,.int .i64 k] w (TurnO (Kd.row 133 kRetiredO) [.slice Aa a.length ca] (.int .i64 (k + (a.map cntE_Retired).sum)) w oa_ (mkL mkE_Retired cntE_Retired k a) (sa_)):=by
  have La:=Kd.row_len (hst.at 0 rfl); have Ca:=Kd.row_cap (hst.at 0 rfl)
  refine fnc (X:=X3 27 (nul w)) (l:=[(0,.slice Aa a.length ca),(1,.int .i64 k)]) Tryz.func205 rfl rfl rfl ⟨rfl,rfl,trivial⟩ (⟨hst.fr oa_ (by simp [owns,dat,ptr]),trivial⟩ : _ ∧ True).1 ?_
  refine rn ik 12 [] rfl ?_
  refine lp (σ:=Nat × Int × List Nat × List Nat) (fun z_ : Nat × Int × List Nat × List Nat=>match z_ with | (i,v,o_,s_)=>[(0,.slice Aa a.length ca),(1,.int .i64 v),(5,.int .i64 ((i : Nat) : Int))])
      (fun z_ : Nat × Int × List Nat × List Nat=>match z_ with | (i,v,o_,s_)=>[dat (Kd.row 133 kRetiredO) [.slice Aa a.length ca] (mkL mkE_Retired cntE_Retired k (a.take i) ++ a.drop i) o_ s_,frm w oa_])
      (fun z_ : Nat × Int × List Nat × List Nat=>match z_ with | (i,v,o_,s_)=>i ≤ a.length ∧ v = k + sumTo cntE_Retired a i ∧ ∀ q ∈ s_,q ∈ sa_ ∨ w.heap.size ≤ q) (fun z_ : Nat × Int × List Nat × List Nat=>match z_ with | (i,v,o_,s_)=>a.length - i) (0,k,oa_,sa_) [1,0] ⟨Nat.zero_le _,by simp [sumTo],fun q h=>.inl h⟩ ⟨rfl,rfl,rfl,trivial⟩ rfl ?_
  rintro ⟨i,v,o_,s_⟩ hp_
  obtain ⟨hi,hv,hsee⟩:=hp_; have z0:=sumTo_nn cntE_Retired_nn a i; have zt:=sumTo_le cntE_Retired_nn a i
  refine rn ik 9 [] rfl ?_
  by_cases h1 : ((i : Nat) : Int) < ((a.length : Nat) : Int)
  · obtain ⟨ba,rfl⟩:=Kd.row_pos (hst.at 0 rfl) (by omega)
    refine r1_ ik 10 [1] rfl (decide_eq_true h1) (vl (ix i rfl rfl rfl rfl rfl rfl (by omega)) rfl ?_)
    refine foc i (by rw [List.length_append,mkL_len,List.length_take,List.length_drop]; omega) fun y2 ci_ o3 s4 o5 s6 w_ m7 r8 us4 us6=>?_
    obtain ⟨A9,c10,rfl⟩:=kRetiredO_sh r8
    refine f1 (gsp (da:=(Kd.via Kd.i64 Retired.id)) rfl rfl (fun o11 o12 s13 s14 us13 us14=>?_))
    refine gv (f1 (gv ?_))
    have zs:=sumTo_step (f:=cntE_Retired) (mk_raw m7); have zl:=sumTo_le cntE_Retired_nn a (i + 1); have z0:=sumTo_nn cntE_Retired_nn a i; have zc : cntE_Retired y2 = 0 + 1 + (y2.watch.length : Int):=rfl
    refine vl (fa rfl rfl rfl) rfl (f2 (sth (off:=0) rfl rfl pa1 rfl rfl rfl rfl rfl (ci':=[.int .i64 v,.slice A9 y2.watch.length c10]) rfl (rn ik 5 [] rfl (vl (ra (c:=v + 1) rfl rfl rfl rfl (by omega) (by omega)) rfl (rn ik 6 [] rfl (vl (ix i rfl rfl rfl rfl rfl rfl (by omega)) rfl (vl (fa rfl rfl rfl) rfl (vl (ldh (u:=.slice A9 y2.watch.length c10) 0 (off:=1) rfl rfl rfl rfl pa1 rfl rfl rfl) rfl (m_ rfl rfl (f1 (cto (dk:=(Kd.row 2 Kd.i64)) (cs:=[.slice A9 y2.watch.length c10]) (x:=(mkL mI cI (v + 1) y2.watch)) (v:=.int .i64 (v + 1 + ((y2.watch.length : Nat) : Int))) (S:=(s14)) (by kernel_rfl) rfl rfl rfl (snt 0 rfl) w.heap.size (fun w_ hs_=>(hs_.mod 3 rfl).size) (fun w_ hs_=>laws_markInt64S w_ _ ((hs_.pk [0] rfl).nl) (by omega) (by omega)) (fun o15 s16 t17=>?_))))))))))))
    refine rn ik 6 [] rfl (vl (ra (c:=((i + 1 : Nat) : Int)) rfl rfl rfl (by omega) (by omega) (by omega)) rfl (rn ik 2 [] rfl (gs Kd.i64 [.int .i64 v] ((mkE_Retired v y2).id) (fun _=>⟨rfl,rfl,rfl⟩) (gj (da:=(Kd.via Kd.i64 Retired.id)) (db:=(Kd.via (Kd.row 2 Kd.i64) Retired.watch)) (x:=(mkE_Retired v y2)) rfl (f1 (unf (fun o18 s19 t20=>?_)))))))
    refine gr (mkL mkE_Retired cntE_Retired k (a.take (i + 1)) ++ a.drop (i + 1)) (mk_step (mk_raw m7) (by rw [← hv])) ?_
    exact lpe (s:=(i,v,o_,s_)) (i + 1,(v + 1 + ((y2.watch.length : Nat) : Int)),o18,s19) [0,1] ⟨by omega,by omega,by grind⟩ (by show a.length - (i + 1) < a.length - i; omega) ⟨rfl,rfl,rfl,trivial⟩ rfl
  · exact r1_ ik 13 [0] rfl (decide_eq_false h1) (gr (mkL mkE_Retired cntE_Retired k a) (mk_end (by omega)) (ret1 rfl rfl (fun w_ hs_=>turno hs_ 0 rfl (by exact vi (by have z:=sumTo_end (f:=cntE_Retired) (l:=a) (k:=i) (by omega); omega)) (by grind))))
theorem laws_markArena (w : World) (k : Int) {a : Arena} (hst : St (nul w) w [dat kArenaO [.int .i64 a.dims,.slice Aa1 a.nodes.length ca1,.slice Aa2 a.free.length ca2,.slice Aa3 a.retired.length ca3] a oa_ sa_]) (hk0 : 0 ≤ k) (hk1 : k + (0 + (a.nodes.map cntE_Node).sum + (a.free.length : Int) + (a.retired.map cntE_Retired).sum) ≤ 1152921504606846976) : Calls Tryz.prog 126 #[.agg #[.int .i64 a.dims,.slice Aa1 a.nodes.length ca1,.slice Aa2 a.free.length ca2,.slice Aa3 a.retired.length ca3],.int .i64 k] w (TurnO kArenaO [.int .i64 a.dims,.slice Aa1 a.nodes.length ca1,.slice Aa2 a.free.length ca2,.slice Aa3 a.retired.length ca3] (.int .i64 (k + (a.nodes.map cntE_Node).sum + (a.free.length : Int) + (a.retired.map cntE_Retired).sum)) w oa_ (mkV_Arena k a) (sa_)):=by
  have zn0:=sum_nn cntE_Node_nn a.nodes; have zn1:=sum_nn cntE_Retired_nn a.retired
  refine fnc (X:=X3 18 (nul w)) (l:=[(0,.agg #[.int .i64 a.dims,.slice Aa1 a.nodes.length ca1,.slice Aa2 a.free.length ca2,.slice Aa3 a.retired.length ca3]),(1,.int .i64 k)]) Tryz.func126 rfl rfl rfl ⟨rfl,rfl,trivial⟩ (⟨hst.fr oa_ (by simp [owns,dat,ptr]),trivial⟩ : _ ∧ True).1 ?_
  refine f1 (gsp (da:=(Kd.via Kd.i64 Arena.dims)) rfl rfl (fun o1 o2 s3 s4 us3 us4=>?_))
  refine gv (f1 (gsp (da:=(Kd.via (Kd.row 52 kNodeO) Arena.nodes)) rfl rfl (fun o5 o6 s7 s8 us7 us8=>?_)))
  refine gv (f1 (gsp (da:=(Kd.via (Kd.row 2 Kd.i64) Arena.free)) rfl rfl (fun o9 o10 s11 s12 us11 us12=>?_)))
  refine gv (f1 (gv ?_))
  refine sq (rg (bx rfl rfl rfl rfl ?_))
  intro b13
  refine rn ik 8 [0,0] rfl (f3 (cto (dk:=(Kd.row 52 kNodeO)) (cs:=[.slice Aa1 a.nodes.length ca1]) (x:=(mkL mkE_Node cntE_Node k a.nodes)) (v:=.int .i64 (k + (a.nodes.map cntE_Node).sum)) (S:=(s7)) (by kernel_rfl) rfl rfl rfl (snt 0 rfl) w.heap.size (fun w_ hs_=>(hs_.mod 5 rfl).size) (fun w_ hs_=>laws_markNodeS w_ _ ((hs_.pk [0] rfl).nl) (by omega) (by omega)) (fun o14 s15 t16=>?_)))
  refine rn ik 8 [1,0] rfl (f3 (cto (dk:=(Kd.row 2 Kd.i64)) (cs:=[.slice Aa2 a.free.length ca2]) (x:=(mkL mI cI (k + (a.nodes.map cntE_Node).sum) a.free)) (v:=.int .i64 ((k + (a.nodes.map cntE_Node).sum) + ((a.free.length : Nat) : Int))) (S:=(s11)) (by kernel_rfl) rfl rfl rfl (snt 0 rfl) w.heap.size (fun w_ hs_=>(hs_.mod 5 rfl).size) (fun w_ hs_=>laws_markInt64S w_ _ ((hs_.pk [0] rfl).nl) (by omega) (by omega)) (fun o17 s18 t19=>?_)))
  refine rn ik 8 [2,0] rfl (f3 (cto (dk:=(Kd.row 133 kRetiredO)) (cs:=[.slice Aa3 a.retired.length ca3]) (x:=(mkL mkE_Retired cntE_Retired ((k + (a.nodes.map cntE_Node).sum) + ((a.free.length : Nat) : Int)) a.retired)) (v:=.int .i64 (((k + (a.nodes.map cntE_Node).sum) + ((a.free.length : Nat) : Int)) + (a.retired.map cntE_Retired).sum)) (S:=(s12)) (by kernel_rfl) rfl rfl rfl (snt 0 rfl) w.heap.size (fun w_ hs_=>(hs_.mod 5 rfl).size) (fun w_ hs_=>laws_markRetiredS w_ _ ((hs_.pk [0] rfl).nl) (by omega) (by omega)) (fun o20 s21 t22=>?_)))
  exact rn ik 10 [] rfl (f1 (gj (da:=(Kd.via (Kd.row 2 Kd.i64) Arena.free)) (db:=(Kd.via (Kd.row 133 kRetiredO) Arena.retired)) (x:=(mkV_Arena k a)) rfl (f1 (gj (da:=(Kd.via (Kd.row 52 kNodeO) Arena.nodes)) (db:=((Kd.via (Kd.row 2 Kd.i64) Arena.free).cat (Kd.via (Kd.row 133 kRetiredO) Arena.retired))) (x:=(mkV_Arena k a)) rfl (gs Kd.i64 [.int .i64 a.dims] ((mkV_Arena k a).dims) (fun _=>⟨rfl,rfl,rfl⟩) (gj (da:=(Kd.via Kd.i64 Arena.dims)) (db:=((Kd.via (Kd.row 52 kNodeO) Arena.nodes).cat ((Kd.via (Kd.row 2 Kd.i64) Arena.free).cat (Kd.via (Kd.row 133 kRetiredO) Arena.retired)))) (x:=(mkV_Arena k a)) rfl (ret1 rfl rfl (fun w_ hs_=>turno hs_ 2 rfl (by exact vi (by omega)) (see_app see_nil (see_app (by grind) (see_app (by grind) (by grind))))))))))))
end Go.Proofs.YtjdkfibeogiekaaGreat.Sx
