/- What functions of the program answer, each at every input that its row names; walked through their code. -/
import Derived.Test.YtdokhlakakflmaaGreatSy2
namespace Go.Proofs.YtdokhlakakflmaaGreat.Sx
open Go Go.RowKit Go.Proofs
set_option linter.unusedVariables false
set_option linter.unusedSimpArgs false
def tab3 : Tab := { size := [(2, 1, false), (23, 1, false), (28, 2, true), (30, 5, true), (31, 1, false), (32, 1, false), (37, 2, true), (39, 5, true), (40, 1, false), (41, 1, false), (43, 7, true), (47, 1, false), (48, 1, false), (102, 3, true), (105, 1, false), (107, 4, true), (110, 2, true), (115, 3, true), (119, 3, true), (132, 4, true), (137, 3, true)], off := [((30, 0), 0), ((30, 1), 1), ((30, 2), 3), ((30, 3), 4), ((34, 0), 0), ((34, 1), 5), ((34, 2), 6), ((37, 0), 0), ((37, 1), 1), ((39, 0), 0), ((39, 1), 1), ((39, 2), 3), ((39, 3), 4), ((43, 0), 0), ((43, 1), 5), ((43, 2), 6), ((45, 0), 0), ((45, 1), 1), ((50, 1), 1), ((50, 2), 2), ((50, 3), 3), ((102, 0), 0), ((102, 1), 1), ((107, 0), 0), ((107, 1), 1), ((107, 2), 2), ((107, 3), 3), ((110, 0), 0), ((110, 1), 1), ((115, 0), 0), ((115, 1), 1), ((115, 2), 2), ((119, 0), 0), ((119, 1), 1), ((132, 0), 0), ((132, 1), 2), ((132, 2), 3), ((137, 0), 0), ((137, 1), 1), ((137, 2), 2)], elem := [(23, 2), (31, 137), (32, 102), (40, 115), (41, 119), (47, 107), (48, 110), (105, 132)] }
theorem tab_ok3 : tab3.check Tryz.prog = true:=by kernel_rfl
noncomputable abbrev X3 (N : Nat) (w : World) : Cx := ⟨Tryz.prog, tab3, tab_ok3, wide, N, w, none, []⟩
theorem zero39 : (Tryz.prog.info? 39).bind (·.zero) = some (.agg #[.int .i64 0,.slice none 0 0,.slice none 0 0,.slice none 0 0,.int .i64 0]):=by kernel_rfl
theorem zero43 : (Tryz.prog.info? 43).bind (·.zero) = some (.agg #[.int .i64 0,.slice none 0 0,.slice none 0 0,.slice none 0 0,.int .i64 0,.slice none 0 0,.slice none 0 0]):=by kernel_rfl
theorem zero115 : (Tryz.prog.info? 115).bind (·.zero) = some (.agg #[.int .i64 0,.int .i64 0,.int .i64 0]):=by kernel_rfl
theorem zero119 : (Tryz.prog.info? 119).bind (·.zero) = some (.agg #[.int .i64 0,.slice none 0 0,.slice none 0 0]):=by kernel_rfl
theorem info115 : (Tryz.prog.info? 115).map (fun i=>(i.zero,i.size,i.bytes)) = some (some (.agg #[.int .i64 0,.int .i64 0,.int .i64 0]),3,24):=by kernel_rfl
theorem info119 : (Tryz.prog.info? 119).map (fun i=>(i.zero,i.size,i.bytes)) = some (some (.agg #[.int .i64 0,.slice none 0 0,.slice none 0 0]),3,56):=by kernel_rfl

structure Query where
  kind : Int
  rect : Rect
  point : List Int
  k : Int
  deriving DecidableEq
def kQueryS : Kd Query := ((Kd.i64.via Query.kind).cat ((kRectS.via Query.rect).cat (((Kd.sl Kd.i64).via Query.point).cat (Kd.i64.via Query.k))))
theorem kQueryS_sh {w : World} {cs : List Value} {x : Query} {o s : List Nat} (h : kQueryS.Rel w cs x o s) : ∃ (A1 : Option Addr) (c1 : Nat) (A2 : Option Addr) (c2 : Nat) (A3 : Option Addr) (c3 : Nat),cs = [.int .i64 x.kind,.slice A1 x.rect.low.length c1,.slice A2 x.rect.high.length c2,.slice A3 x.point.length c3,.int .i64 x.k]:=by
  obtain ⟨c10,c20,o10,o20,s10,s20,rfl,rfl,rfl,h0,k0⟩:=h
  obtain ⟨rfl,-,-⟩:=h0
  obtain ⟨c11,c21,o11,o21,s11,s21,rfl,rfl,rfl,h1,k1⟩:=k0
  obtain ⟨_,_,_,_,rfl⟩:=kRectS_sh h1
  obtain ⟨c12,c22,o12,o22,s12,s22,rfl,rfl,rfl,h2,k2⟩:=k1
  obtain ⟨-,A2_,c2_,rfl,-⟩:=h2
  obtain ⟨rfl,-,-⟩:=k2
  exact ⟨_,_,_,_,_,_,rfl⟩
theorem kQueryS_p1_2 : Kd.Sub kQueryS 1 kRectS (fun x=>x.rect):=(Kd.Sub.right (Kd.Sub.left (Kd.Sub.rfl.via Query.rect) _ (by decide)) _)
theorem kQueryS_p1_1 : Kd.Sub kQueryS 1 (Kd.sl Kd.i64) (fun x=>x.rect.low):=(Kd.Sub.right (Kd.Sub.left (kRectS_p0_1.via Query.rect) _ (by decide)) _)
theorem kQueryS_p2_1 : Kd.Sub kQueryS 2 (Kd.sl Kd.i64) (fun x=>x.rect.high):=(Kd.Sub.right (Kd.Sub.left (kRectS_p1_1.via Query.rect) _ (by decide)) _)
theorem kQueryS_p3_1 : Kd.Sub kQueryS 3 (Kd.sl Kd.i64) (fun x=>x.point):=(Kd.Sub.right (Kd.Sub.right (Kd.Sub.left (Kd.Sub.rfl.via Query.point) _ (by decide)) _) _)
def kQueryO : Kd Query := ((Kd.i64.via Query.kind).cat ((kRectO.via Query.rect).cat (((Kd.row 2 Kd.i64).via Query.point).cat (Kd.i64.via Query.k))))
theorem kQueryO_sh {w : World} {cs : List Value} {x : Query} {o s : List Nat} (h : kQueryO.Rel w cs x o s) : ∃ (A1 : Option Addr) (c1 : Nat) (A2 : Option Addr) (c2 : Nat) (A3 : Option Addr) (c3 : Nat),cs = [.int .i64 x.kind,.slice A1 x.rect.low.length c1,.slice A2 x.rect.high.length c2,.slice A3 x.point.length c3,.int .i64 x.k]:=by
  obtain ⟨c10,c20,o10,o20,s10,s20,rfl,rfl,rfl,h0,k0⟩:=h
  obtain ⟨rfl,-,-⟩:=h0
  obtain ⟨c11,c21,o11,o21,s11,s21,rfl,rfl,rfl,h1,k1⟩:=k0
  obtain ⟨_,_,_,_,rfl⟩:=kRectO_sh h1
  obtain ⟨c12,c22,o12,o22,s12,s22,rfl,rfl,rfl,h2,k2⟩:=k1
  obtain ⟨A2_,c2_,rfl⟩:=Kd.row_sh h2
  obtain ⟨rfl,-,-⟩:=k2
  exact ⟨_,_,_,_,_,_,rfl⟩
theorem kQueryO_seal : Kd.Seals kQueryO kQueryS:=(Kd.Seals.cat (Kd.Seals.via Kd.Seals.i64 _) (Kd.Seals.cat (Kd.Seals.via kRectO_seal _) (Kd.Seals.cat (Kd.Seals.via (Kd.Seals.row Kd.Seals.i64 _) _) (Kd.Seals.via Kd.Seals.i64 _))))
theorem Query_eq (a b : Query) : decide (a = b) = (decide (a.kind = b.kind) && decide (a.rect = b.rect) && decide (a.point = b.point) && decide (a.k = b.k)):=by
  cases a; cases b; rw [Bool.eq_iff_iff]; simp [and_assoc]
def rectEmpty (r : Rect) : Bool := decide ((r.low.length : Int) = 0) && decide ((r.high.length : Int) = 0)
theorem rectEmpty_f {r : Rect} (h : (0 : Int) < ((r.low.length : Nat) : Int) + ((r.high.length : Nat) : Int)) : rectEmpty r = false:=by
  simp only [rectEmpty,Bool.and_eq_false_iff,decide_eq_false_iff_not]; omega
theorem rectEmpty_t {r : Rect} (h : ¬ (0 : Int) < ((r.low.length : Nat) : Int) + ((r.high.length : Nat) : Int)) : rectEmpty r = true:=by
  simp only [rectEmpty,Bool.and_eq_true,decide_eq_true_eq]; omega
theorem rectEmpty_1 {r : Rect} (h : ¬ ((r.low.length : Nat) : Int) = (0 : Int)) : rectEmpty r = false:=by
  simp only [rectEmpty,Bool.and_eq_false_iff,decide_eq_false_iff_not]; exact .inl h
theorem rectEmpty_2 {r : Rect} (h : ¬ ((r.high.length : Nat) : Int) = (0 : Int)) : rectEmpty r = false:=by
  simp only [rectEmpty,Bool.and_eq_false_iff,decide_eq_false_iff_not]; exact .inr h
theorem rectEmpty_3 {r : Rect} (h1 : ((r.low.length : Nat) : Int) = (0 : Int)) (h2 : ((r.high.length : Nat) : Int) = (0 : Int)) : rectEmpty r = true:=by
  simp only [rectEmpty,Bool.and_eq_true,decide_eq_true_eq]; exact ⟨h1,h2⟩
def hasRect (k : Int) : Bool := k == 1 || k == 2
def queryFault (q : Query) (dims : Int) : Int :=
  if isDims dims = true then
    if within q.kind 1 4 = true then
      if hasRect q.kind = true ∧ (0 : Int) < (q.point.length : Int) then 1 else
      if hasRect q.kind = false ∧ rectEmpty q.rect = false then 1 else
      if ¬ q.kind = 4 ∧ ¬ q.k = 0 then 1 else
      if hasRect q.kind = true then rectFault q.rect dims else
      if pointFault q.point dims = 0 then if q.kind = 4 ∧ within q.k 1 20 = false then 3 else 0 else pointFault q.point dims
    else 1
  else 3
set_option maxRecDepth 20000 in
set_option maxHeartbeats 2000000 in
theorem impl_hasRect (w : World) (kind : Int)  : Calls Tryz.prog 145 #[.int .i64 kind] w (fun e_ w2_=>e_ = .returned (.bool (hasRect kind)) ∧ Below w.heap.size w w2_):=by
  refine fnc (X:=X3 9 w) (l:=[(0,.int .i64 kind)]) Tryz.func145 rfl rfl rfl ⟨rfl,trivial⟩ (s0n w).1 ?_
  refine sq (rg (a_ rfl rfl (en (nx (sq (rg (m_ rfl rfl (vl (cm rfl rfl rfl rfl) rfl (m_ rfl rfl ?_)))))))))
  by_cases h1 : kind = (1 : Int)
  · refine sg rfl rfl (beq_iff_eq.2 h1) (sg rfl rfl (beq_iff_eq.2 h1) (vl (pk (b:=true) rfl rfl (beq_iff_eq.2 h1) rfl) rfl (a_ rfl rfl (en (nx (rt (ret1 rfl rfl (fun w_ hs_=>⟨?_,hs_.below⟩))))))))
    simp [hasRect,h1]
  · refine vg (mv rfl rfl) rfl rfl (beq_eq_false_iff_ne.2 h1) (vg (cm rfl rfl rfl rfl) rfl rfl (beq_eq_false_iff_ne.2 h1) (vl (pk (b:=false) rfl rfl (beq_eq_false_iff_ne.2 h1) rfl) rfl (a_ rfl rfl (en (nx (rt (ret1 rfl rfl (fun w_ hs_=>⟨?_,hs_.below⟩))))))))
    simp [hasRect,h1]
set_option maxRecDepth 20000 in
set_option maxHeartbeats 2000000 in
theorem impl_QueryFault (w : World) (dims : Int) {Aq1 : Option Addr} {cq1 : Nat} {Aq2 : Option Addr} {cq2 : Nat} {Aq3 : Option Addr} {cq3 : Nat} {q : Query} {sq_ : List Nat} (hq : kQueryS.Rel w [.int .i64 q.kind,.slice Aq1 q.rect.low.length cq1,.slice Aq2 q.rect.high.length cq2,.slice Aq3 q.point.length cq3,.int .i64 q.k] q [] sq_)  : Calls Tryz.prog 85 #[.agg #[.int .i64 q.kind,.slice Aq1 q.rect.low.length cq1,.slice Aq2 q.rect.high.length cq2,.slice Aq3 q.point.length cq3,.int .i64 q.k],.int .i64 dims] w (fun e_ w2_=>e_ = .returned (.int .i64 (queryFault q dims)) ∧ Below w.heap.size w w2_):=by
  refine fnc (X:=X3 77 w) (l:=[(0,.agg #[.int .i64 q.kind,.slice Aq1 q.rect.low.length cq1,.slice Aq2 q.rect.high.length cq2,.slice Aq3 q.point.length cq3,.int .i64 q.k]),(1,.int .i64 dims)]) Tryz.func85 rfl rfl rfl ⟨rfl,rfl,trivial⟩ (s0d hq (s0n w)).1 ?_
  refine sq (rg (bx rfl rfl rfl rfl ?_))
  intro b1
  refine a_ rfl rfl (en (nx (sq (rg (vl (fa rfl rfl rfl) rfl (vl (fa rfl rfl rfl) rfl (vl (ldb (u:=.slice Aq1 q.rect.low.length cq1) 0 rfl rfl rfl rfl rfl rfl rfl) rfl (vl (ln rfl rfl rfl) rfl (vl (cm rfl rfl rfl rfl) rfl (m_ rfl rfl ?_))))))))))
  by_cases h2 : ((q.rect.low.length : Nat) : Int) = (0 : Int)
  · refine vg (fa rfl rfl rfl) rfl rfl (beq_iff_eq.2 h2) (vg (fa rfl rfl rfl) rfl rfl (beq_iff_eq.2 h2) (vg (ldb (u:=.slice Aq2 q.rect.high.length cq2) 0 rfl rfl rfl rfl rfl rfl rfl) rfl rfl (beq_iff_eq.2 h2) (vg (ln rfl rfl rfl) rfl rfl (beq_iff_eq.2 h2) (vg (cm rfl rfl rfl rfl) rfl rfl (beq_iff_eq.2 h2) (vl (pk (b:=true) rfl rfl (beq_iff_eq.2 h2) rfl) rfl (a_ rfl rfl (en (nx (sq (bk (sq (rg (m_ rfl rfl (cs_ (v:=.bool (isDims dims)) (by kernel_rfl) rfl rfl rfl (fun w_ hs_=>impl_isDims w_ _) (vl (nt rfl rfl) rfl (a_ rfl rfl (en (nx ?_))))))))))))))))))
    by_cases h3 : isDims dims = true
    · refine cf rfl (not_f h3) (sq (sq (rg (vl (fa rfl rfl rfl) rfl (vl (ldb (u:=.int .i64 q.kind) 0 rfl rfl rfl rfl rfl rfl rfl) rfl (cs_ (v:=.bool (within q.kind 1 4)) (by kernel_rfl) rfl rfl rfl (fun w_ hs_=>impl_within w_ _ _ _) (vl (nt rfl rfl) rfl (a_ rfl rfl (en (nx ?_))))))))))
      by_cases h4 : within q.kind 1 4 = true
      · refine cf rfl (not_f h4) (sq (rg (vl (fa rfl rfl rfl) rfl (vl (ldb (u:=.int .i64 q.kind) 0 rfl rfl rfl rfl rfl rfl rfl) rfl (cs_ (v:=.bool (hasRect q.kind)) (by kernel_rfl) rfl rfl rfl (fun w_ hs_=>impl_hasRect w_ _) (m_ rfl rfl ?_))))))
        by_cases h5 : hasRect q.kind = true
        · refine vg (fa rfl rfl rfl) rfl rfl h5 (vg (ldb (u:=.slice Aq3 q.point.length cq3) 0 rfl rfl rfl rfl rfl rfl rfl) rfl rfl h5 (vg (ln rfl rfl rfl) rfl rfl h5 (vg (cm rfl rfl rfl rfl) rfl rfl h5 (vl (pk (b:=true) rfl rfl h5 rfl) rfl (a_ rfl rfl (en (nx ?_)))))))
          by_cases h6 : (0 : Int) < ((q.point.length : Nat) : Int)
          · refine ct rfl (decide_eq_true h6) (sk (nx (ct rfl (decide_eq_true h6) (sq (rg (a_ rfl rfl (en (nx (rt (xrb (xr (ret1 rfl rfl (fun w_ hs_=>⟨?_,hs_.below⟩)))))))))))))
            exact ri (by grind [queryFault])
          · refine cf rfl (decide_eq_false h6) (sq (rg (vl (fa rfl rfl rfl) rfl (vl (ldb (u:=.int .i64 q.kind) 0 rfl rfl rfl rfl rfl rfl rfl) rfl (cs_ (v:=.bool (hasRect q.kind)) (by kernel_rfl) rfl rfl rfl (fun w_ hs_=>impl_hasRect w_ _) (vl (nt rfl rfl) rfl (m_ rfl rfl (sg rfl rfl (not_f h5) (sg rfl rfl (not_f h5) (vl (pk (b:=false) rfl rfl (not_f h5) rfl) rfl (a_ rfl rfl (en (nx (cf rfl rfl (rg (vl (fa rfl rfl rfl) rfl (vl (ldb (u:=.int .i64 q.kind) 0 rfl rfl rfl rfl rfl rfl rfl) rfl (vl (cm rfl rfl rfl rfl) rfl (m_ rfl rfl ?_)))))))))))))))))))
            by_cases h7 : q.kind = (4 : Int)
            · refine sg rfl rfl (bne_eq_false_iff_eq.2 h7) (sg rfl rfl (bne_eq_false_iff_eq.2 h7) (sg rfl rfl (bne_eq_false_iff_eq.2 h7) (vl (pk (b:=false) rfl rfl (bne_eq_false_iff_eq.2 h7) rfl) rfl (a_ rfl rfl (en (nx (cf rfl rfl (sq (rg (vl (fa rfl rfl rfl) rfl (vl (ldb (u:=.int .i64 q.kind) 0 rfl rfl rfl rfl rfl rfl rfl) rfl (cs_ (v:=.bool (hasRect q.kind)) (by kernel_rfl) rfl rfl rfl (fun w_ hs_=>impl_hasRect w_ _) (a_ rfl rfl (en (nx (ct rfl h5 (sq (rg (vl (fa rfl rfl rfl) rfl (vl (ldb 0 rfl rfl rfl rfl rfl rfl rfl) rfl (m_ rfl rfl ?_)))))))))))))))))))))
              refine gd 1 kQueryS_p1_2 rfl (cs':=[.slice Aq1 q.rect.low.length cq1,.slice Aq2 q.rect.high.length cq2]) rfl fun s8 w_ rs8 us8=>?_
              refine cs_ (v:=.int .i64 (rectFault q.rect dims)) (by kernel_rfl) rfl rfl rfl (fun w_ hs_=>impl_RectFault w_ _ (hs_.at 0 rfl)) (a_ rfl rfl (en (nx (rt (xrb (xr (ret1 rfl rfl (fun w_ hs_=>⟨?_,hs_.below⟩))))))))
              exact ri (by grind [queryFault])
            · refine vg (fa rfl rfl rfl) rfl rfl (bne_iff_ne.2 h7) (vg (ldb (u:=.int .i64 q.k) 0 rfl rfl rfl rfl rfl rfl rfl) rfl rfl (bne_iff_ne.2 h7) (vg (cm rfl rfl rfl rfl) rfl rfl (bne_iff_ne.2 h7) (vl (pk (b:=true) rfl rfl (bne_iff_ne.2 h7) rfl) rfl (a_ rfl rfl (en (nx ?_))))))
              by_cases h9 : q.k = (0 : Int)
              · refine cf rfl (bne_eq_false_iff_eq.2 h9) (sq (rg (vl (fa rfl rfl rfl) rfl (vl (ldb (u:=.int .i64 q.kind) 0 rfl rfl rfl rfl rfl rfl rfl) rfl (cs_ (v:=.bool (hasRect q.kind)) (by kernel_rfl) rfl rfl rfl (fun w_ hs_=>impl_hasRect w_ _) (a_ rfl rfl (en (nx (ct rfl h5 (sq (rg (vl (fa rfl rfl rfl) rfl (vl (ldb 0 rfl rfl rfl rfl rfl rfl rfl) rfl (m_ rfl rfl ?_))))))))))))))
                refine gd 1 kQueryS_p1_2 rfl (cs':=[.slice Aq1 q.rect.low.length cq1,.slice Aq2 q.rect.high.length cq2]) rfl fun s10 w_ rs10 us10=>?_
                refine cs_ (v:=.int .i64 (rectFault q.rect dims)) (by kernel_rfl) rfl rfl rfl (fun w_ hs_=>impl_RectFault w_ _ (hs_.at 0 rfl)) (a_ rfl rfl (en (nx (rt (xrb (xr (ret1 rfl rfl (fun w_ hs_=>⟨?_,hs_.below⟩))))))))
                exact ri (by grind [queryFault])
              · refine ct rfl (bne_iff_ne.2 h9) (sq (rg (a_ rfl rfl (en (nx (rt (xrb (xr (ret1 rfl rfl (fun w_ hs_=>⟨?_,hs_.below⟩))))))))))
                exact ri (by grind [queryFault])
        · refine sg rfl rfl (Bool.eq_false_iff.2 h5) (sg rfl rfl (Bool.eq_false_iff.2 h5) (sg rfl rfl (Bool.eq_false_iff.2 h5) (sg rfl rfl (Bool.eq_false_iff.2 h5) (vl (pk (b:=false) rfl rfl (Bool.eq_false_iff.2 h5) rfl) rfl (a_ rfl rfl (en (nx (cf rfl rfl (sq (rg (vl (fa rfl rfl rfl) rfl (vl (ldb (u:=.int .i64 q.kind) 0 rfl rfl rfl rfl rfl rfl rfl) rfl (cs_ (v:=.bool (hasRect q.kind)) (by kernel_rfl) rfl rfl rfl (fun w_ hs_=>impl_hasRect w_ _) (vl (nt rfl rfl) rfl (m_ rfl rfl (vg (mv rfl rfl) rfl rfl (not_t (Bool.eq_false_iff.2 h5)) (vg (nt rfl rfl) rfl rfl (not_t (Bool.eq_false_iff.2 h5)) (vl (pk (b:=true) rfl rfl (not_t (Bool.eq_false_iff.2 h5)) rfl) rfl (a_ rfl rfl (en (nx ?_)))))))))))))))))))))
          by_cases h11 : ((q.rect.high.length : Nat) : Int) = (0 : Int)
          · have gh11:=rectEmpty_3 (r:=q.rect) h2 h11
            refine cf rfl (not_f (beq_iff_eq.2 h11)) (rg (vl (fa rfl rfl rfl) rfl (vl (ldb (u:=.int .i64 q.kind) 0 rfl rfl rfl rfl rfl rfl rfl) rfl (vl (cm rfl rfl rfl rfl) rfl (m_ rfl rfl ?_)))))
            by_cases h12 : q.kind = (4 : Int)
            · refine sg rfl rfl (bne_eq_false_iff_eq.2 h12) (sg rfl rfl (bne_eq_false_iff_eq.2 h12) (sg rfl rfl (bne_eq_false_iff_eq.2 h12) (vl (pk (b:=false) rfl rfl (bne_eq_false_iff_eq.2 h12) rfl) rfl (a_ rfl rfl (en (nx (cf rfl rfl (sq (rg (vl (fa rfl rfl rfl) rfl (vl (ldb (u:=.int .i64 q.kind) 0 rfl rfl rfl rfl rfl rfl rfl) rfl (cs_ (v:=.bool (hasRect q.kind)) (by kernel_rfl) rfl rfl rfl (fun w_ hs_=>impl_hasRect w_ _) (a_ rfl rfl (en (nx (cf rfl (Bool.eq_false_iff.2 h5) (sk (xn (nx (sq (sq (rg (vl (fa rfl rfl rfl) rfl (vl (ldb (u:=.slice Aq3 q.point.length cq3) 0 rfl rfl rfl rfl rfl rfl rfl) rfl (m_ rfl rfl ?_)))))))))))))))))))))))))
              refine gd 1 kQueryS_p3_1 rfl (cs':=[.slice Aq3 q.point.length cq3]) rfl fun s13 w_ rs13 us13=>?_
              have Ls13:=Kd.sl_len rs13; have Cs13:=Kd.sl_cap rs13
              refine cs_ (v:=.int .i64 (pointFault q.point dims)) (by kernel_rfl) rfl rfl rfl (fun w_ hs_=>impl_PointFault w_ _ (hs_.at 0 rfl)) (a_ rfl rfl (en (nx (sq (rg (m_ rfl rfl (vl (cm rfl rfl rfl rfl) rfl (en (nx ?_)))))))))
              by_cases h14 : (pointFault q.point dims) = (0 : Int)
              · refine cf rfl (bne_eq_false_iff_eq.2 h14) (sk (nx (sq (sq (rg (vl (fa rfl rfl rfl) rfl (vl (ldb (u:=.int .i64 q.kind) 1 rfl rfl rfl rfl rfl rfl rfl) rfl (vl (cm rfl rfl rfl rfl) rfl (m_ rfl rfl (vg (fa rfl rfl rfl) rfl rfl (beq_iff_eq.2 h12) (vg (ldb (u:=.int .i64 q.k) 1 rfl rfl rfl rfl rfl rfl rfl) rfl rfl (beq_iff_eq.2 h12) (gw rfl rfl (beq_iff_eq.2 h12) (cs_ (v:=.bool (within q.k 1 20)) (by kernel_rfl) rfl rfl rfl (fun w_ hs_=>impl_within w_ _ _ _) (vg (nt rfl rfl) rfl rfl (beq_iff_eq.2 h12) (vl (pk (b:=true) rfl rfl (beq_iff_eq.2 h12) rfl) rfl (en (nx ?_)))))))))))))))))
                by_cases h15 : within q.k 1 20 = true
                · refine cf rfl (not_f h15) (sk (nx (sq (rg (a_ rfl rfl (en (nx (rt (ret1 rfl rfl (fun w_ hs_=>⟨?_,hs_.below⟩))))))))))
                  exact ri (by grind [queryFault])
                · refine ct rfl (not_t (Bool.eq_false_iff.2 h15)) (sq (rg (a_ rfl rfl (en (nx (rt (xr (ret1 rfl rfl (fun w_ hs_=>⟨?_,hs_.below⟩)))))))))
                  exact ri (by grind [queryFault])
              · refine ct rfl (bne_iff_ne.2 h14) (sq (rg (m_ rfl rfl (a_ rfl rfl (en (nx (rt (xr (ret1 rfl rfl (fun w_ hs_=>⟨?_,hs_.below⟩))))))))))
                exact ri (by grind [queryFault])
            · refine vg (fa rfl rfl rfl) rfl rfl (bne_iff_ne.2 h12) (vg (ldb (u:=.int .i64 q.k) 0 rfl rfl rfl rfl rfl rfl rfl) rfl rfl (bne_iff_ne.2 h12) (vg (cm rfl rfl rfl rfl) rfl rfl (bne_iff_ne.2 h12) (vl (pk (b:=true) rfl rfl (bne_iff_ne.2 h12) rfl) rfl (a_ rfl rfl (en (nx ?_))))))
              by_cases h16 : q.k = (0 : Int)
              · refine cf rfl (bne_eq_false_iff_eq.2 h16) (sq (rg (vl (fa rfl rfl rfl) rfl (vl (ldb (u:=.int .i64 q.kind) 0 rfl rfl rfl rfl rfl rfl rfl) rfl (cs_ (v:=.bool (hasRect q.kind)) (by kernel_rfl) rfl rfl rfl (fun w_ hs_=>impl_hasRect w_ _) (a_ rfl rfl (en (nx (cf rfl (Bool.eq_false_iff.2 h5) (sk (xn (nx (sq (sq (rg (vl (fa rfl rfl rfl) rfl (vl (ldb (u:=.slice Aq3 q.point.length cq3) 0 rfl rfl rfl rfl rfl rfl rfl) rfl (m_ rfl rfl ?_))))))))))))))))))
                refine gd 1 kQueryS_p3_1 rfl (cs':=[.slice Aq3 q.point.length cq3]) rfl fun s17 w_ rs17 us17=>?_
                have Ls17:=Kd.sl_len rs17; have Cs17:=Kd.sl_cap rs17
                refine cs_ (v:=.int .i64 (pointFault q.point dims)) (by kernel_rfl) rfl rfl rfl (fun w_ hs_=>impl_PointFault w_ _ (hs_.at 0 rfl)) (a_ rfl rfl (en (nx (sq (rg (m_ rfl rfl (vl (cm rfl rfl rfl rfl) rfl (en (nx ?_)))))))))
                by_cases h18 : (pointFault q.point dims) = (0 : Int)
                · refine cf rfl (bne_eq_false_iff_eq.2 h18) (sk (nx (sq (sq (rg (vl (fa rfl rfl rfl) rfl (vl (ldb (u:=.int .i64 q.kind) 1 rfl rfl rfl rfl rfl rfl rfl) rfl (vl (cm rfl rfl rfl rfl) rfl (m_ rfl rfl (sg rfl rfl (beq_eq_false_iff_ne.2 h12) (sg rfl rfl (beq_eq_false_iff_ne.2 h12) (sg rfl rfl (beq_eq_false_iff_ne.2 h12) (sg rfl rfl (beq_eq_false_iff_ne.2 h12) (vl (pk (b:=false) rfl rfl (beq_eq_false_iff_ne.2 h12) rfl) rfl (en (nx (cf rfl rfl (sk (nx (sq (rg (a_ rfl rfl (en (nx (rt (ret1 rfl rfl (fun w_ hs_=>⟨?_,hs_.below⟩)))))))))))))))))))))))))))
                  exact ri (by grind [queryFault])
                · refine ct rfl (bne_iff_ne.2 h18) (sq (rg (m_ rfl rfl (a_ rfl rfl (en (nx (rt (xr (ret1 rfl rfl (fun w_ hs_=>⟨?_,hs_.below⟩))))))))))
                  exact ri (by grind [queryFault])
              · refine ct rfl (bne_iff_ne.2 h16) (sq (rg (a_ rfl rfl (en (nx (rt (xrb (xr (ret1 rfl rfl (fun w_ hs_=>⟨?_,hs_.below⟩))))))))))
                exact ri (by grind [queryFault])
          · have gh11:=rectEmpty_2 (r:=q.rect) h11
            refine ct rfl (not_t (beq_eq_false_iff_ne.2 h11)) (sk (nx (ct rfl (not_t (beq_eq_false_iff_ne.2 h11)) (sq (rg (a_ rfl rfl (en (nx (rt (xrb (xr (ret1 rfl rfl (fun w_ hs_=>⟨?_,hs_.below⟩)))))))))))))
            exact ri (by grind [queryFault])
      · refine ct rfl (not_t (Bool.eq_false_iff.2 h4)) (sk (nx (ct rfl (not_t (Bool.eq_false_iff.2 h4)) (sq (rg (a_ rfl rfl (en (nx (rt (xrb (xr (ret1 rfl rfl (fun w_ hs_=>⟨?_,hs_.below⟩)))))))))))))
        exact ri (by grind [queryFault])
    · refine ct rfl (not_t (Bool.eq_false_iff.2 h3)) (sq (rg (a_ rfl rfl (en (nx (rt (xrb (xr (ret1 rfl rfl (fun w_ hs_=>⟨?_,hs_.below⟩))))))))))
      exact ri (by grind [queryFault])
  · have gh2:=rectEmpty_1 (r:=q.rect) h2
    refine sg rfl rfl (beq_eq_false_iff_ne.2 h2) (sg rfl rfl (beq_eq_false_iff_ne.2 h2) (sg rfl rfl (beq_eq_false_iff_ne.2 h2) (sg rfl rfl (beq_eq_false_iff_ne.2 h2) (sg rfl rfl (beq_eq_false_iff_ne.2 h2) (vl (pk (b:=false) rfl rfl (beq_eq_false_iff_ne.2 h2) rfl) rfl (a_ rfl rfl (en (nx (sq (bk (sq (rg (m_ rfl rfl (cs_ (v:=.bool (isDims dims)) (by kernel_rfl) rfl rfl rfl (fun w_ hs_=>impl_isDims w_ _) (vl (nt rfl rfl) rfl (a_ rfl rfl (en (nx ?_))))))))))))))))))
    by_cases h19 : isDims dims = true
    · refine cf rfl (not_f h19) (sq (sq (rg (vl (fa rfl rfl rfl) rfl (vl (ldb (u:=.int .i64 q.kind) 0 rfl rfl rfl rfl rfl rfl rfl) rfl (cs_ (v:=.bool (within q.kind 1 4)) (by kernel_rfl) rfl rfl rfl (fun w_ hs_=>impl_within w_ _ _ _) (vl (nt rfl rfl) rfl (a_ rfl rfl (en (nx ?_))))))))))
      by_cases h20 : within q.kind 1 4 = true
      · refine cf rfl (not_f h20) (sq (rg (vl (fa rfl rfl rfl) rfl (vl (ldb (u:=.int .i64 q.kind) 0 rfl rfl rfl rfl rfl rfl rfl) rfl (cs_ (v:=.bool (hasRect q.kind)) (by kernel_rfl) rfl rfl rfl (fun w_ hs_=>impl_hasRect w_ _) (m_ rfl rfl ?_))))))
        by_cases h21 : hasRect q.kind = true
        · refine vg (fa rfl rfl rfl) rfl rfl h21 (vg (ldb (u:=.slice Aq3 q.point.length cq3) 0 rfl rfl rfl rfl rfl rfl rfl) rfl rfl h21 (vg (ln rfl rfl rfl) rfl rfl h21 (vg (cm rfl rfl rfl rfl) rfl rfl h21 (vl (pk (b:=true) rfl rfl h21 rfl) rfl (a_ rfl rfl (en (nx ?_)))))))
          by_cases h22 : (0 : Int) < ((q.point.length : Nat) : Int)
          · refine ct rfl (decide_eq_true h22) (sk (nx (ct rfl (decide_eq_true h22) (sq (rg (a_ rfl rfl (en (nx (rt (xrb (xr (ret1 rfl rfl (fun w_ hs_=>⟨?_,hs_.below⟩)))))))))))))
            exact ri (by grind [queryFault])
          · refine cf rfl (decide_eq_false h22) (sq (rg (vl (fa rfl rfl rfl) rfl (vl (ldb (u:=.int .i64 q.kind) 0 rfl rfl rfl rfl rfl rfl rfl) rfl (cs_ (v:=.bool (hasRect q.kind)) (by kernel_rfl) rfl rfl rfl (fun w_ hs_=>impl_hasRect w_ _) (vl (nt rfl rfl) rfl (m_ rfl rfl (sg rfl rfl (not_f h21) (sg rfl rfl (not_f h21) (vl (pk (b:=false) rfl rfl (not_f h21) rfl) rfl (a_ rfl rfl (en (nx (cf rfl rfl (rg (vl (fa rfl rfl rfl) rfl (vl (ldb (u:=.int .i64 q.kind) 0 rfl rfl rfl rfl rfl rfl rfl) rfl (vl (cm rfl rfl rfl rfl) rfl (m_ rfl rfl ?_)))))))))))))))))))
            by_cases h23 : q.kind = (4 : Int)
            · refine sg rfl rfl (bne_eq_false_iff_eq.2 h23) (sg rfl rfl (bne_eq_false_iff_eq.2 h23) (sg rfl rfl (bne_eq_false_iff_eq.2 h23) (vl (pk (b:=false) rfl rfl (bne_eq_false_iff_eq.2 h23) rfl) rfl (a_ rfl rfl (en (nx (cf rfl rfl (sq (rg (vl (fa rfl rfl rfl) rfl (vl (ldb (u:=.int .i64 q.kind) 0 rfl rfl rfl rfl rfl rfl rfl) rfl (cs_ (v:=.bool (hasRect q.kind)) (by kernel_rfl) rfl rfl rfl (fun w_ hs_=>impl_hasRect w_ _) (a_ rfl rfl (en (nx (ct rfl h21 (sq (rg (vl (fa rfl rfl rfl) rfl (vl (ldb 0 rfl rfl rfl rfl rfl rfl rfl) rfl (m_ rfl rfl ?_)))))))))))))))))))))
              refine gd 1 kQueryS_p1_2 rfl (cs':=[.slice Aq1 q.rect.low.length cq1,.slice Aq2 q.rect.high.length cq2]) rfl fun s24 w_ rs24 us24=>?_
              refine cs_ (v:=.int .i64 (rectFault q.rect dims)) (by kernel_rfl) rfl rfl rfl (fun w_ hs_=>impl_RectFault w_ _ (hs_.at 0 rfl)) (a_ rfl rfl (en (nx (rt (xrb (xr (ret1 rfl rfl (fun w_ hs_=>⟨?_,hs_.below⟩))))))))
              exact ri (by grind [queryFault])
            · refine vg (fa rfl rfl rfl) rfl rfl (bne_iff_ne.2 h23) (vg (ldb (u:=.int .i64 q.k) 0 rfl rfl rfl rfl rfl rfl rfl) rfl rfl (bne_iff_ne.2 h23) (vg (cm rfl rfl rfl rfl) rfl rfl (bne_iff_ne.2 h23) (vl (pk (b:=true) rfl rfl (bne_iff_ne.2 h23) rfl) rfl (a_ rfl rfl (en (nx ?_))))))
              by_cases h25 : q.k = (0 : Int)
              · refine cf rfl (bne_eq_false_iff_eq.2 h25) (sq (rg (vl (fa rfl rfl rfl) rfl (vl (ldb (u:=.int .i64 q.kind) 0 rfl rfl rfl rfl rfl rfl rfl) rfl (cs_ (v:=.bool (hasRect q.kind)) (by kernel_rfl) rfl rfl rfl (fun w_ hs_=>impl_hasRect w_ _) (a_ rfl rfl (en (nx (ct rfl h21 (sq (rg (vl (fa rfl rfl rfl) rfl (vl (ldb 0 rfl rfl rfl rfl rfl rfl rfl) rfl (m_ rfl rfl ?_))))))))))))))
                refine gd 1 kQueryS_p1_2 rfl (cs':=[.slice Aq1 q.rect.low.length cq1,.slice Aq2 q.rect.high.length cq2]) rfl fun s26 w_ rs26 us26=>?_
                refine cs_ (v:=.int .i64 (rectFault q.rect dims)) (by kernel_rfl) rfl rfl rfl (fun w_ hs_=>impl_RectFault w_ _ (hs_.at 0 rfl)) (a_ rfl rfl (en (nx (rt (xrb (xr (ret1 rfl rfl (fun w_ hs_=>⟨?_,hs_.below⟩))))))))
                exact ri (by grind [queryFault])
              · refine ct rfl (bne_iff_ne.2 h25) (sq (rg (a_ rfl rfl (en (nx (rt (xrb (xr (ret1 rfl rfl (fun w_ hs_=>⟨?_,hs_.below⟩))))))))))
                exact ri (by grind [queryFault])
        · refine sg rfl rfl (Bool.eq_false_iff.2 h21) (sg rfl rfl (Bool.eq_false_iff.2 h21) (sg rfl rfl (Bool.eq_false_iff.2 h21) (sg rfl rfl (Bool.eq_false_iff.2 h21) (vl (pk (b:=false) rfl rfl (Bool.eq_false_iff.2 h21) rfl) rfl (a_ rfl rfl (en (nx (cf rfl rfl (sq (rg (vl (fa rfl rfl rfl) rfl (vl (ldb (u:=.int .i64 q.kind) 0 rfl rfl rfl rfl rfl rfl rfl) rfl (cs_ (v:=.bool (hasRect q.kind)) (by kernel_rfl) rfl rfl rfl (fun w_ hs_=>impl_hasRect w_ _) (vl (nt rfl rfl) rfl (m_ rfl rfl (vg (mv rfl rfl) rfl rfl (not_t (Bool.eq_false_iff.2 h21)) (vg (nt rfl rfl) rfl rfl (not_t (Bool.eq_false_iff.2 h21)) (vl (pk (b:=true) rfl rfl (not_t (Bool.eq_false_iff.2 h21)) rfl) rfl (a_ rfl rfl (en (nx (ct rfl rfl (sk (nx (ct rfl rfl (sq (rg (a_ rfl rfl (en (nx (rt (xrb (xr (ret1 rfl rfl (fun w_ hs_=>⟨?_,hs_.below⟩)))))))))))))))))))))))))))))))))))
          exact ri (by grind [queryFault])
      · refine ct rfl (not_t (Bool.eq_false_iff.2 h20)) (sk (nx (ct rfl (not_t (Bool.eq_false_iff.2 h20)) (sq (rg (a_ rfl rfl (en (nx (rt (xrb (xr (ret1 rfl rfl (fun w_ hs_=>⟨?_,hs_.below⟩)))))))))))))
        exact ri (by grind [queryFault])
    · refine ct rfl (not_t (Bool.eq_false_iff.2 h19)) (sq (rg (a_ rfl rfl (en (nx (rt (xrb (xr (ret1 rfl rfl (fun w_ hs_=>⟨?_,hs_.below⟩))))))))))
      exact ri (by grind [queryFault])
set_option maxRecDepth 20000 in
set_option maxHeartbeats 2000000 in
theorem spec_QueryFault (w : World) (dims : Int) {Aq1 : Option Addr} {cq1 : Nat} {Aq2 : Option Addr} {cq2 : Nat} {Aq3 : Option Addr} {cq3 : Nat} {q : Query} {sq_ : List Nat} (hq : kQueryS.Rel w [.int .i64 q.kind,.slice Aq1 q.rect.low.length cq1,.slice Aq2 q.rect.high.length cq2,.slice Aq3 q.point.length cq3,.int .i64 q.k] q [] sq_)  : Calls Tryz.prog 62 #[.agg #[.int .i64 q.kind,.slice Aq1 q.rect.low.length cq1,.slice Aq2 q.rect.high.length cq2,.slice Aq3 q.point.length cq3,.int .i64 q.k],.int .i64 dims] w (fun e_ w2_=>e_ = .returned (.int .i64 (queryFault q dims)) ∧ Below w.heap.size w w2_):=by
  have Lq1:=Kd.sub_len kQueryS_p1_1 hq; have Cq1:=Kd.sub_cap kQueryS_p1_1 hq rfl
  have Lq2:=Kd.sub_len kQueryS_p2_1 hq; have Cq2:=Kd.sub_cap kQueryS_p2_1 hq rfl
  refine fnc (X:=X3 78 w) (l:=[(0,.agg #[.int .i64 q.kind,.slice Aq1 q.rect.low.length cq1,.slice Aq2 q.rect.high.length cq2,.slice Aq3 q.point.length cq3,.int .i64 q.k]),(1,.int .i64 dims)]) Tryz.func62 rfl rfl rfl ⟨rfl,rfl,trivial⟩ (s0d hq (s0n w)).1 ?_
  refine sq (rg (bx rfl rfl rfl rfl ?_))
  intro b1
  refine a_ rfl rfl (en (nx (sq (sq (rg (m_ rfl rfl (cs_ (v:=.bool (within dims 2 3)) (by kernel_rfl) rfl rfl rfl (fun w_ hs_=>spec_l1In w_ _ _ _) (vl (nt rfl rfl) rfl (en (nx ?_))))))))))
  by_cases h2 : within dims 2 3 = true
  · refine cf rfl (not_f h2) (sk (nx (sq (rg (vl (fa rfl rfl rfl) rfl (vl (ldb (u:=.int .i64 q.kind) 0 rfl rfl rfl rfl rfl rfl rfl) rfl (vl (cm rfl rfl rfl rfl) rfl (m_ rfl rfl ?_))))))))
    by_cases h3 : q.kind = (1 : Int)
    · refine sg rfl rfl (beq_iff_eq.2 h3) (sg rfl rfl (beq_iff_eq.2 h3) (sg rfl rfl (beq_iff_eq.2 h3) (vl (pk (b:=true) rfl rfl (beq_iff_eq.2 h3) rfl) rfl (a_ rfl rfl (en (nx (sq (sq (rg (vl (fa rfl rfl rfl) rfl (vl (ldb (u:=.int .i64 q.kind) 0 rfl rfl rfl rfl rfl rfl rfl) rfl (cs_ (v:=.bool (within q.kind 1 4)) (by kernel_rfl) rfl rfl rfl (fun w_ hs_=>spec_l1In w_ _ _ _) (vl (nt rfl rfl) rfl (m_ rfl rfl ?_))))))))))))))
      by_cases h4 : within q.kind 1 4 = true
      · refine vg (mv rfl rfl) rfl rfl (not_f h4) (vg (mv rfl rfl) rfl rfl (not_f h4) (vg (fa rfl rfl rfl) rfl rfl rfl (vg (ldb (u:=.slice Aq3 q.point.length cq3) 0 rfl rfl rfl rfl rfl rfl rfl) rfl rfl rfl (vg (ln rfl rfl rfl) rfl rfl rfl (vg (cm rfl rfl rfl rfl) rfl rfl rfl (vg (pk (b:=true) rfl rfl rfl rfl) rfl rfl (not_f h4) (vl (pk (b:=false) rfl rfl (not_f h4) rfl) rfl (m_ rfl rfl ?_))))))))
        by_cases h5 : (0 : Int) < ((q.point.length : Nat) : Int)
        · refine sg rfl rfl (decide_eq_true h5) (sg rfl rfl (decide_eq_true h5) (sg rfl rfl (decide_eq_true h5) (su rfl rfl (su rfl rfl (su rfl rfl (su rfl rfl (su rfl rfl (su rfl rfl (su rfl rfl (su rfl rfl (su rfl rfl (su rfl rfl (sg rfl rfl (decide_eq_true h5) (vl (pk (b:=true) rfl rfl (decide_eq_true h5) rfl) rfl (m_ rfl rfl (sg rfl rfl rfl (sg rfl rfl rfl (sg rfl rfl rfl (sg rfl rfl rfl (su rfl rfl (su rfl rfl (su rfl rfl (sg rfl rfl rfl (vl (pk (b:=true) rfl rfl rfl rfl) rfl (en (nx (ct rfl rfl (sq (rg (a_ rfl rfl (en (nx (rt (xr (ret1 rfl rfl (fun w_ hs_=>⟨?_,hs_.below⟩))))))))))))))))))))))))))))))))))))
          exact ri (by grind [queryFault,hasRect,isDims])
        · refine vg (mv rfl rfl) rfl rfl (decide_eq_false h5) (vg (nt rfl rfl) rfl rfl (decide_eq_false h5) (vg (mv rfl rfl) rfl rfl (decide_eq_false h5) (sg rfl rfl rfl (sg rfl rfl rfl (sg rfl rfl rfl (sg rfl rfl rfl (sg rfl rfl rfl (sg rfl rfl rfl (sg rfl rfl rfl (sg rfl rfl rfl (sg rfl rfl rfl (sg rfl rfl rfl (vg (pk (b:=false) rfl rfl rfl rfl) rfl rfl (decide_eq_false h5) (vl (pk (b:=false) rfl rfl (decide_eq_false h5) rfl) rfl (m_ rfl rfl (vg (fa rfl rfl rfl) rfl rfl rfl (vg (ldb (u:=.int .i64 q.kind) 0 rfl rfl rfl rfl rfl rfl rfl) rfl rfl rfl (vg (cm rfl rfl rfl rfl) rfl rfl rfl (vg (mv rfl rfl) rfl rfl rfl ?_)))))))))))))))))))
          by_cases h6 : q.kind = (4 : Int)
          · refine sg rfl rfl (bne_eq_false_iff_eq.2 h6) (sg rfl rfl (bne_eq_false_iff_eq.2 h6) (sg rfl rfl (bne_eq_false_iff_eq.2 h6) (vg (pk (b:=false) rfl rfl (bne_eq_false_iff_eq.2 h6) rfl) rfl rfl rfl (vl (pk (b:=false) rfl rfl rfl rfl) rfl (en (nx (cf rfl rfl (sk (nx (sq (sq (rg (m_ rfl rfl (en (nx (ct rfl rfl (sq (rg (vl (fa rfl rfl rfl) rfl (vl (ldb 0 rfl rfl rfl rfl rfl rfl rfl) rfl (m_ rfl rfl ?_)))))))))))))))))))))
            refine gd 1 kQueryS_p1_2 rfl (cs':=[.slice Aq1 q.rect.low.length cq1,.slice Aq2 q.rect.high.length cq2]) rfl fun s7 w_ rs7 us7=>?_
            refine cs_ (v:=.int .i64 (rectFault q.rect dims)) (by kernel_rfl) rfl rfl rfl (fun w_ hs_=>spec_RectFault w_ _ (hs_.at 0 rfl)) (a_ rfl rfl (en (nx (rt (xr (ret1 rfl rfl (fun w_ hs_=>⟨?_,hs_.below⟩)))))))
            exact ri (by grind [queryFault,hasRect,isDims])
          · refine vg (fa rfl rfl rfl) rfl rfl (bne_iff_ne.2 h6) (vg (ldb (u:=.int .i64 q.k) 0 rfl rfl rfl rfl rfl rfl rfl) rfl rfl (bne_iff_ne.2 h6) (vg (cm rfl rfl rfl rfl) rfl rfl (bne_iff_ne.2 h6) (vg (pk (b:=true) rfl rfl (bne_iff_ne.2 h6) rfl) rfl rfl rfl (vl (pk (b:=false) rfl rfl rfl rfl) rfl (en (nx ?_))))))
            by_cases h8 : q.k = (0 : Int)
            · refine cf rfl (bne_eq_false_iff_eq.2 h8) (sk (nx (sq (sq (rg (m_ rfl rfl (en (nx (ct rfl rfl (sq (rg (vl (fa rfl rfl rfl) rfl (vl (ldb 0 rfl rfl rfl rfl rfl rfl rfl) rfl (m_ rfl rfl ?_))))))))))))))
              refine gd 1 kQueryS_p1_2 rfl (cs':=[.slice Aq1 q.rect.low.length cq1,.slice Aq2 q.rect.high.length cq2]) rfl fun s9 w_ rs9 us9=>?_
              refine cs_ (v:=.int .i64 (rectFault q.rect dims)) (by kernel_rfl) rfl rfl rfl (fun w_ hs_=>spec_RectFault w_ _ (hs_.at 0 rfl)) (a_ rfl rfl (en (nx (rt (xr (ret1 rfl rfl (fun w_ hs_=>⟨?_,hs_.below⟩)))))))
              exact ri (by grind [queryFault,hasRect,isDims])
            · refine ct rfl (bne_iff_ne.2 h8) (sq (rg (a_ rfl rfl (en (nx (rt (xr (ret1 rfl rfl (fun w_ hs_=>⟨?_,hs_.below⟩)))))))))
              exact ri (by grind [queryFault,hasRect,isDims])
      · refine sg rfl rfl (not_t (Bool.eq_false_iff.2 h4)) (sg rfl rfl (not_t (Bool.eq_false_iff.2 h4)) (su rfl rfl (su rfl rfl (su rfl rfl (su rfl rfl (sg rfl rfl (not_t (Bool.eq_false_iff.2 h4)) (vl (pk (b:=true) rfl rfl (not_t (Bool.eq_false_iff.2 h4)) rfl) rfl (m_ rfl rfl (sg rfl rfl rfl (sg rfl rfl rfl (sg rfl rfl rfl (su rfl rfl (su rfl rfl (su rfl rfl (su rfl rfl (su rfl rfl (su rfl rfl (su rfl rfl (su rfl rfl (su rfl rfl (su rfl rfl (sg rfl rfl rfl (vl (pk (b:=true) rfl rfl rfl rfl) rfl (m_ rfl rfl (sg rfl rfl rfl (sg rfl rfl rfl (sg rfl rfl rfl (sg rfl rfl rfl (su rfl rfl (su rfl rfl (su rfl rfl (sg rfl rfl rfl (vl (pk (b:=true) rfl rfl rfl rfl) rfl (en (nx (ct rfl rfl (sq (rg (a_ rfl rfl (en (nx (rt (xr (ret1 rfl rfl (fun w_ hs_=>⟨?_,hs_.below⟩)))))))))))))))))))))))))))))))))))))))))))))
        exact ri (by grind [queryFault,hasRect,isDims])
    · refine vg (fa rfl rfl rfl) rfl rfl (beq_eq_false_iff_ne.2 h3) (vg (ldb (u:=.int .i64 q.kind) 0 rfl rfl rfl rfl rfl rfl rfl) rfl rfl (beq_eq_false_iff_ne.2 h3) (vg (cm rfl rfl rfl rfl) rfl rfl (beq_eq_false_iff_ne.2 h3) (vl (pk (b:=false) rfl rfl (beq_eq_false_iff_ne.2 h3) rfl) rfl (a_ rfl rfl (en (nx (sq (sq (rg (vl (fa rfl rfl rfl) rfl (vl (ldb (u:=.int .i64 q.kind) 0 rfl rfl rfl rfl rfl rfl rfl) rfl (cs_ (v:=.bool (within q.kind 1 4)) (by kernel_rfl) rfl rfl rfl (fun w_ hs_=>spec_l1In w_ _ _ _) (vl (nt rfl rfl) rfl (m_ rfl rfl ?_))))))))))))))
      by_cases h10 : within q.kind 1 4 = true
      · refine vg (mv rfl rfl) rfl rfl (not_f h10) (vg (mv rfl rfl) rfl rfl (not_f h10) ?_)
        by_cases h11 : q.kind = (2 : Int)
        · refine vg (fa rfl rfl rfl) rfl rfl (beq_iff_eq.2 h11) (vg (ldb (u:=.slice Aq3 q.point.length cq3) 0 rfl rfl rfl rfl rfl rfl rfl) rfl rfl (beq_iff_eq.2 h11) (vg (ln rfl rfl rfl) rfl rfl (beq_iff_eq.2 h11) (vg (cm rfl rfl rfl rfl) rfl rfl (beq_iff_eq.2 h11) (vg (pk (b:=true) rfl rfl (beq_iff_eq.2 h11) rfl) rfl rfl (not_f h10) (vl (pk (b:=false) rfl rfl (not_f h10) rfl) rfl (m_ rfl rfl ?_))))))
          by_cases h12 : (0 : Int) < ((q.point.length : Nat) : Int)
          · refine sg rfl rfl (decide_eq_true h12) (sg rfl rfl (decide_eq_true h12) (sg rfl rfl (decide_eq_true h12) (su rfl rfl (su rfl rfl (su rfl rfl (su rfl rfl (su rfl rfl (su rfl rfl (su rfl rfl (su rfl rfl (su rfl rfl (su rfl rfl (sg rfl rfl (decide_eq_true h12) (vl (pk (b:=true) rfl rfl (decide_eq_true h12) rfl) rfl (m_ rfl rfl (sg rfl rfl rfl (sg rfl rfl rfl (sg rfl rfl rfl (sg rfl rfl rfl (su rfl rfl (su rfl rfl (su rfl rfl (sg rfl rfl rfl (vl (pk (b:=true) rfl rfl rfl rfl) rfl (en (nx (ct rfl rfl (sq (rg (a_ rfl rfl (en (nx (rt (xr (ret1 rfl rfl (fun w_ hs_=>⟨?_,hs_.below⟩))))))))))))))))))))))))))))))))))))
            exact ri (by grind [queryFault,hasRect,isDims])
          · refine vg (mv rfl rfl) rfl rfl (decide_eq_false h12) (vg (nt rfl rfl) rfl rfl (decide_eq_false h12) (vg (mv rfl rfl) rfl rfl (decide_eq_false h12) (sg rfl rfl (not_f (beq_iff_eq.2 h11)) (sg rfl rfl (not_f (beq_iff_eq.2 h11)) (sg rfl rfl (not_f (beq_iff_eq.2 h11)) (sg rfl rfl (not_f (beq_iff_eq.2 h11)) (sg rfl rfl (not_f (beq_iff_eq.2 h11)) (sg rfl rfl (not_f (beq_iff_eq.2 h11)) (sg rfl rfl (not_f (beq_iff_eq.2 h11)) (sg rfl rfl (not_f (beq_iff_eq.2 h11)) (sg rfl rfl (not_f (beq_iff_eq.2 h11)) (sg rfl rfl (not_f (beq_iff_eq.2 h11)) (vg (pk (b:=false) rfl rfl (not_f (beq_iff_eq.2 h11)) rfl) rfl rfl (decide_eq_false h12) (vl (pk (b:=false) rfl rfl (decide_eq_false h12) rfl) rfl (m_ rfl rfl (vg (fa rfl rfl rfl) rfl rfl rfl (vg (ldb (u:=.int .i64 q.kind) 0 rfl rfl rfl rfl rfl rfl rfl) rfl rfl rfl (vg (cm rfl rfl rfl rfl) rfl rfl rfl (vg (mv rfl rfl) rfl rfl rfl ?_)))))))))))))))))))
            by_cases h13 : q.kind = (4 : Int)
            · refine sg rfl rfl (bne_eq_false_iff_eq.2 h13) (sg rfl rfl (bne_eq_false_iff_eq.2 h13) (sg rfl rfl (bne_eq_false_iff_eq.2 h13) (vg (pk (b:=false) rfl rfl (bne_eq_false_iff_eq.2 h13) rfl) rfl rfl rfl (vl (pk (b:=false) rfl rfl rfl rfl) rfl (en (nx (cf rfl rfl (sk (nx (sq (sq (rg (m_ rfl rfl (en (nx (ct rfl (beq_iff_eq.2 h11) (sq (rg (vl (fa rfl rfl rfl) rfl (vl (ldb 0 rfl rfl rfl rfl rfl rfl rfl) rfl (m_ rfl rfl ?_)))))))))))))))))))))
              refine gd 1 kQueryS_p1_2 rfl (cs':=[.slice Aq1 q.rect.low.length cq1,.slice Aq2 q.rect.high.length cq2]) rfl fun s14 w_ rs14 us14=>?_
              refine cs_ (v:=.int .i64 (rectFault q.rect dims)) (by kernel_rfl) rfl rfl rfl (fun w_ hs_=>spec_RectFault w_ _ (hs_.at 0 rfl)) (a_ rfl rfl (en (nx (rt (xr (ret1 rfl rfl (fun w_ hs_=>⟨?_,hs_.below⟩)))))))
              exact ri (by grind [queryFault,hasRect,isDims])
            · refine vg (fa rfl rfl rfl) rfl rfl (bne_iff_ne.2 h13) (vg (ldb (u:=.int .i64 q.k) 0 rfl rfl rfl rfl rfl rfl rfl) rfl rfl (bne_iff_ne.2 h13) (vg (cm rfl rfl rfl rfl) rfl rfl (bne_iff_ne.2 h13) (vg (pk (b:=true) rfl rfl (bne_iff_ne.2 h13) rfl) rfl rfl rfl (vl (pk (b:=false) rfl rfl rfl rfl) rfl (en (nx ?_))))))
              by_cases h15 : q.k = (0 : Int)
              · refine cf rfl (bne_eq_false_iff_eq.2 h15) (sk (nx (sq (sq (rg (m_ rfl rfl (en (nx (ct rfl (beq_iff_eq.2 h11) (sq (rg (vl (fa rfl rfl rfl) rfl (vl (ldb 0 rfl rfl rfl rfl rfl rfl rfl) rfl (m_ rfl rfl ?_))))))))))))))
                refine gd 1 kQueryS_p1_2 rfl (cs':=[.slice Aq1 q.rect.low.length cq1,.slice Aq2 q.rect.high.length cq2]) rfl fun s16 w_ rs16 us16=>?_
                refine cs_ (v:=.int .i64 (rectFault q.rect dims)) (by kernel_rfl) rfl rfl rfl (fun w_ hs_=>spec_RectFault w_ _ (hs_.at 0 rfl)) (a_ rfl rfl (en (nx (rt (xr (ret1 rfl rfl (fun w_ hs_=>⟨?_,hs_.below⟩)))))))
                exact ri (by grind [queryFault,hasRect,isDims])
              · refine ct rfl (bne_iff_ne.2 h15) (sq (rg (a_ rfl rfl (en (nx (rt (xr (ret1 rfl rfl (fun w_ hs_=>⟨?_,hs_.below⟩)))))))))
                exact ri (by grind [queryFault,hasRect,isDims])
        · refine sg rfl rfl (beq_eq_false_iff_ne.2 h11) (sg rfl rfl (beq_eq_false_iff_ne.2 h11) (sg rfl rfl (beq_eq_false_iff_ne.2 h11) (sg rfl rfl (beq_eq_false_iff_ne.2 h11) (vg (pk (b:=false) rfl rfl (beq_eq_false_iff_ne.2 h11) rfl) rfl rfl (not_f h10) (vl (pk (b:=false) rfl rfl (not_f h10) rfl) rfl (m_ rfl rfl (vg (mv rfl rfl) rfl rfl rfl (vg (nt rfl rfl) rfl rfl rfl (vg (mv rfl rfl) rfl rfl rfl (vg (fa rfl rfl rfl) rfl rfl (not_t (beq_eq_false_iff_ne.2 h11)) (vg (fa rfl rfl rfl) rfl rfl (not_t (beq_eq_false_iff_ne.2 h11)) (vg (ldb (u:=.slice Aq1 q.rect.low.length cq1) 0 rfl rfl rfl rfl rfl rfl rfl) rfl rfl (not_t (beq_eq_false_iff_ne.2 h11)) (vg (ln rfl rfl rfl) rfl rfl (not_t (beq_eq_false_iff_ne.2 h11)) (vg (fa rfl rfl rfl) rfl rfl (not_t (beq_eq_false_iff_ne.2 h11)) (vg (fa rfl rfl rfl) rfl rfl (not_t (beq_eq_false_iff_ne.2 h11)) (vg (ldb (u:=.slice Aq2 q.rect.high.length cq2) 0 rfl rfl rfl rfl rfl rfl rfl) rfl rfl (not_t (beq_eq_false_iff_ne.2 h11)) (vg (ln rfl rfl rfl) rfl rfl (not_t (beq_eq_false_iff_ne.2 h11)) (vg (ra (c:=((q.rect.low.length : Nat) : Int) + ((q.rect.high.length : Nat) : Int)) rfl rfl rfl rfl (by omega) (by omega)) rfl rfl (not_t (beq_eq_false_iff_ne.2 h11)) (vg (cm rfl rfl rfl rfl) rfl rfl (not_t (beq_eq_false_iff_ne.2 h11)) (vg (pk (b:=true) rfl rfl (not_t (beq_eq_false_iff_ne.2 h11)) rfl) rfl rfl rfl (vl (pk (b:=false) rfl rfl rfl rfl) rfl (m_ rfl rfl ?_))))))))))))))))))))))
          by_cases h17 : (0 : Int) < ((q.rect.low.length : Nat) : Int) + ((q.rect.high.length : Nat) : Int)
          · have gh17:=rectEmpty_f (r:=q.rect) h17
            refine sg rfl rfl (decide_eq_true h17) (sg rfl rfl (decide_eq_true h17) (sg rfl rfl (decide_eq_true h17) (sg rfl rfl (decide_eq_true h17) (su rfl rfl (su rfl rfl (su rfl rfl (sg rfl rfl (decide_eq_true h17) (vl (pk (b:=true) rfl rfl (decide_eq_true h17) rfl) rfl (en (nx (ct rfl rfl (sq (rg (a_ rfl rfl (en (nx (rt (xr (ret1 rfl rfl (fun w_ hs_=>⟨?_,hs_.below⟩))))))))))))))))))))
            exact ri (by grind [queryFault,hasRect,isDims])
          · have gh17:=rectEmpty_t (r:=q.rect) h17
            refine vg (fa rfl rfl rfl) rfl rfl (decide_eq_false h17) (vg (ldb (u:=.int .i64 q.kind) 0 rfl rfl rfl rfl rfl rfl rfl) rfl rfl (decide_eq_false h17) (vg (cm rfl rfl rfl rfl) rfl rfl (decide_eq_false h17) (vg (mv rfl rfl) rfl rfl (decide_eq_false h17) ?_)))
            by_cases h18 : q.kind = (4 : Int)
            · refine sg rfl rfl (bne_eq_false_iff_eq.2 h18) (sg rfl rfl (bne_eq_false_iff_eq.2 h18) (sg rfl rfl (bne_eq_false_iff_eq.2 h18) (vg (pk (b:=false) rfl rfl (bne_eq_false_iff_eq.2 h18) rfl) rfl rfl (decide_eq_false h17) (vl (pk (b:=false) rfl rfl (decide_eq_false h17) rfl) rfl (en (nx (cf rfl rfl (sk (nx (sq (sq (rg (m_ rfl rfl (en (nx (cf rfl (beq_eq_false_iff_ne.2 h11) (sk (nx (sq (sq (rg (vl (fa rfl rfl rfl) rfl (vl (ldb (u:=.slice Aq3 q.point.length cq3) 0 rfl rfl rfl rfl rfl rfl rfl) rfl (m_ rfl rfl ?_))))))))))))))))))))))))
              refine gd 1 kQueryS_p3_1 rfl (cs':=[.slice Aq3 q.point.length cq3]) rfl fun s19 w_ rs19 us19=>?_
              have Ls19:=Kd.sl_len rs19; have Cs19:=Kd.sl_cap rs19
              refine cs_ (v:=.int .i64 (pointFault q.point dims)) (by kernel_rfl) rfl rfl rfl (fun w_ hs_=>spec_PointFault w_ _ (hs_.at 0 rfl)) (a_ rfl rfl (en (nx (sq (rg (m_ rfl rfl (vl (cm rfl rfl rfl rfl) rfl (en (nx ?_)))))))))
              by_cases h20 : (pointFault q.point dims) = (0 : Int)
              · refine cf rfl (bne_eq_false_iff_eq.2 h20) (sk (nx (sq (sq (rg (vl (fa rfl rfl rfl) rfl (vl (ldb (u:=.int .i64 q.kind) 1 rfl rfl rfl rfl rfl rfl rfl) rfl (vl (cm rfl rfl rfl rfl) rfl (m_ rfl rfl (vg (fa rfl rfl rfl) rfl rfl (beq_iff_eq.2 h18) (vg (ldb (u:=.int .i64 q.k) 1 rfl rfl rfl rfl rfl rfl rfl) rfl rfl (beq_iff_eq.2 h18) (gw rfl rfl (beq_iff_eq.2 h18) (cs_ (v:=.bool (within q.k 1 20)) (by kernel_rfl) rfl rfl rfl (fun w_ hs_=>spec_l1In w_ _ _ _) (vg (nt rfl rfl) rfl rfl (beq_iff_eq.2 h18) (vl (pk (b:=true) rfl rfl (beq_iff_eq.2 h18) rfl) rfl (en (nx ?_)))))))))))))))))
                by_cases h21 : within q.k 1 20 = true
                · refine cf rfl (not_f h21) (sk (nx (sq (rg (a_ rfl rfl (en (nx (rt (ret1 rfl rfl (fun w_ hs_=>⟨?_,hs_.below⟩))))))))))
                  exact ri (by grind [queryFault,hasRect,isDims])
                · refine ct rfl (not_t (Bool.eq_false_iff.2 h21)) (sq (rg (a_ rfl rfl (en (nx (rt (xr (ret1 rfl rfl (fun w_ hs_=>⟨?_,hs_.below⟩)))))))))
                  exact ri (by grind [queryFault,hasRect,isDims])
              · refine ct rfl (bne_iff_ne.2 h20) (sq (rg (m_ rfl rfl (a_ rfl rfl (en (nx (rt (xr (ret1 rfl rfl (fun w_ hs_=>⟨?_,hs_.below⟩))))))))))
                exact ri (by grind [queryFault,hasRect,isDims])
            · refine vg (fa rfl rfl rfl) rfl rfl (bne_iff_ne.2 h18) (vg (ldb (u:=.int .i64 q.k) 0 rfl rfl rfl rfl rfl rfl rfl) rfl rfl (bne_iff_ne.2 h18) (vg (cm rfl rfl rfl rfl) rfl rfl (bne_iff_ne.2 h18) (vg (pk (b:=true) rfl rfl (bne_iff_ne.2 h18) rfl) rfl rfl (decide_eq_false h17) (vl (pk (b:=false) rfl rfl (decide_eq_false h17) rfl) rfl (en (nx ?_))))))
              by_cases h22 : q.k = (0 : Int)
              · refine cf rfl (bne_eq_false_iff_eq.2 h22) (sk (nx (sq (sq (rg (m_ rfl rfl (en (nx (cf rfl (beq_eq_false_iff_ne.2 h11) (sk (nx (sq (sq (rg (vl (fa rfl rfl rfl) rfl (vl (ldb (u:=.slice Aq3 q.point.length cq3) 0 rfl rfl rfl rfl rfl rfl rfl) rfl (m_ rfl rfl ?_)))))))))))))))))
                refine gd 1 kQueryS_p3_1 rfl (cs':=[.slice Aq3 q.point.length cq3]) rfl fun s23 w_ rs23 us23=>?_
                have Ls23:=Kd.sl_len rs23; have Cs23:=Kd.sl_cap rs23
                refine cs_ (v:=.int .i64 (pointFault q.point dims)) (by kernel_rfl) rfl rfl rfl (fun w_ hs_=>spec_PointFault w_ _ (hs_.at 0 rfl)) (a_ rfl rfl (en (nx (sq (rg (m_ rfl rfl (vl (cm rfl rfl rfl rfl) rfl (en (nx ?_)))))))))
                by_cases h24 : (pointFault q.point dims) = (0 : Int)
                · refine cf rfl (bne_eq_false_iff_eq.2 h24) (sk (nx (sq (sq (rg (vl (fa rfl rfl rfl) rfl (vl (ldb (u:=.int .i64 q.kind) 1 rfl rfl rfl rfl rfl rfl rfl) rfl (vl (cm rfl rfl rfl rfl) rfl (m_ rfl rfl (sg rfl rfl (beq_eq_false_iff_ne.2 h18) (sg rfl rfl (beq_eq_false_iff_ne.2 h18) (sg rfl rfl (beq_eq_false_iff_ne.2 h18) (sg rfl rfl (beq_eq_false_iff_ne.2 h18) (vl (pk (b:=false) rfl rfl (beq_eq_false_iff_ne.2 h18) rfl) rfl (en (nx (cf rfl rfl (sk (nx (sq (rg (a_ rfl rfl (en (nx (rt (ret1 rfl rfl (fun w_ hs_=>⟨?_,hs_.below⟩)))))))))))))))))))))))))))
                  exact ri (by grind [queryFault,hasRect,isDims])
                · refine ct rfl (bne_iff_ne.2 h24) (sq (rg (m_ rfl rfl (a_ rfl rfl (en (nx (rt (xr (ret1 rfl rfl (fun w_ hs_=>⟨?_,hs_.below⟩))))))))))
                  exact ri (by grind [queryFault,hasRect,isDims])
              · refine ct rfl (bne_iff_ne.2 h22) (sq (rg (a_ rfl rfl (en (nx (rt (xr (ret1 rfl rfl (fun w_ hs_=>⟨?_,hs_.below⟩)))))))))
                exact ri (by grind [queryFault,hasRect,isDims])
      · refine sg rfl rfl (not_t (Bool.eq_false_iff.2 h10)) (sg rfl rfl (not_t (Bool.eq_false_iff.2 h10)) (su rfl rfl (su rfl rfl (su rfl rfl (su rfl rfl (sg rfl rfl (not_t (Bool.eq_false_iff.2 h10)) (vl (pk (b:=true) rfl rfl (not_t (Bool.eq_false_iff.2 h10)) rfl) rfl (m_ rfl rfl (sg rfl rfl rfl (sg rfl rfl rfl (sg rfl rfl rfl (su rfl rfl (su rfl rfl (su rfl rfl (su rfl rfl (su rfl rfl (su rfl rfl (su rfl rfl (su rfl rfl (su rfl rfl (su rfl rfl (sg rfl rfl rfl (vl (pk (b:=true) rfl rfl rfl rfl) rfl (m_ rfl rfl (sg rfl rfl rfl (sg rfl rfl rfl (sg rfl rfl rfl (sg rfl rfl rfl (su rfl rfl (su rfl rfl (su rfl rfl (sg rfl rfl rfl (vl (pk (b:=true) rfl rfl rfl rfl) rfl (en (nx (ct rfl rfl (sq (rg (a_ rfl rfl (en (nx (rt (xr (ret1 rfl rfl (fun w_ hs_=>⟨?_,hs_.below⟩)))))))))))))))))))))))))))))))))))))))))))))
        exact ri (by grind [queryFault,hasRect,isDims])
  · refine ct rfl (not_t (Bool.eq_false_iff.2 h2)) (sq (rg (a_ rfl rfl (en (nx (rt (xr (ret1 rfl rfl (fun w_ hs_=>⟨?_,hs_.below⟩)))))))))
    exact ri (by grind [queryFault,hasRect,isDims])
structure Mark where
  dist : Int
  id : Int
  nsn : Int
  deriving DecidableEq
structure Look where
  query : Query
  front : List Mark
  found : List Pair
  deriving DecidableEq
structure Moved where
  level : Int
  entries : List Entry
  deriving DecidableEq
structure LookResult where
  code : Int
  look : Look
  deriving DecidableEq
structure PairsResult where
  code : Int
  pairs : List Pair
  deriving DecidableEq
def kMarkS : Kd Mark := ((Kd.i64.via Mark.dist).cat ((Kd.i64.via Mark.id).cat (Kd.i64.via Mark.nsn)))
theorem kMarkS_sh {w : World} {cs : List Value} {x : Mark} {o s : List Nat} (h : kMarkS.Rel w cs x o s) : cs = [.int .i64 x.dist,.int .i64 x.id,.int .i64 x.nsn]:=by
  obtain ⟨c10,c20,o10,o20,s10,s20,rfl,rfl,rfl,h0,k0⟩:=h
  obtain ⟨rfl,-,-⟩:=h0
  obtain ⟨c11,c21,o11,o21,s11,s21,rfl,rfl,rfl,h1,k1⟩:=k0
  obtain ⟨rfl,-,-⟩:=h1
  obtain ⟨rfl,-,-⟩:=k1
  exact rfl
theorem kMarkS_pure : Kd.Pure kMarkS:=(Kd.Pure.cat (Kd.Pure.via Kd.Pure.i64 _) (Kd.Pure.cat (Kd.Pure.via Kd.Pure.i64 _) (Kd.Pure.via Kd.Pure.i64 _)))
def kLookS : Kd Look := ((kQueryS.via Look.query).cat (((Kd.sl kMarkS).via Look.front).cat ((Kd.sl kPairS).via Look.found)))
theorem kLookS_sh {w : World} {cs : List Value} {x : Look} {o s : List Nat} (h : kLookS.Rel w cs x o s) : ∃ (A1 : Option Addr) (c1 : Nat) (A2 : Option Addr) (c2 : Nat) (A3 : Option Addr) (c3 : Nat) (A5 : Option Addr) (c5 : Nat) (A6 : Option Addr) (c6 : Nat),cs = [.int .i64 x.query.kind,.slice A1 x.query.rect.low.length c1,.slice A2 x.query.rect.high.length c2,.slice A3 x.query.point.length c3,.int .i64 x.query.k,.slice A5 x.front.length c5,.slice A6 x.found.length c6]:=by
  obtain ⟨c10,c20,o10,o20,s10,s20,rfl,rfl,rfl,h0,k0⟩:=h
  obtain ⟨_,_,_,_,_,_,rfl⟩:=kQueryS_sh h0
  obtain ⟨c11,c21,o11,o21,s11,s21,rfl,rfl,rfl,h1,k1⟩:=k0
  obtain ⟨-,A1_,c1_,rfl,-⟩:=h1
  obtain ⟨-,A2_,c2_,rfl,-⟩:=k1
  exact ⟨_,_,_,_,_,_,_,_,_,_,rfl⟩
theorem kLookS_p0_5 : Kd.Sub kLookS 0 kQueryS (fun x=>x.query):=(Kd.Sub.left (Kd.Sub.rfl.via Look.query) _ (by decide))
theorem kLookS_p3_1 : Kd.Sub kLookS 3 (Kd.sl Kd.i64) (fun x=>x.query.point):=(Kd.Sub.left (kQueryS_p3_1.via Look.query) _ (by decide))
theorem kLookS_p5_1 : Kd.Sub kLookS 5 (Kd.sl kMarkS) (fun x=>x.front):=(Kd.Sub.right (Kd.Sub.left (Kd.Sub.rfl.via Look.front) _ (by decide)) _)
theorem kLookS_p6_1 : Kd.Sub kLookS 6 (Kd.sl kPairS) (fun x=>x.found):=(Kd.Sub.right (Kd.Sub.right (Kd.Sub.rfl.via Look.found) _) _)
def kLookResultS : Kd LookResult := ((Kd.i64.via LookResult.code).cat (kLookS.via LookResult.look))
theorem kLookResultS_p1_7 : Kd.Sub kLookResultS 1 kLookS (fun x=>x.look):=(Kd.Sub.right (Kd.Sub.rfl.via LookResult.look) _)
def kMarkO : Kd Mark := ((Kd.i64.via Mark.dist).cat ((Kd.i64.via Mark.id).cat (Kd.i64.via Mark.nsn)))
theorem kMarkO_sh {w : World} {cs : List Value} {x : Mark} {o s : List Nat} (h : kMarkO.Rel w cs x o s) : cs = [.int .i64 x.dist,.int .i64 x.id,.int .i64 x.nsn]:=by
  obtain ⟨c10,c20,o10,o20,s10,s20,rfl,rfl,rfl,h0,k0⟩:=h
  obtain ⟨rfl,-,-⟩:=h0
  obtain ⟨c11,c21,o11,o21,s11,s21,rfl,rfl,rfl,h1,k1⟩:=k0
  obtain ⟨rfl,-,-⟩:=h1
  obtain ⟨rfl,-,-⟩:=k1
  exact rfl
theorem kMarkO_seal : Kd.Seals kMarkO kMarkS:=(Kd.Seals.cat (Kd.Seals.via Kd.Seals.i64 _) (Kd.Seals.cat (Kd.Seals.via Kd.Seals.i64 _) (Kd.Seals.via Kd.Seals.i64 _)))
def kLookO : Kd Look := ((kQueryO.via Look.query).cat (((Kd.row 115 kMarkO).via Look.front).cat ((Kd.row 119 kPairO).via Look.found)))
theorem kLookO_sh {w : World} {cs : List Value} {x : Look} {o s : List Nat} (h : kLookO.Rel w cs x o s) : ∃ (A1 : Option Addr) (c1 : Nat) (A2 : Option Addr) (c2 : Nat) (A3 : Option Addr) (c3 : Nat) (A5 : Option Addr) (c5 : Nat) (A6 : Option Addr) (c6 : Nat),cs = [.int .i64 x.query.kind,.slice A1 x.query.rect.low.length c1,.slice A2 x.query.rect.high.length c2,.slice A3 x.query.point.length c3,.int .i64 x.query.k,.slice A5 x.front.length c5,.slice A6 x.found.length c6]:=by
  obtain ⟨c10,c20,o10,o20,s10,s20,rfl,rfl,rfl,h0,k0⟩:=h
  obtain ⟨_,_,_,_,_,_,rfl⟩:=kQueryO_sh h0
  obtain ⟨c11,c21,o11,o21,s11,s21,rfl,rfl,rfl,h1,k1⟩:=k0
  obtain ⟨A1_,c1_,rfl⟩:=Kd.row_sh h1
  obtain ⟨A2_,c2_,rfl⟩:=Kd.row_sh k1
  exact ⟨_,_,_,_,_,_,_,_,_,_,rfl⟩
theorem kLookO_seal : Kd.Seals kLookO kLookS:=(Kd.Seals.cat (Kd.Seals.via kQueryO_seal _) (Kd.Seals.cat (Kd.Seals.via (Kd.Seals.row kMarkO_seal _) _) (Kd.Seals.via (Kd.Seals.row kPairO_seal _) _)))
def kLookResultO : Kd LookResult := ((Kd.i64.via LookResult.code).cat (kLookO.via LookResult.look))
theorem kLookResultO_sh {w : World} {cs : List Value} {x : LookResult} {o s : List Nat} (h : kLookResultO.Rel w cs x o s) : ∃ (A2 : Option Addr) (c2 : Nat) (A3 : Option Addr) (c3 : Nat) (A4 : Option Addr) (c4 : Nat) (A6 : Option Addr) (c6 : Nat) (A7 : Option Addr) (c7 : Nat),cs = [.int .i64 x.code,.int .i64 x.look.query.kind,.slice A2 x.look.query.rect.low.length c2,.slice A3 x.look.query.rect.high.length c3,.slice A4 x.look.query.point.length c4,.int .i64 x.look.query.k,.slice A6 x.look.front.length c6,.slice A7 x.look.found.length c7]:=by
  obtain ⟨c10,c20,o10,o20,s10,s20,rfl,rfl,rfl,h0,k0⟩:=h
  obtain ⟨rfl,-,-⟩:=h0
  obtain ⟨_,_,_,_,_,_,_,_,_,_,rfl⟩:=kLookO_sh k0
  exact ⟨_,_,_,_,_,_,_,_,_,_,rfl⟩
theorem kLookResultO_seal : Kd.Seals kLookResultO kLookResultS:=(Kd.Seals.cat (Kd.Seals.via Kd.Seals.i64 _) (Kd.Seals.via kLookO_seal _))

theorem Mark_eq (a b : Mark) : decide (a = b) = (decide (a.dist = b.dist) && decide (a.id = b.id) && decide (a.nsn = b.nsn)):=by
  cases a; cases b; rw [Bool.eq_iff_iff]; simp [and_assoc]
theorem Look_eq (a b : Look) : decide (a = b) = (decide (a.query = b.query) && decide (a.front = b.front) && decide (a.found = b.found)):=by
  cases a; cases b; rw [Bool.eq_iff_iff]; simp [and_assoc]

theorem LookResult_eq (a b : LookResult) : decide (a = b) = (decide (a.code = b.code) && decide (a.look = b.look)):=by
  cases a; cases b; rw [Bool.eq_iff_iff]; simp [and_assoc]

def szQuery (a : Query) : Int := szRect a.rect + (a.point.length : Int)
theorem szQuery_nn (a : Query) : 0 ≤ szQuery a:=by have:=szRect_nn a.rect; unfold szQuery; omega
def zQuery : Query := (⟨0, zRect, [], 0⟩ : Query)
set_option maxRecDepth 20000 in
set_option maxHeartbeats 2000000 in
theorem laws_eqQuery (w : World) {Aa1 : Option Addr} {ca1 : Nat} {Aa2 : Option Addr} {ca2 : Nat} {Aa3 : Option Addr} {ca3 : Nat} {a : Query} {sa_ : List Nat} (ha : kQueryS.Rel w [.int .i64 a.kind,.slice Aa1 a.rect.low.length ca1,.slice Aa2 a.rect.high.length ca2,.slice Aa3 a.point.length ca3,.int .i64 a.k] a [] sa_) {Ab1 : Option Addr} {cb1 : Nat} {Ab2 : Option Addr} {cb2 : Nat} {Ab3 : Option Addr} {cb3 : Nat} {b : Query} {sb_ : List Nat} (hb : kQueryS.Rel w [.int .i64 b.kind,.slice Ab1 b.rect.low.length cb1,.slice Ab2 b.rect.high.length cb2,.slice Ab3 b.point.length cb3,.int .i64 b.k] b [] sb_)  : Calls Tryz.prog 42 #[.agg #[.int .i64 a.kind,.slice Aa1 a.rect.low.length ca1,.slice Aa2 a.rect.high.length ca2,.slice Aa3 a.point.length ca3,.int .i64 a.k],.agg #[.int .i64 b.kind,.slice Ab1 b.rect.low.length cb1,.slice Ab2 b.rect.high.length cb2,.slice Ab3 b.point.length cb3,.int .i64 b.k]] w (fun e_ w2_=>e_ = .returned (.bool (decide (a = b))) ∧ Below w.heap.size w w2_):=by
  refine fnc (X:=X3 27 w) (l:=[(0,.agg #[.int .i64 a.kind,.slice Aa1 a.rect.low.length ca1,.slice Aa2 a.rect.high.length ca2,.slice Aa3 a.point.length ca3,.int .i64 a.k]),(1,.agg #[.int .i64 b.kind,.slice Ab1 b.rect.low.length cb1,.slice Ab2 b.rect.high.length cb2,.slice Ab3 b.point.length cb3,.int .i64 b.k])]) Tryz.func42 rfl rfl rfl ⟨rfl,rfl,trivial⟩ (s0d hb (s0d ha (s0n w))).1 ?_
  refine sq (rg (bx rfl rfl rfl rfl ?_))
  intro b1
  refine bx rfl rfl rfl rfl ?_
  intro b2
  refine a_ rfl rfl (en (nx (sq (sq (rg (vl (fa rfl rfl rfl) rfl (vl (ldb (u:=.int .i64 a.kind) 1 rfl rfl rfl rfl rfl rfl rfl) rfl (vl (fa rfl rfl rfl) rfl (vl (ldb (u:=.int .i64 b.kind) 0 rfl rfl rfl rfl rfl rfl rfl) rfl (vl (cm rfl rfl rfl rfl) rfl (en (nx ?_))))))))))))
  by_cases h3 : a.kind = b.kind
  · refine cf rfl (bne_eq_false_iff_eq.2 h3) (sk (nx (sq (sq (rg (vl (fa rfl rfl rfl) rfl (vl (ldb 1 rfl rfl rfl rfl rfl rfl rfl) rfl (vl (fa rfl rfl rfl) rfl (vl (ldb 0 rfl rfl rfl rfl rfl rfl rfl) rfl ?_)))))))))
    refine gd 3 kQueryS_p1_2 rfl (cs':=[.slice Aa1 a.rect.low.length ca1,.slice Aa2 a.rect.high.length ca2]) rfl fun s4 w_ rs4 us4=>?_
    refine gd 3 kQueryS_p1_2 rfl (cs':=[.slice Ab1 b.rect.low.length cb1,.slice Ab2 b.rect.high.length cb2]) rfl fun s5 w_ rs5 us5=>?_
    refine cs_ (v:=.bool (decide (a.rect = b.rect))) (by kernel_rfl) rfl rfl rfl (fun w_ hs_=>laws_eqRect w_ (hs_.at 1 rfl) (hs_.at 0 rfl)) (vl (nt rfl rfl) rfl (en (nx ?_)))
    by_cases h6 : decide (a.rect = b.rect) = true
    · refine cf rfl (not_f h6) (sk (nx (sq (sq (rg (vl (fa rfl rfl rfl) rfl (vl (ldb (u:=.slice Aa3 a.point.length ca3) 3 rfl rfl rfl rfl rfl rfl rfl) rfl (vl (fa rfl rfl rfl) rfl (vl (ldb (u:=.slice Ab3 b.point.length cb3) 2 rfl rfl rfl rfl rfl rfl rfl) rfl ?_)))))))))
      refine gd 5 kQueryS_p3_1 rfl (cs':=[.slice Aa3 a.point.length ca3]) rfl fun s7 w_ rs7 us7=>?_
      have Ls7:=Kd.sl_len rs7; have Cs7:=Kd.sl_cap rs7
      refine gd 5 kQueryS_p3_1 rfl (cs':=[.slice Ab3 b.point.length cb3]) rfl fun s8 w_ rs8 us8=>?_
      have Ls8:=Kd.sl_len rs8; have Cs8:=Kd.sl_cap rs8
      refine cs_ (v:=.bool (decide (a.point = b.point))) (by kernel_rfl) rfl rfl rfl (fun w_ hs_=>laws_eqInt64S w_ (hs_.at 1 rfl) (hs_.at 0 rfl)) (vl (nt rfl rfl) rfl (en (nx ?_)))
      by_cases h9 : decide (a.point = b.point) = true
      · refine cf rfl (not_f h9) (sk (nx (sq (sq (rg (vl (fa rfl rfl rfl) rfl (vl (ldb (u:=.int .i64 a.k) 5 rfl rfl rfl rfl rfl rfl rfl) rfl (vl (fa rfl rfl rfl) rfl (vl (ldb (u:=.int .i64 b.k) 4 rfl rfl rfl rfl rfl rfl rfl) rfl (vl (cm rfl rfl rfl rfl) rfl (en (nx ?_))))))))))))
        by_cases h10 : a.k = b.k
        · refine cf rfl (bne_eq_false_iff_eq.2 h10) (sk (nx (sq (rg (a_ rfl rfl (en (nx (rt (ret1 rfl rfl (fun w_ hs_=>⟨?_,hs_.below⟩))))))))))
          rw [Query_eq]; simp [h3,h6,h9,h10]
        · refine ct rfl (bne_iff_ne.2 h10) (sq (rg (a_ rfl rfl (en (nx (rt (xr (ret1 rfl rfl (fun w_ hs_=>⟨?_,hs_.below⟩)))))))))
          rw [Query_eq]; simp [h3,h6,h9,h10]
      · refine ct rfl (not_t (Bool.eq_false_iff.2 h9)) (sq (rg (a_ rfl rfl (en (nx (rt (xr (ret1 rfl rfl (fun w_ hs_=>⟨?_,hs_.below⟩)))))))))
        rw [Query_eq]; simp [h3,h6,h9]
    · refine ct rfl (not_t (Bool.eq_false_iff.2 h6)) (sq (rg (a_ rfl rfl (en (nx (rt (xr (ret1 rfl rfl (fun w_ hs_=>⟨?_,hs_.below⟩)))))))))
      rw [Query_eq]; simp [h3,h6]
  · refine ct rfl (bne_iff_ne.2 h3) (sq (rg (a_ rfl rfl (en (nx (rt (xr (ret1 rfl rfl (fun w_ hs_=>⟨?_,hs_.below⟩)))))))))
    rw [Query_eq]; simp [h3]
set_option maxRecDepth 20000 in
set_option maxHeartbeats 2000000 in
theorem laws_szQuery (w : World) (left : Int) {Aa1 : Option Addr} {ca1 : Nat} {Aa2 : Option Addr} {ca2 : Nat} {Aa3 : Option Addr} {ca3 : Nat} {a : Query} {sa_ : List Nat} (ha : kQueryS.Rel w [.int .i64 a.kind,.slice Aa1 a.rect.low.length ca1,.slice Aa2 a.rect.high.length ca2,.slice Aa3 a.point.length ca3,.int .i64 a.k] a [] sa_) (h0 : 0 ≤ left) (h1 : left ≤ 1152921504606846976) : Calls Tryz.prog 20 #[.agg #[.int .i64 a.kind,.slice Aa1 a.rect.low.length ca1,.slice Aa2 a.rect.high.length ca2,.slice Aa3 a.point.length ca3,.int .i64 a.k],.int .i64 left] w (fun e_ w2_=>e_ = .returned (.int .i64 (szTake (szQuery a) left)) ∧ Below w.heap.size w w2_):=by
  have n0:=szRect_nn a.rect
  refine fnc (X:=X3 18 w) (l:=[(0,.agg #[.int .i64 a.kind,.slice Aa1 a.rect.low.length ca1,.slice Aa2 a.rect.high.length ca2,.slice Aa3 a.point.length ca3,.int .i64 a.k]),(1,.int .i64 left)]) Tryz.func20 rfl rfl rfl ⟨rfl,rfl,trivial⟩ (s0d ha (s0n w)).1 ?_
  refine sq (rg (bx rfl rfl rfl rfl ?_))
  intro b1
  refine a_ rfl rfl (en (nx (sq (rg (vl (fa rfl rfl rfl) rfl (vl (ldb 0 rfl rfl rfl rfl rfl rfl rfl) rfl (m_ rfl rfl ?_)))))))
  refine gd 1 kQueryS_p1_2 rfl (cs':=[.slice Aa1 a.rect.low.length ca1,.slice Aa2 a.rect.high.length ca2]) rfl fun s2 w_ rs2 us2=>?_
  refine cs_ (v:=.int .i64 (szTake (szRect a.rect) left)) (by kernel_rfl) rfl rfl rfl (fun w_ hs_=>laws_szRect w_ _ (hs_.at 0 rfl) (by omega) (by omega)) (a_ rfl rfl (en (nx (sq (sq (rg (m_ rfl rfl (vl (cm rfl rfl rfl rfl) rfl (en (nx ?_))))))))))
  by_cases h3 : (szTake (szRect a.rect) left) < (0 : Int)
  · have eh3:=szTake_t h3
    refine ct rfl (decide_eq_true h3) (sq (rg (a_ rfl rfl (en (nx (rt (xr (ret1 rfl rfl (fun w_ hs_=>⟨?_,hs_.below⟩)))))))))
    exact ri (by unfold szTake szQuery; split <;> omega)
  · have eh3:=szTake_f h3
    refine cf rfl (decide_eq_false h3) (sk (nx (sq (rg (vl (fa rfl rfl rfl) rfl (vl (ldb (u:=.slice Aa3 a.point.length ca3) 1 rfl rfl rfl rfl rfl rfl rfl) rfl (m_ rfl rfl ?_)))))))
    refine gd 2 kQueryS_p3_1 rfl (cs':=[.slice Aa3 a.point.length ca3]) rfl fun s4 w_ rs4 us4=>?_
    have Ls4:=Kd.sl_len rs4; have Cs4:=Kd.sl_cap rs4
    refine cs_ (v:=.int .i64 (szTake ((a.point.length : Nat) : Int) (szTake (szRect a.rect) left))) (by kernel_rfl) rfl rfl rfl (fun w_ hs_=>laws_szInt64S w_ _ (hs_.at 0 rfl) (by omega) (by omega)) (a_ rfl rfl (en (nx (sq (sq (rg (m_ rfl rfl (vl (cm rfl rfl rfl rfl) rfl (en (nx ?_))))))))))
    by_cases h5 : (szTake ((a.point.length : Nat) : Int) (szTake (szRect a.rect) left)) < (0 : Int)
    · have eh5:=szTake_t h5
      refine ct rfl (decide_eq_true h5) (sq (rg (a_ rfl rfl (en (nx (rt (xr (ret1 rfl rfl (fun w_ hs_=>⟨?_,hs_.below⟩)))))))))
      exact ri (by unfold szTake szQuery; split <;> omega)
    · have eh5:=szTake_f h5
      refine cf rfl (decide_eq_false h5) (sk (nx (sq (rg (m_ rfl rfl (a_ rfl rfl (en (nx (rt (ret1 rfl rfl (fun w_ hs_=>⟨?_,hs_.below⟩)))))))))))
      exact ri (by unfold szTake szQuery; split <;> omega)
set_option maxRecDepth 20000 in
set_option maxHeartbeats 2000000 in
theorem laws_toQuery (w : World) {Aa1 : Option Addr} {ca1 : Nat} {Aa2 : Option Addr} {ca2 : Nat} {Aa3 : Option Addr} {ca3 : Nat} {a : Query} {sa_ : List Nat} (ha : kQueryS.Rel w [.int .i64 a.kind,.slice Aa1 a.rect.low.length ca1,.slice Aa2 a.rect.high.length ca2,.slice Aa3 a.point.length ca3,.int .i64 a.k] a [] sa_) (hz : szQuery a ≤ 1048576) : Calls Tryz.prog 31 #[.agg #[.int .i64 a.kind,.slice Aa1 a.rect.low.length ca1,.slice Aa2 a.rect.high.length ca2,.slice Aa3 a.point.length ca3,.int .i64 a.k]] w (Made kQueryO w a []):=by
  unfold szQuery at hz; have n0:=szRect_nn a.rect
  refine fnc (X:=X3 19 w) (l:=[(0,.agg #[.int .i64 a.kind,.slice Aa1 a.rect.low.length ca1,.slice Aa2 a.rect.high.length ca2,.slice Aa3 a.point.length ca3,.int .i64 a.k])]) Tryz.func31 rfl rfl rfl ⟨rfl,trivial⟩ (s0d ha (s0n w)).1 ?_
  refine sq (rg (bx rfl rfl rfl rfl ?_))
  intro b1
  refine al zero39 rfl rfl rfl ?_
  intro b2
  refine en (nx (sq (rg (al zero39 rfl rfl rfl ?_))))
  intro b3
  refine en (nx (sq (rg (vl (fa rfl rfl rfl) rfl (vl (ldb (u:=.int .i64 a.kind) 2 rfl rfl rfl rfl rfl rfl rfl) rfl (vl (fa rfl rfl rfl) rfl (sto rfl rfl rfl rfl rfl rfl rfl (cs':=[.int .i64 a.kind,.slice none 0 0,.slice none 0 0,.slice none 0 0,.int .i64 0]) rfl (en (nx (sq (rg (vl (fa rfl rfl rfl) rfl (vl (ldb 2 rfl rfl rfl rfl rfl rfl rfl) rfl ?_)))))))))))))
  refine gd 3 kQueryS_p1_2 rfl (cs':=[.slice Aa1 a.rect.low.length ca1,.slice Aa2 a.rect.high.length ca2]) rfl fun s4 w_ rs4 us4=>?_
  refine cm_ (dk:=kRectO) (x:=a.rect) (S:=[]) (by kernel_rfl) rfl rfl rfl sn0 (fun w_ hs_=>laws_toRect w_ (hs_.at 0 rfl) (by omega)) (fun cs_ o9 s10 w_ r11 t12=>?_)
  obtain ⟨A5,c6,A7,c8,rfl⟩:=kRectO_sh r11
  refine vl (fa rfl rfl rfl) rfl (f2 (sto rfl rfl rfl rfl rfl rfl rfl (cs':=[.int .i64 a.kind,.slice A5 a.rect.low.length c6,.slice A7 a.rect.high.length c8,.slice none 0 0,.int .i64 0]) rfl (en (nx (sq (rg (vl (fa rfl rfl rfl) rfl (vl (ldb (u:=.slice Aa3 a.point.length ca3) 4 rfl rfl rfl rfl rfl rfl rfl) rfl ?_))))))))
  refine gd 5 kQueryS_p3_1 rfl (cs':=[.slice Aa3 a.point.length ca3]) rfl fun s14 w_ rs14 us14=>?_
  have Ls14:=Kd.sl_len rs14; have Cs14:=Kd.sl_cap rs14
  refine cm_ (dk:=(Kd.row 2 Kd.i64)) (x:=a.point) (S:=[]) (by kernel_rfl) rfl rfl rfl sn0 (fun w_ hs_=>laws_toInt64S w_ (hs_.at 0 rfl) (by omega)) (fun cs_ o17 s18 w_ r19 t20=>?_)
  obtain ⟨A15,c16,rfl⟩:=Kd.row_sh r19
  exact vl (fa rfl rfl rfl) rfl (f2 (sto rfl rfl rfl rfl rfl rfl rfl (cs':=[.int .i64 a.kind,.slice A5 a.rect.low.length c6,.slice A7 a.rect.high.length c8,.slice A15 a.point.length c16,.int .i64 0]) rfl (en (nx (sq (rg (vl (fa rfl rfl rfl) rfl (vl (ldb (u:=.int .i64 a.k) 6 rfl rfl rfl rfl rfl rfl rfl) rfl (vl (fa rfl rfl rfl) rfl (sto rfl rfl rfl rfl rfl rfl rfl (cs':=[.int .i64 a.kind,.slice A5 a.rect.low.length c6,.slice A7 a.rect.high.length c8,.slice A15 a.point.length c16,.int .i64 a.k]) rfl (en (nx (sq (rg (vl (ldb 0 rfl rfl rfl rfl rfl rfl rfl) rfl (f5 (sto rfl rfl rfl rfl rfl rfl rfl (cs':=[.int .i64 a.kind,.slice A5 a.rect.low.length c6,.slice A7 a.rect.high.length c8,.slice A15 a.point.length c16,.int .i64 a.k]) rfl (en (nx (rt (gs Kd.i64 [.int .i64 a.k] a.k (fun _=>⟨rfl,rfl,rfl⟩) (f3 (gj (da:=(Kd.via (Kd.row 2 Kd.i64) Query.point)) (db:=(Kd.via Kd.i64 Query.k)) (x:=a) rfl (f4 (gj (da:=(Kd.via kRectO Query.rect)) (db:=((Kd.via (Kd.row 2 Kd.i64) Query.point).cat (Kd.via Kd.i64 Query.k))) (x:=a) rfl (gs Kd.i64 [.int .i64 a.kind] a.kind (fun _=>⟨rfl,rfl,rfl⟩) (gj (da:=(Kd.via Kd.i64 Query.kind)) (db:=((Kd.via kRectO Query.rect).cat ((Kd.via (Kd.row 2 Kd.i64) Query.point).cat (Kd.via Kd.i64 Query.k)))) (x:=a) rfl (retc 1 rfl rfl rfl rfl rfl rfl (fun w_ hs_=>made hs_ rfl (see_app see_nil (see_app t12 (see_app t20 see_nil))))))))))))))))))))))))))))))))
def szPair (a : Pair) : Int := szRect a.rect
theorem szPair_nn (a : Pair) : 0 ≤ szPair a:=by have:=szRect_nn a.rect; unfold szPair; omega
def zPair : Pair := (⟨0, zRect⟩ : Pair)
set_option maxRecDepth 20000 in
set_option maxHeartbeats 2000000 in
theorem laws_eqPair (w : World) {Aa1 : Option Addr} {ca1 : Nat} {Aa2 : Option Addr} {ca2 : Nat} {a : Pair} {sa_ : List Nat} (ha : kPairS.Rel w [.int .i64 a.id,.slice Aa1 a.rect.low.length ca1,.slice Aa2 a.rect.high.length ca2] a [] sa_) {Ab1 : Option Addr} {cb1 : Nat} {Ab2 : Option Addr} {cb2 : Nat} {b : Pair} {sb_ : List Nat} (hb : kPairS.Rel w [.int .i64 b.id,.slice Ab1 b.rect.low.length cb1,.slice Ab2 b.rect.high.length cb2] b [] sb_)  : Calls Tryz.prog 105 #[.agg #[.int .i64 a.id,.slice Aa1 a.rect.low.length ca1,.slice Aa2 a.rect.high.length ca2],.agg #[.int .i64 b.id,.slice Ab1 b.rect.low.length cb1,.slice Ab2 b.rect.high.length cb2]] w (fun e_ w2_=>e_ = .returned (.bool (decide (a = b))) ∧ Below w.heap.size w w2_):=by
  refine fnc (X:=X3 16 w) (l:=[(0,.agg #[.int .i64 a.id,.slice Aa1 a.rect.low.length ca1,.slice Aa2 a.rect.high.length ca2]),(1,.agg #[.int .i64 b.id,.slice Ab1 b.rect.low.length cb1,.slice Ab2 b.rect.high.length cb2])]) Tryz.func105 rfl rfl rfl ⟨rfl,rfl,trivial⟩ (s0d hb (s0d ha (s0n w))).1 ?_
  refine sq (rg (bx rfl rfl rfl rfl ?_))
  intro b1
  refine bx rfl rfl rfl rfl ?_
  intro b2
  refine a_ rfl rfl (en (nx (sq (sq (rg (vl (fa rfl rfl rfl) rfl (vl (ldb (u:=.int .i64 a.id) 1 rfl rfl rfl rfl rfl rfl rfl) rfl (vl (fa rfl rfl rfl) rfl (vl (ldb (u:=.int .i64 b.id) 0 rfl rfl rfl rfl rfl rfl rfl) rfl (vl (cm rfl rfl rfl rfl) rfl (en (nx ?_))))))))))))
  by_cases h3 : a.id = b.id
  · refine cf rfl (bne_eq_false_iff_eq.2 h3) (sk (nx (sq (sq (rg (vl (fa rfl rfl rfl) rfl (vl (ldb 1 rfl rfl rfl rfl rfl rfl rfl) rfl (vl (fa rfl rfl rfl) rfl (vl (ldb 0 rfl rfl rfl rfl rfl rfl rfl) rfl ?_)))))))))
    refine gd 3 kPairS_p1_2 rfl (cs':=[.slice Aa1 a.rect.low.length ca1,.slice Aa2 a.rect.high.length ca2]) rfl fun s4 w_ rs4 us4=>?_
    refine gd 3 kPairS_p1_2 rfl (cs':=[.slice Ab1 b.rect.low.length cb1,.slice Ab2 b.rect.high.length cb2]) rfl fun s5 w_ rs5 us5=>?_
    refine cs_ (v:=.bool (decide (a.rect = b.rect))) (by kernel_rfl) rfl rfl rfl (fun w_ hs_=>laws_eqRect w_ (hs_.at 1 rfl) (hs_.at 0 rfl)) (vl (nt rfl rfl) rfl (en (nx ?_)))
    by_cases h6 : decide (a.rect = b.rect) = true
    · refine cf rfl (not_f h6) (sk (nx (sq (rg (a_ rfl rfl (en (nx (rt (ret1 rfl rfl (fun w_ hs_=>⟨?_,hs_.below⟩))))))))))
      rw [Pair_eq]; simp [h3,h6]
    · refine ct rfl (not_t (Bool.eq_false_iff.2 h6)) (sq (rg (a_ rfl rfl (en (nx (rt (xr (ret1 rfl rfl (fun w_ hs_=>⟨?_,hs_.below⟩)))))))))
      rw [Pair_eq]; simp [h3,h6]
  · refine ct rfl (bne_iff_ne.2 h3) (sq (rg (a_ rfl rfl (en (nx (rt (xr (ret1 rfl rfl (fun w_ hs_=>⟨?_,hs_.below⟩)))))))))
    rw [Pair_eq]; simp [h3]
set_option maxRecDepth 20000 in
set_option maxHeartbeats 2000000 in
theorem laws_szPair (w : World) (left : Int) {Aa1 : Option Addr} {ca1 : Nat} {Aa2 : Option Addr} {ca2 : Nat} {a : Pair} {sa_ : List Nat} (ha : kPairS.Rel w [.int .i64 a.id,.slice Aa1 a.rect.low.length ca1,.slice Aa2 a.rect.high.length ca2] a [] sa_) (h0 : 0 ≤ left) (h1 : left ≤ 1152921504606846976) : Calls Tryz.prog 55 #[.agg #[.int .i64 a.id,.slice Aa1 a.rect.low.length ca1,.slice Aa2 a.rect.high.length ca2],.int .i64 left] w (fun e_ w2_=>e_ = .returned (.int .i64 (szTake (szPair a) left)) ∧ Below w.heap.size w w2_):=by
  have n0:=szRect_nn a.rect
  refine fnc (X:=X3 12 w) (l:=[(0,.agg #[.int .i64 a.id,.slice Aa1 a.rect.low.length ca1,.slice Aa2 a.rect.high.length ca2]),(1,.int .i64 left)]) Tryz.func55 rfl rfl rfl ⟨rfl,rfl,trivial⟩ (s0d ha (s0n w)).1 ?_
  refine sq (rg (bx rfl rfl rfl rfl ?_))
  intro b1
  refine a_ rfl rfl (en (nx (sq (rg (vl (fa rfl rfl rfl) rfl (vl (ldb 0 rfl rfl rfl rfl rfl rfl rfl) rfl (m_ rfl rfl ?_)))))))
  refine gd 1 kPairS_p1_2 rfl (cs':=[.slice Aa1 a.rect.low.length ca1,.slice Aa2 a.rect.high.length ca2]) rfl fun s2 w_ rs2 us2=>?_
  refine cs_ (v:=.int .i64 (szTake (szRect a.rect) left)) (by kernel_rfl) rfl rfl rfl (fun w_ hs_=>laws_szRect w_ _ (hs_.at 0 rfl) (by omega) (by omega)) (a_ rfl rfl (en (nx (sq (sq (rg (m_ rfl rfl (vl (cm rfl rfl rfl rfl) rfl (en (nx ?_))))))))))
  by_cases h3 : (szTake (szRect a.rect) left) < (0 : Int)
  · have eh3:=szTake_t h3
    refine ct rfl (decide_eq_true h3) (sq (rg (a_ rfl rfl (en (nx (rt (xr (ret1 rfl rfl (fun w_ hs_=>⟨?_,hs_.below⟩)))))))))
    exact ri (by unfold szTake szPair; split <;> omega)
  · have eh3:=szTake_f h3
    refine cf rfl (decide_eq_false h3) (sk (nx (sq (rg (m_ rfl rfl (a_ rfl rfl (en (nx (rt (ret1 rfl rfl (fun w_ hs_=>⟨?_,hs_.below⟩)))))))))))
    exact ri (by unfold szTake szPair; split <;> omega)
set_option maxRecDepth 20000 in
set_option maxHeartbeats 2000000 in
theorem laws_toPair (w : World) {Aa1 : Option Addr} {ca1 : Nat} {Aa2 : Option Addr} {ca2 : Nat} {a : Pair} {sa_ : List Nat} (ha : kPairS.Rel w [.int .i64 a.id,.slice Aa1 a.rect.low.length ca1,.slice Aa2 a.rect.high.length ca2] a [] sa_) (hz : szPair a ≤ 1048576) : Calls Tryz.prog 76 #[.agg #[.int .i64 a.id,.slice Aa1 a.rect.low.length ca1,.slice Aa2 a.rect.high.length ca2]] w (Made kPairO w a []):=by
  unfold szPair at hz; have n0:=szRect_nn a.rect
  refine fnc (X:=X3 12 w) (l:=[(0,.agg #[.int .i64 a.id,.slice Aa1 a.rect.low.length ca1,.slice Aa2 a.rect.high.length ca2])]) Tryz.func76 rfl rfl rfl ⟨rfl,trivial⟩ (s0d ha (s0n w)).1 ?_
  refine sq (rg (bx rfl rfl rfl rfl ?_))
  intro b1
  refine al zero119 rfl rfl rfl ?_
  intro b2
  refine en (nx (sq (rg (al zero119 rfl rfl rfl ?_))))
  intro b3
  refine en (nx (sq (rg (vl (fa rfl rfl rfl) rfl (vl (ldb (u:=.int .i64 a.id) 2 rfl rfl rfl rfl rfl rfl rfl) rfl (vl (fa rfl rfl rfl) rfl (sto rfl rfl rfl rfl rfl rfl rfl (cs':=[.int .i64 a.id,.slice none 0 0,.slice none 0 0]) rfl (en (nx (sq (rg (vl (fa rfl rfl rfl) rfl (vl (ldb 2 rfl rfl rfl rfl rfl rfl rfl) rfl ?_)))))))))))))
  refine gd 3 kPairS_p1_2 rfl (cs':=[.slice Aa1 a.rect.low.length ca1,.slice Aa2 a.rect.high.length ca2]) rfl fun s4 w_ rs4 us4=>?_
  refine cm_ (dk:=kRectO) (x:=a.rect) (S:=[]) (by kernel_rfl) rfl rfl rfl sn0 (fun w_ hs_=>laws_toRect w_ (hs_.at 0 rfl) (by omega)) (fun cs_ o9 s10 w_ r11 t12=>?_)
  obtain ⟨A5,c6,A7,c8,rfl⟩:=kRectO_sh r11
  exact vl (fa rfl rfl rfl) rfl (f2 (sto rfl rfl rfl rfl rfl rfl rfl (cs':=[.int .i64 a.id,.slice A5 a.rect.low.length c6,.slice A7 a.rect.high.length c8]) rfl (en (nx (sq (rg (vl (ldb 0 rfl rfl rfl rfl rfl rfl rfl) rfl (f3 (sto rfl rfl rfl rfl rfl rfl rfl (cs':=[.int .i64 a.id,.slice A5 a.rect.low.length c6,.slice A7 a.rect.high.length c8]) rfl (en (nx (rt (f2 (gs Kd.i64 [.int .i64 a.id] a.id (fun _=>⟨rfl,rfl,rfl⟩) (gj (da:=(Kd.via Kd.i64 Pair.id)) (db:=(Kd.via kRectO Pair.rect)) (x:=a) rfl (retc 1 rfl rfl rfl rfl rfl rfl (fun w_ hs_=>made hs_ rfl (see_app see_nil t12))))))))))))))))))
set_option maxRecDepth 20000 in
set_option maxHeartbeats 2000000 in
theorem laws_eqPairS (w : World) {Aa : Option Addr} {ca : Nat} {a : List Pair} {sa_ : List Nat} (ha : (Kd.sl kPairS).Rel w [.slice Aa a.length ca] a [] sa_) {Ab : Option Addr} {cb : Nat} {b : List Pair} {sb_ : List Nat} (hb : (Kd.sl kPairS).Rel w [.slice Ab b.length cb] b [] sb_)  : Calls Tryz.prog 44 #[.slice Aa a.length ca,.slice Ab b.length cb] w (fun e_ w2_=>e_ = .returned (.bool (decide (a = b))) ∧ Below w.heap.size w w2_):=by
  have La:=Kd.sl_len ha; have Ca:=Kd.sl_cap ha
  have Lb:=Kd.sl_len hb; have Cb:=Kd.sl_cap hb
  refine fnc (X:=X3 27 w) (l:=[(0,.slice Aa a.length ca),(1,.slice Ab b.length cb)]) Tryz.func44 rfl rfl rfl ⟨rfl,rfl,trivial⟩ (s0d hb (s0d ha (s0n w))).1 ?_
  refine sq (rg (a_ rfl rfl (en (nx (sq (sq (rg (m_ rfl rfl (vl (ln rfl rfl rfl) rfl (m_ rfl rfl (vl (ln rfl rfl rfl) rfl (vl (cm rfl rfl rfl rfl) rfl (en (nx ?_))))))))))))))
  by_cases h1 : ((a.length : Nat) : Int) = ((b.length : Nat) : Int)
  · refine cf rfl (bne_eq_false_iff_eq.2 h1) (sk (nx (sq (sq (rg (a_ rfl rfl (en (nx (bk ?_)))))))))
    refine lp (σ:=Nat) (fun k : Nat=>[(0,.slice Aa a.length ca),(1,.slice Ab b.length cb),(5,.int .i64 ((k : Nat) : Int))])
        (fun k : Nat=>[dat (Kd.sl kPairS) [.slice Ab b.length cb] b ([]) sb_,dat (Kd.sl kPairS) [.slice Aa a.length ca] a ([]) sa_])
        (fun k : Nat=>k ≤ a.length ∧ ∀ j x y,j < k → a[j]? = some x → b[j]? = some y → x = y) (fun k : Nat=>a.length - k) 0 [0,0] ⟨Nat.zero_le _,by simp⟩ ⟨rfl,rfl,rfl,trivial⟩ rfl ?_
    intro k hp_
    obtain ⟨hk,hinv⟩:=hp_
    refine sq (sq (rg (m_ rfl rfl (m_ rfl rfl (vl (ln rfl rfl rfl) rfl (vl (cm rfl rfl rfl rfl) rfl (en (nx ?_))))))))
    by_cases h2 : ((k : Nat) : Int) < ((a.length : Nat) : Int)
    · refine ct rfl (decide_eq_true h2) (sk (nx (sq (bk (sq ?_)))))
      refine gx 1 k rfl (by omega) fun y8 p3 cs_ s4 w7 m9 e5 r6 us4=>?_
      obtain ⟨A10,c11,A12,c13,rfl⟩:=kPairS_sh r6
      refine gx 1 k rfl (by omega) fun y19 p14 cs_ s15 w18 m20 e16 r17 us15=>?_
      obtain ⟨A21,c22,A23,c24,rfl⟩:=kPairS_sh r17
      refine gp 1 Kd.Sub.rfl rfl (cs':=[.int .i64 y8.id,.slice A10 y8.rect.low.length c11,.slice A12 y8.rect.high.length c13]) rfl fun s25 w_ rs25 us25=>?_
      refine gp 1 Kd.Sub.rfl rfl (cs':=[.int .i64 y19.id,.slice A21 y19.rect.low.length c22,.slice A23 y19.rect.high.length c24]) rfl fun s26 w_ rs26 us26=>?_
      refine r0 (qv 0 rfl (mv rfl rfl) rfl (by kernel_rfl) (qv 1 rfl (mv rfl rfl) rfl (by kernel_rfl) (qv 2 rfl (ix k e5 rfl rfl rfl rfl rfl (by omega)) rfl (by kernel_rfl) (qv 3 rfl (ldq 3 rfl rfl rfl rfl rfl rfl rfl) rfl (by kernel_rfl) (qv 4 rfl (mv rfl rfl) rfl (by kernel_rfl) (qv 5 rfl (mv rfl rfl) rfl (by kernel_rfl) (qv 6 rfl (ix k e16 rfl rfl rfl rfl rfl (by omega)) rfl (by kernel_rfl) (qv 7 rfl (ldq 2 rfl rfl rfl rfl rfl rfl rfl) rfl (by kernel_rfl) (q1 8 [0,0,0,0,0,0] rfl (by kernel_rfl) rfl (cs_ (v:=.bool (decide (y8 = y19))) (by kernel_rfl) rfl rfl rfl (fun w_ hs_=>by exact laws_eqPair w_ (hs_.at 1 rfl) (hs_.at 0 rfl)) (qn (qv 9 rfl (nt rfl rfl) rfl (by kernel_rfl) (qe [0,0,0,0,0,0] (by kernel_rfl) rfl (nx ?_))))))))))))))
      by_cases h27 : decide (y8 = y19) = true
      · exact cf rfl (not_f h27) (sk (xn (nx (rg (m_ rfl rfl (vl (ra (c:=((k + 1 : Nat) : Int)) rfl rfl rfl (by omega) (by omega) (by omega)) rfl (a_ rfl rfl (en (lpe (s:=k) (k + 1) [4,4] ⟨by omega,eq_step hinv m9 m20 (by simpa using h27)⟩ (by omega) ⟨rfl,rfl,rfl,trivial⟩ rfl)))))))))
      · refine ct rfl (not_t (Bool.eq_false_iff.2 h27)) (sq (rg (a_ rfl rfl (en (nx (rt (xrb (xr (xr (xrb (xr (ret1 rfl rfl (fun w_ hs_=>⟨?_,hs_.below⟩)))))))))))))
        exact rb (eqS_f m9 m20 (by simpa using h27)).symm
    · refine cf rfl (decide_eq_false h2) (xt (xq (xq (xb (nx (sq (rg (a_ rfl rfl (en (nx (rt (ret1 rfl rfl (fun w_ hs_=>⟨?_,hs_.below⟩)))))))))))))
      exact rb (eqS_t (by omega) hinv (by omega)).symm
  · refine ct rfl (bne_iff_ne.2 h1) (sq (rg (a_ rfl rfl (en (nx (rt (xr (ret1 rfl rfl (fun w_ hs_=>⟨?_,hs_.below⟩)))))))))
    exact rb (by rw [eq_comm,decide_eq_false_iff_not]; rintro rfl; exact h1 rfl)
set_option maxRecDepth 20000 in
set_option maxHeartbeats 2000000 in
theorem laws_szPairS (w : World) (left : Int) {Aa : Option Addr} {ca : Nat} {a : List Pair} {sa_ : List Nat} (ha : (Kd.sl kPairS).Rel w [.slice Aa a.length ca] a [] sa_) (h0 : 0 ≤ left) (h1 : left ≤ 1152921504606846976) : Calls Tryz.prog 22 #[.slice Aa a.length ca,.int .i64 left] w (fun e_ w2_=>e_ = .returned (.int .i64 (szTake (szList szPair a) left)) ∧ Below w.heap.size w w2_):=by
  have La:=Kd.sl_len ha; have Ca:=Kd.sl_cap ha
  refine fnc (X:=X3 27 w) (l:=[(0,.slice Aa a.length ca),(1,.int .i64 left)]) Tryz.func22 rfl rfl rfl ⟨rfl,rfl,trivial⟩ (s0d ha (s0n w)).1 ?_
  refine sq (rg (a_ rfl rfl (en (nx (sq (rg (m_ rfl rfl (m_ rfl rfl (vl (ln rfl rfl rfl) rfl (vl (rs (c:=left - ((a.length : Nat) : Int)) rfl rfl rfl rfl (by omega) (by omega)) rfl (a_ rfl rfl (en (nx (sq (sq (rg (m_ rfl rfl (vl (cm rfl rfl rfl rfl) rfl (en (nx ?_))))))))))))))))))))
  by_cases h1 : left - ((a.length : Nat) : Int) < (0 : Int)
  · refine ct rfl (decide_eq_true h1) (sq (rg (a_ rfl rfl (en (nx (rt (xr (ret1 rfl rfl (fun w_ hs_=>⟨?_,hs_.below⟩)))))))))
    exact ri (by have z:=sum_nn szPair_nn a; unfold szTake szList; split <;> omega)
  · refine cf rfl (decide_eq_false h1) (sk (nx (sq (sq (rg (a_ rfl rfl (en (nx (bk ?_)))))))))
    refine lp (σ:=Nat × Int) (fun z_ : Nat × Int=>match z_ with | (k,v)=>[(0,.slice Aa a.length ca),(1,.int .i64 v),(5,.int .i64 ((k : Nat) : Int))])
        (fun z_ : Nat × Int=>match z_ with | (k,v)=>[dat (Kd.sl kPairS) [.slice Aa a.length ca] a ([]) sa_])
        (fun z_ : Nat × Int=>match z_ with | (k,v)=>k ≤ a.length ∧ 0 ≤ v ∧ v = left - (a.length : Int) - sumTo szPair a k) (fun z_ : Nat × Int=>match z_ with | (k,v)=>a.length - k) (0,left - (a.length : Int)) [0] ⟨Nat.zero_le _,by omega,by simp [sumTo]⟩ ⟨rfl,rfl,rfl,trivial⟩ rfl ?_
    rintro ⟨k,v⟩ hp_
    obtain ⟨hk,hv0,hinv⟩:=hp_; have z1:=sumTo_nn szPair_nn a k; have z2:=sumTo_le szPair_nn a k
    refine sq (sq (rg (m_ rfl rfl (m_ rfl rfl (vl (ln rfl rfl rfl) rfl (vl (cm rfl rfl rfl rfl) rfl (en (nx ?_))))))))
    by_cases h2 : ((k : Nat) : Int) < ((a.length : Nat) : Int)
    · refine ct rfl (decide_eq_true h2) (sk (nx (sq (bk (sq (rg (m_ rfl rfl (m_ rfl rfl ?_))))))))
      refine gx 0 k rfl (by omega) fun y8 p3 cs_ s4 w7 m9 e5 r6 us4=>?_
      obtain ⟨A10,c11,A12,c13,rfl⟩:=kPairS_sh r6
      refine vl (ix k e5 rfl rfl rfl rfl rfl (by omega)) rfl (vl (ldq 0 rfl rfl rfl rfl rfl rfl rfl) rfl (m_ rfl rfl ?_))
      refine gp 0 Kd.Sub.rfl rfl (cs':=[.int .i64 y8.id,.slice A10 y8.rect.low.length c11,.slice A12 y8.rect.high.length c13]) rfl fun s14 w_ rs14 us14=>?_
      refine cs_ (v:=.int .i64 (szTake (szPair y8) v)) (by kernel_rfl) rfl rfl rfl (fun w_ hs_=>laws_szPair w_ _ (hs_.at 0 rfl) (by omega) (by omega)) (a_ rfl rfl (en (nx (sq (rg (m_ rfl rfl (vl (cm rfl rfl rfl rfl) rfl (en (nx ?_)))))))))
      by_cases h15 : (szTake (szPair y8) v) < (0 : Int)
      · have eh15:=szTake_t h15
        refine ct rfl (decide_eq_true h15) (sq (rg (a_ rfl rfl (en (nx (rt (xrb (xr (xr (xrb (xr (ret1 rfl rfl (fun w_ hs_=>⟨?_,hs_.below⟩)))))))))))))
        exact ri (by have z:=sumTo_step (f:=szPair) m9; have z3:=sumTo_le szPair_nn a (k + 1); unfold szTake szList; split <;> omega)
      · have eh15:=szTake_f h15
        exact cf rfl (decide_eq_false h15) (sk (xn (nx (rg (m_ rfl rfl (vl (ra (c:=((k + 1 : Nat) : Int)) rfl rfl rfl (by omega) (by omega) (by omega)) rfl (a_ rfl rfl (en (lpe (s:=(k,v)) (k + 1,(szTake (szPair y8) v)) [2] ⟨by omega,by omega,by have z:=sumTo_step (f:=szPair) m9; omega⟩ (by show a.length - (k + 1) < a.length - k; omega) ⟨rfl,rfl,rfl,trivial⟩ rfl)))))))))
    · refine cf rfl (decide_eq_false h2) (xt (xq (xq (xb (nx (sq (rg (m_ rfl rfl (a_ rfl rfl (en (nx (rt (ret1 rfl rfl (fun w_ hs_=>⟨?_,hs_.below⟩))))))))))))))
      exact ri (by have z:=sumTo_end (f:=szPair) (l:=a) (k:=k) (by omega); unfold szTake szList; split <;> omega)
set_option maxRecDepth 20000 in
set_option maxHeartbeats 2000000 in
theorem laws_toPairS (w : World) {Aa : Option Addr} {ca : Nat} {a : List Pair} {sa_ : List Nat} (ha : (Kd.sl kPairS).Rel w [.slice Aa a.length ca] a [] sa_) (hz : szList szPair a ≤ 1048576) : Calls Tryz.prog 33 #[.slice Aa a.length ca] w (Made (Kd.row 119 kPairO) w a []):=by
  have La:=Kd.sl_len ha; have Ca:=Kd.sl_cap ha
  have zl:=szList_len szPair_nn a
  refine fnc (X:=X3 23 w) (l:=[(0,.slice Aa a.length ca)]) Tryz.func33 rfl rfl rfl ⟨rfl,trivial⟩ (s0d ha (s0n w)).1 ?_
  refine sq (rg (a_ rfl rfl (en (nx (sq (rg (m_ rfl rfl (vl (ln rfl rfl rfl) rfl (mk (dk:=kPairO) (z:=zPair) rfl info119 rfl (fun _=>⟨[_],_,[],[],[],[],rfl,rfl,rfl,⟨rfl,rfl,rfl⟩,⟨[_],_,[],[],[],[],rfl,rfl,rfl,.inl ⟨rfl,rfl,rfl,rfl⟩,.inl ⟨rfl,rfl,rfl,rfl⟩⟩⟩) rfl rfl (by omega) (by omega) rfl ?_)))))))))
  intro b1
  refine a_ rfl rfl (en (nx (sq (sq (rg (a_ rfl rfl (en (nx (bk ?_)))))))))
  refine lp (σ:=Nat × List Nat × List Nat) (fun z_ : Nat × List Nat × List Nat=>match z_ with | (k,o,s)=>[(0,.slice Aa a.length ca),(3,.slice (some ⟨b1,0,none⟩) a.length a.length),(4,.int .i64 ((k : Nat) : Int))])
      (fun z_ : Nat × List Nat × List Nat=>match z_ with | (k,o,s)=>[dat (Kd.row 119 kPairO) [.slice (some ⟨b1,0,none⟩) a.length a.length] (a.take k ++ List.replicate (a.length - k) zPair) o s,dat (Kd.sl kPairS) [.slice Aa a.length ca] a ([]) sa_])
      (fun z_ : Nat × List Nat × List Nat=>match z_ with | (k,o,s)=>k ≤ a.length ∧ ∀ q ∈ s,w.heap.size ≤ q) (fun z_ : Nat × List Nat × List Nat=>match z_ with | (k,o,s)=>a.length - k) (0,[b1],[]) [0,0] ⟨Nat.zero_le _,by simp⟩ ⟨rfl,rfl,rfl,trivial⟩ rfl ?_
  rintro ⟨k,o,s⟩ hp_
  obtain ⟨hk,hinv⟩:=hp_
  refine sq (sq (rg (m_ rfl rfl (m_ rfl rfl (vl (ln rfl rfl rfl) rfl (vl (cm rfl rfl rfl rfl) rfl (en (nx ?_))))))))
  by_cases h2 : ((k : Nat) : Int) < ((a.length : Nat) : Int)
  · refine ct rfl (decide_eq_true h2) (sk (nx (sq (bk (rg (m_ rfl rfl (m_ rfl rfl (m_ rfl rfl (m_ rfl rfl ?_)))))))))
    refine gx 1 k rfl (by omega) fun y8 p3 cs_ s4 w7 m9 e5 r6 us4=>?_
    obtain ⟨A10,c11,A12,c13,rfl⟩:=kPairS_sh r6
    refine vl (ix k e5 rfl rfl rfl rfl rfl (by omega)) rfl (vl (ldq 0 rfl rfl rfl rfl rfl rfl rfl) rfl ?_)
    refine gp 0 Kd.Sub.rfl rfl (cs':=[.int .i64 y8.id,.slice A10 y8.rect.low.length c11,.slice A12 y8.rect.high.length c13]) rfl fun s14 w_ rs14 us14=>?_
    refine cm_ (dk:=kPairO) (x:=y8) (S:=[]) (by kernel_rfl) rfl rfl rfl sn0 (fun w_ hs_=>laws_toPair w_ (hs_.at 0 rfl) (by have z:=szList_mem szPair_nn m9; omega)) (fun cs_ o19 s20 w_ r21 t22=>?_)
    obtain ⟨A15,c16,A17,c18,rfl⟩:=kPairO_sh r21
    refine vl (ix k rfl rfl rfl rfl rfl rfl (by omega)) rfl (f3 (ste k rfl rfl rfl rfl rfl (by first | omega | (simp; omega)) (fun o24 s25 t26=>?_)))
    exact gr (a.take (k + 1) ++ List.replicate (a.length - (k + 1)) zPair) (rowStep m9) (en (xn (nx (rg (m_ rfl rfl (vl (ra (c:=((k + 1 : Nat) : Int)) rfl rfl rfl (by omega) (by omega) (by omega)) rfl (a_ rfl rfl (en (lpe (s:=(k,o,s)) (k + 1,o24,s25) [0,2] ⟨by omega,fun q hq=>(t26 q hq).elim (hinv q) (fun h=>(t22 q h).resolve_left (by simp))⟩ (by show a.length - (k + 1) < a.length - k; omega) ⟨rfl,rfl,rfl,trivial⟩ rfl)))))))))
  · exact cf rfl (decide_eq_false h2) (xt (xq (xq (xb (nx (sq (rg (m_ rfl rfl (a_ rfl rfl (en (nx (rt (gr a (rowEnd (by omega)) (ret1 rfl rfl (fun w_ hs_=>made hs_ rfl (fun q hq=>.inr (hinv q hq)))))))))))))))))
def szMark (a : Mark) : Int := 0

def zMark : Mark := (⟨0, 0, 0⟩ : Mark)
set_option maxRecDepth 20000 in
set_option maxHeartbeats 2000000 in
theorem laws_eqMark (w : World)  {a : Mark} {sa_ : List Nat} (ha : kMarkS.Rel w [.int .i64 a.dist,.int .i64 a.id,.int .i64 a.nsn] a [] sa_)  {b : Mark} {sb_ : List Nat} (hb : kMarkS.Rel w [.int .i64 b.dist,.int .i64 b.id,.int .i64 b.nsn] b [] sb_)  : Calls Tryz.prog 104 #[.agg #[.int .i64 a.dist,.int .i64 a.id,.int .i64 a.nsn],.agg #[.int .i64 b.dist,.int .i64 b.id,.int .i64 b.nsn]] w (fun e_ w2_=>e_ = .returned (.bool (decide (a = b))) ∧ Below w.heap.size w w2_):=by
  refine fnc (X:=X3 20 w) (l:=[(0,.agg #[.int .i64 a.dist,.int .i64 a.id,.int .i64 a.nsn]),(1,.agg #[.int .i64 b.dist,.int .i64 b.id,.int .i64 b.nsn])]) Tryz.func104 rfl rfl rfl ⟨rfl,rfl,trivial⟩ (s0d hb (s0d ha (s0n w))).1 ?_
  refine sq (rg (bx rfl rfl rfl rfl ?_))
  intro b1
  refine bx rfl rfl rfl rfl ?_
  intro b2
  refine a_ rfl rfl (en (nx (sq (sq (rg (vl (fa rfl rfl rfl) rfl (vl (ldb (u:=.int .i64 a.dist) 1 rfl rfl rfl rfl rfl rfl rfl) rfl (vl (fa rfl rfl rfl) rfl (vl (ldb (u:=.int .i64 b.dist) 0 rfl rfl rfl rfl rfl rfl rfl) rfl (vl (cm rfl rfl rfl rfl) rfl (en (nx ?_))))))))))))
  by_cases h3 : a.dist = b.dist
  · refine cf rfl (bne_eq_false_iff_eq.2 h3) (sk (nx (sq (sq (rg (vl (fa rfl rfl rfl) rfl (vl (ldb (u:=.int .i64 a.id) 1 rfl rfl rfl rfl rfl rfl rfl) rfl (vl (fa rfl rfl rfl) rfl (vl (ldb (u:=.int .i64 b.id) 0 rfl rfl rfl rfl rfl rfl rfl) rfl (vl (cm rfl rfl rfl rfl) rfl (en (nx ?_))))))))))))
    by_cases h4 : a.id = b.id
    · refine cf rfl (bne_eq_false_iff_eq.2 h4) (sk (nx (sq (sq (rg (vl (fa rfl rfl rfl) rfl (vl (ldb (u:=.int .i64 a.nsn) 1 rfl rfl rfl rfl rfl rfl rfl) rfl (vl (fa rfl rfl rfl) rfl (vl (ldb (u:=.int .i64 b.nsn) 0 rfl rfl rfl rfl rfl rfl rfl) rfl (vl (cm rfl rfl rfl rfl) rfl (en (nx ?_))))))))))))
      by_cases h5 : a.nsn = b.nsn
      · refine cf rfl (bne_eq_false_iff_eq.2 h5) (sk (nx (sq (rg (a_ rfl rfl (en (nx (rt (ret1 rfl rfl (fun w_ hs_=>⟨?_,hs_.below⟩))))))))))
        rw [Mark_eq]; simp [h3,h4,h5]
      · refine ct rfl (bne_iff_ne.2 h5) (sq (rg (a_ rfl rfl (en (nx (rt (xr (ret1 rfl rfl (fun w_ hs_=>⟨?_,hs_.below⟩)))))))))
        rw [Mark_eq]; simp [h3,h4,h5]
    · refine ct rfl (bne_iff_ne.2 h4) (sq (rg (a_ rfl rfl (en (nx (rt (xr (ret1 rfl rfl (fun w_ hs_=>⟨?_,hs_.below⟩)))))))))
      rw [Mark_eq]; simp [h3,h4]
  · refine ct rfl (bne_iff_ne.2 h3) (sq (rg (a_ rfl rfl (en (nx (rt (xr (ret1 rfl rfl (fun w_ hs_=>⟨?_,hs_.below⟩)))))))))
    rw [Mark_eq]; simp [h3]
set_option maxRecDepth 20000 in
set_option maxHeartbeats 2000000 in
theorem laws_toMark (w : World)  {a : Mark} {sa_ : List Nat} (ha : kMarkS.Rel w [.int .i64 a.dist,.int .i64 a.id,.int .i64 a.nsn] a [] sa_) (hz : szMark a ≤ 1048576) : Calls Tryz.prog 75 #[.agg #[.int .i64 a.dist,.int .i64 a.id,.int .i64 a.nsn]] w (Made kMarkO w a []):=by
  unfold szMark at hz
  refine fnc (X:=X3 14 w) (l:=[(0,.agg #[.int .i64 a.dist,.int .i64 a.id,.int .i64 a.nsn])]) Tryz.func75 rfl rfl rfl ⟨rfl,trivial⟩ (s0d ha (s0n w)).1 ?_
  refine sq (rg (bx rfl rfl rfl rfl ?_))
  intro b1
  refine al zero115 rfl rfl rfl ?_
  intro b2
  refine en (nx (sq (rg (al zero115 rfl rfl rfl ?_))))
  intro b3
  exact en (nx (sq (rg (vl (fa rfl rfl rfl) rfl (vl (ldb (u:=.int .i64 a.dist) 2 rfl rfl rfl rfl rfl rfl rfl) rfl (vl (fa rfl rfl rfl) rfl (sto rfl rfl rfl rfl rfl rfl rfl (cs':=[.int .i64 a.dist,.int .i64 0,.int .i64 0]) rfl (en (nx (sq (rg (vl (fa rfl rfl rfl) rfl (vl (ldb (u:=.int .i64 a.id) 2 rfl rfl rfl rfl rfl rfl rfl) rfl (vl (fa rfl rfl rfl) rfl (sto rfl rfl rfl rfl rfl rfl rfl (cs':=[.int .i64 a.dist,.int .i64 a.id,.int .i64 0]) rfl (en (nx (sq (rg (vl (fa rfl rfl rfl) rfl (vl (ldb (u:=.int .i64 a.nsn) 2 rfl rfl rfl rfl rfl rfl rfl) rfl (vl (fa rfl rfl rfl) rfl (sto rfl rfl rfl rfl rfl rfl rfl (cs':=[.int .i64 a.dist,.int .i64 a.id,.int .i64 a.nsn]) rfl (en (nx (sq (rg (vl (ldb 0 rfl rfl rfl rfl rfl rfl rfl) rfl (f1 (sto rfl rfl rfl rfl rfl rfl rfl (cs':=[.int .i64 a.dist,.int .i64 a.id,.int .i64 a.nsn]) rfl (en (nx (rt (gs Kd.i64 [.int .i64 a.nsn] a.nsn (fun _=>⟨rfl,rfl,rfl⟩) (gs Kd.i64 [.int .i64 a.id] a.id (fun _=>⟨rfl,rfl,rfl⟩) (gj (da:=(Kd.via Kd.i64 Mark.id)) (db:=(Kd.via Kd.i64 Mark.nsn)) (x:=a) rfl (gs Kd.i64 [.int .i64 a.dist] a.dist (fun _=>⟨rfl,rfl,rfl⟩) (gj (da:=(Kd.via Kd.i64 Mark.dist)) (db:=((Kd.via Kd.i64 Mark.id).cat (Kd.via Kd.i64 Mark.nsn))) (x:=a) rfl (retc 1 rfl rfl rfl rfl rfl rfl (fun w_ hs_=>made hs_ rfl (see_app see_nil (see_app see_nil see_nil))))))))))))))))))))))))))))))))))))))))))
set_option maxRecDepth 20000 in
set_option maxHeartbeats 2000000 in
theorem laws_eqMarkS (w : World) {Aa : Option Addr} {ca : Nat} {a : List Mark} {sa_ : List Nat} (ha : (Kd.sl kMarkS).Rel w [.slice Aa a.length ca] a [] sa_) {Ab : Option Addr} {cb : Nat} {b : List Mark} {sb_ : List Nat} (hb : (Kd.sl kMarkS).Rel w [.slice Ab b.length cb] b [] sb_)  : Calls Tryz.prog 43 #[.slice Aa a.length ca,.slice Ab b.length cb] w (fun e_ w2_=>e_ = .returned (.bool (decide (a = b))) ∧ Below w.heap.size w w2_):=by
  have La:=Kd.sl_len ha; have Ca:=Kd.sl_cap ha
  have Lb:=Kd.sl_len hb; have Cb:=Kd.sl_cap hb
  refine fnc (X:=X3 27 w) (l:=[(0,.slice Aa a.length ca),(1,.slice Ab b.length cb)]) Tryz.func43 rfl rfl rfl ⟨rfl,rfl,trivial⟩ (s0d hb (s0d ha (s0n w))).1 ?_
  refine sq (rg (a_ rfl rfl (en (nx (sq (sq (rg (m_ rfl rfl (vl (ln rfl rfl rfl) rfl (m_ rfl rfl (vl (ln rfl rfl rfl) rfl (vl (cm rfl rfl rfl rfl) rfl (en (nx ?_))))))))))))))
  by_cases h1 : ((a.length : Nat) : Int) = ((b.length : Nat) : Int)
  · refine cf rfl (bne_eq_false_iff_eq.2 h1) (sk (nx (sq (sq (rg (a_ rfl rfl (en (nx (bk ?_)))))))))
    refine lp (σ:=Nat) (fun k : Nat=>[(0,.slice Aa a.length ca),(1,.slice Ab b.length cb),(5,.int .i64 ((k : Nat) : Int))])
        (fun k : Nat=>[dat (Kd.sl kMarkS) [.slice Ab b.length cb] b ([]) sb_,dat (Kd.sl kMarkS) [.slice Aa a.length ca] a ([]) sa_])
        (fun k : Nat=>k ≤ a.length ∧ ∀ j x y,j < k → a[j]? = some x → b[j]? = some y → x = y) (fun k : Nat=>a.length - k) 0 [0,0] ⟨Nat.zero_le _,by simp⟩ ⟨rfl,rfl,rfl,trivial⟩ rfl ?_
    intro k hp_
    obtain ⟨hk,hinv⟩:=hp_
    refine sq (sq (rg (m_ rfl rfl (m_ rfl rfl (vl (ln rfl rfl rfl) rfl (vl (cm rfl rfl rfl rfl) rfl (en (nx ?_))))))))
    by_cases h2 : ((k : Nat) : Int) < ((a.length : Nat) : Int)
    · refine ct rfl (decide_eq_true h2) (sk (nx (sq (bk (sq ?_)))))
      refine gx 1 k rfl (by omega) fun y8 p3 cs_ s4 w7 m9 e5 r6 us4=>?_
      obtain ⟨rfl⟩:=kMarkS_sh r6
      refine gx 1 k rfl (by omega) fun y15 p10 cs_ s11 w14 m16 e12 r13 us11=>?_
      obtain ⟨rfl⟩:=kMarkS_sh r13
      refine gp 1 Kd.Sub.rfl rfl (cs':=[.int .i64 y8.dist,.int .i64 y8.id,.int .i64 y8.nsn]) rfl fun s17 w_ rs17 us17=>?_
      refine gp 1 Kd.Sub.rfl rfl (cs':=[.int .i64 y15.dist,.int .i64 y15.id,.int .i64 y15.nsn]) rfl fun s18 w_ rs18 us18=>?_
      refine r0 (qv 0 rfl (mv rfl rfl) rfl (by kernel_rfl) (qv 1 rfl (mv rfl rfl) rfl (by kernel_rfl) (qv 2 rfl (ix k e5 rfl rfl rfl rfl rfl (by omega)) rfl (by kernel_rfl) (qv 3 rfl (ldq 3 rfl rfl rfl rfl rfl rfl rfl) rfl (by kernel_rfl) (qv 4 rfl (mv rfl rfl) rfl (by kernel_rfl) (qv 5 rfl (mv rfl rfl) rfl (by kernel_rfl) (qv 6 rfl (ix k e12 rfl rfl rfl rfl rfl (by omega)) rfl (by kernel_rfl) (qv 7 rfl (ldq 2 rfl rfl rfl rfl rfl rfl rfl) rfl (by kernel_rfl) (q1 8 [0,0,0,0,0,0] rfl (by kernel_rfl) rfl (cs_ (v:=.bool (decide (y8 = y15))) (by kernel_rfl) rfl rfl rfl (fun w_ hs_=>by exact laws_eqMark w_ (hs_.at 1 rfl) (hs_.at 0 rfl)) (qn (qv 9 rfl (nt rfl rfl) rfl (by kernel_rfl) (qe [0,0,0,0,0,0] (by kernel_rfl) rfl (nx ?_))))))))))))))
      by_cases h19 : decide (y8 = y15) = true
      · exact cf rfl (not_f h19) (sk (xn (nx (rg (m_ rfl rfl (vl (ra (c:=((k + 1 : Nat) : Int)) rfl rfl rfl (by omega) (by omega) (by omega)) rfl (a_ rfl rfl (en (lpe (s:=k) (k + 1) [4,4] ⟨by omega,eq_step hinv m9 m16 (by simpa using h19)⟩ (by omega) ⟨rfl,rfl,rfl,trivial⟩ rfl)))))))))
      · refine ct rfl (not_t (Bool.eq_false_iff.2 h19)) (sq (rg (a_ rfl rfl (en (nx (rt (xrb (xr (xr (xrb (xr (ret1 rfl rfl (fun w_ hs_=>⟨?_,hs_.below⟩)))))))))))))
        exact rb (eqS_f m9 m16 (by simpa using h19)).symm
    · refine cf rfl (decide_eq_false h2) (xt (xq (xq (xb (nx (sq (rg (a_ rfl rfl (en (nx (rt (ret1 rfl rfl (fun w_ hs_=>⟨?_,hs_.below⟩)))))))))))))
      exact rb (eqS_t (by omega) hinv (by omega)).symm
  · refine ct rfl (bne_iff_ne.2 h1) (sq (rg (a_ rfl rfl (en (nx (rt (xr (ret1 rfl rfl (fun w_ hs_=>⟨?_,hs_.below⟩)))))))))
    exact rb (by rw [eq_comm,decide_eq_false_iff_not]; rintro rfl; exact h1 rfl)
set_option maxRecDepth 20000 in
set_option maxHeartbeats 2000000 in
theorem laws_szMarkS (w : World) (left : Int) {Aa : Option Addr} {ca : Nat} {a : List Mark} {sa_ : List Nat} (ha : (Kd.sl kMarkS).Rel w [.slice Aa a.length ca] a [] sa_) (h0 : 0 ≤ left) (h1 : left ≤ 1152921504606846976) : Calls Tryz.prog 21 #[.slice Aa a.length ca,.int .i64 left] w (fun e_ w2_=>e_ = .returned (.int .i64 (szTake ((a.length : Nat) : Int) left)) ∧ Below w.heap.size w w2_):=by
  have La:=Kd.sl_len ha; have Ca:=Kd.sl_cap ha
  refine fnc (X:=X3 12 w) (l:=[(0,.slice Aa a.length ca),(1,.int .i64 left)]) Tryz.func21 rfl rfl rfl ⟨rfl,rfl,trivial⟩ (s0d ha (s0n w)).1 ?_
  refine sq (rg (a_ rfl rfl (en (nx (sq (rg (m_ rfl rfl (m_ rfl rfl (vl (ln rfl rfl rfl) rfl (vl (rs (c:=left - ((a.length : Nat) : Int)) rfl rfl rfl rfl (by omega) (by omega)) rfl (a_ rfl rfl (en (nx (sq (sq (rg (m_ rfl rfl (vl (cm rfl rfl rfl rfl) rfl (en (nx ?_))))))))))))))))))))
  by_cases h1 : left - ((a.length : Nat) : Int) < (0 : Int)
  · refine ct rfl (decide_eq_true h1) (sq (rg (a_ rfl rfl (en (nx (rt (xr (ret1 rfl rfl (fun w_ hs_=>⟨?_,hs_.below⟩)))))))))
    exact ri (by unfold szTake; split <;> omega)
  · refine cf rfl (decide_eq_false h1) (sk (nx (sq (rg (m_ rfl rfl (a_ rfl rfl (en (nx (rt (ret1 rfl rfl (fun w_ hs_=>⟨?_,hs_.below⟩)))))))))))
    exact ri (by unfold szTake; split <;> omega)
set_option maxRecDepth 20000 in
set_option maxHeartbeats 2000000 in
theorem laws_toMarkS (w : World) {Aa : Option Addr} {ca : Nat} {a : List Mark} {sa_ : List Nat} (ha : (Kd.sl kMarkS).Rel w [.slice Aa a.length ca] a [] sa_) (hz : (a.length : Int) ≤ 1048576) : Calls Tryz.prog 32 #[.slice Aa a.length ca] w (Made (Kd.row 115 kMarkO) w a []):=by
  have La:=Kd.sl_len ha; have Ca:=Kd.sl_cap ha
  refine fnc (X:=X3 23 w) (l:=[(0,.slice Aa a.length ca)]) Tryz.func32 rfl rfl rfl ⟨rfl,trivial⟩ (s0d ha (s0n w)).1 ?_
  refine sq (rg (a_ rfl rfl (en (nx (sq (rg (m_ rfl rfl (vl (ln rfl rfl rfl) rfl (mk (dk:=kMarkO) (z:=zMark) rfl info115 rfl (fun _=>⟨[_],_,[],[],[],[],rfl,rfl,rfl,⟨rfl,rfl,rfl⟩,⟨[_],_,[],[],[],[],rfl,rfl,rfl,⟨rfl,rfl,rfl⟩,⟨rfl,rfl,rfl⟩⟩⟩) rfl rfl (by omega) (by omega) rfl ?_)))))))))
  intro b1
  refine a_ rfl rfl (en (nx (sq (sq (rg (a_ rfl rfl (en (nx (bk ?_)))))))))
  refine lp (σ:=Nat × List Nat × List Nat) (fun z_ : Nat × List Nat × List Nat=>match z_ with | (k,o,s)=>[(0,.slice Aa a.length ca),(3,.slice (some ⟨b1,0,none⟩) a.length a.length),(4,.int .i64 ((k : Nat) : Int))])
      (fun z_ : Nat × List Nat × List Nat=>match z_ with | (k,o,s)=>[dat (Kd.row 115 kMarkO) [.slice (some ⟨b1,0,none⟩) a.length a.length] (a.take k ++ List.replicate (a.length - k) zMark) o s,dat (Kd.sl kMarkS) [.slice Aa a.length ca] a ([]) sa_])
      (fun z_ : Nat × List Nat × List Nat=>match z_ with | (k,o,s)=>k ≤ a.length ∧ ∀ q ∈ s,w.heap.size ≤ q) (fun z_ : Nat × List Nat × List Nat=>match z_ with | (k,o,s)=>a.length - k) (0,[b1],[]) [0,0] ⟨Nat.zero_le _,by simp⟩ ⟨rfl,rfl,rfl,trivial⟩ rfl ?_
  rintro ⟨k,o,s⟩ hp_
  obtain ⟨hk,hinv⟩:=hp_
  refine sq (sq (rg (m_ rfl rfl (m_ rfl rfl (vl (ln rfl rfl rfl) rfl (vl (cm rfl rfl rfl rfl) rfl (en (nx ?_))))))))
  by_cases h2 : ((k : Nat) : Int) < ((a.length : Nat) : Int)
  · refine ct rfl (decide_eq_true h2) (sk (nx (sq (bk (rg (m_ rfl rfl (m_ rfl rfl (m_ rfl rfl (m_ rfl rfl ?_)))))))))
    refine gx 1 k rfl (by omega) fun y8 p3 cs_ s4 w7 m9 e5 r6 us4=>?_
    obtain ⟨rfl⟩:=kMarkS_sh r6
    refine vl (ix k e5 rfl rfl rfl rfl rfl (by omega)) rfl (vl (ldq 0 rfl rfl rfl rfl rfl rfl rfl) rfl ?_)
    refine gp 0 Kd.Sub.rfl rfl (cs':=[.int .i64 y8.dist,.int .i64 y8.id,.int .i64 y8.nsn]) rfl fun s10 w_ rs10 us10=>?_
    refine cm_ (dk:=kMarkO) (x:=y8) (S:=[]) (by kernel_rfl) rfl rfl rfl sn0 (fun w_ hs_=>laws_toMark w_ (hs_.at 0 rfl) (by unfold szMark; omega)) (fun cs_ o11 s12 w_ r13 t14=>?_)
    obtain ⟨rfl⟩:=kMarkO_sh r13
    refine vl (ix k rfl rfl rfl rfl rfl rfl (by omega)) rfl (f3 (ste k rfl rfl rfl rfl rfl (by first | omega | (simp; omega)) (fun o16 s17 t18=>?_)))
    exact gr (a.take (k + 1) ++ List.replicate (a.length - (k + 1)) zMark) (rowStep m9) (en (xn (nx (rg (m_ rfl rfl (vl (ra (c:=((k + 1 : Nat) : Int)) rfl rfl rfl (by omega) (by omega) (by omega)) rfl (a_ rfl rfl (en (lpe (s:=(k,o,s)) (k + 1,o16,s17) [0,2] ⟨by omega,fun q hq=>(t18 q hq).elim (hinv q) (fun h=>(t14 q h).resolve_left (by simp))⟩ (by show a.length - (k + 1) < a.length - k; omega) ⟨rfl,rfl,rfl,trivial⟩ rfl)))))))))
  · exact cf rfl (decide_eq_false h2) (xt (xq (xq (xb (nx (sq (rg (m_ rfl rfl (a_ rfl rfl (en (nx (rt (gr a (rowEnd (by omega)) (ret1 rfl rfl (fun w_ hs_=>made hs_ rfl (fun q hq=>.inr (hinv q hq)))))))))))))))))
def szLook (a : Look) : Int := szQuery a.query + (a.front.length : Int) + szList szPair a.found
theorem szLook_nn (a : Look) : 0 ≤ szLook a:=by have:=szQuery_nn a.query; have:=szList_nn szPair_nn a.found; unfold szLook; omega
def zLook : Look := (⟨zQuery, [], []⟩ : Look)
set_option maxRecDepth 20000 in
set_option maxHeartbeats 2000000 in
theorem laws_eqLook (w : World) {Aa1 : Option Addr} {ca1 : Nat} {Aa2 : Option Addr} {ca2 : Nat} {Aa3 : Option Addr} {ca3 : Nat} {Aa5 : Option Addr} {ca5 : Nat} {Aa6 : Option Addr} {ca6 : Nat} {a : Look} {sa_ : List Nat} (ha : kLookS.Rel w [.int .i64 a.query.kind,.slice Aa1 a.query.rect.low.length ca1,.slice Aa2 a.query.rect.high.length ca2,.slice Aa3 a.query.point.length ca3,.int .i64 a.query.k,.slice Aa5 a.front.length ca5,.slice Aa6 a.found.length ca6] a [] sa_) {Ab1 : Option Addr} {cb1 : Nat} {Ab2 : Option Addr} {cb2 : Nat} {Ab3 : Option Addr} {cb3 : Nat} {Ab5 : Option Addr} {cb5 : Nat} {Ab6 : Option Addr} {cb6 : Nat} {b : Look} {sb_ : List Nat} (hb : kLookS.Rel w [.int .i64 b.query.kind,.slice Ab1 b.query.rect.low.length cb1,.slice Ab2 b.query.rect.high.length cb2,.slice Ab3 b.query.point.length cb3,.int .i64 b.query.k,.slice Ab5 b.front.length cb5,.slice Ab6 b.found.length cb6] b [] sb_)  : Calls Tryz.prog 12 #[.agg #[.int .i64 a.query.kind,.slice Aa1 a.query.rect.low.length ca1,.slice Aa2 a.query.rect.high.length ca2,.slice Aa3 a.query.point.length ca3,.int .i64 a.query.k,.slice Aa5 a.front.length ca5,.slice Aa6 a.found.length ca6],.agg #[.int .i64 b.query.kind,.slice Ab1 b.query.rect.low.length cb1,.slice Ab2 b.query.rect.high.length cb2,.slice Ab3 b.query.point.length cb3,.int .i64 b.query.k,.slice Ab5 b.front.length cb5,.slice Ab6 b.found.length cb6]] w (fun e_ w2_=>e_ = .returned (.bool (decide (a = b))) ∧ Below w.heap.size w w2_):=by
  refine fnc (X:=X3 23 w) (l:=[(0,.agg #[.int .i64 a.query.kind,.slice Aa1 a.query.rect.low.length ca1,.slice Aa2 a.query.rect.high.length ca2,.slice Aa3 a.query.point.length ca3,.int .i64 a.query.k,.slice Aa5 a.front.length ca5,.slice Aa6 a.found.length ca6]),(1,.agg #[.int .i64 b.query.kind,.slice Ab1 b.query.rect.low.length cb1,.slice Ab2 b.query.rect.high.length cb2,.slice Ab3 b.query.point.length cb3,.int .i64 b.query.k,.slice Ab5 b.front.length cb5,.slice Ab6 b.found.length cb6])]) Tryz.func12 rfl rfl rfl ⟨rfl,rfl,trivial⟩ (s0d hb (s0d ha (s0n w))).1 ?_
  refine sq (rg (bx rfl rfl rfl rfl ?_))
  intro b1
  refine bx rfl rfl rfl rfl ?_
  intro b2
  refine a_ rfl rfl (en (nx (sq (sq (rg (vl (fa rfl rfl rfl) rfl (vl (ldb 1 rfl rfl rfl rfl rfl rfl rfl) rfl (vl (fa rfl rfl rfl) rfl (vl (ldb 0 rfl rfl rfl rfl rfl rfl rfl) rfl ?_)))))))))
  refine gd 3 kLookS_p0_5 rfl (cs':=[.int .i64 a.query.kind,.slice Aa1 a.query.rect.low.length ca1,.slice Aa2 a.query.rect.high.length ca2,.slice Aa3 a.query.point.length ca3,.int .i64 a.query.k]) rfl fun s3 w_ rs3 us3=>?_
  refine gd 3 kLookS_p0_5 rfl (cs':=[.int .i64 b.query.kind,.slice Ab1 b.query.rect.low.length cb1,.slice Ab2 b.query.rect.high.length cb2,.slice Ab3 b.query.point.length cb3,.int .i64 b.query.k]) rfl fun s4 w_ rs4 us4=>?_
  refine cs_ (v:=.bool (decide (a.query = b.query))) (by kernel_rfl) rfl rfl rfl (fun w_ hs_=>laws_eqQuery w_ (hs_.at 1 rfl) (hs_.at 0 rfl)) (vl (nt rfl rfl) rfl (en (nx ?_)))
  by_cases h5 : decide (a.query = b.query) = true
  · refine cf rfl (not_f h5) (sk (nx (sq (sq (rg (vl (fa rfl rfl rfl) rfl (vl (ldb (u:=.slice Aa5 a.front.length ca5) 3 rfl rfl rfl rfl rfl rfl rfl) rfl (vl (fa rfl rfl rfl) rfl (vl (ldb (u:=.slice Ab5 b.front.length cb5) 2 rfl rfl rfl rfl rfl rfl rfl) rfl ?_)))))))))
    refine gd 5 kLookS_p5_1 rfl (cs':=[.slice Aa5 a.front.length ca5]) rfl fun s6 w_ rs6 us6=>?_
    have Ls6:=Kd.sl_len rs6; have Cs6:=Kd.sl_cap rs6
    refine gd 5 kLookS_p5_1 rfl (cs':=[.slice Ab5 b.front.length cb5]) rfl fun s7 w_ rs7 us7=>?_
    have Ls7:=Kd.sl_len rs7; have Cs7:=Kd.sl_cap rs7
    refine cs_ (v:=.bool (decide (a.front = b.front))) (by kernel_rfl) rfl rfl rfl (fun w_ hs_=>laws_eqMarkS w_ (hs_.at 1 rfl) (hs_.at 0 rfl)) (vl (nt rfl rfl) rfl (en (nx ?_)))
    by_cases h8 : decide (a.front = b.front) = true
    · refine cf rfl (not_f h8) (sk (nx (sq (sq (rg (vl (fa rfl rfl rfl) rfl (vl (ldb (u:=.slice Aa6 a.found.length ca6) 5 rfl rfl rfl rfl rfl rfl rfl) rfl (vl (fa rfl rfl rfl) rfl (vl (ldb (u:=.slice Ab6 b.found.length cb6) 4 rfl rfl rfl rfl rfl rfl rfl) rfl ?_)))))))))
      refine gd 7 kLookS_p6_1 rfl (cs':=[.slice Aa6 a.found.length ca6]) rfl fun s9 w_ rs9 us9=>?_
      have Ls9:=Kd.sl_len rs9; have Cs9:=Kd.sl_cap rs9
      refine gd 7 kLookS_p6_1 rfl (cs':=[.slice Ab6 b.found.length cb6]) rfl fun s10 w_ rs10 us10=>?_
      have Ls10:=Kd.sl_len rs10; have Cs10:=Kd.sl_cap rs10
      refine cs_ (v:=.bool (decide (a.found = b.found))) (by kernel_rfl) rfl rfl rfl (fun w_ hs_=>laws_eqPairS w_ (hs_.at 1 rfl) (hs_.at 0 rfl)) (vl (nt rfl rfl) rfl (en (nx ?_)))
      by_cases h11 : decide (a.found = b.found) = true
      · refine cf rfl (not_f h11) (sk (nx (sq (rg (a_ rfl rfl (en (nx (rt (ret1 rfl rfl (fun w_ hs_=>⟨?_,hs_.below⟩))))))))))
        rw [Look_eq]; simp [h5,h8,h11]
      · refine ct rfl (not_t (Bool.eq_false_iff.2 h11)) (sq (rg (a_ rfl rfl (en (nx (rt (xr (ret1 rfl rfl (fun w_ hs_=>⟨?_,hs_.below⟩)))))))))
        rw [Look_eq]; simp [h5,h8,h11]
    · refine ct rfl (not_t (Bool.eq_false_iff.2 h8)) (sq (rg (a_ rfl rfl (en (nx (rt (xr (ret1 rfl rfl (fun w_ hs_=>⟨?_,hs_.below⟩)))))))))
      rw [Look_eq]; simp [h5,h8]
  · refine ct rfl (not_t (Bool.eq_false_iff.2 h5)) (sq (rg (a_ rfl rfl (en (nx (rt (xr (ret1 rfl rfl (fun w_ hs_=>⟨?_,hs_.below⟩)))))))))
    rw [Look_eq]; simp [h5]
set_option maxRecDepth 20000 in
set_option maxHeartbeats 2000000 in
theorem laws_szLook (w : World) (left : Int) {Aa1 : Option Addr} {ca1 : Nat} {Aa2 : Option Addr} {ca2 : Nat} {Aa3 : Option Addr} {ca3 : Nat} {Aa5 : Option Addr} {ca5 : Nat} {Aa6 : Option Addr} {ca6 : Nat} {a : Look} {sa_ : List Nat} (ha : kLookS.Rel w [.int .i64 a.query.kind,.slice Aa1 a.query.rect.low.length ca1,.slice Aa2 a.query.rect.high.length ca2,.slice Aa3 a.query.point.length ca3,.int .i64 a.query.k,.slice Aa5 a.front.length ca5,.slice Aa6 a.found.length ca6] a [] sa_) (h0 : 0 ≤ left) (h1 : left ≤ 1152921504606846976) : Calls Tryz.prog 5 #[.agg #[.int .i64 a.query.kind,.slice Aa1 a.query.rect.low.length ca1,.slice Aa2 a.query.rect.high.length ca2,.slice Aa3 a.query.point.length ca3,.int .i64 a.query.k,.slice Aa5 a.front.length ca5,.slice Aa6 a.found.length ca6],.int .i64 left] w (fun e_ w2_=>e_ = .returned (.int .i64 (szTake (szLook a) left)) ∧ Below w.heap.size w w2_):=by
  have n0:=szQuery_nn a.query; have n1:=szList_nn szPair_nn a.found
  refine fnc (X:=X3 24 w) (l:=[(0,.agg #[.int .i64 a.query.kind,.slice Aa1 a.query.rect.low.length ca1,.slice Aa2 a.query.rect.high.length ca2,.slice Aa3 a.query.point.length ca3,.int .i64 a.query.k,.slice Aa5 a.front.length ca5,.slice Aa6 a.found.length ca6]),(1,.int .i64 left)]) Tryz.func5 rfl rfl rfl ⟨rfl,rfl,trivial⟩ (s0d ha (s0n w)).1 ?_
  refine sq (rg (bx rfl rfl rfl rfl ?_))
  intro b1
  refine a_ rfl rfl (en (nx (sq (rg (vl (fa rfl rfl rfl) rfl (vl (ldb 0 rfl rfl rfl rfl rfl rfl rfl) rfl (m_ rfl rfl ?_)))))))
  refine gd 1 kLookS_p0_5 rfl (cs':=[.int .i64 a.query.kind,.slice Aa1 a.query.rect.low.length ca1,.slice Aa2 a.query.rect.high.length ca2,.slice Aa3 a.query.point.length ca3,.int .i64 a.query.k]) rfl fun s2 w_ rs2 us2=>?_
  refine cs_ (v:=.int .i64 (szTake (szQuery a.query) left)) (by kernel_rfl) rfl rfl rfl (fun w_ hs_=>laws_szQuery w_ _ (hs_.at 0 rfl) (by omega) (by omega)) (a_ rfl rfl (en (nx (sq (sq (rg (m_ rfl rfl (vl (cm rfl rfl rfl rfl) rfl (en (nx ?_))))))))))
  by_cases h3 : (szTake (szQuery a.query) left) < (0 : Int)
  · have eh3:=szTake_t h3
    refine ct rfl (decide_eq_true h3) (sq (rg (a_ rfl rfl (en (nx (rt (xr (ret1 rfl rfl (fun w_ hs_=>⟨?_,hs_.below⟩)))))))))
    exact ri (by unfold szTake szLook; split <;> omega)
  · have eh3:=szTake_f h3
    refine cf rfl (decide_eq_false h3) (sk (nx (sq (rg (vl (fa rfl rfl rfl) rfl (vl (ldb (u:=.slice Aa5 a.front.length ca5) 1 rfl rfl rfl rfl rfl rfl rfl) rfl (m_ rfl rfl ?_)))))))
    refine gd 2 kLookS_p5_1 rfl (cs':=[.slice Aa5 a.front.length ca5]) rfl fun s4 w_ rs4 us4=>?_
    have Ls4:=Kd.sl_len rs4; have Cs4:=Kd.sl_cap rs4
    refine cs_ (v:=.int .i64 (szTake ((a.front.length : Nat) : Int) (szTake (szQuery a.query) left))) (by kernel_rfl) rfl rfl rfl (fun w_ hs_=>laws_szMarkS w_ _ (hs_.at 0 rfl) (by omega) (by omega)) (a_ rfl rfl (en (nx (sq (sq (rg (m_ rfl rfl (vl (cm rfl rfl rfl rfl) rfl (en (nx ?_))))))))))
    by_cases h5 : (szTake ((a.front.length : Nat) : Int) (szTake (szQuery a.query) left)) < (0 : Int)
    · have eh5:=szTake_t h5
      refine ct rfl (decide_eq_true h5) (sq (rg (a_ rfl rfl (en (nx (rt (xr (ret1 rfl rfl (fun w_ hs_=>⟨?_,hs_.below⟩)))))))))
      exact ri (by unfold szTake szLook; split <;> omega)
    · have eh5:=szTake_f h5
      refine cf rfl (decide_eq_false h5) (sk (nx (sq (rg (vl (fa rfl rfl rfl) rfl (vl (ldb (u:=.slice Aa6 a.found.length ca6) 2 rfl rfl rfl rfl rfl rfl rfl) rfl (m_ rfl rfl ?_)))))))
      refine gd 3 kLookS_p6_1 rfl (cs':=[.slice Aa6 a.found.length ca6]) rfl fun s6 w_ rs6 us6=>?_
      have Ls6:=Kd.sl_len rs6; have Cs6:=Kd.sl_cap rs6
      refine cs_ (v:=.int .i64 (szTake (szList szPair a.found) (szTake ((a.front.length : Nat) : Int) (szTake (szQuery a.query) left)))) (by kernel_rfl) rfl rfl rfl (fun w_ hs_=>laws_szPairS w_ _ (hs_.at 0 rfl) (by omega) (by omega)) (a_ rfl rfl (en (nx (sq (sq (rg (m_ rfl rfl (vl (cm rfl rfl rfl rfl) rfl (en (nx ?_))))))))))
      by_cases h7 : (szTake (szList szPair a.found) (szTake ((a.front.length : Nat) : Int) (szTake (szQuery a.query) left))) < (0 : Int)
      · have eh7:=szTake_t h7
        refine ct rfl (decide_eq_true h7) (sq (rg (a_ rfl rfl (en (nx (rt (xr (ret1 rfl rfl (fun w_ hs_=>⟨?_,hs_.below⟩)))))))))
        exact ri (by unfold szTake szLook; split <;> omega)
      · have eh7:=szTake_f h7
        refine cf rfl (decide_eq_false h7) (sk (nx (sq (rg (m_ rfl rfl (a_ rfl rfl (en (nx (rt (ret1 rfl rfl (fun w_ hs_=>⟨?_,hs_.below⟩)))))))))))
        exact ri (by unfold szTake szLook; split <;> omega)
set_option maxRecDepth 20000 in
set_option maxHeartbeats 2000000 in
theorem laws_toLook (w : World) {Aa1 : Option Addr} {ca1 : Nat} {Aa2 : Option Addr} {ca2 : Nat} {Aa3 : Option Addr} {ca3 : Nat} {Aa5 : Option Addr} {ca5 : Nat} {Aa6 : Option Addr} {ca6 : Nat} {a : Look} {sa_ : List Nat} (ha : kLookS.Rel w [.int .i64 a.query.kind,.slice Aa1 a.query.rect.low.length ca1,.slice Aa2 a.query.rect.high.length ca2,.slice Aa3 a.query.point.length ca3,.int .i64 a.query.k,.slice Aa5 a.front.length ca5,.slice Aa6 a.found.length ca6] a [] sa_) (hz : szLook a ≤ 1048576) : Calls Tryz.prog 8 #[.agg #[.int .i64 a.query.kind,.slice Aa1 a.query.rect.low.length ca1,.slice Aa2 a.query.rect.high.length ca2,.slice Aa3 a.query.point.length ca3,.int .i64 a.query.k,.slice Aa5 a.front.length ca5,.slice Aa6 a.found.length ca6]] w (Made kLookO w a []):=by
  unfold szLook at hz; have n0:=szQuery_nn a.query; have n1:=szList_nn szPair_nn a.found
  refine fnc (X:=X3 17 w) (l:=[(0,.agg #[.int .i64 a.query.kind,.slice Aa1 a.query.rect.low.length ca1,.slice Aa2 a.query.rect.high.length ca2,.slice Aa3 a.query.point.length ca3,.int .i64 a.query.k,.slice Aa5 a.front.length ca5,.slice Aa6 a.found.length ca6])]) Tryz.func8 rfl rfl rfl ⟨rfl,trivial⟩ (s0d ha (s0n w)).1 ?_
  refine sq (rg (bx rfl rfl rfl rfl ?_))
  intro b1
  refine al zero43 rfl rfl rfl ?_
  intro b2
  refine en (nx (sq (rg (al zero43 rfl rfl rfl ?_))))
  intro b3
  refine en (nx (sq (rg (vl (fa rfl rfl rfl) rfl (vl (ldb 2 rfl rfl rfl rfl rfl rfl rfl) rfl ?_)))))
  refine gd 3 kLookS_p0_5 rfl (cs':=[.int .i64 a.query.kind,.slice Aa1 a.query.rect.low.length ca1,.slice Aa2 a.query.rect.high.length ca2,.slice Aa3 a.query.point.length ca3,.int .i64 a.query.k]) rfl fun s4 w_ rs4 us4=>?_
  refine cm_ (dk:=kQueryO) (x:=a.query) (S:=[]) (by kernel_rfl) rfl rfl rfl sn0 (fun w_ hs_=>laws_toQuery w_ (hs_.at 0 rfl) (by omega)) (fun cs_ o11 s12 w_ r13 t14=>?_)
  obtain ⟨A5,c6,A7,c8,A9,c10,rfl⟩:=kQueryO_sh r13
  refine vl (fa rfl rfl rfl) rfl (f2 (sto rfl rfl rfl rfl rfl rfl rfl (cs':=[.int .i64 a.query.kind,.slice A5 a.query.rect.low.length c6,.slice A7 a.query.rect.high.length c8,.slice A9 a.query.point.length c10,.int .i64 a.query.k,.slice none 0 0,.slice none 0 0]) rfl (en (nx (sq (rg (vl (fa rfl rfl rfl) rfl (vl (ldb (u:=.slice Aa5 a.front.length ca5) 4 rfl rfl rfl rfl rfl rfl rfl) rfl ?_))))))))
  refine gd 5 kLookS_p5_1 rfl (cs':=[.slice Aa5 a.front.length ca5]) rfl fun s16 w_ rs16 us16=>?_
  have Ls16:=Kd.sl_len rs16; have Cs16:=Kd.sl_cap rs16
  refine cm_ (dk:=(Kd.row 115 kMarkO)) (x:=a.front) (S:=[]) (by kernel_rfl) rfl rfl rfl sn0 (fun w_ hs_=>laws_toMarkS w_ (hs_.at 0 rfl) (by omega)) (fun cs_ o19 s20 w_ r21 t22=>?_)
  obtain ⟨A17,c18,rfl⟩:=Kd.row_sh r21
  refine vl (fa rfl rfl rfl) rfl (f2 (sto rfl rfl rfl rfl rfl rfl rfl (cs':=[.int .i64 a.query.kind,.slice A5 a.query.rect.low.length c6,.slice A7 a.query.rect.high.length c8,.slice A9 a.query.point.length c10,.int .i64 a.query.k,.slice A17 a.front.length c18,.slice none 0 0]) rfl (en (nx (sq (rg (vl (fa rfl rfl rfl) rfl (vl (ldb (u:=.slice Aa6 a.found.length ca6) 6 rfl rfl rfl rfl rfl rfl rfl) rfl ?_))))))))
  refine gd 7 kLookS_p6_1 rfl (cs':=[.slice Aa6 a.found.length ca6]) rfl fun s24 w_ rs24 us24=>?_
  have Ls24:=Kd.sl_len rs24; have Cs24:=Kd.sl_cap rs24
  refine cm_ (dk:=(Kd.row 119 kPairO)) (x:=a.found) (S:=[]) (by kernel_rfl) rfl rfl rfl sn0 (fun w_ hs_=>laws_toPairS w_ (hs_.at 0 rfl) (by omega)) (fun cs_ o27 s28 w_ r29 t30=>?_)
  obtain ⟨A25,c26,rfl⟩:=Kd.row_sh r29
  exact vl (fa rfl rfl rfl) rfl (f2 (sto rfl rfl rfl rfl rfl rfl rfl (cs':=[.int .i64 a.query.kind,.slice A5 a.query.rect.low.length c6,.slice A7 a.query.rect.high.length c8,.slice A9 a.query.point.length c10,.int .i64 a.query.k,.slice A17 a.front.length c18,.slice A25 a.found.length c26]) rfl (en (nx (sq (rg (vl (ldb 0 rfl rfl rfl rfl rfl rfl rfl) rfl (f7 (sto rfl rfl rfl rfl rfl rfl rfl (cs':=[.int .i64 a.query.kind,.slice A5 a.query.rect.low.length c6,.slice A7 a.query.rect.high.length c8,.slice A9 a.query.point.length c10,.int .i64 a.query.k,.slice A17 a.front.length c18,.slice A25 a.found.length c26]) rfl (en (nx (rt (f2 (f4 (gj (da:=(Kd.via (Kd.row 115 kMarkO) Look.front)) (db:=(Kd.via (Kd.row 119 kPairO) Look.found)) (x:=a) rfl (f5 (gj (da:=(Kd.via kQueryO Look.query)) (db:=((Kd.via (Kd.row 115 kMarkO) Look.front).cat (Kd.via (Kd.row 119 kPairO) Look.found))) (x:=a) rfl (retc 1 rfl rfl rfl rfl rfl rfl (fun w_ hs_=>made hs_ rfl (see_app t14 (see_app t22 t30)))))))))))))))))))))
set_option maxRecDepth 20000 in
set_option maxHeartbeats 2000000 in
theorem laws_eqLookResult (w : World) {Aa2 : Option Addr} {ca2 : Nat} {Aa3 : Option Addr} {ca3 : Nat} {Aa4 : Option Addr} {ca4 : Nat} {Aa6 : Option Addr} {ca6 : Nat} {Aa7 : Option Addr} {ca7 : Nat} {a : LookResult} {sa_ : List Nat} (ha : kLookResultS.Rel w [.int .i64 a.code,.int .i64 a.look.query.kind,.slice Aa2 a.look.query.rect.low.length ca2,.slice Aa3 a.look.query.rect.high.length ca3,.slice Aa4 a.look.query.point.length ca4,.int .i64 a.look.query.k,.slice Aa6 a.look.front.length ca6,.slice Aa7 a.look.found.length ca7] a [] sa_) {Ab2 : Option Addr} {cb2 : Nat} {Ab3 : Option Addr} {cb3 : Nat} {Ab4 : Option Addr} {cb4 : Nat} {Ab6 : Option Addr} {cb6 : Nat} {Ab7 : Option Addr} {cb7 : Nat} {b : LookResult} {sb_ : List Nat} (hb : kLookResultS.Rel w [.int .i64 b.code,.int .i64 b.look.query.kind,.slice Ab2 b.look.query.rect.low.length cb2,.slice Ab3 b.look.query.rect.high.length cb3,.slice Ab4 b.look.query.point.length cb4,.int .i64 b.look.query.k,.slice Ab6 b.look.front.length cb6,.slice Ab7 b.look.found.length cb7] b [] sb_)  : Calls Tryz.prog 10 #[.agg #[.int .i64 a.code,.int .i64 a.look.query.kind,.slice Aa2 a.look.query.rect.low.length ca2,.slice Aa3 a.look.query.rect.high.length ca3,.slice Aa4 a.look.query.point.length ca4,.int .i64 a.look.query.k,.slice Aa6 a.look.front.length ca6,.slice Aa7 a.look.found.length ca7],.agg #[.int .i64 b.code,.int .i64 b.look.query.kind,.slice Ab2 b.look.query.rect.low.length cb2,.slice Ab3 b.look.query.rect.high.length cb3,.slice Ab4 b.look.query.point.length cb4,.int .i64 b.look.query.k,.slice Ab6 b.look.front.length cb6,.slice Ab7 b.look.found.length cb7]] w (fun e_ w2_=>e_ = .returned (.bool (decide (a = b))) ∧ Below w.heap.size w w2_):=by
  refine fnc (X:=X3 16 w) (l:=[(0,.agg #[.int .i64 a.code,.int .i64 a.look.query.kind,.slice Aa2 a.look.query.rect.low.length ca2,.slice Aa3 a.look.query.rect.high.length ca3,.slice Aa4 a.look.query.point.length ca4,.int .i64 a.look.query.k,.slice Aa6 a.look.front.length ca6,.slice Aa7 a.look.found.length ca7]),(1,.agg #[.int .i64 b.code,.int .i64 b.look.query.kind,.slice Ab2 b.look.query.rect.low.length cb2,.slice Ab3 b.look.query.rect.high.length cb3,.slice Ab4 b.look.query.point.length cb4,.int .i64 b.look.query.k,.slice Ab6 b.look.front.length cb6,.slice Ab7 b.look.found.length cb7])]) Tryz.func10 rfl rfl rfl ⟨rfl,rfl,trivial⟩ (s0d hb (s0d ha (s0n w))).1 ?_
  refine sq (rg (bx rfl rfl rfl rfl ?_))
  intro b1
  refine bx rfl rfl rfl rfl ?_
  intro b2
  refine a_ rfl rfl (en (nx (sq (sq (rg (vl (fa rfl rfl rfl) rfl (vl (ldb (u:=.int .i64 a.code) 1 rfl rfl rfl rfl rfl rfl rfl) rfl (vl (fa rfl rfl rfl) rfl (vl (ldb (u:=.int .i64 b.code) 0 rfl rfl rfl rfl rfl rfl rfl) rfl (vl (cm rfl rfl rfl rfl) rfl (en (nx ?_))))))))))))
  by_cases h3 : a.code = b.code
  · refine cf rfl (bne_eq_false_iff_eq.2 h3) (sk (nx (sq (sq (rg (vl (fa rfl rfl rfl) rfl (vl (ldb 1 rfl rfl rfl rfl rfl rfl rfl) rfl (vl (fa rfl rfl rfl) rfl (vl (ldb 0 rfl rfl rfl rfl rfl rfl rfl) rfl ?_)))))))))
    refine gd 3 kLookResultS_p1_7 rfl (cs':=[.int .i64 a.look.query.kind,.slice Aa2 a.look.query.rect.low.length ca2,.slice Aa3 a.look.query.rect.high.length ca3,.slice Aa4 a.look.query.point.length ca4,.int .i64 a.look.query.k,.slice Aa6 a.look.front.length ca6,.slice Aa7 a.look.found.length ca7]) rfl fun s4 w_ rs4 us4=>?_
    refine gd 3 kLookResultS_p1_7 rfl (cs':=[.int .i64 b.look.query.kind,.slice Ab2 b.look.query.rect.low.length cb2,.slice Ab3 b.look.query.rect.high.length cb3,.slice Ab4 b.look.query.point.length cb4,.int .i64 b.look.query.k,.slice Ab6 b.look.front.length cb6,.slice Ab7 b.look.found.length cb7]) rfl fun s5 w_ rs5 us5=>?_
    refine cs_ (v:=.bool (decide (a.look = b.look))) (by kernel_rfl) rfl rfl rfl (fun w_ hs_=>laws_eqLook w_ (hs_.at 1 rfl) (hs_.at 0 rfl)) (vl (nt rfl rfl) rfl (en (nx ?_)))
    by_cases h6 : decide (a.look = b.look) = true
    · refine cf rfl (not_f h6) (sk (nx (sq (rg (a_ rfl rfl (en (nx (rt (ret1 rfl rfl (fun w_ hs_=>⟨?_,hs_.below⟩))))))))))
      rw [LookResult_eq]; simp [h3,h6]
    · refine ct rfl (not_t (Bool.eq_false_iff.2 h6)) (sq (rg (a_ rfl rfl (en (nx (rt (xr (ret1 rfl rfl (fun w_ hs_=>⟨?_,hs_.below⟩)))))))))
      rw [LookResult_eq]; simp [h3,h6]
  · refine ct rfl (bne_iff_ne.2 h3) (sq (rg (a_ rfl rfl (en (nx (rt (xr (ret1 rfl rfl (fun w_ hs_=>⟨?_,hs_.below⟩)))))))))
    rw [LookResult_eq]; simp [h3]
theorem vi {k : IntKind} {a b : Int} (h : a = b) : Value.int k a = Value.int k b:=by rw [h]
def mkV_Rect (k : Int) (a : Rect) : Rect := ⟨mkL mI cI (k) a.low, mkL mI cI (k + (a.low.length : Int)) a.high⟩

def mkV_Query (k : Int) (a : Query) : Query := ⟨a.kind, ⟨mkL mI cI (k) a.rect.low, mkL mI cI (k + (a.rect.low.length : Int)) a.rect.high⟩, mkL mI cI (k + (a.rect.low.length : Int) + (a.rect.high.length : Int)) a.point, a.k⟩

def mkE_Mark (k : Int) (a : Mark) : Mark := ⟨k, k + 1, k + 1 + 1⟩
def cntE_Mark (a : Mark) : Int := 0 + 1 + 1 + 1
theorem cntE_Mark_nn (a : Mark) : 0 ≤ cntE_Mark a:=by
  unfold cntE_Mark; omega
def mkE_Pair (k : Int) (a : Pair) : Pair := ⟨k, ⟨mkL mI cI (k + 1) a.rect.low, mkL mI cI (k + 1 + (a.rect.low.length : Int)) a.rect.high⟩⟩
def cntE_Pair (a : Pair) : Int := 0 + 1 + (a.rect.low.length : Int) + (a.rect.high.length : Int)
theorem cntE_Pair_nn (a : Pair) : 0 ≤ cntE_Pair a:=by
  unfold cntE_Pair; omega
def mkV_Look (k : Int) (a : Look) : Look := ⟨⟨a.query.kind, ⟨mkL mI cI (k) a.query.rect.low, mkL mI cI (k + (a.query.rect.low.length : Int)) a.query.rect.high⟩, mkL mI cI (k + (a.query.rect.low.length : Int) + (a.query.rect.high.length : Int)) a.query.point, a.query.k⟩, mkL mkE_Mark cntE_Mark (k + (a.query.rect.low.length : Int) + (a.query.rect.high.length : Int) + (a.query.point.length : Int)) a.front, mkL mkE_Pair cntE_Pair (k + (a.query.rect.low.length : Int) + (a.query.rect.high.length : Int) + (a.query.point.length : Int) + (a.front.map cntE_Mark).sum) a.found⟩

def mkV_LookResult (k : Int) (a : LookResult) : LookResult := ⟨a.code, ⟨⟨a.look.query.kind, ⟨mkL mI cI (k) a.look.query.rect.low, mkL mI cI (k + (a.look.query.rect.low.length : Int)) a.look.query.rect.high⟩, mkL mI cI (k + (a.look.query.rect.low.length : Int) + (a.look.query.rect.high.length : Int)) a.look.query.point, a.look.query.k⟩, mkL mkE_Mark cntE_Mark (k + (a.look.query.rect.low.length : Int) + (a.look.query.rect.high.length : Int) + (a.look.query.point.length : Int)) a.look.front, mkL mkE_Pair cntE_Pair (k + (a.look.query.rect.low.length : Int) + (a.look.query.rect.high.length : Int) + (a.look.query.point.length : Int) + (a.look.front.map cntE_Mark).sum) a.look.found⟩⟩

set_option maxRecDepth 20000 in
set_option maxHeartbeats 2000000 in
theorem laws_markInt64S (w : World) (k : Int) {Aa : Option Addr} {ca : Nat} {a : List Int} {oa_ sa_ : List Nat} (hst : St (nul w) w [dat (Kd.row 2 Kd.i64) [.slice Aa a.length ca] a oa_ sa_]) (hk0 : 0 ≤ k) (hk1 : k + ((a.length : Nat) : Int) ≤ 1152921504606846976) : Calls Tryz.prog 46 #[.slice Aa a.length ca,.int .i64 k] w (TurnO (Kd.row 2 Kd.i64) [.slice Aa a.length ca] (.int .i64 (k + ((a.length : Nat) : Int))) w oa_ (mkL mI cI k a) (sa_)):=by
  have La:=Kd.row_len (hst.at 0 rfl); have Ca:=Kd.row_cap (hst.at 0 rfl)
  refine fnc (X:=X3 19 (nul w)) (l:=[(0,.slice Aa a.length ca),(1,.int .i64 k)]) Tryz.func46 rfl rfl rfl ⟨rfl,rfl,trivial⟩ (⟨hst.fr oa_ (by simp [owns,dat,ptr]),trivial⟩ : _ ∧ True).1 ?_
  refine sq (rg (a_ rfl rfl (en (nx (sq (sq (rg (a_ rfl rfl (en (nx (bk ?_)))))))))))
  refine lp (σ:=Nat × Int × List Nat × List Nat) (fun z_ : Nat × Int × List Nat × List Nat=>match z_ with | (i,v,o_,s_)=>[(0,.slice Aa a.length ca),(1,.int .i64 v),(5,.int .i64 ((i : Nat) : Int))])
      (fun z_ : Nat × Int × List Nat × List Nat=>match z_ with | (i,v,o_,s_)=>[dat (Kd.row 2 Kd.i64) [.slice Aa a.length ca] (mkL mI cI k (a.take i) ++ a.drop i) o_ s_,frm w oa_])
      (fun z_ : Nat × Int × List Nat × List Nat=>match z_ with | (i,v,o_,s_)=>i ≤ a.length ∧ v = k + sumTo cI a i ∧ ∀ q ∈ s_,q ∈ sa_ ∨ w.heap.size ≤ q) (fun z_ : Nat × Int × List Nat × List Nat=>match z_ with | (i,v,o_,s_)=>a.length - i) (0,k,oa_,sa_) [1,0] ⟨Nat.zero_le _,by simp [sumTo],fun q h=>.inl h⟩ ⟨rfl,rfl,rfl,trivial⟩ rfl ?_
  rintro ⟨i,v,o_,s_⟩ hp_
  obtain ⟨hi,hv,hsee⟩:=hp_; have z0:=sumTo_nn cI_nn a i; have zt:=sumTo_le cI_nn a i; have ze:=cI_sum a; have zj:=cI_to hi
  refine sq (sq (rg (m_ rfl rfl (m_ rfl rfl (vl (ln rfl rfl rfl) rfl (vl (cm rfl rfl rfl rfl) rfl (en (nx ?_))))))))
  by_cases h1 : ((i : Nat) : Int) < ((a.length : Nat) : Int)
  · obtain ⟨ba,rfl⟩:=Kd.row_pos (hst.at 0 rfl) (by omega)
    refine ct rfl (decide_eq_true h1) (sk (nx (sq (bk (sq (rg (m_ rfl rfl (m_ rfl rfl (m_ rfl rfl (vl (ix i rfl rfl rfl rfl rfl rfl (by omega)) rfl (gs Kd.i64 [.int .i64 v] v (fun _=>⟨rfl,rfl,rfl⟩) (f1 (ste i rfl rfl rfl rfl rfl (by rw [List.length_append,mkL_len,List.length_take,List.length_drop]; omega) (fun o2 s3 t4=>?_))))))))))))))
    exact gr (mkL mI cI k (a.take (i + 1)) ++ a.drop (i + 1)) (mk_step (List.getElem?_eq_getElem (by omega)) (by simp only [mI]; exact hv)) (en (nx (rg (m_ rfl rfl (vl (ra (c:=v + 1) rfl rfl rfl rfl (by omega) (by omega)) rfl (a_ rfl rfl (en (xn (nx (rg (m_ rfl rfl (vl (ra (c:=((i + 1 : Nat) : Int)) rfl rfl rfl (by omega) (by omega) (by omega)) rfl (a_ rfl rfl (en (lpe (s:=(i,v,o_,s_)) (i + 1,v + 1,o2,s3) [0,0] ⟨by omega,by have zs:=sumTo_step (f:=cI) (List.getElem?_eq_getElem (show i < a.length by omega)); simp only [cI] at zs; omega,by grind⟩ (by show a.length - (i + 1) < a.length - i; omega) ⟨rfl,rfl,rfl,trivial⟩ rfl)))))))))))))))
  · exact cf rfl (decide_eq_false h1) (xt (xq (xq (xb (nx (sq (rg (m_ rfl rfl (a_ rfl rfl (en (nx (rt (gr (mkL mI cI k a) (mk_end (by omega)) (ret1 rfl rfl (fun w_ hs_=>turno hs_ 0 rfl (by exact vi (by have z:=sumTo_end (f:=cI) (l:=a) (k:=i) (by omega); omega)) (by grind))))))))))))))))
set_option maxRecDepth 20000 in
set_option maxHeartbeats 2000000 in
theorem laws_heldInt64S (w : World) (k : Int) {Aa0 : Option Addr} {na0 ca0 : Nat} {a : List Int} {sa_ : List Nat} (ha : (Kd.sl Kd.i64).Rel w [.slice Aa0 na0 ca0] (mkL mI cI k a) [] sa_) (hk0 : 0 ≤ k) (hk1 : k + ((a.length : Nat) : Int) ≤ 1152921504606846976) : Calls Tryz.prog 161 #[.slice Aa0 na0 ca0,.int .i64 k] w (fun e_ w2_=>e_ = .returned (.int .i64 (k + ((a.length : Nat) : Int))) ∧ Below w.heap.size w w2_):=by
  have La:=Kd.sl_len ha; have Ea:=Kd.sl_n ha; rw [mkL_len] at La Ea
  refine fnc (X:=X3 21 w) (l:=[(0,.slice Aa0 na0 ca0),(1,.int .i64 k)]) Tryz.func161 rfl rfl rfl ⟨rfl,rfl,trivial⟩ (s0d ha (s0n w)).1 ?_
  refine sq (rg (a_ rfl rfl (en (nx (sq (sq (rg (a_ rfl rfl (en (nx (bk ?_)))))))))))
  refine lp (σ:=Nat × Int) (fun z_ : Nat × Int=>match z_ with | (i,v)=>[(0,.slice Aa0 na0 ca0),(1,.int .i64 v),(5,.int .i64 ((i : Nat) : Int))])
      (fun z_ : Nat × Int=>match z_ with | (i,v)=>[dat (Kd.sl Kd.i64) [.slice Aa0 na0 ca0] (mkL mI cI k a) ([]) sa_])
      (fun z_ : Nat × Int=>match z_ with | (i,v)=>i ≤ a.length ∧ v = k + sumTo cI a i) (fun z_ : Nat × Int=>match z_ with | (i,v)=>a.length - i) (0,k) [0] ⟨Nat.zero_le _,by simp [sumTo]⟩ ⟨rfl,rfl,rfl,trivial⟩ rfl ?_
  rintro ⟨i,v⟩ hp_
  obtain ⟨hi,hv⟩:=hp_; have z0:=sumTo_nn cI_nn a i; have zt:=sumTo_le cI_nn a i; have ze:=cI_sum a; have zj:=cI_to hi
  refine sq (sq (rg (m_ rfl rfl (m_ rfl rfl (vl (ln rfl rfl rfl) rfl (vl (cm rfl rfl rfl rfl) rfl (en (nx ?_))))))))
  by_cases h1 : ((i : Nat) : Int) < ((na0 : Nat) : Int)
  · refine ct rfl (decide_eq_true h1) (sk (nx (sq (bk (sq (sq (rg (m_ rfl rfl (m_ rfl rfl ?_)))))))))
    refine gx 0 i rfl (by first | omega | (rw [mkL_len]; omega)) fun y7 p2 cs_ s3 w6 m8 e4 r5 us3=>?_
    obtain ⟨rfl,-,-⟩:=r5
    obtain ⟨y9,hy9⟩:=mkL_some m8
    have zy9:=mkL_at' m8 hy9 hv
    have zs:=sumTo_step (f:=cI) hy9; have zl:=sumTo_le cI_nn a (i + 1); have z0:=sumTo_nn cI_nn a i; have ze:=cI_sum a; have zc : cI y9 = 1:=rfl
    refine vl (ix i e4 rfl rfl rfl rfl rfl (by first | omega | (rw [mkL_len]; omega))) rfl (vl (ldq (u:=.int .i64 y7) 0 rfl rfl rfl rfl rfl rfl rfl) rfl (m_ rfl rfl (vl (cm rfl rfl rfl rfl) rfl (en (nx ?_)))))
    by_cases h10 : y7 = v
    · exact cf rfl (bne_eq_false_iff_eq.2 h10) (sk (nx (rg (m_ rfl rfl (vl (ra (c:=v + 1) rfl rfl rfl rfl (by omega) (by omega)) rfl (a_ rfl rfl (en (xn (nx (rg (m_ rfl rfl (vl (ra (c:=((i + 1 : Nat) : Int)) rfl rfl rfl (by omega) (by omega) (by omega)) rfl (a_ rfl rfl (en (lpe (s:=(i,v)) (i + 1,v + 1) [1] ⟨by omega,by omega⟩ (by show a.length - (i + 1) < a.length - i; omega) ⟨rfl,rfl,rfl,trivial⟩ rfl)))))))))))))))
    · exact absurd zy9 h10
  · refine cf rfl (decide_eq_false h1) (xt (xq (xq (xb (nx (sq (rg (m_ rfl rfl (a_ rfl rfl (en (nx (rt (ret1 rfl rfl (fun w_ hs_=>⟨?_,hs_.below⟩))))))))))))))
    exact ri (by have z:=sumTo_end (f:=cI) (l:=a) (k:=i) (by omega); omega)
set_option maxRecDepth 20000 in
set_option maxHeartbeats 2000000 in
theorem laws_markRect (w : World) (k : Int) {Aa0 : Option Addr} {ca0 : Nat} {Aa1 : Option Addr} {ca1 : Nat} {a : Rect} {oa_ sa_ : List Nat} (hst : St (nul w) w [dat kRectO [.slice Aa0 a.low.length ca0,.slice Aa1 a.high.length ca1] a oa_ sa_]) (hk0 : 0 ≤ k) (hk1 : k + (0 + (a.low.length : Int) + (a.high.length : Int)) ≤ 1152921504606846976) : Calls Tryz.prog 107 #[.agg #[.slice Aa0 a.low.length ca0,.slice Aa1 a.high.length ca1],.int .i64 k] w (TurnO kRectO [.slice Aa0 a.low.length ca0,.slice Aa1 a.high.length ca1] (.int .i64 (k + (a.low.length : Int) + (a.high.length : Int))) w oa_ (mkV_Rect k a) (sa_)):=by
  skip
  refine fnc (X:=X3 14 (nul w)) (l:=[(0,.agg #[.slice Aa0 a.low.length ca0,.slice Aa1 a.high.length ca1]),(1,.int .i64 k)]) Tryz.func107 rfl rfl rfl ⟨rfl,rfl,trivial⟩ (⟨hst.fr oa_ (by simp [owns,dat,ptr]),trivial⟩ : _ ∧ True).1 ?_
  refine f1 (gsp (da:=(Kd.via (Kd.row 2 Kd.i64) Rect.low)) rfl rfl (fun o1 o2 s3 s4 us3 us4=>?_))
  refine gv (f1 (gv ?_))
  refine sq (rg (bx rfl rfl rfl rfl ?_))
  intro b5
  refine a_ rfl rfl (en (nx (sq (rg (vl (fa rfl rfl rfl) rfl (vl (ldb (u:=.slice Aa0 a.low.length ca0) 0 rfl rfl rfl rfl rfl rfl rfl) rfl (m_ rfl rfl (f2 (cto (dk:=(Kd.row 2 Kd.i64)) (cs:=[.slice Aa0 a.low.length ca0]) (x:=(mkL mI cI k a.low)) (v:=.int .i64 (k + ((a.low.length : Nat) : Int))) (S:=(s3)) (by kernel_rfl) rfl rfl rfl (snt 0 rfl) w.heap.size (fun w_ hs_=>(hs_.mod 3 rfl).size) (fun w_ hs_=>laws_markInt64S w_ _ ((hs_.pk [0] rfl).nl) (by omega) (by omega)) (fun o6 s7 t8=>?_))))))))))
  refine a_ rfl rfl (en (nx (sq (rg (vl (fa rfl rfl rfl) rfl (vl (ldb (u:=.slice Aa1 a.high.length ca1) 1 rfl rfl rfl rfl rfl rfl rfl) rfl (m_ rfl rfl (f2 (cto (dk:=(Kd.row 2 Kd.i64)) (cs:=[.slice Aa1 a.high.length ca1]) (x:=(mkL mI cI (k + ((a.low.length : Nat) : Int)) a.high)) (v:=.int .i64 ((k + ((a.low.length : Nat) : Int)) + ((a.high.length : Nat) : Int))) (S:=(s4)) (by kernel_rfl) rfl rfl rfl (snt 0 rfl) w.heap.size (fun w_ hs_=>(hs_.mod 3 rfl).size) (fun w_ hs_=>laws_markInt64S w_ _ ((hs_.pk [0] rfl).nl) (by omega) (by omega)) (fun o9 s10 t11=>?_))))))))))
  exact a_ rfl rfl (en (nx (sq (rg (m_ rfl rfl (a_ rfl rfl (en (nx (rt (f1 (gj (da:=(Kd.via (Kd.row 2 Kd.i64) Rect.low)) (db:=(Kd.via (Kd.row 2 Kd.i64) Rect.high)) (x:=(mkV_Rect k a)) rfl (ret1 rfl rfl (fun w_ hs_=>turno hs_ 1 rfl (by exact vi (by omega)) (see_app (by grind) (by grind)))))))))))))))
set_option maxRecDepth 20000 in
set_option maxHeartbeats 2000000 in
theorem laws_heldRect (w : World) (k : Int) {Aa0 : Option Addr} {na0 ca0 : Nat} {Aa1 : Option Addr} {na1 ca1 : Nat} {a : Rect} {sa_ : List Nat} (ha : kRectS.Rel w [.slice Aa0 na0 ca0,.slice Aa1 na1 ca1] (mkV_Rect k a) [] sa_) (hk0 : 0 ≤ k) (hk1 : k + (0 + (a.low.length : Int) + (a.high.length : Int)) ≤ 1152921504606846976) : Calls Tryz.prog 160 #[.agg #[.slice Aa0 na0 ca0,.slice Aa1 na1 ca1],.int .i64 k] w (fun e_ w2_=>e_ = .returned (.int .i64 (k + (a.low.length : Int) + (a.high.length : Int))) ∧ Below w.heap.size w w2_):=by
  skip
  refine fnc (X:=X3 18 w) (l:=[(0,.agg #[.slice Aa0 na0 ca0,.slice Aa1 na1 ca1]),(1,.int .i64 k)]) Tryz.func160 rfl rfl rfl ⟨rfl,rfl,trivial⟩ (s0d ha (s0n w)).1 ?_
  refine sq (rg (bx rfl rfl rfl rfl ?_))
  intro b1
  refine a_ rfl rfl (en (nx (sq (rg (vl (fa rfl rfl rfl) rfl (vl (ldb (u:=.slice Aa0 na0 ca0) 0 rfl rfl rfl rfl rfl rfl rfl) rfl (m_ rfl rfl ?_)))))))
  refine gd 1 kRectS_p0_1 rfl (cs':=[.slice Aa0 na0 ca0]) rfl fun s2 w_ rs2 us2=>?_
  have Ls2:=Kd.sl_len rs2; have Cs2:=Kd.sl_cap rs2
  refine gr (mkL mI cI k a.low) rfl (cs_ (v:=.int .i64 (k + ((a.low.length : Nat) : Int))) (by kernel_rfl) rfl rfl rfl (fun w_ hs_=>laws_heldInt64S w_ _ (hs_.at 0 rfl) (by omega) (by omega)) (a_ rfl rfl (en (nx (sq (sq (rg (m_ rfl rfl (vl (cm rfl rfl rfl rfl) rfl (en (nx ?_)))))))))))
  by_cases h3 : (k + ((a.low.length : Nat) : Int)) < (0 : Int)
  · exfalso; omega
  · refine cf rfl (decide_eq_false h3) (sk (nx (sq (rg (vl (fa rfl rfl rfl) rfl (vl (ldb (u:=.slice Aa1 na1 ca1) 1 rfl rfl rfl rfl rfl rfl rfl) rfl (m_ rfl rfl ?_)))))))
    refine gd 2 kRectS_p1_1 rfl (cs':=[.slice Aa1 na1 ca1]) rfl fun s4 w_ rs4 us4=>?_
    have Ls4:=Kd.sl_len rs4; have Cs4:=Kd.sl_cap rs4
    refine gr (mkL mI cI (k + (a.low.length : Int)) a.high) rfl (cs_ (v:=.int .i64 ((k + ((a.low.length : Nat) : Int)) + ((a.high.length : Nat) : Int))) (by kernel_rfl) rfl rfl rfl (fun w_ hs_=>laws_heldInt64S w_ _ (hs_.at 0 rfl) (by omega) (by omega)) (a_ rfl rfl (en (nx (sq (sq (rg (m_ rfl rfl (vl (cm rfl rfl rfl rfl) rfl (en (nx ?_)))))))))))
    by_cases h5 : ((k + ((a.low.length : Nat) : Int)) + ((a.high.length : Nat) : Int)) < (0 : Int)
    · exfalso; omega
    · refine cf rfl (decide_eq_false h5) (sk (nx (sq (rg (m_ rfl rfl (a_ rfl rfl (en (nx (rt (ret1 rfl rfl (fun w_ hs_=>⟨?_,hs_.below⟩)))))))))))
      exact ri (by omega)
set_option maxRecDepth 20000 in
set_option maxHeartbeats 2000000 in
theorem laws_markQuery (w : World) (k : Int) {Aa1 : Option Addr} {ca1 : Nat} {Aa2 : Option Addr} {ca2 : Nat} {Aa3 : Option Addr} {ca3 : Nat} {a : Query} {oa_ sa_ : List Nat} (hst : St (nul w) w [dat kQueryO [.int .i64 a.kind,.slice Aa1 a.rect.low.length ca1,.slice Aa2 a.rect.high.length ca2,.slice Aa3 a.point.length ca3,.int .i64 a.k] a oa_ sa_]) (hk0 : 0 ≤ k) (hk1 : k + (0 + (a.rect.low.length : Int) + (a.rect.high.length : Int) + (a.point.length : Int)) ≤ 1152921504606846976) : Calls Tryz.prog 48 #[.agg #[.int .i64 a.kind,.slice Aa1 a.rect.low.length ca1,.slice Aa2 a.rect.high.length ca2,.slice Aa3 a.point.length ca3,.int .i64 a.k],.int .i64 k] w (TurnO kQueryO [.int .i64 a.kind,.slice Aa1 a.rect.low.length ca1,.slice Aa2 a.rect.high.length ca2,.slice Aa3 a.point.length ca3,.int .i64 a.k] (.int .i64 (k + (a.rect.low.length : Int) + (a.rect.high.length : Int) + (a.point.length : Int))) w oa_ (mkV_Query k a) (sa_)):=by
  skip
  refine fnc (X:=X3 14 (nul w)) (l:=[(0,.agg #[.int .i64 a.kind,.slice Aa1 a.rect.low.length ca1,.slice Aa2 a.rect.high.length ca2,.slice Aa3 a.point.length ca3,.int .i64 a.k]),(1,.int .i64 k)]) Tryz.func48 rfl rfl rfl ⟨rfl,rfl,trivial⟩ (⟨hst.fr oa_ (by simp [owns,dat,ptr]),trivial⟩ : _ ∧ True).1 ?_
  refine f1 (gsp (da:=(Kd.via Kd.i64 Query.kind)) rfl rfl (fun o1 o2 s3 s4 us3 us4=>?_))
  refine gv (f1 (gsp (da:=(Kd.via kRectO Query.rect)) rfl rfl (fun o5 o6 s7 s8 us7 us8=>?_)))
  refine gv (f1 (gsp (da:=(Kd.via (Kd.row 2 Kd.i64) Query.point)) rfl rfl (fun o9 o10 s11 s12 us11 us12=>?_)))
  refine gv (f1 (gv ?_))
  refine sq (rg (bx rfl rfl rfl rfl ?_))
  intro b13
  refine a_ rfl rfl (en (nx (sq (rg (vl (fa rfl rfl rfl) rfl (vl (ldb 0 rfl rfl rfl rfl rfl rfl rfl) rfl (m_ rfl rfl (f3 (cto (dk:=kRectO) (cs:=[.slice Aa1 a.rect.low.length ca1,.slice Aa2 a.rect.high.length ca2]) (x:=(mkV_Rect k a.rect)) (v:=.int .i64 (k + (a.rect.low.length : Int) + (a.rect.high.length : Int))) (S:=(s7)) (by kernel_rfl) rfl rfl rfl (snt 0 rfl) w.heap.size (fun w_ hs_=>(hs_.mod 5 rfl).size) (fun w_ hs_=>laws_markRect w_ _ ((hs_.pk [0] rfl).nl) (by omega) (by omega)) (fun o14 s15 t16=>?_))))))))))
  refine a_ rfl rfl (en (nx (sq (rg (vl (fa rfl rfl rfl) rfl (vl (ldb (u:=.slice Aa3 a.point.length ca3) 1 rfl rfl rfl rfl rfl rfl rfl) rfl (m_ rfl rfl (f3 (cto (dk:=(Kd.row 2 Kd.i64)) (cs:=[.slice Aa3 a.point.length ca3]) (x:=(mkL mI cI (k + (a.rect.low.length : Int) + (a.rect.high.length : Int)) a.point)) (v:=.int .i64 ((k + (a.rect.low.length : Int) + (a.rect.high.length : Int)) + ((a.point.length : Nat) : Int))) (S:=(s11)) (by kernel_rfl) rfl rfl rfl (snt 0 rfl) w.heap.size (fun w_ hs_=>(hs_.mod 5 rfl).size) (fun w_ hs_=>laws_markInt64S w_ _ ((hs_.pk [0] rfl).nl) (by omega) (by omega)) (fun o17 s18 t19=>?_))))))))))
  exact a_ rfl rfl (en (nx (sq (rg (m_ rfl rfl (a_ rfl rfl (en (nx (rt (gs Kd.i64 [.int .i64 a.k] ((mkV_Query k a).k) (fun _=>⟨rfl,rfl,rfl⟩) (f1 (gj (da:=(Kd.via (Kd.row 2 Kd.i64) Query.point)) (db:=(Kd.via Kd.i64 Query.k)) (x:=(mkV_Query k a)) rfl (f1 (gj (da:=(Kd.via kRectO Query.rect)) (db:=((Kd.via (Kd.row 2 Kd.i64) Query.point).cat (Kd.via Kd.i64 Query.k))) (x:=(mkV_Query k a)) rfl (gs Kd.i64 [.int .i64 a.kind] ((mkV_Query k a).kind) (fun _=>⟨rfl,rfl,rfl⟩) (gj (da:=(Kd.via Kd.i64 Query.kind)) (db:=((Kd.via kRectO Query.rect).cat ((Kd.via (Kd.row 2 Kd.i64) Query.point).cat (Kd.via Kd.i64 Query.k)))) (x:=(mkV_Query k a)) rfl (ret1 rfl rfl (fun w_ hs_=>turno hs_ 3 rfl (by exact vi (by omega)) (see_app see_nil (see_app (by grind) (see_app (by grind) see_nil)))))))))))))))))))))
set_option maxRecDepth 20000 in
set_option maxHeartbeats 2000000 in
theorem laws_heldQuery (w : World) (k : Int) {Aa1 : Option Addr} {na1 ca1 : Nat} {Aa2 : Option Addr} {na2 ca2 : Nat} {Aa3 : Option Addr} {na3 ca3 : Nat} {a : Query} {sa_ : List Nat} (ha : kQueryS.Rel w [.int .i64 ((mkV_Query k a).kind),.slice Aa1 na1 ca1,.slice Aa2 na2 ca2,.slice Aa3 na3 ca3,.int .i64 ((mkV_Query k a).k)] (mkV_Query k a) [] sa_) (hk0 : 0 ≤ k) (hk1 : k + (0 + (a.rect.low.length : Int) + (a.rect.high.length : Int) + (a.point.length : Int)) ≤ 1152921504606846976) : Calls Tryz.prog 108 #[.agg #[.int .i64 ((mkV_Query k a).kind),.slice Aa1 na1 ca1,.slice Aa2 na2 ca2,.slice Aa3 na3 ca3,.int .i64 ((mkV_Query k a).k)],.int .i64 k] w (fun e_ w2_=>e_ = .returned (.int .i64 (k + (a.rect.low.length : Int) + (a.rect.high.length : Int) + (a.point.length : Int))) ∧ Below w.heap.size w w2_):=by
  skip
  refine fnc (X:=X3 18 w) (l:=[(0,.agg #[.int .i64 ((mkV_Query k a).kind),.slice Aa1 na1 ca1,.slice Aa2 na2 ca2,.slice Aa3 na3 ca3,.int .i64 ((mkV_Query k a).k)]),(1,.int .i64 k)]) Tryz.func108 rfl rfl rfl ⟨rfl,rfl,trivial⟩ (s0d ha (s0n w)).1 ?_
  refine sq (rg (bx rfl rfl rfl rfl ?_))
  intro b1
  refine a_ rfl rfl (en (nx (sq (rg (vl (fa rfl rfl rfl) rfl (vl (ldb 0 rfl rfl rfl rfl rfl rfl rfl) rfl (m_ rfl rfl ?_)))))))
  refine gd 1 kQueryS_p1_2 rfl (cs':=[.slice Aa1 na1 ca1,.slice Aa2 na2 ca2]) rfl fun s2 w_ rs2 us2=>?_
  refine gr (mkV_Rect k a.rect) rfl (cs_ (v:=.int .i64 (k + (a.rect.low.length : Int) + (a.rect.high.length : Int))) (by kernel_rfl) rfl rfl rfl (fun w_ hs_=>laws_heldRect w_ _ (hs_.at 0 rfl) (by omega) (by omega)) (a_ rfl rfl (en (nx (sq (sq (rg (m_ rfl rfl (vl (cm rfl rfl rfl rfl) rfl (en (nx ?_)))))))))))
  by_cases h3 : (k + (a.rect.low.length : Int) + (a.rect.high.length : Int)) < (0 : Int)
  · exfalso; omega
  · refine cf rfl (decide_eq_false h3) (sk (nx (sq (rg (vl (fa rfl rfl rfl) rfl (vl (ldb (u:=.slice Aa3 na3 ca3) 1 rfl rfl rfl rfl rfl rfl rfl) rfl (m_ rfl rfl ?_)))))))
    refine gd 2 kQueryS_p3_1 rfl (cs':=[.slice Aa3 na3 ca3]) rfl fun s4 w_ rs4 us4=>?_
    have Ls4:=Kd.sl_len rs4; have Cs4:=Kd.sl_cap rs4
    refine gr (mkL mI cI (k + (a.rect.low.length : Int) + (a.rect.high.length : Int)) a.point) rfl (cs_ (v:=.int .i64 ((k + (a.rect.low.length : Int) + (a.rect.high.length : Int)) + ((a.point.length : Nat) : Int))) (by kernel_rfl) rfl rfl rfl (fun w_ hs_=>laws_heldInt64S w_ _ (hs_.at 0 rfl) (by omega) (by omega)) (a_ rfl rfl (en (nx (sq (sq (rg (m_ rfl rfl (vl (cm rfl rfl rfl rfl) rfl (en (nx ?_)))))))))))
    by_cases h5 : ((k + (a.rect.low.length : Int) + (a.rect.high.length : Int)) + ((a.point.length : Nat) : Int)) < (0 : Int)
    · exfalso; omega
    · refine cf rfl (decide_eq_false h5) (sk (nx (sq (rg (m_ rfl rfl (a_ rfl rfl (en (nx (rt (ret1 rfl rfl (fun w_ hs_=>⟨?_,hs_.below⟩)))))))))))
      exact ri (by omega)
set_option maxRecDepth 20000 in
set_option maxHeartbeats 2000000 in
theorem laws_markMarkS (w : World) (k : Int) {Aa : Option Addr} {ca : Nat} {a : List Mark} {oa_ sa_ : List Nat} (hst : St (nul w) w [dat (Kd.row 115 kMarkO) [.slice Aa a.length ca] a oa_ sa_]) (hk0 : 0 ≤ k) (hk1 : k + (a.map cntE_Mark).sum ≤ 1152921504606846976) : Calls Tryz.prog 49 #[.slice Aa a.length ca,.int .i64 k] w (TurnO (Kd.row 115 kMarkO) [.slice Aa a.length ca] (.int .i64 (k + (a.map cntE_Mark).sum)) w oa_ (mkL mkE_Mark cntE_Mark k a) (sa_)):=by
  have La:=Kd.row_len (hst.at 0 rfl); have Ca:=Kd.row_cap (hst.at 0 rfl)
  refine fnc (X:=X3 34 (nul w)) (l:=[(0,.slice Aa a.length ca),(1,.int .i64 k)]) Tryz.func49 rfl rfl rfl ⟨rfl,rfl,trivial⟩ (⟨hst.fr oa_ (by simp [owns,dat,ptr]),trivial⟩ : _ ∧ True).1 ?_
  refine sq (rg (a_ rfl rfl (en (nx (sq (sq (rg (a_ rfl rfl (en (nx (bk ?_)))))))))))
  refine lp (σ:=Nat × Int × List Nat × List Nat) (fun z_ : Nat × Int × List Nat × List Nat=>match z_ with | (i,v,o_,s_)=>[(0,.slice Aa a.length ca),(1,.int .i64 v),(5,.int .i64 ((i : Nat) : Int))])
      (fun z_ : Nat × Int × List Nat × List Nat=>match z_ with | (i,v,o_,s_)=>[dat (Kd.row 115 kMarkO) [.slice Aa a.length ca] (mkL mkE_Mark cntE_Mark k (a.take i) ++ a.drop i) o_ s_,frm w oa_])
      (fun z_ : Nat × Int × List Nat × List Nat=>match z_ with | (i,v,o_,s_)=>i ≤ a.length ∧ v = k + sumTo cntE_Mark a i ∧ ∀ q ∈ s_,q ∈ sa_ ∨ w.heap.size ≤ q) (fun z_ : Nat × Int × List Nat × List Nat=>match z_ with | (i,v,o_,s_)=>a.length - i) (0,k,oa_,sa_) [1,0] ⟨Nat.zero_le _,by simp [sumTo],fun q h=>.inl h⟩ ⟨rfl,rfl,rfl,trivial⟩ rfl ?_
  rintro ⟨i,v,o_,s_⟩ hp_
  obtain ⟨hi,hv,hsee⟩:=hp_; have z0:=sumTo_nn cntE_Mark_nn a i; have zt:=sumTo_le cntE_Mark_nn a i
  refine sq (sq (rg (m_ rfl rfl (m_ rfl rfl (vl (ln rfl rfl rfl) rfl (vl (cm rfl rfl rfl rfl) rfl (en (nx ?_))))))))
  by_cases h1 : ((i : Nat) : Int) < ((a.length : Nat) : Int)
  · obtain ⟨ba,rfl⟩:=Kd.row_pos (hst.at 0 rfl) (by omega)
    refine ct rfl (decide_eq_true h1) (sk (nx (sq (bk (sq (rg (m_ rfl rfl (m_ rfl rfl (m_ rfl rfl (vl (ix i rfl rfl rfl rfl rfl rfl (by omega)) rfl ?_))))))))))
    refine foc i (by rw [List.length_append,mkL_len,List.length_take,List.length_drop]; omega) fun y2 ci_ o3 s4 o5 s6 w_ m7 r8 us4 us6=>?_
    obtain ⟨rfl⟩:=kMarkO_sh r8
    refine f1 (gsp (da:=(Kd.via Kd.i64 Mark.dist)) rfl rfl (fun o9 o10 s11 s12 us11 us12=>?_))
    refine gv (f1 (gsp (da:=(Kd.via Kd.i64 Mark.id)) rfl rfl (fun o13 o14 s15 s16 us15 us16=>?_)))
    refine gv (f1 (gv ?_))
    have zs:=sumTo_step (f:=cntE_Mark) (mk_raw m7); have zl:=sumTo_le cntE_Mark_nn a (i + 1); have z0:=sumTo_nn cntE_Mark_nn a i; have zc : cntE_Mark y2 = 0 + 1 + 1 + 1:=rfl
    refine vl (fa rfl rfl rfl) rfl (f3 (sth (off:=0) rfl rfl pa1 rfl rfl rfl rfl rfl (ci':=[.int .i64 v,.int .i64 y2.id,.int .i64 y2.nsn]) rfl (en (nx (sq (rg (m_ rfl rfl (vl (ra (c:=v + 1) rfl rfl rfl rfl (by omega) (by omega)) rfl (a_ rfl rfl (en (nx (sq (rg (m_ rfl rfl (m_ rfl rfl (m_ rfl rfl (vl (ix i rfl rfl rfl rfl rfl rfl (by omega)) rfl (vl (fa rfl rfl rfl) rfl (sth (off:=1) rfl rfl pa1 rfl rfl rfl rfl rfl (ci':=[.int .i64 v,.int .i64 (v + 1),.int .i64 y2.nsn]) rfl (en (nx (sq (rg (m_ rfl rfl (vl (ra (c:=v + 1 + 1) rfl rfl rfl rfl (by omega) (by omega)) rfl (a_ rfl rfl (en (nx (sq (rg (m_ rfl rfl (m_ rfl rfl (m_ rfl rfl (vl (ix i rfl rfl rfl rfl rfl rfl (by omega)) rfl (vl (fa rfl rfl rfl) rfl (sth (off:=2) rfl rfl pa1 rfl rfl rfl rfl rfl (ci':=[.int .i64 v,.int .i64 (v + 1),.int .i64 (v + 1 + 1)]) rfl (en (nx (rg (m_ rfl rfl (vl (ra (c:=v + 1 + 1 + 1) rfl rfl rfl rfl (by omega) (by omega)) rfl (a_ rfl rfl (en (xn (nx (rg (m_ rfl rfl (vl (ra (c:=((i + 1 : Nat) : Int)) rfl rfl rfl (by omega) (by omega) (by omega)) rfl (a_ rfl rfl (en (gs Kd.i64 [.int .i64 (v + 1 + 1)] ((mkE_Mark v y2).nsn) (fun _=>⟨rfl,rfl,rfl⟩) (gs Kd.i64 [.int .i64 (v + 1)] ((mkE_Mark v y2).id) (fun _=>⟨rfl,rfl,rfl⟩) (gj (da:=(Kd.via Kd.i64 Mark.id)) (db:=(Kd.via Kd.i64 Mark.nsn)) (x:=(mkE_Mark v y2)) rfl (gs Kd.i64 [.int .i64 v] ((mkE_Mark v y2).dist) (fun _=>⟨rfl,rfl,rfl⟩) (gj (da:=(Kd.via Kd.i64 Mark.dist)) (db:=((Kd.via Kd.i64 Mark.id).cat (Kd.via Kd.i64 Mark.nsn))) (x:=(mkE_Mark v y2)) rfl (f1 (unf (fun o17 s18 t19=>?_))))))))))))))))))))))))))))))))))))))))))))))))))))))))))
    refine gr (mkL mkE_Mark cntE_Mark k (a.take (i + 1)) ++ a.drop (i + 1)) (mk_step (mk_raw m7) (by rw [← hv])) ?_
    exact lpe (s:=(i,v,o_,s_)) (i + 1,v + 1 + 1 + 1,o17,s18) [0,3] ⟨by omega,by omega,by grind⟩ (by show a.length - (i + 1) < a.length - i; omega) ⟨rfl,rfl,rfl,trivial⟩ rfl
  · exact cf rfl (decide_eq_false h1) (xt (xq (xq (xb (nx (sq (rg (m_ rfl rfl (a_ rfl rfl (en (nx (rt (gr (mkL mkE_Mark cntE_Mark k a) (mk_end (by omega)) (ret1 rfl rfl (fun w_ hs_=>turno hs_ 0 rfl (by exact vi (by have z:=sumTo_end (f:=cntE_Mark) (l:=a) (k:=i) (by omega); omega)) (by grind))))))))))))))))
set_option maxRecDepth 20000 in
set_option maxHeartbeats 2000000 in
theorem laws_heldMarkS (w : World) (k : Int) {Aa0 : Option Addr} {na0 ca0 : Nat} {a : List Mark} {sa_ : List Nat} (ha : (Kd.sl kMarkS).Rel w [.slice Aa0 na0 ca0] (mkL mkE_Mark cntE_Mark k a) [] sa_) (hk0 : 0 ≤ k) (hk1 : k + (a.map cntE_Mark).sum ≤ 1152921504606846976) : Calls Tryz.prog 109 #[.slice Aa0 na0 ca0,.int .i64 k] w (fun e_ w2_=>e_ = .returned (.int .i64 (k + (a.map cntE_Mark).sum)) ∧ Below w.heap.size w w2_):=by
  have La:=Kd.sl_len ha; have Ea:=Kd.sl_n ha; rw [mkL_len] at La Ea
  refine fnc (X:=X3 40 w) (l:=[(0,.slice Aa0 na0 ca0),(1,.int .i64 k)]) Tryz.func109 rfl rfl rfl ⟨rfl,rfl,trivial⟩ (s0d ha (s0n w)).1 ?_
  refine sq (rg (a_ rfl rfl (en (nx (sq (sq (rg (a_ rfl rfl (en (nx (bk ?_)))))))))))
  refine lp (σ:=Nat × Int) (fun z_ : Nat × Int=>match z_ with | (i,v)=>[(0,.slice Aa0 na0 ca0),(1,.int .i64 v),(5,.int .i64 ((i : Nat) : Int))])
      (fun z_ : Nat × Int=>match z_ with | (i,v)=>[dat (Kd.sl kMarkS) [.slice Aa0 na0 ca0] (mkL mkE_Mark cntE_Mark k a) ([]) sa_])
      (fun z_ : Nat × Int=>match z_ with | (i,v)=>i ≤ a.length ∧ v = k + sumTo cntE_Mark a i) (fun z_ : Nat × Int=>match z_ with | (i,v)=>a.length - i) (0,k) [0] ⟨Nat.zero_le _,by simp [sumTo]⟩ ⟨rfl,rfl,rfl,trivial⟩ rfl ?_
  rintro ⟨i,v⟩ hp_
  obtain ⟨hi,hv⟩:=hp_; have z0:=sumTo_nn cntE_Mark_nn a i; have zt:=sumTo_le cntE_Mark_nn a i
  refine sq (sq (rg (m_ rfl rfl (m_ rfl rfl (vl (ln rfl rfl rfl) rfl (vl (cm rfl rfl rfl rfl) rfl (en (nx ?_))))))))
  by_cases h1 : ((i : Nat) : Int) < ((na0 : Nat) : Int)
  · refine ct rfl (decide_eq_true h1) (sk (nx (sq (bk (sq (sq (rg (m_ rfl rfl (m_ rfl rfl ?_)))))))))
    refine gx 0 i rfl (by first | omega | (rw [mkL_len]; omega)) fun y7 p2 cs_ s3 w6 m8 e4 r5 us3=>?_
    obtain ⟨rfl⟩:=kMarkS_sh r5
    obtain ⟨y9,hy9⟩:=mkL_some m8
    have zy9:=mkL_at' m8 hy9 hv; subst zy9
    have zs:=sumTo_step (f:=cntE_Mark) hy9; have zl:=sumTo_le cntE_Mark_nn a (i + 1); have z0:=sumTo_nn cntE_Mark_nn a i; have zc : cntE_Mark y9 = 0 + 1 + 1 + 1:=rfl
    refine vl (ix i e4 rfl rfl rfl rfl rfl (by first | omega | (rw [mkL_len]; omega))) rfl (vl (fa rfl rfl rfl) rfl (vl (ldp (u:=.int .i64 ((mkE_Mark v y9).dist)) 0 rfl rfl rfl rfl rfl rfl rfl) rfl (m_ rfl rfl (vl (cm rfl rfl rfl rfl) rfl (en (nx ?_))))))
    by_cases h10 : (mkE_Mark v y9).dist = v
    · refine cf rfl (bne_eq_false_iff_eq.2 h10) (sk (nx (sq (rg (m_ rfl rfl (vl (ra (c:=v + 1) rfl rfl rfl rfl (by omega) (by omega)) rfl (a_ rfl rfl (en (nx (sq (sq (rg (m_ rfl rfl (m_ rfl rfl (vl (ix i e4 rfl rfl rfl rfl rfl (by first | omega | (rw [mkL_len]; omega))) rfl (vl (fa rfl rfl rfl) rfl (vl (ldp (u:=.int .i64 ((mkE_Mark v y9).id)) 0 rfl rfl rfl rfl rfl rfl rfl) rfl (m_ rfl rfl (vl (cm rfl rfl rfl rfl) rfl (en (nx ?_)))))))))))))))))))))
      by_cases h11 : (mkE_Mark v y9).id = v + 1
      · refine cf rfl (bne_eq_false_iff_eq.2 h11) (sk (nx (sq (rg (m_ rfl rfl (vl (ra (c:=v + 1 + 1) rfl rfl rfl rfl (by omega) (by omega)) rfl (a_ rfl rfl (en (nx (sq (sq (rg (m_ rfl rfl (m_ rfl rfl (vl (ix i e4 rfl rfl rfl rfl rfl (by first | omega | (rw [mkL_len]; omega))) rfl (vl (fa rfl rfl rfl) rfl (vl (ldp (u:=.int .i64 ((mkE_Mark v y9).nsn)) 0 rfl rfl rfl rfl rfl rfl rfl) rfl (m_ rfl rfl (vl (cm rfl rfl rfl rfl) rfl (en (nx ?_)))))))))))))))))))))
        by_cases h12 : (mkE_Mark v y9).nsn = v + 1 + 1
        · exact cf rfl (bne_eq_false_iff_eq.2 h12) (sk (nx (rg (m_ rfl rfl (vl (ra (c:=v + 1 + 1 + 1) rfl rfl rfl rfl (by omega) (by omega)) rfl (a_ rfl rfl (en (xn (nx (rg (m_ rfl rfl (vl (ra (c:=((i + 1 : Nat) : Int)) rfl rfl rfl (by omega) (by omega) (by omega)) rfl (a_ rfl rfl (en (lpe (s:=(i,v)) (i + 1,v + 1 + 1 + 1) [1] ⟨by omega,by omega⟩ (by show a.length - (i + 1) < a.length - i; omega) ⟨rfl,rfl,rfl,trivial⟩ rfl)))))))))))))))
        · exact absurd rfl h12
      · exact absurd rfl h11
    · exact absurd rfl h10
  · refine cf rfl (decide_eq_false h1) (xt (xq (xq (xb (nx (sq (rg (m_ rfl rfl (a_ rfl rfl (en (nx (rt (ret1 rfl rfl (fun w_ hs_=>⟨?_,hs_.below⟩))))))))))))))
    exact ri (by have z:=sumTo_end (f:=cntE_Mark) (l:=a) (k:=i) (by omega); omega)
set_option maxRecDepth 20000 in
set_option maxHeartbeats 2000000 in
theorem laws_markPairS (w : World) (k : Int) {Aa : Option Addr} {ca : Nat} {a : List Pair} {oa_ sa_ : List Nat} (hst : St (nul w) w [dat (Kd.row 119 kPairO) [.slice Aa a.length ca] a oa_ sa_]) (hk0 : 0 ≤ k) (hk1 : k + (a.map cntE_Pair).sum ≤ 1152921504606846976) : Calls Tryz.prog 50 #[.slice Aa a.length ca,.int .i64 k] w (TurnO (Kd.row 119 kPairO) [.slice Aa a.length ca] (.int .i64 (k + (a.map cntE_Pair).sum)) w oa_ (mkL mkE_Pair cntE_Pair k a) (sa_)):=by
  have La:=Kd.row_len (hst.at 0 rfl); have Ca:=Kd.row_cap (hst.at 0 rfl)
  refine fnc (X:=X3 36 (nul w)) (l:=[(0,.slice Aa a.length ca),(1,.int .i64 k)]) Tryz.func50 rfl rfl rfl ⟨rfl,rfl,trivial⟩ (⟨hst.fr oa_ (by simp [owns,dat,ptr]),trivial⟩ : _ ∧ True).1 ?_
  refine sq (rg (a_ rfl rfl (en (nx (sq (sq (rg (a_ rfl rfl (en (nx (bk ?_)))))))))))
  refine lp (σ:=Nat × Int × List Nat × List Nat) (fun z_ : Nat × Int × List Nat × List Nat=>match z_ with | (i,v,o_,s_)=>[(0,.slice Aa a.length ca),(1,.int .i64 v),(5,.int .i64 ((i : Nat) : Int))])
      (fun z_ : Nat × Int × List Nat × List Nat=>match z_ with | (i,v,o_,s_)=>[dat (Kd.row 119 kPairO) [.slice Aa a.length ca] (mkL mkE_Pair cntE_Pair k (a.take i) ++ a.drop i) o_ s_,frm w oa_])
      (fun z_ : Nat × Int × List Nat × List Nat=>match z_ with | (i,v,o_,s_)=>i ≤ a.length ∧ v = k + sumTo cntE_Pair a i ∧ ∀ q ∈ s_,q ∈ sa_ ∨ w.heap.size ≤ q) (fun z_ : Nat × Int × List Nat × List Nat=>match z_ with | (i,v,o_,s_)=>a.length - i) (0,k,oa_,sa_) [1,0] ⟨Nat.zero_le _,by simp [sumTo],fun q h=>.inl h⟩ ⟨rfl,rfl,rfl,trivial⟩ rfl ?_
  rintro ⟨i,v,o_,s_⟩ hp_
  obtain ⟨hi,hv,hsee⟩:=hp_; have z0:=sumTo_nn cntE_Pair_nn a i; have zt:=sumTo_le cntE_Pair_nn a i
  refine sq (sq (rg (m_ rfl rfl (m_ rfl rfl (vl (ln rfl rfl rfl) rfl (vl (cm rfl rfl rfl rfl) rfl (en (nx ?_))))))))
  by_cases h1 : ((i : Nat) : Int) < ((a.length : Nat) : Int)
  · obtain ⟨ba,rfl⟩:=Kd.row_pos (hst.at 0 rfl) (by omega)
    refine ct rfl (decide_eq_true h1) (sk (nx (sq (bk (sq (rg (m_ rfl rfl (m_ rfl rfl (m_ rfl rfl (vl (ix i rfl rfl rfl rfl rfl rfl (by omega)) rfl ?_))))))))))
    refine foc i (by rw [List.length_append,mkL_len,List.length_take,List.length_drop]; omega) fun y2 ci_ o3 s4 o5 s6 w_ m7 r8 us4 us6=>?_
    obtain ⟨A9,c10,A11,c12,rfl⟩:=kPairO_sh r8
    refine f1 (gsp (da:=(Kd.via Kd.i64 Pair.id)) rfl rfl (fun o13 o14 s15 s16 us15 us16=>?_))
    refine gv (f1 (gv (gsp (da:=(Kd.via (Kd.row 2 Kd.i64) Rect.low)) rfl rfl (fun o17 o18 s19 s20 us19 us20=>?_))))
    refine gv (f1 (gv ?_))
    have zs:=sumTo_step (f:=cntE_Pair) (mk_raw m7); have zl:=sumTo_le cntE_Pair_nn a (i + 1); have z0:=sumTo_nn cntE_Pair_nn a i; have zc : cntE_Pair y2 = 0 + 1 + (y2.rect.low.length : Int) + (y2.rect.high.length : Int):=rfl
    refine vl (fa rfl rfl rfl) rfl (f3 (sth (off:=0) rfl rfl pa1 rfl rfl rfl rfl rfl (ci':=[.int .i64 v,.slice A9 y2.rect.low.length c10,.slice A11 y2.rect.high.length c12]) rfl (en (nx (sq (rg (m_ rfl rfl (vl (ra (c:=v + 1) rfl rfl rfl rfl (by omega) (by omega)) rfl (a_ rfl rfl (en (nx (sq (rg (m_ rfl rfl (m_ rfl rfl (vl (ix i rfl rfl rfl rfl rfl rfl (by omega)) rfl (vl (fa rfl rfl rfl) rfl (vl (fb rfl rfl rfl) rfl (vl (ldh (u:=.slice A9 y2.rect.low.length c10) 0 (off:=1) rfl rfl rfl rfl pa1 rfl rfl rfl) rfl (m_ rfl rfl (f2 (cto (dk:=(Kd.row 2 Kd.i64)) (cs:=[.slice A9 y2.rect.low.length c10]) (x:=(mkL mI cI (v + 1) y2.rect.low)) (v:=.int .i64 (v + 1 + ((y2.rect.low.length : Nat) : Int))) (S:=(s19)) (by kernel_rfl) rfl rfl rfl (snt 0 rfl) w.heap.size (fun w_ hs_=>(hs_.mod 4 rfl).size) (fun w_ hs_=>laws_markInt64S w_ _ ((hs_.pk [0] rfl).nl) (by omega) (by omega)) (fun o21 s22 t23=>?_)))))))))))))))))))))))
    refine a_ rfl rfl (en (nx (rg (m_ rfl rfl (m_ rfl rfl (vl (ix i rfl rfl rfl rfl rfl rfl (by omega)) rfl (vl (fa rfl rfl rfl) rfl (vl (fb rfl rfl rfl) rfl (vl (ldh (u:=.slice A11 y2.rect.high.length c12) 1 (off:=2) rfl rfl rfl rfl pa1 rfl rfl rfl) rfl (m_ rfl rfl (f2 (cto (dk:=(Kd.row 2 Kd.i64)) (cs:=[.slice A11 y2.rect.high.length c12]) (x:=(mkL mI cI (v + 1 + ((y2.rect.low.length : Nat) : Int)) y2.rect.high)) (v:=.int .i64 ((v + 1 + ((y2.rect.low.length : Nat) : Int)) + ((y2.rect.high.length : Nat) : Int))) (S:=(s20)) (by kernel_rfl) rfl rfl rfl (snt 0 rfl) w.heap.size (fun w_ hs_=>(hs_.mod 4 rfl).size) (fun w_ hs_=>laws_markInt64S w_ _ ((hs_.pk [0] rfl).nl) (by omega) (by omega)) (fun o24 s25 t26=>?_)))))))))))))
    refine a_ rfl rfl (en (xn (nx (rg (m_ rfl rfl (vl (ra (c:=((i + 1 : Nat) : Int)) rfl rfl rfl (by omega) (by omega) (by omega)) rfl (a_ rfl rfl (en (f1 (gj (da:=(Kd.via (Kd.row 2 Kd.i64) Rect.low)) (db:=(Kd.via (Kd.row 2 Kd.i64) Rect.high)) (x:=((mkE_Pair v y2).rect)) rfl (gs Kd.i64 [.int .i64 v] ((mkE_Pair v y2).id) (fun _=>⟨rfl,rfl,rfl⟩) (gj (da:=(Kd.via Kd.i64 Pair.id)) (db:=(Kd.via kRectO Pair.rect)) (x:=(mkE_Pair v y2)) rfl (f1 (unf (fun o27 s28 t29=>?_)))))))))))))))
    refine gr (mkL mkE_Pair cntE_Pair k (a.take (i + 1)) ++ a.drop (i + 1)) (mk_step (mk_raw m7) (by rw [← hv])) ?_
    exact lpe (s:=(i,v,o_,s_)) (i + 1,((v + 1 + ((y2.rect.low.length : Nat) : Int)) + ((y2.rect.high.length : Nat) : Int)),o27,s28) [0,1] ⟨by omega,by omega,by grind⟩ (by show a.length - (i + 1) < a.length - i; omega) ⟨rfl,rfl,rfl,trivial⟩ rfl
  · exact cf rfl (decide_eq_false h1) (xt (xq (xq (xb (nx (sq (rg (m_ rfl rfl (a_ rfl rfl (en (nx (rt (gr (mkL mkE_Pair cntE_Pair k a) (mk_end (by omega)) (ret1 rfl rfl (fun w_ hs_=>turno hs_ 0 rfl (by exact vi (by have z:=sumTo_end (f:=cntE_Pair) (l:=a) (k:=i) (by omega); omega)) (by grind))))))))))))))))
set_option maxRecDepth 20000 in
set_option maxHeartbeats 2000000 in
theorem laws_heldPairS (w : World) (k : Int) {Aa0 : Option Addr} {na0 ca0 : Nat} {a : List Pair} {sa_ : List Nat} (ha : (Kd.sl kPairS).Rel w [.slice Aa0 na0 ca0] (mkL mkE_Pair cntE_Pair k a) [] sa_) (hk0 : 0 ≤ k) (hk1 : k + (a.map cntE_Pair).sum ≤ 1152921504606846976) : Calls Tryz.prog 110 #[.slice Aa0 na0 ca0,.int .i64 k] w (fun e_ w2_=>e_ = .returned (.int .i64 (k + (a.map cntE_Pair).sum)) ∧ Below w.heap.size w w2_):=by
  have La:=Kd.sl_len ha; have Ea:=Kd.sl_n ha; rw [mkL_len] at La Ea
  refine fnc (X:=X3 42 w) (l:=[(0,.slice Aa0 na0 ca0),(1,.int .i64 k)]) Tryz.func110 rfl rfl rfl ⟨rfl,rfl,trivial⟩ (s0d ha (s0n w)).1 ?_
  refine sq (rg (a_ rfl rfl (en (nx (sq (sq (rg (a_ rfl rfl (en (nx (bk ?_)))))))))))
  refine lp (σ:=Nat × Int) (fun z_ : Nat × Int=>match z_ with | (i,v)=>[(0,.slice Aa0 na0 ca0),(1,.int .i64 v),(5,.int .i64 ((i : Nat) : Int))])
      (fun z_ : Nat × Int=>match z_ with | (i,v)=>[dat (Kd.sl kPairS) [.slice Aa0 na0 ca0] (mkL mkE_Pair cntE_Pair k a) ([]) sa_])
      (fun z_ : Nat × Int=>match z_ with | (i,v)=>i ≤ a.length ∧ v = k + sumTo cntE_Pair a i) (fun z_ : Nat × Int=>match z_ with | (i,v)=>a.length - i) (0,k) [0] ⟨Nat.zero_le _,by simp [sumTo]⟩ ⟨rfl,rfl,rfl,trivial⟩ rfl ?_
  rintro ⟨i,v⟩ hp_
  obtain ⟨hi,hv⟩:=hp_; have z0:=sumTo_nn cntE_Pair_nn a i; have zt:=sumTo_le cntE_Pair_nn a i
  refine sq (sq (rg (m_ rfl rfl (m_ rfl rfl (vl (ln rfl rfl rfl) rfl (vl (cm rfl rfl rfl rfl) rfl (en (nx ?_))))))))
  by_cases h1 : ((i : Nat) : Int) < ((na0 : Nat) : Int)
  · refine ct rfl (decide_eq_true h1) (sk (nx (sq (bk (sq (sq (rg (m_ rfl rfl (m_ rfl rfl ?_)))))))))
    refine gx 0 i rfl (by first | omega | (rw [mkL_len]; omega)) fun y7 p2 cs_ s3 w6 m8 e4 r5 us3=>?_
    obtain ⟨A9,c10,A11,c12,rfl⟩:=kPairS_sh r5
    obtain ⟨y13,hy13⟩:=mkL_some m8
    have zy13:=mkL_at' m8 hy13 hv; subst zy13
    have zs:=sumTo_step (f:=cntE_Pair) hy13; have zl:=sumTo_le cntE_Pair_nn a (i + 1); have z0:=sumTo_nn cntE_Pair_nn a i; have zc : cntE_Pair y13 = 0 + 1 + (y13.rect.low.length : Int) + (y13.rect.high.length : Int):=rfl
    refine vl (ix i e4 rfl rfl rfl rfl rfl (by first | omega | (rw [mkL_len]; omega))) rfl (vl (fa rfl rfl rfl) rfl (vl (ldp (u:=.int .i64 ((mkE_Pair v y13).id)) 0 rfl rfl rfl rfl rfl rfl rfl) rfl (m_ rfl rfl (vl (cm rfl rfl rfl rfl) rfl (en (nx ?_))))))
    by_cases h14 : (mkE_Pair v y13).id = v
    · refine cf rfl (bne_eq_false_iff_eq.2 h14) (sk (nx (sq (rg (m_ rfl rfl (vl (ra (c:=v + 1) rfl rfl rfl rfl (by omega) (by omega)) rfl (a_ rfl rfl (en (nx (sq (rg (m_ rfl rfl (m_ rfl rfl (vl (ix i e4 rfl rfl rfl rfl rfl (by first | omega | (rw [mkL_len]; omega))) rfl (vl (fa rfl rfl rfl) rfl (vl (fb rfl rfl rfl) rfl (vl (ldp (u:=.slice A9 ((mkE_Pair v y13).rect.low.length) c10) 0 rfl rfl rfl rfl rfl rfl rfl) rfl (m_ rfl rfl ?_))))))))))))))))))
      refine gp 0 kPairS_p1_1 rfl (cs':=[.slice A9 ((mkE_Pair v y13).rect.low.length) c10]) rfl fun s15 w_ rs15 us15=>?_
      have Ls15:=Kd.sl_len rs15; have Cs15:=Kd.sl_cap rs15
      refine gr (mkL mI cI (v + 1) y13.rect.low) rfl (cs_ (v:=.int .i64 (v + 1 + ((y13.rect.low.length : Nat) : Int))) (by kernel_rfl) rfl rfl rfl (fun w_ hs_=>laws_heldInt64S w_ _ (hs_.at 0 rfl) (by omega) (by omega)) (a_ rfl rfl (en (nx (sq (sq (rg (m_ rfl rfl (vl (cm rfl rfl rfl rfl) rfl (en (nx ?_)))))))))))
      by_cases h16 : (v + 1 + ((y13.rect.low.length : Nat) : Int)) < (0 : Int)
      · exfalso; omega
      · refine cf rfl (decide_eq_false h16) (sk (nx (sq (rg (m_ rfl rfl (m_ rfl rfl (vl (ix i e4 rfl rfl rfl rfl rfl (by first | omega | (rw [mkL_len]; omega))) rfl (vl (fa rfl rfl rfl) rfl (vl (fb rfl rfl rfl) rfl (vl (ldp (u:=.slice A11 ((mkE_Pair v y13).rect.high.length) c12) 1 rfl rfl rfl rfl rfl rfl rfl) rfl (m_ rfl rfl ?_)))))))))))
        refine gp 1 kPairS_p2_1 rfl (cs':=[.slice A11 ((mkE_Pair v y13).rect.high.length) c12]) rfl fun s17 w_ rs17 us17=>?_
        have Ls17:=Kd.sl_len rs17; have Cs17:=Kd.sl_cap rs17
        refine gr (mkL mI cI (v + 1 + (y13.rect.low.length : Int)) y13.rect.high) rfl (cs_ (v:=.int .i64 ((v + 1 + ((y13.rect.low.length : Nat) : Int)) + ((y13.rect.high.length : Nat) : Int))) (by kernel_rfl) rfl rfl rfl (fun w_ hs_=>laws_heldInt64S w_ _ (hs_.at 0 rfl) (by omega) (by omega)) (a_ rfl rfl (en (nx (sq (rg (m_ rfl rfl (vl (cm rfl rfl rfl rfl) rfl (en (nx ?_))))))))))
        by_cases h18 : ((v + 1 + ((y13.rect.low.length : Nat) : Int)) + ((y13.rect.high.length : Nat) : Int)) < (0 : Int)
        · exfalso; omega
        · exact cf rfl (decide_eq_false h18) (sk (xn (nx (rg (m_ rfl rfl (vl (ra (c:=((i + 1 : Nat) : Int)) rfl rfl rfl (by omega) (by omega) (by omega)) rfl (a_ rfl rfl (en (lpe (s:=(i,v)) (i + 1,((v + 1 + ((y13.rect.low.length : Nat) : Int)) + ((y13.rect.high.length : Nat) : Int))) [3] ⟨by omega,by omega⟩ (by show a.length - (i + 1) < a.length - i; omega) ⟨rfl,rfl,rfl,trivial⟩ rfl)))))))))
    · exact absurd rfl h14
  · refine cf rfl (decide_eq_false h1) (xt (xq (xq (xb (nx (sq (rg (m_ rfl rfl (a_ rfl rfl (en (nx (rt (ret1 rfl rfl (fun w_ hs_=>⟨?_,hs_.below⟩))))))))))))))
    exact ri (by have z:=sumTo_end (f:=cntE_Pair) (l:=a) (k:=i) (by omega); omega)
set_option maxRecDepth 20000 in
set_option maxHeartbeats 2000000 in
theorem laws_markLook (w : World) (k : Int) {Aa1 : Option Addr} {ca1 : Nat} {Aa2 : Option Addr} {ca2 : Nat} {Aa3 : Option Addr} {ca3 : Nat} {Aa5 : Option Addr} {ca5 : Nat} {Aa6 : Option Addr} {ca6 : Nat} {a : Look} {oa_ sa_ : List Nat} (hst : St (nul w) w [dat kLookO [.int .i64 a.query.kind,.slice Aa1 a.query.rect.low.length ca1,.slice Aa2 a.query.rect.high.length ca2,.slice Aa3 a.query.point.length ca3,.int .i64 a.query.k,.slice Aa5 a.front.length ca5,.slice Aa6 a.found.length ca6] a oa_ sa_]) (hk0 : 0 ≤ k) (hk1 : k + (0 + (a.query.rect.low.length : Int) + (a.query.rect.high.length : Int) + (a.query.point.length : Int) + (a.front.map cntE_Mark).sum + (a.found.map cntE_Pair).sum) ≤ 1152921504606846976) : Calls Tryz.prog 14 #[.agg #[.int .i64 a.query.kind,.slice Aa1 a.query.rect.low.length ca1,.slice Aa2 a.query.rect.high.length ca2,.slice Aa3 a.query.point.length ca3,.int .i64 a.query.k,.slice Aa5 a.front.length ca5,.slice Aa6 a.found.length ca6],.int .i64 k] w (TurnO kLookO [.int .i64 a.query.kind,.slice Aa1 a.query.rect.low.length ca1,.slice Aa2 a.query.rect.high.length ca2,.slice Aa3 a.query.point.length ca3,.int .i64 a.query.k,.slice Aa5 a.front.length ca5,.slice Aa6 a.found.length ca6] (.int .i64 (k + (a.query.rect.low.length : Int) + (a.query.rect.high.length : Int) + (a.query.point.length : Int) + (a.front.map cntE_Mark).sum + (a.found.map cntE_Pair).sum)) w oa_ (mkV_Look k a) (sa_)):=by
  have zn0:=sum_nn cntE_Mark_nn a.front; have zn1:=sum_nn cntE_Pair_nn a.found
  refine fnc (X:=X3 18 (nul w)) (l:=[(0,.agg #[.int .i64 a.query.kind,.slice Aa1 a.query.rect.low.length ca1,.slice Aa2 a.query.rect.high.length ca2,.slice Aa3 a.query.point.length ca3,.int .i64 a.query.k,.slice Aa5 a.front.length ca5,.slice Aa6 a.found.length ca6]),(1,.int .i64 k)]) Tryz.func14 rfl rfl rfl ⟨rfl,rfl,trivial⟩ (⟨hst.fr oa_ (by simp [owns,dat,ptr]),trivial⟩ : _ ∧ True).1 ?_
  refine f1 (gsp (da:=(Kd.via kQueryO Look.query)) rfl rfl (fun o1 o2 s3 s4 us3 us4=>?_))
  refine gv (f1 (gsp (da:=(Kd.via (Kd.row 115 kMarkO) Look.front)) rfl rfl (fun o5 o6 s7 s8 us7 us8=>?_)))
  refine gv (f1 (gv ?_))
  refine sq (rg (bx rfl rfl rfl rfl ?_))
  intro b9
  refine a_ rfl rfl (en (nx (sq (rg (vl (fa rfl rfl rfl) rfl (vl (ldb 0 rfl rfl rfl rfl rfl rfl rfl) rfl (m_ rfl rfl (f3 (cto (dk:=kQueryO) (cs:=[.int .i64 a.query.kind,.slice Aa1 a.query.rect.low.length ca1,.slice Aa2 a.query.rect.high.length ca2,.slice Aa3 a.query.point.length ca3,.int .i64 a.query.k]) (x:=(mkV_Query k a.query)) (v:=.int .i64 (k + (a.query.rect.low.length : Int) + (a.query.rect.high.length : Int) + (a.query.point.length : Int))) (S:=(s3)) (by kernel_rfl) rfl rfl rfl (snt 0 rfl) w.heap.size (fun w_ hs_=>(hs_.mod 4 rfl).size) (fun w_ hs_=>laws_markQuery w_ _ ((hs_.pk [0] rfl).nl) (by omega) (by omega)) (fun o10 s11 t12=>?_))))))))))
  refine a_ rfl rfl (en (nx (sq (rg (vl (fa rfl rfl rfl) rfl (vl (ldb (u:=.slice Aa5 a.front.length ca5) 1 rfl rfl rfl rfl rfl rfl rfl) rfl (m_ rfl rfl (f3 (cto (dk:=(Kd.row 115 kMarkO)) (cs:=[.slice Aa5 a.front.length ca5]) (x:=(mkL mkE_Mark cntE_Mark (k + (a.query.rect.low.length : Int) + (a.query.rect.high.length : Int) + (a.query.point.length : Int)) a.front)) (v:=.int .i64 ((k + (a.query.rect.low.length : Int) + (a.query.rect.high.length : Int) + (a.query.point.length : Int)) + (a.front.map cntE_Mark).sum)) (S:=(s7)) (by kernel_rfl) rfl rfl rfl (snt 0 rfl) w.heap.size (fun w_ hs_=>(hs_.mod 4 rfl).size) (fun w_ hs_=>laws_markMarkS w_ _ ((hs_.pk [0] rfl).nl) (by omega) (by omega)) (fun o13 s14 t15=>?_))))))))))
  refine a_ rfl rfl (en (nx (sq (rg (vl (fa rfl rfl rfl) rfl (vl (ldb (u:=.slice Aa6 a.found.length ca6) 2 rfl rfl rfl rfl rfl rfl rfl) rfl (m_ rfl rfl (f3 (cto (dk:=(Kd.row 119 kPairO)) (cs:=[.slice Aa6 a.found.length ca6]) (x:=(mkL mkE_Pair cntE_Pair ((k + (a.query.rect.low.length : Int) + (a.query.rect.high.length : Int) + (a.query.point.length : Int)) + (a.front.map cntE_Mark).sum) a.found)) (v:=.int .i64 (((k + (a.query.rect.low.length : Int) + (a.query.rect.high.length : Int) + (a.query.point.length : Int)) + (a.front.map cntE_Mark).sum) + (a.found.map cntE_Pair).sum)) (S:=(s8)) (by kernel_rfl) rfl rfl rfl (snt 0 rfl) w.heap.size (fun w_ hs_=>(hs_.mod 4 rfl).size) (fun w_ hs_=>laws_markPairS w_ _ ((hs_.pk [0] rfl).nl) (by omega) (by omega)) (fun o16 s17 t18=>?_))))))))))
  exact a_ rfl rfl (en (nx (sq (rg (m_ rfl rfl (a_ rfl rfl (en (nx (rt (f1 (gj (da:=(Kd.via (Kd.row 115 kMarkO) Look.front)) (db:=(Kd.via (Kd.row 119 kPairO) Look.found)) (x:=(mkV_Look k a)) rfl (f1 (gj (da:=(Kd.via kQueryO Look.query)) (db:=((Kd.via (Kd.row 115 kMarkO) Look.front).cat (Kd.via (Kd.row 119 kPairO) Look.found))) (x:=(mkV_Look k a)) rfl (ret1 rfl rfl (fun w_ hs_=>turno hs_ 1 rfl (by exact vi (by omega)) (see_app (by grind) (see_app (by grind) (by grind))))))))))))))))))
set_option maxRecDepth 20000 in
set_option maxHeartbeats 2000000 in
theorem laws_heldLook (w : World) (k : Int) {Aa1 : Option Addr} {na1 ca1 : Nat} {Aa2 : Option Addr} {na2 ca2 : Nat} {Aa3 : Option Addr} {na3 ca3 : Nat} {Aa5 : Option Addr} {na5 ca5 : Nat} {Aa6 : Option Addr} {na6 ca6 : Nat} {a : Look} {sa_ : List Nat} (ha : kLookS.Rel w [.int .i64 ((mkV_Look k a).query.kind),.slice Aa1 na1 ca1,.slice Aa2 na2 ca2,.slice Aa3 na3 ca3,.int .i64 ((mkV_Look k a).query.k),.slice Aa5 na5 ca5,.slice Aa6 na6 ca6] (mkV_Look k a) [] sa_) (hk0 : 0 ≤ k) (hk1 : k + (0 + (a.query.rect.low.length : Int) + (a.query.rect.high.length : Int) + (a.query.point.length : Int) + (a.front.map cntE_Mark).sum + (a.found.map cntE_Pair).sum) ≤ 1152921504606846976) : Calls Tryz.prog 51 #[.agg #[.int .i64 ((mkV_Look k a).query.kind),.slice Aa1 na1 ca1,.slice Aa2 na2 ca2,.slice Aa3 na3 ca3,.int .i64 ((mkV_Look k a).query.k),.slice Aa5 na5 ca5,.slice Aa6 na6 ca6],.int .i64 k] w (fun e_ w2_=>e_ = .returned (.int .i64 (k + (a.query.rect.low.length : Int) + (a.query.rect.high.length : Int) + (a.query.point.length : Int) + (a.front.map cntE_Mark).sum + (a.found.map cntE_Pair).sum)) ∧ Below w.heap.size w w2_):=by
  have zn0:=sum_nn cntE_Mark_nn a.front; have zn1:=sum_nn cntE_Pair_nn a.found
  refine fnc (X:=X3 24 w) (l:=[(0,.agg #[.int .i64 ((mkV_Look k a).query.kind),.slice Aa1 na1 ca1,.slice Aa2 na2 ca2,.slice Aa3 na3 ca3,.int .i64 ((mkV_Look k a).query.k),.slice Aa5 na5 ca5,.slice Aa6 na6 ca6]),(1,.int .i64 k)]) Tryz.func51 rfl rfl rfl ⟨rfl,rfl,trivial⟩ (s0d ha (s0n w)).1 ?_
  refine sq (rg (bx rfl rfl rfl rfl ?_))
  intro b1
  refine a_ rfl rfl (en (nx (sq (rg (vl (fa rfl rfl rfl) rfl (vl (ldb 0 rfl rfl rfl rfl rfl rfl rfl) rfl (m_ rfl rfl ?_)))))))
  refine gd 1 kLookS_p0_5 rfl (cs':=[.int .i64 ((mkV_Look k a).query.kind),.slice Aa1 na1 ca1,.slice Aa2 na2 ca2,.slice Aa3 na3 ca3,.int .i64 ((mkV_Look k a).query.k)]) rfl fun s2 w_ rs2 us2=>?_
  refine gr (mkV_Query k a.query) rfl (cs_ (v:=.int .i64 (k + (a.query.rect.low.length : Int) + (a.query.rect.high.length : Int) + (a.query.point.length : Int))) (by kernel_rfl) rfl rfl rfl (fun w_ hs_=>laws_heldQuery w_ _ (hs_.at 0 rfl) (by omega) (by omega)) (a_ rfl rfl (en (nx (sq (sq (rg (m_ rfl rfl (vl (cm rfl rfl rfl rfl) rfl (en (nx ?_)))))))))))
  by_cases h3 : (k + (a.query.rect.low.length : Int) + (a.query.rect.high.length : Int) + (a.query.point.length : Int)) < (0 : Int)
  · exfalso; omega
  · refine cf rfl (decide_eq_false h3) (sk (nx (sq (rg (vl (fa rfl rfl rfl) rfl (vl (ldb (u:=.slice Aa5 na5 ca5) 1 rfl rfl rfl rfl rfl rfl rfl) rfl (m_ rfl rfl ?_)))))))
    refine gd 2 kLookS_p5_1 rfl (cs':=[.slice Aa5 na5 ca5]) rfl fun s4 w_ rs4 us4=>?_
    have Ls4:=Kd.sl_len rs4; have Cs4:=Kd.sl_cap rs4
    refine gr (mkL mkE_Mark cntE_Mark (k + (a.query.rect.low.length : Int) + (a.query.rect.high.length : Int) + (a.query.point.length : Int)) a.front) rfl (cs_ (v:=.int .i64 ((k + (a.query.rect.low.length : Int) + (a.query.rect.high.length : Int) + (a.query.point.length : Int)) + (a.front.map cntE_Mark).sum)) (by kernel_rfl) rfl rfl rfl (fun w_ hs_=>laws_heldMarkS w_ _ (hs_.at 0 rfl) (by omega) (by omega)) (a_ rfl rfl (en (nx (sq (sq (rg (m_ rfl rfl (vl (cm rfl rfl rfl rfl) rfl (en (nx ?_)))))))))))
    by_cases h5 : ((k + (a.query.rect.low.length : Int) + (a.query.rect.high.length : Int) + (a.query.point.length : Int)) + (a.front.map cntE_Mark).sum) < (0 : Int)
    · exfalso; omega
    · refine cf rfl (decide_eq_false h5) (sk (nx (sq (rg (vl (fa rfl rfl rfl) rfl (vl (ldb (u:=.slice Aa6 na6 ca6) 2 rfl rfl rfl rfl rfl rfl rfl) rfl (m_ rfl rfl ?_)))))))
      refine gd 3 kLookS_p6_1 rfl (cs':=[.slice Aa6 na6 ca6]) rfl fun s6 w_ rs6 us6=>?_
      have Ls6:=Kd.sl_len rs6; have Cs6:=Kd.sl_cap rs6
      refine gr (mkL mkE_Pair cntE_Pair (k + (a.query.rect.low.length : Int) + (a.query.rect.high.length : Int) + (a.query.point.length : Int) + (a.front.map cntE_Mark).sum) a.found) rfl (cs_ (v:=.int .i64 (((k + (a.query.rect.low.length : Int) + (a.query.rect.high.length : Int) + (a.query.point.length : Int)) + (a.front.map cntE_Mark).sum) + (a.found.map cntE_Pair).sum)) (by kernel_rfl) rfl rfl rfl (fun w_ hs_=>laws_heldPairS w_ _ (hs_.at 0 rfl) (by omega) (by omega)) (a_ rfl rfl (en (nx (sq (sq (rg (m_ rfl rfl (vl (cm rfl rfl rfl rfl) rfl (en (nx ?_)))))))))))
      by_cases h7 : (((k + (a.query.rect.low.length : Int) + (a.query.rect.high.length : Int) + (a.query.point.length : Int)) + (a.front.map cntE_Mark).sum) + (a.found.map cntE_Pair).sum) < (0 : Int)
      · exfalso; omega
      · refine cf rfl (decide_eq_false h7) (sk (nx (sq (rg (m_ rfl rfl (a_ rfl rfl (en (nx (rt (ret1 rfl rfl (fun w_ hs_=>⟨?_,hs_.below⟩)))))))))))
        exact ri (by omega)
set_option maxRecDepth 20000 in
set_option maxHeartbeats 2000000 in
theorem laws_markLookResult (w : World) (k : Int) {Aa2 : Option Addr} {ca2 : Nat} {Aa3 : Option Addr} {ca3 : Nat} {Aa4 : Option Addr} {ca4 : Nat} {Aa6 : Option Addr} {ca6 : Nat} {Aa7 : Option Addr} {ca7 : Nat} {a : LookResult} {oa_ sa_ : List Nat} (hst : St (nul w) w [dat kLookResultO [.int .i64 a.code,.int .i64 a.look.query.kind,.slice Aa2 a.look.query.rect.low.length ca2,.slice Aa3 a.look.query.rect.high.length ca3,.slice Aa4 a.look.query.point.length ca4,.int .i64 a.look.query.k,.slice Aa6 a.look.front.length ca6,.slice Aa7 a.look.found.length ca7] a oa_ sa_]) (hk0 : 0 ≤ k) (hk1 : k + (0 + (a.look.query.rect.low.length : Int) + (a.look.query.rect.high.length : Int) + (a.look.query.point.length : Int) + (a.look.front.map cntE_Mark).sum + (a.look.found.map cntE_Pair).sum) ≤ 1152921504606846976) : Calls Tryz.prog 15 #[.agg #[.int .i64 a.code,.int .i64 a.look.query.kind,.slice Aa2 a.look.query.rect.low.length ca2,.slice Aa3 a.look.query.rect.high.length ca3,.slice Aa4 a.look.query.point.length ca4,.int .i64 a.look.query.k,.slice Aa6 a.look.front.length ca6,.slice Aa7 a.look.found.length ca7],.int .i64 k] w (TurnO kLookResultO [.int .i64 a.code,.int .i64 a.look.query.kind,.slice Aa2 a.look.query.rect.low.length ca2,.slice Aa3 a.look.query.rect.high.length ca3,.slice Aa4 a.look.query.point.length ca4,.int .i64 a.look.query.k,.slice Aa6 a.look.front.length ca6,.slice Aa7 a.look.found.length ca7] (.int .i64 (k + (a.look.query.rect.low.length : Int) + (a.look.query.rect.high.length : Int) + (a.look.query.point.length : Int) + (a.look.front.map cntE_Mark).sum + (a.look.found.map cntE_Pair).sum)) w oa_ (mkV_LookResult k a) (sa_)):=by
  have zn0:=sum_nn cntE_Mark_nn a.look.front; have zn1:=sum_nn cntE_Pair_nn a.look.found
  refine fnc (X:=X3 10 (nul w)) (l:=[(0,.agg #[.int .i64 a.code,.int .i64 a.look.query.kind,.slice Aa2 a.look.query.rect.low.length ca2,.slice Aa3 a.look.query.rect.high.length ca3,.slice Aa4 a.look.query.point.length ca4,.int .i64 a.look.query.k,.slice Aa6 a.look.front.length ca6,.slice Aa7 a.look.found.length ca7]),(1,.int .i64 k)]) Tryz.func15 rfl rfl rfl ⟨rfl,rfl,trivial⟩ (⟨hst.fr oa_ (by simp [owns,dat,ptr]),trivial⟩ : _ ∧ True).1 ?_
  refine f1 (gsp (da:=(Kd.via Kd.i64 LookResult.code)) rfl rfl (fun o1 o2 s3 s4 us3 us4=>?_))
  refine gv (f1 (gv ?_))
  refine sq (rg (bx rfl rfl rfl rfl ?_))
  intro b5
  refine a_ rfl rfl (en (nx (sq (rg (vl (fa rfl rfl rfl) rfl (vl (ldb 0 rfl rfl rfl rfl rfl rfl rfl) rfl (m_ rfl rfl (f1 (cto (dk:=kLookO) (cs:=[.int .i64 a.look.query.kind,.slice Aa2 a.look.query.rect.low.length ca2,.slice Aa3 a.look.query.rect.high.length ca3,.slice Aa4 a.look.query.point.length ca4,.int .i64 a.look.query.k,.slice Aa6 a.look.front.length ca6,.slice Aa7 a.look.found.length ca7]) (x:=(mkV_Look k a.look)) (v:=.int .i64 (k + (a.look.query.rect.low.length : Int) + (a.look.query.rect.high.length : Int) + (a.look.query.point.length : Int) + (a.look.front.map cntE_Mark).sum + (a.look.found.map cntE_Pair).sum)) (S:=(s4)) (by kernel_rfl) rfl rfl rfl (snt 0 rfl) w.heap.size (fun w_ hs_=>(hs_.mod 3 rfl).size) (fun w_ hs_=>laws_markLook w_ _ ((hs_.pk [0] rfl).nl) (by omega) (by omega)) (fun o6 s7 t8=>?_))))))))))
  exact a_ rfl rfl (en (nx (sq (rg (m_ rfl rfl (a_ rfl rfl (en (nx (rt (gs Kd.i64 [.int .i64 a.code] ((mkV_LookResult k a).code) (fun _=>⟨rfl,rfl,rfl⟩) (gj (da:=(Kd.via Kd.i64 LookResult.code)) (db:=(Kd.via kLookO LookResult.look)) (x:=(mkV_LookResult k a)) rfl (ret1 rfl rfl (fun w_ hs_=>turno hs_ 2 rfl (by exact vi (by omega)) (see_app see_nil (by grind)))))))))))))))
set_option maxRecDepth 20000 in
set_option maxHeartbeats 2000000 in
theorem laws_heldLookResult (w : World) (k : Int) {Aa2 : Option Addr} {na2 ca2 : Nat} {Aa3 : Option Addr} {na3 ca3 : Nat} {Aa4 : Option Addr} {na4 ca4 : Nat} {Aa6 : Option Addr} {na6 ca6 : Nat} {Aa7 : Option Addr} {na7 ca7 : Nat} {a : LookResult} {sa_ : List Nat} (ha : kLookResultS.Rel w [.int .i64 ((mkV_LookResult k a).code),.int .i64 ((mkV_LookResult k a).look.query.kind),.slice Aa2 na2 ca2,.slice Aa3 na3 ca3,.slice Aa4 na4 ca4,.int .i64 ((mkV_LookResult k a).look.query.k),.slice Aa6 na6 ca6,.slice Aa7 na7 ca7] (mkV_LookResult k a) [] sa_) (hk0 : 0 ≤ k) (hk1 : k + (0 + (a.look.query.rect.low.length : Int) + (a.look.query.rect.high.length : Int) + (a.look.query.point.length : Int) + (a.look.front.map cntE_Mark).sum + (a.look.found.map cntE_Pair).sum) ≤ 1152921504606846976) : Calls Tryz.prog 16 #[.agg #[.int .i64 ((mkV_LookResult k a).code),.int .i64 ((mkV_LookResult k a).look.query.kind),.slice Aa2 na2 ca2,.slice Aa3 na3 ca3,.slice Aa4 na4 ca4,.int .i64 ((mkV_LookResult k a).look.query.k),.slice Aa6 na6 ca6,.slice Aa7 na7 ca7],.int .i64 k] w (fun e_ w2_=>e_ = .returned (.int .i64 (k + (a.look.query.rect.low.length : Int) + (a.look.query.rect.high.length : Int) + (a.look.query.point.length : Int) + (a.look.front.map cntE_Mark).sum + (a.look.found.map cntE_Pair).sum)) ∧ Below w.heap.size w w2_):=by
  have zn0:=sum_nn cntE_Mark_nn a.look.front; have zn1:=sum_nn cntE_Pair_nn a.look.found
  refine fnc (X:=X3 12 w) (l:=[(0,.agg #[.int .i64 ((mkV_LookResult k a).code),.int .i64 ((mkV_LookResult k a).look.query.kind),.slice Aa2 na2 ca2,.slice Aa3 na3 ca3,.slice Aa4 na4 ca4,.int .i64 ((mkV_LookResult k a).look.query.k),.slice Aa6 na6 ca6,.slice Aa7 na7 ca7]),(1,.int .i64 k)]) Tryz.func16 rfl rfl rfl ⟨rfl,rfl,trivial⟩ (s0d ha (s0n w)).1 ?_
  refine sq (rg (bx rfl rfl rfl rfl ?_))
  intro b1
  refine a_ rfl rfl (en (nx (sq (rg (vl (fa rfl rfl rfl) rfl (vl (ldb 0 rfl rfl rfl rfl rfl rfl rfl) rfl (m_ rfl rfl ?_)))))))
  refine gd 1 kLookResultS_p1_7 rfl (cs':=[.int .i64 ((mkV_LookResult k a).look.query.kind),.slice Aa2 na2 ca2,.slice Aa3 na3 ca3,.slice Aa4 na4 ca4,.int .i64 ((mkV_LookResult k a).look.query.k),.slice Aa6 na6 ca6,.slice Aa7 na7 ca7]) rfl fun s2 w_ rs2 us2=>?_
  refine gr (mkV_Look k a.look) rfl (cs_ (v:=.int .i64 (k + (a.look.query.rect.low.length : Int) + (a.look.query.rect.high.length : Int) + (a.look.query.point.length : Int) + (a.look.front.map cntE_Mark).sum + (a.look.found.map cntE_Pair).sum)) (by kernel_rfl) rfl rfl rfl (fun w_ hs_=>laws_heldLook w_ _ (hs_.at 0 rfl) (by omega) (by omega)) (a_ rfl rfl (en (nx (sq (sq (rg (m_ rfl rfl (vl (cm rfl rfl rfl rfl) rfl (en (nx ?_)))))))))))
  by_cases h3 : (k + (a.look.query.rect.low.length : Int) + (a.look.query.rect.high.length : Int) + (a.look.query.point.length : Int) + (a.look.front.map cntE_Mark).sum + (a.look.found.map cntE_Pair).sum) < (0 : Int)
  · exfalso; omega
  · refine cf rfl (decide_eq_false h3) (sk (nx (sq (rg (m_ rfl rfl (a_ rfl rfl (en (nx (rt (ret1 rfl rfl (fun w_ hs_=>⟨?_,hs_.below⟩)))))))))))
    exact ri (by omega)
def mkE_Entry (k : Int) (a : Entry) : Entry := ⟨⟨mkL mI cI (k) a.rect.low, mkL mI cI (k + (a.rect.low.length : Int)) a.rect.high⟩, k + (a.rect.low.length : Int) + (a.rect.high.length : Int), k + (a.rect.low.length : Int) + (a.rect.high.length : Int) + 1⟩
def cntE_Entry (a : Entry) : Int := 0 + (a.rect.low.length : Int) + (a.rect.high.length : Int) + 1 + 1
theorem cntE_Entry_nn (a : Entry) : 0 ≤ cntE_Entry a:=by
  unfold cntE_Entry; omega
def mkE_Node (k : Int) (a : Node) : Node := ⟨k, k + 1, k + 1 + 1, mkL mkE_Entry cntE_Entry (k + 1 + 1 + 1) a.entries⟩
def cntE_Node (a : Node) : Int := 0 + 1 + 1 + 1 + (a.entries.map cntE_Entry).sum
theorem cntE_Node_nn (a : Node) : 0 ≤ cntE_Node a:=by
  have:=sum_nn cntE_Entry_nn a.entries
  unfold cntE_Node; omega
def mkE_Retired (k : Int) (a : Retired) : Retired := ⟨k, mkL mI cI (k + 1) a.watch⟩
def cntE_Retired (a : Retired) : Int := 0 + 1 + (a.watch.length : Int)
theorem cntE_Retired_nn (a : Retired) : 0 ≤ cntE_Retired a:=by
  unfold cntE_Retired; omega
def mkV_Arena (k : Int) (a : Arena) : Arena := ⟨a.dims, mkL mkE_Node cntE_Node (k) a.nodes, mkL mI cI (k + (a.nodes.map cntE_Node).sum) a.free, mkL mkE_Retired cntE_Retired (k + (a.nodes.map cntE_Node).sum + (a.free.length : Int)) a.retired⟩

set_option maxRecDepth 20000 in
set_option maxHeartbeats 2000000 in
theorem laws_markEntryS (w : World) (k : Int) {Aa : Option Addr} {ca : Nat} {a : List Entry} {oa_ sa_ : List Nat} (hst : St (nul w) w [dat (Kd.row 132 kEntryO) [.slice Aa a.length ca] a oa_ sa_]) (hk0 : 0 ≤ k) (hk1 : k + (a.map cntE_Entry).sum ≤ 1152921504606846976) : Calls Tryz.prog 106 #[.slice Aa a.length ca,.int .i64 k] w (TurnO (Kd.row 132 kEntryO) [.slice Aa a.length ca] (.int .i64 (k + (a.map cntE_Entry).sum)) w oa_ (mkL mkE_Entry cntE_Entry k a) (sa_)):=by
  have La:=Kd.row_len (hst.at 0 rfl); have Ca:=Kd.row_cap (hst.at 0 rfl)
  refine fnc (X:=X3 43 (nul w)) (l:=[(0,.slice Aa a.length ca),(1,.int .i64 k)]) Tryz.func106 rfl rfl rfl ⟨rfl,rfl,trivial⟩ (⟨hst.fr oa_ (by simp [owns,dat,ptr]),trivial⟩ : _ ∧ True).1 ?_
  refine sq (rg (a_ rfl rfl (en (nx (sq (sq (rg (a_ rfl rfl (en (nx (bk ?_)))))))))))
  refine lp (σ:=Nat × Int × List Nat × List Nat) (fun z_ : Nat × Int × List Nat × List Nat=>match z_ with | (i,v,o_,s_)=>[(0,.slice Aa a.length ca),(1,.int .i64 v),(5,.int .i64 ((i : Nat) : Int))])
      (fun z_ : Nat × Int × List Nat × List Nat=>match z_ with | (i,v,o_,s_)=>[dat (Kd.row 132 kEntryO) [.slice Aa a.length ca] (mkL mkE_Entry cntE_Entry k (a.take i) ++ a.drop i) o_ s_,frm w oa_])
      (fun z_ : Nat × Int × List Nat × List Nat=>match z_ with | (i,v,o_,s_)=>i ≤ a.length ∧ v = k + sumTo cntE_Entry a i ∧ ∀ q ∈ s_,q ∈ sa_ ∨ w.heap.size ≤ q) (fun z_ : Nat × Int × List Nat × List Nat=>match z_ with | (i,v,o_,s_)=>a.length - i) (0,k,oa_,sa_) [1,0] ⟨Nat.zero_le _,by simp [sumTo],fun q h=>.inl h⟩ ⟨rfl,rfl,rfl,trivial⟩ rfl ?_
  rintro ⟨i,v,o_,s_⟩ hp_
  obtain ⟨hi,hv,hsee⟩:=hp_; have z0:=sumTo_nn cntE_Entry_nn a i; have zt:=sumTo_le cntE_Entry_nn a i
  refine sq (sq (rg (m_ rfl rfl (m_ rfl rfl (vl (ln rfl rfl rfl) rfl (vl (cm rfl rfl rfl rfl) rfl (en (nx ?_))))))))
  by_cases h1 : ((i : Nat) : Int) < ((a.length : Nat) : Int)
  · obtain ⟨ba,rfl⟩:=Kd.row_pos (hst.at 0 rfl) (by omega)
    refine ct rfl (decide_eq_true h1) (sk (nx (sq (bk (sq (rg (m_ rfl rfl (m_ rfl rfl (vl (ix i rfl rfl rfl rfl rfl rfl (by omega)) rfl ?_)))))))))
    refine foc i (by rw [List.length_append,mkL_len,List.length_take,List.length_drop]; omega) fun y2 ci_ o3 s4 o5 s6 w_ m7 r8 us4 us6=>?_
    obtain ⟨A9,c10,A11,c12,rfl⟩:=kEntryO_sh r8
    refine f1 (gsp (da:=(Kd.via kRectO Entry.rect)) rfl rfl (fun o13 o14 s15 s16 us15 us16=>?_))
    refine gv (f1 (gsp (da:=(Kd.via Kd.i64 Entry.ref)) rfl rfl (fun o17 o18 s19 s20 us19 us20=>?_)))
    refine gv (f1 (gv (f2 (gsp (da:=(Kd.via (Kd.row 2 Kd.i64) Rect.low)) rfl rfl (fun o21 o22 s23 s24 us23 us24=>?_)))))
    refine gv (f1 (gv ?_))
    have zs:=sumTo_step (f:=cntE_Entry) (mk_raw m7); have zl:=sumTo_le cntE_Entry_nn a (i + 1); have z0:=sumTo_nn cntE_Entry_nn a i; have zc : cntE_Entry y2 = 0 + (y2.rect.low.length : Int) + (y2.rect.high.length : Int) + 1 + 1:=rfl
    refine vl (fa rfl rfl rfl) rfl (vl (fb rfl rfl rfl) rfl (vl (ldh (u:=.slice A9 y2.rect.low.length c10) 4 (off:=0) rfl rfl rfl rfl pa1 rfl rfl rfl) rfl (m_ rfl rfl (f1 (cto (dk:=(Kd.row 2 Kd.i64)) (cs:=[.slice A9 y2.rect.low.length c10]) (x:=(mkL mI cI v y2.rect.low)) (v:=.int .i64 (v + ((y2.rect.low.length : Nat) : Int))) (S:=(s23)) (by kernel_rfl) rfl rfl rfl (snt 0 rfl) w.heap.size (fun w_ hs_=>(hs_.mod 5 rfl).size) (fun w_ hs_=>laws_markInt64S w_ _ ((hs_.pk [0] rfl).nl) (by omega) (by omega)) (fun o25 s26 t27=>?_))))))
    refine a_ rfl rfl (en (nx (sq (rg (m_ rfl rfl (m_ rfl rfl (vl (ix i rfl rfl rfl rfl rfl rfl (by omega)) rfl (vl (fa rfl rfl rfl) rfl (vl (fb rfl rfl rfl) rfl (vl (ldh (u:=.slice A11 y2.rect.high.length c12) 4 (off:=1) rfl rfl rfl rfl pa1 rfl rfl rfl) rfl (m_ rfl rfl (f1 (cto (dk:=(Kd.row 2 Kd.i64)) (cs:=[.slice A11 y2.rect.high.length c12]) (x:=(mkL mI cI (v + ((y2.rect.low.length : Nat) : Int)) y2.rect.high)) (v:=.int .i64 ((v + ((y2.rect.low.length : Nat) : Int)) + ((y2.rect.high.length : Nat) : Int))) (S:=(s24)) (by kernel_rfl) rfl rfl rfl (snt 0 rfl) w.heap.size (fun w_ hs_=>(hs_.mod 5 rfl).size) (fun w_ hs_=>laws_markInt64S w_ _ ((hs_.pk [0] rfl).nl) (by omega) (by omega)) (fun o28 s29 t30=>?_))))))))))))))
    refine a_ rfl rfl (en (nx (sq (rg (m_ rfl rfl (m_ rfl rfl (m_ rfl rfl (vl (ix i rfl rfl rfl rfl rfl rfl (by omega)) rfl (vl (fa rfl rfl rfl) rfl (f4 (sth (off:=2) rfl rfl pa1 rfl rfl rfl rfl rfl (ci':=[.slice A9 y2.rect.low.length c10,.slice A11 y2.rect.high.length c12,.int .i64 ((v + ((y2.rect.low.length : Nat) : Int)) + ((y2.rect.high.length : Nat) : Int)),.int .i64 y2.nsn]) rfl (en (nx (sq (rg (m_ rfl rfl (vl (ra (c:=((v + ((y2.rect.low.length : Nat) : Int)) + ((y2.rect.high.length : Nat) : Int)) + 1) rfl rfl rfl rfl (by omega) (by omega)) rfl (a_ rfl rfl (en (nx (sq (rg (m_ rfl rfl (m_ rfl rfl (m_ rfl rfl (vl (ix i rfl rfl rfl rfl rfl rfl (by omega)) rfl (vl (fa rfl rfl rfl) rfl (sth (off:=3) rfl rfl pa1 rfl rfl rfl rfl rfl (ci':=[.slice A9 y2.rect.low.length c10,.slice A11 y2.rect.high.length c12,.int .i64 ((v + ((y2.rect.low.length : Nat) : Int)) + ((y2.rect.high.length : Nat) : Int)),.int .i64 (((v + ((y2.rect.low.length : Nat) : Int)) + ((y2.rect.high.length : Nat) : Int)) + 1)]) rfl (en (nx (rg (m_ rfl rfl (vl (ra (c:=((v + ((y2.rect.low.length : Nat) : Int)) + ((y2.rect.high.length : Nat) : Int)) + 1 + 1) rfl rfl rfl rfl (by omega) (by omega)) rfl (a_ rfl rfl (en (xn (nx (rg (m_ rfl rfl (vl (ra (c:=((i + 1 : Nat) : Int)) rfl rfl rfl (by omega) (by omega) (by omega)) rfl (a_ rfl rfl (en (gs Kd.i64 [.int .i64 (((v + ((y2.rect.low.length : Nat) : Int)) + ((y2.rect.high.length : Nat) : Int)) + 1)] ((mkE_Entry v y2).nsn) (fun _=>⟨rfl,rfl,rfl⟩) (gs Kd.i64 [.int .i64 ((v + ((y2.rect.low.length : Nat) : Int)) + ((y2.rect.high.length : Nat) : Int))] ((mkE_Entry v y2).ref) (fun _=>⟨rfl,rfl,rfl⟩) (gj (da:=(Kd.via Kd.i64 Entry.ref)) (db:=(Kd.via Kd.i64 Entry.nsn)) (x:=(mkE_Entry v y2)) rfl (f2 (f3 (gj (da:=(Kd.via (Kd.row 2 Kd.i64) Rect.low)) (db:=(Kd.via (Kd.row 2 Kd.i64) Rect.high)) (x:=((mkE_Entry v y2).rect)) rfl (gj (da:=(Kd.via kRectO Entry.rect)) (db:=((Kd.via Kd.i64 Entry.ref).cat (Kd.via Kd.i64 Entry.nsn))) (x:=(mkE_Entry v y2)) rfl (f1 (unf (fun o31 s32 t33=>?_))))))))))))))))))))))))))))))))))))))))))))))))))))
    refine gr (mkL mkE_Entry cntE_Entry k (a.take (i + 1)) ++ a.drop (i + 1)) (mk_step (mk_raw m7) (by rw [← hv])) ?_
    exact lpe (s:=(i,v,o_,s_)) (i + 1,((v + ((y2.rect.low.length : Nat) : Int)) + ((y2.rect.high.length : Nat) : Int)) + 1 + 1,o31,s32) [0,2] ⟨by omega,by omega,by grind⟩ (by show a.length - (i + 1) < a.length - i; omega) ⟨rfl,rfl,rfl,trivial⟩ rfl
  · exact cf rfl (decide_eq_false h1) (xt (xq (xq (xb (nx (sq (rg (m_ rfl rfl (a_ rfl rfl (en (nx (rt (gr (mkL mkE_Entry cntE_Entry k a) (mk_end (by omega)) (ret1 rfl rfl (fun w_ hs_=>turno hs_ 0 rfl (by exact vi (by have z:=sumTo_end (f:=cntE_Entry) (l:=a) (k:=i) (by omega); omega)) (by grind))))))))))))))))
set_option maxRecDepth 20000 in
set_option maxHeartbeats 2000000 in
theorem laws_markNodeS (w : World) (k : Int) {Aa : Option Addr} {ca : Nat} {a : List Node} {oa_ sa_ : List Nat} (hst : St (nul w) w [dat (Kd.row 107 kNodeO) [.slice Aa a.length ca] a oa_ sa_]) (hk0 : 0 ≤ k) (hk1 : k + (a.map cntE_Node).sum ≤ 1152921504606846976) : Calls Tryz.prog 45 #[.slice Aa a.length ca,.int .i64 k] w (TurnO (Kd.row 107 kNodeO) [.slice Aa a.length ca] (.int .i64 (k + (a.map cntE_Node).sum)) w oa_ (mkL mkE_Node cntE_Node k a) (sa_)):=by
  have La:=Kd.row_len (hst.at 0 rfl); have Ca:=Kd.row_cap (hst.at 0 rfl)
  refine fnc (X:=X3 41 (nul w)) (l:=[(0,.slice Aa a.length ca),(1,.int .i64 k)]) Tryz.func45 rfl rfl rfl ⟨rfl,rfl,trivial⟩ (⟨hst.fr oa_ (by simp [owns,dat,ptr]),trivial⟩ : _ ∧ True).1 ?_
  refine sq (rg (a_ rfl rfl (en (nx (sq (sq (rg (a_ rfl rfl (en (nx (bk ?_)))))))))))
  refine lp (σ:=Nat × Int × List Nat × List Nat) (fun z_ : Nat × Int × List Nat × List Nat=>match z_ with | (i,v,o_,s_)=>[(0,.slice Aa a.length ca),(1,.int .i64 v),(5,.int .i64 ((i : Nat) : Int))])
      (fun z_ : Nat × Int × List Nat × List Nat=>match z_ with | (i,v,o_,s_)=>[dat (Kd.row 107 kNodeO) [.slice Aa a.length ca] (mkL mkE_Node cntE_Node k (a.take i) ++ a.drop i) o_ s_,frm w oa_])
      (fun z_ : Nat × Int × List Nat × List Nat=>match z_ with | (i,v,o_,s_)=>i ≤ a.length ∧ v = k + sumTo cntE_Node a i ∧ ∀ q ∈ s_,q ∈ sa_ ∨ w.heap.size ≤ q) (fun z_ : Nat × Int × List Nat × List Nat=>match z_ with | (i,v,o_,s_)=>a.length - i) (0,k,oa_,sa_) [1,0] ⟨Nat.zero_le _,by simp [sumTo],fun q h=>.inl h⟩ ⟨rfl,rfl,rfl,trivial⟩ rfl ?_
  rintro ⟨i,v,o_,s_⟩ hp_
  obtain ⟨hi,hv,hsee⟩:=hp_; have z0:=sumTo_nn cntE_Node_nn a i; have zt:=sumTo_le cntE_Node_nn a i
  refine sq (sq (rg (m_ rfl rfl (m_ rfl rfl (vl (ln rfl rfl rfl) rfl (vl (cm rfl rfl rfl rfl) rfl (en (nx ?_))))))))
  by_cases h1 : ((i : Nat) : Int) < ((a.length : Nat) : Int)
  · obtain ⟨ba,rfl⟩:=Kd.row_pos (hst.at 0 rfl) (by omega)
    refine ct rfl (decide_eq_true h1) (sk (nx (sq (bk (sq (rg (m_ rfl rfl (m_ rfl rfl (m_ rfl rfl (vl (ix i rfl rfl rfl rfl rfl rfl (by omega)) rfl ?_))))))))))
    refine foc i (by rw [List.length_append,mkL_len,List.length_take,List.length_drop]; omega) fun y2 ci_ o3 s4 o5 s6 w_ m7 r8 us4 us6=>?_
    obtain ⟨A9,c10,rfl⟩:=kNodeO_sh r8
    refine f1 (gsp (da:=(Kd.via Kd.i64 Node.level)) rfl rfl (fun o11 o12 s13 s14 us13 us14=>?_))
    refine gv (f1 (gsp (da:=(Kd.via Kd.i64 Node.nsn)) rfl rfl (fun o15 o16 s17 s18 us17 us18=>?_)))
    refine gv (f1 (gsp (da:=(Kd.via Kd.i64 Node.right)) rfl rfl (fun o19 o20 s21 s22 us21 us22=>?_)))
    refine gv (f1 (gv ?_))
    have zs:=sumTo_step (f:=cntE_Node) (mk_raw m7); have zl:=sumTo_le cntE_Node_nn a (i + 1); have z0:=sumTo_nn cntE_Node_nn a i; have zc : cntE_Node y2 = 0 + 1 + 1 + 1 + (y2.entries.map cntE_Entry).sum:=rfl; have zn0:=sum_nn cntE_Entry_nn y2.entries
    refine vl (fa rfl rfl rfl) rfl (f4 (sth (off:=0) rfl rfl pa1 rfl rfl rfl rfl rfl (ci':=[.int .i64 v,.int .i64 y2.nsn,.int .i64 y2.right,.slice A9 y2.entries.length c10]) rfl (en (nx (sq (rg (m_ rfl rfl (vl (ra (c:=v + 1) rfl rfl rfl rfl (by omega) (by omega)) rfl (a_ rfl rfl (en (nx (sq (rg (m_ rfl rfl (m_ rfl rfl (m_ rfl rfl (vl (ix i rfl rfl rfl rfl rfl rfl (by omega)) rfl (vl (fa rfl rfl rfl) rfl (sth (off:=1) rfl rfl pa1 rfl rfl rfl rfl rfl (ci':=[.int .i64 v,.int .i64 (v + 1),.int .i64 y2.right,.slice A9 y2.entries.length c10]) rfl (en (nx (sq (rg (m_ rfl rfl (vl (ra (c:=v + 1 + 1) rfl rfl rfl rfl (by omega) (by omega)) rfl (a_ rfl rfl (en (nx (sq (rg (m_ rfl rfl (m_ rfl rfl (m_ rfl rfl (vl (ix i rfl rfl rfl rfl rfl rfl (by omega)) rfl (vl (fa rfl rfl rfl) rfl (sth (off:=2) rfl rfl pa1 rfl rfl rfl rfl rfl (ci':=[.int .i64 v,.int .i64 (v + 1),.int .i64 (v + 1 + 1),.slice A9 y2.entries.length c10]) rfl (en (nx (sq (rg (m_ rfl rfl (vl (ra (c:=v + 1 + 1 + 1) rfl rfl rfl rfl (by omega) (by omega)) rfl (a_ rfl rfl (en (nx (rg (m_ rfl rfl (m_ rfl rfl (vl (ix i rfl rfl rfl rfl rfl rfl (by omega)) rfl (vl (fa rfl rfl rfl) rfl (vl (ldh (u:=.slice A9 y2.entries.length c10) 0 (off:=3) rfl rfl rfl rfl pa1 rfl rfl rfl) rfl (m_ rfl rfl (f1 (cto (dk:=(Kd.row 132 kEntryO)) (cs:=[.slice A9 y2.entries.length c10]) (x:=(mkL mkE_Entry cntE_Entry (v + 1 + 1 + 1) y2.entries)) (v:=.int .i64 (v + 1 + 1 + 1 + (y2.entries.map cntE_Entry).sum)) (S:=(s22)) (by kernel_rfl) rfl rfl rfl (snt 0 rfl) w.heap.size (fun w_ hs_=>(hs_.mod 5 rfl).size) (fun w_ hs_=>laws_markEntryS w_ _ ((hs_.pk [0] rfl).nl) (by omega) (by omega)) (fun o23 s24 t25=>?_)))))))))))))))))))))))))))))))))))))))))))))))))))))))
    refine a_ rfl rfl (en (xn (nx (rg (m_ rfl rfl (vl (ra (c:=((i + 1 : Nat) : Int)) rfl rfl rfl (by omega) (by omega) (by omega)) rfl (a_ rfl rfl (en (gs Kd.i64 [.int .i64 (v + 1 + 1)] ((mkE_Node v y2).right) (fun _=>⟨rfl,rfl,rfl⟩) (gj (da:=(Kd.via Kd.i64 Node.right)) (db:=(Kd.via (Kd.row 132 kEntryO) Node.entries)) (x:=(mkE_Node v y2)) rfl (gs Kd.i64 [.int .i64 (v + 1)] ((mkE_Node v y2).nsn) (fun _=>⟨rfl,rfl,rfl⟩) (gj (da:=(Kd.via Kd.i64 Node.nsn)) (db:=((Kd.via Kd.i64 Node.right).cat (Kd.via (Kd.row 132 kEntryO) Node.entries))) (x:=(mkE_Node v y2)) rfl (gs Kd.i64 [.int .i64 v] ((mkE_Node v y2).level) (fun _=>⟨rfl,rfl,rfl⟩) (gj (da:=(Kd.via Kd.i64 Node.level)) (db:=((Kd.via Kd.i64 Node.nsn).cat ((Kd.via Kd.i64 Node.right).cat (Kd.via (Kd.row 132 kEntryO) Node.entries)))) (x:=(mkE_Node v y2)) rfl (f1 (unf (fun o26 s27 t28=>?_)))))))))))))))))
    refine gr (mkL mkE_Node cntE_Node k (a.take (i + 1)) ++ a.drop (i + 1)) (mk_step (mk_raw m7) (by rw [← hv])) ?_
    exact lpe (s:=(i,v,o_,s_)) (i + 1,(v + 1 + 1 + 1 + (y2.entries.map cntE_Entry).sum),o26,s27) [0,3] ⟨by omega,by omega,by grind⟩ (by show a.length - (i + 1) < a.length - i; omega) ⟨rfl,rfl,rfl,trivial⟩ rfl
  · exact cf rfl (decide_eq_false h1) (xt (xq (xq (xb (nx (sq (rg (m_ rfl rfl (a_ rfl rfl (en (nx (rt (gr (mkL mkE_Node cntE_Node k a) (mk_end (by omega)) (ret1 rfl rfl (fun w_ hs_=>turno hs_ 0 rfl (by exact vi (by have z:=sumTo_end (f:=cntE_Node) (l:=a) (k:=i) (by omega); omega)) (by grind))))))))))))))))
set_option maxRecDepth 20000 in
set_option maxHeartbeats 2000000 in
theorem laws_markRetiredS (w : World) (k : Int) {Aa : Option Addr} {ca : Nat} {a : List Retired} {oa_ sa_ : List Nat} (hst : St (nul w) w [dat (Kd.row 110 kRetiredO) [.slice Aa a.length ca] a oa_ sa_]) (hk0 : 0 ≤ k) (hk1 : k + (a.map cntE_Retired).sum ≤ 1152921504606846976) : Calls Tryz.prog 47 #[.slice Aa a.length ca,.int .i64 k] w (TurnO (Kd.row 110 kRetiredO) [.slice Aa a.length ca] (.int .i64 (k + (a.map cntE_Retired).sum)) w oa_ (mkL mkE_Retired cntE_Retired k a) (sa_)):=by
  have La:=Kd.row_len (hst.at 0 rfl); have Ca:=Kd.row_cap (hst.at 0 rfl)
  refine fnc (X:=X3 27 (nul w)) (l:=[(0,.slice Aa a.length ca),(1,.int .i64 k)]) Tryz.func47 rfl rfl rfl ⟨rfl,rfl,trivial⟩ (⟨hst.fr oa_ (by simp [owns,dat,ptr]),trivial⟩ : _ ∧ True).1 ?_
  refine sq (rg (a_ rfl rfl (en (nx (sq (sq (rg (a_ rfl rfl (en (nx (bk ?_)))))))))))
  refine lp (σ:=Nat × Int × List Nat × List Nat) (fun z_ : Nat × Int × List Nat × List Nat=>match z_ with | (i,v,o_,s_)=>[(0,.slice Aa a.length ca),(1,.int .i64 v),(5,.int .i64 ((i : Nat) : Int))])
      (fun z_ : Nat × Int × List Nat × List Nat=>match z_ with | (i,v,o_,s_)=>[dat (Kd.row 110 kRetiredO) [.slice Aa a.length ca] (mkL mkE_Retired cntE_Retired k (a.take i) ++ a.drop i) o_ s_,frm w oa_])
      (fun z_ : Nat × Int × List Nat × List Nat=>match z_ with | (i,v,o_,s_)=>i ≤ a.length ∧ v = k + sumTo cntE_Retired a i ∧ ∀ q ∈ s_,q ∈ sa_ ∨ w.heap.size ≤ q) (fun z_ : Nat × Int × List Nat × List Nat=>match z_ with | (i,v,o_,s_)=>a.length - i) (0,k,oa_,sa_) [1,0] ⟨Nat.zero_le _,by simp [sumTo],fun q h=>.inl h⟩ ⟨rfl,rfl,rfl,trivial⟩ rfl ?_
  rintro ⟨i,v,o_,s_⟩ hp_
  obtain ⟨hi,hv,hsee⟩:=hp_; have z0:=sumTo_nn cntE_Retired_nn a i; have zt:=sumTo_le cntE_Retired_nn a i
  refine sq (sq (rg (m_ rfl rfl (m_ rfl rfl (vl (ln rfl rfl rfl) rfl (vl (cm rfl rfl rfl rfl) rfl (en (nx ?_))))))))
  by_cases h1 : ((i : Nat) : Int) < ((a.length : Nat) : Int)
  · obtain ⟨ba,rfl⟩:=Kd.row_pos (hst.at 0 rfl) (by omega)
    refine ct rfl (decide_eq_true h1) (sk (nx (sq (bk (sq (rg (m_ rfl rfl (m_ rfl rfl (m_ rfl rfl (vl (ix i rfl rfl rfl rfl rfl rfl (by omega)) rfl ?_))))))))))
    refine foc i (by rw [List.length_append,mkL_len,List.length_take,List.length_drop]; omega) fun y2 ci_ o3 s4 o5 s6 w_ m7 r8 us4 us6=>?_
    obtain ⟨A9,c10,rfl⟩:=kRetiredO_sh r8
    refine f1 (gsp (da:=(Kd.via Kd.i64 Retired.id)) rfl rfl (fun o11 o12 s13 s14 us13 us14=>?_))
    refine gv (f1 (gv ?_))
    have zs:=sumTo_step (f:=cntE_Retired) (mk_raw m7); have zl:=sumTo_le cntE_Retired_nn a (i + 1); have z0:=sumTo_nn cntE_Retired_nn a i; have zc : cntE_Retired y2 = 0 + 1 + (y2.watch.length : Int):=rfl
    refine vl (fa rfl rfl rfl) rfl (f2 (sth (off:=0) rfl rfl pa1 rfl rfl rfl rfl rfl (ci':=[.int .i64 v,.slice A9 y2.watch.length c10]) rfl (en (nx (sq (rg (m_ rfl rfl (vl (ra (c:=v + 1) rfl rfl rfl rfl (by omega) (by omega)) rfl (a_ rfl rfl (en (nx (rg (m_ rfl rfl (m_ rfl rfl (vl (ix i rfl rfl rfl rfl rfl rfl (by omega)) rfl (vl (fa rfl rfl rfl) rfl (vl (ldh (u:=.slice A9 y2.watch.length c10) 0 (off:=1) rfl rfl rfl rfl pa1 rfl rfl rfl) rfl (m_ rfl rfl (f1 (cto (dk:=(Kd.row 2 Kd.i64)) (cs:=[.slice A9 y2.watch.length c10]) (x:=(mkL mI cI (v + 1) y2.watch)) (v:=.int .i64 (v + 1 + ((y2.watch.length : Nat) : Int))) (S:=(s14)) (by kernel_rfl) rfl rfl rfl (snt 0 rfl) w.heap.size (fun w_ hs_=>(hs_.mod 3 rfl).size) (fun w_ hs_=>laws_markInt64S w_ _ ((hs_.pk [0] rfl).nl) (by omega) (by omega)) (fun o15 s16 t17=>?_)))))))))))))))))))))
    refine a_ rfl rfl (en (xn (nx (rg (m_ rfl rfl (vl (ra (c:=((i + 1 : Nat) : Int)) rfl rfl rfl (by omega) (by omega) (by omega)) rfl (a_ rfl rfl (en (gs Kd.i64 [.int .i64 v] ((mkE_Retired v y2).id) (fun _=>⟨rfl,rfl,rfl⟩) (gj (da:=(Kd.via Kd.i64 Retired.id)) (db:=(Kd.via (Kd.row 2 Kd.i64) Retired.watch)) (x:=(mkE_Retired v y2)) rfl (f1 (unf (fun o18 s19 t20=>?_)))))))))))))
    refine gr (mkL mkE_Retired cntE_Retired k (a.take (i + 1)) ++ a.drop (i + 1)) (mk_step (mk_raw m7) (by rw [← hv])) ?_
    exact lpe (s:=(i,v,o_,s_)) (i + 1,(v + 1 + ((y2.watch.length : Nat) : Int)),o18,s19) [0,1] ⟨by omega,by omega,by grind⟩ (by show a.length - (i + 1) < a.length - i; omega) ⟨rfl,rfl,rfl,trivial⟩ rfl
  · exact cf rfl (decide_eq_false h1) (xt (xq (xq (xb (nx (sq (rg (m_ rfl rfl (a_ rfl rfl (en (nx (rt (gr (mkL mkE_Retired cntE_Retired k a) (mk_end (by omega)) (ret1 rfl rfl (fun w_ hs_=>turno hs_ 0 rfl (by exact vi (by have z:=sumTo_end (f:=cntE_Retired) (l:=a) (k:=i) (by omega); omega)) (by grind))))))))))))))))
set_option maxRecDepth 20000 in
set_option maxHeartbeats 2000000 in
theorem laws_markArena (w : World) (k : Int) {Aa1 : Option Addr} {ca1 : Nat} {Aa2 : Option Addr} {ca2 : Nat} {Aa3 : Option Addr} {ca3 : Nat} {a : Arena} {oa_ sa_ : List Nat} (hst : St (nul w) w [dat kArenaO [.int .i64 a.dims,.slice Aa1 a.nodes.length ca1,.slice Aa2 a.free.length ca2,.slice Aa3 a.retired.length ca3] a oa_ sa_]) (hk0 : 0 ≤ k) (hk1 : k + (0 + (a.nodes.map cntE_Node).sum + (a.free.length : Int) + (a.retired.map cntE_Retired).sum) ≤ 1152921504606846976) : Calls Tryz.prog 13 #[.agg #[.int .i64 a.dims,.slice Aa1 a.nodes.length ca1,.slice Aa2 a.free.length ca2,.slice Aa3 a.retired.length ca3],.int .i64 k] w (TurnO kArenaO [.int .i64 a.dims,.slice Aa1 a.nodes.length ca1,.slice Aa2 a.free.length ca2,.slice Aa3 a.retired.length ca3] (.int .i64 (k + (a.nodes.map cntE_Node).sum + (a.free.length : Int) + (a.retired.map cntE_Retired).sum)) w oa_ (mkV_Arena k a) (sa_)):=by
  have zn0:=sum_nn cntE_Node_nn a.nodes; have zn1:=sum_nn cntE_Retired_nn a.retired
  refine fnc (X:=X3 18 (nul w)) (l:=[(0,.agg #[.int .i64 a.dims,.slice Aa1 a.nodes.length ca1,.slice Aa2 a.free.length ca2,.slice Aa3 a.retired.length ca3]),(1,.int .i64 k)]) Tryz.func13 rfl rfl rfl ⟨rfl,rfl,trivial⟩ (⟨hst.fr oa_ (by simp [owns,dat,ptr]),trivial⟩ : _ ∧ True).1 ?_
  refine f1 (gsp (da:=(Kd.via Kd.i64 Arena.dims)) rfl rfl (fun o1 o2 s3 s4 us3 us4=>?_))
  refine gv (f1 (gsp (da:=(Kd.via (Kd.row 107 kNodeO) Arena.nodes)) rfl rfl (fun o5 o6 s7 s8 us7 us8=>?_)))
  refine gv (f1 (gsp (da:=(Kd.via (Kd.row 2 Kd.i64) Arena.free)) rfl rfl (fun o9 o10 s11 s12 us11 us12=>?_)))
  refine gv (f1 (gv ?_))
  refine sq (rg (bx rfl rfl rfl rfl ?_))
  intro b13
  refine a_ rfl rfl (en (nx (sq (rg (vl (fa rfl rfl rfl) rfl (vl (ldb (u:=.slice Aa1 a.nodes.length ca1) 0 rfl rfl rfl rfl rfl rfl rfl) rfl (m_ rfl rfl (f3 (cto (dk:=(Kd.row 107 kNodeO)) (cs:=[.slice Aa1 a.nodes.length ca1]) (x:=(mkL mkE_Node cntE_Node k a.nodes)) (v:=.int .i64 (k + (a.nodes.map cntE_Node).sum)) (S:=(s7)) (by kernel_rfl) rfl rfl rfl (snt 0 rfl) w.heap.size (fun w_ hs_=>(hs_.mod 5 rfl).size) (fun w_ hs_=>laws_markNodeS w_ _ ((hs_.pk [0] rfl).nl) (by omega) (by omega)) (fun o14 s15 t16=>?_))))))))))
  refine a_ rfl rfl (en (nx (sq (rg (vl (fa rfl rfl rfl) rfl (vl (ldb (u:=.slice Aa2 a.free.length ca2) 1 rfl rfl rfl rfl rfl rfl rfl) rfl (m_ rfl rfl (f3 (cto (dk:=(Kd.row 2 Kd.i64)) (cs:=[.slice Aa2 a.free.length ca2]) (x:=(mkL mI cI (k + (a.nodes.map cntE_Node).sum) a.free)) (v:=.int .i64 ((k + (a.nodes.map cntE_Node).sum) + ((a.free.length : Nat) : Int))) (S:=(s11)) (by kernel_rfl) rfl rfl rfl (snt 0 rfl) w.heap.size (fun w_ hs_=>(hs_.mod 5 rfl).size) (fun w_ hs_=>laws_markInt64S w_ _ ((hs_.pk [0] rfl).nl) (by omega) (by omega)) (fun o17 s18 t19=>?_))))))))))
  refine a_ rfl rfl (en (nx (sq (rg (vl (fa rfl rfl rfl) rfl (vl (ldb (u:=.slice Aa3 a.retired.length ca3) 2 rfl rfl rfl rfl rfl rfl rfl) rfl (m_ rfl rfl (f3 (cto (dk:=(Kd.row 110 kRetiredO)) (cs:=[.slice Aa3 a.retired.length ca3]) (x:=(mkL mkE_Retired cntE_Retired ((k + (a.nodes.map cntE_Node).sum) + ((a.free.length : Nat) : Int)) a.retired)) (v:=.int .i64 (((k + (a.nodes.map cntE_Node).sum) + ((a.free.length : Nat) : Int)) + (a.retired.map cntE_Retired).sum)) (S:=(s12)) (by kernel_rfl) rfl rfl rfl (snt 0 rfl) w.heap.size (fun w_ hs_=>(hs_.mod 5 rfl).size) (fun w_ hs_=>laws_markRetiredS w_ _ ((hs_.pk [0] rfl).nl) (by omega) (by omega)) (fun o20 s21 t22=>?_))))))))))
  exact a_ rfl rfl (en (nx (sq (rg (m_ rfl rfl (a_ rfl rfl (en (nx (rt (f1 (gj (da:=(Kd.via (Kd.row 2 Kd.i64) Arena.free)) (db:=(Kd.via (Kd.row 110 kRetiredO) Arena.retired)) (x:=(mkV_Arena k a)) rfl (f1 (gj (da:=(Kd.via (Kd.row 107 kNodeO) Arena.nodes)) (db:=((Kd.via (Kd.row 2 Kd.i64) Arena.free).cat (Kd.via (Kd.row 110 kRetiredO) Arena.retired))) (x:=(mkV_Arena k a)) rfl (gs Kd.i64 [.int .i64 a.dims] ((mkV_Arena k a).dims) (fun _=>⟨rfl,rfl,rfl⟩) (gj (da:=(Kd.via Kd.i64 Arena.dims)) (db:=((Kd.via (Kd.row 107 kNodeO) Arena.nodes).cat ((Kd.via (Kd.row 2 Kd.i64) Arena.free).cat (Kd.via (Kd.row 110 kRetiredO) Arena.retired)))) (x:=(mkV_Arena k a)) rfl (ret1 rfl rfl (fun w_ hs_=>turno hs_ 2 rfl (by exact vi (by omega)) (see_app see_nil (see_app (by grind) (see_app (by grind) (by grind)))))))))))))))))))))
end Go.Proofs.YtdokhlakakflmaaGreat.Sx
