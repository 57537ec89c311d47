/- What functions of the program answer, each at every input that its row names; walked through their code. -/
import Derived.Test.YtfaflffdekoimaaGreatSy15
namespace Go.Proofs.YtfaflffdekoimaaGreat.Sx
open Go Go.RowKit Go.Proofs
set_option linter.unusedVariables false
set_option linter.unusedSimpArgs false
def tab16 : Tab := { size := [(2, 1, false), (23, 1, false), (30, 2, true), (46, 2, true), (48, 5, true)], off := [((32, 0), 0), ((32, 1), 1), ((32, 2), 3), ((32, 3), 4), ((46, 0), 0), ((46, 1), 1), ((48, 0), 0), ((48, 1), 1), ((48, 2), 3), ((48, 3), 4)], elem := [(23, 2)] }
theorem tab_ok16 : tab16.check Tryz.prog = true := by kernel_rfl
noncomputable abbrev X16 (N : Nat) (w : World) : Cx := ⟨Tryz.prog, tab16, tab_ok16, wide, N, w, none, []⟩
theorem zero48 : (Tryz.prog.info? 48).bind (·.zero) = some (.agg #[.int .i64 0, .slice none 0 0, .slice none 0 0, .slice none 0 0, .int .i64 0]) := by kernel_rfl

structure Query where
  kind : Int
  rect : Rect
  point : List Int
  k : Int
  deriving DecidableEq
def kQueryS : Kd Query := ((Kd.i64.via Query.kind).cat ((kRectS.via Query.rect).cat (((Kd.sl Kd.i64).via Query.point).cat (Kd.i64.via Query.k))))
theorem kQueryS_sh {w : World} {cs : List Value} {x : Query} {o s : List Nat} (h : kQueryS.Rel w cs x o s) : ∃ (A1 : Option Addr) (c1 : Nat) (A2 : Option Addr) (c2 : Nat) (A3 : Option Addr) (c3 : Nat), cs = [.int .i64 x.kind, .slice A1 x.rect.low.length c1, .slice A2 x.rect.high.length c2, .slice A3 x.point.length c3, .int .i64 x.k] := by
  obtain ⟨c10, c20, o10, o20, s10, s20, rfl, rfl, rfl, h0, k0⟩ := h
  obtain ⟨rfl, -, -⟩ := h0
  obtain ⟨c11, c21, o11, o21, s11, s21, rfl, rfl, rfl, h1, k1⟩ := k0
  obtain ⟨_, _, _, _, rfl⟩ := kRectS_sh h1
  obtain ⟨c12, c22, o12, o22, s12, s22, rfl, rfl, rfl, h2, k2⟩ := k1
  obtain ⟨-, A2_, c2_, rfl, -⟩ := h2
  obtain ⟨rfl, -, -⟩ := k2
  exact ⟨_, _, _, _, _, _, rfl⟩
theorem kQueryS_p1_2 : Kd.Sub kQueryS 1 kRectS (fun x => x.rect) := (Kd.Sub.right (Kd.Sub.left (Kd.Sub.rfl.via Query.rect) _ (by decide)) _)
theorem kQueryS_p1_1 : Kd.Sub kQueryS 1 (Kd.sl Kd.i64) (fun x => x.rect.low) := (Kd.Sub.right (Kd.Sub.left (kRectS_p0_1.via Query.rect) _ (by decide)) _)
theorem kQueryS_p2_1 : Kd.Sub kQueryS 2 (Kd.sl Kd.i64) (fun x => x.rect.high) := (Kd.Sub.right (Kd.Sub.left (kRectS_p1_1.via Query.rect) _ (by decide)) _)
theorem kQueryS_p3_1 : Kd.Sub kQueryS 3 (Kd.sl Kd.i64) (fun x => x.point) := (Kd.Sub.right (Kd.Sub.right (Kd.Sub.left (Kd.Sub.rfl.via Query.point) _ (by decide)) _) _)
theorem kQueryS_self : Kd.Seals kQueryS kQueryS := (Kd.Seals.cat (Kd.Seals.via Kd.Seals.i64 _) (Kd.Seals.cat (Kd.Seals.via kRectS_self _) (Kd.Seals.cat (Kd.Seals.via Kd.Seals.refl_sl _) (Kd.Seals.via Kd.Seals.i64 _))))
theorem kQueryS_pure : Kd.Pure kQueryS := (Kd.Pure.cat (Kd.Pure.via Kd.Pure.i64 _) (Kd.Pure.cat (Kd.Pure.via kRectS_pure _) (Kd.Pure.cat (Kd.Pure.via (Kd.Pure.sl _) _) (Kd.Pure.via Kd.Pure.i64 _))))
def kQueryO : Kd Query := ((Kd.i64.via Query.kind).cat ((kRectO.via Query.rect).cat (((Kd.row 2 Kd.i64).via Query.point).cat (Kd.i64.via Query.k))))
theorem kQueryO_sh {w : World} {cs : List Value} {x : Query} {o s : List Nat} (h : kQueryO.Rel w cs x o s) : ∃ (A1 : Option Addr) (c1 : Nat) (A2 : Option Addr) (c2 : Nat) (A3 : Option Addr) (c3 : Nat), cs = [.int .i64 x.kind, .slice A1 x.rect.low.length c1, .slice A2 x.rect.high.length c2, .slice A3 x.point.length c3, .int .i64 x.k] := by
  obtain ⟨c10, c20, o10, o20, s10, s20, rfl, rfl, rfl, h0, k0⟩ := h
  obtain ⟨rfl, -, -⟩ := h0
  obtain ⟨c11, c21, o11, o21, s11, s21, rfl, rfl, rfl, h1, k1⟩ := k0
  obtain ⟨_, _, _, _, rfl⟩ := kRectO_sh h1
  obtain ⟨c12, c22, o12, o22, s12, s22, rfl, rfl, rfl, h2, k2⟩ := k1
  obtain ⟨A2_, c2_, rfl⟩ := Kd.row_sh h2
  obtain ⟨rfl, -, -⟩ := k2
  exact ⟨_, _, _, _, _, _, rfl⟩
theorem kQueryO_seal : Kd.Seals kQueryO kQueryS := (Kd.Seals.cat (Kd.Seals.via Kd.Seals.i64 _) (Kd.Seals.cat (Kd.Seals.via kRectO_seal _) (Kd.Seals.cat (Kd.Seals.via (Kd.Seals.row Kd.Seals.i64 _) _) (Kd.Seals.via Kd.Seals.i64 _))))
theorem Query_eq (a b : Query) : decide (a = b) = (decide (a.kind = b.kind) && decide (a.rect = b.rect) && decide (a.point = b.point) && decide (a.k = b.k)) := by
  cases a; cases b; rw [Bool.eq_iff_iff]; simp [and_assoc]
def rectEmpty (r : Rect) : Bool := decide ((r.low.length : Int) = 0) && decide ((r.high.length : Int) = 0)
theorem rectEmpty_f {r : Rect} (h : (0 : Int) < ((r.low.length : Nat) : Int) + ((r.high.length : Nat) : Int)) : rectEmpty r = false := by
  simp only [rectEmpty, Bool.and_eq_false_iff, decide_eq_false_iff_not]; omega
theorem rectEmpty_t {r : Rect} (h : ¬ (0 : Int) < ((r.low.length : Nat) : Int) + ((r.high.length : Nat) : Int)) : rectEmpty r = true := by
  simp only [rectEmpty, Bool.and_eq_true, decide_eq_true_eq]; omega
theorem rectEmpty_1 {r : Rect} (h : ¬ ((r.low.length : Nat) : Int) = (0 : Int)) : rectEmpty r = false := by
  simp only [rectEmpty, Bool.and_eq_false_iff, decide_eq_false_iff_not]; exact .inl h
theorem rectEmpty_2 {r : Rect} (h : ¬ ((r.high.length : Nat) : Int) = (0 : Int)) : rectEmpty r = false := by
  simp only [rectEmpty, Bool.and_eq_false_iff, decide_eq_false_iff_not]; exact .inr h
theorem rectEmpty_3 {r : Rect} (h1 : ((r.low.length : Nat) : Int) = (0 : Int)) (h2 : ((r.high.length : Nat) : Int) = (0 : Int)) : rectEmpty r = true := by
  simp only [rectEmpty, Bool.and_eq_true, decide_eq_true_eq]; exact ⟨h1, h2⟩
theorem rectEmpty_4 {r : Rect} : (((r.low.length : Nat) : Int) + ((r.high.length : Nat) : Int) == 0) = rectEmpty r := by
  rw [Bool.eq_iff_iff]; simp only [rectEmpty, Bool.and_eq_true, decide_eq_true_eq, beq_iff_eq]; omega
def hasRect (k : Int) : Bool := k == 1 || k == 2
def queryFault (q : Query) (dims : Int) : Int :=
  if isDims dims = true then
    if within q.kind 1 4 = true then
      if hasRect q.kind = true ∧ (0 : Int) < (q.point.length : Int) then 1 else
      if hasRect q.kind = false ∧ rectEmpty q.rect = false then 1 else
      if ¬ q.kind = 4 ∧ ¬ q.k = 0 then 1 else
      if hasRect q.kind = true then rectFault q.rect dims else
      if pointFault q.point dims = 0 then if q.kind = 4 ∧ within q.k 1 20 = false then 3 else 0 else pointFault q.point dims
    else 1
  else 3
/-! impl.hasRect -/
set_option maxRecDepth 20000 in
set_option maxHeartbeats 2000000 in
theorem impl_hasRect (w : World) (kind : Int)  : Calls Tryz.prog 61 #[.int .i64 kind] w (fun e_ w2_ => e_ = .returned (.bool (hasRect kind)) ∧ Below w.heap.size w w2_) := by
  refine fnc (X := X16 9 w) (args := [.int .i64 kind]) (l := [(0, .int .i64 kind)]) (G := []) Tryz.func61 rfl rfl rfl ⟨rfl, trivial⟩ (s0n w).1 ?_
  refine sq (rg (a_ rfl rfl (en (nx (sq (rg (m_ rfl rfl (vl (cm rfl rfl rfl rfl) rfl (m_ rfl rfl ?_)))))))))
  by_cases h1 : kind = (1 : Int)
  · refine sg rfl rfl (beq_iff_eq.2 h1) (sg rfl rfl (beq_iff_eq.2 h1) (vl (pk (b := true) rfl rfl (beq_iff_eq.2 h1) rfl) rfl (a_ rfl rfl (en (nx (rt (ret1 rfl rfl (fun w_ hs_ => ⟨?_, hs_.below⟩))))))))
    simp [hasRect, h1]
  · refine vg (mv rfl rfl) rfl rfl (beq_eq_false_iff_ne.2 h1) (vg (cm rfl rfl rfl rfl) rfl rfl (beq_eq_false_iff_ne.2 h1) (vl (pk (b := false) rfl rfl (beq_eq_false_iff_ne.2 h1) rfl) rfl (a_ rfl rfl (en (nx (rt (ret1 rfl rfl (fun w_ hs_ => ⟨?_, hs_.below⟩))))))))
    simp [hasRect, h1]
/-! impl.QueryFault -/
set_option maxRecDepth 20000 in
set_option maxHeartbeats 2000000 in
theorem impl_QueryFault (w : World) (dims : Int) {Aq1 : Option Addr} {cq1 : Nat} {Aq2 : Option Addr} {cq2 : Nat} {Aq3 : Option Addr} {cq3 : Nat} {q : Query} {sq_ : List Nat} (hq : kQueryS.Rel w [.int .i64 q.kind, .slice Aq1 q.rect.low.length cq1, .slice Aq2 q.rect.high.length cq2, .slice Aq3 q.point.length cq3, .int .i64 q.k] q [] sq_)  : Calls Tryz.prog 28 #[.agg #[.int .i64 q.kind, .slice Aq1 q.rect.low.length cq1, .slice Aq2 q.rect.high.length cq2, .slice Aq3 q.point.length cq3, .int .i64 q.k], .int .i64 dims] w (fun e_ w2_ => e_ = .returned (.int .i64 (queryFault q dims)) ∧ Below w.heap.size w w2_) := by
  refine fnc (X := X16 77 w) (args := [.agg #[.int .i64 q.kind, .slice Aq1 q.rect.low.length cq1, .slice Aq2 q.rect.high.length cq2, .slice Aq3 q.point.length cq3, .int .i64 q.k], .int .i64 dims]) (l := [(0, .agg #[.int .i64 q.kind, .slice Aq1 q.rect.low.length cq1, .slice Aq2 q.rect.high.length cq2, .slice Aq3 q.point.length cq3, .int .i64 q.k]), (1, .int .i64 dims)]) (G := [dat kQueryS [.int .i64 q.kind, .slice Aq1 q.rect.low.length cq1, .slice Aq2 q.rect.high.length cq2, .slice Aq3 q.point.length cq3, .int .i64 q.k] q ([]) sq_]) Tryz.func28 rfl rfl rfl ⟨rfl, rfl, trivial⟩ (s0d hq (s0n w)).1 ?_
  refine sq (rg (bx rfl rfl rfl rfl ?_))
  intro b1
  refine a_ rfl rfl (en (nx (sq (rg (vl (fa rfl rfl rfl) rfl (vl (fa rfl rfl rfl) rfl (vl (ldb (u := .slice Aq1 q.rect.low.length cq1) 0 rfl rfl rfl rfl rfl rfl rfl) rfl (vl (ln rfl rfl rfl) rfl (vl (cm rfl rfl rfl rfl) rfl (m_ rfl rfl ?_))))))))))
  by_cases h2 : ((q.rect.low.length : Nat) : Int) = (0 : Int)
  · refine vg (fa rfl rfl rfl) rfl rfl (beq_iff_eq.2 h2) (vg (fa rfl rfl rfl) rfl rfl (beq_iff_eq.2 h2) (vg (ldb (u := .slice Aq2 q.rect.high.length cq2) 0 rfl rfl rfl rfl rfl rfl rfl) rfl rfl (beq_iff_eq.2 h2) (vg (ln rfl rfl rfl) rfl rfl (beq_iff_eq.2 h2) (vg (cm rfl rfl rfl rfl) rfl rfl (beq_iff_eq.2 h2) (vl (pk (b := true) rfl rfl (beq_iff_eq.2 h2) rfl) rfl (a_ rfl rfl (en (nx (sq (bk (sq (rg (m_ rfl rfl (cs_ (v := .bool (isDims dims)) (by kernel_rfl) rfl rfl rfl (fun w_ hs_ => impl_isDims w_ _) (vl (nt rfl rfl) rfl (a_ rfl rfl (en (nx ?_))))))))))))))))))
    by_cases h3 : isDims dims = true
    · refine cf rfl (not_f h3) (sq (sq (rg (vl (fa rfl rfl rfl) rfl (vl (ldb (u := .int .i64 q.kind) 0 rfl rfl rfl rfl rfl rfl rfl) rfl (cs_ (v := .bool (within q.kind 1 4)) (by kernel_rfl) rfl rfl rfl (fun w_ hs_ => impl_within w_ _ _ _) (vl (nt rfl rfl) rfl (a_ rfl rfl (en (nx ?_))))))))))
      by_cases h4 : within q.kind 1 4 = true
      · refine cf rfl (not_f h4) (sq (rg (vl (fa rfl rfl rfl) rfl (vl (ldb (u := .int .i64 q.kind) 0 rfl rfl rfl rfl rfl rfl rfl) rfl (cs_ (v := .bool (hasRect q.kind)) (by kernel_rfl) rfl rfl rfl (fun w_ hs_ => impl_hasRect w_ _) (m_ rfl rfl ?_))))))
        by_cases h5 : hasRect q.kind = true
        · refine vg (fa rfl rfl rfl) rfl rfl h5 (vg (ldb (u := .slice Aq3 q.point.length cq3) 0 rfl rfl rfl rfl rfl rfl rfl) rfl rfl h5 (vg (ln rfl rfl rfl) rfl rfl h5 (vg (cm rfl rfl rfl rfl) rfl rfl h5 (vl (pk (b := true) rfl rfl h5 rfl) rfl (a_ rfl rfl (en (nx ?_)))))))
          by_cases h6 : (0 : Int) < ((q.point.length : Nat) : Int)
          · refine ct rfl (decide_eq_true h6) (sk (nx (ct rfl (decide_eq_true h6) (sq (rg (a_ rfl rfl (en (nx (rt (xrb (xr (ret1 rfl rfl (fun w_ hs_ => ⟨?_, hs_.below⟩)))))))))))))
            exact ri (by grind [queryFault])
          · refine cf rfl (decide_eq_false h6) (sq (rg (vl (fa rfl rfl rfl) rfl (vl (ldb (u := .int .i64 q.kind) 0 rfl rfl rfl rfl rfl rfl rfl) rfl (cs_ (v := .bool (hasRect q.kind)) (by kernel_rfl) rfl rfl rfl (fun w_ hs_ => impl_hasRect w_ _) (vl (nt rfl rfl) rfl (m_ rfl rfl (sg rfl rfl (not_f h5) (sg rfl rfl (not_f h5) (vl (pk (b := false) rfl rfl (not_f h5) rfl) rfl (a_ rfl rfl (en (nx (cf rfl rfl (rg (vl (fa rfl rfl rfl) rfl (vl (ldb (u := .int .i64 q.kind) 0 rfl rfl rfl rfl rfl rfl rfl) rfl (vl (cm rfl rfl rfl rfl) rfl (m_ rfl rfl ?_)))))))))))))))))))
            by_cases h7 : q.kind = (4 : Int)
            · refine sg rfl rfl (bne_eq_false_iff_eq.2 h7) (sg rfl rfl (bne_eq_false_iff_eq.2 h7) (sg rfl rfl (bne_eq_false_iff_eq.2 h7) (vl (pk (b := false) rfl rfl (bne_eq_false_iff_eq.2 h7) rfl) rfl (a_ rfl rfl (en (nx (cf rfl rfl (sq (rg (vl (fa rfl rfl rfl) rfl (vl (ldb (u := .int .i64 q.kind) 0 rfl rfl rfl rfl rfl rfl rfl) rfl (cs_ (v := .bool (hasRect q.kind)) (by kernel_rfl) rfl rfl rfl (fun w_ hs_ => impl_hasRect w_ _) (a_ rfl rfl (en (nx (ct rfl h5 (sq (rg (vl (fa rfl rfl rfl) rfl (vl (ldb 0 rfl rfl rfl rfl rfl rfl rfl) rfl (m_ rfl rfl ?_)))))))))))))))))))))
              refine gd 1 kQueryS_p1_2 rfl (cs' := [.slice Aq1 q.rect.low.length cq1, .slice Aq2 q.rect.high.length cq2]) rfl fun s8 w_ rs8 us8 => ?_
              refine cs_ (v := .int .i64 (rectFault q.rect dims)) (by kernel_rfl) rfl rfl rfl (fun w_ hs_ => impl_RectFault w_ _ (hs_.at 0 rfl)) (a_ rfl rfl (en (nx (rt (xrb (xr (ret1 rfl rfl (fun w_ hs_ => ⟨?_, hs_.below⟩))))))))
              exact ri (by grind [queryFault])
            · refine vg (fa rfl rfl rfl) rfl rfl (bne_iff_ne.2 h7) (vg (ldb (u := .int .i64 q.k) 0 rfl rfl rfl rfl rfl rfl rfl) rfl rfl (bne_iff_ne.2 h7) (vg (cm rfl rfl rfl rfl) rfl rfl (bne_iff_ne.2 h7) (vl (pk (b := true) rfl rfl (bne_iff_ne.2 h7) rfl) rfl (a_ rfl rfl (en (nx ?_))))))
              by_cases h9 : q.k = (0 : Int)
              · refine cf rfl (bne_eq_false_iff_eq.2 h9) (sq (rg (vl (fa rfl rfl rfl) rfl (vl (ldb (u := .int .i64 q.kind) 0 rfl rfl rfl rfl rfl rfl rfl) rfl (cs_ (v := .bool (hasRect q.kind)) (by kernel_rfl) rfl rfl rfl (fun w_ hs_ => impl_hasRect w_ _) (a_ rfl rfl (en (nx (ct rfl h5 (sq (rg (vl (fa rfl rfl rfl) rfl (vl (ldb 0 rfl rfl rfl rfl rfl rfl rfl) rfl (m_ rfl rfl ?_))))))))))))))
                refine gd 1 kQueryS_p1_2 rfl (cs' := [.slice Aq1 q.rect.low.length cq1, .slice Aq2 q.rect.high.length cq2]) rfl fun s10 w_ rs10 us10 => ?_
                refine cs_ (v := .int .i64 (rectFault q.rect dims)) (by kernel_rfl) rfl rfl rfl (fun w_ hs_ => impl_RectFault w_ _ (hs_.at 0 rfl)) (a_ rfl rfl (en (nx (rt (xrb (xr (ret1 rfl rfl (fun w_ hs_ => ⟨?_, hs_.below⟩))))))))
                exact ri (by grind [queryFault])
              · refine ct rfl (bne_iff_ne.2 h9) (sq (rg (a_ rfl rfl (en (nx (rt (xrb (xr (ret1 rfl rfl (fun w_ hs_ => ⟨?_, hs_.below⟩))))))))))
                exact ri (by grind [queryFault])
        · refine sg rfl rfl (Bool.eq_false_iff.2 h5) (sg rfl rfl (Bool.eq_false_iff.2 h5) (sg rfl rfl (Bool.eq_false_iff.2 h5) (sg rfl rfl (Bool.eq_false_iff.2 h5) (vl (pk (b := false) rfl rfl (Bool.eq_false_iff.2 h5) rfl) rfl (a_ rfl rfl (en (nx (cf rfl rfl (sq (rg (vl (fa rfl rfl rfl) rfl (vl (ldb (u := .int .i64 q.kind) 0 rfl rfl rfl rfl rfl rfl rfl) rfl (cs_ (v := .bool (hasRect q.kind)) (by kernel_rfl) rfl rfl rfl (fun w_ hs_ => impl_hasRect w_ _) (vl (nt rfl rfl) rfl (m_ rfl rfl (vg (mv rfl rfl) rfl rfl (not_t (Bool.eq_false_iff.2 h5)) (vg (nt rfl rfl) rfl rfl (not_t (Bool.eq_false_iff.2 h5)) (vl (pk (b := true) rfl rfl (not_t (Bool.eq_false_iff.2 h5)) rfl) rfl (a_ rfl rfl (en (nx ?_)))))))))))))))))))))
          by_cases h11 : ((q.rect.high.length : Nat) : Int) = (0 : Int)
          · have gh11 := rectEmpty_3 (r := q.rect) h2 h11
            refine cf rfl (not_f (beq_iff_eq.2 h11)) (rg (vl (fa rfl rfl rfl) rfl (vl (ldb (u := .int .i64 q.kind) 0 rfl rfl rfl rfl rfl rfl rfl) rfl (vl (cm rfl rfl rfl rfl) rfl (m_ rfl rfl ?_)))))
            by_cases h12 : q.kind = (4 : Int)
            · refine sg rfl rfl (bne_eq_false_iff_eq.2 h12) (sg rfl rfl (bne_eq_false_iff_eq.2 h12) (sg rfl rfl (bne_eq_false_iff_eq.2 h12) (vl (pk (b := false) rfl rfl (bne_eq_false_iff_eq.2 h12) rfl) rfl (a_ rfl rfl (en (nx (cf rfl rfl (sq (rg (vl (fa rfl rfl rfl) rfl (vl (ldb (u := .int .i64 q.kind) 0 rfl rfl rfl rfl rfl rfl rfl) rfl (cs_ (v := .bool (hasRect q.kind)) (by kernel_rfl) rfl rfl rfl (fun w_ hs_ => impl_hasRect w_ _) (a_ rfl rfl (en (nx (cf rfl (Bool.eq_false_iff.2 h5) (sk (xn (nx (sq (sq (rg (vl (fa rfl rfl rfl) rfl (vl (ldb (u := .slice Aq3 q.point.length cq3) 0 rfl rfl rfl rfl rfl rfl rfl) rfl (m_ rfl rfl ?_)))))))))))))))))))))))))
              refine gd 1 kQueryS_p3_1 rfl (cs' := [.slice Aq3 q.point.length cq3]) rfl fun s13 w_ rs13 us13 => ?_
              have Ls13 := Kd.sl_len rs13; have Cs13 := Kd.sl_cap rs13
              refine cs_ (v := .int .i64 (pointFault q.point dims)) (by kernel_rfl) rfl rfl rfl (fun w_ hs_ => impl_PointFault w_ _ (hs_.at 0 rfl)) (a_ rfl rfl (en (nx (sq (rg (m_ rfl rfl (vl (cm rfl rfl rfl rfl) rfl (en (nx ?_)))))))))
              by_cases h14 : (pointFault q.point dims) = (0 : Int)
              · refine cf rfl (bne_eq_false_iff_eq.2 h14) (sk (nx (sq (sq (rg (vl (fa rfl rfl rfl) rfl (vl (ldb (u := .int .i64 q.kind) 1 rfl rfl rfl rfl rfl rfl rfl) rfl (vl (cm rfl rfl rfl rfl) rfl (m_ rfl rfl (vg (fa rfl rfl rfl) rfl rfl (beq_iff_eq.2 h12) (vg (ldb (u := .int .i64 q.k) 1 rfl rfl rfl rfl rfl rfl rfl) rfl rfl (beq_iff_eq.2 h12) (gw rfl rfl (beq_iff_eq.2 h12) (cs_ (v := .bool (within q.k 1 20)) (by kernel_rfl) rfl rfl rfl (fun w_ hs_ => impl_within w_ _ _ _) (vg (nt rfl rfl) rfl rfl (beq_iff_eq.2 h12) (vl (pk (b := true) rfl rfl (beq_iff_eq.2 h12) rfl) rfl (en (nx ?_)))))))))))))))))
                by_cases h15 : within q.k 1 20 = true
                · refine cf rfl (not_f h15) (sk (nx (sq (rg (a_ rfl rfl (en (nx (rt (ret1 rfl rfl (fun w_ hs_ => ⟨?_, hs_.below⟩))))))))))
                  exact ri (by grind [queryFault])
                · refine ct rfl (not_t (Bool.eq_false_iff.2 h15)) (sq (rg (a_ rfl rfl (en (nx (rt (xr (ret1 rfl rfl (fun w_ hs_ => ⟨?_, hs_.below⟩)))))))))
                  exact ri (by grind [queryFault])
              · refine ct rfl (bne_iff_ne.2 h14) (sq (rg (m_ rfl rfl (a_ rfl rfl (en (nx (rt (xr (ret1 rfl rfl (fun w_ hs_ => ⟨?_, hs_.below⟩))))))))))
                exact ri (by grind [queryFault])
            · refine vg (fa rfl rfl rfl) rfl rfl (bne_iff_ne.2 h12) (vg (ldb (u := .int .i64 q.k) 0 rfl rfl rfl rfl rfl rfl rfl) rfl rfl (bne_iff_ne.2 h12) (vg (cm rfl rfl rfl rfl) rfl rfl (bne_iff_ne.2 h12) (vl (pk (b := true) rfl rfl (bne_iff_ne.2 h12) rfl) rfl (a_ rfl rfl (en (nx ?_))))))
              by_cases h16 : q.k = (0 : Int)
              · refine cf rfl (bne_eq_false_iff_eq.2 h16) (sq (rg (vl (fa rfl rfl rfl) rfl (vl (ldb (u := .int .i64 q.kind) 0 rfl rfl rfl rfl rfl rfl rfl) rfl (cs_ (v := .bool (hasRect q.kind)) (by kernel_rfl) rfl rfl rfl (fun w_ hs_ => impl_hasRect w_ _) (a_ rfl rfl (en (nx (cf rfl (Bool.eq_false_iff.2 h5) (sk (xn (nx (sq (sq (rg (vl (fa rfl rfl rfl) rfl (vl (ldb (u := .slice Aq3 q.point.length cq3) 0 rfl rfl rfl rfl rfl rfl rfl) rfl (m_ rfl rfl ?_))))))))))))))))))
                refine gd 1 kQueryS_p3_1 rfl (cs' := [.slice Aq3 q.point.length cq3]) rfl fun s17 w_ rs17 us17 => ?_
                have Ls17 := Kd.sl_len rs17; have Cs17 := Kd.sl_cap rs17
                refine cs_ (v := .int .i64 (pointFault q.point dims)) (by kernel_rfl) rfl rfl rfl (fun w_ hs_ => impl_PointFault w_ _ (hs_.at 0 rfl)) (a_ rfl rfl (en (nx (sq (rg (m_ rfl rfl (vl (cm rfl rfl rfl rfl) rfl (en (nx ?_)))))))))
                by_cases h18 : (pointFault q.point dims) = (0 : Int)
                · refine cf rfl (bne_eq_false_iff_eq.2 h18) (sk (nx (sq (sq (rg (vl (fa rfl rfl rfl) rfl (vl (ldb (u := .int .i64 q.kind) 1 rfl rfl rfl rfl rfl rfl rfl) rfl (vl (cm rfl rfl rfl rfl) rfl (m_ rfl rfl (sg rfl rfl (beq_eq_false_iff_ne.2 h12) (sg rfl rfl (beq_eq_false_iff_ne.2 h12) (sg rfl rfl (beq_eq_false_iff_ne.2 h12) (sg rfl rfl (beq_eq_false_iff_ne.2 h12) (vl (pk (b := false) rfl rfl (beq_eq_false_iff_ne.2 h12) rfl) rfl (en (nx (cf rfl rfl (sk (nx (sq (rg (a_ rfl rfl (en (nx (rt (ret1 rfl rfl (fun w_ hs_ => ⟨?_, hs_.below⟩)))))))))))))))))))))))))))
                  exact ri (by grind [queryFault])
                · refine ct rfl (bne_iff_ne.2 h18) (sq (rg (m_ rfl rfl (a_ rfl rfl (en (nx (rt (xr (ret1 rfl rfl (fun w_ hs_ => ⟨?_, hs_.below⟩))))))))))
                  exact ri (by grind [queryFault])
              · refine ct rfl (bne_iff_ne.2 h16) (sq (rg (a_ rfl rfl (en (nx (rt (xrb (xr (ret1 rfl rfl (fun w_ hs_ => ⟨?_, hs_.below⟩))))))))))
                exact ri (by grind [queryFault])
          · have gh11 := rectEmpty_2 (r := q.rect) h11
            refine ct rfl (not_t (beq_eq_false_iff_ne.2 h11)) (sk (nx (ct rfl (not_t (beq_eq_false_iff_ne.2 h11)) (sq (rg (a_ rfl rfl (en (nx (rt (xrb (xr (ret1 rfl rfl (fun w_ hs_ => ⟨?_, hs_.below⟩)))))))))))))
            exact ri (by grind [queryFault])
      · refine ct rfl (not_t (Bool.eq_false_iff.2 h4)) (sk (nx (ct rfl (not_t (Bool.eq_false_iff.2 h4)) (sq (rg (a_ rfl rfl (en (nx (rt (xrb (xr (ret1 rfl rfl (fun w_ hs_ => ⟨?_, hs_.below⟩)))))))))))))
        exact ri (by grind [queryFault])
    · refine ct rfl (not_t (Bool.eq_false_iff.2 h3)) (sq (rg (a_ rfl rfl (en (nx (rt (xrb (xr (ret1 rfl rfl (fun w_ hs_ => ⟨?_, hs_.below⟩))))))))))
      exact ri (by grind [queryFault])
  · have gh2 := rectEmpty_1 (r := q.rect) h2
    refine sg rfl rfl (beq_eq_false_iff_ne.2 h2) (sg rfl rfl (beq_eq_false_iff_ne.2 h2) (sg rfl rfl (beq_eq_false_iff_ne.2 h2) (sg rfl rfl (beq_eq_false_iff_ne.2 h2) (sg rfl rfl (beq_eq_false_iff_ne.2 h2) (vl (pk (b := false) rfl rfl (beq_eq_false_iff_ne.2 h2) rfl) rfl (a_ rfl rfl (en (nx (sq (bk (sq (rg (m_ rfl rfl (cs_ (v := .bool (isDims dims)) (by kernel_rfl) rfl rfl rfl (fun w_ hs_ => impl_isDims w_ _) (vl (nt rfl rfl) rfl (a_ rfl rfl (en (nx ?_))))))))))))))))))
    by_cases h19 : isDims dims = true
    · refine cf rfl (not_f h19) (sq (sq (rg (vl (fa rfl rfl rfl) rfl (vl (ldb (u := .int .i64 q.kind) 0 rfl rfl rfl rfl rfl rfl rfl) rfl (cs_ (v := .bool (within q.kind 1 4)) (by kernel_rfl) rfl rfl rfl (fun w_ hs_ => impl_within w_ _ _ _) (vl (nt rfl rfl) rfl (a_ rfl rfl (en (nx ?_))))))))))
      by_cases h20 : within q.kind 1 4 = true
      · refine cf rfl (not_f h20) (sq (rg (vl (fa rfl rfl rfl) rfl (vl (ldb (u := .int .i64 q.kind) 0 rfl rfl rfl rfl rfl rfl rfl) rfl (cs_ (v := .bool (hasRect q.kind)) (by kernel_rfl) rfl rfl rfl (fun w_ hs_ => impl_hasRect w_ _) (m_ rfl rfl ?_))))))
        by_cases h21 : hasRect q.kind = true
        · refine vg (fa rfl rfl rfl) rfl rfl h21 (vg (ldb (u := .slice Aq3 q.point.length cq3) 0 rfl rfl rfl rfl rfl rfl rfl) rfl rfl h21 (vg (ln rfl rfl rfl) rfl rfl h21 (vg (cm rfl rfl rfl rfl) rfl rfl h21 (vl (pk (b := true) rfl rfl h21 rfl) rfl (a_ rfl rfl (en (nx ?_)))))))
          by_cases h22 : (0 : Int) < ((q.point.length : Nat) : Int)
          · refine ct rfl (decide_eq_true h22) (sk (nx (ct rfl (decide_eq_true h22) (sq (rg (a_ rfl rfl (en (nx (rt (xrb (xr (ret1 rfl rfl (fun w_ hs_ => ⟨?_, hs_.below⟩)))))))))))))
            exact ri (by grind [queryFault])
          · refine cf rfl (decide_eq_false h22) (sq (rg (vl (fa rfl rfl rfl) rfl (vl (ldb (u := .int .i64 q.kind) 0 rfl rfl rfl rfl rfl rfl rfl) rfl (cs_ (v := .bool (hasRect q.kind)) (by kernel_rfl) rfl rfl rfl (fun w_ hs_ => impl_hasRect w_ _) (vl (nt rfl rfl) rfl (m_ rfl rfl (sg rfl rfl (not_f h21) (sg rfl rfl (not_f h21) (vl (pk (b := false) rfl rfl (not_f h21) rfl) rfl (a_ rfl rfl (en (nx (cf rfl rfl (rg (vl (fa rfl rfl rfl) rfl (vl (ldb (u := .int .i64 q.kind) 0 rfl rfl rfl rfl rfl rfl rfl) rfl (vl (cm rfl rfl rfl rfl) rfl (m_ rfl rfl ?_)))))))))))))))))))
            by_cases h23 : q.kind = (4 : Int)
            · refine sg rfl rfl (bne_eq_false_iff_eq.2 h23) (sg rfl rfl (bne_eq_false_iff_eq.2 h23) (sg rfl rfl (bne_eq_false_iff_eq.2 h23) (vl (pk (b := false) rfl rfl (bne_eq_false_iff_eq.2 h23) rfl) rfl (a_ rfl rfl (en (nx (cf rfl rfl (sq (rg (vl (fa rfl rfl rfl) rfl (vl (ldb (u := .int .i64 q.kind) 0 rfl rfl rfl rfl rfl rfl rfl) rfl (cs_ (v := .bool (hasRect q.kind)) (by kernel_rfl) rfl rfl rfl (fun w_ hs_ => impl_hasRect w_ _) (a_ rfl rfl (en (nx (ct rfl h21 (sq (rg (vl (fa rfl rfl rfl) rfl (vl (ldb 0 rfl rfl rfl rfl rfl rfl rfl) rfl (m_ rfl rfl ?_)))))))))))))))))))))
              refine gd 1 kQueryS_p1_2 rfl (cs' := [.slice Aq1 q.rect.low.length cq1, .slice Aq2 q.rect.high.length cq2]) rfl fun s24 w_ rs24 us24 => ?_
              refine cs_ (v := .int .i64 (rectFault q.rect dims)) (by kernel_rfl) rfl rfl rfl (fun w_ hs_ => impl_RectFault w_ _ (hs_.at 0 rfl)) (a_ rfl rfl (en (nx (rt (xrb (xr (ret1 rfl rfl (fun w_ hs_ => ⟨?_, hs_.below⟩))))))))
              exact ri (by grind [queryFault])
            · refine vg (fa rfl rfl rfl) rfl rfl (bne_iff_ne.2 h23) (vg (ldb (u := .int .i64 q.k) 0 rfl rfl rfl rfl rfl rfl rfl) rfl rfl (bne_iff_ne.2 h23) (vg (cm rfl rfl rfl rfl) rfl rfl (bne_iff_ne.2 h23) (vl (pk (b := true) rfl rfl (bne_iff_ne.2 h23) rfl) rfl (a_ rfl rfl (en (nx ?_))))))
              by_cases h25 : q.k = (0 : Int)
              · refine cf rfl (bne_eq_false_iff_eq.2 h25) (sq (rg (vl (fa rfl rfl rfl) rfl (vl (ldb (u := .int .i64 q.kind) 0 rfl rfl rfl rfl rfl rfl rfl) rfl (cs_ (v := .bool (hasRect q.kind)) (by kernel_rfl) rfl rfl rfl (fun w_ hs_ => impl_hasRect w_ _) (a_ rfl rfl (en (nx (ct rfl h21 (sq (rg (vl (fa rfl rfl rfl) rfl (vl (ldb 0 rfl rfl rfl rfl rfl rfl rfl) rfl (m_ rfl rfl ?_))))))))))))))
                refine gd 1 kQueryS_p1_2 rfl (cs' := [.slice Aq1 q.rect.low.length cq1, .slice Aq2 q.rect.high.length cq2]) rfl fun s26 w_ rs26 us26 => ?_
                refine cs_ (v := .int .i64 (rectFault q.rect dims)) (by kernel_rfl) rfl rfl rfl (fun w_ hs_ => impl_RectFault w_ _ (hs_.at 0 rfl)) (a_ rfl rfl (en (nx (rt (xrb (xr (ret1 rfl rfl (fun w_ hs_ => ⟨?_, hs_.below⟩))))))))
                exact ri (by grind [queryFault])
              · refine ct rfl (bne_iff_ne.2 h25) (sq (rg (a_ rfl rfl (en (nx (rt (xrb (xr (ret1 rfl rfl (fun w_ hs_ => ⟨?_, hs_.below⟩))))))))))
                exact ri (by grind [queryFault])
        · refine sg rfl rfl (Bool.eq_false_iff.2 h21) (sg rfl rfl (Bool.eq_false_iff.2 h21) (sg rfl rfl (Bool.eq_false_iff.2 h21) (sg rfl rfl (Bool.eq_false_iff.2 h21) (vl (pk (b := false) rfl rfl (Bool.eq_false_iff.2 h21) rfl) rfl (a_ rfl rfl (en (nx (cf rfl rfl (sq (rg (vl (fa rfl rfl rfl) rfl (vl (ldb (u := .int .i64 q.kind) 0 rfl rfl rfl rfl rfl rfl rfl) rfl (cs_ (v := .bool (hasRect q.kind)) (by kernel_rfl) rfl rfl rfl (fun w_ hs_ => impl_hasRect w_ _) (vl (nt rfl rfl) rfl (m_ rfl rfl (vg (mv rfl rfl) rfl rfl (not_t (Bool.eq_false_iff.2 h21)) (vg (nt rfl rfl) rfl rfl (not_t (Bool.eq_false_iff.2 h21)) (vl (pk (b := true) rfl rfl (not_t (Bool.eq_false_iff.2 h21)) rfl) rfl (a_ rfl rfl (en (nx (ct rfl rfl (sk (nx (ct rfl rfl (sq (rg (a_ rfl rfl (en (nx (rt (xrb (xr (ret1 rfl rfl (fun w_ hs_ => ⟨?_, hs_.below⟩)))))))))))))))))))))))))))))))))))
          exact ri (by grind [queryFault])
      · refine ct rfl (not_t (Bool.eq_false_iff.2 h20)) (sk (nx (ct rfl (not_t (Bool.eq_false_iff.2 h20)) (sq (rg (a_ rfl rfl (en (nx (rt (xrb (xr (ret1 rfl rfl (fun w_ hs_ => ⟨?_, hs_.below⟩)))))))))))))
        exact ri (by grind [queryFault])
    · refine ct rfl (not_t (Bool.eq_false_iff.2 h19)) (sq (rg (a_ rfl rfl (en (nx (rt (xrb (xr (ret1 rfl rfl (fun w_ hs_ => ⟨?_, hs_.below⟩))))))))))
      exact ri (by grind [queryFault])
/-! spec.QueryFault -/
set_option maxRecDepth 20000 in
set_option maxHeartbeats 2000000 in
theorem spec_QueryFault (w : World) (dims : Int) {Aq1 : Option Addr} {cq1 : Nat} {Aq2 : Option Addr} {cq2 : Nat} {Aq3 : Option Addr} {cq3 : Nat} {q : Query} {sq_ : List Nat} (hq : kQueryS.Rel w [.int .i64 q.kind, .slice Aq1 q.rect.low.length cq1, .slice Aq2 q.rect.high.length cq2, .slice Aq3 q.point.length cq3, .int .i64 q.k] q [] sq_)  : Calls Tryz.prog 21 #[.agg #[.int .i64 q.kind, .slice Aq1 q.rect.low.length cq1, .slice Aq2 q.rect.high.length cq2, .slice Aq3 q.point.length cq3, .int .i64 q.k], .int .i64 dims] w (fun e_ w2_ => e_ = .returned (.int .i64 (queryFault q dims)) ∧ Below w.heap.size w w2_) := by
  have Lq1 := Kd.sub_len kQueryS_p1_1 hq; have Cq1 := Kd.sub_cap kQueryS_p1_1 hq rfl
  have Lq2 := Kd.sub_len kQueryS_p2_1 hq; have Cq2 := Kd.sub_cap kQueryS_p2_1 hq rfl
  refine fnc (X := X16 78 w) (args := [.agg #[.int .i64 q.kind, .slice Aq1 q.rect.low.length cq1, .slice Aq2 q.rect.high.length cq2, .slice Aq3 q.point.length cq3, .int .i64 q.k], .int .i64 dims]) (l := [(0, .agg #[.int .i64 q.kind, .slice Aq1 q.rect.low.length cq1, .slice Aq2 q.rect.high.length cq2, .slice Aq3 q.point.length cq3, .int .i64 q.k]), (1, .int .i64 dims)]) (G := [dat kQueryS [.int .i64 q.kind, .slice Aq1 q.rect.low.length cq1, .slice Aq2 q.rect.high.length cq2, .slice Aq3 q.point.length cq3, .int .i64 q.k] q ([]) sq_]) Tryz.func21 rfl rfl rfl ⟨rfl, rfl, trivial⟩ (s0d hq (s0n w)).1 ?_
  refine sq (rg (bx rfl rfl rfl rfl ?_))
  intro b1
  refine a_ rfl rfl (en (nx (sq (sq (rg (m_ rfl rfl (cs_ (v := .bool (within dims 2 3)) (by kernel_rfl) rfl rfl rfl (fun w_ hs_ => spec_l1In w_ _ _ _) (vl (nt rfl rfl) rfl (en (nx ?_))))))))))
  by_cases h2 : within dims 2 3 = true
  · refine cf rfl (not_f h2) (sk (nx (sq (rg (vl (fa rfl rfl rfl) rfl (vl (ldb (u := .int .i64 q.kind) 0 rfl rfl rfl rfl rfl rfl rfl) rfl (vl (cm rfl rfl rfl rfl) rfl (m_ rfl rfl ?_))))))))
    by_cases h3 : q.kind = (1 : Int)
    · refine sg rfl rfl (beq_iff_eq.2 h3) (sg rfl rfl (beq_iff_eq.2 h3) (sg rfl rfl (beq_iff_eq.2 h3) (vl (pk (b := true) rfl rfl (beq_iff_eq.2 h3) rfl) rfl (a_ rfl rfl (en (nx (sq (sq (rg (vl (fa rfl rfl rfl) rfl (vl (ldb (u := .int .i64 q.kind) 0 rfl rfl rfl rfl rfl rfl rfl) rfl (cs_ (v := .bool (within q.kind 1 4)) (by kernel_rfl) rfl rfl rfl (fun w_ hs_ => spec_l1In w_ _ _ _) (vl (nt rfl rfl) rfl (m_ rfl rfl ?_))))))))))))))
      by_cases h4 : within q.kind 1 4 = true
      · refine vg (mv rfl rfl) rfl rfl (not_f h4) (vg (mv rfl rfl) rfl rfl (not_f h4) (vg (fa rfl rfl rfl) rfl rfl rfl (vg (ldb (u := .slice Aq3 q.point.length cq3) 0 rfl rfl rfl rfl rfl rfl rfl) rfl rfl rfl (vg (ln rfl rfl rfl) rfl rfl rfl (vg (cm rfl rfl rfl rfl) rfl rfl rfl (vg (pk (b := true) rfl rfl rfl rfl) rfl rfl (not_f h4) (vl (pk (b := false) rfl rfl (not_f h4) rfl) rfl (m_ rfl rfl ?_))))))))
        by_cases h5 : (0 : Int) < ((q.point.length : Nat) : Int)
        · refine sg rfl rfl (decide_eq_true h5) (sg rfl rfl (decide_eq_true h5) (sg rfl rfl (decide_eq_true h5) (su rfl rfl (su rfl rfl (su rfl rfl (su rfl rfl (su rfl rfl (su rfl rfl (su rfl rfl (su rfl rfl (su rfl rfl (su rfl rfl (sg rfl rfl (decide_eq_true h5) (vl (pk (b := true) rfl rfl (decide_eq_true h5) rfl) rfl (m_ rfl rfl (sg rfl rfl rfl (sg rfl rfl rfl (sg rfl rfl rfl (sg rfl rfl rfl (su rfl rfl (su rfl rfl (su rfl rfl (sg rfl rfl rfl (vl (pk (b := true) rfl rfl rfl rfl) rfl (en (nx (ct rfl rfl (sq (rg (a_ rfl rfl (en (nx (rt (xr (ret1 rfl rfl (fun w_ hs_ => ⟨?_, hs_.below⟩))))))))))))))))))))))))))))))))))))
          exact ri (by grind [queryFault, hasRect, isDims])
        · refine vg (mv rfl rfl) rfl rfl (decide_eq_false h5) (vg (nt rfl rfl) rfl rfl (decide_eq_false h5) (vg (mv rfl rfl) rfl rfl (decide_eq_false h5) (sg rfl rfl rfl (sg rfl rfl rfl (sg rfl rfl rfl (sg rfl rfl rfl (sg rfl rfl rfl (sg rfl rfl rfl (sg rfl rfl rfl (sg rfl rfl rfl (sg rfl rfl rfl (sg rfl rfl rfl (vg (pk (b := false) rfl rfl rfl rfl) rfl rfl (decide_eq_false h5) (vl (pk (b := false) rfl rfl (decide_eq_false h5) rfl) rfl (m_ rfl rfl (vg (fa rfl rfl rfl) rfl rfl rfl (vg (ldb (u := .int .i64 q.kind) 0 rfl rfl rfl rfl rfl rfl rfl) rfl rfl rfl (vg (cm rfl rfl rfl rfl) rfl rfl rfl (vg (mv rfl rfl) rfl rfl rfl ?_)))))))))))))))))))
          by_cases h6 : q.kind = (4 : Int)
          · refine sg rfl rfl (bne_eq_false_iff_eq.2 h6) (sg rfl rfl (bne_eq_false_iff_eq.2 h6) (sg rfl rfl (bne_eq_false_iff_eq.2 h6) (vg (pk (b := false) rfl rfl (bne_eq_false_iff_eq.2 h6) rfl) rfl rfl rfl (vl (pk (b := false) rfl rfl rfl rfl) rfl (en (nx (cf rfl rfl (sk (nx (sq (sq (rg (m_ rfl rfl (en (nx (ct rfl rfl (sq (rg (vl (fa rfl rfl rfl) rfl (vl (ldb 0 rfl rfl rfl rfl rfl rfl rfl) rfl (m_ rfl rfl ?_)))))))))))))))))))))
            refine gd 1 kQueryS_p1_2 rfl (cs' := [.slice Aq1 q.rect.low.length cq1, .slice Aq2 q.rect.high.length cq2]) rfl fun s7 w_ rs7 us7 => ?_
            refine cs_ (v := .int .i64 (rectFault q.rect dims)) (by kernel_rfl) rfl rfl rfl (fun w_ hs_ => spec_RectFault w_ _ (hs_.at 0 rfl)) (a_ rfl rfl (en (nx (rt (xr (ret1 rfl rfl (fun w_ hs_ => ⟨?_, hs_.below⟩)))))))
            exact ri (by grind [queryFault, hasRect, isDims])
          · refine vg (fa rfl rfl rfl) rfl rfl (bne_iff_ne.2 h6) (vg (ldb (u := .int .i64 q.k) 0 rfl rfl rfl rfl rfl rfl rfl) rfl rfl (bne_iff_ne.2 h6) (vg (cm rfl rfl rfl rfl) rfl rfl (bne_iff_ne.2 h6) (vg (pk (b := true) rfl rfl (bne_iff_ne.2 h6) rfl) rfl rfl rfl (vl (pk (b := false) rfl rfl rfl rfl) rfl (en (nx ?_))))))
            by_cases h8 : q.k = (0 : Int)
            · refine cf rfl (bne_eq_false_iff_eq.2 h8) (sk (nx (sq (sq (rg (m_ rfl rfl (en (nx (ct rfl rfl (sq (rg (vl (fa rfl rfl rfl) rfl (vl (ldb 0 rfl rfl rfl rfl rfl rfl rfl) rfl (m_ rfl rfl ?_))))))))))))))
              refine gd 1 kQueryS_p1_2 rfl (cs' := [.slice Aq1 q.rect.low.length cq1, .slice Aq2 q.rect.high.length cq2]) rfl fun s9 w_ rs9 us9 => ?_
              refine cs_ (v := .int .i64 (rectFault q.rect dims)) (by kernel_rfl) rfl rfl rfl (fun w_ hs_ => spec_RectFault w_ _ (hs_.at 0 rfl)) (a_ rfl rfl (en (nx (rt (xr (ret1 rfl rfl (fun w_ hs_ => ⟨?_, hs_.below⟩)))))))
              exact ri (by grind [queryFault, hasRect, isDims])
            · refine ct rfl (bne_iff_ne.2 h8) (sq (rg (a_ rfl rfl (en (nx (rt (xr (ret1 rfl rfl (fun w_ hs_ => ⟨?_, hs_.below⟩)))))))))
              exact ri (by grind [queryFault, hasRect, isDims])
      · refine sg rfl rfl (not_t (Bool.eq_false_iff.2 h4)) (sg rfl rfl (not_t (Bool.eq_false_iff.2 h4)) (su rfl rfl (su rfl rfl (su rfl rfl (su rfl rfl (sg rfl rfl (not_t (Bool.eq_false_iff.2 h4)) (vl (pk (b := true) rfl rfl (not_t (Bool.eq_false_iff.2 h4)) rfl) rfl (m_ rfl rfl (sg rfl rfl rfl (sg rfl rfl rfl (sg rfl rfl rfl (su rfl rfl (su rfl rfl (su rfl rfl (su rfl rfl (su rfl rfl (su rfl rfl (su rfl rfl (su rfl rfl (su rfl rfl (su rfl rfl (sg rfl rfl rfl (vl (pk (b := true) rfl rfl rfl rfl) rfl (m_ rfl rfl (sg rfl rfl rfl (sg rfl rfl rfl (sg rfl rfl rfl (sg rfl rfl rfl (su rfl rfl (su rfl rfl (su rfl rfl (sg rfl rfl rfl (vl (pk (b := true) rfl rfl rfl rfl) rfl (en (nx (ct rfl rfl (sq (rg (a_ rfl rfl (en (nx (rt (xr (ret1 rfl rfl (fun w_ hs_ => ⟨?_, hs_.below⟩)))))))))))))))))))))))))))))))))))))))))))))
        exact ri (by grind [queryFault, hasRect, isDims])
    · refine vg (fa rfl rfl rfl) rfl rfl (beq_eq_false_iff_ne.2 h3) (vg (ldb (u := .int .i64 q.kind) 0 rfl rfl rfl rfl rfl rfl rfl) rfl rfl (beq_eq_false_iff_ne.2 h3) (vg (cm rfl rfl rfl rfl) rfl rfl (beq_eq_false_iff_ne.2 h3) (vl (pk (b := false) rfl rfl (beq_eq_false_iff_ne.2 h3) rfl) rfl (a_ rfl rfl (en (nx (sq (sq (rg (vl (fa rfl rfl rfl) rfl (vl (ldb (u := .int .i64 q.kind) 0 rfl rfl rfl rfl rfl rfl rfl) rfl (cs_ (v := .bool (within q.kind 1 4)) (by kernel_rfl) rfl rfl rfl (fun w_ hs_ => spec_l1In w_ _ _ _) (vl (nt rfl rfl) rfl (m_ rfl rfl ?_))))))))))))))
      by_cases h10 : within q.kind 1 4 = true
      · refine vg (mv rfl rfl) rfl rfl (not_f h10) (vg (mv rfl rfl) rfl rfl (not_f h10) ?_)
        by_cases h11 : q.kind = (2 : Int)
        · refine vg (fa rfl rfl rfl) rfl rfl (beq_iff_eq.2 h11) (vg (ldb (u := .slice Aq3 q.point.length cq3) 0 rfl rfl rfl rfl rfl rfl rfl) rfl rfl (beq_iff_eq.2 h11) (vg (ln rfl rfl rfl) rfl rfl (beq_iff_eq.2 h11) (vg (cm rfl rfl rfl rfl) rfl rfl (beq_iff_eq.2 h11) (vg (pk (b := true) rfl rfl (beq_iff_eq.2 h11) rfl) rfl rfl (not_f h10) (vl (pk (b := false) rfl rfl (not_f h10) rfl) rfl (m_ rfl rfl ?_))))))
          by_cases h12 : (0 : Int) < ((q.point.length : Nat) : Int)
          · refine sg rfl rfl (decide_eq_true h12) (sg rfl rfl (decide_eq_true h12) (sg rfl rfl (decide_eq_true h12) (su rfl rfl (su rfl rfl (su rfl rfl (su rfl rfl (su rfl rfl (su rfl rfl (su rfl rfl (su rfl rfl (su rfl rfl (su rfl rfl (sg rfl rfl (decide_eq_true h12) (vl (pk (b := true) rfl rfl (decide_eq_true h12) rfl) rfl (m_ rfl rfl (sg rfl rfl rfl (sg rfl rfl rfl (sg rfl rfl rfl (sg rfl rfl rfl (su rfl rfl (su rfl rfl (su rfl rfl (sg rfl rfl rfl (vl (pk (b := true) rfl rfl rfl rfl) rfl (en (nx (ct rfl rfl (sq (rg (a_ rfl rfl (en (nx (rt (xr (ret1 rfl rfl (fun w_ hs_ => ⟨?_, hs_.below⟩))))))))))))))))))))))))))))))))))))
            exact ri (by grind [queryFault, hasRect, isDims])
          · refine vg (mv rfl rfl) rfl rfl (decide_eq_false h12) (vg (nt rfl rfl) rfl rfl (decide_eq_false h12) (vg (mv rfl rfl) rfl rfl (decide_eq_false h12) (sg rfl rfl (not_f (beq_iff_eq.2 h11)) (sg rfl rfl (not_f (beq_iff_eq.2 h11)) (sg rfl rfl (not_f (beq_iff_eq.2 h11)) (sg rfl rfl (not_f (beq_iff_eq.2 h11)) (sg rfl rfl (not_f (beq_iff_eq.2 h11)) (sg rfl rfl (not_f (beq_iff_eq.2 h11)) (sg rfl rfl (not_f (beq_iff_eq.2 h11)) (sg rfl rfl (not_f (beq_iff_eq.2 h11)) (sg rfl rfl (not_f (beq_iff_eq.2 h11)) (sg rfl rfl (not_f (beq_iff_eq.2 h11)) (vg (pk (b := false) rfl rfl (not_f (beq_iff_eq.2 h11)) rfl) rfl rfl (decide_eq_false h12) (vl (pk (b := false) rfl rfl (decide_eq_false h12) rfl) rfl (m_ rfl rfl (vg (fa rfl rfl rfl) rfl rfl rfl (vg (ldb (u := .int .i64 q.kind) 0 rfl rfl rfl rfl rfl rfl rfl) rfl rfl rfl (vg (cm rfl rfl rfl rfl) rfl rfl rfl (vg (mv rfl rfl) rfl rfl rfl ?_)))))))))))))))))))
            by_cases h13 : q.kind = (4 : Int)
            · refine sg rfl rfl (bne_eq_false_iff_eq.2 h13) (sg rfl rfl (bne_eq_false_iff_eq.2 h13) (sg rfl rfl (bne_eq_false_iff_eq.2 h13) (vg (pk (b := false) rfl rfl (bne_eq_false_iff_eq.2 h13) rfl) rfl rfl rfl (vl (pk (b := false) rfl rfl rfl rfl) rfl (en (nx (cf rfl rfl (sk (nx (sq (sq (rg (m_ rfl rfl (en (nx (ct rfl (beq_iff_eq.2 h11) (sq (rg (vl (fa rfl rfl rfl) rfl (vl (ldb 0 rfl rfl rfl rfl rfl rfl rfl) rfl (m_ rfl rfl ?_)))))))))))))))))))))
              refine gd 1 kQueryS_p1_2 rfl (cs' := [.slice Aq1 q.rect.low.length cq1, .slice Aq2 q.rect.high.length cq2]) rfl fun s14 w_ rs14 us14 => ?_
              refine cs_ (v := .int .i64 (rectFault q.rect dims)) (by kernel_rfl) rfl rfl rfl (fun w_ hs_ => spec_RectFault w_ _ (hs_.at 0 rfl)) (a_ rfl rfl (en (nx (rt (xr (ret1 rfl rfl (fun w_ hs_ => ⟨?_, hs_.below⟩)))))))
              exact ri (by grind [queryFault, hasRect, isDims])
            · refine vg (fa rfl rfl rfl) rfl rfl (bne_iff_ne.2 h13) (vg (ldb (u := .int .i64 q.k) 0 rfl rfl rfl rfl rfl rfl rfl) rfl rfl (bne_iff_ne.2 h13) (vg (cm rfl rfl rfl rfl) rfl rfl (bne_iff_ne.2 h13) (vg (pk (b := true) rfl rfl (bne_iff_ne.2 h13) rfl) rfl rfl rfl (vl (pk (b := false) rfl rfl rfl rfl) rfl (en (nx ?_))))))
              by_cases h15 : q.k = (0 : Int)
              · refine cf rfl (bne_eq_false_iff_eq.2 h15) (sk (nx (sq (sq (rg (m_ rfl rfl (en (nx (ct rfl (beq_iff_eq.2 h11) (sq (rg (vl (fa rfl rfl rfl) rfl (vl (ldb 0 rfl rfl rfl rfl rfl rfl rfl) rfl (m_ rfl rfl ?_))))))))))))))
                refine gd 1 kQueryS_p1_2 rfl (cs' := [.slice Aq1 q.rect.low.length cq1, .slice Aq2 q.rect.high.length cq2]) rfl fun s16 w_ rs16 us16 => ?_
                refine cs_ (v := .int .i64 (rectFault q.rect dims)) (by kernel_rfl) rfl rfl rfl (fun w_ hs_ => spec_RectFault w_ _ (hs_.at 0 rfl)) (a_ rfl rfl (en (nx (rt (xr (ret1 rfl rfl (fun w_ hs_ => ⟨?_, hs_.below⟩)))))))
                exact ri (by grind [queryFault, hasRect, isDims])
              · refine ct rfl (bne_iff_ne.2 h15) (sq (rg (a_ rfl rfl (en (nx (rt (xr (ret1 rfl rfl (fun w_ hs_ => ⟨?_, hs_.below⟩)))))))))
                exact ri (by grind [queryFault, hasRect, isDims])
        · refine sg rfl rfl (beq_eq_false_iff_ne.2 h11) (sg rfl rfl (beq_eq_false_iff_ne.2 h11) (sg rfl rfl (beq_eq_false_iff_ne.2 h11) (sg rfl rfl (beq_eq_false_iff_ne.2 h11) (vg (pk (b := false) rfl rfl (beq_eq_false_iff_ne.2 h11) rfl) rfl rfl (not_f h10) (vl (pk (b := false) rfl rfl (not_f h10) rfl) rfl (m_ rfl rfl (vg (mv rfl rfl) rfl rfl rfl (vg (nt rfl rfl) rfl rfl rfl (vg (mv rfl rfl) rfl rfl rfl (vg (fa rfl rfl rfl) rfl rfl (not_t (beq_eq_false_iff_ne.2 h11)) (vg (fa rfl rfl rfl) rfl rfl (not_t (beq_eq_false_iff_ne.2 h11)) (vg (ldb (u := .slice Aq1 q.rect.low.length cq1) 0 rfl rfl rfl rfl rfl rfl rfl) rfl rfl (not_t (beq_eq_false_iff_ne.2 h11)) (vg (ln rfl rfl rfl) rfl rfl (not_t (beq_eq_false_iff_ne.2 h11)) (vg (fa rfl rfl rfl) rfl rfl (not_t (beq_eq_false_iff_ne.2 h11)) (vg (fa rfl rfl rfl) rfl rfl (not_t (beq_eq_false_iff_ne.2 h11)) (vg (ldb (u := .slice Aq2 q.rect.high.length cq2) 0 rfl rfl rfl rfl rfl rfl rfl) rfl rfl (not_t (beq_eq_false_iff_ne.2 h11)) (vg (ln rfl rfl rfl) rfl rfl (not_t (beq_eq_false_iff_ne.2 h11)) (vg (ra (c := ((q.rect.low.length : Nat) : Int) + ((q.rect.high.length : Nat) : Int)) rfl rfl rfl rfl (by omega) (by omega)) rfl rfl (not_t (beq_eq_false_iff_ne.2 h11)) (vg (cm rfl rfl rfl rfl) rfl rfl (not_t (beq_eq_false_iff_ne.2 h11)) (vg (pk (b := true) rfl rfl (not_t (beq_eq_false_iff_ne.2 h11)) rfl) rfl rfl rfl (vl (pk (b := false) rfl rfl rfl rfl) rfl (m_ rfl rfl ?_))))))))))))))))))))))
          by_cases h17 : (0 : Int) < ((q.rect.low.length : Nat) : Int) + ((q.rect.high.length : Nat) : Int)
          · have gh17 := rectEmpty_f (r := q.rect) h17
            refine sg rfl rfl (decide_eq_true h17) (sg rfl rfl (decide_eq_true h17) (sg rfl rfl (decide_eq_true h17) (sg rfl rfl (decide_eq_true h17) (su rfl rfl (su rfl rfl (su rfl rfl (sg rfl rfl (decide_eq_true h17) (vl (pk (b := true) rfl rfl (decide_eq_true h17) rfl) rfl (en (nx (ct rfl rfl (sq (rg (a_ rfl rfl (en (nx (rt (xr (ret1 rfl rfl (fun w_ hs_ => ⟨?_, hs_.below⟩))))))))))))))))))))
            exact ri (by grind [queryFault, hasRect, isDims])
          · have gh17 := rectEmpty_t (r := q.rect) h17
            refine vg (fa rfl rfl rfl) rfl rfl (decide_eq_false h17) (vg (ldb (u := .int .i64 q.kind) 0 rfl rfl rfl rfl rfl rfl rfl) rfl rfl (decide_eq_false h17) (vg (cm rfl rfl rfl rfl) rfl rfl (decide_eq_false h17) (vg (mv rfl rfl) rfl rfl (decide_eq_false h17) ?_)))
            by_cases h18 : q.kind = (4 : Int)
            · refine sg rfl rfl (bne_eq_false_iff_eq.2 h18) (sg rfl rfl (bne_eq_false_iff_eq.2 h18) (sg rfl rfl (bne_eq_false_iff_eq.2 h18) (vg (pk (b := false) rfl rfl (bne_eq_false_iff_eq.2 h18) rfl) rfl rfl (decide_eq_false h17) (vl (pk (b := false) rfl rfl (decide_eq_false h17) rfl) rfl (en (nx (cf rfl rfl (sk (nx (sq (sq (rg (m_ rfl rfl (en (nx (cf rfl (beq_eq_false_iff_ne.2 h11) (sk (nx (sq (sq (rg (vl (fa rfl rfl rfl) rfl (vl (ldb (u := .slice Aq3 q.point.length cq3) 0 rfl rfl rfl rfl rfl rfl rfl) rfl (m_ rfl rfl ?_))))))))))))))))))))))))
              refine gd 1 kQueryS_p3_1 rfl (cs' := [.slice Aq3 q.point.length cq3]) rfl fun s19 w_ rs19 us19 => ?_
              have Ls19 := Kd.sl_len rs19; have Cs19 := Kd.sl_cap rs19
              refine cs_ (v := .int .i64 (pointFault q.point dims)) (by kernel_rfl) rfl rfl rfl (fun w_ hs_ => spec_PointFault w_ _ (hs_.at 0 rfl)) (a_ rfl rfl (en (nx (sq (rg (m_ rfl rfl (vl (cm rfl rfl rfl rfl) rfl (en (nx ?_)))))))))
              by_cases h20 : (pointFault q.point dims) = (0 : Int)
              · refine cf rfl (bne_eq_false_iff_eq.2 h20) (sk (nx (sq (sq (rg (vl (fa rfl rfl rfl) rfl (vl (ldb (u := .int .i64 q.kind) 1 rfl rfl rfl rfl rfl rfl rfl) rfl (vl (cm rfl rfl rfl rfl) rfl (m_ rfl rfl (vg (fa rfl rfl rfl) rfl rfl (beq_iff_eq.2 h18) (vg (ldb (u := .int .i64 q.k) 1 rfl rfl rfl rfl rfl rfl rfl) rfl rfl (beq_iff_eq.2 h18) (gw rfl rfl (beq_iff_eq.2 h18) (cs_ (v := .bool (within q.k 1 20)) (by kernel_rfl) rfl rfl rfl (fun w_ hs_ => spec_l1In w_ _ _ _) (vg (nt rfl rfl) rfl rfl (beq_iff_eq.2 h18) (vl (pk (b := true) rfl rfl (beq_iff_eq.2 h18) rfl) rfl (en (nx ?_)))))))))))))))))
                by_cases h21 : within q.k 1 20 = true
                · refine cf rfl (not_f h21) (sk (nx (sq (rg (a_ rfl rfl (en (nx (rt (ret1 rfl rfl (fun w_ hs_ => ⟨?_, hs_.below⟩))))))))))
                  exact ri (by grind [queryFault, hasRect, isDims])
                · refine ct rfl (not_t (Bool.eq_false_iff.2 h21)) (sq (rg (a_ rfl rfl (en (nx (rt (xr (ret1 rfl rfl (fun w_ hs_ => ⟨?_, hs_.below⟩)))))))))
                  exact ri (by grind [queryFault, hasRect, isDims])
              · refine ct rfl (bne_iff_ne.2 h20) (sq (rg (m_ rfl rfl (a_ rfl rfl (en (nx (rt (xr (ret1 rfl rfl (fun w_ hs_ => ⟨?_, hs_.below⟩))))))))))
                exact ri (by grind [queryFault, hasRect, isDims])
            · refine vg (fa rfl rfl rfl) rfl rfl (bne_iff_ne.2 h18) (vg (ldb (u := .int .i64 q.k) 0 rfl rfl rfl rfl rfl rfl rfl) rfl rfl (bne_iff_ne.2 h18) (vg (cm rfl rfl rfl rfl) rfl rfl (bne_iff_ne.2 h18) (vg (pk (b := true) rfl rfl (bne_iff_ne.2 h18) rfl) rfl rfl (decide_eq_false h17) (vl (pk (b := false) rfl rfl (decide_eq_false h17) rfl) rfl (en (nx ?_))))))
              by_cases h22 : q.k = (0 : Int)
              · refine cf rfl (bne_eq_false_iff_eq.2 h22) (sk (nx (sq (sq (rg (m_ rfl rfl (en (nx (cf rfl (beq_eq_false_iff_ne.2 h11) (sk (nx (sq (sq (rg (vl (fa rfl rfl rfl) rfl (vl (ldb (u := .slice Aq3 q.point.length cq3) 0 rfl rfl rfl rfl rfl rfl rfl) rfl (m_ rfl rfl ?_)))))))))))))))))
                refine gd 1 kQueryS_p3_1 rfl (cs' := [.slice Aq3 q.point.length cq3]) rfl fun s23 w_ rs23 us23 => ?_
                have Ls23 := Kd.sl_len rs23; have Cs23 := Kd.sl_cap rs23
                refine cs_ (v := .int .i64 (pointFault q.point dims)) (by kernel_rfl) rfl rfl rfl (fun w_ hs_ => spec_PointFault w_ _ (hs_.at 0 rfl)) (a_ rfl rfl (en (nx (sq (rg (m_ rfl rfl (vl (cm rfl rfl rfl rfl) rfl (en (nx ?_)))))))))
                by_cases h24 : (pointFault q.point dims) = (0 : Int)
                · refine cf rfl (bne_eq_false_iff_eq.2 h24) (sk (nx (sq (sq (rg (vl (fa rfl rfl rfl) rfl (vl (ldb (u := .int .i64 q.kind) 1 rfl rfl rfl rfl rfl rfl rfl) rfl (vl (cm rfl rfl rfl rfl) rfl (m_ rfl rfl (sg rfl rfl (beq_eq_false_iff_ne.2 h18) (sg rfl rfl (beq_eq_false_iff_ne.2 h18) (sg rfl rfl (beq_eq_false_iff_ne.2 h18) (sg rfl rfl (beq_eq_false_iff_ne.2 h18) (vl (pk (b := false) rfl rfl (beq_eq_false_iff_ne.2 h18) rfl) rfl (en (nx (cf rfl rfl (sk (nx (sq (rg (a_ rfl rfl (en (nx (rt (ret1 rfl rfl (fun w_ hs_ => ⟨?_, hs_.below⟩)))))))))))))))))))))))))))
                  exact ri (by grind [queryFault, hasRect, isDims])
                · refine ct rfl (bne_iff_ne.2 h24) (sq (rg (m_ rfl rfl (a_ rfl rfl (en (nx (rt (xr (ret1 rfl rfl (fun w_ hs_ => ⟨?_, hs_.below⟩))))))))))
                  exact ri (by grind [queryFault, hasRect, isDims])
              · refine ct rfl (bne_iff_ne.2 h22) (sq (rg (a_ rfl rfl (en (nx (rt (xr (ret1 rfl rfl (fun w_ hs_ => ⟨?_, hs_.below⟩)))))))))
                exact ri (by grind [queryFault, hasRect, isDims])
      · refine sg rfl rfl (not_t (Bool.eq_false_iff.2 h10)) (sg rfl rfl (not_t (Bool.eq_false_iff.2 h10)) (su rfl rfl (su rfl rfl (su rfl rfl (su rfl rfl (sg rfl rfl (not_t (Bool.eq_false_iff.2 h10)) (vl (pk (b := true) rfl rfl (not_t (Bool.eq_false_iff.2 h10)) rfl) rfl (m_ rfl rfl (sg rfl rfl rfl (sg rfl rfl rfl (sg rfl rfl rfl (su rfl rfl (su rfl rfl (su rfl rfl (su rfl rfl (su rfl rfl (su rfl rfl (su rfl rfl (su rfl rfl (su rfl rfl (su rfl rfl (sg rfl rfl rfl (vl (pk (b := true) rfl rfl rfl rfl) rfl (m_ rfl rfl (sg rfl rfl rfl (sg rfl rfl rfl (sg rfl rfl rfl (sg rfl rfl rfl (su rfl rfl (su rfl rfl (su rfl rfl (sg rfl rfl rfl (vl (pk (b := true) rfl rfl rfl rfl) rfl (en (nx (ct rfl rfl (sq (rg (a_ rfl rfl (en (nx (rt (xr (ret1 rfl rfl (fun w_ hs_ => ⟨?_, hs_.below⟩)))))))))))))))))))))))))))))))))))))))))))))
        exact ri (by grind [queryFault, hasRect, isDims])
  · refine ct rfl (not_t (Bool.eq_false_iff.2 h2)) (sq (rg (a_ rfl rfl (en (nx (rt (xr (ret1 rfl rfl (fun w_ hs_ => ⟨?_, hs_.below⟩)))))))))
    exact ri (by grind [queryFault, hasRect, isDims])
def szQuery (a : Query) : Int := szRect a.rect + (a.point.length : Int)
theorem szQuery_nn (a : Query) : 0 ≤ szQuery a := by have := szRect_nn a.rect; unfold szQuery; omega
def zQuery : Query := (⟨0, zRect, [], 0⟩ : Query)
/-! laws.eqQuery -/
set_option maxRecDepth 20000 in
set_option maxHeartbeats 2000000 in
theorem laws_eqQuery (w : World) {Aa1 : Option Addr} {ca1 : Nat} {Aa2 : Option Addr} {ca2 : Nat} {Aa3 : Option Addr} {ca3 : Nat} {a : Query} {sa_ : List Nat} (ha : kQueryS.Rel w [.int .i64 a.kind, .slice Aa1 a.rect.low.length ca1, .slice Aa2 a.rect.high.length ca2, .slice Aa3 a.point.length ca3, .int .i64 a.k] a [] sa_) {Ab1 : Option Addr} {cb1 : Nat} {Ab2 : Option Addr} {cb2 : Nat} {Ab3 : Option Addr} {cb3 : Nat} {b : Query} {sb_ : List Nat} (hb : kQueryS.Rel w [.int .i64 b.kind, .slice Ab1 b.rect.low.length cb1, .slice Ab2 b.rect.high.length cb2, .slice Ab3 b.point.length cb3, .int .i64 b.k] b [] sb_)  : Calls Tryz.prog 12 #[.agg #[.int .i64 a.kind, .slice Aa1 a.rect.low.length ca1, .slice Aa2 a.rect.high.length ca2, .slice Aa3 a.point.length ca3, .int .i64 a.k], .agg #[.int .i64 b.kind, .slice Ab1 b.rect.low.length cb1, .slice Ab2 b.rect.high.length cb2, .slice Ab3 b.point.length cb3, .int .i64 b.k]] w (fun e_ w2_ => e_ = .returned (.bool (decide (a = b))) ∧ Below w.heap.size w w2_) := by
  refine fnc (X := X16 27 w) (args := [.agg #[.int .i64 a.kind, .slice Aa1 a.rect.low.length ca1, .slice Aa2 a.rect.high.length ca2, .slice Aa3 a.point.length ca3, .int .i64 a.k], .agg #[.int .i64 b.kind, .slice Ab1 b.rect.low.length cb1, .slice Ab2 b.rect.high.length cb2, .slice Ab3 b.point.length cb3, .int .i64 b.k]]) (l := [(0, .agg #[.int .i64 a.kind, .slice Aa1 a.rect.low.length ca1, .slice Aa2 a.rect.high.length ca2, .slice Aa3 a.point.length ca3, .int .i64 a.k]), (1, .agg #[.int .i64 b.kind, .slice Ab1 b.rect.low.length cb1, .slice Ab2 b.rect.high.length cb2, .slice Ab3 b.point.length cb3, .int .i64 b.k])]) (G := [dat kQueryS [.int .i64 b.kind, .slice Ab1 b.rect.low.length cb1, .slice Ab2 b.rect.high.length cb2, .slice Ab3 b.point.length cb3, .int .i64 b.k] b ([]) sb_, dat kQueryS [.int .i64 a.kind, .slice Aa1 a.rect.low.length ca1, .slice Aa2 a.rect.high.length ca2, .slice Aa3 a.point.length ca3, .int .i64 a.k] a ([]) sa_]) Tryz.func12 rfl rfl rfl ⟨rfl, rfl, trivial⟩ (s0d hb (s0d ha (s0n w))).1 ?_
  refine sq (rg (bx rfl rfl rfl rfl ?_))
  intro b1
  refine bx rfl rfl rfl rfl ?_
  intro b2
  refine a_ rfl rfl (en (nx (sq (sq (rg (vl (fa rfl rfl rfl) rfl (vl (ldb (u := .int .i64 a.kind) 1 rfl rfl rfl rfl rfl rfl rfl) rfl (vl (fa rfl rfl rfl) rfl (vl (ldb (u := .int .i64 b.kind) 0 rfl rfl rfl rfl rfl rfl rfl) rfl (vl (cm rfl rfl rfl rfl) rfl (en (nx ?_))))))))))))
  by_cases h3 : a.kind = b.kind
  · refine cf rfl (bne_eq_false_iff_eq.2 h3) (sk (nx (sq (sq (rg (vl (fa rfl rfl rfl) rfl (vl (ldb 1 rfl rfl rfl rfl rfl rfl rfl) rfl (vl (fa rfl rfl rfl) rfl (vl (ldb 0 rfl rfl rfl rfl rfl rfl rfl) rfl ?_)))))))))
    refine gd 3 kQueryS_p1_2 rfl (cs' := [.slice Aa1 a.rect.low.length ca1, .slice Aa2 a.rect.high.length ca2]) rfl fun s4 w_ rs4 us4 => ?_
    refine gd 3 kQueryS_p1_2 rfl (cs' := [.slice Ab1 b.rect.low.length cb1, .slice Ab2 b.rect.high.length cb2]) rfl fun s5 w_ rs5 us5 => ?_
    refine cs_ (v := .bool (decide (a.rect = b.rect))) (by kernel_rfl) rfl rfl rfl (fun w_ hs_ => laws_eqRect w_ (hs_.at 1 rfl) (hs_.at 0 rfl)) (vl (nt rfl rfl) rfl (en (nx ?_)))
    by_cases h6 : decide (a.rect = b.rect) = true
    · refine cf rfl (not_f h6) (sk (nx (sq (sq (rg (vl (fa rfl rfl rfl) rfl (vl (ldb (u := .slice Aa3 a.point.length ca3) 3 rfl rfl rfl rfl rfl rfl rfl) rfl (vl (fa rfl rfl rfl) rfl (vl (ldb (u := .slice Ab3 b.point.length cb3) 2 rfl rfl rfl rfl rfl rfl rfl) rfl ?_)))))))))
      refine gd 5 kQueryS_p3_1 rfl (cs' := [.slice Aa3 a.point.length ca3]) rfl fun s7 w_ rs7 us7 => ?_
      have Ls7 := Kd.sl_len rs7; have Cs7 := Kd.sl_cap rs7
      refine gd 5 kQueryS_p3_1 rfl (cs' := [.slice Ab3 b.point.length cb3]) rfl fun s8 w_ rs8 us8 => ?_
      have Ls8 := Kd.sl_len rs8; have Cs8 := Kd.sl_cap rs8
      refine cs_ (v := .bool (decide (a.point = b.point))) (by kernel_rfl) rfl rfl rfl (fun w_ hs_ => laws_eqInt64S w_ (hs_.at 1 rfl) (hs_.at 0 rfl)) (vl (nt rfl rfl) rfl (en (nx ?_)))
      by_cases h9 : decide (a.point = b.point) = true
      · refine cf rfl (not_f h9) (sk (nx (sq (sq (rg (vl (fa rfl rfl rfl) rfl (vl (ldb (u := .int .i64 a.k) 5 rfl rfl rfl rfl rfl rfl rfl) rfl (vl (fa rfl rfl rfl) rfl (vl (ldb (u := .int .i64 b.k) 4 rfl rfl rfl rfl rfl rfl rfl) rfl (vl (cm rfl rfl rfl rfl) rfl (en (nx ?_))))))))))))
        by_cases h10 : a.k = b.k
        · refine cf rfl (bne_eq_false_iff_eq.2 h10) (sk (nx (sq (rg (a_ rfl rfl (en (nx (rt (ret1 rfl rfl (fun w_ hs_ => ⟨?_, hs_.below⟩))))))))))
          rw [Query_eq]; simp [h3, h6, h9, h10]
        · refine ct rfl (bne_iff_ne.2 h10) (sq (rg (a_ rfl rfl (en (nx (rt (xr (ret1 rfl rfl (fun w_ hs_ => ⟨?_, hs_.below⟩)))))))))
          rw [Query_eq]; simp [h3, h6, h9, h10]
      · refine ct rfl (not_t (Bool.eq_false_iff.2 h9)) (sq (rg (a_ rfl rfl (en (nx (rt (xr (ret1 rfl rfl (fun w_ hs_ => ⟨?_, hs_.below⟩)))))))))
        rw [Query_eq]; simp [h3, h6, h9]
    · refine ct rfl (not_t (Bool.eq_false_iff.2 h6)) (sq (rg (a_ rfl rfl (en (nx (rt (xr (ret1 rfl rfl (fun w_ hs_ => ⟨?_, hs_.below⟩)))))))))
      rw [Query_eq]; simp [h3, h6]
  · refine ct rfl (bne_iff_ne.2 h3) (sq (rg (a_ rfl rfl (en (nx (rt (xr (ret1 rfl rfl (fun w_ hs_ => ⟨?_, hs_.below⟩)))))))))
    rw [Query_eq]; simp [h3]
/-! laws.szQuery -/
set_option maxRecDepth 20000 in
set_option maxHeartbeats 2000000 in
theorem laws_szQuery (w : World) (left : Int) {Aa1 : Option Addr} {ca1 : Nat} {Aa2 : Option Addr} {ca2 : Nat} {Aa3 : Option Addr} {ca3 : Nat} {a : Query} {sa_ : List Nat} (ha : kQueryS.Rel w [.int .i64 a.kind, .slice Aa1 a.rect.low.length ca1, .slice Aa2 a.rect.high.length ca2, .slice Aa3 a.point.length ca3, .int .i64 a.k] a [] sa_) (h0 : 0 ≤ left) (h1 : left ≤ 1152921504606846976) : Calls Tryz.prog 5 #[.agg #[.int .i64 a.kind, .slice Aa1 a.rect.low.length ca1, .slice Aa2 a.rect.high.length ca2, .slice Aa3 a.point.length ca3, .int .i64 a.k], .int .i64 left] w (fun e_ w2_ => e_ = .returned (.int .i64 (szTake (szQuery a) left)) ∧ Below w.heap.size w w2_) := by
  have n0 := szRect_nn a.rect
  refine fnc (X := X16 18 w) (args := [.agg #[.int .i64 a.kind, .slice Aa1 a.rect.low.length ca1, .slice Aa2 a.rect.high.length ca2, .slice Aa3 a.point.length ca3, .int .i64 a.k], .int .i64 left]) (l := [(0, .agg #[.int .i64 a.kind, .slice Aa1 a.rect.low.length ca1, .slice Aa2 a.rect.high.length ca2, .slice Aa3 a.point.length ca3, .int .i64 a.k]), (1, .int .i64 left)]) (G := [dat kQueryS [.int .i64 a.kind, .slice Aa1 a.rect.low.length ca1, .slice Aa2 a.rect.high.length ca2, .slice Aa3 a.point.length ca3, .int .i64 a.k] a ([]) sa_]) Tryz.func5 rfl rfl rfl ⟨rfl, rfl, trivial⟩ (s0d ha (s0n w)).1 ?_
  refine sq (rg (bx rfl rfl rfl rfl ?_))
  intro b1
  refine a_ rfl rfl (en (nx (sq (rg (vl (fa rfl rfl rfl) rfl (vl (ldb 0 rfl rfl rfl rfl rfl rfl rfl) rfl (m_ rfl rfl ?_)))))))
  refine gd 1 kQueryS_p1_2 rfl (cs' := [.slice Aa1 a.rect.low.length ca1, .slice Aa2 a.rect.high.length ca2]) rfl fun s2 w_ rs2 us2 => ?_
  refine cs_ (v := .int .i64 (szTake (szRect a.rect) left)) (by kernel_rfl) rfl rfl rfl (fun w_ hs_ => laws_szRect w_ _ (hs_.at 0 rfl) (by omega) (by omega)) (a_ rfl rfl (en (nx (sq (sq (rg (m_ rfl rfl (vl (cm rfl rfl rfl rfl) rfl (en (nx ?_))))))))))
  by_cases h3 : (szTake (szRect a.rect) left) < (0 : Int)
  · have eh3 := szTake_t h3
    refine ct rfl (decide_eq_true h3) (sq (rg (a_ rfl rfl (en (nx (rt (xr (ret1 rfl rfl (fun w_ hs_ => ⟨?_, hs_.below⟩)))))))))
    exact ri (by unfold szTake szQuery; split <;> omega)
  · have eh3 := szTake_f h3
    refine cf rfl (decide_eq_false h3) (sk (nx (sq (rg (vl (fa rfl rfl rfl) rfl (vl (ldb (u := .slice Aa3 a.point.length ca3) 1 rfl rfl rfl rfl rfl rfl rfl) rfl (m_ rfl rfl ?_)))))))
    refine gd 2 kQueryS_p3_1 rfl (cs' := [.slice Aa3 a.point.length ca3]) rfl fun s4 w_ rs4 us4 => ?_
    have Ls4 := Kd.sl_len rs4; have Cs4 := Kd.sl_cap rs4
    refine cs_ (v := .int .i64 (szTake ((a.point.length : Nat) : Int) (szTake (szRect a.rect) left))) (by kernel_rfl) rfl rfl rfl (fun w_ hs_ => laws_szInt64S w_ _ (hs_.at 0 rfl) (by omega) (by omega)) (a_ rfl rfl (en (nx (sq (sq (rg (m_ rfl rfl (vl (cm rfl rfl rfl rfl) rfl (en (nx ?_))))))))))
    by_cases h5 : (szTake ((a.point.length : Nat) : Int) (szTake (szRect a.rect) left)) < (0 : Int)
    · have eh5 := szTake_t h5
      refine ct rfl (decide_eq_true h5) (sq (rg (a_ rfl rfl (en (nx (rt (xr (ret1 rfl rfl (fun w_ hs_ => ⟨?_, hs_.below⟩)))))))))
      exact ri (by unfold szTake szQuery; split <;> omega)
    · have eh5 := szTake_f h5
      refine cf rfl (decide_eq_false h5) (sk (nx (sq (rg (m_ rfl rfl (a_ rfl rfl (en (nx (rt (ret1 rfl rfl (fun w_ hs_ => ⟨?_, hs_.below⟩)))))))))))
      exact ri (by unfold szTake szQuery; split <;> omega)
/-! laws.toQuery -/
set_option maxRecDepth 20000 in
set_option maxHeartbeats 2000000 in
theorem laws_toQuery (w : World) {Aa1 : Option Addr} {ca1 : Nat} {Aa2 : Option Addr} {ca2 : Nat} {Aa3 : Option Addr} {ca3 : Nat} {a : Query} {sa_ : List Nat} (ha : kQueryS.Rel w [.int .i64 a.kind, .slice Aa1 a.rect.low.length ca1, .slice Aa2 a.rect.high.length ca2, .slice Aa3 a.point.length ca3, .int .i64 a.k] a [] sa_) (hz : szQuery a ≤ 1048576) : Calls Tryz.prog 8 #[.agg #[.int .i64 a.kind, .slice Aa1 a.rect.low.length ca1, .slice Aa2 a.rect.high.length ca2, .slice Aa3 a.point.length ca3, .int .i64 a.k]] w (Made kQueryO w a []) := by
  unfold szQuery at hz; have n0 := szRect_nn a.rect
  refine fnc (X := X16 19 w) (args := [.agg #[.int .i64 a.kind, .slice Aa1 a.rect.low.length ca1, .slice Aa2 a.rect.high.length ca2, .slice Aa3 a.point.length ca3, .int .i64 a.k]]) (l := [(0, .agg #[.int .i64 a.kind, .slice Aa1 a.rect.low.length ca1, .slice Aa2 a.rect.high.length ca2, .slice Aa3 a.point.length ca3, .int .i64 a.k])]) (G := [dat kQueryS [.int .i64 a.kind, .slice Aa1 a.rect.low.length ca1, .slice Aa2 a.rect.high.length ca2, .slice Aa3 a.point.length ca3, .int .i64 a.k] a ([]) sa_]) Tryz.func8 rfl rfl rfl ⟨rfl, trivial⟩ (s0d ha (s0n w)).1 ?_
  refine sq (rg (bx rfl rfl rfl rfl ?_))
  intro b1
  refine al zero48 rfl rfl rfl ?_
  intro b2
  refine en (nx (sq (rg (al zero48 rfl rfl rfl ?_))))
  intro b3
  refine en (nx (sq (rg (vl (fa rfl rfl rfl) rfl (vl (ldb (u := .int .i64 a.kind) 2 rfl rfl rfl rfl rfl rfl rfl) rfl (vl (fa rfl rfl rfl) rfl (sto rfl rfl rfl rfl rfl rfl rfl (cs' := [.int .i64 a.kind, .slice none 0 0, .slice none 0 0, .slice none 0 0, .int .i64 0]) rfl (en (nx (sq (rg (vl (fa rfl rfl rfl) rfl (vl (ldb 2 rfl rfl rfl rfl rfl rfl rfl) rfl ?_)))))))))))))
  refine gd 3 kQueryS_p1_2 rfl (cs' := [.slice Aa1 a.rect.low.length ca1, .slice Aa2 a.rect.high.length ca2]) rfl fun s4 w_ rs4 us4 => ?_
  refine cm_ (dk := kRectO) (x := a.rect) (S := []) (by kernel_rfl) rfl rfl rfl sn0 (fun w_ hs_ => laws_toRect w_ (hs_.at 0 rfl) (by omega)) (fun cs_ o9 s10 w_ r11 t12 => ?_)
  obtain ⟨A5, c6, A7, c8, rfl⟩ := kRectO_sh r11
  refine vl (fa rfl rfl rfl) rfl (f2 (sto rfl rfl rfl rfl rfl rfl rfl (cs' := [.int .i64 a.kind, .slice A5 a.rect.low.length c6, .slice A7 a.rect.high.length c8, .slice none 0 0, .int .i64 0]) rfl (en (nx (sq (rg (vl (fa rfl rfl rfl) rfl (vl (ldb (u := .slice Aa3 a.point.length ca3) 4 rfl rfl rfl rfl rfl rfl rfl) rfl ?_))))))))
  refine gd 5 kQueryS_p3_1 rfl (cs' := [.slice Aa3 a.point.length ca3]) rfl fun s14 w_ rs14 us14 => ?_
  have Ls14 := Kd.sl_len rs14; have Cs14 := Kd.sl_cap rs14
  refine cm_ (dk := (Kd.row 2 Kd.i64)) (x := a.point) (S := []) (by kernel_rfl) rfl rfl rfl sn0 (fun w_ hs_ => laws_toInt64S w_ (hs_.at 0 rfl) (by omega)) (fun cs_ o17 s18 w_ r19 t20 => ?_)
  obtain ⟨A15, c16, rfl⟩ := Kd.row_sh r19
  exact vl (fa rfl rfl rfl) rfl (f2 (sto rfl rfl rfl rfl rfl rfl rfl (cs' := [.int .i64 a.kind, .slice A5 a.rect.low.length c6, .slice A7 a.rect.high.length c8, .slice A15 a.point.length c16, .int .i64 0]) rfl (en (nx (sq (rg (vl (fa rfl rfl rfl) rfl (vl (ldb (u := .int .i64 a.k) 6 rfl rfl rfl rfl rfl rfl rfl) rfl (vl (fa rfl rfl rfl) rfl (sto rfl rfl rfl rfl rfl rfl rfl (cs' := [.int .i64 a.kind, .slice A5 a.rect.low.length c6, .slice A7 a.rect.high.length c8, .slice A15 a.point.length c16, .int .i64 a.k]) rfl (en (nx (sq (rg (vl (ldb 0 rfl rfl rfl rfl rfl rfl rfl) rfl (f5 (sto rfl rfl rfl rfl rfl rfl rfl (cs' := [.int .i64 a.kind, .slice A5 a.rect.low.length c6, .slice A7 a.rect.high.length c8, .slice A15 a.point.length c16, .int .i64 a.k]) rfl (en (nx (rt (gs Kd.i64 [.int .i64 a.k] a.k (fun _ => ⟨rfl, rfl, rfl⟩) (f3 (gj (da := (Kd.via (Kd.row 2 Kd.i64) Query.point)) (db := (Kd.via Kd.i64 Query.k)) (x := a) (cs := [.slice A15 a.point.length c16, .int .i64 a.k]) rfl (f4 (gj (da := (Kd.via kRectO Query.rect)) (db := ((Kd.via (Kd.row 2 Kd.i64) Query.point).cat (Kd.via Kd.i64 Query.k))) (x := a) (cs := [.slice A5 a.rect.low.length c6, .slice A7 a.rect.high.length c8, .slice A15 a.point.length c16, .int .i64 a.k]) rfl (gs Kd.i64 [.int .i64 a.kind] a.kind (fun _ => ⟨rfl, rfl, rfl⟩) (gj (da := (Kd.via Kd.i64 Query.kind)) (db := ((Kd.via kRectO Query.rect).cat ((Kd.via (Kd.row 2 Kd.i64) Query.point).cat (Kd.via Kd.i64 Query.k)))) (x := a) (cs := [.int .i64 a.kind, .slice A5 a.rect.low.length c6, .slice A7 a.rect.high.length c8, .slice A15 a.point.length c16, .int .i64 a.k]) rfl (retc 1 rfl rfl rfl rfl rfl rfl (fun w_ hs_ => made hs_ rfl (see_app see_nil (see_app t12 (see_app t20 see_nil))))))))))))))))))))))))))))))))
def mkV_Rect (k : Int) (a : Rect) : Rect := ⟨mkL mI cI (k) a.low, mkL mI cI (k + (a.low.length : Int)) a.high⟩
def cntV_Rect (a : Rect) : Int := 0 + (a.low.length : Int) + (a.high.length : Int)
theorem cntV_Rect_nn (a : Rect) : 0 ≤ cntV_Rect a := by
  unfold cntV_Rect; omega
def mkV_Query (k : Int) (a : Query) : Query := ⟨a.kind, ⟨mkL mI cI (k) a.rect.low, mkL mI cI (k + (a.rect.low.length : Int)) a.rect.high⟩, mkL mI cI (k + (a.rect.low.length : Int) + (a.rect.high.length : Int)) a.point, a.k⟩
def cntV_Query (a : Query) : Int := 0 + (a.rect.low.length : Int) + (a.rect.high.length : Int) + (a.point.length : Int)
theorem cntV_Query_nn (a : Query) : 0 ≤ cntV_Query a := by
  unfold cntV_Query; omega
/-! laws.markRect -/
set_option maxRecDepth 20000 in
set_option maxHeartbeats 2000000 in
theorem laws_markRect (w : World) (k : Int) {Aa0 : Option Addr} {ca0 : Nat} {Aa1 : Option Addr} {ca1 : Nat} {a : Rect} {oa_ sa_ : List Nat} (hst : St (nul w) w [dat kRectO [.slice Aa0 a.low.length ca0, .slice Aa1 a.high.length ca1] a oa_ sa_]) (hk0 : 0 ≤ k) (hk1 : k + (0 + (a.low.length : Int) + (a.high.length : Int)) ≤ 1152921504606846976) : Calls Tryz.prog 36 #[.agg #[.slice Aa0 a.low.length ca0, .slice Aa1 a.high.length ca1], .int .i64 k] w (TurnO kRectO [.slice Aa0 a.low.length ca0, .slice Aa1 a.high.length ca1] (.int .i64 (k + (a.low.length : Int) + (a.high.length : Int))) w oa_ (mkV_Rect k a) (sa_)) := by
  skip
  refine fnc (X := X16 14 (nul w)) (args := [.agg #[.slice Aa0 a.low.length ca0, .slice Aa1 a.high.length ca1], .int .i64 k]) (l := [(0, .agg #[.slice Aa0 a.low.length ca0, .slice Aa1 a.high.length ca1]), (1, .int .i64 k)]) (G := [frm w oa_, dat kRectO [.slice Aa0 a.low.length ca0, .slice Aa1 a.high.length ca1] a oa_ sa_]) Tryz.func36 rfl rfl rfl ⟨rfl, rfl, trivial⟩ (⟨hst.fr oa_ (by simp [owns, dat, ptr]), trivial⟩ : _ ∧ True).1 ?_
  refine f1 (gsp (da := (Kd.via (Kd.row 2 Kd.i64) Rect.low)) rfl rfl (fun o1 o2 s3 s4 us3 us4 => ?_))
  refine gv (f1 (gv ?_))
  refine sq (rg (bx rfl rfl rfl rfl ?_))
  intro b5
  refine a_ rfl rfl (en (nx (sq (rg (vl (fa rfl rfl rfl) rfl (vl (ldb (u := .slice Aa0 a.low.length ca0) 0 rfl rfl rfl rfl rfl rfl rfl) rfl (m_ rfl rfl (f2 (cto (dk := (Kd.row 2 Kd.i64)) (cs := [.slice Aa0 a.low.length ca0]) (x := (mkL mI cI k a.low)) (v := .int .i64 (k + ((a.low.length : Nat) : Int))) (S := (s3)) (by kernel_rfl) rfl rfl rfl (snt 0 rfl) w.heap.size (fun w_ hs_ => (hs_.mod 3 rfl).size) (fun w_ hs_ => laws_markInt64S w_ _ ((hs_.pk [0] rfl).nl) (by omega) (by omega)) (fun o6 s7 t8 => ?_))))))))))
  refine a_ rfl rfl (en (nx (sq (rg (vl (fa rfl rfl rfl) rfl (vl (ldb (u := .slice Aa1 a.high.length ca1) 1 rfl rfl rfl rfl rfl rfl rfl) rfl (m_ rfl rfl (f2 (cto (dk := (Kd.row 2 Kd.i64)) (cs := [.slice Aa1 a.high.length ca1]) (x := (mkL mI cI (k + ((a.low.length : Nat) : Int)) a.high)) (v := .int .i64 ((k + ((a.low.length : Nat) : Int)) + ((a.high.length : Nat) : Int))) (S := (s4)) (by kernel_rfl) rfl rfl rfl (snt 0 rfl) w.heap.size (fun w_ hs_ => (hs_.mod 3 rfl).size) (fun w_ hs_ => laws_markInt64S w_ _ ((hs_.pk [0] rfl).nl) (by omega) (by omega)) (fun o9 s10 t11 => ?_))))))))))
  exact a_ rfl rfl (en (nx (sq (rg (m_ rfl rfl (a_ rfl rfl (en (nx (rt (f1 (gj (da := (Kd.via (Kd.row 2 Kd.i64) Rect.low)) (db := (Kd.via (Kd.row 2 Kd.i64) Rect.high)) (x := (mkV_Rect k a)) (cs := [.slice Aa0 a.low.length ca0, .slice Aa1 a.high.length ca1]) rfl (ret1 rfl rfl (fun w_ hs_ => turno hs_ 1 rfl (by exact vi (by omega)) (see_app (by grind) (by grind)))))))))))))))
/-! laws.markQuery -/
set_option maxRecDepth 20000 in
set_option maxHeartbeats 2000000 in
theorem laws_markQuery (w : World) (k : Int) {Aa1 : Option Addr} {ca1 : Nat} {Aa2 : Option Addr} {ca2 : Nat} {Aa3 : Option Addr} {ca3 : Nat} {a : Query} {oa_ sa_ : List Nat} (hst : St (nul w) w [dat kQueryO [.int .i64 a.kind, .slice Aa1 a.rect.low.length ca1, .slice Aa2 a.rect.high.length ca2, .slice Aa3 a.point.length ca3, .int .i64 a.k] a oa_ sa_]) (hk0 : 0 ≤ k) (hk1 : k + (0 + (a.rect.low.length : Int) + (a.rect.high.length : Int) + (a.point.length : Int)) ≤ 1152921504606846976) : Calls Tryz.prog 14 #[.agg #[.int .i64 a.kind, .slice Aa1 a.rect.low.length ca1, .slice Aa2 a.rect.high.length ca2, .slice Aa3 a.point.length ca3, .int .i64 a.k], .int .i64 k] w (TurnO kQueryO [.int .i64 a.kind, .slice Aa1 a.rect.low.length ca1, .slice Aa2 a.rect.high.length ca2, .slice Aa3 a.point.length ca3, .int .i64 a.k] (.int .i64 (k + (a.rect.low.length : Int) + (a.rect.high.length : Int) + (a.point.length : Int))) w oa_ (mkV_Query k a) (sa_)) := by
  skip
  refine fnc (X := X16 14 (nul w)) (args := [.agg #[.int .i64 a.kind, .slice Aa1 a.rect.low.length ca1, .slice Aa2 a.rect.high.length ca2, .slice Aa3 a.point.length ca3, .int .i64 a.k], .int .i64 k]) (l := [(0, .agg #[.int .i64 a.kind, .slice Aa1 a.rect.low.length ca1, .slice Aa2 a.rect.high.length ca2, .slice Aa3 a.point.length ca3, .int .i64 a.k]), (1, .int .i64 k)]) (G := [frm w oa_, dat kQueryO [.int .i64 a.kind, .slice Aa1 a.rect.low.length ca1, .slice Aa2 a.rect.high.length ca2, .slice Aa3 a.point.length ca3, .int .i64 a.k] a oa_ sa_]) Tryz.func14 rfl rfl rfl ⟨rfl, rfl, trivial⟩ (⟨hst.fr oa_ (by simp [owns, dat, ptr]), trivial⟩ : _ ∧ True).1 ?_
  refine f1 (gsp (da := (Kd.via Kd.i64 Query.kind)) rfl rfl (fun o1 o2 s3 s4 us3 us4 => ?_))
  refine gv (f1 (gsp (da := (Kd.via kRectO Query.rect)) rfl rfl (fun o5 o6 s7 s8 us7 us8 => ?_)))
  refine gv (f1 (gsp (da := (Kd.via (Kd.row 2 Kd.i64) Query.point)) rfl rfl (fun o9 o10 s11 s12 us11 us12 => ?_)))
  refine gv (f1 (gv ?_))
  refine sq (rg (bx rfl rfl rfl rfl ?_))
  intro b13
  refine a_ rfl rfl (en (nx (sq (rg (vl (fa rfl rfl rfl) rfl (vl (ldb 0 rfl rfl rfl rfl rfl rfl rfl) rfl (m_ rfl rfl (f3 (cto (dk := kRectO) (cs := [.slice Aa1 a.rect.low.length ca1, .slice Aa2 a.rect.high.length ca2]) (x := (mkV_Rect k a.rect)) (v := .int .i64 (k + (a.rect.low.length : Int) + (a.rect.high.length : Int))) (S := (s7)) (by kernel_rfl) rfl rfl rfl (snt 0 rfl) w.heap.size (fun w_ hs_ => (hs_.mod 5 rfl).size) (fun w_ hs_ => laws_markRect w_ _ ((hs_.pk [0] rfl).nl) (by omega) (by omega)) (fun o14 s15 t16 => ?_))))))))))
  refine a_ rfl rfl (en (nx (sq (rg (vl (fa rfl rfl rfl) rfl (vl (ldb (u := .slice Aa3 a.point.length ca3) 1 rfl rfl rfl rfl rfl rfl rfl) rfl (m_ rfl rfl (f3 (cto (dk := (Kd.row 2 Kd.i64)) (cs := [.slice Aa3 a.point.length ca3]) (x := (mkL mI cI (k + (a.rect.low.length : Int) + (a.rect.high.length : Int)) a.point)) (v := .int .i64 ((k + (a.rect.low.length : Int) + (a.rect.high.length : Int)) + ((a.point.length : Nat) : Int))) (S := (s11)) (by kernel_rfl) rfl rfl rfl (snt 0 rfl) w.heap.size (fun w_ hs_ => (hs_.mod 5 rfl).size) (fun w_ hs_ => laws_markInt64S w_ _ ((hs_.pk [0] rfl).nl) (by omega) (by omega)) (fun o17 s18 t19 => ?_))))))))))
  exact a_ rfl rfl (en (nx (sq (rg (m_ rfl rfl (a_ rfl rfl (en (nx (rt (gs Kd.i64 [.int .i64 a.k] ((mkV_Query k a).k) (fun _ => ⟨rfl, rfl, rfl⟩) (f1 (gj (da := (Kd.via (Kd.row 2 Kd.i64) Query.point)) (db := (Kd.via Kd.i64 Query.k)) (x := (mkV_Query k a)) (cs := [.slice Aa3 a.point.length ca3, .int .i64 a.k]) rfl (f1 (gj (da := (Kd.via kRectO Query.rect)) (db := ((Kd.via (Kd.row 2 Kd.i64) Query.point).cat (Kd.via Kd.i64 Query.k))) (x := (mkV_Query k a)) (cs := [.slice Aa1 a.rect.low.length ca1, .slice Aa2 a.rect.high.length ca2, .slice Aa3 a.point.length ca3, .int .i64 a.k]) rfl (gs Kd.i64 [.int .i64 a.kind] ((mkV_Query k a).kind) (fun _ => ⟨rfl, rfl, rfl⟩) (gj (da := (Kd.via Kd.i64 Query.kind)) (db := ((Kd.via kRectO Query.rect).cat ((Kd.via (Kd.row 2 Kd.i64) Query.point).cat (Kd.via Kd.i64 Query.k)))) (x := (mkV_Query k a)) (cs := [.int .i64 a.kind, .slice Aa1 a.rect.low.length ca1, .slice Aa2 a.rect.high.length ca2, .slice Aa3 a.point.length ca3, .int .i64 a.k]) rfl (ret1 rfl rfl (fun w_ hs_ => turno hs_ 3 rfl (by exact vi (by omega)) (see_app see_nil (see_app (by grind) (see_app (by grind) see_nil)))))))))))))))))))))
end Go.Proofs.YtfaflffdekoimaaGreat.Sx
