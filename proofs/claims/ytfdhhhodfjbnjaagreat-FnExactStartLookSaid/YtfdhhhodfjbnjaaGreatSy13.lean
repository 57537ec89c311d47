/- What functions of the program answer, each at every input that its row names; walked through their code. -/
import Derived.Test.YtfdhhhodfjbnjaaGreatSy12
namespace Go.Proofs.YtfdhhhodfjbnjaaGreat.Sx
open Go Go.RowKit Go.Proofs
set_option linter.unusedVariables false
set_option linter.unusedSimpArgs false
def tab13 : Tab := { size := [(2, 1, false), (23, 1, false), (28, 8, true), (38, 8, true), (44, 2, true), (46, 5, true), (47, 1, false), (48, 1, false), (56, 2, true), (58, 5, true), (59, 1, false), (60, 1, false), (62, 7, true), (64, 8, true), (167, 3, true), (172, 3, true), (176, 3, true), (183, 3, true)], off := [((36, 0), 0), ((38, 1), 1), ((38, 2), 5), ((38, 3), 6), ((46, 0), 0), ((46, 1), 1), ((46, 2), 3), ((46, 3), 4), ((50, 0), 0), ((50, 1), 5), ((50, 2), 6), ((56, 0), 0), ((56, 1), 1), ((58, 0), 0), ((58, 1), 1), ((58, 2), 3), ((58, 3), 4), ((62, 0), 0), ((62, 1), 5), ((62, 2), 6), ((64, 0), 0), ((64, 1), 1), ((167, 0), 0), ((167, 1), 1), ((172, 0), 0), ((172, 1), 1), ((172, 2), 2), ((176, 0), 0), ((176, 1), 1), ((183, 0), 0), ((183, 1), 1), ((183, 2), 2)], elem := [(23, 2), (47, 183), (48, 167), (59, 172), (60, 176)] }
theorem tab_ok13 : tab13.check Tryz.prog = true := by kernel_rfl
noncomputable abbrev X13 (N : Nat) (w : World) : Cx := ⟨Tryz.prog, tab13, tab_ok13, wide, N, w, none, []⟩
theorem zero58 : (Tryz.prog.info? 58).bind (·.zero) = some (.agg #[.int .i64 0, .slice none 0 0, .slice none 0 0, .slice none 0 0, .int .i64 0]) := by kernel_rfl
theorem zero62 : (Tryz.prog.info? 62).bind (·.zero) = some (.agg #[.int .i64 0, .slice none 0 0, .slice none 0 0, .slice none 0 0, .int .i64 0, .slice none 0 0, .slice none 0 0]) := by kernel_rfl
theorem zero64 : (Tryz.prog.info? 64).bind (·.zero) = some (.agg #[.int .i64 0, .int .i64 0, .slice none 0 0, .slice none 0 0, .slice none 0 0, .int .i64 0, .slice none 0 0, .slice none 0 0]) := by kernel_rfl
theorem zero172 : (Tryz.prog.info? 172).bind (·.zero) = some (.agg #[.int .i64 0, .int .i64 0, .int .i64 0]) := by kernel_rfl
theorem zero176 : (Tryz.prog.info? 176).bind (·.zero) = some (.agg #[.int .i64 0, .slice none 0 0, .slice none 0 0]) := by kernel_rfl
theorem info172 : (Tryz.prog.info? 172).map (fun i => (i.zero, i.size, i.bytes)) = some (some (.agg #[.int .i64 0, .int .i64 0, .int .i64 0]), 3, 24) := by kernel_rfl
theorem bld62 : bld Tryz.prog 62 = some ([(0, 5), (5, 1), (6, 1)], [.int .i64 0, .slice none 0 0, .slice none 0 0, .slice none 0 0, .int .i64 0, .slice none 0 0, .slice none 0 0]) := by kernel_rfl
theorem bld64 : bld Tryz.prog 64 = some ([(0, 1), (1, 7)], [.int .i64 0, .int .i64 0, .slice none 0 0, .slice none 0 0, .slice none 0 0, .int .i64 0, .slice none 0 0, .slice none 0 0]) := by kernel_rfl
theorem bld172 : bld Tryz.prog 172 = some ([(0, 1), (1, 1), (2, 1)], [.int .i64 0, .int .i64 0, .int .i64 0]) := by kernel_rfl

structure Query where
  kind : Int
  rect : Rect
  point : List Int
  k : Int
  deriving DecidableEq
def kQueryS : Kd Query := ((Kd.i64.via Query.kind).cat ((kRectS.via Query.rect).cat (((Kd.sl Kd.i64).via Query.point).cat (Kd.i64.via Query.k))))
theorem kQueryS_sh {w : World} {cs : List Value} {x : Query} {o s : List Nat} (h : kQueryS.Rel w cs x o s) : ∃ (A1 : Option Addr) (c1 : Nat) (A2 : Option Addr) (c2 : Nat) (A3 : Option Addr) (c3 : Nat), cs = [.int .i64 x.kind, .slice A1 x.rect.low.length c1, .slice A2 x.rect.high.length c2, .slice A3 x.point.length c3, .int .i64 x.k] := by
  obtain ⟨c10, c20, o10, o20, s10, s20, rfl, rfl, rfl, h0, k0⟩ := h
  obtain ⟨rfl, -, -⟩ := h0
  obtain ⟨c11, c21, o11, o21, s11, s21, rfl, rfl, rfl, h1, k1⟩ := k0
  obtain ⟨_, _, _, _, rfl⟩ := kRectS_sh h1
  obtain ⟨c12, c22, o12, o22, s12, s22, rfl, rfl, rfl, h2, k2⟩ := k1
  obtain ⟨-, A2_, c2_, rfl, -⟩ := h2
  obtain ⟨rfl, -, -⟩ := k2
  exact ⟨_, _, _, _, _, _, rfl⟩
theorem kQueryS_p1_2 : Kd.Sub kQueryS 1 kRectS (fun x => x.rect) := (Kd.Sub.right (Kd.Sub.left (Kd.Sub.rfl.via Query.rect) _ (by decide)) _)
theorem kQueryS_p1_1 : Kd.Sub kQueryS 1 (Kd.sl Kd.i64) (fun x => x.rect.low) := (Kd.Sub.right (Kd.Sub.left (kRectS_p0_1.via Query.rect) _ (by decide)) _)
theorem kQueryS_p2_1 : Kd.Sub kQueryS 2 (Kd.sl Kd.i64) (fun x => x.rect.high) := (Kd.Sub.right (Kd.Sub.left (kRectS_p1_1.via Query.rect) _ (by decide)) _)
theorem kQueryS_p3_1 : Kd.Sub kQueryS 3 (Kd.sl Kd.i64) (fun x => x.point) := (Kd.Sub.right (Kd.Sub.right (Kd.Sub.left (Kd.Sub.rfl.via Query.point) _ (by decide)) _) _)
theorem kQueryS_self : Kd.Seals kQueryS kQueryS := (Kd.Seals.cat (Kd.Seals.via Kd.Seals.i64 _) (Kd.Seals.cat (Kd.Seals.via kRectS_self _) (Kd.Seals.cat (Kd.Seals.via Kd.Seals.refl_sl _) (Kd.Seals.via Kd.Seals.i64 _))))
theorem kQueryS_pure : Kd.Pure kQueryS := (Kd.Pure.cat (Kd.Pure.via Kd.Pure.i64 _) (Kd.Pure.cat (Kd.Pure.via kRectS_pure _) (Kd.Pure.cat (Kd.Pure.via (Kd.Pure.sl _) _) (Kd.Pure.via Kd.Pure.i64 _))))
def kQueryO : Kd Query := ((Kd.i64.via Query.kind).cat ((kRectO.via Query.rect).cat (((Kd.row 2 Kd.i64).via Query.point).cat (Kd.i64.via Query.k))))
theorem kQueryO_sh {w : World} {cs : List Value} {x : Query} {o s : List Nat} (h : kQueryO.Rel w cs x o s) : ∃ (A1 : Option Addr) (c1 : Nat) (A2 : Option Addr) (c2 : Nat) (A3 : Option Addr) (c3 : Nat), cs = [.int .i64 x.kind, .slice A1 x.rect.low.length c1, .slice A2 x.rect.high.length c2, .slice A3 x.point.length c3, .int .i64 x.k] := by
  obtain ⟨c10, c20, o10, o20, s10, s20, rfl, rfl, rfl, h0, k0⟩ := h
  obtain ⟨rfl, -, -⟩ := h0
  obtain ⟨c11, c21, o11, o21, s11, s21, rfl, rfl, rfl, h1, k1⟩ := k0
  obtain ⟨_, _, _, _, rfl⟩ := kRectO_sh h1
  obtain ⟨c12, c22, o12, o22, s12, s22, rfl, rfl, rfl, h2, k2⟩ := k1
  obtain ⟨A2_, c2_, rfl⟩ := Kd.row_sh h2
  obtain ⟨rfl, -, -⟩ := k2
  exact ⟨_, _, _, _, _, _, rfl⟩
theorem kQueryO_seal : Kd.Seals kQueryO kQueryS := (Kd.Seals.cat (Kd.Seals.via Kd.Seals.i64 _) (Kd.Seals.cat (Kd.Seals.via kRectO_seal _) (Kd.Seals.cat (Kd.Seals.via (Kd.Seals.row Kd.Seals.i64 _) _) (Kd.Seals.via Kd.Seals.i64 _))))
theorem Query_eq (a b : Query) : decide (a = b) = (decide (a.kind = b.kind) && decide (a.rect = b.rect) && decide (a.point = b.point) && decide (a.k = b.k)) := by
  cases a; cases b; rw [Bool.eq_iff_iff]; simp [and_assoc]
def rectEmpty (r : Rect) : Bool := decide ((r.low.length : Int) = 0) && decide ((r.high.length : Int) = 0)
theorem rectEmpty_f {r : Rect} (h : (0 : Int) < ((r.low.length : Nat) : Int) + ((r.high.length : Nat) : Int)) : rectEmpty r = false := by
  simp only [rectEmpty, Bool.and_eq_false_iff, decide_eq_false_iff_not]; omega
theorem rectEmpty_t {r : Rect} (h : ¬ (0 : Int) < ((r.low.length : Nat) : Int) + ((r.high.length : Nat) : Int)) : rectEmpty r = true := by
  simp only [rectEmpty, Bool.and_eq_true, decide_eq_true_eq]; omega
theorem rectEmpty_1 {r : Rect} (h : ¬ ((r.low.length : Nat) : Int) = (0 : Int)) : rectEmpty r = false := by
  simp only [rectEmpty, Bool.and_eq_false_iff, decide_eq_false_iff_not]; exact .inl h
theorem rectEmpty_2 {r : Rect} (h : ¬ ((r.high.length : Nat) : Int) = (0 : Int)) : rectEmpty r = false := by
  simp only [rectEmpty, Bool.and_eq_false_iff, decide_eq_false_iff_not]; exact .inr h
theorem rectEmpty_3 {r : Rect} (h1 : ((r.low.length : Nat) : Int) = (0 : Int)) (h2 : ((r.high.length : Nat) : Int) = (0 : Int)) : rectEmpty r = true := by
  simp only [rectEmpty, Bool.and_eq_true, decide_eq_true_eq]; exact ⟨h1, h2⟩
theorem rectEmpty_4 {r : Rect} : (((r.low.length : Nat) : Int) + ((r.high.length : Nat) : Int) == 0) = rectEmpty r := by
  rw [Bool.eq_iff_iff]; simp only [rectEmpty, Bool.and_eq_true, decide_eq_true_eq, beq_iff_eq]; omega
def hasRect (k : Int) : Bool := k == 1 || k == 2
def queryFault (q : Query) (dims : Int) : Int :=
  if isDims dims = true then
    if within q.kind 1 4 = true then
      if hasRect q.kind = true ∧ (0 : Int) < (q.point.length : Int) then 1 else
      if hasRect q.kind = false ∧ rectEmpty q.rect = false then 1 else
      if ¬ q.kind = 4 ∧ ¬ q.k = 0 then 1 else
      if hasRect q.kind = true then rectFault q.rect dims else
      if pointFault q.point dims = 0 then if q.kind = 4 ∧ within q.k 1 20 = false then 3 else 0 else pointFault q.point dims
    else 1
  else 3
/-! impl.hasRect -/
set_option maxRecDepth 20000 in
set_option maxHeartbeats 2000000 in
theorem impl_hasRect (w : World) (kind : Int)  : Calls Tryz.prog 145 #[.int .i64 kind] w (fun e_ w2_ => e_ = .returned (.bool (hasRect kind)) ∧ Below w.heap.size w w2_) := by
  refine fnc (X := X13 9 w) (args := [.int .i64 kind]) (l := [(0, .int .i64 kind)]) (G := []) Tryz.func145 rfl rfl rfl ⟨rfl, trivial⟩ (s0n w).1 ?_
  refine sq (rg (a_ rfl rfl (en (nx (sq (rg (m_ rfl rfl (vl (cm rfl rfl rfl rfl) rfl (m_ rfl rfl ?_)))))))))
  by_cases h1 : kind = (1 : Int)
  · refine sg rfl rfl (beq_iff_eq.2 h1) (sg rfl rfl (beq_iff_eq.2 h1) (vl (pk (b := true) rfl rfl (beq_iff_eq.2 h1) rfl) rfl (a_ rfl rfl (en (nx (rt (ret1 rfl rfl (fun w_ hs_ => ⟨?_, hs_.below⟩))))))))
    simp [hasRect, h1]
  · refine vg (mv rfl rfl) rfl rfl (beq_eq_false_iff_ne.2 h1) (vg (cm rfl rfl rfl rfl) rfl rfl (beq_eq_false_iff_ne.2 h1) (vl (pk (b := false) rfl rfl (beq_eq_false_iff_ne.2 h1) rfl) rfl (a_ rfl rfl (en (nx (rt (ret1 rfl rfl (fun w_ hs_ => ⟨?_, hs_.below⟩))))))))
    simp [hasRect, h1]
/-! impl.QueryFault -/
set_option maxRecDepth 20000 in
set_option maxHeartbeats 2000000 in
theorem impl_QueryFault (w : World) (dims : Int) {Aq1 : Option Addr} {cq1 : Nat} {Aq2 : Option Addr} {cq2 : Nat} {Aq3 : Option Addr} {cq3 : Nat} {q : Query} {sq_ : List Nat} (hq : kQueryS.Rel w [.int .i64 q.kind, .slice Aq1 q.rect.low.length cq1, .slice Aq2 q.rect.high.length cq2, .slice Aq3 q.point.length cq3, .int .i64 q.k] q [] sq_)  : Calls Tryz.prog 82 #[.agg #[.int .i64 q.kind, .slice Aq1 q.rect.low.length cq1, .slice Aq2 q.rect.high.length cq2, .slice Aq3 q.point.length cq3, .int .i64 q.k], .int .i64 dims] w (fun e_ w2_ => e_ = .returned (.int .i64 (queryFault q dims)) ∧ Below w.heap.size w w2_) := by
  refine fnc (X := X13 77 w) (args := [.agg #[.int .i64 q.kind, .slice Aq1 q.rect.low.length cq1, .slice Aq2 q.rect.high.length cq2, .slice Aq3 q.point.length cq3, .int .i64 q.k], .int .i64 dims]) (l := [(0, .agg #[.int .i64 q.kind, .slice Aq1 q.rect.low.length cq1, .slice Aq2 q.rect.high.length cq2, .slice Aq3 q.point.length cq3, .int .i64 q.k]), (1, .int .i64 dims)]) (G := [dat kQueryS [.int .i64 q.kind, .slice Aq1 q.rect.low.length cq1, .slice Aq2 q.rect.high.length cq2, .slice Aq3 q.point.length cq3, .int .i64 q.k] q ([]) sq_]) Tryz.func82 rfl rfl rfl ⟨rfl, rfl, trivial⟩ (s0d hq (s0n w)).1 ?_
  refine sq (rg (bx rfl rfl rfl rfl ?_))
  intro b1
  refine a_ rfl rfl (en (nx (sq (rg (vl (fa rfl rfl rfl) rfl (vl (fa rfl rfl rfl) rfl (vl (ldb (u := .slice Aq1 q.rect.low.length cq1) 0 rfl rfl rfl rfl rfl rfl rfl) rfl (vl (ln rfl rfl rfl) rfl (vl (cm rfl rfl rfl rfl) rfl (m_ rfl rfl ?_))))))))))
  by_cases h2 : ((q.rect.low.length : Nat) : Int) = (0 : Int)
  · refine vg (fa rfl rfl rfl) rfl rfl (beq_iff_eq.2 h2) (vg (fa rfl rfl rfl) rfl rfl (beq_iff_eq.2 h2) (vg (ldb (u := .slice Aq2 q.rect.high.length cq2) 0 rfl rfl rfl rfl rfl rfl rfl) rfl rfl (beq_iff_eq.2 h2) (vg (ln rfl rfl rfl) rfl rfl (beq_iff_eq.2 h2) (vg (cm rfl rfl rfl rfl) rfl rfl (beq_iff_eq.2 h2) (vl (pk (b := true) rfl rfl (beq_iff_eq.2 h2) rfl) rfl (a_ rfl rfl (en (nx (sq (bk (sq (rg (m_ rfl rfl (cs_ (v := .bool (isDims dims)) (by kernel_rfl) rfl rfl rfl (fun w_ hs_ => impl_isDims w_ _) (vl (nt rfl rfl) rfl (a_ rfl rfl (en (nx ?_))))))))))))))))))
    by_cases h3 : isDims dims = true
    · refine cf rfl (not_f h3) (sq (sq (rg (vl (fa rfl rfl rfl) rfl (vl (ldb (u := .int .i64 q.kind) 0 rfl rfl rfl rfl rfl rfl rfl) rfl (cs_ (v := .bool (within q.kind 1 4)) (by kernel_rfl) rfl rfl rfl (fun w_ hs_ => impl_within w_ _ _ _) (vl (nt rfl rfl) rfl (a_ rfl rfl (en (nx ?_))))))))))
      by_cases h4 : within q.kind 1 4 = true
      · refine cf rfl (not_f h4) (sq (rg (vl (fa rfl rfl rfl) rfl (vl (ldb (u := .int .i64 q.kind) 0 rfl rfl rfl rfl rfl rfl rfl) rfl (cs_ (v := .bool (hasRect q.kind)) (by kernel_rfl) rfl rfl rfl (fun w_ hs_ => impl_hasRect w_ _) (m_ rfl rfl ?_))))))
        by_cases h5 : hasRect q.kind = true
        · refine vg (fa rfl rfl rfl) rfl rfl h5 (vg (ldb (u := .slice Aq3 q.point.length cq3) 0 rfl rfl rfl rfl rfl rfl rfl) rfl rfl h5 (vg (ln rfl rfl rfl) rfl rfl h5 (vg (cm rfl rfl rfl rfl) rfl rfl h5 (vl (pk (b := true) rfl rfl h5 rfl) rfl (a_ rfl rfl (en (nx ?_)))))))
          by_cases h6 : (0 : Int) < ((q.point.length : Nat) : Int)
          · refine ct rfl (decide_eq_true h6) (sk (nx (ct rfl (decide_eq_true h6) (sq (rg (a_ rfl rfl (en (nx (rt (xrb (xr (ret1 rfl rfl (fun w_ hs_ => ⟨?_, hs_.below⟩)))))))))))))
            exact ri (by grind [queryFault])
          · refine cf rfl (decide_eq_false h6) (sq (rg (vl (fa rfl rfl rfl) rfl (vl (ldb (u := .int .i64 q.kind) 0 rfl rfl rfl rfl rfl rfl rfl) rfl (cs_ (v := .bool (hasRect q.kind)) (by kernel_rfl) rfl rfl rfl (fun w_ hs_ => impl_hasRect w_ _) (vl (nt rfl rfl) rfl (m_ rfl rfl (sg rfl rfl (not_f h5) (sg rfl rfl (not_f h5) (vl (pk (b := false) rfl rfl (not_f h5) rfl) rfl (a_ rfl rfl (en (nx (cf rfl rfl (rg (vl (fa rfl rfl rfl) rfl (vl (ldb (u := .int .i64 q.kind) 0 rfl rfl rfl rfl rfl rfl rfl) rfl (vl (cm rfl rfl rfl rfl) rfl (m_ rfl rfl ?_)))))))))))))))))))
            by_cases h7 : q.kind = (4 : Int)
            · refine sg rfl rfl (bne_eq_false_iff_eq.2 h7) (sg rfl rfl (bne_eq_false_iff_eq.2 h7) (sg rfl rfl (bne_eq_false_iff_eq.2 h7) (vl (pk (b := false) rfl rfl (bne_eq_false_iff_eq.2 h7) rfl) rfl (a_ rfl rfl (en (nx (cf rfl rfl (sq (rg (vl (fa rfl rfl rfl) rfl (vl (ldb (u := .int .i64 q.kind) 0 rfl rfl rfl rfl rfl rfl rfl) rfl (cs_ (v := .bool (hasRect q.kind)) (by kernel_rfl) rfl rfl rfl (fun w_ hs_ => impl_hasRect w_ _) (a_ rfl rfl (en (nx (ct rfl h5 (sq (rg (vl (fa rfl rfl rfl) rfl (vl (ldb 0 rfl rfl rfl rfl rfl rfl rfl) rfl (m_ rfl rfl ?_)))))))))))))))))))))
              refine gd 1 kQueryS_p1_2 rfl (cs' := [.slice Aq1 q.rect.low.length cq1, .slice Aq2 q.rect.high.length cq2]) rfl fun s8 w_ rs8 us8 => ?_
              refine cs_ (v := .int .i64 (rectFault q.rect dims)) (by kernel_rfl) rfl rfl rfl (fun w_ hs_ => impl_RectFault w_ _ (hs_.at 0 rfl)) (a_ rfl rfl (en (nx (rt (xrb (xr (ret1 rfl rfl (fun w_ hs_ => ⟨?_, hs_.below⟩))))))))
              exact ri (by grind [queryFault])
            · refine vg (fa rfl rfl rfl) rfl rfl (bne_iff_ne.2 h7) (vg (ldb (u := .int .i64 q.k) 0 rfl rfl rfl rfl rfl rfl rfl) rfl rfl (bne_iff_ne.2 h7) (vg (cm rfl rfl rfl rfl) rfl rfl (bne_iff_ne.2 h7) (vl (pk (b := true) rfl rfl (bne_iff_ne.2 h7) rfl) rfl (a_ rfl rfl (en (nx ?_))))))
              by_cases h9 : q.k = (0 : Int)
              · refine cf rfl (bne_eq_false_iff_eq.2 h9) (sq (rg (vl (fa rfl rfl rfl) rfl (vl (ldb (u := .int .i64 q.kind) 0 rfl rfl rfl rfl rfl rfl rfl) rfl (cs_ (v := .bool (hasRect q.kind)) (by kernel_rfl) rfl rfl rfl (fun w_ hs_ => impl_hasRect w_ _) (a_ rfl rfl (en (nx (ct rfl h5 (sq (rg (vl (fa rfl rfl rfl) rfl (vl (ldb 0 rfl rfl rfl rfl rfl rfl rfl) rfl (m_ rfl rfl ?_))))))))))))))
                refine gd 1 kQueryS_p1_2 rfl (cs' := [.slice Aq1 q.rect.low.length cq1, .slice Aq2 q.rect.high.length cq2]) rfl fun s10 w_ rs10 us10 => ?_
                refine cs_ (v := .int .i64 (rectFault q.rect dims)) (by kernel_rfl) rfl rfl rfl (fun w_ hs_ => impl_RectFault w_ _ (hs_.at 0 rfl)) (a_ rfl rfl (en (nx (rt (xrb (xr (ret1 rfl rfl (fun w_ hs_ => ⟨?_, hs_.below⟩))))))))
                exact ri (by grind [queryFault])
              · refine ct rfl (bne_iff_ne.2 h9) (sq (rg (a_ rfl rfl (en (nx (rt (xrb (xr (ret1 rfl rfl (fun w_ hs_ => ⟨?_, hs_.below⟩))))))))))
                exact ri (by grind [queryFault])
        · refine sg rfl rfl (Bool.eq_false_iff.2 h5) (sg rfl rfl (Bool.eq_false_iff.2 h5) (sg rfl rfl (Bool.eq_false_iff.2 h5) (sg rfl rfl (Bool.eq_false_iff.2 h5) (vl (pk (b := false) rfl rfl (Bool.eq_false_iff.2 h5) rfl) rfl (a_ rfl rfl (en (nx (cf rfl rfl (sq (rg (vl (fa rfl rfl rfl) rfl (vl (ldb (u := .int .i64 q.kind) 0 rfl rfl rfl rfl rfl rfl rfl) rfl (cs_ (v := .bool (hasRect q.kind)) (by kernel_rfl) rfl rfl rfl (fun w_ hs_ => impl_hasRect w_ _) (vl (nt rfl rfl) rfl (m_ rfl rfl (vg (mv rfl rfl) rfl rfl (not_t (Bool.eq_false_iff.2 h5)) (vg (nt rfl rfl) rfl rfl (not_t (Bool.eq_false_iff.2 h5)) (vl (pk (b := true) rfl rfl (not_t (Bool.eq_false_iff.2 h5)) rfl) rfl (a_ rfl rfl (en (nx ?_)))))))))))))))))))))
          by_cases h11 : ((q.rect.high.length : Nat) : Int) = (0 : Int)
          · have gh11 := rectEmpty_3 (r := q.rect) h2 h11
            refine cf rfl (not_f (beq_iff_eq.2 h11)) (rg (vl (fa rfl rfl rfl) rfl (vl (ldb (u := .int .i64 q.kind) 0 rfl rfl rfl rfl rfl rfl rfl) rfl (vl (cm rfl rfl rfl rfl) rfl (m_ rfl rfl ?_)))))
            by_cases h12 : q.kind = (4 : Int)
            · refine sg rfl rfl (bne_eq_false_iff_eq.2 h12) (sg rfl rfl (bne_eq_false_iff_eq.2 h12) (sg rfl rfl (bne_eq_false_iff_eq.2 h12) (vl (pk (b := false) rfl rfl (bne_eq_false_iff_eq.2 h12) rfl) rfl (a_ rfl rfl (en (nx (cf rfl rfl (sq (rg (vl (fa rfl rfl rfl) rfl (vl (ldb (u := .int .i64 q.kind) 0 rfl rfl rfl rfl rfl rfl rfl) rfl (cs_ (v := .bool (hasRect q.kind)) (by kernel_rfl) rfl rfl rfl (fun w_ hs_ => impl_hasRect w_ _) (a_ rfl rfl (en (nx (cf rfl (Bool.eq_false_iff.2 h5) (sk (xn (nx (sq (sq (rg (vl (fa rfl rfl rfl) rfl (vl (ldb (u := .slice Aq3 q.point.length cq3) 0 rfl rfl rfl rfl rfl rfl rfl) rfl (m_ rfl rfl ?_)))))))))))))))))))))))))
              refine gd 1 kQueryS_p3_1 rfl (cs' := [.slice Aq3 q.point.length cq3]) rfl fun s13 w_ rs13 us13 => ?_
              have Ls13 := Kd.sl_len rs13; have Cs13 := Kd.sl_cap rs13
              refine cs_ (v := .int .i64 (pointFault q.point dims)) (by kernel_rfl) rfl rfl rfl (fun w_ hs_ => impl_PointFault w_ _ (hs_.at 0 rfl)) (a_ rfl rfl (en (nx (sq (rg (m_ rfl rfl (vl (cm rfl rfl rfl rfl) rfl (en (nx ?_)))))))))
              by_cases h14 : (pointFault q.point dims) = (0 : Int)
              · refine cf rfl (bne_eq_false_iff_eq.2 h14) (sk (nx (sq (sq (rg (vl (fa rfl rfl rfl) rfl (vl (ldb (u := .int .i64 q.kind) 1 rfl rfl rfl rfl rfl rfl rfl) rfl (vl (cm rfl rfl rfl rfl) rfl (m_ rfl rfl (vg (fa rfl rfl rfl) rfl rfl (beq_iff_eq.2 h12) (vg (ldb (u := .int .i64 q.k) 1 rfl rfl rfl rfl rfl rfl rfl) rfl rfl (beq_iff_eq.2 h12) (gw rfl rfl (beq_iff_eq.2 h12) (cs_ (v := .bool (within q.k 1 20)) (by kernel_rfl) rfl rfl rfl (fun w_ hs_ => impl_within w_ _ _ _) (vg (nt rfl rfl) rfl rfl (beq_iff_eq.2 h12) (vl (pk (b := true) rfl rfl (beq_iff_eq.2 h12) rfl) rfl (en (nx ?_)))))))))))))))))
                by_cases h15 : within q.k 1 20 = true
                · refine cf rfl (not_f h15) (sk (nx (sq (rg (a_ rfl rfl (en (nx (rt (ret1 rfl rfl (fun w_ hs_ => ⟨?_, hs_.below⟩))))))))))
                  exact ri (by grind [queryFault])
                · refine ct rfl (not_t (Bool.eq_false_iff.2 h15)) (sq (rg (a_ rfl rfl (en (nx (rt (xr (ret1 rfl rfl (fun w_ hs_ => ⟨?_, hs_.below⟩)))))))))
                  exact ri (by grind [queryFault])
              · refine ct rfl (bne_iff_ne.2 h14) (sq (rg (m_ rfl rfl (a_ rfl rfl (en (nx (rt (xr (ret1 rfl rfl (fun w_ hs_ => ⟨?_, hs_.below⟩))))))))))
                exact ri (by grind [queryFault])
            · refine vg (fa rfl rfl rfl) rfl rfl (bne_iff_ne.2 h12) (vg (ldb (u := .int .i64 q.k) 0 rfl rfl rfl rfl rfl rfl rfl) rfl rfl (bne_iff_ne.2 h12) (vg (cm rfl rfl rfl rfl) rfl rfl (bne_iff_ne.2 h12) (vl (pk (b := true) rfl rfl (bne_iff_ne.2 h12) rfl) rfl (a_ rfl rfl (en (nx ?_))))))
              by_cases h16 : q.k = (0 : Int)
              · refine cf rfl (bne_eq_false_iff_eq.2 h16) (sq (rg (vl (fa rfl rfl rfl) rfl (vl (ldb (u := .int .i64 q.kind) 0 rfl rfl rfl rfl rfl rfl rfl) rfl (cs_ (v := .bool (hasRect q.kind)) (by kernel_rfl) rfl rfl rfl (fun w_ hs_ => impl_hasRect w_ _) (a_ rfl rfl (en (nx (cf rfl (Bool.eq_false_iff.2 h5) (sk (xn (nx (sq (sq (rg (vl (fa rfl rfl rfl) rfl (vl (ldb (u := .slice Aq3 q.point.length cq3) 0 rfl rfl rfl rfl rfl rfl rfl) rfl (m_ rfl rfl ?_))))))))))))))))))
                refine gd 1 kQueryS_p3_1 rfl (cs' := [.slice Aq3 q.point.length cq3]) rfl fun s17 w_ rs17 us17 => ?_
                have Ls17 := Kd.sl_len rs17; have Cs17 := Kd.sl_cap rs17
                refine cs_ (v := .int .i64 (pointFault q.point dims)) (by kernel_rfl) rfl rfl rfl (fun w_ hs_ => impl_PointFault w_ _ (hs_.at 0 rfl)) (a_ rfl rfl (en (nx (sq (rg (m_ rfl rfl (vl (cm rfl rfl rfl rfl) rfl (en (nx ?_)))))))))
                by_cases h18 : (pointFault q.point dims) = (0 : Int)
                · refine cf rfl (bne_eq_false_iff_eq.2 h18) (sk (nx (sq (sq (rg (vl (fa rfl rfl rfl) rfl (vl (ldb (u := .int .i64 q.kind) 1 rfl rfl rfl rfl rfl rfl rfl) rfl (vl (cm rfl rfl rfl rfl) rfl (m_ rfl rfl (sg rfl rfl (beq_eq_false_iff_ne.2 h12) (sg rfl rfl (beq_eq_false_iff_ne.2 h12) (sg rfl rfl (beq_eq_false_iff_ne.2 h12) (sg rfl rfl (beq_eq_false_iff_ne.2 h12) (vl (pk (b := false) rfl rfl (beq_eq_false_iff_ne.2 h12) rfl) rfl (en (nx (cf rfl rfl (sk (nx (sq (rg (a_ rfl rfl (en (nx (rt (ret1 rfl rfl (fun w_ hs_ => ⟨?_, hs_.below⟩)))))))))))))))))))))))))))
                  exact ri (by grind [queryFault])
                · refine ct rfl (bne_iff_ne.2 h18) (sq (rg (m_ rfl rfl (a_ rfl rfl (en (nx (rt (xr (ret1 rfl rfl (fun w_ hs_ => ⟨?_, hs_.below⟩))))))))))
                  exact ri (by grind [queryFault])
              · refine ct rfl (bne_iff_ne.2 h16) (sq (rg (a_ rfl rfl (en (nx (rt (xrb (xr (ret1 rfl rfl (fun w_ hs_ => ⟨?_, hs_.below⟩))))))))))
                exact ri (by grind [queryFault])
          · have gh11 := rectEmpty_2 (r := q.rect) h11
            refine ct rfl (not_t (beq_eq_false_iff_ne.2 h11)) (sk (nx (ct rfl (not_t (beq_eq_false_iff_ne.2 h11)) (sq (rg (a_ rfl rfl (en (nx (rt (xrb (xr (ret1 rfl rfl (fun w_ hs_ => ⟨?_, hs_.below⟩)))))))))))))
            exact ri (by grind [queryFault])
      · refine ct rfl (not_t (Bool.eq_false_iff.2 h4)) (sk (nx (ct rfl (not_t (Bool.eq_false_iff.2 h4)) (sq (rg (a_ rfl rfl (en (nx (rt (xrb (xr (ret1 rfl rfl (fun w_ hs_ => ⟨?_, hs_.below⟩)))))))))))))
        exact ri (by grind [queryFault])
    · refine ct rfl (not_t (Bool.eq_false_iff.2 h3)) (sq (rg (a_ rfl rfl (en (nx (rt (xrb (xr (ret1 rfl rfl (fun w_ hs_ => ⟨?_, hs_.below⟩))))))))))
      exact ri (by grind [queryFault])
  · have gh2 := rectEmpty_1 (r := q.rect) h2
    refine sg rfl rfl (beq_eq_false_iff_ne.2 h2) (sg rfl rfl (beq_eq_false_iff_ne.2 h2) (sg rfl rfl (beq_eq_false_iff_ne.2 h2) (sg rfl rfl (beq_eq_false_iff_ne.2 h2) (sg rfl rfl (beq_eq_false_iff_ne.2 h2) (vl (pk (b := false) rfl rfl (beq_eq_false_iff_ne.2 h2) rfl) rfl (a_ rfl rfl (en (nx (sq (bk (sq (rg (m_ rfl rfl (cs_ (v := .bool (isDims dims)) (by kernel_rfl) rfl rfl rfl (fun w_ hs_ => impl_isDims w_ _) (vl (nt rfl rfl) rfl (a_ rfl rfl (en (nx ?_))))))))))))))))))
    by_cases h19 : isDims dims = true
    · refine cf rfl (not_f h19) (sq (sq (rg (vl (fa rfl rfl rfl) rfl (vl (ldb (u := .int .i64 q.kind) 0 rfl rfl rfl rfl rfl rfl rfl) rfl (cs_ (v := .bool (within q.kind 1 4)) (by kernel_rfl) rfl rfl rfl (fun w_ hs_ => impl_within w_ _ _ _) (vl (nt rfl rfl) rfl (a_ rfl rfl (en (nx ?_))))))))))
      by_cases h20 : within q.kind 1 4 = true
      · refine cf rfl (not_f h20) (sq (rg (vl (fa rfl rfl rfl) rfl (vl (ldb (u := .int .i64 q.kind) 0 rfl rfl rfl rfl rfl rfl rfl) rfl (cs_ (v := .bool (hasRect q.kind)) (by kernel_rfl) rfl rfl rfl (fun w_ hs_ => impl_hasRect w_ _) (m_ rfl rfl ?_))))))
        by_cases h21 : hasRect q.kind = true
        · refine vg (fa rfl rfl rfl) rfl rfl h21 (vg (ldb (u := .slice Aq3 q.point.length cq3) 0 rfl rfl rfl rfl rfl rfl rfl) rfl rfl h21 (vg (ln rfl rfl rfl) rfl rfl h21 (vg (cm rfl rfl rfl rfl) rfl rfl h21 (vl (pk (b := true) rfl rfl h21 rfl) rfl (a_ rfl rfl (en (nx ?_)))))))
          by_cases h22 : (0 : Int) < ((q.point.length : Nat) : Int)
          · refine ct rfl (decide_eq_true h22) (sk (nx (ct rfl (decide_eq_true h22) (sq (rg (a_ rfl rfl (en (nx (rt (xrb (xr (ret1 rfl rfl (fun w_ hs_ => ⟨?_, hs_.below⟩)))))))))))))
            exact ri (by grind [queryFault])
          · refine cf rfl (decide_eq_false h22) (sq (rg (vl (fa rfl rfl rfl) rfl (vl (ldb (u := .int .i64 q.kind) 0 rfl rfl rfl rfl rfl rfl rfl) rfl (cs_ (v := .bool (hasRect q.kind)) (by kernel_rfl) rfl rfl rfl (fun w_ hs_ => impl_hasRect w_ _) (vl (nt rfl rfl) rfl (m_ rfl rfl (sg rfl rfl (not_f h21) (sg rfl rfl (not_f h21) (vl (pk (b := false) rfl rfl (not_f h21) rfl) rfl (a_ rfl rfl (en (nx (cf rfl rfl (rg (vl (fa rfl rfl rfl) rfl (vl (ldb (u := .int .i64 q.kind) 0 rfl rfl rfl rfl rfl rfl rfl) rfl (vl (cm rfl rfl rfl rfl) rfl (m_ rfl rfl ?_)))))))))))))))))))
            by_cases h23 : q.kind = (4 : Int)
            · refine sg rfl rfl (bne_eq_false_iff_eq.2 h23) (sg rfl rfl (bne_eq_false_iff_eq.2 h23) (sg rfl rfl (bne_eq_false_iff_eq.2 h23) (vl (pk (b := false) rfl rfl (bne_eq_false_iff_eq.2 h23) rfl) rfl (a_ rfl rfl (en (nx (cf rfl rfl (sq (rg (vl (fa rfl rfl rfl) rfl (vl (ldb (u := .int .i64 q.kind) 0 rfl rfl rfl rfl rfl rfl rfl) rfl (cs_ (v := .bool (hasRect q.kind)) (by kernel_rfl) rfl rfl rfl (fun w_ hs_ => impl_hasRect w_ _) (a_ rfl rfl (en (nx (ct rfl h21 (sq (rg (vl (fa rfl rfl rfl) rfl (vl (ldb 0 rfl rfl rfl rfl rfl rfl rfl) rfl (m_ rfl rfl ?_)))))))))))))))))))))
              refine gd 1 kQueryS_p1_2 rfl (cs' := [.slice Aq1 q.rect.low.length cq1, .slice Aq2 q.rect.high.length cq2]) rfl fun s24 w_ rs24 us24 => ?_
              refine cs_ (v := .int .i64 (rectFault q.rect dims)) (by kernel_rfl) rfl rfl rfl (fun w_ hs_ => impl_RectFault w_ _ (hs_.at 0 rfl)) (a_ rfl rfl (en (nx (rt (xrb (xr (ret1 rfl rfl (fun w_ hs_ => ⟨?_, hs_.below⟩))))))))
              exact ri (by grind [queryFault])
            · refine vg (fa rfl rfl rfl) rfl rfl (bne_iff_ne.2 h23) (vg (ldb (u := .int .i64 q.k) 0 rfl rfl rfl rfl rfl rfl rfl) rfl rfl (bne_iff_ne.2 h23) (vg (cm rfl rfl rfl rfl) rfl rfl (bne_iff_ne.2 h23) (vl (pk (b := true) rfl rfl (bne_iff_ne.2 h23) rfl) rfl (a_ rfl rfl (en (nx ?_))))))
              by_cases h25 : q.k = (0 : Int)
              · refine cf rfl (bne_eq_false_iff_eq.2 h25) (sq (rg (vl (fa rfl rfl rfl) rfl (vl (ldb (u := .int .i64 q.kind) 0 rfl rfl rfl rfl rfl rfl rfl) rfl (cs_ (v := .bool (hasRect q.kind)) (by kernel_rfl) rfl rfl rfl (fun w_ hs_ => impl_hasRect w_ _) (a_ rfl rfl (en (nx (ct rfl h21 (sq (rg (vl (fa rfl rfl rfl) rfl (vl (ldb 0 rfl rfl rfl rfl rfl rfl rfl) rfl (m_ rfl rfl ?_))))))))))))))
                refine gd 1 kQueryS_p1_2 rfl (cs' := [.slice Aq1 q.rect.low.length cq1, .slice Aq2 q.rect.high.length cq2]) rfl fun s26 w_ rs26 us26 => ?_
                refine cs_ (v := .int .i64 (rectFault q.rect dims)) (by kernel_rfl) rfl rfl rfl (fun w_ hs_ => impl_RectFault w_ _ (hs_.at 0 rfl)) (a_ rfl rfl (en (nx (rt (xrb (xr (ret1 rfl rfl (fun w_ hs_ => ⟨?_, hs_.below⟩))))))))
                exact ri (by grind [queryFault])
              · refine ct rfl (bne_iff_ne.2 h25) (sq (rg (a_ rfl rfl (en (nx (rt (xrb (xr (ret1 rfl rfl (fun w_ hs_ => ⟨?_, hs_.below⟩))))))))))
                exact ri (by grind [queryFault])
        · refine sg rfl rfl (Bool.eq_false_iff.2 h21) (sg rfl rfl (Bool.eq_false_iff.2 h21) (sg rfl rfl (Bool.eq_false_iff.2 h21) (sg rfl rfl (Bool.eq_false_iff.2 h21) (vl (pk (b := false) rfl rfl (Bool.eq_false_iff.2 h21) rfl) rfl (a_ rfl rfl (en (nx (cf rfl rfl (sq (rg (vl (fa rfl rfl rfl) rfl (vl (ldb (u := .int .i64 q.kind) 0 rfl rfl rfl rfl rfl rfl rfl) rfl (cs_ (v := .bool (hasRect q.kind)) (by kernel_rfl) rfl rfl rfl (fun w_ hs_ => impl_hasRect w_ _) (vl (nt rfl rfl) rfl (m_ rfl rfl (vg (mv rfl rfl) rfl rfl (not_t (Bool.eq_false_iff.2 h21)) (vg (nt rfl rfl) rfl rfl (not_t (Bool.eq_false_iff.2 h21)) (vl (pk (b := true) rfl rfl (not_t (Bool.eq_false_iff.2 h21)) rfl) rfl (a_ rfl rfl (en (nx (ct rfl rfl (sk (nx (ct rfl rfl (sq (rg (a_ rfl rfl (en (nx (rt (xrb (xr (ret1 rfl rfl (fun w_ hs_ => ⟨?_, hs_.below⟩)))))))))))))))))))))))))))))))))))
          exact ri (by grind [queryFault])
      · refine ct rfl (not_t (Bool.eq_false_iff.2 h20)) (sk (nx (ct rfl (not_t (Bool.eq_false_iff.2 h20)) (sq (rg (a_ rfl rfl (en (nx (rt (xrb (xr (ret1 rfl rfl (fun w_ hs_ => ⟨?_, hs_.below⟩)))))))))))))
        exact ri (by grind [queryFault])
    · refine ct rfl (not_t (Bool.eq_false_iff.2 h19)) (sq (rg (a_ rfl rfl (en (nx (rt (xrb (xr (ret1 rfl rfl (fun w_ hs_ => ⟨?_, hs_.below⟩))))))))))
      exact ri (by grind [queryFault])
/-! spec.QueryFault -/
set_option maxRecDepth 20000 in
set_option maxHeartbeats 2000000 in
theorem spec_QueryFault (w : World) (dims : Int) {Aq1 : Option Addr} {cq1 : Nat} {Aq2 : Option Addr} {cq2 : Nat} {Aq3 : Option Addr} {cq3 : Nat} {q : Query} {sq_ : List Nat} (hq : kQueryS.Rel w [.int .i64 q.kind, .slice Aq1 q.rect.low.length cq1, .slice Aq2 q.rect.high.length cq2, .slice Aq3 q.point.length cq3, .int .i64 q.k] q [] sq_)  : Calls Tryz.prog 79 #[.agg #[.int .i64 q.kind, .slice Aq1 q.rect.low.length cq1, .slice Aq2 q.rect.high.length cq2, .slice Aq3 q.point.length cq3, .int .i64 q.k], .int .i64 dims] w (fun e_ w2_ => e_ = .returned (.int .i64 (queryFault q dims)) ∧ Below w.heap.size w w2_) := by
  have Lq1 := Kd.sub_len kQueryS_p1_1 hq; have Cq1 := Kd.sub_cap kQueryS_p1_1 hq rfl
  have Lq2 := Kd.sub_len kQueryS_p2_1 hq; have Cq2 := Kd.sub_cap kQueryS_p2_1 hq rfl
  refine fnc (X := X13 78 w) (args := [.agg #[.int .i64 q.kind, .slice Aq1 q.rect.low.length cq1, .slice Aq2 q.rect.high.length cq2, .slice Aq3 q.point.length cq3, .int .i64 q.k], .int .i64 dims]) (l := [(0, .agg #[.int .i64 q.kind, .slice Aq1 q.rect.low.length cq1, .slice Aq2 q.rect.high.length cq2, .slice Aq3 q.point.length cq3, .int .i64 q.k]), (1, .int .i64 dims)]) (G := [dat kQueryS [.int .i64 q.kind, .slice Aq1 q.rect.low.length cq1, .slice Aq2 q.rect.high.length cq2, .slice Aq3 q.point.length cq3, .int .i64 q.k] q ([]) sq_]) Tryz.func79 rfl rfl rfl ⟨rfl, rfl, trivial⟩ (s0d hq (s0n w)).1 ?_
  refine sq (rg (bx rfl rfl rfl rfl ?_))
  intro b1
  refine a_ rfl rfl (en (nx (sq (sq (rg (m_ rfl rfl (cs_ (v := .bool (within dims 2 3)) (by kernel_rfl) rfl rfl rfl (fun w_ hs_ => spec_l1In w_ _ _ _) (vl (nt rfl rfl) rfl (en (nx ?_))))))))))
  by_cases h2 : within dims 2 3 = true
  · refine cf rfl (not_f h2) (sk (nx (sq (rg (vl (fa rfl rfl rfl) rfl (vl (ldb (u := .int .i64 q.kind) 0 rfl rfl rfl rfl rfl rfl rfl) rfl (vl (cm rfl rfl rfl rfl) rfl (m_ rfl rfl ?_))))))))
    by_cases h3 : q.kind = (1 : Int)
    · refine sg rfl rfl (beq_iff_eq.2 h3) (sg rfl rfl (beq_iff_eq.2 h3) (sg rfl rfl (beq_iff_eq.2 h3) (vl (pk (b := true) rfl rfl (beq_iff_eq.2 h3) rfl) rfl (a_ rfl rfl (en (nx (sq (sq (rg (vl (fa rfl rfl rfl) rfl (vl (ldb (u := .int .i64 q.kind) 0 rfl rfl rfl rfl rfl rfl rfl) rfl (cs_ (v := .bool (within q.kind 1 4)) (by kernel_rfl) rfl rfl rfl (fun w_ hs_ => spec_l1In w_ _ _ _) (vl (nt rfl rfl) rfl (m_ rfl rfl ?_))))))))))))))
      by_cases h4 : within q.kind 1 4 = true
      · refine vg (mv rfl rfl) rfl rfl (not_f h4) (vg (mv rfl rfl) rfl rfl (not_f h4) (vg (fa rfl rfl rfl) rfl rfl rfl (vg (ldb (u := .slice Aq3 q.point.length cq3) 0 rfl rfl rfl rfl rfl rfl rfl) rfl rfl rfl (vg (ln rfl rfl rfl) rfl rfl rfl (vg (cm rfl rfl rfl rfl) rfl rfl rfl (vg (pk (b := true) rfl rfl rfl rfl) rfl rfl (not_f h4) (vl (pk (b := false) rfl rfl (not_f h4) rfl) rfl (m_ rfl rfl ?_))))))))
        by_cases h5 : (0 : Int) < ((q.point.length : Nat) : Int)
        · refine sg rfl rfl (decide_eq_true h5) (sg rfl rfl (decide_eq_true h5) (sg rfl rfl (decide_eq_true h5) (su rfl rfl (su rfl rfl (su rfl rfl (su rfl rfl (su rfl rfl (su rfl rfl (su rfl rfl (su rfl rfl (su rfl rfl (su rfl rfl (sg rfl rfl (decide_eq_true h5) (vl (pk (b := true) rfl rfl (decide_eq_true h5) rfl) rfl (m_ rfl rfl (sg rfl rfl rfl (sg rfl rfl rfl (sg rfl rfl rfl (sg rfl rfl rfl (su rfl rfl (su rfl rfl (su rfl rfl (sg rfl rfl rfl (vl (pk (b := true) rfl rfl rfl rfl) rfl (en (nx (ct rfl rfl (sq (rg (a_ rfl rfl (en (nx (rt (xr (ret1 rfl rfl (fun w_ hs_ => ⟨?_, hs_.below⟩))))))))))))))))))))))))))))))))))))
          exact ri (by grind [queryFault, hasRect, isDims])
        · refine vg (mv rfl rfl) rfl rfl (decide_eq_false h5) (vg (nt rfl rfl) rfl rfl (decide_eq_false h5) (vg (mv rfl rfl) rfl rfl (decide_eq_false h5) (sg rfl rfl rfl (sg rfl rfl rfl (sg rfl rfl rfl (sg rfl rfl rfl (sg rfl rfl rfl (sg rfl rfl rfl (sg rfl rfl rfl (sg rfl rfl rfl (sg rfl rfl rfl (sg rfl rfl rfl (vg (pk (b := false) rfl rfl rfl rfl) rfl rfl (decide_eq_false h5) (vl (pk (b := false) rfl rfl (decide_eq_false h5) rfl) rfl (m_ rfl rfl (vg (fa rfl rfl rfl) rfl rfl rfl (vg (ldb (u := .int .i64 q.kind) 0 rfl rfl rfl rfl rfl rfl rfl) rfl rfl rfl (vg (cm rfl rfl rfl rfl) rfl rfl rfl (vg (mv rfl rfl) rfl rfl rfl ?_)))))))))))))))))))
          by_cases h6 : q.kind = (4 : Int)
          · refine sg rfl rfl (bne_eq_false_iff_eq.2 h6) (sg rfl rfl (bne_eq_false_iff_eq.2 h6) (sg rfl rfl (bne_eq_false_iff_eq.2 h6) (vg (pk (b := false) rfl rfl (bne_eq_false_iff_eq.2 h6) rfl) rfl rfl rfl (vl (pk (b := false) rfl rfl rfl rfl) rfl (en (nx (cf rfl rfl (sk (nx (sq (sq (rg (m_ rfl rfl (en (nx (ct rfl rfl (sq (rg (vl (fa rfl rfl rfl) rfl (vl (ldb 0 rfl rfl rfl rfl rfl rfl rfl) rfl (m_ rfl rfl ?_)))))))))))))))))))))
            refine gd 1 kQueryS_p1_2 rfl (cs' := [.slice Aq1 q.rect.low.length cq1, .slice Aq2 q.rect.high.length cq2]) rfl fun s7 w_ rs7 us7 => ?_
            refine cs_ (v := .int .i64 (rectFault q.rect dims)) (by kernel_rfl) rfl rfl rfl (fun w_ hs_ => spec_RectFault w_ _ (hs_.at 0 rfl)) (a_ rfl rfl (en (nx (rt (xr (ret1 rfl rfl (fun w_ hs_ => ⟨?_, hs_.below⟩)))))))
            exact ri (by grind [queryFault, hasRect, isDims])
          · refine vg (fa rfl rfl rfl) rfl rfl (bne_iff_ne.2 h6) (vg (ldb (u := .int .i64 q.k) 0 rfl rfl rfl rfl rfl rfl rfl) rfl rfl (bne_iff_ne.2 h6) (vg (cm rfl rfl rfl rfl) rfl rfl (bne_iff_ne.2 h6) (vg (pk (b := true) rfl rfl (bne_iff_ne.2 h6) rfl) rfl rfl rfl (vl (pk (b := false) rfl rfl rfl rfl) rfl (en (nx ?_))))))
            by_cases h8 : q.k = (0 : Int)
            · refine cf rfl (bne_eq_false_iff_eq.2 h8) (sk (nx (sq (sq (rg (m_ rfl rfl (en (nx (ct rfl rfl (sq (rg (vl (fa rfl rfl rfl) rfl (vl (ldb 0 rfl rfl rfl rfl rfl rfl rfl) rfl (m_ rfl rfl ?_))))))))))))))
              refine gd 1 kQueryS_p1_2 rfl (cs' := [.slice Aq1 q.rect.low.length cq1, .slice Aq2 q.rect.high.length cq2]) rfl fun s9 w_ rs9 us9 => ?_
              refine cs_ (v := .int .i64 (rectFault q.rect dims)) (by kernel_rfl) rfl rfl rfl (fun w_ hs_ => spec_RectFault w_ _ (hs_.at 0 rfl)) (a_ rfl rfl (en (nx (rt (xr (ret1 rfl rfl (fun w_ hs_ => ⟨?_, hs_.below⟩)))))))
              exact ri (by grind [queryFault, hasRect, isDims])
            · refine ct rfl (bne_iff_ne.2 h8) (sq (rg (a_ rfl rfl (en (nx (rt (xr (ret1 rfl rfl (fun w_ hs_ => ⟨?_, hs_.below⟩)))))))))
              exact ri (by grind [queryFault, hasRect, isDims])
      · refine sg rfl rfl (not_t (Bool.eq_false_iff.2 h4)) (sg rfl rfl (not_t (Bool.eq_false_iff.2 h4)) (su rfl rfl (su rfl rfl (su rfl rfl (su rfl rfl (sg rfl rfl (not_t (Bool.eq_false_iff.2 h4)) (vl (pk (b := true) rfl rfl (not_t (Bool.eq_false_iff.2 h4)) rfl) rfl (m_ rfl rfl (sg rfl rfl rfl (sg rfl rfl rfl (sg rfl rfl rfl (su rfl rfl (su rfl rfl (su rfl rfl (su rfl rfl (su rfl rfl (su rfl rfl (su rfl rfl (su rfl rfl (su rfl rfl (su rfl rfl (sg rfl rfl rfl (vl (pk (b := true) rfl rfl rfl rfl) rfl (m_ rfl rfl (sg rfl rfl rfl (sg rfl rfl rfl (sg rfl rfl rfl (sg rfl rfl rfl (su rfl rfl (su rfl rfl (su rfl rfl (sg rfl rfl rfl (vl (pk (b := true) rfl rfl rfl rfl) rfl (en (nx (ct rfl rfl (sq (rg (a_ rfl rfl (en (nx (rt (xr (ret1 rfl rfl (fun w_ hs_ => ⟨?_, hs_.below⟩)))))))))))))))))))))))))))))))))))))))))))))
        exact ri (by grind [queryFault, hasRect, isDims])
    · refine vg (fa rfl rfl rfl) rfl rfl (beq_eq_false_iff_ne.2 h3) (vg (ldb (u := .int .i64 q.kind) 0 rfl rfl rfl rfl rfl rfl rfl) rfl rfl (beq_eq_false_iff_ne.2 h3) (vg (cm rfl rfl rfl rfl) rfl rfl (beq_eq_false_iff_ne.2 h3) (vl (pk (b := false) rfl rfl (beq_eq_false_iff_ne.2 h3) rfl) rfl (a_ rfl rfl (en (nx (sq (sq (rg (vl (fa rfl rfl rfl) rfl (vl (ldb (u := .int .i64 q.kind) 0 rfl rfl rfl rfl rfl rfl rfl) rfl (cs_ (v := .bool (within q.kind 1 4)) (by kernel_rfl) rfl rfl rfl (fun w_ hs_ => spec_l1In w_ _ _ _) (vl (nt rfl rfl) rfl (m_ rfl rfl ?_))))))))))))))
      by_cases h10 : within q.kind 1 4 = true
      · refine vg (mv rfl rfl) rfl rfl (not_f h10) (vg (mv rfl rfl) rfl rfl (not_f h10) ?_)
        by_cases h11 : q.kind = (2 : Int)
        · refine vg (fa rfl rfl rfl) rfl rfl (beq_iff_eq.2 h11) (vg (ldb (u := .slice Aq3 q.point.length cq3) 0 rfl rfl rfl rfl rfl rfl rfl) rfl rfl (beq_iff_eq.2 h11) (vg (ln rfl rfl rfl) rfl rfl (beq_iff_eq.2 h11) (vg (cm rfl rfl rfl rfl) rfl rfl (beq_iff_eq.2 h11) (vg (pk (b := true) rfl rfl (beq_iff_eq.2 h11) rfl) rfl rfl (not_f h10) (vl (pk (b := false) rfl rfl (not_f h10) rfl) rfl (m_ rfl rfl ?_))))))
          by_cases h12 : (0 : Int) < ((q.point.length : Nat) : Int)
          · refine sg rfl rfl (decide_eq_true h12) (sg rfl rfl (decide_eq_true h12) (sg rfl rfl (decide_eq_true h12) (su rfl rfl (su rfl rfl (su rfl rfl (su rfl rfl (su rfl rfl (su rfl rfl (su rfl rfl (su rfl rfl (su rfl rfl (su rfl rfl (sg rfl rfl (decide_eq_true h12) (vl (pk (b := true) rfl rfl (decide_eq_true h12) rfl) rfl (m_ rfl rfl (sg rfl rfl rfl (sg rfl rfl rfl (sg rfl rfl rfl (sg rfl rfl rfl (su rfl rfl (su rfl rfl (su rfl rfl (sg rfl rfl rfl (vl (pk (b := true) rfl rfl rfl rfl) rfl (en (nx (ct rfl rfl (sq (rg (a_ rfl rfl (en (nx (rt (xr (ret1 rfl rfl (fun w_ hs_ => ⟨?_, hs_.below⟩))))))))))))))))))))))))))))))))))))
            exact ri (by grind [queryFault, hasRect, isDims])
          · refine vg (mv rfl rfl) rfl rfl (decide_eq_false h12) (vg (nt rfl rfl) rfl rfl (decide_eq_false h12) (vg (mv rfl rfl) rfl rfl (decide_eq_false h12) (sg rfl rfl (not_f (beq_iff_eq.2 h11)) (sg rfl rfl (not_f (beq_iff_eq.2 h11)) (sg rfl rfl (not_f (beq_iff_eq.2 h11)) (sg rfl rfl (not_f (beq_iff_eq.2 h11)) (sg rfl rfl (not_f (beq_iff_eq.2 h11)) (sg rfl rfl (not_f (beq_iff_eq.2 h11)) (sg rfl rfl (not_f (beq_iff_eq.2 h11)) (sg rfl rfl (not_f (beq_iff_eq.2 h11)) (sg rfl rfl (not_f (beq_iff_eq.2 h11)) (sg rfl rfl (not_f (beq_iff_eq.2 h11)) (vg (pk (b := false) rfl rfl (not_f (beq_iff_eq.2 h11)) rfl) rfl rfl (decide_eq_false h12) (vl (pk (b := false) rfl rfl (decide_eq_false h12) rfl) rfl (m_ rfl rfl (vg (fa rfl rfl rfl) rfl rfl rfl (vg (ldb (u := .int .i64 q.kind) 0 rfl rfl rfl rfl rfl rfl rfl) rfl rfl rfl (vg (cm rfl rfl rfl rfl) rfl rfl rfl (vg (mv rfl rfl) rfl rfl rfl ?_)))))))))))))))))))
            by_cases h13 : q.kind = (4 : Int)
            · refine sg rfl rfl (bne_eq_false_iff_eq.2 h13) (sg rfl rfl (bne_eq_false_iff_eq.2 h13) (sg rfl rfl (bne_eq_false_iff_eq.2 h13) (vg (pk (b := false) rfl rfl (bne_eq_false_iff_eq.2 h13) rfl) rfl rfl rfl (vl (pk (b := false) rfl rfl rfl rfl) rfl (en (nx (cf rfl rfl (sk (nx (sq (sq (rg (m_ rfl rfl (en (nx (ct rfl (beq_iff_eq.2 h11) (sq (rg (vl (fa rfl rfl rfl) rfl (vl (ldb 0 rfl rfl rfl rfl rfl rfl rfl) rfl (m_ rfl rfl ?_)))))))))))))))))))))
              refine gd 1 kQueryS_p1_2 rfl (cs' := [.slice Aq1 q.rect.low.length cq1, .slice Aq2 q.rect.high.length cq2]) rfl fun s14 w_ rs14 us14 => ?_
              refine cs_ (v := .int .i64 (rectFault q.rect dims)) (by kernel_rfl) rfl rfl rfl (fun w_ hs_ => spec_RectFault w_ _ (hs_.at 0 rfl)) (a_ rfl rfl (en (nx (rt (xr (ret1 rfl rfl (fun w_ hs_ => ⟨?_, hs_.below⟩)))))))
              exact ri (by grind [queryFault, hasRect, isDims])
            · refine vg (fa rfl rfl rfl) rfl rfl (bne_iff_ne.2 h13) (vg (ldb (u := .int .i64 q.k) 0 rfl rfl rfl rfl rfl rfl rfl) rfl rfl (bne_iff_ne.2 h13) (vg (cm rfl rfl rfl rfl) rfl rfl (bne_iff_ne.2 h13) (vg (pk (b := true) rfl rfl (bne_iff_ne.2 h13) rfl) rfl rfl rfl (vl (pk (b := false) rfl rfl rfl rfl) rfl (en (nx ?_))))))
              by_cases h15 : q.k = (0 : Int)
              · refine cf rfl (bne_eq_false_iff_eq.2 h15) (sk (nx (sq (sq (rg (m_ rfl rfl (en (nx (ct rfl (beq_iff_eq.2 h11) (sq (rg (vl (fa rfl rfl rfl) rfl (vl (ldb 0 rfl rfl rfl rfl rfl rfl rfl) rfl (m_ rfl rfl ?_))))))))))))))
                refine gd 1 kQueryS_p1_2 rfl (cs' := [.slice Aq1 q.rect.low.length cq1, .slice Aq2 q.rect.high.length cq2]) rfl fun s16 w_ rs16 us16 => ?_
                refine cs_ (v := .int .i64 (rectFault q.rect dims)) (by kernel_rfl) rfl rfl rfl (fun w_ hs_ => spec_RectFault w_ _ (hs_.at 0 rfl)) (a_ rfl rfl (en (nx (rt (xr (ret1 rfl rfl (fun w_ hs_ => ⟨?_, hs_.below⟩)))))))
                exact ri (by grind [queryFault, hasRect, isDims])
              · refine ct rfl (bne_iff_ne.2 h15) (sq (rg (a_ rfl rfl (en (nx (rt (xr (ret1 rfl rfl (fun w_ hs_ => ⟨?_, hs_.below⟩)))))))))
                exact ri (by grind [queryFault, hasRect, isDims])
        · refine sg rfl rfl (beq_eq_false_iff_ne.2 h11) (sg rfl rfl (beq_eq_false_iff_ne.2 h11) (sg rfl rfl (beq_eq_false_iff_ne.2 h11) (sg rfl rfl (beq_eq_false_iff_ne.2 h11) (vg (pk (b := false) rfl rfl (beq_eq_false_iff_ne.2 h11) rfl) rfl rfl (not_f h10) (vl (pk (b := false) rfl rfl (not_f h10) rfl) rfl (m_ rfl rfl (vg (mv rfl rfl) rfl rfl rfl (vg (nt rfl rfl) rfl rfl rfl (vg (mv rfl rfl) rfl rfl rfl (vg (fa rfl rfl rfl) rfl rfl (not_t (beq_eq_false_iff_ne.2 h11)) (vg (fa rfl rfl rfl) rfl rfl (not_t (beq_eq_false_iff_ne.2 h11)) (vg (ldb (u := .slice Aq1 q.rect.low.length cq1) 0 rfl rfl rfl rfl rfl rfl rfl) rfl rfl (not_t (beq_eq_false_iff_ne.2 h11)) (vg (ln rfl rfl rfl) rfl rfl (not_t (beq_eq_false_iff_ne.2 h11)) (vg (fa rfl rfl rfl) rfl rfl (not_t (beq_eq_false_iff_ne.2 h11)) (vg (fa rfl rfl rfl) rfl rfl (not_t (beq_eq_false_iff_ne.2 h11)) (vg (ldb (u := .slice Aq2 q.rect.high.length cq2) 0 rfl rfl rfl rfl rfl rfl rfl) rfl rfl (not_t (beq_eq_false_iff_ne.2 h11)) (vg (ln rfl rfl rfl) rfl rfl (not_t (beq_eq_false_iff_ne.2 h11)) (vg (ra (c := ((q.rect.low.length : Nat) : Int) + ((q.rect.high.length : Nat) : Int)) rfl rfl rfl rfl (by omega) (by omega)) rfl rfl (not_t (beq_eq_false_iff_ne.2 h11)) (vg (cm rfl rfl rfl rfl) rfl rfl (not_t (beq_eq_false_iff_ne.2 h11)) (vg (pk (b := true) rfl rfl (not_t (beq_eq_false_iff_ne.2 h11)) rfl) rfl rfl rfl (vl (pk (b := false) rfl rfl rfl rfl) rfl (m_ rfl rfl ?_))))))))))))))))))))))
          by_cases h17 : (0 : Int) < ((q.rect.low.length : Nat) : Int) + ((q.rect.high.length : Nat) : Int)
          · have gh17 := rectEmpty_f (r := q.rect) h17
            refine sg rfl rfl (decide_eq_true h17) (sg rfl rfl (decide_eq_true h17) (sg rfl rfl (decide_eq_true h17) (sg rfl rfl (decide_eq_true h17) (su rfl rfl (su rfl rfl (su rfl rfl (sg rfl rfl (decide_eq_true h17) (vl (pk (b := true) rfl rfl (decide_eq_true h17) rfl) rfl (en (nx (ct rfl rfl (sq (rg (a_ rfl rfl (en (nx (rt (xr (ret1 rfl rfl (fun w_ hs_ => ⟨?_, hs_.below⟩))))))))))))))))))))
            exact ri (by grind [queryFault, hasRect, isDims])
          · have gh17 := rectEmpty_t (r := q.rect) h17
            refine vg (fa rfl rfl rfl) rfl rfl (decide_eq_false h17) (vg (ldb (u := .int .i64 q.kind) 0 rfl rfl rfl rfl rfl rfl rfl) rfl rfl (decide_eq_false h17) (vg (cm rfl rfl rfl rfl) rfl rfl (decide_eq_false h17) (vg (mv rfl rfl) rfl rfl (decide_eq_false h17) ?_)))
            by_cases h18 : q.kind = (4 : Int)
            · refine sg rfl rfl (bne_eq_false_iff_eq.2 h18) (sg rfl rfl (bne_eq_false_iff_eq.2 h18) (sg rfl rfl (bne_eq_false_iff_eq.2 h18) (vg (pk (b := false) rfl rfl (bne_eq_false_iff_eq.2 h18) rfl) rfl rfl (decide_eq_false h17) (vl (pk (b := false) rfl rfl (decide_eq_false h17) rfl) rfl (en (nx (cf rfl rfl (sk (nx (sq (sq (rg (m_ rfl rfl (en (nx (cf rfl (beq_eq_false_iff_ne.2 h11) (sk (nx (sq (sq (rg (vl (fa rfl rfl rfl) rfl (vl (ldb (u := .slice Aq3 q.point.length cq3) 0 rfl rfl rfl rfl rfl rfl rfl) rfl (m_ rfl rfl ?_))))))))))))))))))))))))
              refine gd 1 kQueryS_p3_1 rfl (cs' := [.slice Aq3 q.point.length cq3]) rfl fun s19 w_ rs19 us19 => ?_
              have Ls19 := Kd.sl_len rs19; have Cs19 := Kd.sl_cap rs19
              refine cs_ (v := .int .i64 (pointFault q.point dims)) (by kernel_rfl) rfl rfl rfl (fun w_ hs_ => spec_PointFault w_ _ (hs_.at 0 rfl)) (a_ rfl rfl (en (nx (sq (rg (m_ rfl rfl (vl (cm rfl rfl rfl rfl) rfl (en (nx ?_)))))))))
              by_cases h20 : (pointFault q.point dims) = (0 : Int)
              · refine cf rfl (bne_eq_false_iff_eq.2 h20) (sk (nx (sq (sq (rg (vl (fa rfl rfl rfl) rfl (vl (ldb (u := .int .i64 q.kind) 1 rfl rfl rfl rfl rfl rfl rfl) rfl (vl (cm rfl rfl rfl rfl) rfl (m_ rfl rfl (vg (fa rfl rfl rfl) rfl rfl (beq_iff_eq.2 h18) (vg (ldb (u := .int .i64 q.k) 1 rfl rfl rfl rfl rfl rfl rfl) rfl rfl (beq_iff_eq.2 h18) (gw rfl rfl (beq_iff_eq.2 h18) (cs_ (v := .bool (within q.k 1 20)) (by kernel_rfl) rfl rfl rfl (fun w_ hs_ => spec_l1In w_ _ _ _) (vg (nt rfl rfl) rfl rfl (beq_iff_eq.2 h18) (vl (pk (b := true) rfl rfl (beq_iff_eq.2 h18) rfl) rfl (en (nx ?_)))))))))))))))))
                by_cases h21 : within q.k 1 20 = true
                · refine cf rfl (not_f h21) (sk (nx (sq (rg (a_ rfl rfl (en (nx (rt (ret1 rfl rfl (fun w_ hs_ => ⟨?_, hs_.below⟩))))))))))
                  exact ri (by grind [queryFault, hasRect, isDims])
                · refine ct rfl (not_t (Bool.eq_false_iff.2 h21)) (sq (rg (a_ rfl rfl (en (nx (rt (xr (ret1 rfl rfl (fun w_ hs_ => ⟨?_, hs_.below⟩)))))))))
                  exact ri (by grind [queryFault, hasRect, isDims])
              · refine ct rfl (bne_iff_ne.2 h20) (sq (rg (m_ rfl rfl (a_ rfl rfl (en (nx (rt (xr (ret1 rfl rfl (fun w_ hs_ => ⟨?_, hs_.below⟩))))))))))
                exact ri (by grind [queryFault, hasRect, isDims])
            · refine vg (fa rfl rfl rfl) rfl rfl (bne_iff_ne.2 h18) (vg (ldb (u := .int .i64 q.k) 0 rfl rfl rfl rfl rfl rfl rfl) rfl rfl (bne_iff_ne.2 h18) (vg (cm rfl rfl rfl rfl) rfl rfl (bne_iff_ne.2 h18) (vg (pk (b := true) rfl rfl (bne_iff_ne.2 h18) rfl) rfl rfl (decide_eq_false h17) (vl (pk (b := false) rfl rfl (decide_eq_false h17) rfl) rfl (en (nx ?_))))))
              by_cases h22 : q.k = (0 : Int)
              · refine cf rfl (bne_eq_false_iff_eq.2 h22) (sk (nx (sq (sq (rg (m_ rfl rfl (en (nx (cf rfl (beq_eq_false_iff_ne.2 h11) (sk (nx (sq (sq (rg (vl (fa rfl rfl rfl) rfl (vl (ldb (u := .slice Aq3 q.point.length cq3) 0 rfl rfl rfl rfl rfl rfl rfl) rfl (m_ rfl rfl ?_)))))))))))))))))
                refine gd 1 kQueryS_p3_1 rfl (cs' := [.slice Aq3 q.point.length cq3]) rfl fun s23 w_ rs23 us23 => ?_
                have Ls23 := Kd.sl_len rs23; have Cs23 := Kd.sl_cap rs23
                refine cs_ (v := .int .i64 (pointFault q.point dims)) (by kernel_rfl) rfl rfl rfl (fun w_ hs_ => spec_PointFault w_ _ (hs_.at 0 rfl)) (a_ rfl rfl (en (nx (sq (rg (m_ rfl rfl (vl (cm rfl rfl rfl rfl) rfl (en (nx ?_)))))))))
                by_cases h24 : (pointFault q.point dims) = (0 : Int)
                · refine cf rfl (bne_eq_false_iff_eq.2 h24) (sk (nx (sq (sq (rg (vl (fa rfl rfl rfl) rfl (vl (ldb (u := .int .i64 q.kind) 1 rfl rfl rfl rfl rfl rfl rfl) rfl (vl (cm rfl rfl rfl rfl) rfl (m_ rfl rfl (sg rfl rfl (beq_eq_false_iff_ne.2 h18) (sg rfl rfl (beq_eq_false_iff_ne.2 h18) (sg rfl rfl (beq_eq_false_iff_ne.2 h18) (sg rfl rfl (beq_eq_false_iff_ne.2 h18) (vl (pk (b := false) rfl rfl (beq_eq_false_iff_ne.2 h18) rfl) rfl (en (nx (cf rfl rfl (sk (nx (sq (rg (a_ rfl rfl (en (nx (rt (ret1 rfl rfl (fun w_ hs_ => ⟨?_, hs_.below⟩)))))))))))))))))))))))))))
                  exact ri (by grind [queryFault, hasRect, isDims])
                · refine ct rfl (bne_iff_ne.2 h24) (sq (rg (m_ rfl rfl (a_ rfl rfl (en (nx (rt (xr (ret1 rfl rfl (fun w_ hs_ => ⟨?_, hs_.below⟩))))))))))
                  exact ri (by grind [queryFault, hasRect, isDims])
              · refine ct rfl (bne_iff_ne.2 h22) (sq (rg (a_ rfl rfl (en (nx (rt (xr (ret1 rfl rfl (fun w_ hs_ => ⟨?_, hs_.below⟩)))))))))
                exact ri (by grind [queryFault, hasRect, isDims])
      · refine sg rfl rfl (not_t (Bool.eq_false_iff.2 h10)) (sg rfl rfl (not_t (Bool.eq_false_iff.2 h10)) (su rfl rfl (su rfl rfl (su rfl rfl (su rfl rfl (sg rfl rfl (not_t (Bool.eq_false_iff.2 h10)) (vl (pk (b := true) rfl rfl (not_t (Bool.eq_false_iff.2 h10)) rfl) rfl (m_ rfl rfl (sg rfl rfl rfl (sg rfl rfl rfl (sg rfl rfl rfl (su rfl rfl (su rfl rfl (su rfl rfl (su rfl rfl (su rfl rfl (su rfl rfl (su rfl rfl (su rfl rfl (su rfl rfl (su rfl rfl (sg rfl rfl rfl (vl (pk (b := true) rfl rfl rfl rfl) rfl (m_ rfl rfl (sg rfl rfl rfl (sg rfl rfl rfl (sg rfl rfl rfl (sg rfl rfl rfl (su rfl rfl (su rfl rfl (su rfl rfl (sg rfl rfl rfl (vl (pk (b := true) rfl rfl rfl rfl) rfl (en (nx (ct rfl rfl (sq (rg (a_ rfl rfl (en (nx (rt (xr (ret1 rfl rfl (fun w_ hs_ => ⟨?_, hs_.below⟩)))))))))))))))))))))))))))))))))))))))))))))
        exact ri (by grind [queryFault, hasRect, isDims])
  · refine ct rfl (not_t (Bool.eq_false_iff.2 h2)) (sq (rg (a_ rfl rfl (en (nx (rt (xr (ret1 rfl rfl (fun w_ hs_ => ⟨?_, hs_.below⟩)))))))))
    exact ri (by grind [queryFault, hasRect, isDims])
structure Mark where
  dist : Int
  id : Int
  nsn : Int
  deriving DecidableEq
structure Look where
  query : Query
  front : List Mark
  found : List Pair
  deriving DecidableEq
def kMarkS : Kd Mark := ((Kd.i64.via Mark.dist).cat ((Kd.i64.via Mark.id).cat (Kd.i64.via Mark.nsn)))
theorem kMarkS_sh {w : World} {cs : List Value} {x : Mark} {o s : List Nat} (h : kMarkS.Rel w cs x o s) : cs = [.int .i64 x.dist, .int .i64 x.id, .int .i64 x.nsn] := by
  obtain ⟨c10, c20, o10, o20, s10, s20, rfl, rfl, rfl, h0, k0⟩ := h
  obtain ⟨rfl, -, -⟩ := h0
  obtain ⟨c11, c21, o11, o21, s11, s21, rfl, rfl, rfl, h1, k1⟩ := k0
  obtain ⟨rfl, -, -⟩ := h1
  obtain ⟨rfl, -, -⟩ := k1
  exact rfl
theorem kMarkS_self : Kd.Seals kMarkS kMarkS := (Kd.Seals.cat (Kd.Seals.via Kd.Seals.i64 _) (Kd.Seals.cat (Kd.Seals.via Kd.Seals.i64 _) (Kd.Seals.via Kd.Seals.i64 _)))
theorem kMarkS_pure : Kd.Pure kMarkS := (Kd.Pure.cat (Kd.Pure.via Kd.Pure.i64 _) (Kd.Pure.cat (Kd.Pure.via Kd.Pure.i64 _) (Kd.Pure.via Kd.Pure.i64 _)))
def kLookS : Kd Look := ((kQueryS.via Look.query).cat (((Kd.sl kMarkS).via Look.front).cat ((Kd.sl kPairS).via Look.found)))
theorem kLookS_sh {w : World} {cs : List Value} {x : Look} {o s : List Nat} (h : kLookS.Rel w cs x o s) : ∃ (A1 : Option Addr) (c1 : Nat) (A2 : Option Addr) (c2 : Nat) (A3 : Option Addr) (c3 : Nat) (A5 : Option Addr) (c5 : Nat) (A6 : Option Addr) (c6 : Nat), cs = [.int .i64 x.query.kind, .slice A1 x.query.rect.low.length c1, .slice A2 x.query.rect.high.length c2, .slice A3 x.query.point.length c3, .int .i64 x.query.k, .slice A5 x.front.length c5, .slice A6 x.found.length c6] := by
  obtain ⟨c10, c20, o10, o20, s10, s20, rfl, rfl, rfl, h0, k0⟩ := h
  obtain ⟨_, _, _, _, _, _, rfl⟩ := kQueryS_sh h0
  obtain ⟨c11, c21, o11, o21, s11, s21, rfl, rfl, rfl, h1, k1⟩ := k0
  obtain ⟨-, A1_, c1_, rfl, -⟩ := h1
  obtain ⟨-, A2_, c2_, rfl, -⟩ := k1
  exact ⟨_, _, _, _, _, _, _, _, _, _, rfl⟩
theorem kLookS_p0_5 : Kd.Sub kLookS 0 kQueryS (fun x => x.query) := (Kd.Sub.left (Kd.Sub.rfl.via Look.query) _ (by decide))
theorem kLookS_p1_2 : Kd.Sub kLookS 1 kRectS (fun x => x.query.rect) := (Kd.Sub.left (kQueryS_p1_2.via Look.query) _ (by decide))
theorem kLookS_p1_1 : Kd.Sub kLookS 1 (Kd.sl Kd.i64) (fun x => x.query.rect.low) := (Kd.Sub.left (kQueryS_p1_1.via Look.query) _ (by decide))
theorem kLookS_p2_1 : Kd.Sub kLookS 2 (Kd.sl Kd.i64) (fun x => x.query.rect.high) := (Kd.Sub.left (kQueryS_p2_1.via Look.query) _ (by decide))
theorem kLookS_p3_1 : Kd.Sub kLookS 3 (Kd.sl Kd.i64) (fun x => x.query.point) := (Kd.Sub.left (kQueryS_p3_1.via Look.query) _ (by decide))
theorem kLookS_p5_1 : Kd.Sub kLookS 5 (Kd.sl kMarkS) (fun x => x.front) := (Kd.Sub.right (Kd.Sub.left (Kd.Sub.rfl.via Look.front) _ (by decide)) _)
theorem kLookS_p6_1 : Kd.Sub kLookS 6 (Kd.sl kPairS) (fun x => x.found) := (Kd.Sub.right (Kd.Sub.right (Kd.Sub.rfl.via Look.found) _) _)
theorem kLookS_self : Kd.Seals kLookS kLookS := (Kd.Seals.cat (Kd.Seals.via kQueryS_self _) (Kd.Seals.cat (Kd.Seals.via Kd.Seals.refl_sl _) (Kd.Seals.via Kd.Seals.refl_sl _)))
theorem kLookS_pure : Kd.Pure kLookS := (Kd.Pure.cat (Kd.Pure.via kQueryS_pure _) (Kd.Pure.cat (Kd.Pure.via (Kd.Pure.sl _) _) (Kd.Pure.via (Kd.Pure.sl _) _)))
def kMarkO : Kd Mark := ((Kd.i64.via Mark.dist).cat ((Kd.i64.via Mark.id).cat (Kd.i64.via Mark.nsn)))
theorem kMarkO_sh {w : World} {cs : List Value} {x : Mark} {o s : List Nat} (h : kMarkO.Rel w cs x o s) : cs = [.int .i64 x.dist, .int .i64 x.id, .int .i64 x.nsn] := by
  obtain ⟨c10, c20, o10, o20, s10, s20, rfl, rfl, rfl, h0, k0⟩ := h
  obtain ⟨rfl, -, -⟩ := h0
  obtain ⟨c11, c21, o11, o21, s11, s21, rfl, rfl, rfl, h1, k1⟩ := k0
  obtain ⟨rfl, -, -⟩ := h1
  obtain ⟨rfl, -, -⟩ := k1
  exact rfl
theorem kMarkO_seal : Kd.Seals kMarkO kMarkS := (Kd.Seals.cat (Kd.Seals.via Kd.Seals.i64 _) (Kd.Seals.cat (Kd.Seals.via Kd.Seals.i64 _) (Kd.Seals.via Kd.Seals.i64 _)))
def kLookO : Kd Look := ((kQueryO.via Look.query).cat (((Kd.row 172 kMarkO).via Look.front).cat ((Kd.row 176 kPairO).via Look.found)))
theorem kLookO_sh {w : World} {cs : List Value} {x : Look} {o s : List Nat} (h : kLookO.Rel w cs x o s) : ∃ (A1 : Option Addr) (c1 : Nat) (A2 : Option Addr) (c2 : Nat) (A3 : Option Addr) (c3 : Nat) (A5 : Option Addr) (c5 : Nat) (A6 : Option Addr) (c6 : Nat), cs = [.int .i64 x.query.kind, .slice A1 x.query.rect.low.length c1, .slice A2 x.query.rect.high.length c2, .slice A3 x.query.point.length c3, .int .i64 x.query.k, .slice A5 x.front.length c5, .slice A6 x.found.length c6] := by
  obtain ⟨c10, c20, o10, o20, s10, s20, rfl, rfl, rfl, h0, k0⟩ := h
  obtain ⟨_, _, _, _, _, _, rfl⟩ := kQueryO_sh h0
  obtain ⟨c11, c21, o11, o21, s11, s21, rfl, rfl, rfl, h1, k1⟩ := k0
  obtain ⟨A1_, c1_, rfl⟩ := Kd.row_sh h1
  obtain ⟨A2_, c2_, rfl⟩ := Kd.row_sh k1
  exact ⟨_, _, _, _, _, _, _, _, _, _, rfl⟩
theorem kLookO_seal : Kd.Seals kLookO kLookS := (Kd.Seals.cat (Kd.Seals.via kQueryO_seal _) (Kd.Seals.cat (Kd.Seals.via (Kd.Seals.row kMarkO_seal _) _) (Kd.Seals.via (Kd.Seals.row kPairO_seal _) _)))
theorem Mark_eq (a b : Mark) : decide (a = b) = (decide (a.dist = b.dist) && decide (a.id = b.id) && decide (a.nsn = b.nsn)) := by
  cases a; cases b; rw [Bool.eq_iff_iff]; simp [and_assoc]
theorem Look_eq (a b : Look) : decide (a = b) = (decide (a.query = b.query) && decide (a.front = b.front) && decide (a.found = b.found)) := by
  cases a; cases b; rw [Bool.eq_iff_iff]; simp [and_assoc]
def szPair (a : Pair) : Int := szRect a.rect
theorem szPair_nn (a : Pair) : 0 ≤ szPair a := by have := szRect_nn a.rect; unfold szPair; omega
def zPair : Pair := (⟨0, zRect⟩ : Pair)
/-! laws.eqPair -/
set_option maxRecDepth 20000 in
set_option maxHeartbeats 2000000 in
theorem laws_eqPair (w : World) {Aa1 : Option Addr} {ca1 : Nat} {Aa2 : Option Addr} {ca2 : Nat} {a : Pair} {sa_ : List Nat} (ha : kPairS.Rel w [.int .i64 a.id, .slice Aa1 a.rect.low.length ca1, .slice Aa2 a.rect.high.length ca2] a [] sa_) {Ab1 : Option Addr} {cb1 : Nat} {Ab2 : Option Addr} {cb2 : Nat} {b : Pair} {sb_ : List Nat} (hb : kPairS.Rel w [.int .i64 b.id, .slice Ab1 b.rect.low.length cb1, .slice Ab2 b.rect.high.length cb2] b [] sb_)  : Calls Tryz.prog 138 #[.agg #[.int .i64 a.id, .slice Aa1 a.rect.low.length ca1, .slice Aa2 a.rect.high.length ca2], .agg #[.int .i64 b.id, .slice Ab1 b.rect.low.length cb1, .slice Ab2 b.rect.high.length cb2]] w (fun e_ w2_ => e_ = .returned (.bool (decide (a = b))) ∧ Below w.heap.size w w2_) := by
  refine fnc (X := X13 16 w) (args := [.agg #[.int .i64 a.id, .slice Aa1 a.rect.low.length ca1, .slice Aa2 a.rect.high.length ca2], .agg #[.int .i64 b.id, .slice Ab1 b.rect.low.length cb1, .slice Ab2 b.rect.high.length cb2]]) (l := [(0, .agg #[.int .i64 a.id, .slice Aa1 a.rect.low.length ca1, .slice Aa2 a.rect.high.length ca2]), (1, .agg #[.int .i64 b.id, .slice Ab1 b.rect.low.length cb1, .slice Ab2 b.rect.high.length cb2])]) (G := [dat kPairS [.int .i64 b.id, .slice Ab1 b.rect.low.length cb1, .slice Ab2 b.rect.high.length cb2] b ([]) sb_, dat kPairS [.int .i64 a.id, .slice Aa1 a.rect.low.length ca1, .slice Aa2 a.rect.high.length ca2] a ([]) sa_]) Tryz.func138 rfl rfl rfl ⟨rfl, rfl, trivial⟩ (s0d hb (s0d ha (s0n w))).1 ?_
  refine sq (rg (bx rfl rfl rfl rfl ?_))
  intro b1
  refine bx rfl rfl rfl rfl ?_
  intro b2
  refine a_ rfl rfl (en (nx (sq (sq (rg (vl (fa rfl rfl rfl) rfl (vl (ldb (u := .int .i64 a.id) 1 rfl rfl rfl rfl rfl rfl rfl) rfl (vl (fa rfl rfl rfl) rfl (vl (ldb (u := .int .i64 b.id) 0 rfl rfl rfl rfl rfl rfl rfl) rfl (vl (cm rfl rfl rfl rfl) rfl (en (nx ?_))))))))))))
  by_cases h3 : a.id = b.id
  · refine cf rfl (bne_eq_false_iff_eq.2 h3) (sk (nx (sq (sq (rg (vl (fa rfl rfl rfl) rfl (vl (ldb 1 rfl rfl rfl rfl rfl rfl rfl) rfl (vl (fa rfl rfl rfl) rfl (vl (ldb 0 rfl rfl rfl rfl rfl rfl rfl) rfl ?_)))))))))
    refine gd 3 kPairS_p1_2 rfl (cs' := [.slice Aa1 a.rect.low.length ca1, .slice Aa2 a.rect.high.length ca2]) rfl fun s4 w_ rs4 us4 => ?_
    refine gd 3 kPairS_p1_2 rfl (cs' := [.slice Ab1 b.rect.low.length cb1, .slice Ab2 b.rect.high.length cb2]) rfl fun s5 w_ rs5 us5 => ?_
    refine cs_ (v := .bool (decide (a.rect = b.rect))) (by kernel_rfl) rfl rfl rfl (fun w_ hs_ => laws_eqRect w_ (hs_.at 1 rfl) (hs_.at 0 rfl)) (vl (nt rfl rfl) rfl (en (nx ?_)))
    by_cases h6 : decide (a.rect = b.rect) = true
    · refine cf rfl (not_f h6) (sk (nx (sq (rg (a_ rfl rfl (en (nx (rt (ret1 rfl rfl (fun w_ hs_ => ⟨?_, hs_.below⟩))))))))))
      rw [Pair_eq]; simp [h3, h6]
    · refine ct rfl (not_t (Bool.eq_false_iff.2 h6)) (sq (rg (a_ rfl rfl (en (nx (rt (xr (ret1 rfl rfl (fun w_ hs_ => ⟨?_, hs_.below⟩)))))))))
      rw [Pair_eq]; simp [h3, h6]
  · refine ct rfl (bne_iff_ne.2 h3) (sq (rg (a_ rfl rfl (en (nx (rt (xr (ret1 rfl rfl (fun w_ hs_ => ⟨?_, hs_.below⟩)))))))))
    rw [Pair_eq]; simp [h3]
/-! laws.szPair -/
set_option maxRecDepth 20000 in
set_option maxHeartbeats 2000000 in
theorem laws_szPair (w : World) (left : Int) {Aa1 : Option Addr} {ca1 : Nat} {Aa2 : Option Addr} {ca2 : Nat} {a : Pair} {sa_ : List Nat} (ha : kPairS.Rel w [.int .i64 a.id, .slice Aa1 a.rect.low.length ca1, .slice Aa2 a.rect.high.length ca2] a [] sa_) (h0 : 0 ≤ left) (h1 : left ≤ 1152921504606846976) : Calls Tryz.prog 113 #[.agg #[.int .i64 a.id, .slice Aa1 a.rect.low.length ca1, .slice Aa2 a.rect.high.length ca2], .int .i64 left] w (fun e_ w2_ => e_ = .returned (.int .i64 (szTake (szPair a) left)) ∧ Below w.heap.size w w2_) := by
  have n0 := szRect_nn a.rect
  refine fnc (X := X13 12 w) (args := [.agg #[.int .i64 a.id, .slice Aa1 a.rect.low.length ca1, .slice Aa2 a.rect.high.length ca2], .int .i64 left]) (l := [(0, .agg #[.int .i64 a.id, .slice Aa1 a.rect.low.length ca1, .slice Aa2 a.rect.high.length ca2]), (1, .int .i64 left)]) (G := [dat kPairS [.int .i64 a.id, .slice Aa1 a.rect.low.length ca1, .slice Aa2 a.rect.high.length ca2] a ([]) sa_]) Tryz.func113 rfl rfl rfl ⟨rfl, rfl, trivial⟩ (s0d ha (s0n w)).1 ?_
  refine sq (rg (bx rfl rfl rfl rfl ?_))
  intro b1
  refine a_ rfl rfl (en (nx (sq (rg (vl (fa rfl rfl rfl) rfl (vl (ldb 0 rfl rfl rfl rfl rfl rfl rfl) rfl (m_ rfl rfl ?_)))))))
  refine gd 1 kPairS_p1_2 rfl (cs' := [.slice Aa1 a.rect.low.length ca1, .slice Aa2 a.rect.high.length ca2]) rfl fun s2 w_ rs2 us2 => ?_
  refine cs_ (v := .int .i64 (szTake (szRect a.rect) left)) (by kernel_rfl) rfl rfl rfl (fun w_ hs_ => laws_szRect w_ _ (hs_.at 0 rfl) (by omega) (by omega)) (a_ rfl rfl (en (nx (sq (sq (rg (m_ rfl rfl (vl (cm rfl rfl rfl rfl) rfl (en (nx ?_))))))))))
  by_cases h3 : (szTake (szRect a.rect) left) < (0 : Int)
  · have eh3 := szTake_t h3
    refine ct rfl (decide_eq_true h3) (sq (rg (a_ rfl rfl (en (nx (rt (xr (ret1 rfl rfl (fun w_ hs_ => ⟨?_, hs_.below⟩)))))))))
    exact ri (by unfold szTake szPair; split <;> omega)
  · have eh3 := szTake_f h3
    refine cf rfl (decide_eq_false h3) (sk (nx (sq (rg (m_ rfl rfl (a_ rfl rfl (en (nx (rt (ret1 rfl rfl (fun w_ hs_ => ⟨?_, hs_.below⟩)))))))))))
    exact ri (by unfold szTake szPair; split <;> omega)
/-! laws.toPair -/
set_option maxRecDepth 20000 in
set_option maxHeartbeats 2000000 in
theorem laws_toPair (w : World) {Aa1 : Option Addr} {ca1 : Nat} {Aa2 : Option Addr} {ca2 : Nat} {a : Pair} {sa_ : List Nat} (ha : kPairS.Rel w [.int .i64 a.id, .slice Aa1 a.rect.low.length ca1, .slice Aa2 a.rect.high.length ca2] a [] sa_) (hz : szPair a ≤ 1048576) : Calls Tryz.prog 123 #[.agg #[.int .i64 a.id, .slice Aa1 a.rect.low.length ca1, .slice Aa2 a.rect.high.length ca2]] w (Made kPairO w a []) := by
  unfold szPair at hz; have n0 := szRect_nn a.rect
  refine fnc (X := X13 12 w) (args := [.agg #[.int .i64 a.id, .slice Aa1 a.rect.low.length ca1, .slice Aa2 a.rect.high.length ca2]]) (l := [(0, .agg #[.int .i64 a.id, .slice Aa1 a.rect.low.length ca1, .slice Aa2 a.rect.high.length ca2])]) (G := [dat kPairS [.int .i64 a.id, .slice Aa1 a.rect.low.length ca1, .slice Aa2 a.rect.high.length ca2] a ([]) sa_]) Tryz.func123 rfl rfl rfl ⟨rfl, trivial⟩ (s0d ha (s0n w)).1 ?_
  refine sq (rg (bx rfl rfl rfl rfl ?_))
  intro b1
  refine al zero176 rfl rfl rfl ?_
  intro b2
  refine en (nx (sq (rg (al zero176 rfl rfl rfl ?_))))
  intro b3
  refine en (nx (sq (rg (vl (fa rfl rfl rfl) rfl (vl (ldb (u := .int .i64 a.id) 2 rfl rfl rfl rfl rfl rfl rfl) rfl (vl (fa rfl rfl rfl) rfl (sto rfl rfl rfl rfl rfl rfl rfl (cs' := [.int .i64 a.id, .slice none 0 0, .slice none 0 0]) rfl (en (nx (sq (rg (vl (fa rfl rfl rfl) rfl (vl (ldb 2 rfl rfl rfl rfl rfl rfl rfl) rfl ?_)))))))))))))
  refine gd 3 kPairS_p1_2 rfl (cs' := [.slice Aa1 a.rect.low.length ca1, .slice Aa2 a.rect.high.length ca2]) rfl fun s4 w_ rs4 us4 => ?_
  refine cm_ (dk := kRectO) (x := a.rect) (S := []) (by kernel_rfl) rfl rfl rfl sn0 (fun w_ hs_ => laws_toRect w_ (hs_.at 0 rfl) (by omega)) (fun cs_ o9 s10 w_ r11 t12 => ?_)
  obtain ⟨A5, c6, A7, c8, rfl⟩ := kRectO_sh r11
  exact vl (fa rfl rfl rfl) rfl (f2 (sto rfl rfl rfl rfl rfl rfl rfl (cs' := [.int .i64 a.id, .slice A5 a.rect.low.length c6, .slice A7 a.rect.high.length c8]) rfl (en (nx (sq (rg (vl (ldb 0 rfl rfl rfl rfl rfl rfl rfl) rfl (f3 (sto rfl rfl rfl rfl rfl rfl rfl (cs' := [.int .i64 a.id, .slice A5 a.rect.low.length c6, .slice A7 a.rect.high.length c8]) rfl (en (nx (rt (f2 (gs Kd.i64 [.int .i64 a.id] a.id (fun _ => ⟨rfl, rfl, rfl⟩) (gj (da := (Kd.via Kd.i64 Pair.id)) (db := (Kd.via kRectO Pair.rect)) (x := a) (cs := [.int .i64 a.id, .slice A5 a.rect.low.length c6, .slice A7 a.rect.high.length c8]) rfl (retc 1 rfl rfl rfl rfl rfl rfl (fun w_ hs_ => made hs_ rfl (see_app see_nil t12))))))))))))))))))
/-! laws.eqPairS -/
set_option maxRecDepth 20000 in
set_option maxHeartbeats 2000000 in
theorem laws_eqPairS (w : World) {Aa : Option Addr} {ca : Nat} {a : List Pair} {sa_ : List Nat} (ha : (Kd.sl kPairS).Rel w [.slice Aa a.length ca] a [] sa_) {Ab : Option Addr} {cb : Nat} {b : List Pair} {sb_ : List Nat} (hb : (Kd.sl kPairS).Rel w [.slice Ab b.length cb] b [] sb_)  : Calls Tryz.prog 71 #[.slice Aa a.length ca, .slice Ab b.length cb] w (fun e_ w2_ => e_ = .returned (.bool (decide (a = b))) ∧ Below w.heap.size w w2_) := by
  have La := Kd.sl_len ha; have Ca := Kd.sl_cap ha
  have Lb := Kd.sl_len hb; have Cb := Kd.sl_cap hb
  refine fnc (X := X13 27 w) (args := [.slice Aa a.length ca, .slice Ab b.length cb]) (l := [(0, .slice Aa a.length ca), (1, .slice Ab b.length cb)]) (G := [dat (Kd.sl kPairS) [.slice Ab b.length cb] b ([]) sb_, dat (Kd.sl kPairS) [.slice Aa a.length ca] a ([]) sa_]) Tryz.func71 rfl rfl rfl ⟨rfl, rfl, trivial⟩ (s0d hb (s0d ha (s0n w))).1 ?_
  refine sq (rg (a_ rfl rfl (en (nx (sq (sq (rg (m_ rfl rfl (vl (ln rfl rfl rfl) rfl (m_ rfl rfl (vl (ln rfl rfl rfl) rfl (vl (cm rfl rfl rfl rfl) rfl (en (nx ?_))))))))))))))
  by_cases h1 : ((a.length : Nat) : Int) = ((b.length : Nat) : Int)
  · refine cf rfl (bne_eq_false_iff_eq.2 h1) (sk (nx (sq (sq (rg (a_ rfl rfl (en (nx (bk ?_)))))))))
    refine lp (σ := Nat) (fun k : Nat => [(0, .slice Aa a.length ca), (1, .slice Ab b.length cb), (5, .int .i64 ((k : Nat) : Int))])
        (fun k : Nat => [dat (Kd.sl kPairS) [.slice Ab b.length cb] b ([]) sb_, dat (Kd.sl kPairS) [.slice Aa a.length ca] a ([]) sa_])
        (fun k : Nat => k ≤ a.length ∧ ∀ j x y, j < k → a[j]? = some x → b[j]? = some y → x = y) (fun k : Nat => a.length - k) 0 [0, 0] ⟨Nat.zero_le _, by simp⟩ ⟨rfl, rfl, rfl, trivial⟩ rfl ?_
    intro k hp_
    obtain ⟨hk, hinv⟩ := hp_
    refine sq (sq (rg (m_ rfl rfl (m_ rfl rfl (vl (ln rfl rfl rfl) rfl (vl (cm rfl rfl rfl rfl) rfl (en (nx ?_))))))))
    by_cases h2 : ((k : Nat) : Int) < ((a.length : Nat) : Int)
    · refine ct rfl (decide_eq_true h2) (sk (nx (sq (bk (sq ?_)))))
      refine gx 1 k rfl (by omega) fun y8 p3 cs_ s4 w7 m9 e5 r6 us4 => ?_
      obtain ⟨A10, c11, A12, c13, rfl⟩ := kPairS_sh r6
      refine gx 1 k rfl (by omega) fun y19 p14 cs_ s15 w18 m20 e16 r17 us15 => ?_
      obtain ⟨A21, c22, A23, c24, rfl⟩ := kPairS_sh r17
      refine gp 1 Kd.Sub.rfl rfl (cs' := [.int .i64 y8.id, .slice A10 y8.rect.low.length c11, .slice A12 y8.rect.high.length c13]) rfl fun s25 w_ rs25 us25 => ?_
      refine gp 1 Kd.Sub.rfl rfl (cs' := [.int .i64 y19.id, .slice A21 y19.rect.low.length c22, .slice A23 y19.rect.high.length c24]) rfl fun s26 w_ rs26 us26 => ?_
      refine r0 (qv 0 rfl (mv rfl rfl) rfl (by kernel_rfl) (qv 1 rfl (mv rfl rfl) rfl (by kernel_rfl) (qv 2 rfl (ix k e5 rfl rfl rfl rfl rfl (by omega)) rfl (by kernel_rfl) (qv 3 rfl (ldq 3 rfl rfl rfl rfl rfl rfl rfl) rfl (by kernel_rfl) (qv 4 rfl (mv rfl rfl) rfl (by kernel_rfl) (qv 5 rfl (mv rfl rfl) rfl (by kernel_rfl) (qv 6 rfl (ix k e16 rfl rfl rfl rfl rfl (by omega)) rfl (by kernel_rfl) (qv 7 rfl (ldq 2 rfl rfl rfl rfl rfl rfl rfl) rfl (by kernel_rfl) (q1 8 [0, 0, 0, 0, 0, 0] rfl (by kernel_rfl) rfl (cs_ (v := .bool (decide (y8 = y19))) (by kernel_rfl) rfl rfl rfl (fun w_ hs_ => by exact laws_eqPair w_ (hs_.at 1 rfl) (hs_.at 0 rfl)) (qn (qv 9 rfl (nt rfl rfl) rfl (by kernel_rfl) (qe [0, 0, 0, 0, 0, 0] (by kernel_rfl) rfl (nx ?_))))))))))))))
      by_cases h27 : decide (y8 = y19) = true
      · exact cf rfl (not_f h27) (sk (xn (nx (rg (m_ rfl rfl (vl (ra (c := ((k + 1 : Nat) : Int)) rfl rfl rfl (by omega) (by omega) (by omega)) rfl (a_ rfl rfl (en (lpe (s := k) (k + 1) [4, 4] ⟨by omega, eq_step hinv m9 m20 (by simpa using h27)⟩ (by omega) ⟨rfl, rfl, rfl, trivial⟩ rfl)))))))))
      · refine ct rfl (not_t (Bool.eq_false_iff.2 h27)) (sq (rg (a_ rfl rfl (en (nx (rt (xrb (xr (xr (xrb (xr (ret1 rfl rfl (fun w_ hs_ => ⟨?_, hs_.below⟩)))))))))))))
        exact rb (eqS_f m9 m20 (by simpa using h27)).symm
    · refine cf rfl (decide_eq_false h2) (xt (xq (xq (xb (nx (sq (rg (a_ rfl rfl (en (nx (rt (ret1 rfl rfl (fun w_ hs_ => ⟨?_, hs_.below⟩)))))))))))))
      exact rb (eqS_t (by omega) hinv (by omega)).symm
  · refine ct rfl (bne_iff_ne.2 h1) (sq (rg (a_ rfl rfl (en (nx (rt (xr (ret1 rfl rfl (fun w_ hs_ => ⟨?_, hs_.below⟩)))))))))
    exact rb (by rw [eq_comm, decide_eq_false_iff_not]; rintro rfl; exact h1 rfl)
/-! laws.szPairS -/
set_option maxRecDepth 20000 in
set_option maxHeartbeats 2000000 in
theorem laws_szPairS (w : World) (left : Int) {Aa : Option Addr} {ca : Nat} {a : List Pair} {sa_ : List Nat} (ha : (Kd.sl kPairS).Rel w [.slice Aa a.length ca] a [] sa_) (h0 : 0 ≤ left) (h1 : left ≤ 1152921504606846976) : Calls Tryz.prog 51 #[.slice Aa a.length ca, .int .i64 left] w (fun e_ w2_ => e_ = .returned (.int .i64 (szTake (szList szPair a) left)) ∧ Below w.heap.size w w2_) := by
  have La := Kd.sl_len ha; have Ca := Kd.sl_cap ha
  refine fnc (X := X13 27 w) (args := [.slice Aa a.length ca, .int .i64 left]) (l := [(0, .slice Aa a.length ca), (1, .int .i64 left)]) (G := [dat (Kd.sl kPairS) [.slice Aa a.length ca] a ([]) sa_]) Tryz.func51 rfl rfl rfl ⟨rfl, rfl, trivial⟩ (s0d ha (s0n w)).1 ?_
  refine sq (rg (a_ rfl rfl (en (nx (sq (rg (m_ rfl rfl (m_ rfl rfl (vl (ln rfl rfl rfl) rfl (vl (rs (c := left - ((a.length : Nat) : Int)) rfl rfl rfl rfl (by omega) (by omega)) rfl (a_ rfl rfl (en (nx (sq (sq (rg (m_ rfl rfl (vl (cm rfl rfl rfl rfl) rfl (en (nx ?_))))))))))))))))))))
  by_cases h1 : left - ((a.length : Nat) : Int) < (0 : Int)
  · refine ct rfl (decide_eq_true h1) (sq (rg (a_ rfl rfl (en (nx (rt (xr (ret1 rfl rfl (fun w_ hs_ => ⟨?_, hs_.below⟩)))))))))
    exact ri (by have z := sum_nn szPair_nn a; unfold szTake szList; split <;> omega)
  · refine cf rfl (decide_eq_false h1) (sk (nx (sq (sq (rg (a_ rfl rfl (en (nx (bk ?_)))))))))
    refine lp (σ := Nat × Int) (fun z_ : Nat × Int => match z_ with | (k, v) => [(0, .slice Aa a.length ca), (1, .int .i64 v), (5, .int .i64 ((k : Nat) : Int))])
        (fun z_ : Nat × Int => match z_ with | (k, v) => [dat (Kd.sl kPairS) [.slice Aa a.length ca] a ([]) sa_])
        (fun z_ : Nat × Int => match z_ with | (k, v) => k ≤ a.length ∧ 0 ≤ v ∧ v = left - (a.length : Int) - sumTo szPair a k) (fun z_ : Nat × Int => match z_ with | (k, v) => a.length - k) (0, left - (a.length : Int)) [0] ⟨Nat.zero_le _, by omega, by simp [sumTo]⟩ ⟨rfl, rfl, rfl, trivial⟩ rfl ?_
    rintro ⟨k, v⟩ hp_
    obtain ⟨hk, hv0, hinv⟩ := hp_; have z1 := sumTo_nn szPair_nn a k; have z2 := sumTo_le szPair_nn a k
    refine sq (sq (rg (m_ rfl rfl (m_ rfl rfl (vl (ln rfl rfl rfl) rfl (vl (cm rfl rfl rfl rfl) rfl (en (nx ?_))))))))
    by_cases h2 : ((k : Nat) : Int) < ((a.length : Nat) : Int)
    · refine ct rfl (decide_eq_true h2) (sk (nx (sq (bk (sq (rg (m_ rfl rfl (m_ rfl rfl ?_))))))))
      refine gx 0 k rfl (by omega) fun y8 p3 cs_ s4 w7 m9 e5 r6 us4 => ?_
      obtain ⟨A10, c11, A12, c13, rfl⟩ := kPairS_sh r6
      refine vl (ix k e5 rfl rfl rfl rfl rfl (by omega)) rfl (vl (ldq 0 rfl rfl rfl rfl rfl rfl rfl) rfl (m_ rfl rfl ?_))
      refine gp 0 Kd.Sub.rfl rfl (cs' := [.int .i64 y8.id, .slice A10 y8.rect.low.length c11, .slice A12 y8.rect.high.length c13]) rfl fun s14 w_ rs14 us14 => ?_
      refine cs_ (v := .int .i64 (szTake (szPair y8) v)) (by kernel_rfl) rfl rfl rfl (fun w_ hs_ => laws_szPair w_ _ (hs_.at 0 rfl) (by omega) (by omega)) (a_ rfl rfl (en (nx (sq (rg (m_ rfl rfl (vl (cm rfl rfl rfl rfl) rfl (en (nx ?_)))))))))
      by_cases h15 : (szTake (szPair y8) v) < (0 : Int)
      · have eh15 := szTake_t h15
        refine ct rfl (decide_eq_true h15) (sq (rg (a_ rfl rfl (en (nx (rt (xrb (xr (xr (xrb (xr (ret1 rfl rfl (fun w_ hs_ => ⟨?_, hs_.below⟩)))))))))))))
        exact ri (by have z := sumTo_step (f := szPair) m9; have z3 := sumTo_le szPair_nn a (k + 1); unfold szTake szList; split <;> omega)
      · have eh15 := szTake_f h15
        exact cf rfl (decide_eq_false h15) (sk (xn (nx (rg (m_ rfl rfl (vl (ra (c := ((k + 1 : Nat) : Int)) rfl rfl rfl (by omega) (by omega) (by omega)) rfl (a_ rfl rfl (en (lpe (s := (k, v)) (k + 1, (szTake (szPair y8) v)) [2] ⟨by omega, by omega, by have z := sumTo_step (f := szPair) m9; omega⟩ (by show a.length - (k + 1) < a.length - k; omega) ⟨rfl, rfl, rfl, trivial⟩ rfl)))))))))
    · refine cf rfl (decide_eq_false h2) (xt (xq (xq (xb (nx (sq (rg (m_ rfl rfl (a_ rfl rfl (en (nx (rt (ret1 rfl rfl (fun w_ hs_ => ⟨?_, hs_.below⟩))))))))))))))
      exact ri (by have z := sumTo_end (f := szPair) (l := a) (k := k) (by omega); unfold szTake szList; split <;> omega)
/-! laws.toPairS -/
set_option maxRecDepth 20000 in
set_option maxHeartbeats 2000000 in
theorem laws_toPairS (w : World) {Aa : Option Addr} {ca : Nat} {a : List Pair} {sa_ : List Nat} (ha : (Kd.sl kPairS).Rel w [.slice Aa a.length ca] a [] sa_) (hz : szList szPair a ≤ 1048576) : Calls Tryz.prog 60 #[.slice Aa a.length ca] w (Made (Kd.row 176 kPairO) w a []) := by
  have La := Kd.sl_len ha; have Ca := Kd.sl_cap ha
  have zl := szList_len szPair_nn a
  refine fnc (X := X13 23 w) (args := [.slice Aa a.length ca]) (l := [(0, .slice Aa a.length ca)]) (G := [dat (Kd.sl kPairS) [.slice Aa a.length ca] a ([]) sa_]) Tryz.func60 rfl rfl rfl ⟨rfl, trivial⟩ (s0d ha (s0n w)).1 ?_
  refine sq (rg (a_ rfl rfl (en (nx (sq (rg (m_ rfl rfl (vl (ln rfl rfl rfl) rfl (mk (dk := kPairO) (z := zPair) rfl info176 rfl (fun _ => ⟨[_], _, [], [], [], [], rfl, rfl, rfl, ⟨rfl, rfl, rfl⟩, ⟨[_], _, [], [], [], [], rfl, rfl, rfl, .inl ⟨rfl, rfl, rfl, rfl⟩, .inl ⟨rfl, rfl, rfl, rfl⟩⟩⟩) rfl rfl (by omega) (by omega) rfl ?_)))))))))
  intro b1
  refine a_ rfl rfl (en (nx (sq (sq (rg (a_ rfl rfl (en (nx (bk ?_)))))))))
  refine lp (σ := Nat × List Nat × List Nat) (fun z_ : Nat × List Nat × List Nat => match z_ with | (k, o, s) => [(0, .slice Aa a.length ca), (3, .slice (some ⟨b1, 0, none⟩) a.length a.length), (4, .int .i64 ((k : Nat) : Int))])
      (fun z_ : Nat × List Nat × List Nat => match z_ with | (k, o, s) => [dat (Kd.row 176 kPairO) [.slice (some ⟨b1, 0, none⟩) a.length a.length] (a.take k ++ List.replicate (a.length - k) zPair) o s, dat (Kd.sl kPairS) [.slice Aa a.length ca] a ([]) sa_])
      (fun z_ : Nat × List Nat × List Nat => match z_ with | (k, o, s) => k ≤ a.length ∧ ∀ q ∈ s, w.heap.size ≤ q) (fun z_ : Nat × List Nat × List Nat => match z_ with | (k, o, s) => a.length - k) (0, [b1], []) [0, 0] ⟨Nat.zero_le _, by simp⟩ ⟨rfl, rfl, rfl, trivial⟩ rfl ?_
  rintro ⟨k, o, s⟩ hp_
  obtain ⟨hk, hinv⟩ := hp_
  refine sq (sq (rg (m_ rfl rfl (m_ rfl rfl (vl (ln rfl rfl rfl) rfl (vl (cm rfl rfl rfl rfl) rfl (en (nx ?_))))))))
  by_cases h2 : ((k : Nat) : Int) < ((a.length : Nat) : Int)
  · refine ct rfl (decide_eq_true h2) (sk (nx (sq (bk (rg (m_ rfl rfl (m_ rfl rfl (m_ rfl rfl (m_ rfl rfl ?_)))))))))
    refine gx 1 k rfl (by omega) fun y8 p3 cs_ s4 w7 m9 e5 r6 us4 => ?_
    obtain ⟨A10, c11, A12, c13, rfl⟩ := kPairS_sh r6
    refine vl (ix k e5 rfl rfl rfl rfl rfl (by omega)) rfl (vl (ldq 0 rfl rfl rfl rfl rfl rfl rfl) rfl ?_)
    refine gp 0 Kd.Sub.rfl rfl (cs' := [.int .i64 y8.id, .slice A10 y8.rect.low.length c11, .slice A12 y8.rect.high.length c13]) rfl fun s14 w_ rs14 us14 => ?_
    refine cm_ (dk := kPairO) (x := y8) (S := []) (by kernel_rfl) rfl rfl rfl sn0 (fun w_ hs_ => laws_toPair w_ (hs_.at 0 rfl) (by have z := szList_mem szPair_nn m9; omega)) (fun cs_ o19 s20 w_ r21 t22 => ?_)
    obtain ⟨A15, c16, A17, c18, rfl⟩ := kPairO_sh r21
    refine vl (ix k rfl rfl rfl rfl rfl rfl (by omega)) rfl (f3 (ste k rfl rfl rfl rfl rfl (by first | omega | (simp; omega)) (fun o24 s25 t26 => ?_)))
    exact gr (a.take (k + 1) ++ List.replicate (a.length - (k + 1)) zPair) (rowStep m9) (en (xn (nx (rg (m_ rfl rfl (vl (ra (c := ((k + 1 : Nat) : Int)) rfl rfl rfl (by omega) (by omega) (by omega)) rfl (a_ rfl rfl (en (lpe (s := (k, o, s)) (k + 1, o24, s25) [0, 2] ⟨by omega, fun q hq => (t26 q hq).elim (hinv q) (fun h => (t22 q h).resolve_left (by simp))⟩ (by show a.length - (k + 1) < a.length - k; omega) ⟨rfl, rfl, rfl, trivial⟩ rfl)))))))))
  · exact cf rfl (decide_eq_false h2) (xt (xq (xq (xb (nx (sq (rg (m_ rfl rfl (a_ rfl rfl (en (nx (rt (gr a (rowEnd (by omega)) (ret1 rfl rfl (fun w_ hs_ => made hs_ rfl (fun q hq => .inr (hinv q hq)))))))))))))))))
def szQuery (a : Query) : Int := szRect a.rect + (a.point.length : Int)
theorem szQuery_nn (a : Query) : 0 ≤ szQuery a := by have := szRect_nn a.rect; unfold szQuery; omega
def zQuery : Query := (⟨0, zRect, [], 0⟩ : Query)
/-! laws.eqQuery -/
set_option maxRecDepth 20000 in
set_option maxHeartbeats 2000000 in
theorem laws_eqQuery (w : World) {Aa1 : Option Addr} {ca1 : Nat} {Aa2 : Option Addr} {ca2 : Nat} {Aa3 : Option Addr} {ca3 : Nat} {a : Query} {sa_ : List Nat} (ha : kQueryS.Rel w [.int .i64 a.kind, .slice Aa1 a.rect.low.length ca1, .slice Aa2 a.rect.high.length ca2, .slice Aa3 a.point.length ca3, .int .i64 a.k] a [] sa_) {Ab1 : Option Addr} {cb1 : Nat} {Ab2 : Option Addr} {cb2 : Nat} {Ab3 : Option Addr} {cb3 : Nat} {b : Query} {sb_ : List Nat} (hb : kQueryS.Rel w [.int .i64 b.kind, .slice Ab1 b.rect.low.length cb1, .slice Ab2 b.rect.high.length cb2, .slice Ab3 b.point.length cb3, .int .i64 b.k] b [] sb_)  : Calls Tryz.prog 30 #[.agg #[.int .i64 a.kind, .slice Aa1 a.rect.low.length ca1, .slice Aa2 a.rect.high.length ca2, .slice Aa3 a.point.length ca3, .int .i64 a.k], .agg #[.int .i64 b.kind, .slice Ab1 b.rect.low.length cb1, .slice Ab2 b.rect.high.length cb2, .slice Ab3 b.point.length cb3, .int .i64 b.k]] w (fun e_ w2_ => e_ = .returned (.bool (decide (a = b))) ∧ Below w.heap.size w w2_) := by
  refine fnc (X := X13 27 w) (args := [.agg #[.int .i64 a.kind, .slice Aa1 a.rect.low.length ca1, .slice Aa2 a.rect.high.length ca2, .slice Aa3 a.point.length ca3, .int .i64 a.k], .agg #[.int .i64 b.kind, .slice Ab1 b.rect.low.length cb1, .slice Ab2 b.rect.high.length cb2, .slice Ab3 b.point.length cb3, .int .i64 b.k]]) (l := [(0, .agg #[.int .i64 a.kind, .slice Aa1 a.rect.low.length ca1, .slice Aa2 a.rect.high.length ca2, .slice Aa3 a.point.length ca3, .int .i64 a.k]), (1, .agg #[.int .i64 b.kind, .slice Ab1 b.rect.low.length cb1, .slice Ab2 b.rect.high.length cb2, .slice Ab3 b.point.length cb3, .int .i64 b.k])]) (G := [dat kQueryS [.int .i64 b.kind, .slice Ab1 b.rect.low.length cb1, .slice Ab2 b.rect.high.length cb2, .slice Ab3 b.point.length cb3, .int .i64 b.k] b ([]) sb_, dat kQueryS [.int .i64 a.kind, .slice Aa1 a.rect.low.length ca1, .slice Aa2 a.rect.high.length ca2, .slice Aa3 a.point.length ca3, .int .i64 a.k] a ([]) sa_]) Tryz.func30 rfl rfl rfl ⟨rfl, rfl, trivial⟩ (s0d hb (s0d ha (s0n w))).1 ?_
  refine sq (rg (bx rfl rfl rfl rfl ?_))
  intro b1
  refine bx rfl rfl rfl rfl ?_
  intro b2
  refine a_ rfl rfl (en (nx (sq (sq (rg (vl (fa rfl rfl rfl) rfl (vl (ldb (u := .int .i64 a.kind) 1 rfl rfl rfl rfl rfl rfl rfl) rfl (vl (fa rfl rfl rfl) rfl (vl (ldb (u := .int .i64 b.kind) 0 rfl rfl rfl rfl rfl rfl rfl) rfl (vl (cm rfl rfl rfl rfl) rfl (en (nx ?_))))))))))))
  by_cases h3 : a.kind = b.kind
  · refine cf rfl (bne_eq_false_iff_eq.2 h3) (sk (nx (sq (sq (rg (vl (fa rfl rfl rfl) rfl (vl (ldb 1 rfl rfl rfl rfl rfl rfl rfl) rfl (vl (fa rfl rfl rfl) rfl (vl (ldb 0 rfl rfl rfl rfl rfl rfl rfl) rfl ?_)))))))))
    refine gd 3 kQueryS_p1_2 rfl (cs' := [.slice Aa1 a.rect.low.length ca1, .slice Aa2 a.rect.high.length ca2]) rfl fun s4 w_ rs4 us4 => ?_
    refine gd 3 kQueryS_p1_2 rfl (cs' := [.slice Ab1 b.rect.low.length cb1, .slice Ab2 b.rect.high.length cb2]) rfl fun s5 w_ rs5 us5 => ?_
    refine cs_ (v := .bool (decide (a.rect = b.rect))) (by kernel_rfl) rfl rfl rfl (fun w_ hs_ => laws_eqRect w_ (hs_.at 1 rfl) (hs_.at 0 rfl)) (vl (nt rfl rfl) rfl (en (nx ?_)))
    by_cases h6 : decide (a.rect = b.rect) = true
    · refine cf rfl (not_f h6) (sk (nx (sq (sq (rg (vl (fa rfl rfl rfl) rfl (vl (ldb (u := .slice Aa3 a.point.length ca3) 3 rfl rfl rfl rfl rfl rfl rfl) rfl (vl (fa rfl rfl rfl) rfl (vl (ldb (u := .slice Ab3 b.point.length cb3) 2 rfl rfl rfl rfl rfl rfl rfl) rfl ?_)))))))))
      refine gd 5 kQueryS_p3_1 rfl (cs' := [.slice Aa3 a.point.length ca3]) rfl fun s7 w_ rs7 us7 => ?_
      have Ls7 := Kd.sl_len rs7; have Cs7 := Kd.sl_cap rs7
      refine gd 5 kQueryS_p3_1 rfl (cs' := [.slice Ab3 b.point.length cb3]) rfl fun s8 w_ rs8 us8 => ?_
      have Ls8 := Kd.sl_len rs8; have Cs8 := Kd.sl_cap rs8
      refine cs_ (v := .bool (decide (a.point = b.point))) (by kernel_rfl) rfl rfl rfl (fun w_ hs_ => laws_eqInt64S w_ (hs_.at 1 rfl) (hs_.at 0 rfl)) (vl (nt rfl rfl) rfl (en (nx ?_)))
      by_cases h9 : decide (a.point = b.point) = true
      · refine cf rfl (not_f h9) (sk (nx (sq (sq (rg (vl (fa rfl rfl rfl) rfl (vl (ldb (u := .int .i64 a.k) 5 rfl rfl rfl rfl rfl rfl rfl) rfl (vl (fa rfl rfl rfl) rfl (vl (ldb (u := .int .i64 b.k) 4 rfl rfl rfl rfl rfl rfl rfl) rfl (vl (cm rfl rfl rfl rfl) rfl (en (nx ?_))))))))))))
        by_cases h10 : a.k = b.k
        · refine cf rfl (bne_eq_false_iff_eq.2 h10) (sk (nx (sq (rg (a_ rfl rfl (en (nx (rt (ret1 rfl rfl (fun w_ hs_ => ⟨?_, hs_.below⟩))))))))))
          rw [Query_eq]; simp [h3, h6, h9, h10]
        · refine ct rfl (bne_iff_ne.2 h10) (sq (rg (a_ rfl rfl (en (nx (rt (xr (ret1 rfl rfl (fun w_ hs_ => ⟨?_, hs_.below⟩)))))))))
          rw [Query_eq]; simp [h3, h6, h9, h10]
      · refine ct rfl (not_t (Bool.eq_false_iff.2 h9)) (sq (rg (a_ rfl rfl (en (nx (rt (xr (ret1 rfl rfl (fun w_ hs_ => ⟨?_, hs_.below⟩)))))))))
        rw [Query_eq]; simp [h3, h6, h9]
    · refine ct rfl (not_t (Bool.eq_false_iff.2 h6)) (sq (rg (a_ rfl rfl (en (nx (rt (xr (ret1 rfl rfl (fun w_ hs_ => ⟨?_, hs_.below⟩)))))))))
      rw [Query_eq]; simp [h3, h6]
  · refine ct rfl (bne_iff_ne.2 h3) (sq (rg (a_ rfl rfl (en (nx (rt (xr (ret1 rfl rfl (fun w_ hs_ => ⟨?_, hs_.below⟩)))))))))
    rw [Query_eq]; simp [h3]
/-! laws.szQuery -/
set_option maxRecDepth 20000 in
set_option maxHeartbeats 2000000 in
theorem laws_szQuery (w : World) (left : Int) {Aa1 : Option Addr} {ca1 : Nat} {Aa2 : Option Addr} {ca2 : Nat} {Aa3 : Option Addr} {ca3 : Nat} {a : Query} {sa_ : List Nat} (ha : kQueryS.Rel w [.int .i64 a.kind, .slice Aa1 a.rect.low.length ca1, .slice Aa2 a.rect.high.length ca2, .slice Aa3 a.point.length ca3, .int .i64 a.k] a [] sa_) (h0 : 0 ≤ left) (h1 : left ≤ 1152921504606846976) : Calls Tryz.prog 26 #[.agg #[.int .i64 a.kind, .slice Aa1 a.rect.low.length ca1, .slice Aa2 a.rect.high.length ca2, .slice Aa3 a.point.length ca3, .int .i64 a.k], .int .i64 left] w (fun e_ w2_ => e_ = .returned (.int .i64 (szTake (szQuery a) left)) ∧ Below w.heap.size w w2_) := by
  have n0 := szRect_nn a.rect
  refine fnc (X := X13 18 w) (args := [.agg #[.int .i64 a.kind, .slice Aa1 a.rect.low.length ca1, .slice Aa2 a.rect.high.length ca2, .slice Aa3 a.point.length ca3, .int .i64 a.k], .int .i64 left]) (l := [(0, .agg #[.int .i64 a.kind, .slice Aa1 a.rect.low.length ca1, .slice Aa2 a.rect.high.length ca2, .slice Aa3 a.point.length ca3, .int .i64 a.k]), (1, .int .i64 left)]) (G := [dat kQueryS [.int .i64 a.kind, .slice Aa1 a.rect.low.length ca1, .slice Aa2 a.rect.high.length ca2, .slice Aa3 a.point.length ca3, .int .i64 a.k] a ([]) sa_]) Tryz.func26 rfl rfl rfl ⟨rfl, rfl, trivial⟩ (s0d ha (s0n w)).1 ?_
  refine sq (rg (bx rfl rfl rfl rfl ?_))
  intro b1
  refine a_ rfl rfl (en (nx (sq (rg (vl (fa rfl rfl rfl) rfl (vl (ldb 0 rfl rfl rfl rfl rfl rfl rfl) rfl (m_ rfl rfl ?_)))))))
  refine gd 1 kQueryS_p1_2 rfl (cs' := [.slice Aa1 a.rect.low.length ca1, .slice Aa2 a.rect.high.length ca2]) rfl fun s2 w_ rs2 us2 => ?_
  refine cs_ (v := .int .i64 (szTake (szRect a.rect) left)) (by kernel_rfl) rfl rfl rfl (fun w_ hs_ => laws_szRect w_ _ (hs_.at 0 rfl) (by omega) (by omega)) (a_ rfl rfl (en (nx (sq (sq (rg (m_ rfl rfl (vl (cm rfl rfl rfl rfl) rfl (en (nx ?_))))))))))
  by_cases h3 : (szTake (szRect a.rect) left) < (0 : Int)
  · have eh3 := szTake_t h3
    refine ct rfl (decide_eq_true h3) (sq (rg (a_ rfl rfl (en (nx (rt (xr (ret1 rfl rfl (fun w_ hs_ => ⟨?_, hs_.below⟩)))))))))
    exact ri (by unfold szTake szQuery; split <;> omega)
  · have eh3 := szTake_f h3
    refine cf rfl (decide_eq_false h3) (sk (nx (sq (rg (vl (fa rfl rfl rfl) rfl (vl (ldb (u := .slice Aa3 a.point.length ca3) 1 rfl rfl rfl rfl rfl rfl rfl) rfl (m_ rfl rfl ?_)))))))
    refine gd 2 kQueryS_p3_1 rfl (cs' := [.slice Aa3 a.point.length ca3]) rfl fun s4 w_ rs4 us4 => ?_
    have Ls4 := Kd.sl_len rs4; have Cs4 := Kd.sl_cap rs4
    refine cs_ (v := .int .i64 (szTake ((a.point.length : Nat) : Int) (szTake (szRect a.rect) left))) (by kernel_rfl) rfl rfl rfl (fun w_ hs_ => laws_szInt64S w_ _ (hs_.at 0 rfl) (by omega) (by omega)) (a_ rfl rfl (en (nx (sq (sq (rg (m_ rfl rfl (vl (cm rfl rfl rfl rfl) rfl (en (nx ?_))))))))))
    by_cases h5 : (szTake ((a.point.length : Nat) : Int) (szTake (szRect a.rect) left)) < (0 : Int)
    · have eh5 := szTake_t h5
      refine ct rfl (decide_eq_true h5) (sq (rg (a_ rfl rfl (en (nx (rt (xr (ret1 rfl rfl (fun w_ hs_ => ⟨?_, hs_.below⟩)))))))))
      exact ri (by unfold szTake szQuery; split <;> omega)
    · have eh5 := szTake_f h5
      refine cf rfl (decide_eq_false h5) (sk (nx (sq (rg (m_ rfl rfl (a_ rfl rfl (en (nx (rt (ret1 rfl rfl (fun w_ hs_ => ⟨?_, hs_.below⟩)))))))))))
      exact ri (by unfold szTake szQuery; split <;> omega)
/-! laws.toQuery -/
set_option maxRecDepth 20000 in
set_option maxHeartbeats 2000000 in
theorem laws_toQuery (w : World) {Aa1 : Option Addr} {ca1 : Nat} {Aa2 : Option Addr} {ca2 : Nat} {Aa3 : Option Addr} {ca3 : Nat} {a : Query} {sa_ : List Nat} (ha : kQueryS.Rel w [.int .i64 a.kind, .slice Aa1 a.rect.low.length ca1, .slice Aa2 a.rect.high.length ca2, .slice Aa3 a.point.length ca3, .int .i64 a.k] a [] sa_) (hz : szQuery a ≤ 1048576) : Calls Tryz.prog 28 #[.agg #[.int .i64 a.kind, .slice Aa1 a.rect.low.length ca1, .slice Aa2 a.rect.high.length ca2, .slice Aa3 a.point.length ca3, .int .i64 a.k]] w (Made kQueryO w a []) := by
  unfold szQuery at hz; have n0 := szRect_nn a.rect
  refine fnc (X := X13 19 w) (args := [.agg #[.int .i64 a.kind, .slice Aa1 a.rect.low.length ca1, .slice Aa2 a.rect.high.length ca2, .slice Aa3 a.point.length ca3, .int .i64 a.k]]) (l := [(0, .agg #[.int .i64 a.kind, .slice Aa1 a.rect.low.length ca1, .slice Aa2 a.rect.high.length ca2, .slice Aa3 a.point.length ca3, .int .i64 a.k])]) (G := [dat kQueryS [.int .i64 a.kind, .slice Aa1 a.rect.low.length ca1, .slice Aa2 a.rect.high.length ca2, .slice Aa3 a.point.length ca3, .int .i64 a.k] a ([]) sa_]) Tryz.func28 rfl rfl rfl ⟨rfl, trivial⟩ (s0d ha (s0n w)).1 ?_
  refine sq (rg (bx rfl rfl rfl rfl ?_))
  intro b1
  refine al zero58 rfl rfl rfl ?_
  intro b2
  refine en (nx (sq (rg (al zero58 rfl rfl rfl ?_))))
  intro b3
  refine en (nx (sq (rg (vl (fa rfl rfl rfl) rfl (vl (ldb (u := .int .i64 a.kind) 2 rfl rfl rfl rfl rfl rfl rfl) rfl (vl (fa rfl rfl rfl) rfl (sto rfl rfl rfl rfl rfl rfl rfl (cs' := [.int .i64 a.kind, .slice none 0 0, .slice none 0 0, .slice none 0 0, .int .i64 0]) rfl (en (nx (sq (rg (vl (fa rfl rfl rfl) rfl (vl (ldb 2 rfl rfl rfl rfl rfl rfl rfl) rfl ?_)))))))))))))
  refine gd 3 kQueryS_p1_2 rfl (cs' := [.slice Aa1 a.rect.low.length ca1, .slice Aa2 a.rect.high.length ca2]) rfl fun s4 w_ rs4 us4 => ?_
  refine cm_ (dk := kRectO) (x := a.rect) (S := []) (by kernel_rfl) rfl rfl rfl sn0 (fun w_ hs_ => laws_toRect w_ (hs_.at 0 rfl) (by omega)) (fun cs_ o9 s10 w_ r11 t12 => ?_)
  obtain ⟨A5, c6, A7, c8, rfl⟩ := kRectO_sh r11
  refine vl (fa rfl rfl rfl) rfl (f2 (sto rfl rfl rfl rfl rfl rfl rfl (cs' := [.int .i64 a.kind, .slice A5 a.rect.low.length c6, .slice A7 a.rect.high.length c8, .slice none 0 0, .int .i64 0]) rfl (en (nx (sq (rg (vl (fa rfl rfl rfl) rfl (vl (ldb (u := .slice Aa3 a.point.length ca3) 4 rfl rfl rfl rfl rfl rfl rfl) rfl ?_))))))))
  refine gd 5 kQueryS_p3_1 rfl (cs' := [.slice Aa3 a.point.length ca3]) rfl fun s14 w_ rs14 us14 => ?_
  have Ls14 := Kd.sl_len rs14; have Cs14 := Kd.sl_cap rs14
  refine cm_ (dk := (Kd.row 2 Kd.i64)) (x := a.point) (S := []) (by kernel_rfl) rfl rfl rfl sn0 (fun w_ hs_ => laws_toInt64S w_ (hs_.at 0 rfl) (by omega)) (fun cs_ o17 s18 w_ r19 t20 => ?_)
  obtain ⟨A15, c16, rfl⟩ := Kd.row_sh r19
  exact vl (fa rfl rfl rfl) rfl (f2 (sto rfl rfl rfl rfl rfl rfl rfl (cs' := [.int .i64 a.kind, .slice A5 a.rect.low.length c6, .slice A7 a.rect.high.length c8, .slice A15 a.point.length c16, .int .i64 0]) rfl (en (nx (sq (rg (vl (fa rfl rfl rfl) rfl (vl (ldb (u := .int .i64 a.k) 6 rfl rfl rfl rfl rfl rfl rfl) rfl (vl (fa rfl rfl rfl) rfl (sto rfl rfl rfl rfl rfl rfl rfl (cs' := [.int .i64 a.kind, .slice A5 a.rect.low.length c6, .slice A7 a.rect.high.length c8, .slice A15 a.point.length c16, .int .i64 a.k]) rfl (en (nx (sq (rg (vl (ldb 0 rfl rfl rfl rfl rfl rfl rfl) rfl (f5 (sto rfl rfl rfl rfl rfl rfl rfl (cs' := [.int .i64 a.kind, .slice A5 a.rect.low.length c6, .slice A7 a.rect.high.length c8, .slice A15 a.point.length c16, .int .i64 a.k]) rfl (en (nx (rt (gs Kd.i64 [.int .i64 a.k] a.k (fun _ => ⟨rfl, rfl, rfl⟩) (f3 (gj (da := (Kd.via (Kd.row 2 Kd.i64) Query.point)) (db := (Kd.via Kd.i64 Query.k)) (x := a) (cs := [.slice A15 a.point.length c16, .int .i64 a.k]) rfl (f4 (gj (da := (Kd.via kRectO Query.rect)) (db := ((Kd.via (Kd.row 2 Kd.i64) Query.point).cat (Kd.via Kd.i64 Query.k))) (x := a) (cs := [.slice A5 a.rect.low.length c6, .slice A7 a.rect.high.length c8, .slice A15 a.point.length c16, .int .i64 a.k]) rfl (gs Kd.i64 [.int .i64 a.kind] a.kind (fun _ => ⟨rfl, rfl, rfl⟩) (gj (da := (Kd.via Kd.i64 Query.kind)) (db := ((Kd.via kRectO Query.rect).cat ((Kd.via (Kd.row 2 Kd.i64) Query.point).cat (Kd.via Kd.i64 Query.k)))) (x := a) (cs := [.int .i64 a.kind, .slice A5 a.rect.low.length c6, .slice A7 a.rect.high.length c8, .slice A15 a.point.length c16, .int .i64 a.k]) rfl (retc 1 rfl rfl rfl rfl rfl rfl (fun w_ hs_ => made hs_ rfl (see_app see_nil (see_app t12 (see_app t20 see_nil))))))))))))))))))))))))))))))))
def szMark (a : Mark) : Int := 0
theorem szMark_nn (a : Mark) : 0 ≤ szMark a := by unfold szMark; omega
def zMark : Mark := (⟨0, 0, 0⟩ : Mark)
/-! laws.eqMark -/
set_option maxRecDepth 20000 in
set_option maxHeartbeats 2000000 in
theorem laws_eqMark (w : World)  {a : Mark} {sa_ : List Nat} (ha : kMarkS.Rel w [.int .i64 a.dist, .int .i64 a.id, .int .i64 a.nsn] a [] sa_)  {b : Mark} {sb_ : List Nat} (hb : kMarkS.Rel w [.int .i64 b.dist, .int .i64 b.id, .int .i64 b.nsn] b [] sb_)  : Calls Tryz.prog 137 #[.agg #[.int .i64 a.dist, .int .i64 a.id, .int .i64 a.nsn], .agg #[.int .i64 b.dist, .int .i64 b.id, .int .i64 b.nsn]] w (fun e_ w2_ => e_ = .returned (.bool (decide (a = b))) ∧ Below w.heap.size w w2_) := by
  refine fnc (X := X13 20 w) (args := [.agg #[.int .i64 a.dist, .int .i64 a.id, .int .i64 a.nsn], .agg #[.int .i64 b.dist, .int .i64 b.id, .int .i64 b.nsn]]) (l := [(0, .agg #[.int .i64 a.dist, .int .i64 a.id, .int .i64 a.nsn]), (1, .agg #[.int .i64 b.dist, .int .i64 b.id, .int .i64 b.nsn])]) (G := [dat kMarkS [.int .i64 b.dist, .int .i64 b.id, .int .i64 b.nsn] b ([]) sb_, dat kMarkS [.int .i64 a.dist, .int .i64 a.id, .int .i64 a.nsn] a ([]) sa_]) Tryz.func137 rfl rfl rfl ⟨rfl, rfl, trivial⟩ (s0d hb (s0d ha (s0n w))).1 ?_
  refine sq (rg (bx rfl rfl rfl rfl ?_))
  intro b1
  refine bx rfl rfl rfl rfl ?_
  intro b2
  refine a_ rfl rfl (en (nx (sq (sq (rg (vl (fa rfl rfl rfl) rfl (vl (ldb (u := .int .i64 a.dist) 1 rfl rfl rfl rfl rfl rfl rfl) rfl (vl (fa rfl rfl rfl) rfl (vl (ldb (u := .int .i64 b.dist) 0 rfl rfl rfl rfl rfl rfl rfl) rfl (vl (cm rfl rfl rfl rfl) rfl (en (nx ?_))))))))))))
  by_cases h3 : a.dist = b.dist
  · refine cf rfl (bne_eq_false_iff_eq.2 h3) (sk (nx (sq (sq (rg (vl (fa rfl rfl rfl) rfl (vl (ldb (u := .int .i64 a.id) 1 rfl rfl rfl rfl rfl rfl rfl) rfl (vl (fa rfl rfl rfl) rfl (vl (ldb (u := .int .i64 b.id) 0 rfl rfl rfl rfl rfl rfl rfl) rfl (vl (cm rfl rfl rfl rfl) rfl (en (nx ?_))))))))))))
    by_cases h4 : a.id = b.id
    · refine cf rfl (bne_eq_false_iff_eq.2 h4) (sk (nx (sq (sq (rg (vl (fa rfl rfl rfl) rfl (vl (ldb (u := .int .i64 a.nsn) 1 rfl rfl rfl rfl rfl rfl rfl) rfl (vl (fa rfl rfl rfl) rfl (vl (ldb (u := .int .i64 b.nsn) 0 rfl rfl rfl rfl rfl rfl rfl) rfl (vl (cm rfl rfl rfl rfl) rfl (en (nx ?_))))))))))))
      by_cases h5 : a.nsn = b.nsn
      · refine cf rfl (bne_eq_false_iff_eq.2 h5) (sk (nx (sq (rg (a_ rfl rfl (en (nx (rt (ret1 rfl rfl (fun w_ hs_ => ⟨?_, hs_.below⟩))))))))))
        rw [Mark_eq]; simp [h3, h4, h5]
      · refine ct rfl (bne_iff_ne.2 h5) (sq (rg (a_ rfl rfl (en (nx (rt (xr (ret1 rfl rfl (fun w_ hs_ => ⟨?_, hs_.below⟩)))))))))
        rw [Mark_eq]; simp [h3, h4, h5]
    · refine ct rfl (bne_iff_ne.2 h4) (sq (rg (a_ rfl rfl (en (nx (rt (xr (ret1 rfl rfl (fun w_ hs_ => ⟨?_, hs_.below⟩)))))))))
      rw [Mark_eq]; simp [h3, h4]
  · refine ct rfl (bne_iff_ne.2 h3) (sq (rg (a_ rfl rfl (en (nx (rt (xr (ret1 rfl rfl (fun w_ hs_ => ⟨?_, hs_.below⟩)))))))))
    rw [Mark_eq]; simp [h3]
/-! laws.toMark -/
set_option maxRecDepth 20000 in
set_option maxHeartbeats 2000000 in
theorem laws_toMark (w : World)  {a : Mark} {sa_ : List Nat} (ha : kMarkS.Rel w [.int .i64 a.dist, .int .i64 a.id, .int .i64 a.nsn] a [] sa_) (hz : szMark a ≤ 1048576) : Calls Tryz.prog 122 #[.agg #[.int .i64 a.dist, .int .i64 a.id, .int .i64 a.nsn]] w (Made kMarkO w a []) := by
  unfold szMark at hz
  refine fnc (X := X13 14 w) (args := [.agg #[.int .i64 a.dist, .int .i64 a.id, .int .i64 a.nsn]]) (l := [(0, .agg #[.int .i64 a.dist, .int .i64 a.id, .int .i64 a.nsn])]) (G := [dat kMarkS [.int .i64 a.dist, .int .i64 a.id, .int .i64 a.nsn] a ([]) sa_]) Tryz.func122 rfl rfl rfl ⟨rfl, trivial⟩ (s0d ha (s0n w)).1 ?_
  refine sq (rg (bx rfl rfl rfl rfl ?_))
  intro b1
  refine al zero172 rfl rfl rfl ?_
  intro b2
  refine en (nx (sq (rg (al zero172 rfl rfl rfl ?_))))
  intro b3
  exact en (nx (sq (rg (vl (fa rfl rfl rfl) rfl (vl (ldb (u := .int .i64 a.dist) 2 rfl rfl rfl rfl rfl rfl rfl) rfl (vl (fa rfl rfl rfl) rfl (sto rfl rfl rfl rfl rfl rfl rfl (cs' := [.int .i64 a.dist, .int .i64 0, .int .i64 0]) rfl (en (nx (sq (rg (vl (fa rfl rfl rfl) rfl (vl (ldb (u := .int .i64 a.id) 2 rfl rfl rfl rfl rfl rfl rfl) rfl (vl (fa rfl rfl rfl) rfl (sto rfl rfl rfl rfl rfl rfl rfl (cs' := [.int .i64 a.dist, .int .i64 a.id, .int .i64 0]) rfl (en (nx (sq (rg (vl (fa rfl rfl rfl) rfl (vl (ldb (u := .int .i64 a.nsn) 2 rfl rfl rfl rfl rfl rfl rfl) rfl (vl (fa rfl rfl rfl) rfl (sto rfl rfl rfl rfl rfl rfl rfl (cs' := [.int .i64 a.dist, .int .i64 a.id, .int .i64 a.nsn]) rfl (en (nx (sq (rg (vl (ldb 0 rfl rfl rfl rfl rfl rfl rfl) rfl (f1 (sto rfl rfl rfl rfl rfl rfl rfl (cs' := [.int .i64 a.dist, .int .i64 a.id, .int .i64 a.nsn]) rfl (en (nx (rt (gs Kd.i64 [.int .i64 a.nsn] a.nsn (fun _ => ⟨rfl, rfl, rfl⟩) (gs Kd.i64 [.int .i64 a.id] a.id (fun _ => ⟨rfl, rfl, rfl⟩) (gj (da := (Kd.via Kd.i64 Mark.id)) (db := (Kd.via Kd.i64 Mark.nsn)) (x := a) (cs := [.int .i64 a.id, .int .i64 a.nsn]) rfl (gs Kd.i64 [.int .i64 a.dist] a.dist (fun _ => ⟨rfl, rfl, rfl⟩) (gj (da := (Kd.via Kd.i64 Mark.dist)) (db := ((Kd.via Kd.i64 Mark.id).cat (Kd.via Kd.i64 Mark.nsn))) (x := a) (cs := [.int .i64 a.dist, .int .i64 a.id, .int .i64 a.nsn]) rfl (retc 1 rfl rfl rfl rfl rfl rfl (fun w_ hs_ => made hs_ rfl (see_app see_nil (see_app see_nil see_nil))))))))))))))))))))))))))))))))))))))))))
/-! laws.eqMarkS -/
set_option maxRecDepth 20000 in
set_option maxHeartbeats 2000000 in
theorem laws_eqMarkS (w : World) {Aa : Option Addr} {ca : Nat} {a : List Mark} {sa_ : List Nat} (ha : (Kd.sl kMarkS).Rel w [.slice Aa a.length ca] a [] sa_) {Ab : Option Addr} {cb : Nat} {b : List Mark} {sb_ : List Nat} (hb : (Kd.sl kMarkS).Rel w [.slice Ab b.length cb] b [] sb_)  : Calls Tryz.prog 70 #[.slice Aa a.length ca, .slice Ab b.length cb] w (fun e_ w2_ => e_ = .returned (.bool (decide (a = b))) ∧ Below w.heap.size w w2_) := by
  have La := Kd.sl_len ha; have Ca := Kd.sl_cap ha
  have Lb := Kd.sl_len hb; have Cb := Kd.sl_cap hb
  refine fnc (X := X13 27 w) (args := [.slice Aa a.length ca, .slice Ab b.length cb]) (l := [(0, .slice Aa a.length ca), (1, .slice Ab b.length cb)]) (G := [dat (Kd.sl kMarkS) [.slice Ab b.length cb] b ([]) sb_, dat (Kd.sl kMarkS) [.slice Aa a.length ca] a ([]) sa_]) Tryz.func70 rfl rfl rfl ⟨rfl, rfl, trivial⟩ (s0d hb (s0d ha (s0n w))).1 ?_
  refine sq (rg (a_ rfl rfl (en (nx (sq (sq (rg (m_ rfl rfl (vl (ln rfl rfl rfl) rfl (m_ rfl rfl (vl (ln rfl rfl rfl) rfl (vl (cm rfl rfl rfl rfl) rfl (en (nx ?_))))))))))))))
  by_cases h1 : ((a.length : Nat) : Int) = ((b.length : Nat) : Int)
  · refine cf rfl (bne_eq_false_iff_eq.2 h1) (sk (nx (sq (sq (rg (a_ rfl rfl (en (nx (bk ?_)))))))))
    refine lp (σ := Nat) (fun k : Nat => [(0, .slice Aa a.length ca), (1, .slice Ab b.length cb), (5, .int .i64 ((k : Nat) : Int))])
        (fun k : Nat => [dat (Kd.sl kMarkS) [.slice Ab b.length cb] b ([]) sb_, dat (Kd.sl kMarkS) [.slice Aa a.length ca] a ([]) sa_])
        (fun k : Nat => k ≤ a.length ∧ ∀ j x y, j < k → a[j]? = some x → b[j]? = some y → x = y) (fun k : Nat => a.length - k) 0 [0, 0] ⟨Nat.zero_le _, by simp⟩ ⟨rfl, rfl, rfl, trivial⟩ rfl ?_
    intro k hp_
    obtain ⟨hk, hinv⟩ := hp_
    refine sq (sq (rg (m_ rfl rfl (m_ rfl rfl (vl (ln rfl rfl rfl) rfl (vl (cm rfl rfl rfl rfl) rfl (en (nx ?_))))))))
    by_cases h2 : ((k : Nat) : Int) < ((a.length : Nat) : Int)
    · refine ct rfl (decide_eq_true h2) (sk (nx (sq (bk (sq ?_)))))
      refine gx 1 k rfl (by omega) fun y8 p3 cs_ s4 w7 m9 e5 r6 us4 => ?_
      obtain ⟨rfl⟩ := kMarkS_sh r6
      refine gx 1 k rfl (by omega) fun y15 p10 cs_ s11 w14 m16 e12 r13 us11 => ?_
      obtain ⟨rfl⟩ := kMarkS_sh r13
      refine gp 1 Kd.Sub.rfl rfl (cs' := [.int .i64 y8.dist, .int .i64 y8.id, .int .i64 y8.nsn]) rfl fun s17 w_ rs17 us17 => ?_
      refine gp 1 Kd.Sub.rfl rfl (cs' := [.int .i64 y15.dist, .int .i64 y15.id, .int .i64 y15.nsn]) rfl fun s18 w_ rs18 us18 => ?_
      refine r0 (qv 0 rfl (mv rfl rfl) rfl (by kernel_rfl) (qv 1 rfl (mv rfl rfl) rfl (by kernel_rfl) (qv 2 rfl (ix k e5 rfl rfl rfl rfl rfl (by omega)) rfl (by kernel_rfl) (qv 3 rfl (ldq 3 rfl rfl rfl rfl rfl rfl rfl) rfl (by kernel_rfl) (qv 4 rfl (mv rfl rfl) rfl (by kernel_rfl) (qv 5 rfl (mv rfl rfl) rfl (by kernel_rfl) (qv 6 rfl (ix k e12 rfl rfl rfl rfl rfl (by omega)) rfl (by kernel_rfl) (qv 7 rfl (ldq 2 rfl rfl rfl rfl rfl rfl rfl) rfl (by kernel_rfl) (q1 8 [0, 0, 0, 0, 0, 0] rfl (by kernel_rfl) rfl (cs_ (v := .bool (decide (y8 = y15))) (by kernel_rfl) rfl rfl rfl (fun w_ hs_ => by exact laws_eqMark w_ (hs_.at 1 rfl) (hs_.at 0 rfl)) (qn (qv 9 rfl (nt rfl rfl) rfl (by kernel_rfl) (qe [0, 0, 0, 0, 0, 0] (by kernel_rfl) rfl (nx ?_))))))))))))))
      by_cases h19 : decide (y8 = y15) = true
      · exact cf rfl (not_f h19) (sk (xn (nx (rg (m_ rfl rfl (vl (ra (c := ((k + 1 : Nat) : Int)) rfl rfl rfl (by omega) (by omega) (by omega)) rfl (a_ rfl rfl (en (lpe (s := k) (k + 1) [4, 4] ⟨by omega, eq_step hinv m9 m16 (by simpa using h19)⟩ (by omega) ⟨rfl, rfl, rfl, trivial⟩ rfl)))))))))
      · refine ct rfl (not_t (Bool.eq_false_iff.2 h19)) (sq (rg (a_ rfl rfl (en (nx (rt (xrb (xr (xr (xrb (xr (ret1 rfl rfl (fun w_ hs_ => ⟨?_, hs_.below⟩)))))))))))))
        exact rb (eqS_f m9 m16 (by simpa using h19)).symm
    · refine cf rfl (decide_eq_false h2) (xt (xq (xq (xb (nx (sq (rg (a_ rfl rfl (en (nx (rt (ret1 rfl rfl (fun w_ hs_ => ⟨?_, hs_.below⟩)))))))))))))
      exact rb (eqS_t (by omega) hinv (by omega)).symm
  · refine ct rfl (bne_iff_ne.2 h1) (sq (rg (a_ rfl rfl (en (nx (rt (xr (ret1 rfl rfl (fun w_ hs_ => ⟨?_, hs_.below⟩)))))))))
    exact rb (by rw [eq_comm, decide_eq_false_iff_not]; rintro rfl; exact h1 rfl)
/-! laws.szMarkS -/
set_option maxRecDepth 20000 in
set_option maxHeartbeats 2000000 in
theorem laws_szMarkS (w : World) (left : Int) {Aa : Option Addr} {ca : Nat} {a : List Mark} {sa_ : List Nat} (ha : (Kd.sl kMarkS).Rel w [.slice Aa a.length ca] a [] sa_) (h0 : 0 ≤ left) (h1 : left ≤ 1152921504606846976) : Calls Tryz.prog 50 #[.slice Aa a.length ca, .int .i64 left] w (fun e_ w2_ => e_ = .returned (.int .i64 (szTake ((a.length : Nat) : Int) left)) ∧ Below w.heap.size w w2_) := by
  have La := Kd.sl_len ha; have Ca := Kd.sl_cap ha
  refine fnc (X := X13 12 w) (args := [.slice Aa a.length ca, .int .i64 left]) (l := [(0, .slice Aa a.length ca), (1, .int .i64 left)]) (G := [dat (Kd.sl kMarkS) [.slice Aa a.length ca] a ([]) sa_]) Tryz.func50 rfl rfl rfl ⟨rfl, rfl, trivial⟩ (s0d ha (s0n w)).1 ?_
  refine sq (rg (a_ rfl rfl (en (nx (sq (rg (m_ rfl rfl (m_ rfl rfl (vl (ln rfl rfl rfl) rfl (vl (rs (c := left - ((a.length : Nat) : Int)) rfl rfl rfl rfl (by omega) (by omega)) rfl (a_ rfl rfl (en (nx (sq (sq (rg (m_ rfl rfl (vl (cm rfl rfl rfl rfl) rfl (en (nx ?_))))))))))))))))))))
  by_cases h1 : left - ((a.length : Nat) : Int) < (0 : Int)
  · refine ct rfl (decide_eq_true h1) (sq (rg (a_ rfl rfl (en (nx (rt (xr (ret1 rfl rfl (fun w_ hs_ => ⟨?_, hs_.below⟩)))))))))
    exact ri (by unfold szTake; split <;> omega)
  · refine cf rfl (decide_eq_false h1) (sk (nx (sq (rg (m_ rfl rfl (a_ rfl rfl (en (nx (rt (ret1 rfl rfl (fun w_ hs_ => ⟨?_, hs_.below⟩)))))))))))
    exact ri (by unfold szTake; split <;> omega)
/-! laws.toMarkS -/
set_option maxRecDepth 20000 in
set_option maxHeartbeats 2000000 in
theorem laws_toMarkS (w : World) {Aa : Option Addr} {ca : Nat} {a : List Mark} {sa_ : List Nat} (ha : (Kd.sl kMarkS).Rel w [.slice Aa a.length ca] a [] sa_) (hz : (a.length : Int) ≤ 1048576) : Calls Tryz.prog 59 #[.slice Aa a.length ca] w (Made (Kd.row 172 kMarkO) w a []) := by
  have La := Kd.sl_len ha; have Ca := Kd.sl_cap ha
  refine fnc (X := X13 23 w) (args := [.slice Aa a.length ca]) (l := [(0, .slice Aa a.length ca)]) (G := [dat (Kd.sl kMarkS) [.slice Aa a.length ca] a ([]) sa_]) Tryz.func59 rfl rfl rfl ⟨rfl, trivial⟩ (s0d ha (s0n w)).1 ?_
  refine sq (rg (a_ rfl rfl (en (nx (sq (rg (m_ rfl rfl (vl (ln rfl rfl rfl) rfl (mk (dk := kMarkO) (z := zMark) rfl info172 rfl (fun _ => ⟨[_], _, [], [], [], [], rfl, rfl, rfl, ⟨rfl, rfl, rfl⟩, ⟨[_], _, [], [], [], [], rfl, rfl, rfl, ⟨rfl, rfl, rfl⟩, ⟨rfl, rfl, rfl⟩⟩⟩) rfl rfl (by omega) (by omega) rfl ?_)))))))))
  intro b1
  refine a_ rfl rfl (en (nx (sq (sq (rg (a_ rfl rfl (en (nx (bk ?_)))))))))
  refine lp (σ := Nat × List Nat × List Nat) (fun z_ : Nat × List Nat × List Nat => match z_ with | (k, o, s) => [(0, .slice Aa a.length ca), (3, .slice (some ⟨b1, 0, none⟩) a.length a.length), (4, .int .i64 ((k : Nat) : Int))])
      (fun z_ : Nat × List Nat × List Nat => match z_ with | (k, o, s) => [dat (Kd.row 172 kMarkO) [.slice (some ⟨b1, 0, none⟩) a.length a.length] (a.take k ++ List.replicate (a.length - k) zMark) o s, dat (Kd.sl kMarkS) [.slice Aa a.length ca] a ([]) sa_])
      (fun z_ : Nat × List Nat × List Nat => match z_ with | (k, o, s) => k ≤ a.length ∧ ∀ q ∈ s, w.heap.size ≤ q) (fun z_ : Nat × List Nat × List Nat => match z_ with | (k, o, s) => a.length - k) (0, [b1], []) [0, 0] ⟨Nat.zero_le _, by simp⟩ ⟨rfl, rfl, rfl, trivial⟩ rfl ?_
  rintro ⟨k, o, s⟩ hp_
  obtain ⟨hk, hinv⟩ := hp_
  refine sq (sq (rg (m_ rfl rfl (m_ rfl rfl (vl (ln rfl rfl rfl) rfl (vl (cm rfl rfl rfl rfl) rfl (en (nx ?_))))))))
  by_cases h2 : ((k : Nat) : Int) < ((a.length : Nat) : Int)
  · refine ct rfl (decide_eq_true h2) (sk (nx (sq (bk (rg (m_ rfl rfl (m_ rfl rfl (m_ rfl rfl (m_ rfl rfl ?_)))))))))
    refine gx 1 k rfl (by omega) fun y8 p3 cs_ s4 w7 m9 e5 r6 us4 => ?_
    obtain ⟨rfl⟩ := kMarkS_sh r6
    refine vl (ix k e5 rfl rfl rfl rfl rfl (by omega)) rfl (vl (ldq 0 rfl rfl rfl rfl rfl rfl rfl) rfl ?_)
    refine gp 0 Kd.Sub.rfl rfl (cs' := [.int .i64 y8.dist, .int .i64 y8.id, .int .i64 y8.nsn]) rfl fun s10 w_ rs10 us10 => ?_
    refine cm_ (dk := kMarkO) (x := y8) (S := []) (by kernel_rfl) rfl rfl rfl sn0 (fun w_ hs_ => laws_toMark w_ (hs_.at 0 rfl) (by unfold szMark; omega)) (fun cs_ o11 s12 w_ r13 t14 => ?_)
    obtain ⟨rfl⟩ := kMarkO_sh r13
    refine vl (ix k rfl rfl rfl rfl rfl rfl (by omega)) rfl (f3 (ste k rfl rfl rfl rfl rfl (by first | omega | (simp; omega)) (fun o16 s17 t18 => ?_)))
    exact gr (a.take (k + 1) ++ List.replicate (a.length - (k + 1)) zMark) (rowStep m9) (en (xn (nx (rg (m_ rfl rfl (vl (ra (c := ((k + 1 : Nat) : Int)) rfl rfl rfl (by omega) (by omega) (by omega)) rfl (a_ rfl rfl (en (lpe (s := (k, o, s)) (k + 1, o16, s17) [0, 2] ⟨by omega, fun q hq => (t18 q hq).elim (hinv q) (fun h => (t14 q h).resolve_left (by simp))⟩ (by show a.length - (k + 1) < a.length - k; omega) ⟨rfl, rfl, rfl, trivial⟩ rfl)))))))))
  · exact cf rfl (decide_eq_false h2) (xt (xq (xq (xb (nx (sq (rg (m_ rfl rfl (a_ rfl rfl (en (nx (rt (gr a (rowEnd (by omega)) (ret1 rfl rfl (fun w_ hs_ => made hs_ rfl (fun q hq => .inr (hinv q hq)))))))))))))))))
def szLook (a : Look) : Int := szQuery a.query + (a.front.length : Int) + szList szPair a.found
theorem szLook_nn (a : Look) : 0 ≤ szLook a := by have := szQuery_nn a.query; have := szList_nn szPair_nn a.found; unfold szLook; omega
def zLook : Look := (⟨zQuery, [], []⟩ : Look)
/-! laws.eqLook -/
set_option maxRecDepth 20000 in
set_option maxHeartbeats 2000000 in
theorem laws_eqLook (w : World) {Aa1 : Option Addr} {ca1 : Nat} {Aa2 : Option Addr} {ca2 : Nat} {Aa3 : Option Addr} {ca3 : Nat} {Aa5 : Option Addr} {ca5 : Nat} {Aa6 : Option Addr} {ca6 : Nat} {a : Look} {sa_ : List Nat} (ha : kLookS.Rel w [.int .i64 a.query.kind, .slice Aa1 a.query.rect.low.length ca1, .slice Aa2 a.query.rect.high.length ca2, .slice Aa3 a.query.point.length ca3, .int .i64 a.query.k, .slice Aa5 a.front.length ca5, .slice Aa6 a.found.length ca6] a [] sa_) {Ab1 : Option Addr} {cb1 : Nat} {Ab2 : Option Addr} {cb2 : Nat} {Ab3 : Option Addr} {cb3 : Nat} {Ab5 : Option Addr} {cb5 : Nat} {Ab6 : Option Addr} {cb6 : Nat} {b : Look} {sb_ : List Nat} (hb : kLookS.Rel w [.int .i64 b.query.kind, .slice Ab1 b.query.rect.low.length cb1, .slice Ab2 b.query.rect.high.length cb2, .slice Ab3 b.query.point.length cb3, .int .i64 b.query.k, .slice Ab5 b.front.length cb5, .slice Ab6 b.found.length cb6] b [] sb_)  : Calls Tryz.prog 20 #[.agg #[.int .i64 a.query.kind, .slice Aa1 a.query.rect.low.length ca1, .slice Aa2 a.query.rect.high.length ca2, .slice Aa3 a.query.point.length ca3, .int .i64 a.query.k, .slice Aa5 a.front.length ca5, .slice Aa6 a.found.length ca6], .agg #[.int .i64 b.query.kind, .slice Ab1 b.query.rect.low.length cb1, .slice Ab2 b.query.rect.high.length cb2, .slice Ab3 b.query.point.length cb3, .int .i64 b.query.k, .slice Ab5 b.front.length cb5, .slice Ab6 b.found.length cb6]] w (fun e_ w2_ => e_ = .returned (.bool (decide (a = b))) ∧ Below w.heap.size w w2_) := by
  refine fnc (X := X13 23 w) (args := [.agg #[.int .i64 a.query.kind, .slice Aa1 a.query.rect.low.length ca1, .slice Aa2 a.query.rect.high.length ca2, .slice Aa3 a.query.point.length ca3, .int .i64 a.query.k, .slice Aa5 a.front.length ca5, .slice Aa6 a.found.length ca6], .agg #[.int .i64 b.query.kind, .slice Ab1 b.query.rect.low.length cb1, .slice Ab2 b.query.rect.high.length cb2, .slice Ab3 b.query.point.length cb3, .int .i64 b.query.k, .slice Ab5 b.front.length cb5, .slice Ab6 b.found.length cb6]]) (l := [(0, .agg #[.int .i64 a.query.kind, .slice Aa1 a.query.rect.low.length ca1, .slice Aa2 a.query.rect.high.length ca2, .slice Aa3 a.query.point.length ca3, .int .i64 a.query.k, .slice Aa5 a.front.length ca5, .slice Aa6 a.found.length ca6]), (1, .agg #[.int .i64 b.query.kind, .slice Ab1 b.query.rect.low.length cb1, .slice Ab2 b.query.rect.high.length cb2, .slice Ab3 b.query.point.length cb3, .int .i64 b.query.k, .slice Ab5 b.front.length cb5, .slice Ab6 b.found.length cb6])]) (G := [dat kLookS [.int .i64 b.query.kind, .slice Ab1 b.query.rect.low.length cb1, .slice Ab2 b.query.rect.high.length cb2, .slice Ab3 b.query.point.length cb3, .int .i64 b.query.k, .slice Ab5 b.front.length cb5, .slice Ab6 b.found.length cb6] b ([]) sb_, dat kLookS [.int .i64 a.query.kind, .slice Aa1 a.query.rect.low.length ca1, .slice Aa2 a.query.rect.high.length ca2, .slice Aa3 a.query.point.length ca3, .int .i64 a.query.k, .slice Aa5 a.front.length ca5, .slice Aa6 a.found.length ca6] a ([]) sa_]) Tryz.func20 rfl rfl rfl ⟨rfl, rfl, trivial⟩ (s0d hb (s0d ha (s0n w))).1 ?_
  refine sq (rg (bx rfl rfl rfl rfl ?_))
  intro b1
  refine bx rfl rfl rfl rfl ?_
  intro b2
  refine a_ rfl rfl (en (nx (sq (sq (rg (vl (fa rfl rfl rfl) rfl (vl (ldb 1 rfl rfl rfl rfl rfl rfl rfl) rfl (vl (fa rfl rfl rfl) rfl (vl (ldb 0 rfl rfl rfl rfl rfl rfl rfl) rfl ?_)))))))))
  refine gd 3 kLookS_p0_5 rfl (cs' := [.int .i64 a.query.kind, .slice Aa1 a.query.rect.low.length ca1, .slice Aa2 a.query.rect.high.length ca2, .slice Aa3 a.query.point.length ca3, .int .i64 a.query.k]) rfl fun s3 w_ rs3 us3 => ?_
  refine gd 3 kLookS_p0_5 rfl (cs' := [.int .i64 b.query.kind, .slice Ab1 b.query.rect.low.length cb1, .slice Ab2 b.query.rect.high.length cb2, .slice Ab3 b.query.point.length cb3, .int .i64 b.query.k]) rfl fun s4 w_ rs4 us4 => ?_
  refine cs_ (v := .bool (decide (a.query = b.query))) (by kernel_rfl) rfl rfl rfl (fun w_ hs_ => laws_eqQuery w_ (hs_.at 1 rfl) (hs_.at 0 rfl)) (vl (nt rfl rfl) rfl (en (nx ?_)))
  by_cases h5 : decide (a.query = b.query) = true
  · refine cf rfl (not_f h5) (sk (nx (sq (sq (rg (vl (fa rfl rfl rfl) rfl (vl (ldb (u := .slice Aa5 a.front.length ca5) 3 rfl rfl rfl rfl rfl rfl rfl) rfl (vl (fa rfl rfl rfl) rfl (vl (ldb (u := .slice Ab5 b.front.length cb5) 2 rfl rfl rfl rfl rfl rfl rfl) rfl ?_)))))))))
    refine gd 5 kLookS_p5_1 rfl (cs' := [.slice Aa5 a.front.length ca5]) rfl fun s6 w_ rs6 us6 => ?_
    have Ls6 := Kd.sl_len rs6; have Cs6 := Kd.sl_cap rs6
    refine gd 5 kLookS_p5_1 rfl (cs' := [.slice Ab5 b.front.length cb5]) rfl fun s7 w_ rs7 us7 => ?_
    have Ls7 := Kd.sl_len rs7; have Cs7 := Kd.sl_cap rs7
    refine cs_ (v := .bool (decide (a.front = b.front))) (by kernel_rfl) rfl rfl rfl (fun w_ hs_ => laws_eqMarkS w_ (hs_.at 1 rfl) (hs_.at 0 rfl)) (vl (nt rfl rfl) rfl (en (nx ?_)))
    by_cases h8 : decide (a.front = b.front) = true
    · refine cf rfl (not_f h8) (sk (nx (sq (sq (rg (vl (fa rfl rfl rfl) rfl (vl (ldb (u := .slice Aa6 a.found.length ca6) 5 rfl rfl rfl rfl rfl rfl rfl) rfl (vl (fa rfl rfl rfl) rfl (vl (ldb (u := .slice Ab6 b.found.length cb6) 4 rfl rfl rfl rfl rfl rfl rfl) rfl ?_)))))))))
      refine gd 7 kLookS_p6_1 rfl (cs' := [.slice Aa6 a.found.length ca6]) rfl fun s9 w_ rs9 us9 => ?_
      have Ls9 := Kd.sl_len rs9; have Cs9 := Kd.sl_cap rs9
      refine gd 7 kLookS_p6_1 rfl (cs' := [.slice Ab6 b.found.length cb6]) rfl fun s10 w_ rs10 us10 => ?_
      have Ls10 := Kd.sl_len rs10; have Cs10 := Kd.sl_cap rs10
      refine cs_ (v := .bool (decide (a.found = b.found))) (by kernel_rfl) rfl rfl rfl (fun w_ hs_ => laws_eqPairS w_ (hs_.at 1 rfl) (hs_.at 0 rfl)) (vl (nt rfl rfl) rfl (en (nx ?_)))
      by_cases h11 : decide (a.found = b.found) = true
      · refine cf rfl (not_f h11) (sk (nx (sq (rg (a_ rfl rfl (en (nx (rt (ret1 rfl rfl (fun w_ hs_ => ⟨?_, hs_.below⟩))))))))))
        rw [Look_eq]; simp [h5, h8, h11]
      · refine ct rfl (not_t (Bool.eq_false_iff.2 h11)) (sq (rg (a_ rfl rfl (en (nx (rt (xr (ret1 rfl rfl (fun w_ hs_ => ⟨?_, hs_.below⟩)))))))))
        rw [Look_eq]; simp [h5, h8, h11]
    · refine ct rfl (not_t (Bool.eq_false_iff.2 h8)) (sq (rg (a_ rfl rfl (en (nx (rt (xr (ret1 rfl rfl (fun w_ hs_ => ⟨?_, hs_.below⟩)))))))))
      rw [Look_eq]; simp [h5, h8]
  · refine ct rfl (not_t (Bool.eq_false_iff.2 h5)) (sq (rg (a_ rfl rfl (en (nx (rt (xr (ret1 rfl rfl (fun w_ hs_ => ⟨?_, hs_.below⟩)))))))))
    rw [Look_eq]; simp [h5]
/-! laws.szLook -/
set_option maxRecDepth 20000 in
set_option maxHeartbeats 2000000 in
theorem laws_szLook (w : World) (left : Int) {Aa1 : Option Addr} {ca1 : Nat} {Aa2 : Option Addr} {ca2 : Nat} {Aa3 : Option Addr} {ca3 : Nat} {Aa5 : Option Addr} {ca5 : Nat} {Aa6 : Option Addr} {ca6 : Nat} {a : Look} {sa_ : List Nat} (ha : kLookS.Rel w [.int .i64 a.query.kind, .slice Aa1 a.query.rect.low.length ca1, .slice Aa2 a.query.rect.high.length ca2, .slice Aa3 a.query.point.length ca3, .int .i64 a.query.k, .slice Aa5 a.front.length ca5, .slice Aa6 a.found.length ca6] a [] sa_) (h0 : 0 ≤ left) (h1 : left ≤ 1152921504606846976) : Calls Tryz.prog 13 #[.agg #[.int .i64 a.query.kind, .slice Aa1 a.query.rect.low.length ca1, .slice Aa2 a.query.rect.high.length ca2, .slice Aa3 a.query.point.length ca3, .int .i64 a.query.k, .slice Aa5 a.front.length ca5, .slice Aa6 a.found.length ca6], .int .i64 left] w (fun e_ w2_ => e_ = .returned (.int .i64 (szTake (szLook a) left)) ∧ Below w.heap.size w w2_) := by
  have n0 := szQuery_nn a.query; have n1 := szList_nn szPair_nn a.found
  refine fnc (X := X13 24 w) (args := [.agg #[.int .i64 a.query.kind, .slice Aa1 a.query.rect.low.length ca1, .slice Aa2 a.query.rect.high.length ca2, .slice Aa3 a.query.point.length ca3, .int .i64 a.query.k, .slice Aa5 a.front.length ca5, .slice Aa6 a.found.length ca6], .int .i64 left]) (l := [(0, .agg #[.int .i64 a.query.kind, .slice Aa1 a.query.rect.low.length ca1, .slice Aa2 a.query.rect.high.length ca2, .slice Aa3 a.query.point.length ca3, .int .i64 a.query.k, .slice Aa5 a.front.length ca5, .slice Aa6 a.found.length ca6]), (1, .int .i64 left)]) (G := [dat kLookS [.int .i64 a.query.kind, .slice Aa1 a.query.rect.low.length ca1, .slice Aa2 a.query.rect.high.length ca2, .slice Aa3 a.query.point.length ca3, .int .i64 a.query.k, .slice Aa5 a.front.length ca5, .slice Aa6 a.found.length ca6] a ([]) sa_]) Tryz.func13 rfl rfl rfl ⟨rfl, rfl, trivial⟩ (s0d ha (s0n w)).1 ?_
  refine sq (rg (bx rfl rfl rfl rfl ?_))
  intro b1
  refine a_ rfl rfl (en (nx (sq (rg (vl (fa rfl rfl rfl) rfl (vl (ldb 0 rfl rfl rfl rfl rfl rfl rfl) rfl (m_ rfl rfl ?_)))))))
  refine gd 1 kLookS_p0_5 rfl (cs' := [.int .i64 a.query.kind, .slice Aa1 a.query.rect.low.length ca1, .slice Aa2 a.query.rect.high.length ca2, .slice Aa3 a.query.point.length ca3, .int .i64 a.query.k]) rfl fun s2 w_ rs2 us2 => ?_
  refine cs_ (v := .int .i64 (szTake (szQuery a.query) left)) (by kernel_rfl) rfl rfl rfl (fun w_ hs_ => laws_szQuery w_ _ (hs_.at 0 rfl) (by omega) (by omega)) (a_ rfl rfl (en (nx (sq (sq (rg (m_ rfl rfl (vl (cm rfl rfl rfl rfl) rfl (en (nx ?_))))))))))
  by_cases h3 : (szTake (szQuery a.query) left) < (0 : Int)
  · have eh3 := szTake_t h3
    refine ct rfl (decide_eq_true h3) (sq (rg (a_ rfl rfl (en (nx (rt (xr (ret1 rfl rfl (fun w_ hs_ => ⟨?_, hs_.below⟩)))))))))
    exact ri (by unfold szTake szLook; split <;> omega)
  · have eh3 := szTake_f h3
    refine cf rfl (decide_eq_false h3) (sk (nx (sq (rg (vl (fa rfl rfl rfl) rfl (vl (ldb (u := .slice Aa5 a.front.length ca5) 1 rfl rfl rfl rfl rfl rfl rfl) rfl (m_ rfl rfl ?_)))))))
    refine gd 2 kLookS_p5_1 rfl (cs' := [.slice Aa5 a.front.length ca5]) rfl fun s4 w_ rs4 us4 => ?_
    have Ls4 := Kd.sl_len rs4; have Cs4 := Kd.sl_cap rs4
    refine cs_ (v := .int .i64 (szTake ((a.front.length : Nat) : Int) (szTake (szQuery a.query) left))) (by kernel_rfl) rfl rfl rfl (fun w_ hs_ => laws_szMarkS w_ _ (hs_.at 0 rfl) (by omega) (by omega)) (a_ rfl rfl (en (nx (sq (sq (rg (m_ rfl rfl (vl (cm rfl rfl rfl rfl) rfl (en (nx ?_))))))))))
    by_cases h5 : (szTake ((a.front.length : Nat) : Int) (szTake (szQuery a.query) left)) < (0 : Int)
    · have eh5 := szTake_t h5
      refine ct rfl (decide_eq_true h5) (sq (rg (a_ rfl rfl (en (nx (rt (xr (ret1 rfl rfl (fun w_ hs_ => ⟨?_, hs_.below⟩)))))))))
      exact ri (by unfold szTake szLook; split <;> omega)
    · have eh5 := szTake_f h5
      refine cf rfl (decide_eq_false h5) (sk (nx (sq (rg (vl (fa rfl rfl rfl) rfl (vl (ldb (u := .slice Aa6 a.found.length ca6) 2 rfl rfl rfl rfl rfl rfl rfl) rfl (m_ rfl rfl ?_)))))))
      refine gd 3 kLookS_p6_1 rfl (cs' := [.slice Aa6 a.found.length ca6]) rfl fun s6 w_ rs6 us6 => ?_
      have Ls6 := Kd.sl_len rs6; have Cs6 := Kd.sl_cap rs6
      refine cs_ (v := .int .i64 (szTake (szList szPair a.found) (szTake ((a.front.length : Nat) : Int) (szTake (szQuery a.query) left)))) (by kernel_rfl) rfl rfl rfl (fun w_ hs_ => laws_szPairS w_ _ (hs_.at 0 rfl) (by omega) (by omega)) (a_ rfl rfl (en (nx (sq (sq (rg (m_ rfl rfl (vl (cm rfl rfl rfl rfl) rfl (en (nx ?_))))))))))
      by_cases h7 : (szTake (szList szPair a.found) (szTake ((a.front.length : Nat) : Int) (szTake (szQuery a.query) left))) < (0 : Int)
      · have eh7 := szTake_t h7
        refine ct rfl (decide_eq_true h7) (sq (rg (a_ rfl rfl (en (nx (rt (xr (ret1 rfl rfl (fun w_ hs_ => ⟨?_, hs_.below⟩)))))))))
        exact ri (by unfold szTake szLook; split <;> omega)
      · have eh7 := szTake_f h7
        refine cf rfl (decide_eq_false h7) (sk (nx (sq (rg (m_ rfl rfl (a_ rfl rfl (en (nx (rt (ret1 rfl rfl (fun w_ hs_ => ⟨?_, hs_.below⟩)))))))))))
        exact ri (by unfold szTake szLook; split <;> omega)
/-! laws.toLook -/
set_option maxRecDepth 20000 in
set_option maxHeartbeats 2000000 in
theorem laws_toLook (w : World) {Aa1 : Option Addr} {ca1 : Nat} {Aa2 : Option Addr} {ca2 : Nat} {Aa3 : Option Addr} {ca3 : Nat} {Aa5 : Option Addr} {ca5 : Nat} {Aa6 : Option Addr} {ca6 : Nat} {a : Look} {sa_ : List Nat} (ha : kLookS.Rel w [.int .i64 a.query.kind, .slice Aa1 a.query.rect.low.length ca1, .slice Aa2 a.query.rect.high.length ca2, .slice Aa3 a.query.point.length ca3, .int .i64 a.query.k, .slice Aa5 a.front.length ca5, .slice Aa6 a.found.length ca6] a [] sa_) (hz : szLook a ≤ 1048576) : Calls Tryz.prog 16 #[.agg #[.int .i64 a.query.kind, .slice Aa1 a.query.rect.low.length ca1, .slice Aa2 a.query.rect.high.length ca2, .slice Aa3 a.query.point.length ca3, .int .i64 a.query.k, .slice Aa5 a.front.length ca5, .slice Aa6 a.found.length ca6]] w (Made kLookO w a []) := by
  unfold szLook at hz; have n0 := szQuery_nn a.query; have n1 := szList_nn szPair_nn a.found
  refine fnc (X := X13 17 w) (args := [.agg #[.int .i64 a.query.kind, .slice Aa1 a.query.rect.low.length ca1, .slice Aa2 a.query.rect.high.length ca2, .slice Aa3 a.query.point.length ca3, .int .i64 a.query.k, .slice Aa5 a.front.length ca5, .slice Aa6 a.found.length ca6]]) (l := [(0, .agg #[.int .i64 a.query.kind, .slice Aa1 a.query.rect.low.length ca1, .slice Aa2 a.query.rect.high.length ca2, .slice Aa3 a.query.point.length ca3, .int .i64 a.query.k, .slice Aa5 a.front.length ca5, .slice Aa6 a.found.length ca6])]) (G := [dat kLookS [.int .i64 a.query.kind, .slice Aa1 a.query.rect.low.length ca1, .slice Aa2 a.query.rect.high.length ca2, .slice Aa3 a.query.point.length ca3, .int .i64 a.query.k, .slice Aa5 a.front.length ca5, .slice Aa6 a.found.length ca6] a ([]) sa_]) Tryz.func16 rfl rfl rfl ⟨rfl, trivial⟩ (s0d ha (s0n w)).1 ?_
  refine sq (rg (bx rfl rfl rfl rfl ?_))
  intro b1
  refine al zero62 rfl rfl rfl ?_
  intro b2
  refine en (nx (sq (rg (al zero62 rfl rfl rfl ?_))))
  intro b3
  refine en (nx (sq (rg (vl (fa rfl rfl rfl) rfl (vl (ldb 2 rfl rfl rfl rfl rfl rfl rfl) rfl ?_)))))
  refine gd 3 kLookS_p0_5 rfl (cs' := [.int .i64 a.query.kind, .slice Aa1 a.query.rect.low.length ca1, .slice Aa2 a.query.rect.high.length ca2, .slice Aa3 a.query.point.length ca3, .int .i64 a.query.k]) rfl fun s4 w_ rs4 us4 => ?_
  refine cm_ (dk := kQueryO) (x := a.query) (S := []) (by kernel_rfl) rfl rfl rfl sn0 (fun w_ hs_ => laws_toQuery w_ (hs_.at 0 rfl) (by omega)) (fun cs_ o11 s12 w_ r13 t14 => ?_)
  obtain ⟨A5, c6, A7, c8, A9, c10, rfl⟩ := kQueryO_sh r13
  refine vl (fa rfl rfl rfl) rfl (f2 (sto rfl rfl rfl rfl rfl rfl rfl (cs' := [.int .i64 a.query.kind, .slice A5 a.query.rect.low.length c6, .slice A7 a.query.rect.high.length c8, .slice A9 a.query.point.length c10, .int .i64 a.query.k, .slice none 0 0, .slice none 0 0]) rfl (en (nx (sq (rg (vl (fa rfl rfl rfl) rfl (vl (ldb (u := .slice Aa5 a.front.length ca5) 4 rfl rfl rfl rfl rfl rfl rfl) rfl ?_))))))))
  refine gd 5 kLookS_p5_1 rfl (cs' := [.slice Aa5 a.front.length ca5]) rfl fun s16 w_ rs16 us16 => ?_
  have Ls16 := Kd.sl_len rs16; have Cs16 := Kd.sl_cap rs16
  refine cm_ (dk := (Kd.row 172 kMarkO)) (x := a.front) (S := []) (by kernel_rfl) rfl rfl rfl sn0 (fun w_ hs_ => laws_toMarkS w_ (hs_.at 0 rfl) (by omega)) (fun cs_ o19 s20 w_ r21 t22 => ?_)
  obtain ⟨A17, c18, rfl⟩ := Kd.row_sh r21
  refine vl (fa rfl rfl rfl) rfl (f2 (sto rfl rfl rfl rfl rfl rfl rfl (cs' := [.int .i64 a.query.kind, .slice A5 a.query.rect.low.length c6, .slice A7 a.query.rect.high.length c8, .slice A9 a.query.point.length c10, .int .i64 a.query.k, .slice A17 a.front.length c18, .slice none 0 0]) rfl (en (nx (sq (rg (vl (fa rfl rfl rfl) rfl (vl (ldb (u := .slice Aa6 a.found.length ca6) 6 rfl rfl rfl rfl rfl rfl rfl) rfl ?_))))))))
  refine gd 7 kLookS_p6_1 rfl (cs' := [.slice Aa6 a.found.length ca6]) rfl fun s24 w_ rs24 us24 => ?_
  have Ls24 := Kd.sl_len rs24; have Cs24 := Kd.sl_cap rs24
  refine cm_ (dk := (Kd.row 176 kPairO)) (x := a.found) (S := []) (by kernel_rfl) rfl rfl rfl sn0 (fun w_ hs_ => laws_toPairS w_ (hs_.at 0 rfl) (by omega)) (fun cs_ o27 s28 w_ r29 t30 => ?_)
  obtain ⟨A25, c26, rfl⟩ := Kd.row_sh r29
  exact vl (fa rfl rfl rfl) rfl (f2 (sto rfl rfl rfl rfl rfl rfl rfl (cs' := [.int .i64 a.query.kind, .slice A5 a.query.rect.low.length c6, .slice A7 a.query.rect.high.length c8, .slice A9 a.query.point.length c10, .int .i64 a.query.k, .slice A17 a.front.length c18, .slice A25 a.found.length c26]) rfl (en (nx (sq (rg (vl (ldb 0 rfl rfl rfl rfl rfl rfl rfl) rfl (f7 (sto rfl rfl rfl rfl rfl rfl rfl (cs' := [.int .i64 a.query.kind, .slice A5 a.query.rect.low.length c6, .slice A7 a.query.rect.high.length c8, .slice A9 a.query.point.length c10, .int .i64 a.query.k, .slice A17 a.front.length c18, .slice A25 a.found.length c26]) rfl (en (nx (rt (f2 (f4 (gj (da := (Kd.via (Kd.row 172 kMarkO) Look.front)) (db := (Kd.via (Kd.row 176 kPairO) Look.found)) (x := a) (cs := [.slice A17 a.front.length c18, .slice A25 a.found.length c26]) rfl (f5 (gj (da := (Kd.via kQueryO Look.query)) (db := ((Kd.via (Kd.row 172 kMarkO) Look.front).cat (Kd.via (Kd.row 176 kPairO) Look.found))) (x := a) (cs := [.int .i64 a.query.kind, .slice A5 a.query.rect.low.length c6, .slice A7 a.query.rect.high.length c8, .slice A9 a.query.point.length c10, .int .i64 a.query.k, .slice A17 a.front.length c18, .slice A25 a.found.length c26]) rfl (retc 1 rfl rfl rfl rfl rfl rfl (fun w_ hs_ => made hs_ rfl (see_app t14 (see_app t22 t30)))))))))))))))))))))
structure LookResult where
  code : Int
  look : Look
  deriving DecidableEq
def kLookResultS : Kd LookResult := ((Kd.i64.via LookResult.code).cat (kLookS.via LookResult.look))
theorem kLookResultS_sh {w : World} {cs : List Value} {x : LookResult} {o s : List Nat} (h : kLookResultS.Rel w cs x o s) : ∃ (A2 : Option Addr) (c2 : Nat) (A3 : Option Addr) (c3 : Nat) (A4 : Option Addr) (c4 : Nat) (A6 : Option Addr) (c6 : Nat) (A7 : Option Addr) (c7 : Nat), cs = [.int .i64 x.code, .int .i64 x.look.query.kind, .slice A2 x.look.query.rect.low.length c2, .slice A3 x.look.query.rect.high.length c3, .slice A4 x.look.query.point.length c4, .int .i64 x.look.query.k, .slice A6 x.look.front.length c6, .slice A7 x.look.found.length c7] := by
  obtain ⟨c10, c20, o10, o20, s10, s20, rfl, rfl, rfl, h0, k0⟩ := h
  obtain ⟨rfl, -, -⟩ := h0
  obtain ⟨_, _, _, _, _, _, _, _, _, _, rfl⟩ := kLookS_sh k0
  exact ⟨_, _, _, _, _, _, _, _, _, _, rfl⟩
theorem kLookResultS_p1_7 : Kd.Sub kLookResultS 1 kLookS (fun x => x.look) := (Kd.Sub.right (Kd.Sub.rfl.via LookResult.look) _)
theorem kLookResultS_p1_5 : Kd.Sub kLookResultS 1 kQueryS (fun x => x.look.query) := (Kd.Sub.right (kLookS_p0_5.via LookResult.look) _)
theorem kLookResultS_p2_2 : Kd.Sub kLookResultS 2 kRectS (fun x => x.look.query.rect) := (Kd.Sub.right (kLookS_p1_2.via LookResult.look) _)
theorem kLookResultS_p2_1 : Kd.Sub kLookResultS 2 (Kd.sl Kd.i64) (fun x => x.look.query.rect.low) := (Kd.Sub.right (kLookS_p1_1.via LookResult.look) _)
theorem kLookResultS_p3_1 : Kd.Sub kLookResultS 3 (Kd.sl Kd.i64) (fun x => x.look.query.rect.high) := (Kd.Sub.right (kLookS_p2_1.via LookResult.look) _)
theorem kLookResultS_p4_1 : Kd.Sub kLookResultS 4 (Kd.sl Kd.i64) (fun x => x.look.query.point) := (Kd.Sub.right (kLookS_p3_1.via LookResult.look) _)
theorem kLookResultS_p6_1 : Kd.Sub kLookResultS 6 (Kd.sl kMarkS) (fun x => x.look.front) := (Kd.Sub.right (kLookS_p5_1.via LookResult.look) _)
theorem kLookResultS_p7_1 : Kd.Sub kLookResultS 7 (Kd.sl kPairS) (fun x => x.look.found) := (Kd.Sub.right (kLookS_p6_1.via LookResult.look) _)
theorem kLookResultS_self : Kd.Seals kLookResultS kLookResultS := (Kd.Seals.cat (Kd.Seals.via Kd.Seals.i64 _) (Kd.Seals.via kLookS_self _))
theorem kLookResultS_pure : Kd.Pure kLookResultS := (Kd.Pure.cat (Kd.Pure.via Kd.Pure.i64 _) (Kd.Pure.via kLookS_pure _))
def kLookResultO : Kd LookResult := ((Kd.i64.via LookResult.code).cat (kLookO.via LookResult.look))
theorem kLookResultO_sh {w : World} {cs : List Value} {x : LookResult} {o s : List Nat} (h : kLookResultO.Rel w cs x o s) : ∃ (A2 : Option Addr) (c2 : Nat) (A3 : Option Addr) (c3 : Nat) (A4 : Option Addr) (c4 : Nat) (A6 : Option Addr) (c6 : Nat) (A7 : Option Addr) (c7 : Nat), cs = [.int .i64 x.code, .int .i64 x.look.query.kind, .slice A2 x.look.query.rect.low.length c2, .slice A3 x.look.query.rect.high.length c3, .slice A4 x.look.query.point.length c4, .int .i64 x.look.query.k, .slice A6 x.look.front.length c6, .slice A7 x.look.found.length c7] := by
  obtain ⟨c10, c20, o10, o20, s10, s20, rfl, rfl, rfl, h0, k0⟩ := h
  obtain ⟨rfl, -, -⟩ := h0
  obtain ⟨_, _, _, _, _, _, _, _, _, _, rfl⟩ := kLookO_sh k0
  exact ⟨_, _, _, _, _, _, _, _, _, _, rfl⟩
theorem kLookResultO_seal : Kd.Seals kLookResultO kLookResultS := (Kd.Seals.cat (Kd.Seals.via Kd.Seals.i64 _) (Kd.Seals.via kLookO_seal _))
theorem LookResult_eq (a b : LookResult) : decide (a = b) = (decide (a.code = b.code) && decide (a.look = b.look)) := by
  cases a; cases b; rw [Bool.eq_iff_iff]; simp
/-! laws.eqLookResult -/
set_option maxRecDepth 20000 in
set_option maxHeartbeats 2000000 in
theorem laws_eqLookResult (w : World) {Aa2 : Option Addr} {ca2 : Nat} {Aa3 : Option Addr} {ca3 : Nat} {Aa4 : Option Addr} {ca4 : Nat} {Aa6 : Option Addr} {ca6 : Nat} {Aa7 : Option Addr} {ca7 : Nat} {a : LookResult} {sa_ : List Nat} (ha : kLookResultS.Rel w [.int .i64 a.code, .int .i64 a.look.query.kind, .slice Aa2 a.look.query.rect.low.length ca2, .slice Aa3 a.look.query.rect.high.length ca3, .slice Aa4 a.look.query.point.length ca4, .int .i64 a.look.query.k, .slice Aa6 a.look.front.length ca6, .slice Aa7 a.look.found.length ca7] a [] sa_) {Ab2 : Option Addr} {cb2 : Nat} {Ab3 : Option Addr} {cb3 : Nat} {Ab4 : Option Addr} {cb4 : Nat} {Ab6 : Option Addr} {cb6 : Nat} {Ab7 : Option Addr} {cb7 : Nat} {b : LookResult} {sb_ : List Nat} (hb : kLookResultS.Rel w [.int .i64 b.code, .int .i64 b.look.query.kind, .slice Ab2 b.look.query.rect.low.length cb2, .slice Ab3 b.look.query.rect.high.length cb3, .slice Ab4 b.look.query.point.length cb4, .int .i64 b.look.query.k, .slice Ab6 b.look.front.length cb6, .slice Ab7 b.look.found.length cb7] b [] sb_)  : Calls Tryz.prog 19 #[.agg #[.int .i64 a.code, .int .i64 a.look.query.kind, .slice Aa2 a.look.query.rect.low.length ca2, .slice Aa3 a.look.query.rect.high.length ca3, .slice Aa4 a.look.query.point.length ca4, .int .i64 a.look.query.k, .slice Aa6 a.look.front.length ca6, .slice Aa7 a.look.found.length ca7], .agg #[.int .i64 b.code, .int .i64 b.look.query.kind, .slice Ab2 b.look.query.rect.low.length cb2, .slice Ab3 b.look.query.rect.high.length cb3, .slice Ab4 b.look.query.point.length cb4, .int .i64 b.look.query.k, .slice Ab6 b.look.front.length cb6, .slice Ab7 b.look.found.length cb7]] w (fun e_ w2_ => e_ = .returned (.bool (decide (a = b))) ∧ Below w.heap.size w w2_) := by
  refine fnc (X := X13 16 w) (args := [.agg #[.int .i64 a.code, .int .i64 a.look.query.kind, .slice Aa2 a.look.query.rect.low.length ca2, .slice Aa3 a.look.query.rect.high.length ca3, .slice Aa4 a.look.query.point.length ca4, .int .i64 a.look.query.k, .slice Aa6 a.look.front.length ca6, .slice Aa7 a.look.found.length ca7], .agg #[.int .i64 b.code, .int .i64 b.look.query.kind, .slice Ab2 b.look.query.rect.low.length cb2, .slice Ab3 b.look.query.rect.high.length cb3, .slice Ab4 b.look.query.point.length cb4, .int .i64 b.look.query.k, .slice Ab6 b.look.front.length cb6, .slice Ab7 b.look.found.length cb7]]) (l := [(0, .agg #[.int .i64 a.code, .int .i64 a.look.query.kind, .slice Aa2 a.look.query.rect.low.length ca2, .slice Aa3 a.look.query.rect.high.length ca3, .slice Aa4 a.look.query.point.length ca4, .int .i64 a.look.query.k, .slice Aa6 a.look.front.length ca6, .slice Aa7 a.look.found.length ca7]), (1, .agg #[.int .i64 b.code, .int .i64 b.look.query.kind, .slice Ab2 b.look.query.rect.low.length cb2, .slice Ab3 b.look.query.rect.high.length cb3, .slice Ab4 b.look.query.point.length cb4, .int .i64 b.look.query.k, .slice Ab6 b.look.front.length cb6, .slice Ab7 b.look.found.length cb7])]) (G := [dat kLookResultS [.int .i64 b.code, .int .i64 b.look.query.kind, .slice Ab2 b.look.query.rect.low.length cb2, .slice Ab3 b.look.query.rect.high.length cb3, .slice Ab4 b.look.query.point.length cb4, .int .i64 b.look.query.k, .slice Ab6 b.look.front.length cb6, .slice Ab7 b.look.found.length cb7] b ([]) sb_, dat kLookResultS [.int .i64 a.code, .int .i64 a.look.query.kind, .slice Aa2 a.look.query.rect.low.length ca2, .slice Aa3 a.look.query.rect.high.length ca3, .slice Aa4 a.look.query.point.length ca4, .int .i64 a.look.query.k, .slice Aa6 a.look.front.length ca6, .slice Aa7 a.look.found.length ca7] a ([]) sa_]) Tryz.func19 rfl rfl rfl ⟨rfl, rfl, trivial⟩ (s0d hb (s0d ha (s0n w))).1 ?_
  refine sq (rg (bx rfl rfl rfl rfl ?_))
  intro b1
  refine bx rfl rfl rfl rfl ?_
  intro b2
  refine a_ rfl rfl (en (nx (sq (sq (rg (vl (fa rfl rfl rfl) rfl (vl (ldb (u := .int .i64 a.code) 1 rfl rfl rfl rfl rfl rfl rfl) rfl (vl (fa rfl rfl rfl) rfl (vl (ldb (u := .int .i64 b.code) 0 rfl rfl rfl rfl rfl rfl rfl) rfl (vl (cm rfl rfl rfl rfl) rfl (en (nx ?_))))))))))))
  by_cases h3 : a.code = b.code
  · refine cf rfl (bne_eq_false_iff_eq.2 h3) (sk (nx (sq (sq (rg (vl (fa rfl rfl rfl) rfl (vl (ldb 1 rfl rfl rfl rfl rfl rfl rfl) rfl (vl (fa rfl rfl rfl) rfl (vl (ldb 0 rfl rfl rfl rfl rfl rfl rfl) rfl ?_)))))))))
    refine gd 3 kLookResultS_p1_7 rfl (cs' := [.int .i64 a.look.query.kind, .slice Aa2 a.look.query.rect.low.length ca2, .slice Aa3 a.look.query.rect.high.length ca3, .slice Aa4 a.look.query.point.length ca4, .int .i64 a.look.query.k, .slice Aa6 a.look.front.length ca6, .slice Aa7 a.look.found.length ca7]) rfl fun s4 w_ rs4 us4 => ?_
    refine gd 3 kLookResultS_p1_7 rfl (cs' := [.int .i64 b.look.query.kind, .slice Ab2 b.look.query.rect.low.length cb2, .slice Ab3 b.look.query.rect.high.length cb3, .slice Ab4 b.look.query.point.length cb4, .int .i64 b.look.query.k, .slice Ab6 b.look.front.length cb6, .slice Ab7 b.look.found.length cb7]) rfl fun s5 w_ rs5 us5 => ?_
    refine cs_ (v := .bool (decide (a.look = b.look))) (by kernel_rfl) rfl rfl rfl (fun w_ hs_ => laws_eqLook w_ (hs_.at 1 rfl) (hs_.at 0 rfl)) (vl (nt rfl rfl) rfl (en (nx ?_)))
    by_cases h6 : decide (a.look = b.look) = true
    · refine cf rfl (not_f h6) (sk (nx (sq (rg (a_ rfl rfl (en (nx (rt (ret1 rfl rfl (fun w_ hs_ => ⟨?_, hs_.below⟩))))))))))
      rw [LookResult_eq]; simp [h3, h6]
    · refine ct rfl (not_t (Bool.eq_false_iff.2 h6)) (sq (rg (a_ rfl rfl (en (nx (rt (xr (ret1 rfl rfl (fun w_ hs_ => ⟨?_, hs_.below⟩)))))))))
      rw [LookResult_eq]; simp [h3, h6]
  · refine ct rfl (bne_iff_ne.2 h3) (sq (rg (a_ rfl rfl (en (nx (rt (xr (ret1 rfl rfl (fun w_ hs_ => ⟨?_, hs_.below⟩)))))))))
    rw [LookResult_eq]; simp [h3]
/-! impl.clonedQuery -/
set_option maxRecDepth 20000 in
set_option maxHeartbeats 2000000 in
theorem impl_clonedQuery (w : World) {Aq1 : Option Addr} {cq1 : Nat} {Aq2 : Option Addr} {cq2 : Nat} {Aq3 : Option Addr} {cq3 : Nat} {q : Query} {sq_ : List Nat} (hq : kQueryS.Rel w [.int .i64 q.kind, .slice Aq1 q.rect.low.length cq1, .slice Aq2 q.rect.high.length cq2, .slice Aq3 q.point.length cq3, .int .i64 q.k] q [] sq_) (hz : szQuery q ≤ 1048576) : Calls Tryz.prog 131 #[.agg #[.int .i64 q.kind, .slice Aq1 q.rect.low.length cq1, .slice Aq2 q.rect.high.length cq2, .slice Aq3 q.point.length cq3, .int .i64 q.k]] w (Made kQueryO w q []) := by
  have hz1 := szRect_nn q.rect; unfold szQuery at hz
  refine fnc (X := X13 12 w) (args := [.agg #[.int .i64 q.kind, .slice Aq1 q.rect.low.length cq1, .slice Aq2 q.rect.high.length cq2, .slice Aq3 q.point.length cq3, .int .i64 q.k]]) (l := [(0, .agg #[.int .i64 q.kind, .slice Aq1 q.rect.low.length cq1, .slice Aq2 q.rect.high.length cq2, .slice Aq3 q.point.length cq3, .int .i64 q.k])]) (G := [dat kQueryS [.int .i64 q.kind, .slice Aq1 q.rect.low.length cq1, .slice Aq2 q.rect.high.length cq2, .slice Aq3 q.point.length cq3, .int .i64 q.k] q ([]) sq_]) Tryz.func131 rfl rfl rfl ⟨rfl, trivial⟩ (s0d hq (s0n w)).1 ?_
  refine sq (rg (bx rfl rfl rfl rfl ?_))
  intro b1
  refine al zero58 rfl rfl rfl ?_
  intro b2
  refine en (nx (sq ?_))
  refine gd 2 kQueryS_p1_2 rfl (cs' := [.slice Aq1 q.rect.low.length cq1, .slice Aq2 q.rect.high.length cq2]) rfl fun s3 w_ rs3 us3 => ?_
  refine gd 3 kQueryS_p3_1 rfl (cs' := [.slice Aq3 q.point.length cq3]) rfl fun s8 w_ rs8 us8 => ?_
  have Ls8 := Kd.sl_len rs8; have Cs8 := Kd.sl_cap rs8
  refine rx (σ := Option Addr × Nat × Option Addr × Nat × Option Addr × Nat × List Nat × List Nat × List Nat × List Nat) (fun z_ : Option Addr × Nat × Option Addr × Nat × Option Addr × Nat × List Nat × List Nat × List Nat × List Nat => match z_ with | (A33, c34, A35, c36, A42, c43, o44, s45, o37, s38) => [(1, .pointer (some ⟨b1, 0, none⟩)), (2, .pointer (some ⟨b2, 0, none⟩))])
      (fun z_ : Option Addr × Nat × Option Addr × Nat × Option Addr × Nat × List Nat × List Nat × List Nat × List Nat => match z_ with | (A33, c34, A35, c36, A42, c43, o44, s45, o37, s38) => [blk b1 [.int .i64 q.kind, .slice A33 q.rect.low.length c34, .slice A35 q.rect.high.length c36, .slice A42 q.point.length c43, .int .i64 q.k] 58, dat (Kd.row 2 Kd.i64) [.slice A42 q.point.length c43] q.point o44 s45, dat kRectO [.slice A33 q.rect.low.length c34, .slice A35 q.rect.high.length c36] q.rect o37 s38, dat (Kd.sl Kd.i64) [.slice Aq3 q.point.length cq3] q.point ([]) s8, dat kRectS [.slice Aq1 q.rect.low.length cq1, .slice Aq2 q.rect.high.length cq2] q.rect ([]) s3, blk b2 [.int .i64 0, .slice none 0 0, .slice none 0 0, .slice none 0 0, .int .i64 0] 58, dat kQueryS [.int .i64 q.kind, .slice Aq1 q.rect.low.length cq1, .slice Aq2 q.rect.high.length cq2, .slice Aq3 q.point.length cq3, .int .i64 q.k] q ([]) sq_])
      (fun z_ : Option Addr × Nat × Option Addr × Nat × Option Addr × Nat × List Nat × List Nat × List Nat × List Nat => match z_ with | (A33, c34, A35, c36, A42, c43, o44, s45, o37, s38) => (∀ q ∈ s45, q ∈ ([] : List Nat) ∨ w.heap.size ≤ q) ∧ (∀ q ∈ s38, q ∈ ([] : List Nat) ∨ w.heap.size ≤ q) ∧ True) ?_ ?_
  · rintro ⟨A33, c34, A35, c36, A42, c43, o44, s45, o37, s38⟩ ⟨t81, t82, -⟩
    exact nx (sq (rg (vl (ldb 0 rfl rfl rfl rfl rfl rfl rfl) rfl (f5 (sto rfl rfl rfl rfl rfl rfl rfl (cs' := [.int .i64 q.kind, .slice A33 q.rect.low.length c34, .slice A35 q.rect.high.length c36, .slice A42 q.point.length c43, .int .i64 q.k]) rfl (en (nx (rt (gs Kd.i64 [.int .i64 q.k] q.k (fun _ => ⟨rfl, rfl, rfl⟩) (f3 (gj (da := (Kd.via (Kd.row 2 Kd.i64) Query.point)) (db := (Kd.via Kd.i64 Query.k)) (x := q) (cs := [.slice A42 q.point.length c43, .int .i64 q.k]) rfl (f3 (gj (da := (Kd.via kRectO Query.rect)) (db := ((Kd.via (Kd.row 2 Kd.i64) Query.point).cat (Kd.via Kd.i64 Query.k))) (x := q) (cs := [.slice A33 q.rect.low.length c34, .slice A35 q.rect.high.length c36, .slice A42 q.point.length c43, .int .i64 q.k]) rfl (gs Kd.i64 [.int .i64 q.kind] q.kind (fun _ => ⟨rfl, rfl, rfl⟩) (gj (da := (Kd.via Kd.i64 Query.kind)) (db := ((Kd.via kRectO Query.rect).cat ((Kd.via (Kd.row 2 Kd.i64) Query.point).cat (Kd.via Kd.i64 Query.k)))) (x := q) (cs := [.int .i64 q.kind, .slice A33 q.rect.low.length c34, .slice A35 q.rect.high.length c36, .slice A42 q.point.length c43, .int .i64 q.k]) rfl (retc 1 rfl rfl rfl rfl rfl rfl (fun w_ hs_ => made hs_ rfl (see_app see_nil (see_app t82 (see_app t81 see_nil))))))))))))))))))))
  · refine rd (Gq := [dat (Kd.sl Kd.i64) [.slice Aq3 q.point.length cq3] q.point ([]) s8, dat kRectS [.slice Aq1 q.rect.low.length cq1, .slice Aq2 q.rect.high.length cq2] q.rect ([]) s3, blk b2 [.int .i64 0, .slice none 0 0, .slice none 0 0, .slice none 0 0, .int .i64 0] 58, dat kQueryS [.int .i64 q.kind, .slice Aq1 q.rect.low.length cq1, .slice Aq2 q.rect.high.length cq2, .slice Aq3 q.point.length cq3, .int .i64 q.k] q ([]) sq_]) [0, 0, 0, 1] rfl (qv 0 rfl (fa rfl rfl rfl) rfl (by kernel_rfl) (qv 3 rfl (fa rfl rfl rfl) rfl (by kernel_rfl) ?_))
    refine qo 1 4 [0, 0, 0, 1] rfl rfl (by kernel_rfl) rfl ?_ ?_
    · refine vl (ldb 3 rfl rfl rfl rfl rfl rfl rfl) rfl (qn ?_)
      refine qo 2 4 [0, 0, 0, 1] rfl rfl (by kernel_rfl) rfl ?_ ?_
      · refine cm_ (dk := kRectO) (x := q.rect) (S := []) (by kernel_rfl) rfl rfl rfl sn0 (fun w_ hs_ => by exact impl_Rect_cloned w_ (hs_.at 1 rfl) (by omega)) (fun cs_ o87 s88 w_ r89 t90 => ?_)
        obtain ⟨A83, c84, A85, c86, rfl⟩ := kRectO_sh r89
        refine qn (q1 4 [1, 1, 1, 2] rfl (by kernel_rfl) rfl (vl (ldb (u := .slice Aq3 q.point.length cq3) 4 rfl rfl rfl rfl rfl rfl rfl) rfl (qn (qv 6 rfl (fa rfl rfl rfl) rfl (by kernel_rfl) (q1 5 [1, 1, 1, 2] rfl (by kernel_rfl) rfl (cm_ (dk := (Kd.row 2 Kd.i64)) (x := q.point) (S := []) (by kernel_rfl) rfl rfl rfl sn0 (fun w_ hs_ => by exact slices_Clone_int64_int64 w_ (hs_.at 1 rfl) (by omega)) (fun cs_ o94 s95 w_ r96 t97 => ?_)))))))
        obtain ⟨A92, c93, rfl⟩ := Kd.row_sh r96
        exact qn (q1 7 [2, 2, 2, 3] rfl (by kernel_rfl) rfl (f5 (sto rfl rfl rfl rfl rfl rfl rfl (cs' := [.int .i64 q.kind, .slice A83 q.rect.low.length c84, .slice A85 q.rect.high.length c86, .slice Aq3 q.point.length cq3, .int .i64 q.k]) rfl (qn (qv 8 rfl (fa rfl rfl rfl) rfl (by kernel_rfl) (q1 9 [3, 3, 3, 3] rfl (by kernel_rfl) rfl (sto rfl rfl rfl rfl rfl rfl rfl (cs' := [.int .i64 q.kind, .slice A83 q.rect.low.length c84, .slice A85 q.rect.high.length c86, .slice A92 q.point.length c93, .int .i64 q.k]) rfl (qn (qe [3, 3, 3, 3] (by kernel_rfl) rfl (cx (A83, c84, A85, c86, A92, c93, o94, s95, o87, s88) [0, 0, 0, 0, 0, 0, 0] ⟨t97, t90, trivial⟩ ⟨rfl, rfl, trivial⟩ rfl))))))))))
      · refine vl (ldb (u := .slice Aq3 q.point.length cq3) 3 rfl rfl rfl rfl rfl rfl rfl) rfl (qn (q1 2 [0, 0, 0, 1] rfl (by kernel_rfl) rfl (cm_ (dk := kRectO) (x := q.rect) (S := []) (by kernel_rfl) rfl rfl rfl sn0 (fun w_ hs_ => by exact impl_Rect_cloned w_ (hs_.at 1 rfl) (by omega)) (fun cs_ o103 s104 w_ r105 t106 => ?_))))
        obtain ⟨A99, c100, A101, c102, rfl⟩ := kRectO_sh r105
        refine qn (qv 6 rfl (fa rfl rfl rfl) rfl (by kernel_rfl) (q1 5 [1, 1, 1, 2] rfl (by kernel_rfl) rfl (cm_ (dk := (Kd.row 2 Kd.i64)) (x := q.point) (S := []) (by kernel_rfl) rfl rfl rfl sn0 (fun w_ hs_ => by exact slices_Clone_int64_int64 w_ (hs_.at 1 rfl) (by omega)) (fun cs_ o110 s111 w_ r112 t113 => ?_))))
        obtain ⟨A108, c109, rfl⟩ := Kd.row_sh r112
        exact qn (q1 7 [2, 2, 2, 3] rfl (by kernel_rfl) rfl (f5 (sto rfl rfl rfl rfl rfl rfl rfl (cs' := [.int .i64 q.kind, .slice A99 q.rect.low.length c100, .slice A101 q.rect.high.length c102, .slice Aq3 q.point.length cq3, .int .i64 q.k]) rfl (qn (qv 8 rfl (fa rfl rfl rfl) rfl (by kernel_rfl) (q1 9 [3, 3, 3, 3] rfl (by kernel_rfl) rfl (sto rfl rfl rfl rfl rfl rfl rfl (cs' := [.int .i64 q.kind, .slice A99 q.rect.low.length c100, .slice A101 q.rect.high.length c102, .slice A108 q.point.length c109, .int .i64 q.k]) rfl (qn (qe [3, 3, 3, 3] (by kernel_rfl) rfl (cx (A99, c100, A101, c102, A108, c109, o110, s111, o103, s104) [0, 0, 0, 0, 0, 0, 0] ⟨t113, t106, trivial⟩ ⟨rfl, rfl, trivial⟩ rfl))))))))))
    · refine vl (ldb (u := .slice Aq3 q.point.length cq3) 3 rfl rfl rfl rfl rfl rfl rfl) rfl (qn (q1 1 [0, 0, 0, 1] rfl (by kernel_rfl) rfl (vl (ldb 3 rfl rfl rfl rfl rfl rfl rfl) rfl (qn (q1 2 [0, 0, 0, 1] rfl (by kernel_rfl) rfl (cm_ (dk := kRectO) (x := q.rect) (S := []) (by kernel_rfl) rfl rfl rfl sn0 (fun w_ hs_ => by exact impl_Rect_cloned w_ (hs_.at 1 rfl) (by omega)) (fun cs_ o119 s120 w_ r121 t122 => ?_)))))))
      obtain ⟨A115, c116, A117, c118, rfl⟩ := kRectO_sh r121
      refine qn (qv 6 rfl (fa rfl rfl rfl) rfl (by kernel_rfl) (q1 5 [1, 1, 1, 2] rfl (by kernel_rfl) rfl (cm_ (dk := (Kd.row 2 Kd.i64)) (x := q.point) (S := []) (by kernel_rfl) rfl rfl rfl sn0 (fun w_ hs_ => by exact slices_Clone_int64_int64 w_ (hs_.at 1 rfl) (by omega)) (fun cs_ o126 s127 w_ r128 t129 => ?_))))
      obtain ⟨A124, c125, rfl⟩ := Kd.row_sh r128
      exact qn (q1 7 [2, 2, 2, 3] rfl (by kernel_rfl) rfl (f5 (sto rfl rfl rfl rfl rfl rfl rfl (cs' := [.int .i64 q.kind, .slice A115 q.rect.low.length c116, .slice A117 q.rect.high.length c118, .slice Aq3 q.point.length cq3, .int .i64 q.k]) rfl (qn (qv 8 rfl (fa rfl rfl rfl) rfl (by kernel_rfl) (q1 9 [3, 3, 3, 3] rfl (by kernel_rfl) rfl (sto rfl rfl rfl rfl rfl rfl rfl (cs' := [.int .i64 q.kind, .slice A115 q.rect.low.length c116, .slice A117 q.rect.high.length c118, .slice A124 q.point.length c125, .int .i64 q.k]) rfl (qn (qe [3, 3, 3, 3] (by kernel_rfl) rfl (cx (A115, c116, A117, c118, A124, c125, o126, s127, o119, s120) [0, 0, 0, 0, 0, 0, 0] ⟨t129, t122, trivial⟩ ⟨rfl, rfl, trivial⟩ rfl))))))))))
/-! spec.l9Query -/
set_option maxRecDepth 20000 in
set_option maxHeartbeats 2000000 in
theorem spec_l9Query (w : World) {Aq1 : Option Addr} {cq1 : Nat} {Aq2 : Option Addr} {cq2 : Nat} {Aq3 : Option Addr} {cq3 : Nat} {q : Query} {sq_ : List Nat} {pq : Addr} (hq : (ptr kQueryS pq [.int .i64 q.kind, .slice Aq1 q.rect.low.length cq1, .slice Aq2 q.rect.high.length cq2, .slice Aq3 q.point.length cq3, .int .i64 q.k] q sq_).P w) (hz : szQuery q ≤ 1048576) : Calls Tryz.prog 118 #[.pointer (some pq)] w (Made kQueryO w q []) := by
  have hz1 := szRect_nn q.rect; unfold szQuery at hz
  refine fnc (X := X13 19 w) (args := [.pointer (some pq)]) (l := [(0, .pointer (some pq))]) (G := [ptr kQueryS pq [.int .i64 q.kind, .slice Aq1 q.rect.low.length cq1, .slice Aq2 q.rect.high.length cq2, .slice Aq3 q.point.length cq3, .int .i64 q.k] q sq_]) Tryz.func118 rfl rfl rfl ⟨rfl, trivial⟩ (s0p hq (s0n w)).1 ?_
  refine sq (rg (al zero58 rfl rfl rfl ?_))
  intro b1
  refine en (nx (sq (rg (m_ rfl rfl (vl (nc rfl rfl) rfl (vl (ldq 1 rfl rfl rfl rfl rfl rfl rfl) rfl (al zero58 rfl rfl rfl ?_)))))))
  intro b2
  refine sto rfl rfl rfl rfl rfl rfl rfl (cs' := [.int .i64 q.kind, .slice Aq1 q.rect.low.length cq1, .slice Aq2 q.rect.high.length cq2, .slice Aq3 q.point.length cq3, .int .i64 q.k]) rfl (en (nx (sq (rg (m_ rfl rfl (vl (nc rfl rfl) rfl (vl (fa rfl rfl rfl) rfl ?_)))))))
  refine gq 2 kQueryS_p1_2 rfl (cs' := [.slice Aq1 q.rect.low.length cq1, .slice Aq2 q.rect.high.length cq2]) rfl fun s3 w_ rs3 us3 => ?_
  refine cm_ (dk := kRectO) (x := q.rect) (S := []) (by kernel_rfl) rfl rfl rfl sn0 (fun w_ hs_ => spec_l1Copy w_ (hs_.at 0 rfl) (by omega)) (fun cs_ o8 s9 w_ r10 t11 => ?_)
  obtain ⟨A4, c5, A6, c7, rfl⟩ := kRectO_sh r10
  refine vl (fa rfl rfl rfl) rfl (f2 (sto rfl rfl rfl rfl rfl rfl rfl (cs' := [.int .i64 q.kind, .slice A4 q.rect.low.length c5, .slice A6 q.rect.high.length c7, .slice Aq3 q.point.length cq3, .int .i64 q.k]) rfl (en (nx (sq (rg (m_ rfl rfl (vl (nc rfl rfl) rfl (vl (fa rfl rfl rfl) rfl (vl (ldp (u := .slice Aq3 q.point.length cq3) 4 rfl rfl rfl rfl rfl rfl rfl) rfl ?_))))))))))
  refine gp 4 kQueryS_p3_1 rfl (cs' := [.slice Aq3 q.point.length cq3]) rfl fun s13 w_ rs13 us13 => ?_
  have Ls13 := Kd.sl_len rs13; have Cs13 := Kd.sl_cap rs13
  refine cm_ (dk := (Kd.row 2 Kd.i64)) (x := q.point) (S := []) (by kernel_rfl) rfl rfl rfl sn0 (fun w_ hs_ => spec_l1Ints w_ (hs_.at 0 rfl) (by omega)) (fun cs_ o16 s17 w_ r18 t19 => ?_)
  obtain ⟨A14, c15, rfl⟩ := Kd.row_sh r18
  exact vl (fa rfl rfl rfl) rfl (f2 (sto rfl rfl rfl rfl rfl rfl rfl (cs' := [.int .i64 q.kind, .slice A4 q.rect.low.length c5, .slice A6 q.rect.high.length c7, .slice A14 q.point.length c15, .int .i64 q.k]) rfl (en (nx (sq (rg (vl (ldb 0 rfl rfl rfl rfl rfl rfl rfl) rfl (f5 (sto rfl rfl rfl rfl rfl rfl rfl (cs' := [.int .i64 q.kind, .slice A4 q.rect.low.length c5, .slice A6 q.rect.high.length c7, .slice A14 q.point.length c15, .int .i64 q.k]) rfl (en (nx (rt (gs Kd.i64 [.int .i64 q.k] q.k (fun _ => ⟨rfl, rfl, rfl⟩) (f3 (gj (da := (Kd.via (Kd.row 2 Kd.i64) Query.point)) (db := (Kd.via Kd.i64 Query.k)) (x := q) (cs := [.slice A14 q.point.length c15, .int .i64 q.k]) rfl (f4 (gj (da := (Kd.via kRectO Query.rect)) (db := ((Kd.via (Kd.row 2 Kd.i64) Query.point).cat (Kd.via Kd.i64 Query.k))) (x := q) (cs := [.slice A4 q.rect.low.length c5, .slice A6 q.rect.high.length c7, .slice A14 q.point.length c15, .int .i64 q.k]) rfl (gs Kd.i64 [.int .i64 q.kind] q.kind (fun _ => ⟨rfl, rfl, rfl⟩) (gj (da := (Kd.via Kd.i64 Query.kind)) (db := ((Kd.via kRectO Query.rect).cat ((Kd.via (Kd.row 2 Kd.i64) Query.point).cat (Kd.via Kd.i64 Query.k)))) (x := q) (cs := [.int .i64 q.kind, .slice A4 q.rect.low.length c5, .slice A6 q.rect.high.length c7, .slice A14 q.point.length c15, .int .i64 q.k]) rfl (retc 1 rfl rfl rfl rfl rfl rfl (fun w_ hs_ => made hs_ rfl (see_app see_nil (see_app t11 (see_app t19 see_nil))))))))))))))))))))))))
def newLook (t : Tree) (q : Query) : Look := ⟨q, [⟨0, t.root, t.rootNsn⟩], []⟩
theorem query_sz {q : Query} {d : Int} (h : queryFault q d = 0) : szQuery q ≤ 1048576 := by
  unfold queryFault at h
  have hd : isDims d = true → d ≤ 3 := fun z => by have := within_t z; omega
  have hp : ∀ p : List Int, pointFault p d = 0 → (p.length : Int) = d := fun p hp => pointFault_len hp
  have hr : rectFault q.rect d = 0 → (q.rect.low.length : Int) = d ∧ (q.rect.high.length : Int) = d := fun z => by
    unfold rectFault at z
    by_cases h1 : pointFault q.rect.low d = 0
    · rw [if_pos h1] at z
      by_cases h2 : pointFault q.rect.high d = 0
      · exact ⟨hp _ h1, hp _ h2⟩
      · rw [if_neg h2] at z; exact absurd z h2
    · rw [if_neg h1] at z; exact absurd z h1
  unfold szQuery szRect
  grind [rectEmpty]
def startLook (t : Tree) (q : Query) : LookResult := if treeFault t = 0 then if queryFault q t.arena.dims = 0 then ⟨0, newLook t q⟩ else ⟨queryFault q t.arena.dims, zLook⟩ else ⟨treeFault t, zLook⟩
/-! impl.newLook -/
set_option maxRecDepth 20000 in
set_option maxHeartbeats 2000000 in
theorem impl_newLook (w : World) {At2 : Option Addr} {ct2 : Nat} {At3 : Option Addr} {ct3 : Nat} {At4 : Option Addr} {ct4 : Nat} {t : Tree} {st_ : List Nat} (ht : kTreeS.Rel w [.int .i64 t.style, .int .i64 t.arena.dims, .slice At2 t.arena.nodes.length ct2, .slice At3 t.arena.free.length ct3, .slice At4 t.arena.retired.length ct4, .int .i64 t.root, .int .i64 t.rootNsn, .int .i64 t.counter] t [] st_) {Aq1 : Option Addr} {cq1 : Nat} {Aq2 : Option Addr} {cq2 : Nat} {Aq3 : Option Addr} {cq3 : Nat} {q : Query} {sq_ : List Nat} (hq : kQueryS.Rel w [.int .i64 q.kind, .slice Aq1 q.rect.low.length cq1, .slice Aq2 q.rect.high.length cq2, .slice Aq3 q.point.length cq3, .int .i64 q.k] q [] sq_) (hz : szQuery q ≤ 1048576) : Calls Tryz.prog 83 #[.agg #[.int .i64 t.style, .int .i64 t.arena.dims, .slice At2 t.arena.nodes.length ct2, .slice At3 t.arena.free.length ct3, .slice At4 t.arena.retired.length ct4, .int .i64 t.root, .int .i64 t.rootNsn, .int .i64 t.counter], .agg #[.int .i64 q.kind, .slice Aq1 q.rect.low.length cq1, .slice Aq2 q.rect.high.length cq2, .slice Aq3 q.point.length cq3, .int .i64 q.k]] w (Made kLookO w (newLook t q) []) := by
  refine fnc (X := X13 14 w) (args := [.agg #[.int .i64 t.style, .int .i64 t.arena.dims, .slice At2 t.arena.nodes.length ct2, .slice At3 t.arena.free.length ct3, .slice At4 t.arena.retired.length ct4, .int .i64 t.root, .int .i64 t.rootNsn, .int .i64 t.counter], .agg #[.int .i64 q.kind, .slice Aq1 q.rect.low.length cq1, .slice Aq2 q.rect.high.length cq2, .slice Aq3 q.point.length cq3, .int .i64 q.k]]) (l := [(0, .agg #[.int .i64 t.style, .int .i64 t.arena.dims, .slice At2 t.arena.nodes.length ct2, .slice At3 t.arena.free.length ct3, .slice At4 t.arena.retired.length ct4, .int .i64 t.root, .int .i64 t.rootNsn, .int .i64 t.counter]), (1, .agg #[.int .i64 q.kind, .slice Aq1 q.rect.low.length cq1, .slice Aq2 q.rect.high.length cq2, .slice Aq3 q.point.length cq3, .int .i64 q.k])]) (G := [dat kQueryS [.int .i64 q.kind, .slice Aq1 q.rect.low.length cq1, .slice Aq2 q.rect.high.length cq2, .slice Aq3 q.point.length cq3, .int .i64 q.k] q ([]) sq_, dat kTreeS [.int .i64 t.style, .int .i64 t.arena.dims, .slice At2 t.arena.nodes.length ct2, .slice At3 t.arena.free.length ct3, .slice At4 t.arena.retired.length ct4, .int .i64 t.root, .int .i64 t.rootNsn, .int .i64 t.counter] t ([]) st_]) Tryz.func83 rfl rfl rfl ⟨rfl, rfl, trivial⟩ (s0d hq (s0d ht (s0n w))).1 ?_
  refine sq (rg (bx rfl rfl rfl rfl ?_))
  intro b1
  refine bx rfl rfl rfl rfl ?_
  intro b2
  refine al zero62 rfl rfl rfl ?_
  intro b3
  refine en (nx (sq ?_))
  refine rx (σ := Option Addr × Nat × Option Addr × Nat × Option Addr × Nat × Nat × List Nat × List Nat) (fun z_ : Option Addr × Nat × Option Addr × Nat × Option Addr × Nat × Nat × List Nat × List Nat => match z_ with | (A16, c17, A18, c19, A20, c21, b27, o22, s23) => [(4, .pointer (some ⟨b3, 0, none⟩))])
      (fun z_ : Option Addr × Nat × Option Addr × Nat × Option Addr × Nat × Nat × List Nat × List Nat => match z_ with | (A16, c17, A18, c19, A20, c21, b27, o22, s23) => [blk b3 [.int .i64 q.kind, .slice A16 q.rect.low.length c17, .slice A18 q.rect.high.length c19, .slice A20 q.point.length c21, .int .i64 q.k, .slice (some ⟨b27, 0, none⟩) 1 1, .slice none 0 0] 62, dat (Kd.row 172 kMarkO) [.slice (some ⟨b27, 0, none⟩) 1 1] ([(⟨0, t.root, t.rootNsn⟩ : Mark)]) (b27 :: ([] ++ ([] ++ []))) ([] ++ ([] ++ [])), dat kQueryO [.int .i64 q.kind, .slice A16 q.rect.low.length c17, .slice A18 q.rect.high.length c19, .slice A20 q.point.length c21, .int .i64 q.k] q o22 s23, blk b2 [.int .i64 q.kind, .slice Aq1 q.rect.low.length cq1, .slice Aq2 q.rect.high.length cq2, .slice Aq3 q.point.length cq3, .int .i64 q.k] 58, blk b1 [.int .i64 t.style, .int .i64 t.arena.dims, .slice At2 t.arena.nodes.length ct2, .slice At3 t.arena.free.length ct3, .slice At4 t.arena.retired.length ct4, .int .i64 t.root, .int .i64 t.rootNsn, .int .i64 t.counter] 38, dat kQueryS [.int .i64 q.kind, .slice Aq1 q.rect.low.length cq1, .slice Aq2 q.rect.high.length cq2, .slice Aq3 q.point.length cq3, .int .i64 q.k] q ([]) sq_, dat kTreeS [.int .i64 t.style, .int .i64 t.arena.dims, .slice At2 t.arena.nodes.length ct2, .slice At3 t.arena.free.length ct3, .slice At4 t.arena.retired.length ct4, .int .i64 t.root, .int .i64 t.rootNsn, .int .i64 t.counter] t ([]) st_])
      (fun z_ : Option Addr × Nat × Option Addr × Nat × Option Addr × Nat × Nat × List Nat × List Nat => match z_ with | (A16, c17, A18, c19, A20, c21, b27, o22, s23) => (∀ q ∈ s23, q ∈ ([] : List Nat) ∨ w.heap.size ≤ q) ∧ True) ?_ ?_
  · rintro ⟨A16, c17, A18, c19, A20, c21, b27, o22, s23⟩ ⟨t40, -⟩
    exact nx (rt (gs (Kd.row 176 kPairO) [.slice none 0 0] ((newLook t q).found) (fun _ => .inl ⟨rfl, rfl, rfl, rfl⟩) (f2 (gj (da := (Kd.via (Kd.row 172 kMarkO) Look.front)) (db := (Kd.via (Kd.row 176 kPairO) Look.found)) (x := (newLook t q)) (cs := [.slice (some ⟨b27, 0, none⟩) 1 1, .slice none 0 0]) rfl (f2 (gj (da := (Kd.via kQueryO Look.query)) (db := ((Kd.via (Kd.row 172 kMarkO) Look.front).cat (Kd.via (Kd.row 176 kPairO) Look.found))) (x := (newLook t q)) (cs := [.int .i64 q.kind, .slice A16 q.rect.low.length c17, .slice A18 q.rect.high.length c19, .slice A20 q.point.length c21, .int .i64 q.k, .slice (some ⟨b27, 0, none⟩) 1 1, .slice none 0 0]) rfl (gr (newLook t q) rfl (retc 1 rfl rfl rfl rfl rfl rfl (fun w_ hs_ => made hs_ rfl (see_app t40 (see_app (by grind) see_nil)))))))))))
  · refine rd (Gq := [blk b2 [.int .i64 q.kind, .slice Aq1 q.rect.low.length cq1, .slice Aq2 q.rect.high.length cq2, .slice Aq3 q.point.length cq3, .int .i64 q.k] 58, blk b1 [.int .i64 t.style, .int .i64 t.arena.dims, .slice At2 t.arena.nodes.length ct2, .slice At3 t.arena.free.length ct3, .slice At4 t.arena.retired.length ct4, .int .i64 t.root, .int .i64 t.rootNsn, .int .i64 t.counter] 38, dat kQueryS [.int .i64 q.kind, .slice Aq1 q.rect.low.length cq1, .slice Aq2 q.rect.high.length cq2, .slice Aq3 q.point.length cq3, .int .i64 q.k] q ([]) sq_, dat kTreeS [.int .i64 t.style, .int .i64 t.arena.dims, .slice At2 t.arena.nodes.length ct2, .slice At3 t.arena.free.length ct3, .slice At4 t.arena.retired.length ct4, .int .i64 t.root, .int .i64 t.rootNsn, .int .i64 t.counter] t ([]) st_]) [1, 1, 1, 1] rfl (qv 0 rfl (ldb 0 rfl rfl rfl rfl rfl rfl rfl) rfl (by kernel_rfl) (qv 2 rfl (fa rfl rfl rfl) rfl (by kernel_rfl) (qv 3 rfl (ldb (u := .int .i64 t.root) 1 rfl rfl rfl rfl rfl rfl rfl) rfl (by kernel_rfl) (qv 4 rfl (fa rfl rfl rfl) rfl (by kernel_rfl) (qv 5 rfl (ldb (u := .int .i64 t.rootNsn) 1 rfl rfl rfl rfl rfl rfl rfl) rfl (by kernel_rfl) (qv 6 rfl (bd bld172 rfl rfl rfl) rfl (by kernel_rfl) ?_))))))
    refine qo 1 7 [1, 1, 1, 1] rfl rfl (by kernel_rfl) rfl ?_ ?_
    · refine cm_ (dk := kQueryO) (x := q) (S := []) (by kernel_rfl) rfl rfl rfl sn0 (fun w_ hs_ => by exact impl_clonedQuery w_ (hs_.at 3 rfl) hz) (fun cs_ o47 s48 w_ r49 t50 => ?_)
      obtain ⟨A41, c42, A43, c44, A45, c46, rfl⟩ := kQueryO_sh r49
      refine qn (q1 7 [2, 2, 2, 2] rfl (by kernel_rfl) rfl (gs Kd.i64 [.int .i64 t.rootNsn] ((⟨0, t.root, t.rootNsn⟩ : Mark).nsn) (fun _ => ⟨rfl, rfl, rfl⟩) (gs Kd.i64 [.int .i64 t.root] ((⟨0, t.root, t.rootNsn⟩ : Mark).id) (fun _ => ⟨rfl, rfl, rfl⟩) (gj (da := (Kd.via Kd.i64 Mark.id)) (db := (Kd.via Kd.i64 Mark.nsn)) (x := (⟨0, t.root, t.rootNsn⟩ : Mark)) (cs := [.int .i64 t.root, .int .i64 t.rootNsn]) rfl (gs Kd.i64 [.int .i64 0] ((⟨0, t.root, t.rootNsn⟩ : Mark).dist) (fun _ => ⟨rfl, rfl, rfl⟩) (gj (da := (Kd.via Kd.i64 Mark.dist)) (db := ((Kd.via Kd.i64 Mark.id).cat (Kd.via Kd.i64 Mark.nsn))) (x := (⟨0, t.root, t.rootNsn⟩ : Mark)) (cs := [.int .i64 0, .int .i64 t.root, .int .i64 t.rootNsn]) rfl (bs1 (dk := kMarkO) rfl info172 (by decide) rfl rfl rfl rfl ?_)))))))
      intro b52
      exact qn (qv 8 rfl (bd bld62 rfl rfl rfl) rfl (by kernel_rfl) (q1 9 [3, 3, 3, 3] rfl (by kernel_rfl) rfl (f2 (sto rfl rfl rfl rfl rfl rfl rfl (cs' := [.int .i64 q.kind, .slice A41 q.rect.low.length c42, .slice A43 q.rect.high.length c44, .slice A45 q.point.length c46, .int .i64 q.k, .slice (some ⟨b52, 0, none⟩) 1 1, .slice none 0 0]) rfl (qn (qe [3, 3, 3, 3] (by kernel_rfl) rfl (cx (A41, c42, A43, c44, A45, c46, b52, o47, s48) [0, 0, 0, 0, 0, 0, 0] ⟨t50, trivial⟩ ⟨rfl, trivial⟩ rfl)))))))
    · refine gs Kd.i64 [.int .i64 t.rootNsn] ((⟨0, t.root, t.rootNsn⟩ : Mark).nsn) (fun _ => ⟨rfl, rfl, rfl⟩) (gs Kd.i64 [.int .i64 t.root] ((⟨0, t.root, t.rootNsn⟩ : Mark).id) (fun _ => ⟨rfl, rfl, rfl⟩) (gj (da := (Kd.via Kd.i64 Mark.id)) (db := (Kd.via Kd.i64 Mark.nsn)) (x := (⟨0, t.root, t.rootNsn⟩ : Mark)) (cs := [.int .i64 t.root, .int .i64 t.rootNsn]) rfl (gs Kd.i64 [.int .i64 0] ((⟨0, t.root, t.rootNsn⟩ : Mark).dist) (fun _ => ⟨rfl, rfl, rfl⟩) (gj (da := (Kd.via Kd.i64 Mark.dist)) (db := ((Kd.via Kd.i64 Mark.id).cat (Kd.via Kd.i64 Mark.nsn))) (x := (⟨0, t.root, t.rootNsn⟩ : Mark)) (cs := [.int .i64 0, .int .i64 t.root, .int .i64 t.rootNsn]) rfl (bs1 (dk := kMarkO) rfl info172 (by decide) rfl rfl rfl rfl ?_)))))
      intro b53
      refine qn (q1 1 [2, 2, 2, 2] rfl (by kernel_rfl) rfl (cm_ (dk := kQueryO) (x := q) (S := []) (by kernel_rfl) rfl rfl rfl sn0 (fun w_ hs_ => by exact impl_clonedQuery w_ (hs_.at 4 rfl) hz) (fun cs_ o60 s61 w_ r62 t63 => ?_)))
      obtain ⟨A54, c55, A56, c57, A58, c59, rfl⟩ := kQueryO_sh r62
      exact qn (qv 8 rfl (bd bld62 rfl rfl rfl) rfl (by kernel_rfl) (q1 9 [3, 3, 3, 3] rfl (by kernel_rfl) rfl (f2 (sto rfl rfl rfl rfl rfl rfl rfl (cs' := [.int .i64 q.kind, .slice A54 q.rect.low.length c55, .slice A56 q.rect.high.length c57, .slice A58 q.point.length c59, .int .i64 q.k, .slice (some ⟨b53, 0, none⟩) 1 1, .slice none 0 0]) rfl (qn (qe [3, 3, 3, 3] (by kernel_rfl) rfl (cx (A54, c55, A56, c57, A58, c59, b53, o60, s61) [0, 1, 0, 0, 0, 0, 0] ⟨t63, trivial⟩ ⟨rfl, trivial⟩ rfl)))))))
/-! spec.l9Start -/
set_option maxRecDepth 20000 in
set_option maxHeartbeats 2000000 in
theorem spec_l9Start (w : World) {At2 : Option Addr} {ct2 : Nat} {At3 : Option Addr} {ct3 : Nat} {At4 : Option Addr} {ct4 : Nat} {t : Tree} {st_ : List Nat} {pt : Addr} (ht : (ptr kTreeS pt [.int .i64 t.style, .int .i64 t.arena.dims, .slice At2 t.arena.nodes.length ct2, .slice At3 t.arena.free.length ct3, .slice At4 t.arena.retired.length ct4, .int .i64 t.root, .int .i64 t.rootNsn, .int .i64 t.counter] t st_).P w) {Aq1 : Option Addr} {cq1 : Nat} {Aq2 : Option Addr} {cq2 : Nat} {Aq3 : Option Addr} {cq3 : Nat} {q : Query} {sq_ : List Nat} {pq : Addr} (hq : (ptr kQueryS pq [.int .i64 q.kind, .slice Aq1 q.rect.low.length cq1, .slice Aq2 q.rect.high.length cq2, .slice Aq3 q.point.length cq3, .int .i64 q.k] q sq_).P w) (hz : szQuery q ≤ 1048576) : Calls Tryz.prog 80 #[.pointer (some pt), .pointer (some pq)] w (Made kLookO w (newLook t q) []) := by
  refine fnc (X := X13 18 w) (args := [.pointer (some pt), .pointer (some pq)]) (l := [(0, .pointer (some pt)), (1, .pointer (some pq))]) (G := [ptr kQueryS pq [.int .i64 q.kind, .slice Aq1 q.rect.low.length cq1, .slice Aq2 q.rect.high.length cq2, .slice Aq3 q.point.length cq3, .int .i64 q.k] q sq_, ptr kTreeS pt [.int .i64 t.style, .int .i64 t.arena.dims, .slice At2 t.arena.nodes.length ct2, .slice At3 t.arena.free.length ct3, .slice At4 t.arena.retired.length ct4, .int .i64 t.root, .int .i64 t.rootNsn, .int .i64 t.counter] t st_]) Tryz.func80 rfl rfl rfl ⟨rfl, rfl, trivial⟩ (s0p hq (s0p ht (s0n w))).1 ?_
  refine sq (rg (al zero62 rfl rfl rfl ?_))
  intro b1
  refine en (nx (sq ?_))
  refine rx (σ := Option Addr × Nat × Option Addr × Nat × Option Addr × Nat × Nat × List Nat × List Nat) (fun z_ : Option Addr × Nat × Option Addr × Nat × Option Addr × Nat × Nat × List Nat × List Nat => match z_ with | (A14, c15, A16, c17, A18, c19, b25, o20, s21) => [(4, .pointer (some ⟨b1, 0, none⟩))])
      (fun z_ : Option Addr × Nat × Option Addr × Nat × Option Addr × Nat × Nat × List Nat × List Nat => match z_ with | (A14, c15, A16, c17, A18, c19, b25, o20, s21) => [blk b1 [.int .i64 q.kind, .slice A14 q.rect.low.length c15, .slice A16 q.rect.high.length c17, .slice A18 q.point.length c19, .int .i64 q.k, .slice (some ⟨b25, 0, none⟩) 1 1, .slice none 0 0] 62, dat (Kd.row 172 kMarkO) [.slice (some ⟨b25, 0, none⟩) 1 1] ([(⟨0, t.root, t.rootNsn⟩ : Mark)]) (b25 :: ([] ++ ([] ++ []))) ([] ++ ([] ++ [])), dat kQueryO [.int .i64 q.kind, .slice A14 q.rect.low.length c15, .slice A16 q.rect.high.length c17, .slice A18 q.point.length c19, .int .i64 q.k] q o20 s21, ptr kQueryS pq [.int .i64 q.kind, .slice Aq1 q.rect.low.length cq1, .slice Aq2 q.rect.high.length cq2, .slice Aq3 q.point.length cq3, .int .i64 q.k] q sq_, ptr kTreeS pt [.int .i64 t.style, .int .i64 t.arena.dims, .slice At2 t.arena.nodes.length ct2, .slice At3 t.arena.free.length ct3, .slice At4 t.arena.retired.length ct4, .int .i64 t.root, .int .i64 t.rootNsn, .int .i64 t.counter] t st_])
      (fun z_ : Option Addr × Nat × Option Addr × Nat × Option Addr × Nat × Nat × List Nat × List Nat => match z_ with | (A14, c15, A16, c17, A18, c19, b25, o20, s21) => (∀ q ∈ s21, q ∈ ([] : List Nat) ∨ w.heap.size ≤ q) ∧ True) ?_ ?_
  · rintro ⟨A14, c15, A16, c17, A18, c19, b25, o20, s21⟩ ⟨t38, -⟩
    exact nx (rt (gs (Kd.row 176 kPairO) [.slice none 0 0] ((newLook t q).found) (fun _ => .inl ⟨rfl, rfl, rfl, rfl⟩) (f2 (gj (da := (Kd.via (Kd.row 172 kMarkO) Look.front)) (db := (Kd.via (Kd.row 176 kPairO) Look.found)) (x := (newLook t q)) (cs := [.slice (some ⟨b25, 0, none⟩) 1 1, .slice none 0 0]) rfl (f2 (gj (da := (Kd.via kQueryO Look.query)) (db := ((Kd.via (Kd.row 172 kMarkO) Look.front).cat (Kd.via (Kd.row 176 kPairO) Look.found))) (x := (newLook t q)) (cs := [.int .i64 q.kind, .slice A14 q.rect.low.length c15, .slice A16 q.rect.high.length c17, .slice A18 q.point.length c19, .int .i64 q.k, .slice (some ⟨b25, 0, none⟩) 1 1, .slice none 0 0]) rfl (gr (newLook t q) rfl (retc 1 rfl rfl rfl rfl rfl rfl (fun w_ hs_ => made hs_ rfl (see_app t38 (see_app (by grind) see_nil)))))))))))
  · refine rd (Gq := [ptr kQueryS pq [.int .i64 q.kind, .slice Aq1 q.rect.low.length cq1, .slice Aq2 q.rect.high.length cq2, .slice Aq3 q.point.length cq3, .int .i64 q.k] q sq_, ptr kTreeS pt [.int .i64 t.style, .int .i64 t.arena.dims, .slice At2 t.arena.nodes.length ct2, .slice At3 t.arena.free.length ct3, .slice At4 t.arena.retired.length ct4, .int .i64 t.root, .int .i64 t.rootNsn, .int .i64 t.counter] t st_]) [1, 1] rfl (qv 0 rfl (mv rfl rfl) rfl (by kernel_rfl) (qv 2 rfl (mv rfl rfl) rfl (by kernel_rfl) (qv 3 rfl (nc rfl rfl) rfl (by kernel_rfl) (qv 4 rfl (fa rfl rfl rfl) rfl (by kernel_rfl) (qv 5 rfl (ldp (u := .int .i64 t.root) 1 rfl rfl rfl rfl rfl rfl rfl) rfl (by kernel_rfl) (qv 6 rfl (mv rfl rfl) rfl (by kernel_rfl) (qv 7 rfl (nc rfl rfl) rfl (by kernel_rfl) (qv 8 rfl (fa rfl rfl rfl) rfl (by kernel_rfl) (qv 9 rfl (ldp (u := .int .i64 t.rootNsn) 1 rfl rfl rfl rfl rfl rfl rfl) rfl (by kernel_rfl) (qv 10 rfl (bd bld172 rfl rfl rfl) rfl (by kernel_rfl) ?_))))))))))
    refine qo 1 11 [1, 1] rfl rfl (by kernel_rfl) rfl ?_ ?_
    · refine cm_ (dk := kQueryO) (x := q) (S := []) (by kernel_rfl) rfl rfl rfl sn0 (fun w_ hs_ => by exact spec_l9Query w_ (hs_.at 1 rfl) hz) (fun cs_ o45 s46 w_ r47 t48 => ?_)
      obtain ⟨A39, c40, A41, c42, A43, c44, rfl⟩ := kQueryO_sh r47
      refine qn (q1 11 [2, 2] rfl (by kernel_rfl) rfl (gs Kd.i64 [.int .i64 t.rootNsn] ((⟨0, t.root, t.rootNsn⟩ : Mark).nsn) (fun _ => ⟨rfl, rfl, rfl⟩) (gs Kd.i64 [.int .i64 t.root] ((⟨0, t.root, t.rootNsn⟩ : Mark).id) (fun _ => ⟨rfl, rfl, rfl⟩) (gj (da := (Kd.via Kd.i64 Mark.id)) (db := (Kd.via Kd.i64 Mark.nsn)) (x := (⟨0, t.root, t.rootNsn⟩ : Mark)) (cs := [.int .i64 t.root, .int .i64 t.rootNsn]) rfl (gs Kd.i64 [.int .i64 0] ((⟨0, t.root, t.rootNsn⟩ : Mark).dist) (fun _ => ⟨rfl, rfl, rfl⟩) (gj (da := (Kd.via Kd.i64 Mark.dist)) (db := ((Kd.via Kd.i64 Mark.id).cat (Kd.via Kd.i64 Mark.nsn))) (x := (⟨0, t.root, t.rootNsn⟩ : Mark)) (cs := [.int .i64 0, .int .i64 t.root, .int .i64 t.rootNsn]) rfl (bs1 (dk := kMarkO) rfl info172 (by decide) rfl rfl rfl rfl ?_)))))))
      intro b50
      exact qn (qv 12 rfl (bd bld62 rfl rfl rfl) rfl (by kernel_rfl) (q1 13 [3, 3] rfl (by kernel_rfl) rfl (f2 (sto rfl rfl rfl rfl rfl rfl rfl (cs' := [.int .i64 q.kind, .slice A39 q.rect.low.length c40, .slice A41 q.rect.high.length c42, .slice A43 q.point.length c44, .int .i64 q.k, .slice (some ⟨b50, 0, none⟩) 1 1, .slice none 0 0]) rfl (qn (qe [3, 3] (by kernel_rfl) rfl (cx (A39, c40, A41, c42, A43, c44, b50, o45, s46) [0, 0, 0, 0, 0] ⟨t48, trivial⟩ ⟨rfl, trivial⟩ rfl)))))))
    · refine gs Kd.i64 [.int .i64 t.rootNsn] ((⟨0, t.root, t.rootNsn⟩ : Mark).nsn) (fun _ => ⟨rfl, rfl, rfl⟩) (gs Kd.i64 [.int .i64 t.root] ((⟨0, t.root, t.rootNsn⟩ : Mark).id) (fun _ => ⟨rfl, rfl, rfl⟩) (gj (da := (Kd.via Kd.i64 Mark.id)) (db := (Kd.via Kd.i64 Mark.nsn)) (x := (⟨0, t.root, t.rootNsn⟩ : Mark)) (cs := [.int .i64 t.root, .int .i64 t.rootNsn]) rfl (gs Kd.i64 [.int .i64 0] ((⟨0, t.root, t.rootNsn⟩ : Mark).dist) (fun _ => ⟨rfl, rfl, rfl⟩) (gj (da := (Kd.via Kd.i64 Mark.dist)) (db := ((Kd.via Kd.i64 Mark.id).cat (Kd.via Kd.i64 Mark.nsn))) (x := (⟨0, t.root, t.rootNsn⟩ : Mark)) (cs := [.int .i64 0, .int .i64 t.root, .int .i64 t.rootNsn]) rfl (bs1 (dk := kMarkO) rfl info172 (by decide) rfl rfl rfl rfl ?_)))))
      intro b51
      refine qn (q1 1 [2, 2] rfl (by kernel_rfl) rfl (cm_ (dk := kQueryO) (x := q) (S := []) (by kernel_rfl) rfl rfl rfl sn0 (fun w_ hs_ => by exact spec_l9Query w_ (hs_.at 2 rfl) hz) (fun cs_ o58 s59 w_ r60 t61 => ?_)))
      obtain ⟨A52, c53, A54, c55, A56, c57, rfl⟩ := kQueryO_sh r60
      exact qn (qv 12 rfl (bd bld62 rfl rfl rfl) rfl (by kernel_rfl) (q1 13 [3, 3] rfl (by kernel_rfl) rfl (f2 (sto rfl rfl rfl rfl rfl rfl rfl (cs' := [.int .i64 q.kind, .slice A52 q.rect.low.length c53, .slice A54 q.rect.high.length c55, .slice A56 q.point.length c57, .int .i64 q.k, .slice (some ⟨b51, 0, none⟩) 1 1, .slice none 0 0]) rfl (qn (qe [3, 3] (by kernel_rfl) rfl (cx (A52, c53, A54, c55, A56, c57, b51, o58, s59) [0, 1, 0, 0, 0] ⟨t61, trivial⟩ ⟨rfl, trivial⟩ rfl)))))))
/-! impl.StartLook -/
set_option maxRecDepth 20000 in
set_option maxHeartbeats 2000000 in
theorem impl_StartLook (w : World) {At2 : Option Addr} {ct2 : Nat} {At3 : Option Addr} {ct3 : Nat} {At4 : Option Addr} {ct4 : Nat} {t : Tree} {st_ : List Nat} (ht : kTreeS.Rel w [.int .i64 t.style, .int .i64 t.arena.dims, .slice At2 t.arena.nodes.length ct2, .slice At3 t.arena.free.length ct3, .slice At4 t.arena.retired.length ct4, .int .i64 t.root, .int .i64 t.rootNsn, .int .i64 t.counter] t [] st_) {Aq1 : Option Addr} {cq1 : Nat} {Aq2 : Option Addr} {cq2 : Nat} {Aq3 : Option Addr} {cq3 : Nat} {q : Query} {sq_ : List Nat} (hq : kQueryS.Rel w [.int .i64 q.kind, .slice Aq1 q.rect.low.length cq1, .slice Aq2 q.rect.high.length cq2, .slice Aq3 q.point.length cq3, .int .i64 q.k] q [] sq_)  : Calls Tryz.prog 29 #[.agg #[.int .i64 t.style, .int .i64 t.arena.dims, .slice At2 t.arena.nodes.length ct2, .slice At3 t.arena.free.length ct3, .slice At4 t.arena.retired.length ct4, .int .i64 t.root, .int .i64 t.rootNsn, .int .i64 t.counter], .agg #[.int .i64 q.kind, .slice Aq1 q.rect.low.length cq1, .slice Aq2 q.rect.high.length cq2, .slice Aq3 q.point.length cq3, .int .i64 q.k]] w (Made kLookResultO w (startLook t q) []) := by
  refine fnc (X := X13 26 w) (args := [.agg #[.int .i64 t.style, .int .i64 t.arena.dims, .slice At2 t.arena.nodes.length ct2, .slice At3 t.arena.free.length ct3, .slice At4 t.arena.retired.length ct4, .int .i64 t.root, .int .i64 t.rootNsn, .int .i64 t.counter], .agg #[.int .i64 q.kind, .slice Aq1 q.rect.low.length cq1, .slice Aq2 q.rect.high.length cq2, .slice Aq3 q.point.length cq3, .int .i64 q.k]]) (l := [(0, .agg #[.int .i64 t.style, .int .i64 t.arena.dims, .slice At2 t.arena.nodes.length ct2, .slice At3 t.arena.free.length ct3, .slice At4 t.arena.retired.length ct4, .int .i64 t.root, .int .i64 t.rootNsn, .int .i64 t.counter]), (1, .agg #[.int .i64 q.kind, .slice Aq1 q.rect.low.length cq1, .slice Aq2 q.rect.high.length cq2, .slice Aq3 q.point.length cq3, .int .i64 q.k])]) (G := [dat kQueryS [.int .i64 q.kind, .slice Aq1 q.rect.low.length cq1, .slice Aq2 q.rect.high.length cq2, .slice Aq3 q.point.length cq3, .int .i64 q.k] q ([]) sq_, dat kTreeS [.int .i64 t.style, .int .i64 t.arena.dims, .slice At2 t.arena.nodes.length ct2, .slice At3 t.arena.free.length ct3, .slice At4 t.arena.retired.length ct4, .int .i64 t.root, .int .i64 t.rootNsn, .int .i64 t.counter] t ([]) st_]) Tryz.func29 rfl rfl rfl ⟨rfl, rfl, trivial⟩ (s0d hq (s0d ht (s0n w))).1 ?_
  refine sq (rg (bx rfl rfl rfl rfl ?_))
  intro b1
  refine bx rfl rfl rfl rfl ?_
  intro b2
  refine al zero64 rfl rfl rfl ?_
  intro b3
  refine en (nx (sq (sq (rg (vl (ldb 2 rfl rfl rfl rfl rfl rfl rfl) rfl ?_)))))
  refine cs_ (v := .int .i64 (treeFault t)) (by kernel_rfl) rfl rfl rfl (fun w_ hs_ => impl_TreeFault w_ (hs_.at 4 rfl)) (a_ rfl rfl (en (nx (sq (rg (m_ rfl rfl (vl (cm rfl rfl rfl rfl) rfl (en (nx ?_)))))))))
  by_cases h4 : (treeFault t) = (0 : Int)
  · refine cf rfl (bne_eq_false_iff_eq.2 h4) (sk (nx (sq (sq (rg (vl (ldb 1 rfl rfl rfl rfl rfl rfl rfl) rfl (vl (fa rfl rfl rfl) rfl (vl (fa rfl rfl rfl) rfl (vl (ldb (u := .int .i64 t.arena.dims) 2 rfl rfl rfl rfl rfl rfl rfl) rfl ?_)))))))))
    refine cs_ (v := .int .i64 (queryFault q t.arena.dims)) (by kernel_rfl) rfl rfl rfl (fun w_ hs_ => impl_QueryFault w_ _ (hs_.at 3 rfl)) (a_ rfl rfl (en (nx (sq (rg (m_ rfl rfl (vl (cm rfl rfl rfl rfl) rfl (en (nx ?_)))))))))
    by_cases h5 : (queryFault q t.arena.dims) = (0 : Int)
    · have hqs := query_sz h5
      refine cf rfl (bne_eq_false_iff_eq.2 h5) (sk (nx (sq (rg (vl (ldb 2 rfl rfl rfl rfl rfl rfl rfl) rfl (vl (ldb 1 rfl rfl rfl rfl rfl rfl rfl) rfl (cm_ (dk := kLookO) (x := (newLook t q)) (S := []) (by kernel_rfl) rfl rfl rfl sn0 (fun w_ hs_ => impl_newLook w_ (hs_.at 4 rfl) (hs_.at 3 rfl) hqs) (fun cs_ o16 s17 w_ r18 t19 => ?_))))))))
      obtain ⟨A6, c7, A8, c9, A10, c11, A12, c13, A14, c15, rfl⟩ := kLookO_sh r18
      exact vl (bd bld64 rfl rfl rfl) rfl (f1 (sto rfl rfl rfl rfl rfl rfl rfl (cs' := [.int .i64 0, .int .i64 ((newLook t q).query.kind), .slice A6 ((newLook t q).query.rect.low.length) c7, .slice A8 ((newLook t q).query.rect.high.length) c9, .slice A10 ((newLook t q).query.point.length) c11, .int .i64 ((newLook t q).query.k), .slice A12 ((newLook t q).front.length) c13, .slice A14 ((newLook t q).found.length) c15]) rfl (en (nx (rt (f1 (gs Kd.i64 [.int .i64 0] ((⟨0, newLook t q⟩ : LookResult).code) (fun _ => ⟨rfl, rfl, rfl⟩) (gj (da := (Kd.via Kd.i64 LookResult.code)) (db := (Kd.via kLookO LookResult.look)) (x := (⟨0, newLook t q⟩ : LookResult)) (cs := [.int .i64 0, .int .i64 ((newLook t q).query.kind), .slice A6 ((newLook t q).query.rect.low.length) c7, .slice A8 ((newLook t q).query.rect.high.length) c9, .slice A10 ((newLook t q).query.point.length) c11, .int .i64 ((newLook t q).query.k), .slice A12 ((newLook t q).front.length) c13, .slice A14 ((newLook t q).found.length) c15]) rfl (gr (startLook t q) (by unfold startLook; rw [if_pos h4, if_pos h5]) (retc 1 rfl rfl rfl rfl rfl rfl (fun w_ hs_ => made hs_ rfl (see_app see_nil t19))))))))))))
    · exact ct rfl (bne_iff_ne.2 h5) (sq (rg (m_ rfl rfl (vl (bd bld64 rfl rfl rfl) rfl (sto rfl rfl rfl rfl rfl rfl rfl (cs' := [.int .i64 (queryFault q t.arena.dims), .int .i64 0, .slice none 0 0, .slice none 0 0, .slice none 0 0, .int .i64 0, .slice none 0 0, .slice none 0 0]) rfl (en (nx (rt (xr (gs (Kd.row 176 kPairO) [.slice none 0 0] (((⟨(queryFault q t.arena.dims), zLook⟩ : LookResult).look).found) (fun _ => .inl ⟨rfl, rfl, rfl, rfl⟩) (gs (Kd.row 172 kMarkO) [.slice none 0 0] (((⟨(queryFault q t.arena.dims), zLook⟩ : LookResult).look).front) (fun _ => .inl ⟨rfl, rfl, rfl, rfl⟩) (gj (da := (Kd.via (Kd.row 172 kMarkO) Look.front)) (db := (Kd.via (Kd.row 176 kPairO) Look.found)) (x := ((⟨(queryFault q t.arena.dims), zLook⟩ : LookResult).look)) (cs := [.slice none 0 0, .slice none 0 0]) rfl (gs Kd.i64 [.int .i64 0] ((((⟨(queryFault q t.arena.dims), zLook⟩ : LookResult).look).query).k) (fun _ => ⟨rfl, rfl, rfl⟩) (gs (Kd.row 2 Kd.i64) [.slice none 0 0] ((((⟨(queryFault q t.arena.dims), zLook⟩ : LookResult).look).query).point) (fun _ => .inl ⟨rfl, rfl, rfl, rfl⟩) (gj (da := (Kd.via (Kd.row 2 Kd.i64) Query.point)) (db := (Kd.via Kd.i64 Query.k)) (x := (((⟨(queryFault q t.arena.dims), zLook⟩ : LookResult).look).query)) (cs := [.slice none 0 0, .int .i64 0]) rfl (gs (Kd.row 2 Kd.i64) [.slice none 0 0] (((((⟨(queryFault q t.arena.dims), zLook⟩ : LookResult).look).query).rect).high) (fun _ => .inl ⟨rfl, rfl, rfl, rfl⟩) (gs (Kd.row 2 Kd.i64) [.slice none 0 0] (((((⟨(queryFault q t.arena.dims), zLook⟩ : LookResult).look).query).rect).low) (fun _ => .inl ⟨rfl, rfl, rfl, rfl⟩) (gj (da := (Kd.via (Kd.row 2 Kd.i64) Rect.low)) (db := (Kd.via (Kd.row 2 Kd.i64) Rect.high)) (x := ((((⟨(queryFault q t.arena.dims), zLook⟩ : LookResult).look).query).rect)) (cs := [.slice none 0 0, .slice none 0 0]) rfl (gj (da := (Kd.via kRectO Query.rect)) (db := ((Kd.via (Kd.row 2 Kd.i64) Query.point).cat (Kd.via Kd.i64 Query.k))) (x := (((⟨(queryFault q t.arena.dims), zLook⟩ : LookResult).look).query)) (cs := [.slice none 0 0, .slice none 0 0, .slice none 0 0, .int .i64 0]) rfl (gs Kd.i64 [.int .i64 0] ((((⟨(queryFault q t.arena.dims), zLook⟩ : LookResult).look).query).kind) (fun _ => ⟨rfl, rfl, rfl⟩) (gj (da := (Kd.via Kd.i64 Query.kind)) (db := ((Kd.via kRectO Query.rect).cat ((Kd.via (Kd.row 2 Kd.i64) Query.point).cat (Kd.via Kd.i64 Query.k)))) (x := (((⟨(queryFault q t.arena.dims), zLook⟩ : LookResult).look).query)) (cs := [.int .i64 0, .slice none 0 0, .slice none 0 0, .slice none 0 0, .int .i64 0]) rfl (gj (da := (Kd.via kQueryO Look.query)) (db := ((Kd.via (Kd.row 172 kMarkO) Look.front).cat (Kd.via (Kd.row 176 kPairO) Look.found))) (x := ((⟨(queryFault q t.arena.dims), zLook⟩ : LookResult).look)) (cs := [.int .i64 0, .slice none 0 0, .slice none 0 0, .slice none 0 0, .int .i64 0, .slice none 0 0, .slice none 0 0]) rfl (gs Kd.i64 [.int .i64 (queryFault q t.arena.dims)] ((⟨(queryFault q t.arena.dims), zLook⟩ : LookResult).code) (fun _ => ⟨rfl, rfl, rfl⟩) (gj (da := (Kd.via Kd.i64 LookResult.code)) (db := (Kd.via kLookO LookResult.look)) (x := (⟨(queryFault q t.arena.dims), zLook⟩ : LookResult)) (cs := [.int .i64 (queryFault q t.arena.dims), .int .i64 0, .slice none 0 0, .slice none 0 0, .slice none 0 0, .int .i64 0, .slice none 0 0, .slice none 0 0]) rfl (gr (startLook t q) (by unfold startLook; rw [if_pos h4, if_neg h5]) (retc 1 rfl rfl rfl rfl rfl rfl (fun w_ hs_ => made hs_ rfl (see_app see_nil (see_app (see_app see_nil (see_app (see_app see_nil see_nil) (see_app see_nil see_nil))) (see_app see_nil see_nil))))))))))))))))))))))))))))))
  · exact ct rfl (bne_iff_ne.2 h4) (sq (rg (m_ rfl rfl (vl (bd bld64 rfl rfl rfl) rfl (sto rfl rfl rfl rfl rfl rfl rfl (cs' := [.int .i64 (treeFault t), .int .i64 0, .slice none 0 0, .slice none 0 0, .slice none 0 0, .int .i64 0, .slice none 0 0, .slice none 0 0]) rfl (en (nx (rt (xr (gs (Kd.row 176 kPairO) [.slice none 0 0] (((⟨(treeFault t), zLook⟩ : LookResult).look).found) (fun _ => .inl ⟨rfl, rfl, rfl, rfl⟩) (gs (Kd.row 172 kMarkO) [.slice none 0 0] (((⟨(treeFault t), zLook⟩ : LookResult).look).front) (fun _ => .inl ⟨rfl, rfl, rfl, rfl⟩) (gj (da := (Kd.via (Kd.row 172 kMarkO) Look.front)) (db := (Kd.via (Kd.row 176 kPairO) Look.found)) (x := ((⟨(treeFault t), zLook⟩ : LookResult).look)) (cs := [.slice none 0 0, .slice none 0 0]) rfl (gs Kd.i64 [.int .i64 0] ((((⟨(treeFault t), zLook⟩ : LookResult).look).query).k) (fun _ => ⟨rfl, rfl, rfl⟩) (gs (Kd.row 2 Kd.i64) [.slice none 0 0] ((((⟨(treeFault t), zLook⟩ : LookResult).look).query).point) (fun _ => .inl ⟨rfl, rfl, rfl, rfl⟩) (gj (da := (Kd.via (Kd.row 2 Kd.i64) Query.point)) (db := (Kd.via Kd.i64 Query.k)) (x := (((⟨(treeFault t), zLook⟩ : LookResult).look).query)) (cs := [.slice none 0 0, .int .i64 0]) rfl (gs (Kd.row 2 Kd.i64) [.slice none 0 0] (((((⟨(treeFault t), zLook⟩ : LookResult).look).query).rect).high) (fun _ => .inl ⟨rfl, rfl, rfl, rfl⟩) (gs (Kd.row 2 Kd.i64) [.slice none 0 0] (((((⟨(treeFault t), zLook⟩ : LookResult).look).query).rect).low) (fun _ => .inl ⟨rfl, rfl, rfl, rfl⟩) (gj (da := (Kd.via (Kd.row 2 Kd.i64) Rect.low)) (db := (Kd.via (Kd.row 2 Kd.i64) Rect.high)) (x := ((((⟨(treeFault t), zLook⟩ : LookResult).look).query).rect)) (cs := [.slice none 0 0, .slice none 0 0]) rfl (gj (da := (Kd.via kRectO Query.rect)) (db := ((Kd.via (Kd.row 2 Kd.i64) Query.point).cat (Kd.via Kd.i64 Query.k))) (x := (((⟨(treeFault t), zLook⟩ : LookResult).look).query)) (cs := [.slice none 0 0, .slice none 0 0, .slice none 0 0, .int .i64 0]) rfl (gs Kd.i64 [.int .i64 0] ((((⟨(treeFault t), zLook⟩ : LookResult).look).query).kind) (fun _ => ⟨rfl, rfl, rfl⟩) (gj (da := (Kd.via Kd.i64 Query.kind)) (db := ((Kd.via kRectO Query.rect).cat ((Kd.via (Kd.row 2 Kd.i64) Query.point).cat (Kd.via Kd.i64 Query.k)))) (x := (((⟨(treeFault t), zLook⟩ : LookResult).look).query)) (cs := [.int .i64 0, .slice none 0 0, .slice none 0 0, .slice none 0 0, .int .i64 0]) rfl (gj (da := (Kd.via kQueryO Look.query)) (db := ((Kd.via (Kd.row 172 kMarkO) Look.front).cat (Kd.via (Kd.row 176 kPairO) Look.found))) (x := ((⟨(treeFault t), zLook⟩ : LookResult).look)) (cs := [.int .i64 0, .slice none 0 0, .slice none 0 0, .slice none 0 0, .int .i64 0, .slice none 0 0, .slice none 0 0]) rfl (gs Kd.i64 [.int .i64 (treeFault t)] ((⟨(treeFault t), zLook⟩ : LookResult).code) (fun _ => ⟨rfl, rfl, rfl⟩) (gj (da := (Kd.via Kd.i64 LookResult.code)) (db := (Kd.via kLookO LookResult.look)) (x := (⟨(treeFault t), zLook⟩ : LookResult)) (cs := [.int .i64 (treeFault t), .int .i64 0, .slice none 0 0, .slice none 0 0, .slice none 0 0, .int .i64 0, .slice none 0 0, .slice none 0 0]) rfl (gr (startLook t q) (by unfold startLook; rw [if_neg h4]) (retc 1 rfl rfl rfl rfl rfl rfl (fun w_ hs_ => made hs_ rfl (see_app see_nil (see_app (see_app see_nil (see_app (see_app see_nil see_nil) (see_app see_nil see_nil))) (see_app see_nil see_nil))))))))))))))))))))))))))))))
/-! spec.StartLook -/
set_option maxRecDepth 20000 in
set_option maxHeartbeats 2000000 in
theorem spec_StartLook (w : World) {At2 : Option Addr} {ct2 : Nat} {At3 : Option Addr} {ct3 : Nat} {At4 : Option Addr} {ct4 : Nat} {t : Tree} {st_ : List Nat} (ht : kTreeS.Rel w [.int .i64 t.style, .int .i64 t.arena.dims, .slice At2 t.arena.nodes.length ct2, .slice At3 t.arena.free.length ct3, .slice At4 t.arena.retired.length ct4, .int .i64 t.root, .int .i64 t.rootNsn, .int .i64 t.counter] t [] st_) {Aq1 : Option Addr} {cq1 : Nat} {Aq2 : Option Addr} {cq2 : Nat} {Aq3 : Option Addr} {cq3 : Nat} {q : Query} {sq_ : List Nat} (hq : kQueryS.Rel w [.int .i64 q.kind, .slice Aq1 q.rect.low.length cq1, .slice Aq2 q.rect.high.length cq2, .slice Aq3 q.point.length cq3, .int .i64 q.k] q [] sq_)  : Calls Tryz.prog 27 #[.agg #[.int .i64 t.style, .int .i64 t.arena.dims, .slice At2 t.arena.nodes.length ct2, .slice At3 t.arena.free.length ct3, .slice At4 t.arena.retired.length ct4, .int .i64 t.root, .int .i64 t.rootNsn, .int .i64 t.counter], .agg #[.int .i64 q.kind, .slice Aq1 q.rect.low.length cq1, .slice Aq2 q.rect.high.length cq2, .slice Aq3 q.point.length cq3, .int .i64 q.k]] w (Made kLookResultO w (startLook t q) []) := by
  refine fnc (X := X13 24 w) (args := [.agg #[.int .i64 t.style, .int .i64 t.arena.dims, .slice At2 t.arena.nodes.length ct2, .slice At3 t.arena.free.length ct3, .slice At4 t.arena.retired.length ct4, .int .i64 t.root, .int .i64 t.rootNsn, .int .i64 t.counter], .agg #[.int .i64 q.kind, .slice Aq1 q.rect.low.length cq1, .slice Aq2 q.rect.high.length cq2, .slice Aq3 q.point.length cq3, .int .i64 q.k]]) (l := [(0, .agg #[.int .i64 t.style, .int .i64 t.arena.dims, .slice At2 t.arena.nodes.length ct2, .slice At3 t.arena.free.length ct3, .slice At4 t.arena.retired.length ct4, .int .i64 t.root, .int .i64 t.rootNsn, .int .i64 t.counter]), (1, .agg #[.int .i64 q.kind, .slice Aq1 q.rect.low.length cq1, .slice Aq2 q.rect.high.length cq2, .slice Aq3 q.point.length cq3, .int .i64 q.k])]) (G := [dat kQueryS [.int .i64 q.kind, .slice Aq1 q.rect.low.length cq1, .slice Aq2 q.rect.high.length cq2, .slice Aq3 q.point.length cq3, .int .i64 q.k] q ([]) sq_, dat kTreeS [.int .i64 t.style, .int .i64 t.arena.dims, .slice At2 t.arena.nodes.length ct2, .slice At3 t.arena.free.length ct3, .slice At4 t.arena.retired.length ct4, .int .i64 t.root, .int .i64 t.rootNsn, .int .i64 t.counter] t ([]) st_]) Tryz.func27 rfl rfl rfl ⟨rfl, rfl, trivial⟩ (s0d hq (s0d ht (s0n w))).1 ?_
  refine sq (rg (bx rfl rfl rfl rfl ?_))
  intro b1
  refine bx rfl rfl rfl rfl ?_
  intro b2
  refine al zero64 rfl rfl rfl ?_
  intro b3
  refine en (nx (sq (sq (rg (vl (ldb 2 rfl rfl rfl rfl rfl rfl rfl) rfl ?_)))))
  refine cs_ (v := .int .i64 (treeFault t)) (by kernel_rfl) rfl rfl rfl (fun w_ hs_ => spec_TreeFault w_ (hs_.at 4 rfl)) (a_ rfl rfl (en (nx (sq (rg (m_ rfl rfl (vl (cm rfl rfl rfl rfl) rfl (en (nx ?_)))))))))
  by_cases h4 : (treeFault t) = (0 : Int)
  · refine cf rfl (bne_eq_false_iff_eq.2 h4) (sk (nx (sq (sq (rg (vl (ldb 1 rfl rfl rfl rfl rfl rfl rfl) rfl (vl (fa rfl rfl rfl) rfl (vl (fa rfl rfl rfl) rfl (vl (ldb (u := .int .i64 t.arena.dims) 2 rfl rfl rfl rfl rfl rfl rfl) rfl ?_)))))))))
    refine cs_ (v := .int .i64 (queryFault q t.arena.dims)) (by kernel_rfl) rfl rfl rfl (fun w_ hs_ => spec_QueryFault w_ _ (hs_.at 3 rfl)) (a_ rfl rfl (en (nx (sq (rg (m_ rfl rfl (vl (cm rfl rfl rfl rfl) rfl (en (nx ?_)))))))))
    by_cases h5 : (queryFault q t.arena.dims) = (0 : Int)
    · have hqs := query_sz h5
      refine cf rfl (bne_eq_false_iff_eq.2 h5) (sk (nx (sq (rg (cm_ (dk := kLookO) (x := (newLook t q)) (S := []) (by kernel_rfl) rfl rfl rfl sn0 (fun w_ hs_ => spec_l9Start w_ (ptr_blk (hs_.at 2 rfl) (hs_.at 4 rfl) rfl) (ptr_blk (hs_.at 1 rfl) (hs_.at 3 rfl) rfl) hqs) (fun cs_ o16 s17 w_ r18 t19 => ?_))))))
      obtain ⟨A6, c7, A8, c9, A10, c11, A12, c13, A14, c15, rfl⟩ := kLookO_sh r18
      exact vl (bd bld64 rfl rfl rfl) rfl (f1 (sto rfl rfl rfl rfl rfl rfl rfl (cs' := [.int .i64 0, .int .i64 ((newLook t q).query.kind), .slice A6 ((newLook t q).query.rect.low.length) c7, .slice A8 ((newLook t q).query.rect.high.length) c9, .slice A10 ((newLook t q).query.point.length) c11, .int .i64 ((newLook t q).query.k), .slice A12 ((newLook t q).front.length) c13, .slice A14 ((newLook t q).found.length) c15]) rfl (en (nx (rt (f1 (gs Kd.i64 [.int .i64 0] ((⟨0, newLook t q⟩ : LookResult).code) (fun _ => ⟨rfl, rfl, rfl⟩) (gj (da := (Kd.via Kd.i64 LookResult.code)) (db := (Kd.via kLookO LookResult.look)) (x := (⟨0, newLook t q⟩ : LookResult)) (cs := [.int .i64 0, .int .i64 ((newLook t q).query.kind), .slice A6 ((newLook t q).query.rect.low.length) c7, .slice A8 ((newLook t q).query.rect.high.length) c9, .slice A10 ((newLook t q).query.point.length) c11, .int .i64 ((newLook t q).query.k), .slice A12 ((newLook t q).front.length) c13, .slice A14 ((newLook t q).found.length) c15]) rfl (gr (startLook t q) (by unfold startLook; rw [if_pos h4, if_pos h5]) (retc 1 rfl rfl rfl rfl rfl rfl (fun w_ hs_ => made hs_ rfl (see_app see_nil t19))))))))))))
    · exact ct rfl (bne_iff_ne.2 h5) (sq (rg (m_ rfl rfl (vl (bd bld64 rfl rfl rfl) rfl (sto rfl rfl rfl rfl rfl rfl rfl (cs' := [.int .i64 (queryFault q t.arena.dims), .int .i64 0, .slice none 0 0, .slice none 0 0, .slice none 0 0, .int .i64 0, .slice none 0 0, .slice none 0 0]) rfl (en (nx (rt (xr (gs (Kd.row 176 kPairO) [.slice none 0 0] (((⟨(queryFault q t.arena.dims), zLook⟩ : LookResult).look).found) (fun _ => .inl ⟨rfl, rfl, rfl, rfl⟩) (gs (Kd.row 172 kMarkO) [.slice none 0 0] (((⟨(queryFault q t.arena.dims), zLook⟩ : LookResult).look).front) (fun _ => .inl ⟨rfl, rfl, rfl, rfl⟩) (gj (da := (Kd.via (Kd.row 172 kMarkO) Look.front)) (db := (Kd.via (Kd.row 176 kPairO) Look.found)) (x := ((⟨(queryFault q t.arena.dims), zLook⟩ : LookResult).look)) (cs := [.slice none 0 0, .slice none 0 0]) rfl (gs Kd.i64 [.int .i64 0] ((((⟨(queryFault q t.arena.dims), zLook⟩ : LookResult).look).query).k) (fun _ => ⟨rfl, rfl, rfl⟩) (gs (Kd.row 2 Kd.i64) [.slice none 0 0] ((((⟨(queryFault q t.arena.dims), zLook⟩ : LookResult).look).query).point) (fun _ => .inl ⟨rfl, rfl, rfl, rfl⟩) (gj (da := (Kd.via (Kd.row 2 Kd.i64) Query.point)) (db := (Kd.via Kd.i64 Query.k)) (x := (((⟨(queryFault q t.arena.dims), zLook⟩ : LookResult).look).query)) (cs := [.slice none 0 0, .int .i64 0]) rfl (gs (Kd.row 2 Kd.i64) [.slice none 0 0] (((((⟨(queryFault q t.arena.dims), zLook⟩ : LookResult).look).query).rect).high) (fun _ => .inl ⟨rfl, rfl, rfl, rfl⟩) (gs (Kd.row 2 Kd.i64) [.slice none 0 0] (((((⟨(queryFault q t.arena.dims), zLook⟩ : LookResult).look).query).rect).low) (fun _ => .inl ⟨rfl, rfl, rfl, rfl⟩) (gj (da := (Kd.via (Kd.row 2 Kd.i64) Rect.low)) (db := (Kd.via (Kd.row 2 Kd.i64) Rect.high)) (x := ((((⟨(queryFault q t.arena.dims), zLook⟩ : LookResult).look).query).rect)) (cs := [.slice none 0 0, .slice none 0 0]) rfl (gj (da := (Kd.via kRectO Query.rect)) (db := ((Kd.via (Kd.row 2 Kd.i64) Query.point).cat (Kd.via Kd.i64 Query.k))) (x := (((⟨(queryFault q t.arena.dims), zLook⟩ : LookResult).look).query)) (cs := [.slice none 0 0, .slice none 0 0, .slice none 0 0, .int .i64 0]) rfl (gs Kd.i64 [.int .i64 0] ((((⟨(queryFault q t.arena.dims), zLook⟩ : LookResult).look).query).kind) (fun _ => ⟨rfl, rfl, rfl⟩) (gj (da := (Kd.via Kd.i64 Query.kind)) (db := ((Kd.via kRectO Query.rect).cat ((Kd.via (Kd.row 2 Kd.i64) Query.point).cat (Kd.via Kd.i64 Query.k)))) (x := (((⟨(queryFault q t.arena.dims), zLook⟩ : LookResult).look).query)) (cs := [.int .i64 0, .slice none 0 0, .slice none 0 0, .slice none 0 0, .int .i64 0]) rfl (gj (da := (Kd.via kQueryO Look.query)) (db := ((Kd.via (Kd.row 172 kMarkO) Look.front).cat (Kd.via (Kd.row 176 kPairO) Look.found))) (x := ((⟨(queryFault q t.arena.dims), zLook⟩ : LookResult).look)) (cs := [.int .i64 0, .slice none 0 0, .slice none 0 0, .slice none 0 0, .int .i64 0, .slice none 0 0, .slice none 0 0]) rfl (gs Kd.i64 [.int .i64 (queryFault q t.arena.dims)] ((⟨(queryFault q t.arena.dims), zLook⟩ : LookResult).code) (fun _ => ⟨rfl, rfl, rfl⟩) (gj (da := (Kd.via Kd.i64 LookResult.code)) (db := (Kd.via kLookO LookResult.look)) (x := (⟨(queryFault q t.arena.dims), zLook⟩ : LookResult)) (cs := [.int .i64 (queryFault q t.arena.dims), .int .i64 0, .slice none 0 0, .slice none 0 0, .slice none 0 0, .int .i64 0, .slice none 0 0, .slice none 0 0]) rfl (gr (startLook t q) (by unfold startLook; rw [if_pos h4, if_neg h5]) (retc 1 rfl rfl rfl rfl rfl rfl (fun w_ hs_ => made hs_ rfl (see_app see_nil (see_app (see_app see_nil (see_app (see_app see_nil see_nil) (see_app see_nil see_nil))) (see_app see_nil see_nil))))))))))))))))))))))))))))))
  · exact ct rfl (bne_iff_ne.2 h4) (sq (rg (m_ rfl rfl (vl (bd bld64 rfl rfl rfl) rfl (sto rfl rfl rfl rfl rfl rfl rfl (cs' := [.int .i64 (treeFault t), .int .i64 0, .slice none 0 0, .slice none 0 0, .slice none 0 0, .int .i64 0, .slice none 0 0, .slice none 0 0]) rfl (en (nx (rt (xr (gs (Kd.row 176 kPairO) [.slice none 0 0] (((⟨(treeFault t), zLook⟩ : LookResult).look).found) (fun _ => .inl ⟨rfl, rfl, rfl, rfl⟩) (gs (Kd.row 172 kMarkO) [.slice none 0 0] (((⟨(treeFault t), zLook⟩ : LookResult).look).front) (fun _ => .inl ⟨rfl, rfl, rfl, rfl⟩) (gj (da := (Kd.via (Kd.row 172 kMarkO) Look.front)) (db := (Kd.via (Kd.row 176 kPairO) Look.found)) (x := ((⟨(treeFault t), zLook⟩ : LookResult).look)) (cs := [.slice none 0 0, .slice none 0 0]) rfl (gs Kd.i64 [.int .i64 0] ((((⟨(treeFault t), zLook⟩ : LookResult).look).query).k) (fun _ => ⟨rfl, rfl, rfl⟩) (gs (Kd.row 2 Kd.i64) [.slice none 0 0] ((((⟨(treeFault t), zLook⟩ : LookResult).look).query).point) (fun _ => .inl ⟨rfl, rfl, rfl, rfl⟩) (gj (da := (Kd.via (Kd.row 2 Kd.i64) Query.point)) (db := (Kd.via Kd.i64 Query.k)) (x := (((⟨(treeFault t), zLook⟩ : LookResult).look).query)) (cs := [.slice none 0 0, .int .i64 0]) rfl (gs (Kd.row 2 Kd.i64) [.slice none 0 0] (((((⟨(treeFault t), zLook⟩ : LookResult).look).query).rect).high) (fun _ => .inl ⟨rfl, rfl, rfl, rfl⟩) (gs (Kd.row 2 Kd.i64) [.slice none 0 0] (((((⟨(treeFault t), zLook⟩ : LookResult).look).query).rect).low) (fun _ => .inl ⟨rfl, rfl, rfl, rfl⟩) (gj (da := (Kd.via (Kd.row 2 Kd.i64) Rect.low)) (db := (Kd.via (Kd.row 2 Kd.i64) Rect.high)) (x := ((((⟨(treeFault t), zLook⟩ : LookResult).look).query).rect)) (cs := [.slice none 0 0, .slice none 0 0]) rfl (gj (da := (Kd.via kRectO Query.rect)) (db := ((Kd.via (Kd.row 2 Kd.i64) Query.point).cat (Kd.via Kd.i64 Query.k))) (x := (((⟨(treeFault t), zLook⟩ : LookResult).look).query)) (cs := [.slice none 0 0, .slice none 0 0, .slice none 0 0, .int .i64 0]) rfl (gs Kd.i64 [.int .i64 0] ((((⟨(treeFault t), zLook⟩ : LookResult).look).query).kind) (fun _ => ⟨rfl, rfl, rfl⟩) (gj (da := (Kd.via Kd.i64 Query.kind)) (db := ((Kd.via kRectO Query.rect).cat ((Kd.via (Kd.row 2 Kd.i64) Query.point).cat (Kd.via Kd.i64 Query.k)))) (x := (((⟨(treeFault t), zLook⟩ : LookResult).look).query)) (cs := [.int .i64 0, .slice none 0 0, .slice none 0 0, .slice none 0 0, .int .i64 0]) rfl (gj (da := (Kd.via kQueryO Look.query)) (db := ((Kd.via (Kd.row 172 kMarkO) Look.front).cat (Kd.via (Kd.row 176 kPairO) Look.found))) (x := ((⟨(treeFault t), zLook⟩ : LookResult).look)) (cs := [.int .i64 0, .slice none 0 0, .slice none 0 0, .slice none 0 0, .int .i64 0, .slice none 0 0, .slice none 0 0]) rfl (gs Kd.i64 [.int .i64 (treeFault t)] ((⟨(treeFault t), zLook⟩ : LookResult).code) (fun _ => ⟨rfl, rfl, rfl⟩) (gj (da := (Kd.via Kd.i64 LookResult.code)) (db := (Kd.via kLookO LookResult.look)) (x := (⟨(treeFault t), zLook⟩ : LookResult)) (cs := [.int .i64 (treeFault t), .int .i64 0, .slice none 0 0, .slice none 0 0, .slice none 0 0, .int .i64 0, .slice none 0 0, .slice none 0 0]) rfl (gr (startLook t q) (by unfold startLook; rw [if_neg h4]) (retc 1 rfl rfl rfl rfl rfl rfl (fun w_ hs_ => made hs_ rfl (see_app see_nil (see_app (see_app see_nil (see_app (see_app see_nil see_nil) (see_app see_nil see_nil))) (see_app see_nil see_nil))))))))))))))))))))))))))))))
def mkV_Rect (k : Int) (a : Rect) : Rect := ⟨mkL mI cI (k) a.low, mkL mI cI (k + (a.low.length : Int)) a.high⟩
def cntV_Rect (a : Rect) : Int := 0 + (a.low.length : Int) + (a.high.length : Int)
theorem cntV_Rect_nn (a : Rect) : 0 ≤ cntV_Rect a := by
  unfold cntV_Rect; omega
def mkV_Query (k : Int) (a : Query) : Query := ⟨a.kind, ⟨mkL mI cI (k) a.rect.low, mkL mI cI (k + (a.rect.low.length : Int)) a.rect.high⟩, mkL mI cI (k + (a.rect.low.length : Int) + (a.rect.high.length : Int)) a.point, a.k⟩
def cntV_Query (a : Query) : Int := 0 + (a.rect.low.length : Int) + (a.rect.high.length : Int) + (a.point.length : Int)
theorem cntV_Query_nn (a : Query) : 0 ≤ cntV_Query a := by
  unfold cntV_Query; omega
def mkE_Mark (k : Int) (a : Mark) : Mark := ⟨k, k + 1, k + 1 + 1⟩
def cntE_Mark (a : Mark) : Int := 0 + 1 + 1 + 1
theorem cntE_Mark_nn (a : Mark) : 0 ≤ cntE_Mark a := by
  unfold cntE_Mark; omega
def mkE_Pair (k : Int) (a : Pair) : Pair := ⟨k, ⟨mkL mI cI (k + 1) a.rect.low, mkL mI cI (k + 1 + (a.rect.low.length : Int)) a.rect.high⟩⟩
def cntE_Pair (a : Pair) : Int := 0 + 1 + (a.rect.low.length : Int) + (a.rect.high.length : Int)
theorem cntE_Pair_nn (a : Pair) : 0 ≤ cntE_Pair a := by
  unfold cntE_Pair; omega
def mkV_Look (k : Int) (a : Look) : Look := ⟨⟨a.query.kind, ⟨mkL mI cI (k) a.query.rect.low, mkL mI cI (k + (a.query.rect.low.length : Int)) a.query.rect.high⟩, mkL mI cI (k + (a.query.rect.low.length : Int) + (a.query.rect.high.length : Int)) a.query.point, a.query.k⟩, mkL mkE_Mark cntE_Mark (k + (a.query.rect.low.length : Int) + (a.query.rect.high.length : Int) + (a.query.point.length : Int)) a.front, mkL mkE_Pair cntE_Pair (k + (a.query.rect.low.length : Int) + (a.query.rect.high.length : Int) + (a.query.point.length : Int) + (a.front.map cntE_Mark).sum) a.found⟩
def cntV_Look (a : Look) : Int := 0 + (a.query.rect.low.length : Int) + (a.query.rect.high.length : Int) + (a.query.point.length : Int) + (a.front.map cntE_Mark).sum + (a.found.map cntE_Pair).sum
theorem cntV_Look_nn (a : Look) : 0 ≤ cntV_Look a := by
  have := sum_nn cntE_Mark_nn a.front
  have := sum_nn cntE_Pair_nn a.found
  unfold cntV_Look; omega
def mkV_LookResult (k : Int) (a : LookResult) : LookResult := ⟨a.code, ⟨⟨a.look.query.kind, ⟨mkL mI cI (k) a.look.query.rect.low, mkL mI cI (k + (a.look.query.rect.low.length : Int)) a.look.query.rect.high⟩, mkL mI cI (k + (a.look.query.rect.low.length : Int) + (a.look.query.rect.high.length : Int)) a.look.query.point, a.look.query.k⟩, mkL mkE_Mark cntE_Mark (k + (a.look.query.rect.low.length : Int) + (a.look.query.rect.high.length : Int) + (a.look.query.point.length : Int)) a.look.front, mkL mkE_Pair cntE_Pair (k + (a.look.query.rect.low.length : Int) + (a.look.query.rect.high.length : Int) + (a.look.query.point.length : Int) + (a.look.front.map cntE_Mark).sum) a.look.found⟩⟩
def cntV_LookResult (a : LookResult) : Int := 0 + (a.look.query.rect.low.length : Int) + (a.look.query.rect.high.length : Int) + (a.look.query.point.length : Int) + (a.look.front.map cntE_Mark).sum + (a.look.found.map cntE_Pair).sum
theorem cntV_LookResult_nn (a : LookResult) : 0 ≤ cntV_LookResult a := by
  have := sum_nn cntE_Mark_nn a.look.front
  have := sum_nn cntE_Pair_nn a.look.found
  unfold cntV_LookResult; omega
/-! laws.markRect -/
set_option maxRecDepth 20000 in
set_option maxHeartbeats 2000000 in
theorem laws_markRect (w : World) (k : Int) {Aa0 : Option Addr} {ca0 : Nat} {Aa1 : Option Addr} {ca1 : Nat} {a : Rect} {oa_ sa_ : List Nat} (hst : St (nul w) w [dat kRectO [.slice Aa0 a.low.length ca0, .slice Aa1 a.high.length ca1] a oa_ sa_]) (hk0 : 0 ≤ k) (hk1 : k + (0 + (a.low.length : Int) + (a.high.length : Int)) ≤ 1152921504606846976) : Calls Tryz.prog 85 #[.agg #[.slice Aa0 a.low.length ca0, .slice Aa1 a.high.length ca1], .int .i64 k] w (TurnO kRectO [.slice Aa0 a.low.length ca0, .slice Aa1 a.high.length ca1] (.int .i64 (k + (a.low.length : Int) + (a.high.length : Int))) w oa_ (mkV_Rect k a) (sa_)) := by
  skip
  refine fnc (X := X13 14 (nul w)) (args := [.agg #[.slice Aa0 a.low.length ca0, .slice Aa1 a.high.length ca1], .int .i64 k]) (l := [(0, .agg #[.slice Aa0 a.low.length ca0, .slice Aa1 a.high.length ca1]), (1, .int .i64 k)]) (G := [frm w oa_, dat kRectO [.slice Aa0 a.low.length ca0, .slice Aa1 a.high.length ca1] a oa_ sa_]) Tryz.func85 rfl rfl rfl ⟨rfl, rfl, trivial⟩ (⟨hst.fr oa_ (by simp [owns, dat, ptr]), trivial⟩ : _ ∧ True).1 ?_
  refine f1 (gsp (da := (Kd.via (Kd.row 2 Kd.i64) Rect.low)) rfl rfl (fun o1 o2 s3 s4 us3 us4 => ?_))
  refine gv (f1 (gv ?_))
  refine sq (rg (bx rfl rfl rfl rfl ?_))
  intro b5
  refine a_ rfl rfl (en (nx (sq (rg (vl (fa rfl rfl rfl) rfl (vl (ldb (u := .slice Aa0 a.low.length ca0) 0 rfl rfl rfl rfl rfl rfl rfl) rfl (m_ rfl rfl (f2 (cto (dk := (Kd.row 2 Kd.i64)) (cs := [.slice Aa0 a.low.length ca0]) (x := (mkL mI cI k a.low)) (v := .int .i64 (k + ((a.low.length : Nat) : Int))) (S := (s3)) (by kernel_rfl) rfl rfl rfl (snt 0 rfl) w.heap.size (fun w_ hs_ => (hs_.mod 3 rfl).size) (fun w_ hs_ => laws_markInt64S w_ _ ((hs_.pk [0] rfl).nl) (by omega) (by omega)) (fun o6 s7 t8 => ?_))))))))))
  refine a_ rfl rfl (en (nx (sq (rg (vl (fa rfl rfl rfl) rfl (vl (ldb (u := .slice Aa1 a.high.length ca1) 1 rfl rfl rfl rfl rfl rfl rfl) rfl (m_ rfl rfl (f2 (cto (dk := (Kd.row 2 Kd.i64)) (cs := [.slice Aa1 a.high.length ca1]) (x := (mkL mI cI (k + ((a.low.length : Nat) : Int)) a.high)) (v := .int .i64 ((k + ((a.low.length : Nat) : Int)) + ((a.high.length : Nat) : Int))) (S := (s4)) (by kernel_rfl) rfl rfl rfl (snt 0 rfl) w.heap.size (fun w_ hs_ => (hs_.mod 3 rfl).size) (fun w_ hs_ => laws_markInt64S w_ _ ((hs_.pk [0] rfl).nl) (by omega) (by omega)) (fun o9 s10 t11 => ?_))))))))))
  exact a_ rfl rfl (en (nx (sq (rg (m_ rfl rfl (a_ rfl rfl (en (nx (rt (f1 (gj (da := (Kd.via (Kd.row 2 Kd.i64) Rect.low)) (db := (Kd.via (Kd.row 2 Kd.i64) Rect.high)) (x := (mkV_Rect k a)) (cs := [.slice Aa0 a.low.length ca0, .slice Aa1 a.high.length ca1]) rfl (ret1 rfl rfl (fun w_ hs_ => turno hs_ 1 rfl (by exact vi (by omega)) (see_app (by grind) (by grind)))))))))))))))
/-! laws.heldRect -/
set_option maxRecDepth 20000 in
set_option maxHeartbeats 2000000 in
theorem laws_heldRect (w : World) (k : Int) {Aa0 : Option Addr} {na0 ca0 : Nat} {Aa1 : Option Addr} {na1 ca1 : Nat} {a : Rect} {sa_ : List Nat} (ha : kRectS.Rel w [.slice Aa0 na0 ca0, .slice Aa1 na1 ca1] (mkV_Rect k a) [] sa_) (hk0 : 0 ≤ k) (hk1 : k + (0 + (a.low.length : Int) + (a.high.length : Int)) ≤ 1152921504606846976) : Calls Tryz.prog 198 #[.agg #[.slice Aa0 na0 ca0, .slice Aa1 na1 ca1], .int .i64 k] w (fun e_ w2_ => e_ = .returned (.int .i64 (k + (a.low.length : Int) + (a.high.length : Int))) ∧ Below w.heap.size w w2_) := by
  skip
  refine fnc (X := X13 18 w) (args := [.agg #[.slice Aa0 na0 ca0, .slice Aa1 na1 ca1], .int .i64 k]) (l := [(0, .agg #[.slice Aa0 na0 ca0, .slice Aa1 na1 ca1]), (1, .int .i64 k)]) (G := [dat kRectS [.slice Aa0 na0 ca0, .slice Aa1 na1 ca1] (mkV_Rect k a) ([]) sa_]) Tryz.func198 rfl rfl rfl ⟨rfl, rfl, trivial⟩ (s0d ha (s0n w)).1 ?_
  refine sq (rg (bx rfl rfl rfl rfl ?_))
  intro b1
  refine a_ rfl rfl (en (nx (sq (rg (vl (fa rfl rfl rfl) rfl (vl (ldb (u := .slice Aa0 na0 ca0) 0 rfl rfl rfl rfl rfl rfl rfl) rfl (m_ rfl rfl ?_)))))))
  refine gd 1 kRectS_p0_1 rfl (cs' := [.slice Aa0 na0 ca0]) rfl fun s2 w_ rs2 us2 => ?_
  have Ls2 := Kd.sl_len rs2; have Cs2 := Kd.sl_cap rs2
  refine gr (mkL mI cI k a.low) rfl (cs_ (v := .int .i64 (k + ((a.low.length : Nat) : Int))) (by kernel_rfl) rfl rfl rfl (fun w_ hs_ => laws_heldInt64S w_ _ (hs_.at 0 rfl) (by omega) (by omega)) (a_ rfl rfl (en (nx (sq (sq (rg (m_ rfl rfl (vl (cm rfl rfl rfl rfl) rfl (en (nx ?_)))))))))))
  by_cases h3 : (k + ((a.low.length : Nat) : Int)) < (0 : Int)
  · exfalso; omega
  · refine cf rfl (decide_eq_false h3) (sk (nx (sq (rg (vl (fa rfl rfl rfl) rfl (vl (ldb (u := .slice Aa1 na1 ca1) 1 rfl rfl rfl rfl rfl rfl rfl) rfl (m_ rfl rfl ?_)))))))
    refine gd 2 kRectS_p1_1 rfl (cs' := [.slice Aa1 na1 ca1]) rfl fun s4 w_ rs4 us4 => ?_
    have Ls4 := Kd.sl_len rs4; have Cs4 := Kd.sl_cap rs4
    refine gr (mkL mI cI (k + (a.low.length : Int)) a.high) rfl (cs_ (v := .int .i64 ((k + ((a.low.length : Nat) : Int)) + ((a.high.length : Nat) : Int))) (by kernel_rfl) rfl rfl rfl (fun w_ hs_ => laws_heldInt64S w_ _ (hs_.at 0 rfl) (by omega) (by omega)) (a_ rfl rfl (en (nx (sq (sq (rg (m_ rfl rfl (vl (cm rfl rfl rfl rfl) rfl (en (nx ?_)))))))))))
    by_cases h5 : ((k + ((a.low.length : Nat) : Int)) + ((a.high.length : Nat) : Int)) < (0 : Int)
    · exfalso; omega
    · refine cf rfl (decide_eq_false h5) (sk (nx (sq (rg (m_ rfl rfl (a_ rfl rfl (en (nx (rt (ret1 rfl rfl (fun w_ hs_ => ⟨?_, hs_.below⟩)))))))))))
      exact ri (by omega)
/-! laws.markQuery -/
set_option maxRecDepth 20000 in
set_option maxHeartbeats 2000000 in
theorem laws_markQuery (w : World) (k : Int) {Aa1 : Option Addr} {ca1 : Nat} {Aa2 : Option Addr} {ca2 : Nat} {Aa3 : Option Addr} {ca3 : Nat} {a : Query} {oa_ sa_ : List Nat} (hst : St (nul w) w [dat kQueryO [.int .i64 a.kind, .slice Aa1 a.rect.low.length ca1, .slice Aa2 a.rect.high.length ca2, .slice Aa3 a.point.length ca3, .int .i64 a.k] a oa_ sa_]) (hk0 : 0 ≤ k) (hk1 : k + (0 + (a.rect.low.length : Int) + (a.rect.high.length : Int) + (a.point.length : Int)) ≤ 1152921504606846976) : Calls Tryz.prog 32 #[.agg #[.int .i64 a.kind, .slice Aa1 a.rect.low.length ca1, .slice Aa2 a.rect.high.length ca2, .slice Aa3 a.point.length ca3, .int .i64 a.k], .int .i64 k] w (TurnO kQueryO [.int .i64 a.kind, .slice Aa1 a.rect.low.length ca1, .slice Aa2 a.rect.high.length ca2, .slice Aa3 a.point.length ca3, .int .i64 a.k] (.int .i64 (k + (a.rect.low.length : Int) + (a.rect.high.length : Int) + (a.point.length : Int))) w oa_ (mkV_Query k a) (sa_)) := by
  skip
  refine fnc (X := X13 14 (nul w)) (args := [.agg #[.int .i64 a.kind, .slice Aa1 a.rect.low.length ca1, .slice Aa2 a.rect.high.length ca2, .slice Aa3 a.point.length ca3, .int .i64 a.k], .int .i64 k]) (l := [(0, .agg #[.int .i64 a.kind, .slice Aa1 a.rect.low.length ca1, .slice Aa2 a.rect.high.length ca2, .slice Aa3 a.point.length ca3, .int .i64 a.k]), (1, .int .i64 k)]) (G := [frm w oa_, dat kQueryO [.int .i64 a.kind, .slice Aa1 a.rect.low.length ca1, .slice Aa2 a.rect.high.length ca2, .slice Aa3 a.point.length ca3, .int .i64 a.k] a oa_ sa_]) Tryz.func32 rfl rfl rfl ⟨rfl, rfl, trivial⟩ (⟨hst.fr oa_ (by simp [owns, dat, ptr]), trivial⟩ : _ ∧ True).1 ?_
  refine f1 (gsp (da := (Kd.via Kd.i64 Query.kind)) rfl rfl (fun o1 o2 s3 s4 us3 us4 => ?_))
  refine gv (f1 (gsp (da := (Kd.via kRectO Query.rect)) rfl rfl (fun o5 o6 s7 s8 us7 us8 => ?_)))
  refine gv (f1 (gsp (da := (Kd.via (Kd.row 2 Kd.i64) Query.point)) rfl rfl (fun o9 o10 s11 s12 us11 us12 => ?_)))
  refine gv (f1 (gv ?_))
  refine sq (rg (bx rfl rfl rfl rfl ?_))
  intro b13
  refine a_ rfl rfl (en (nx (sq (rg (vl (fa rfl rfl rfl) rfl (vl (ldb 0 rfl rfl rfl rfl rfl rfl rfl) rfl (m_ rfl rfl (f3 (cto (dk := kRectO) (cs := [.slice Aa1 a.rect.low.length ca1, .slice Aa2 a.rect.high.length ca2]) (x := (mkV_Rect k a.rect)) (v := .int .i64 (k + (a.rect.low.length : Int) + (a.rect.high.length : Int))) (S := (s7)) (by kernel_rfl) rfl rfl rfl (snt 0 rfl) w.heap.size (fun w_ hs_ => (hs_.mod 5 rfl).size) (fun w_ hs_ => laws_markRect w_ _ ((hs_.pk [0] rfl).nl) (by omega) (by omega)) (fun o14 s15 t16 => ?_))))))))))
  refine a_ rfl rfl (en (nx (sq (rg (vl (fa rfl rfl rfl) rfl (vl (ldb (u := .slice Aa3 a.point.length ca3) 1 rfl rfl rfl rfl rfl rfl rfl) rfl (m_ rfl rfl (f3 (cto (dk := (Kd.row 2 Kd.i64)) (cs := [.slice Aa3 a.point.length ca3]) (x := (mkL mI cI (k + (a.rect.low.length : Int) + (a.rect.high.length : Int)) a.point)) (v := .int .i64 ((k + (a.rect.low.length : Int) + (a.rect.high.length : Int)) + ((a.point.length : Nat) : Int))) (S := (s11)) (by kernel_rfl) rfl rfl rfl (snt 0 rfl) w.heap.size (fun w_ hs_ => (hs_.mod 5 rfl).size) (fun w_ hs_ => laws_markInt64S w_ _ ((hs_.pk [0] rfl).nl) (by omega) (by omega)) (fun o17 s18 t19 => ?_))))))))))
  exact a_ rfl rfl (en (nx (sq (rg (m_ rfl rfl (a_ rfl rfl (en (nx (rt (gs Kd.i64 [.int .i64 a.k] ((mkV_Query k a).k) (fun _ => ⟨rfl, rfl, rfl⟩) (f1 (gj (da := (Kd.via (Kd.row 2 Kd.i64) Query.point)) (db := (Kd.via Kd.i64 Query.k)) (x := (mkV_Query k a)) (cs := [.slice Aa3 a.point.length ca3, .int .i64 a.k]) rfl (f1 (gj (da := (Kd.via kRectO Query.rect)) (db := ((Kd.via (Kd.row 2 Kd.i64) Query.point).cat (Kd.via Kd.i64 Query.k))) (x := (mkV_Query k a)) (cs := [.slice Aa1 a.rect.low.length ca1, .slice Aa2 a.rect.high.length ca2, .slice Aa3 a.point.length ca3, .int .i64 a.k]) rfl (gs Kd.i64 [.int .i64 a.kind] ((mkV_Query k a).kind) (fun _ => ⟨rfl, rfl, rfl⟩) (gj (da := (Kd.via Kd.i64 Query.kind)) (db := ((Kd.via kRectO Query.rect).cat ((Kd.via (Kd.row 2 Kd.i64) Query.point).cat (Kd.via Kd.i64 Query.k)))) (x := (mkV_Query k a)) (cs := [.int .i64 a.kind, .slice Aa1 a.rect.low.length ca1, .slice Aa2 a.rect.high.length ca2, .slice Aa3 a.point.length ca3, .int .i64 a.k]) rfl (ret1 rfl rfl (fun w_ hs_ => turno hs_ 3 rfl (by exact vi (by omega)) (see_app see_nil (see_app (by grind) (see_app (by grind) see_nil)))))))))))))))))))))
/-! laws.heldQuery -/
set_option maxRecDepth 20000 in
set_option maxHeartbeats 2000000 in
theorem laws_heldQuery (w : World) (k : Int) {Aa1 : Option Addr} {na1 ca1 : Nat} {Aa2 : Option Addr} {na2 ca2 : Nat} {Aa3 : Option Addr} {na3 ca3 : Nat} {a : Query} {sa_ : List Nat} (ha : kQueryS.Rel w [.int .i64 ((mkV_Query k a).kind), .slice Aa1 na1 ca1, .slice Aa2 na2 ca2, .slice Aa3 na3 ca3, .int .i64 ((mkV_Query k a).k)] (mkV_Query k a) [] sa_) (hk0 : 0 ≤ k) (hk1 : k + (0 + (a.rect.low.length : Int) + (a.rect.high.length : Int) + (a.point.length : Int)) ≤ 1152921504606846976) : Calls Tryz.prog 140 #[.agg #[.int .i64 ((mkV_Query k a).kind), .slice Aa1 na1 ca1, .slice Aa2 na2 ca2, .slice Aa3 na3 ca3, .int .i64 ((mkV_Query k a).k)], .int .i64 k] w (fun e_ w2_ => e_ = .returned (.int .i64 (k + (a.rect.low.length : Int) + (a.rect.high.length : Int) + (a.point.length : Int))) ∧ Below w.heap.size w w2_) := by
  skip
  refine fnc (X := X13 18 w) (args := [.agg #[.int .i64 ((mkV_Query k a).kind), .slice Aa1 na1 ca1, .slice Aa2 na2 ca2, .slice Aa3 na3 ca3, .int .i64 ((mkV_Query k a).k)], .int .i64 k]) (l := [(0, .agg #[.int .i64 ((mkV_Query k a).kind), .slice Aa1 na1 ca1, .slice Aa2 na2 ca2, .slice Aa3 na3 ca3, .int .i64 ((mkV_Query k a).k)]), (1, .int .i64 k)]) (G := [dat kQueryS [.int .i64 ((mkV_Query k a).kind), .slice Aa1 na1 ca1, .slice Aa2 na2 ca2, .slice Aa3 na3 ca3, .int .i64 ((mkV_Query k a).k)] (mkV_Query k a) ([]) sa_]) Tryz.func140 rfl rfl rfl ⟨rfl, rfl, trivial⟩ (s0d ha (s0n w)).1 ?_
  refine sq (rg (bx rfl rfl rfl rfl ?_))
  intro b1
  refine a_ rfl rfl (en (nx (sq (rg (vl (fa rfl rfl rfl) rfl (vl (ldb 0 rfl rfl rfl rfl rfl rfl rfl) rfl (m_ rfl rfl ?_)))))))
  refine gd 1 kQueryS_p1_2 rfl (cs' := [.slice Aa1 na1 ca1, .slice Aa2 na2 ca2]) rfl fun s2 w_ rs2 us2 => ?_
  refine gr (mkV_Rect k a.rect) rfl (cs_ (v := .int .i64 (k + (a.rect.low.length : Int) + (a.rect.high.length : Int))) (by kernel_rfl) rfl rfl rfl (fun w_ hs_ => laws_heldRect w_ _ (hs_.at 0 rfl) (by omega) (by omega)) (a_ rfl rfl (en (nx (sq (sq (rg (m_ rfl rfl (vl (cm rfl rfl rfl rfl) rfl (en (nx ?_)))))))))))
  by_cases h3 : (k + (a.rect.low.length : Int) + (a.rect.high.length : Int)) < (0 : Int)
  · exfalso; omega
  · refine cf rfl (decide_eq_false h3) (sk (nx (sq (rg (vl (fa rfl rfl rfl) rfl (vl (ldb (u := .slice Aa3 na3 ca3) 1 rfl rfl rfl rfl rfl rfl rfl) rfl (m_ rfl rfl ?_)))))))
    refine gd 2 kQueryS_p3_1 rfl (cs' := [.slice Aa3 na3 ca3]) rfl fun s4 w_ rs4 us4 => ?_
    have Ls4 := Kd.sl_len rs4; have Cs4 := Kd.sl_cap rs4
    refine gr (mkL mI cI (k + (a.rect.low.length : Int) + (a.rect.high.length : Int)) a.point) rfl (cs_ (v := .int .i64 ((k + (a.rect.low.length : Int) + (a.rect.high.length : Int)) + ((a.point.length : Nat) : Int))) (by kernel_rfl) rfl rfl rfl (fun w_ hs_ => laws_heldInt64S w_ _ (hs_.at 0 rfl) (by omega) (by omega)) (a_ rfl rfl (en (nx (sq (sq (rg (m_ rfl rfl (vl (cm rfl rfl rfl rfl) rfl (en (nx ?_)))))))))))
    by_cases h5 : ((k + (a.rect.low.length : Int) + (a.rect.high.length : Int)) + ((a.point.length : Nat) : Int)) < (0 : Int)
    · exfalso; omega
    · refine cf rfl (decide_eq_false h5) (sk (nx (sq (rg (m_ rfl rfl (a_ rfl rfl (en (nx (rt (ret1 rfl rfl (fun w_ hs_ => ⟨?_, hs_.below⟩)))))))))))
      exact ri (by omega)
/-! laws.markMarkS -/
set_option maxRecDepth 20000 in
set_option maxHeartbeats 2000000 in
theorem laws_markMarkS (w : World) (k : Int) {Aa : Option Addr} {ca : Nat} {a : List Mark} {oa_ sa_ : List Nat} (hst : St (nul w) w [dat (Kd.row 172 kMarkO) [.slice Aa a.length ca] a oa_ sa_]) (hk0 : 0 ≤ k) (hk1 : k + (a.map cntE_Mark).sum ≤ 1152921504606846976) : Calls Tryz.prog 73 #[.slice Aa a.length ca, .int .i64 k] w (TurnO (Kd.row 172 kMarkO) [.slice Aa a.length ca] (.int .i64 (k + (a.map cntE_Mark).sum)) w oa_ (mkL mkE_Mark cntE_Mark k a) (sa_)) := by
  have La := Kd.row_len (hst.at 0 rfl); have Ca := Kd.row_cap (hst.at 0 rfl)
  refine fnc (X := X13 34 (nul w)) (args := [.slice Aa a.length ca, .int .i64 k]) (l := [(0, .slice Aa a.length ca), (1, .int .i64 k)]) (G := [frm w oa_, dat (Kd.row 172 kMarkO) [.slice Aa a.length ca] a oa_ sa_]) Tryz.func73 rfl rfl rfl ⟨rfl, rfl, trivial⟩ (⟨hst.fr oa_ (by simp [owns, dat, ptr]), trivial⟩ : _ ∧ True).1 ?_
  refine sq (rg (a_ rfl rfl (en (nx (sq (sq (rg (a_ rfl rfl (en (nx (bk ?_)))))))))))
  refine lp (σ := Nat × Int × List Nat × List Nat) (fun z_ : Nat × Int × List Nat × List Nat => match z_ with | (i, v, o_, s_) => [(0, .slice Aa a.length ca), (1, .int .i64 v), (5, .int .i64 ((i : Nat) : Int))])
      (fun z_ : Nat × Int × List Nat × List Nat => match z_ with | (i, v, o_, s_) => [dat (Kd.row 172 kMarkO) [.slice Aa a.length ca] (mkL mkE_Mark cntE_Mark k (a.take i) ++ a.drop i) o_ s_, frm w oa_])
      (fun z_ : Nat × Int × List Nat × List Nat => match z_ with | (i, v, o_, s_) => i ≤ a.length ∧ v = k + sumTo cntE_Mark a i ∧ ∀ q ∈ s_, q ∈ sa_ ∨ w.heap.size ≤ q) (fun z_ : Nat × Int × List Nat × List Nat => match z_ with | (i, v, o_, s_) => a.length - i) (0, k, oa_, sa_) [1, 0] ⟨Nat.zero_le _, by simp [sumTo], fun q h => .inl h⟩ ⟨rfl, rfl, rfl, trivial⟩ rfl ?_
  rintro ⟨i, v, o_, s_⟩ hp_
  obtain ⟨hi, hv, hsee⟩ := hp_; have z0 := sumTo_nn cntE_Mark_nn a i; have zt := sumTo_le cntE_Mark_nn a i
  refine sq (sq (rg (m_ rfl rfl (m_ rfl rfl (vl (ln rfl rfl rfl) rfl (vl (cm rfl rfl rfl rfl) rfl (en (nx ?_))))))))
  by_cases h1 : ((i : Nat) : Int) < ((a.length : Nat) : Int)
  · obtain ⟨ba, rfl⟩ := Kd.row_pos (hst.at 0 rfl) (by omega)
    refine ct rfl (decide_eq_true h1) (sk (nx (sq (bk (sq (rg (m_ rfl rfl (m_ rfl rfl (m_ rfl rfl (vl (ix i rfl rfl rfl rfl rfl rfl (by omega)) rfl ?_))))))))))
    refine foc i (by rw [List.length_append, mkL_len, List.length_take, List.length_drop]; omega) fun y2 ci_ o3 s4 o5 s6 w_ m7 r8 us4 us6 => ?_
    obtain ⟨rfl⟩ := kMarkO_sh r8
    refine f1 (gsp (da := (Kd.via Kd.i64 Mark.dist)) rfl rfl (fun o9 o10 s11 s12 us11 us12 => ?_))
    refine gv (f1 (gsp (da := (Kd.via Kd.i64 Mark.id)) rfl rfl (fun o13 o14 s15 s16 us15 us16 => ?_)))
    refine gv (f1 (gv ?_))
    have zs := sumTo_step (f := cntE_Mark) (mk_raw m7); have zl := sumTo_le cntE_Mark_nn a (i + 1); have z0 := sumTo_nn cntE_Mark_nn a i; have zc : cntE_Mark y2 = 0 + 1 + 1 + 1 := rfl
    refine vl (fa rfl rfl rfl) rfl (f3 (sth (off := 0) rfl rfl pa1 rfl rfl rfl rfl rfl (ci' := [.int .i64 v, .int .i64 y2.id, .int .i64 y2.nsn]) rfl (en (nx (sq (rg (m_ rfl rfl (vl (ra (c := v + 1) rfl rfl rfl rfl (by omega) (by omega)) rfl (a_ rfl rfl (en (nx (sq (rg (m_ rfl rfl (m_ rfl rfl (m_ rfl rfl (vl (ix i rfl rfl rfl rfl rfl rfl (by omega)) rfl (vl (fa rfl rfl rfl) rfl (sth (off := 1) rfl rfl pa1 rfl rfl rfl rfl rfl (ci' := [.int .i64 v, .int .i64 (v + 1), .int .i64 y2.nsn]) rfl (en (nx (sq (rg (m_ rfl rfl (vl (ra (c := v + 1 + 1) rfl rfl rfl rfl (by omega) (by omega)) rfl (a_ rfl rfl (en (nx (sq (rg (m_ rfl rfl (m_ rfl rfl (m_ rfl rfl (vl (ix i rfl rfl rfl rfl rfl rfl (by omega)) rfl (vl (fa rfl rfl rfl) rfl (sth (off := 2) rfl rfl pa1 rfl rfl rfl rfl rfl (ci' := [.int .i64 v, .int .i64 (v + 1), .int .i64 (v + 1 + 1)]) rfl (en (nx (rg (m_ rfl rfl (vl (ra (c := v + 1 + 1 + 1) rfl rfl rfl rfl (by omega) (by omega)) rfl (a_ rfl rfl (en (xn (nx (rg (m_ rfl rfl (vl (ra (c := ((i + 1 : Nat) : Int)) rfl rfl rfl (by omega) (by omega) (by omega)) rfl (a_ rfl rfl (en (gs Kd.i64 [.int .i64 (v + 1 + 1)] ((mkE_Mark v y2).nsn) (fun _ => ⟨rfl, rfl, rfl⟩) (gs Kd.i64 [.int .i64 (v + 1)] ((mkE_Mark v y2).id) (fun _ => ⟨rfl, rfl, rfl⟩) (gj (da := (Kd.via Kd.i64 Mark.id)) (db := (Kd.via Kd.i64 Mark.nsn)) (x := (mkE_Mark v y2)) (cs := [.int .i64 (v + 1), .int .i64 (v + 1 + 1)]) rfl (gs Kd.i64 [.int .i64 v] ((mkE_Mark v y2).dist) (fun _ => ⟨rfl, rfl, rfl⟩) (gj (da := (Kd.via Kd.i64 Mark.dist)) (db := ((Kd.via Kd.i64 Mark.id).cat (Kd.via Kd.i64 Mark.nsn))) (x := (mkE_Mark v y2)) (cs := [.int .i64 v, .int .i64 (v + 1), .int .i64 (v + 1 + 1)]) rfl (f1 (unf (fun o17 s18 t19 => ?_))))))))))))))))))))))))))))))))))))))))))))))))))))))))))
    refine gr (mkL mkE_Mark cntE_Mark k (a.take (i + 1)) ++ a.drop (i + 1)) (mk_step (mk_raw m7) (by rw [← hv])) ?_
    exact lpe (s := (i, v, o_, s_)) (i + 1, v + 1 + 1 + 1, o17, s18) [0, 3] ⟨by omega, by omega, by grind⟩ (by show a.length - (i + 1) < a.length - i; omega) ⟨rfl, rfl, rfl, trivial⟩ rfl
  · exact cf rfl (decide_eq_false h1) (xt (xq (xq (xb (nx (sq (rg (m_ rfl rfl (a_ rfl rfl (en (nx (rt (gr (mkL mkE_Mark cntE_Mark k a) (mk_end (by omega)) (ret1 rfl rfl (fun w_ hs_ => turno hs_ 0 rfl (by exact vi (by have z := sumTo_end (f := cntE_Mark) (l := a) (k := i) (by omega); omega)) (by grind))))))))))))))))
/-! laws.heldMarkS -/
set_option maxRecDepth 20000 in
set_option maxHeartbeats 2000000 in
theorem laws_heldMarkS (w : World) (k : Int) {Aa0 : Option Addr} {na0 ca0 : Nat} {a : List Mark} {sa_ : List Nat} (ha : (Kd.sl kMarkS).Rel w [.slice Aa0 na0 ca0] (mkL mkE_Mark cntE_Mark k a) [] sa_) (hk0 : 0 ≤ k) (hk1 : k + (a.map cntE_Mark).sum ≤ 1152921504606846976) : Calls Tryz.prog 141 #[.slice Aa0 na0 ca0, .int .i64 k] w (fun e_ w2_ => e_ = .returned (.int .i64 (k + (a.map cntE_Mark).sum)) ∧ Below w.heap.size w w2_) := by
  have La := Kd.sl_len ha; have Ea := Kd.sl_n ha; rw [mkL_len] at La Ea
  refine fnc (X := X13 40 w) (args := [.slice Aa0 na0 ca0, .int .i64 k]) (l := [(0, .slice Aa0 na0 ca0), (1, .int .i64 k)]) (G := [dat (Kd.sl kMarkS) [.slice Aa0 na0 ca0] (mkL mkE_Mark cntE_Mark k a) ([]) sa_]) Tryz.func141 rfl rfl rfl ⟨rfl, rfl, trivial⟩ (s0d ha (s0n w)).1 ?_
  refine sq (rg (a_ rfl rfl (en (nx (sq (sq (rg (a_ rfl rfl (en (nx (bk ?_)))))))))))
  refine lp (σ := Nat × Int) (fun z_ : Nat × Int => match z_ with | (i, v) => [(0, .slice Aa0 na0 ca0), (1, .int .i64 v), (5, .int .i64 ((i : Nat) : Int))])
      (fun z_ : Nat × Int => match z_ with | (i, v) => [dat (Kd.sl kMarkS) [.slice Aa0 na0 ca0] (mkL mkE_Mark cntE_Mark k a) ([]) sa_])
      (fun z_ : Nat × Int => match z_ with | (i, v) => i ≤ a.length ∧ v = k + sumTo cntE_Mark a i) (fun z_ : Nat × Int => match z_ with | (i, v) => a.length - i) (0, k) [0] ⟨Nat.zero_le _, by simp [sumTo]⟩ ⟨rfl, rfl, rfl, trivial⟩ rfl ?_
  rintro ⟨i, v⟩ hp_
  obtain ⟨hi, hv⟩ := hp_; have z0 := sumTo_nn cntE_Mark_nn a i; have zt := sumTo_le cntE_Mark_nn a i
  refine sq (sq (rg (m_ rfl rfl (m_ rfl rfl (vl (ln rfl rfl rfl) rfl (vl (cm rfl rfl rfl rfl) rfl (en (nx ?_))))))))
  by_cases h1 : ((i : Nat) : Int) < ((na0 : Nat) : Int)
  · refine ct rfl (decide_eq_true h1) (sk (nx (sq (bk (sq (sq (rg (m_ rfl rfl (m_ rfl rfl ?_)))))))))
    refine gx 0 i rfl (by first | omega | (rw [mkL_len]; omega)) fun y7 p2 cs_ s3 w6 m8 e4 r5 us3 => ?_
    obtain ⟨rfl⟩ := kMarkS_sh r5
    obtain ⟨y9, hy9⟩ := mkL_some m8
    have zy9 := mkL_at' m8 hy9 hv; subst zy9
    have zs := sumTo_step (f := cntE_Mark) hy9; have zl := sumTo_le cntE_Mark_nn a (i + 1); have z0 := sumTo_nn cntE_Mark_nn a i; have zc : cntE_Mark y9 = 0 + 1 + 1 + 1 := rfl
    refine vl (ix i e4 rfl rfl rfl rfl rfl (by first | omega | (rw [mkL_len]; omega))) rfl (vl (fa rfl rfl rfl) rfl (vl (ldp (u := .int .i64 ((mkE_Mark v y9).dist)) 0 rfl rfl rfl rfl rfl rfl rfl) rfl (m_ rfl rfl (vl (cm rfl rfl rfl rfl) rfl (en (nx ?_))))))
    by_cases h10 : (mkE_Mark v y9).dist = v
    · refine cf rfl (bne_eq_false_iff_eq.2 h10) (sk (nx (sq (rg (m_ rfl rfl (vl (ra (c := v + 1) rfl rfl rfl rfl (by omega) (by omega)) rfl (a_ rfl rfl (en (nx (sq (sq (rg (m_ rfl rfl (m_ rfl rfl (vl (ix i e4 rfl rfl rfl rfl rfl (by first | omega | (rw [mkL_len]; omega))) rfl (vl (fa rfl rfl rfl) rfl (vl (ldp (u := .int .i64 ((mkE_Mark v y9).id)) 0 rfl rfl rfl rfl rfl rfl rfl) rfl (m_ rfl rfl (vl (cm rfl rfl rfl rfl) rfl (en (nx ?_)))))))))))))))))))))
      by_cases h11 : (mkE_Mark v y9).id = v + 1
      · refine cf rfl (bne_eq_false_iff_eq.2 h11) (sk (nx (sq (rg (m_ rfl rfl (vl (ra (c := v + 1 + 1) rfl rfl rfl rfl (by omega) (by omega)) rfl (a_ rfl rfl (en (nx (sq (sq (rg (m_ rfl rfl (m_ rfl rfl (vl (ix i e4 rfl rfl rfl rfl rfl (by first | omega | (rw [mkL_len]; omega))) rfl (vl (fa rfl rfl rfl) rfl (vl (ldp (u := .int .i64 ((mkE_Mark v y9).nsn)) 0 rfl rfl rfl rfl rfl rfl rfl) rfl (m_ rfl rfl (vl (cm rfl rfl rfl rfl) rfl (en (nx ?_)))))))))))))))))))))
        by_cases h12 : (mkE_Mark v y9).nsn = v + 1 + 1
        · exact cf rfl (bne_eq_false_iff_eq.2 h12) (sk (nx (rg (m_ rfl rfl (vl (ra (c := v + 1 + 1 + 1) rfl rfl rfl rfl (by omega) (by omega)) rfl (a_ rfl rfl (en (xn (nx (rg (m_ rfl rfl (vl (ra (c := ((i + 1 : Nat) : Int)) rfl rfl rfl (by omega) (by omega) (by omega)) rfl (a_ rfl rfl (en (lpe (s := (i, v)) (i + 1, v + 1 + 1 + 1) [1] ⟨by omega, by omega⟩ (by show a.length - (i + 1) < a.length - i; omega) ⟨rfl, rfl, rfl, trivial⟩ rfl)))))))))))))))
        · exact absurd rfl h12
      · exact absurd rfl h11
    · exact absurd rfl h10
  · refine cf rfl (decide_eq_false h1) (xt (xq (xq (xb (nx (sq (rg (m_ rfl rfl (a_ rfl rfl (en (nx (rt (ret1 rfl rfl (fun w_ hs_ => ⟨?_, hs_.below⟩))))))))))))))
    exact ri (by have z := sumTo_end (f := cntE_Mark) (l := a) (k := i) (by omega); omega)
/-! laws.markPairS -/
set_option maxRecDepth 20000 in
set_option maxHeartbeats 2000000 in
theorem laws_markPairS (w : World) (k : Int) {Aa : Option Addr} {ca : Nat} {a : List Pair} {oa_ sa_ : List Nat} (hst : St (nul w) w [dat (Kd.row 176 kPairO) [.slice Aa a.length ca] a oa_ sa_]) (hk0 : 0 ≤ k) (hk1 : k + (a.map cntE_Pair).sum ≤ 1152921504606846976) : Calls Tryz.prog 74 #[.slice Aa a.length ca, .int .i64 k] w (TurnO (Kd.row 176 kPairO) [.slice Aa a.length ca] (.int .i64 (k + (a.map cntE_Pair).sum)) w oa_ (mkL mkE_Pair cntE_Pair k a) (sa_)) := by
  have La := Kd.row_len (hst.at 0 rfl); have Ca := Kd.row_cap (hst.at 0 rfl)
  refine fnc (X := X13 36 (nul w)) (args := [.slice Aa a.length ca, .int .i64 k]) (l := [(0, .slice Aa a.length ca), (1, .int .i64 k)]) (G := [frm w oa_, dat (Kd.row 176 kPairO) [.slice Aa a.length ca] a oa_ sa_]) Tryz.func74 rfl rfl rfl ⟨rfl, rfl, trivial⟩ (⟨hst.fr oa_ (by simp [owns, dat, ptr]), trivial⟩ : _ ∧ True).1 ?_
  refine sq (rg (a_ rfl rfl (en (nx (sq (sq (rg (a_ rfl rfl (en (nx (bk ?_)))))))))))
  refine lp (σ := Nat × Int × List Nat × List Nat) (fun z_ : Nat × Int × List Nat × List Nat => match z_ with | (i, v, o_, s_) => [(0, .slice Aa a.length ca), (1, .int .i64 v), (5, .int .i64 ((i : Nat) : Int))])
      (fun z_ : Nat × Int × List Nat × List Nat => match z_ with | (i, v, o_, s_) => [dat (Kd.row 176 kPairO) [.slice Aa a.length ca] (mkL mkE_Pair cntE_Pair k (a.take i) ++ a.drop i) o_ s_, frm w oa_])
      (fun z_ : Nat × Int × List Nat × List Nat => match z_ with | (i, v, o_, s_) => i ≤ a.length ∧ v = k + sumTo cntE_Pair a i ∧ ∀ q ∈ s_, q ∈ sa_ ∨ w.heap.size ≤ q) (fun z_ : Nat × Int × List Nat × List Nat => match z_ with | (i, v, o_, s_) => a.length - i) (0, k, oa_, sa_) [1, 0] ⟨Nat.zero_le _, by simp [sumTo], fun q h => .inl h⟩ ⟨rfl, rfl, rfl, trivial⟩ rfl ?_
  rintro ⟨i, v, o_, s_⟩ hp_
  obtain ⟨hi, hv, hsee⟩ := hp_; have z0 := sumTo_nn cntE_Pair_nn a i; have zt := sumTo_le cntE_Pair_nn a i
  refine sq (sq (rg (m_ rfl rfl (m_ rfl rfl (vl (ln rfl rfl rfl) rfl (vl (cm rfl rfl rfl rfl) rfl (en (nx ?_))))))))
  by_cases h1 : ((i : Nat) : Int) < ((a.length : Nat) : Int)
  · obtain ⟨ba, rfl⟩ := Kd.row_pos (hst.at 0 rfl) (by omega)
    refine ct rfl (decide_eq_true h1) (sk (nx (sq (bk (sq (rg (m_ rfl rfl (m_ rfl rfl (m_ rfl rfl (vl (ix i rfl rfl rfl rfl rfl rfl (by omega)) rfl ?_))))))))))
    refine foc i (by rw [List.length_append, mkL_len, List.length_take, List.length_drop]; omega) fun y2 ci_ o3 s4 o5 s6 w_ m7 r8 us4 us6 => ?_
    obtain ⟨A9, c10, A11, c12, rfl⟩ := kPairO_sh r8
    refine f1 (gsp (da := (Kd.via Kd.i64 Pair.id)) rfl rfl (fun o13 o14 s15 s16 us15 us16 => ?_))
    refine gv (f1 (gv (gsp (da := (Kd.via (Kd.row 2 Kd.i64) Rect.low)) rfl rfl (fun o17 o18 s19 s20 us19 us20 => ?_))))
    refine gv (f1 (gv ?_))
    have zs := sumTo_step (f := cntE_Pair) (mk_raw m7); have zl := sumTo_le cntE_Pair_nn a (i + 1); have z0 := sumTo_nn cntE_Pair_nn a i; have zc : cntE_Pair y2 = 0 + 1 + (y2.rect.low.length : Int) + (y2.rect.high.length : Int) := rfl
    refine vl (fa rfl rfl rfl) rfl (f3 (sth (off := 0) rfl rfl pa1 rfl rfl rfl rfl rfl (ci' := [.int .i64 v, .slice A9 y2.rect.low.length c10, .slice A11 y2.rect.high.length c12]) rfl (en (nx (sq (rg (m_ rfl rfl (vl (ra (c := v + 1) rfl rfl rfl rfl (by omega) (by omega)) rfl (a_ rfl rfl (en (nx (sq (rg (m_ rfl rfl (m_ rfl rfl (vl (ix i rfl rfl rfl rfl rfl rfl (by omega)) rfl (vl (fa rfl rfl rfl) rfl (vl (fb rfl rfl rfl) rfl (vl (ldh (u := .slice A9 y2.rect.low.length c10) 0 (off := 1) rfl rfl rfl rfl pa1 rfl rfl rfl) rfl (m_ rfl rfl (f2 (cto (dk := (Kd.row 2 Kd.i64)) (cs := [.slice A9 y2.rect.low.length c10]) (x := (mkL mI cI (v + 1) y2.rect.low)) (v := .int .i64 (v + 1 + ((y2.rect.low.length : Nat) : Int))) (S := (s19)) (by kernel_rfl) rfl rfl rfl (snt 0 rfl) w.heap.size (fun w_ hs_ => (hs_.mod 4 rfl).size) (fun w_ hs_ => laws_markInt64S w_ _ ((hs_.pk [0] rfl).nl) (by omega) (by omega)) (fun o21 s22 t23 => ?_)))))))))))))))))))))))
    refine a_ rfl rfl (en (nx (rg (m_ rfl rfl (m_ rfl rfl (vl (ix i rfl rfl rfl rfl rfl rfl (by omega)) rfl (vl (fa rfl rfl rfl) rfl (vl (fb rfl rfl rfl) rfl (vl (ldh (u := .slice A11 y2.rect.high.length c12) 1 (off := 2) rfl rfl rfl rfl pa1 rfl rfl rfl) rfl (m_ rfl rfl (f2 (cto (dk := (Kd.row 2 Kd.i64)) (cs := [.slice A11 y2.rect.high.length c12]) (x := (mkL mI cI (v + 1 + ((y2.rect.low.length : Nat) : Int)) y2.rect.high)) (v := .int .i64 ((v + 1 + ((y2.rect.low.length : Nat) : Int)) + ((y2.rect.high.length : Nat) : Int))) (S := (s20)) (by kernel_rfl) rfl rfl rfl (snt 0 rfl) w.heap.size (fun w_ hs_ => (hs_.mod 4 rfl).size) (fun w_ hs_ => laws_markInt64S w_ _ ((hs_.pk [0] rfl).nl) (by omega) (by omega)) (fun o24 s25 t26 => ?_)))))))))))))
    refine a_ rfl rfl (en (xn (nx (rg (m_ rfl rfl (vl (ra (c := ((i + 1 : Nat) : Int)) rfl rfl rfl (by omega) (by omega) (by omega)) rfl (a_ rfl rfl (en (f1 (gj (da := (Kd.via (Kd.row 2 Kd.i64) Rect.low)) (db := (Kd.via (Kd.row 2 Kd.i64) Rect.high)) (x := ((mkE_Pair v y2).rect)) (cs := [.slice A9 y2.rect.low.length c10, .slice A11 y2.rect.high.length c12]) rfl (gs Kd.i64 [.int .i64 v] ((mkE_Pair v y2).id) (fun _ => ⟨rfl, rfl, rfl⟩) (gj (da := (Kd.via Kd.i64 Pair.id)) (db := (Kd.via kRectO Pair.rect)) (x := (mkE_Pair v y2)) (cs := [.int .i64 v, .slice A9 y2.rect.low.length c10, .slice A11 y2.rect.high.length c12]) rfl (f1 (unf (fun o27 s28 t29 => ?_)))))))))))))))
    refine gr (mkL mkE_Pair cntE_Pair k (a.take (i + 1)) ++ a.drop (i + 1)) (mk_step (mk_raw m7) (by rw [← hv])) ?_
    exact lpe (s := (i, v, o_, s_)) (i + 1, ((v + 1 + ((y2.rect.low.length : Nat) : Int)) + ((y2.rect.high.length : Nat) : Int)), o27, s28) [0, 1] ⟨by omega, by omega, by grind⟩ (by show a.length - (i + 1) < a.length - i; omega) ⟨rfl, rfl, rfl, trivial⟩ rfl
  · exact cf rfl (decide_eq_false h1) (xt (xq (xq (xb (nx (sq (rg (m_ rfl rfl (a_ rfl rfl (en (nx (rt (gr (mkL mkE_Pair cntE_Pair k a) (mk_end (by omega)) (ret1 rfl rfl (fun w_ hs_ => turno hs_ 0 rfl (by exact vi (by have z := sumTo_end (f := cntE_Pair) (l := a) (k := i) (by omega); omega)) (by grind))))))))))))))))
/-! laws.heldPairS -/
set_option maxRecDepth 20000 in
set_option maxHeartbeats 2000000 in
theorem laws_heldPairS (w : World) (k : Int) {Aa0 : Option Addr} {na0 ca0 : Nat} {a : List Pair} {sa_ : List Nat} (ha : (Kd.sl kPairS).Rel w [.slice Aa0 na0 ca0] (mkL mkE_Pair cntE_Pair k a) [] sa_) (hk0 : 0 ≤ k) (hk1 : k + (a.map cntE_Pair).sum ≤ 1152921504606846976) : Calls Tryz.prog 142 #[.slice Aa0 na0 ca0, .int .i64 k] w (fun e_ w2_ => e_ = .returned (.int .i64 (k + (a.map cntE_Pair).sum)) ∧ Below w.heap.size w w2_) := by
  have La := Kd.sl_len ha; have Ea := Kd.sl_n ha; rw [mkL_len] at La Ea
  refine fnc (X := X13 42 w) (args := [.slice Aa0 na0 ca0, .int .i64 k]) (l := [(0, .slice Aa0 na0 ca0), (1, .int .i64 k)]) (G := [dat (Kd.sl kPairS) [.slice Aa0 na0 ca0] (mkL mkE_Pair cntE_Pair k a) ([]) sa_]) Tryz.func142 rfl rfl rfl ⟨rfl, rfl, trivial⟩ (s0d ha (s0n w)).1 ?_
  refine sq (rg (a_ rfl rfl (en (nx (sq (sq (rg (a_ rfl rfl (en (nx (bk ?_)))))))))))
  refine lp (σ := Nat × Int) (fun z_ : Nat × Int => match z_ with | (i, v) => [(0, .slice Aa0 na0 ca0), (1, .int .i64 v), (5, .int .i64 ((i : Nat) : Int))])
      (fun z_ : Nat × Int => match z_ with | (i, v) => [dat (Kd.sl kPairS) [.slice Aa0 na0 ca0] (mkL mkE_Pair cntE_Pair k a) ([]) sa_])
      (fun z_ : Nat × Int => match z_ with | (i, v) => i ≤ a.length ∧ v = k + sumTo cntE_Pair a i) (fun z_ : Nat × Int => match z_ with | (i, v) => a.length - i) (0, k) [0] ⟨Nat.zero_le _, by simp [sumTo]⟩ ⟨rfl, rfl, rfl, trivial⟩ rfl ?_
  rintro ⟨i, v⟩ hp_
  obtain ⟨hi, hv⟩ := hp_; have z0 := sumTo_nn cntE_Pair_nn a i; have zt := sumTo_le cntE_Pair_nn a i
  refine sq (sq (rg (m_ rfl rfl (m_ rfl rfl (vl (ln rfl rfl rfl) rfl (vl (cm rfl rfl rfl rfl) rfl (en (nx ?_))))))))
  by_cases h1 : ((i : Nat) : Int) < ((na0 : Nat) : Int)
  · refine ct rfl (decide_eq_true h1) (sk (nx (sq (bk (sq (sq (rg (m_ rfl rfl (m_ rfl rfl ?_)))))))))
    refine gx 0 i rfl (by first | omega | (rw [mkL_len]; omega)) fun y7 p2 cs_ s3 w6 m8 e4 r5 us3 => ?_
    obtain ⟨A9, c10, A11, c12, rfl⟩ := kPairS_sh r5
    obtain ⟨y13, hy13⟩ := mkL_some m8
    have zy13 := mkL_at' m8 hy13 hv; subst zy13
    have zs := sumTo_step (f := cntE_Pair) hy13; have zl := sumTo_le cntE_Pair_nn a (i + 1); have z0 := sumTo_nn cntE_Pair_nn a i; have zc : cntE_Pair y13 = 0 + 1 + (y13.rect.low.length : Int) + (y13.rect.high.length : Int) := rfl
    refine vl (ix i e4 rfl rfl rfl rfl rfl (by first | omega | (rw [mkL_len]; omega))) rfl (vl (fa rfl rfl rfl) rfl (vl (ldp (u := .int .i64 ((mkE_Pair v y13).id)) 0 rfl rfl rfl rfl rfl rfl rfl) rfl (m_ rfl rfl (vl (cm rfl rfl rfl rfl) rfl (en (nx ?_))))))
    by_cases h14 : (mkE_Pair v y13).id = v
    · refine cf rfl (bne_eq_false_iff_eq.2 h14) (sk (nx (sq (rg (m_ rfl rfl (vl (ra (c := v + 1) rfl rfl rfl rfl (by omega) (by omega)) rfl (a_ rfl rfl (en (nx (sq (rg (m_ rfl rfl (m_ rfl rfl (vl (ix i e4 rfl rfl rfl rfl rfl (by first | omega | (rw [mkL_len]; omega))) rfl (vl (fa rfl rfl rfl) rfl (vl (fb rfl rfl rfl) rfl (vl (ldp (u := .slice A9 ((mkE_Pair v y13).rect.low.length) c10) 0 rfl rfl rfl rfl rfl rfl rfl) rfl (m_ rfl rfl ?_))))))))))))))))))
      refine gp 0 kPairS_p1_1 rfl (cs' := [.slice A9 ((mkE_Pair v y13).rect.low.length) c10]) rfl fun s15 w_ rs15 us15 => ?_
      have Ls15 := Kd.sl_len rs15; have Cs15 := Kd.sl_cap rs15
      refine gr (mkL mI cI (v + 1) y13.rect.low) rfl (cs_ (v := .int .i64 (v + 1 + ((y13.rect.low.length : Nat) : Int))) (by kernel_rfl) rfl rfl rfl (fun w_ hs_ => laws_heldInt64S w_ _ (hs_.at 0 rfl) (by omega) (by omega)) (a_ rfl rfl (en (nx (sq (sq (rg (m_ rfl rfl (vl (cm rfl rfl rfl rfl) rfl (en (nx ?_)))))))))))
      by_cases h16 : (v + 1 + ((y13.rect.low.length : Nat) : Int)) < (0 : Int)
      · exfalso; omega
      · refine cf rfl (decide_eq_false h16) (sk (nx (sq (rg (m_ rfl rfl (m_ rfl rfl (vl (ix i e4 rfl rfl rfl rfl rfl (by first | omega | (rw [mkL_len]; omega))) rfl (vl (fa rfl rfl rfl) rfl (vl (fb rfl rfl rfl) rfl (vl (ldp (u := .slice A11 ((mkE_Pair v y13).rect.high.length) c12) 1 rfl rfl rfl rfl rfl rfl rfl) rfl (m_ rfl rfl ?_)))))))))))
        refine gp 1 kPairS_p2_1 rfl (cs' := [.slice A11 ((mkE_Pair v y13).rect.high.length) c12]) rfl fun s17 w_ rs17 us17 => ?_
        have Ls17 := Kd.sl_len rs17; have Cs17 := Kd.sl_cap rs17
        refine gr (mkL mI cI (v + 1 + (y13.rect.low.length : Int)) y13.rect.high) rfl (cs_ (v := .int .i64 ((v + 1 + ((y13.rect.low.length : Nat) : Int)) + ((y13.rect.high.length : Nat) : Int))) (by kernel_rfl) rfl rfl rfl (fun w_ hs_ => laws_heldInt64S w_ _ (hs_.at 0 rfl) (by omega) (by omega)) (a_ rfl rfl (en (nx (sq (rg (m_ rfl rfl (vl (cm rfl rfl rfl rfl) rfl (en (nx ?_))))))))))
        by_cases h18 : ((v + 1 + ((y13.rect.low.length : Nat) : Int)) + ((y13.rect.high.length : Nat) : Int)) < (0 : Int)
        · exfalso; omega
        · exact cf rfl (decide_eq_false h18) (sk (xn (nx (rg (m_ rfl rfl (vl (ra (c := ((i + 1 : Nat) : Int)) rfl rfl rfl (by omega) (by omega) (by omega)) rfl (a_ rfl rfl (en (lpe (s := (i, v)) (i + 1, ((v + 1 + ((y13.rect.low.length : Nat) : Int)) + ((y13.rect.high.length : Nat) : Int))) [3] ⟨by omega, by omega⟩ (by show a.length - (i + 1) < a.length - i; omega) ⟨rfl, rfl, rfl, trivial⟩ rfl)))))))))
    · exact absurd rfl h14
  · refine cf rfl (decide_eq_false h1) (xt (xq (xq (xb (nx (sq (rg (m_ rfl rfl (a_ rfl rfl (en (nx (rt (ret1 rfl rfl (fun w_ hs_ => ⟨?_, hs_.below⟩))))))))))))))
    exact ri (by have z := sumTo_end (f := cntE_Pair) (l := a) (k := i) (by omega); omega)
/-! laws.markLook -/
set_option maxRecDepth 20000 in
set_option maxHeartbeats 2000000 in
theorem laws_markLook (w : World) (k : Int) {Aa1 : Option Addr} {ca1 : Nat} {Aa2 : Option Addr} {ca2 : Nat} {Aa3 : Option Addr} {ca3 : Nat} {Aa5 : Option Addr} {ca5 : Nat} {Aa6 : Option Addr} {ca6 : Nat} {a : Look} {oa_ sa_ : List Nat} (hst : St (nul w) w [dat kLookO [.int .i64 a.query.kind, .slice Aa1 a.query.rect.low.length ca1, .slice Aa2 a.query.rect.high.length ca2, .slice Aa3 a.query.point.length ca3, .int .i64 a.query.k, .slice Aa5 a.front.length ca5, .slice Aa6 a.found.length ca6] a oa_ sa_]) (hk0 : 0 ≤ k) (hk1 : k + (0 + (a.query.rect.low.length : Int) + (a.query.rect.high.length : Int) + (a.query.point.length : Int) + (a.front.map cntE_Mark).sum + (a.found.map cntE_Pair).sum) ≤ 1152921504606846976) : Calls Tryz.prog 22 #[.agg #[.int .i64 a.query.kind, .slice Aa1 a.query.rect.low.length ca1, .slice Aa2 a.query.rect.high.length ca2, .slice Aa3 a.query.point.length ca3, .int .i64 a.query.k, .slice Aa5 a.front.length ca5, .slice Aa6 a.found.length ca6], .int .i64 k] w (TurnO kLookO [.int .i64 a.query.kind, .slice Aa1 a.query.rect.low.length ca1, .slice Aa2 a.query.rect.high.length ca2, .slice Aa3 a.query.point.length ca3, .int .i64 a.query.k, .slice Aa5 a.front.length ca5, .slice Aa6 a.found.length ca6] (.int .i64 (k + (a.query.rect.low.length : Int) + (a.query.rect.high.length : Int) + (a.query.point.length : Int) + (a.front.map cntE_Mark).sum + (a.found.map cntE_Pair).sum)) w oa_ (mkV_Look k a) (sa_)) := by
  have zn0 := sum_nn cntE_Mark_nn a.front; have zn1 := sum_nn cntE_Pair_nn a.found
  refine fnc (X := X13 18 (nul w)) (args := [.agg #[.int .i64 a.query.kind, .slice Aa1 a.query.rect.low.length ca1, .slice Aa2 a.query.rect.high.length ca2, .slice Aa3 a.query.point.length ca3, .int .i64 a.query.k, .slice Aa5 a.front.length ca5, .slice Aa6 a.found.length ca6], .int .i64 k]) (l := [(0, .agg #[.int .i64 a.query.kind, .slice Aa1 a.query.rect.low.length ca1, .slice Aa2 a.query.rect.high.length ca2, .slice Aa3 a.query.point.length ca3, .int .i64 a.query.k, .slice Aa5 a.front.length ca5, .slice Aa6 a.found.length ca6]), (1, .int .i64 k)]) (G := [frm w oa_, dat kLookO [.int .i64 a.query.kind, .slice Aa1 a.query.rect.low.length ca1, .slice Aa2 a.query.rect.high.length ca2, .slice Aa3 a.query.point.length ca3, .int .i64 a.query.k, .slice Aa5 a.front.length ca5, .slice Aa6 a.found.length ca6] a oa_ sa_]) Tryz.func22 rfl rfl rfl ⟨rfl, rfl, trivial⟩ (⟨hst.fr oa_ (by simp [owns, dat, ptr]), trivial⟩ : _ ∧ True).1 ?_
  refine f1 (gsp (da := (Kd.via kQueryO Look.query)) rfl rfl (fun o1 o2 s3 s4 us3 us4 => ?_))
  refine gv (f1 (gsp (da := (Kd.via (Kd.row 172 kMarkO) Look.front)) rfl rfl (fun o5 o6 s7 s8 us7 us8 => ?_)))
  refine gv (f1 (gv ?_))
  refine sq (rg (bx rfl rfl rfl rfl ?_))
  intro b9
  refine a_ rfl rfl (en (nx (sq (rg (vl (fa rfl rfl rfl) rfl (vl (ldb 0 rfl rfl rfl rfl rfl rfl rfl) rfl (m_ rfl rfl (f3 (cto (dk := kQueryO) (cs := [.int .i64 a.query.kind, .slice Aa1 a.query.rect.low.length ca1, .slice Aa2 a.query.rect.high.length ca2, .slice Aa3 a.query.point.length ca3, .int .i64 a.query.k]) (x := (mkV_Query k a.query)) (v := .int .i64 (k + (a.query.rect.low.length : Int) + (a.query.rect.high.length : Int) + (a.query.point.length : Int))) (S := (s3)) (by kernel_rfl) rfl rfl rfl (snt 0 rfl) w.heap.size (fun w_ hs_ => (hs_.mod 4 rfl).size) (fun w_ hs_ => laws_markQuery w_ _ ((hs_.pk [0] rfl).nl) (by omega) (by omega)) (fun o10 s11 t12 => ?_))))))))))
  refine a_ rfl rfl (en (nx (sq (rg (vl (fa rfl rfl rfl) rfl (vl (ldb (u := .slice Aa5 a.front.length ca5) 1 rfl rfl rfl rfl rfl rfl rfl) rfl (m_ rfl rfl (f3 (cto (dk := (Kd.row 172 kMarkO)) (cs := [.slice Aa5 a.front.length ca5]) (x := (mkL mkE_Mark cntE_Mark (k + (a.query.rect.low.length : Int) + (a.query.rect.high.length : Int) + (a.query.point.length : Int)) a.front)) (v := .int .i64 ((k + (a.query.rect.low.length : Int) + (a.query.rect.high.length : Int) + (a.query.point.length : Int)) + (a.front.map cntE_Mark).sum)) (S := (s7)) (by kernel_rfl) rfl rfl rfl (snt 0 rfl) w.heap.size (fun w_ hs_ => (hs_.mod 4 rfl).size) (fun w_ hs_ => laws_markMarkS w_ _ ((hs_.pk [0] rfl).nl) (by omega) (by omega)) (fun o13 s14 t15 => ?_))))))))))
  refine a_ rfl rfl (en (nx (sq (rg (vl (fa rfl rfl rfl) rfl (vl (ldb (u := .slice Aa6 a.found.length ca6) 2 rfl rfl rfl rfl rfl rfl rfl) rfl (m_ rfl rfl (f3 (cto (dk := (Kd.row 176 kPairO)) (cs := [.slice Aa6 a.found.length ca6]) (x := (mkL mkE_Pair cntE_Pair ((k + (a.query.rect.low.length : Int) + (a.query.rect.high.length : Int) + (a.query.point.length : Int)) + (a.front.map cntE_Mark).sum) a.found)) (v := .int .i64 (((k + (a.query.rect.low.length : Int) + (a.query.rect.high.length : Int) + (a.query.point.length : Int)) + (a.front.map cntE_Mark).sum) + (a.found.map cntE_Pair).sum)) (S := (s8)) (by kernel_rfl) rfl rfl rfl (snt 0 rfl) w.heap.size (fun w_ hs_ => (hs_.mod 4 rfl).size) (fun w_ hs_ => laws_markPairS w_ _ ((hs_.pk [0] rfl).nl) (by omega) (by omega)) (fun o16 s17 t18 => ?_))))))))))
  exact a_ rfl rfl (en (nx (sq (rg (m_ rfl rfl (a_ rfl rfl (en (nx (rt (f1 (gj (da := (Kd.via (Kd.row 172 kMarkO) Look.front)) (db := (Kd.via (Kd.row 176 kPairO) Look.found)) (x := (mkV_Look k a)) (cs := [.slice Aa5 a.front.length ca5, .slice Aa6 a.found.length ca6]) rfl (f1 (gj (da := (Kd.via kQueryO Look.query)) (db := ((Kd.via (Kd.row 172 kMarkO) Look.front).cat (Kd.via (Kd.row 176 kPairO) Look.found))) (x := (mkV_Look k a)) (cs := [.int .i64 a.query.kind, .slice Aa1 a.query.rect.low.length ca1, .slice Aa2 a.query.rect.high.length ca2, .slice Aa3 a.query.point.length ca3, .int .i64 a.query.k, .slice Aa5 a.front.length ca5, .slice Aa6 a.found.length ca6]) rfl (ret1 rfl rfl (fun w_ hs_ => turno hs_ 1 rfl (by exact vi (by omega)) (see_app (by grind) (see_app (by grind) (by grind))))))))))))))))))
/-! laws.heldLook -/
set_option maxRecDepth 20000 in
set_option maxHeartbeats 2000000 in
theorem laws_heldLook (w : World) (k : Int) {Aa1 : Option Addr} {na1 ca1 : Nat} {Aa2 : Option Addr} {na2 ca2 : Nat} {Aa3 : Option Addr} {na3 ca3 : Nat} {Aa5 : Option Addr} {na5 ca5 : Nat} {Aa6 : Option Addr} {na6 ca6 : Nat} {a : Look} {sa_ : List Nat} (ha : kLookS.Rel w [.int .i64 ((mkV_Look k a).query.kind), .slice Aa1 na1 ca1, .slice Aa2 na2 ca2, .slice Aa3 na3 ca3, .int .i64 ((mkV_Look k a).query.k), .slice Aa5 na5 ca5, .slice Aa6 na6 ca6] (mkV_Look k a) [] sa_) (hk0 : 0 ≤ k) (hk1 : k + (0 + (a.query.rect.low.length : Int) + (a.query.rect.high.length : Int) + (a.query.point.length : Int) + (a.front.map cntE_Mark).sum + (a.found.map cntE_Pair).sum) ≤ 1152921504606846976) : Calls Tryz.prog 76 #[.agg #[.int .i64 ((mkV_Look k a).query.kind), .slice Aa1 na1 ca1, .slice Aa2 na2 ca2, .slice Aa3 na3 ca3, .int .i64 ((mkV_Look k a).query.k), .slice Aa5 na5 ca5, .slice Aa6 na6 ca6], .int .i64 k] w (fun e_ w2_ => e_ = .returned (.int .i64 (k + (a.query.rect.low.length : Int) + (a.query.rect.high.length : Int) + (a.query.point.length : Int) + (a.front.map cntE_Mark).sum + (a.found.map cntE_Pair).sum)) ∧ Below w.heap.size w w2_) := by
  have zn0 := sum_nn cntE_Mark_nn a.front; have zn1 := sum_nn cntE_Pair_nn a.found
  refine fnc (X := X13 24 w) (args := [.agg #[.int .i64 ((mkV_Look k a).query.kind), .slice Aa1 na1 ca1, .slice Aa2 na2 ca2, .slice Aa3 na3 ca3, .int .i64 ((mkV_Look k a).query.k), .slice Aa5 na5 ca5, .slice Aa6 na6 ca6], .int .i64 k]) (l := [(0, .agg #[.int .i64 ((mkV_Look k a).query.kind), .slice Aa1 na1 ca1, .slice Aa2 na2 ca2, .slice Aa3 na3 ca3, .int .i64 ((mkV_Look k a).query.k), .slice Aa5 na5 ca5, .slice Aa6 na6 ca6]), (1, .int .i64 k)]) (G := [dat kLookS [.int .i64 ((mkV_Look k a).query.kind), .slice Aa1 na1 ca1, .slice Aa2 na2 ca2, .slice Aa3 na3 ca3, .int .i64 ((mkV_Look k a).query.k), .slice Aa5 na5 ca5, .slice Aa6 na6 ca6] (mkV_Look k a) ([]) sa_]) Tryz.func76 rfl rfl rfl ⟨rfl, rfl, trivial⟩ (s0d ha (s0n w)).1 ?_
  refine sq (rg (bx rfl rfl rfl rfl ?_))
  intro b1
  refine a_ rfl rfl (en (nx (sq (rg (vl (fa rfl rfl rfl) rfl (vl (ldb 0 rfl rfl rfl rfl rfl rfl rfl) rfl (m_ rfl rfl ?_)))))))
  refine gd 1 kLookS_p0_5 rfl (cs' := [.int .i64 ((mkV_Look k a).query.kind), .slice Aa1 na1 ca1, .slice Aa2 na2 ca2, .slice Aa3 na3 ca3, .int .i64 ((mkV_Look k a).query.k)]) rfl fun s2 w_ rs2 us2 => ?_
  refine gr (mkV_Query k a.query) rfl (cs_ (v := .int .i64 (k + (a.query.rect.low.length : Int) + (a.query.rect.high.length : Int) + (a.query.point.length : Int))) (by kernel_rfl) rfl rfl rfl (fun w_ hs_ => laws_heldQuery w_ _ (hs_.at 0 rfl) (by omega) (by omega)) (a_ rfl rfl (en (nx (sq (sq (rg (m_ rfl rfl (vl (cm rfl rfl rfl rfl) rfl (en (nx ?_)))))))))))
  by_cases h3 : (k + (a.query.rect.low.length : Int) + (a.query.rect.high.length : Int) + (a.query.point.length : Int)) < (0 : Int)
  · exfalso; omega
  · refine cf rfl (decide_eq_false h3) (sk (nx (sq (rg (vl (fa rfl rfl rfl) rfl (vl (ldb (u := .slice Aa5 na5 ca5) 1 rfl rfl rfl rfl rfl rfl rfl) rfl (m_ rfl rfl ?_)))))))
    refine gd 2 kLookS_p5_1 rfl (cs' := [.slice Aa5 na5 ca5]) rfl fun s4 w_ rs4 us4 => ?_
    have Ls4 := Kd.sl_len rs4; have Cs4 := Kd.sl_cap rs4
    refine gr (mkL mkE_Mark cntE_Mark (k + (a.query.rect.low.length : Int) + (a.query.rect.high.length : Int) + (a.query.point.length : Int)) a.front) rfl (cs_ (v := .int .i64 ((k + (a.query.rect.low.length : Int) + (a.query.rect.high.length : Int) + (a.query.point.length : Int)) + (a.front.map cntE_Mark).sum)) (by kernel_rfl) rfl rfl rfl (fun w_ hs_ => laws_heldMarkS w_ _ (hs_.at 0 rfl) (by omega) (by omega)) (a_ rfl rfl (en (nx (sq (sq (rg (m_ rfl rfl (vl (cm rfl rfl rfl rfl) rfl (en (nx ?_)))))))))))
    by_cases h5 : ((k + (a.query.rect.low.length : Int) + (a.query.rect.high.length : Int) + (a.query.point.length : Int)) + (a.front.map cntE_Mark).sum) < (0 : Int)
    · exfalso; omega
    · refine cf rfl (decide_eq_false h5) (sk (nx (sq (rg (vl (fa rfl rfl rfl) rfl (vl (ldb (u := .slice Aa6 na6 ca6) 2 rfl rfl rfl rfl rfl rfl rfl) rfl (m_ rfl rfl ?_)))))))
      refine gd 3 kLookS_p6_1 rfl (cs' := [.slice Aa6 na6 ca6]) rfl fun s6 w_ rs6 us6 => ?_
      have Ls6 := Kd.sl_len rs6; have Cs6 := Kd.sl_cap rs6
      refine gr (mkL mkE_Pair cntE_Pair (k + (a.query.rect.low.length : Int) + (a.query.rect.high.length : Int) + (a.query.point.length : Int) + (a.front.map cntE_Mark).sum) a.found) rfl (cs_ (v := .int .i64 (((k + (a.query.rect.low.length : Int) + (a.query.rect.high.length : Int) + (a.query.point.length : Int)) + (a.front.map cntE_Mark).sum) + (a.found.map cntE_Pair).sum)) (by kernel_rfl) rfl rfl rfl (fun w_ hs_ => laws_heldPairS w_ _ (hs_.at 0 rfl) (by omega) (by omega)) (a_ rfl rfl (en (nx (sq (sq (rg (m_ rfl rfl (vl (cm rfl rfl rfl rfl) rfl (en (nx ?_)))))))))))
      by_cases h7 : (((k + (a.query.rect.low.length : Int) + (a.query.rect.high.length : Int) + (a.query.point.length : Int)) + (a.front.map cntE_Mark).sum) + (a.found.map cntE_Pair).sum) < (0 : Int)
      · exfalso; omega
      · refine cf rfl (decide_eq_false h7) (sk (nx (sq (rg (m_ rfl rfl (a_ rfl rfl (en (nx (rt (ret1 rfl rfl (fun w_ hs_ => ⟨?_, hs_.below⟩)))))))))))
        exact ri (by omega)
/-! laws.markLookResult -/
set_option maxRecDepth 20000 in
set_option maxHeartbeats 2000000 in
theorem laws_markLookResult (w : World) (k : Int) {Aa2 : Option Addr} {ca2 : Nat} {Aa3 : Option Addr} {ca3 : Nat} {Aa4 : Option Addr} {ca4 : Nat} {Aa6 : Option Addr} {ca6 : Nat} {Aa7 : Option Addr} {ca7 : Nat} {a : LookResult} {oa_ sa_ : List Nat} (hst : St (nul w) w [dat kLookResultO [.int .i64 a.code, .int .i64 a.look.query.kind, .slice Aa2 a.look.query.rect.low.length ca2, .slice Aa3 a.look.query.rect.high.length ca3, .slice Aa4 a.look.query.point.length ca4, .int .i64 a.look.query.k, .slice Aa6 a.look.front.length ca6, .slice Aa7 a.look.found.length ca7] a oa_ sa_]) (hk0 : 0 ≤ k) (hk1 : k + (0 + (a.look.query.rect.low.length : Int) + (a.look.query.rect.high.length : Int) + (a.look.query.point.length : Int) + (a.look.front.map cntE_Mark).sum + (a.look.found.map cntE_Pair).sum) ≤ 1152921504606846976) : Calls Tryz.prog 24 #[.agg #[.int .i64 a.code, .int .i64 a.look.query.kind, .slice Aa2 a.look.query.rect.low.length ca2, .slice Aa3 a.look.query.rect.high.length ca3, .slice Aa4 a.look.query.point.length ca4, .int .i64 a.look.query.k, .slice Aa6 a.look.front.length ca6, .slice Aa7 a.look.found.length ca7], .int .i64 k] w (TurnO kLookResultO [.int .i64 a.code, .int .i64 a.look.query.kind, .slice Aa2 a.look.query.rect.low.length ca2, .slice Aa3 a.look.query.rect.high.length ca3, .slice Aa4 a.look.query.point.length ca4, .int .i64 a.look.query.k, .slice Aa6 a.look.front.length ca6, .slice Aa7 a.look.found.length ca7] (.int .i64 (k + (a.look.query.rect.low.length : Int) + (a.look.query.rect.high.length : Int) + (a.look.query.point.length : Int) + (a.look.front.map cntE_Mark).sum + (a.look.found.map cntE_Pair).sum)) w oa_ (mkV_LookResult k a) (sa_)) := by
  have zn0 := sum_nn cntE_Mark_nn a.look.front; have zn1 := sum_nn cntE_Pair_nn a.look.found
  refine fnc (X := X13 10 (nul w)) (args := [.agg #[.int .i64 a.code, .int .i64 a.look.query.kind, .slice Aa2 a.look.query.rect.low.length ca2, .slice Aa3 a.look.query.rect.high.length ca3, .slice Aa4 a.look.query.point.length ca4, .int .i64 a.look.query.k, .slice Aa6 a.look.front.length ca6, .slice Aa7 a.look.found.length ca7], .int .i64 k]) (l := [(0, .agg #[.int .i64 a.code, .int .i64 a.look.query.kind, .slice Aa2 a.look.query.rect.low.length ca2, .slice Aa3 a.look.query.rect.high.length ca3, .slice Aa4 a.look.query.point.length ca4, .int .i64 a.look.query.k, .slice Aa6 a.look.front.length ca6, .slice Aa7 a.look.found.length ca7]), (1, .int .i64 k)]) (G := [frm w oa_, dat kLookResultO [.int .i64 a.code, .int .i64 a.look.query.kind, .slice Aa2 a.look.query.rect.low.length ca2, .slice Aa3 a.look.query.rect.high.length ca3, .slice Aa4 a.look.query.point.length ca4, .int .i64 a.look.query.k, .slice Aa6 a.look.front.length ca6, .slice Aa7 a.look.found.length ca7] a oa_ sa_]) Tryz.func24 rfl rfl rfl ⟨rfl, rfl, trivial⟩ (⟨hst.fr oa_ (by simp [owns, dat, ptr]), trivial⟩ : _ ∧ True).1 ?_
  refine f1 (gsp (da := (Kd.via Kd.i64 LookResult.code)) rfl rfl (fun o1 o2 s3 s4 us3 us4 => ?_))
  refine gv (f1 (gv ?_))
  refine sq (rg (bx rfl rfl rfl rfl ?_))
  intro b5
  refine a_ rfl rfl (en (nx (sq (rg (vl (fa rfl rfl rfl) rfl (vl (ldb 0 rfl rfl rfl rfl rfl rfl rfl) rfl (m_ rfl rfl (f1 (cto (dk := kLookO) (cs := [.int .i64 a.look.query.kind, .slice Aa2 a.look.query.rect.low.length ca2, .slice Aa3 a.look.query.rect.high.length ca3, .slice Aa4 a.look.query.point.length ca4, .int .i64 a.look.query.k, .slice Aa6 a.look.front.length ca6, .slice Aa7 a.look.found.length ca7]) (x := (mkV_Look k a.look)) (v := .int .i64 (k + (a.look.query.rect.low.length : Int) + (a.look.query.rect.high.length : Int) + (a.look.query.point.length : Int) + (a.look.front.map cntE_Mark).sum + (a.look.found.map cntE_Pair).sum)) (S := (s4)) (by kernel_rfl) rfl rfl rfl (snt 0 rfl) w.heap.size (fun w_ hs_ => (hs_.mod 3 rfl).size) (fun w_ hs_ => laws_markLook w_ _ ((hs_.pk [0] rfl).nl) (by omega) (by omega)) (fun o6 s7 t8 => ?_))))))))))
  exact a_ rfl rfl (en (nx (sq (rg (m_ rfl rfl (a_ rfl rfl (en (nx (rt (gs Kd.i64 [.int .i64 a.code] ((mkV_LookResult k a).code) (fun _ => ⟨rfl, rfl, rfl⟩) (gj (da := (Kd.via Kd.i64 LookResult.code)) (db := (Kd.via kLookO LookResult.look)) (x := (mkV_LookResult k a)) (cs := [.int .i64 a.code, .int .i64 a.look.query.kind, .slice Aa2 a.look.query.rect.low.length ca2, .slice Aa3 a.look.query.rect.high.length ca3, .slice Aa4 a.look.query.point.length ca4, .int .i64 a.look.query.k, .slice Aa6 a.look.front.length ca6, .slice Aa7 a.look.found.length ca7]) rfl (ret1 rfl rfl (fun w_ hs_ => turno hs_ 2 rfl (by exact vi (by omega)) (see_app see_nil (by grind)))))))))))))))
/-! laws.heldLookResult -/
set_option maxRecDepth 20000 in
set_option maxHeartbeats 2000000 in
theorem laws_heldLookResult (w : World) (k : Int) {Aa2 : Option Addr} {na2 ca2 : Nat} {Aa3 : Option Addr} {na3 ca3 : Nat} {Aa4 : Option Addr} {na4 ca4 : Nat} {Aa6 : Option Addr} {na6 ca6 : Nat} {Aa7 : Option Addr} {na7 ca7 : Nat} {a : LookResult} {sa_ : List Nat} (ha : kLookResultS.Rel w [.int .i64 ((mkV_LookResult k a).code), .int .i64 ((mkV_LookResult k a).look.query.kind), .slice Aa2 na2 ca2, .slice Aa3 na3 ca3, .slice Aa4 na4 ca4, .int .i64 ((mkV_LookResult k a).look.query.k), .slice Aa6 na6 ca6, .slice Aa7 na7 ca7] (mkV_LookResult k a) [] sa_) (hk0 : 0 ≤ k) (hk1 : k + (0 + (a.look.query.rect.low.length : Int) + (a.look.query.rect.high.length : Int) + (a.look.query.point.length : Int) + (a.look.front.map cntE_Mark).sum + (a.look.found.map cntE_Pair).sum) ≤ 1152921504606846976) : Calls Tryz.prog 25 #[.agg #[.int .i64 ((mkV_LookResult k a).code), .int .i64 ((mkV_LookResult k a).look.query.kind), .slice Aa2 na2 ca2, .slice Aa3 na3 ca3, .slice Aa4 na4 ca4, .int .i64 ((mkV_LookResult k a).look.query.k), .slice Aa6 na6 ca6, .slice Aa7 na7 ca7], .int .i64 k] w (fun e_ w2_ => e_ = .returned (.int .i64 (k + (a.look.query.rect.low.length : Int) + (a.look.query.rect.high.length : Int) + (a.look.query.point.length : Int) + (a.look.front.map cntE_Mark).sum + (a.look.found.map cntE_Pair).sum)) ∧ Below w.heap.size w w2_) := by
  have zn0 := sum_nn cntE_Mark_nn a.look.front; have zn1 := sum_nn cntE_Pair_nn a.look.found
  refine fnc (X := X13 12 w) (args := [.agg #[.int .i64 ((mkV_LookResult k a).code), .int .i64 ((mkV_LookResult k a).look.query.kind), .slice Aa2 na2 ca2, .slice Aa3 na3 ca3, .slice Aa4 na4 ca4, .int .i64 ((mkV_LookResult k a).look.query.k), .slice Aa6 na6 ca6, .slice Aa7 na7 ca7], .int .i64 k]) (l := [(0, .agg #[.int .i64 ((mkV_LookResult k a).code), .int .i64 ((mkV_LookResult k a).look.query.kind), .slice Aa2 na2 ca2, .slice Aa3 na3 ca3, .slice Aa4 na4 ca4, .int .i64 ((mkV_LookResult k a).look.query.k), .slice Aa6 na6 ca6, .slice Aa7 na7 ca7]), (1, .int .i64 k)]) (G := [dat kLookResultS [.int .i64 ((mkV_LookResult k a).code), .int .i64 ((mkV_LookResult k a).look.query.kind), .slice Aa2 na2 ca2, .slice Aa3 na3 ca3, .slice Aa4 na4 ca4, .int .i64 ((mkV_LookResult k a).look.query.k), .slice Aa6 na6 ca6, .slice Aa7 na7 ca7] (mkV_LookResult k a) ([]) sa_]) Tryz.func25 rfl rfl rfl ⟨rfl, rfl, trivial⟩ (s0d ha (s0n w)).1 ?_
  refine sq (rg (bx rfl rfl rfl rfl ?_))
  intro b1
  refine a_ rfl rfl (en (nx (sq (rg (vl (fa rfl rfl rfl) rfl (vl (ldb 0 rfl rfl rfl rfl rfl rfl rfl) rfl (m_ rfl rfl ?_)))))))
  refine gd 1 kLookResultS_p1_7 rfl (cs' := [.int .i64 ((mkV_LookResult k a).look.query.kind), .slice Aa2 na2 ca2, .slice Aa3 na3 ca3, .slice Aa4 na4 ca4, .int .i64 ((mkV_LookResult k a).look.query.k), .slice Aa6 na6 ca6, .slice Aa7 na7 ca7]) rfl fun s2 w_ rs2 us2 => ?_
  refine gr (mkV_Look k a.look) rfl (cs_ (v := .int .i64 (k + (a.look.query.rect.low.length : Int) + (a.look.query.rect.high.length : Int) + (a.look.query.point.length : Int) + (a.look.front.map cntE_Mark).sum + (a.look.found.map cntE_Pair).sum)) (by kernel_rfl) rfl rfl rfl (fun w_ hs_ => laws_heldLook w_ _ (hs_.at 0 rfl) (by omega) (by omega)) (a_ rfl rfl (en (nx (sq (sq (rg (m_ rfl rfl (vl (cm rfl rfl rfl rfl) rfl (en (nx ?_)))))))))))
  by_cases h3 : (k + (a.look.query.rect.low.length : Int) + (a.look.query.rect.high.length : Int) + (a.look.query.point.length : Int) + (a.look.front.map cntE_Mark).sum + (a.look.found.map cntE_Pair).sum) < (0 : Int)
  · exfalso; omega
  · refine cf rfl (decide_eq_false h3) (sk (nx (sq (rg (m_ rfl rfl (a_ rfl rfl (en (nx (rt (ret1 rfl rfl (fun w_ hs_ => ⟨?_, hs_.below⟩)))))))))))
    exact ri (by omega)
theorem start_cnt (t : Tree) (q : Query) : ((startLook t q).look.query.rect.low.length : Int) + ((startLook t q).look.query.rect.high.length : Int) + ((startLook t q).look.query.point.length : Int) ≤ szQuery q ∧ ((startLook t q).look.front.map cntE_Mark).sum ≤ 3 ∧ ((startLook t q).look.found.map cntE_Pair).sum = 0 := by
  have := szRect_nn q.rect
  unfold startLook
  split
  · split
    · refine ⟨?_, ?_, rfl⟩
      · show (q.rect.low.length : Int) + (q.rect.high.length : Int) + (q.point.length : Int) ≤ szQuery q
        unfold szQuery szRect; omega
      · show (0 + 1 + 1 + 1 : Int) + 0 ≤ 3; decide
    · refine ⟨?_, (by show (0 : Int) ≤ 3; decide), rfl⟩
      show (0 : Int) + 0 + 0 ≤ szQuery q
      have := szQuery_nn q; omega
  · refine ⟨?_, (by show (0 : Int) ≤ 3; decide), rfl⟩
    show (0 : Int) + 0 + 0 ≤ szQuery q
    have := szQuery_nn q; omega
end Go.Proofs.YtfdhhhodfjbnjaaGreat.Sx
