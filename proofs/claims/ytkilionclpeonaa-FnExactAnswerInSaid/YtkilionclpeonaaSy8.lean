/- What functions of the program answer, each at every input that its row names; walked through their code. -/
import Derived.Test.YtkilionclpeonaaSy7
namespace Go.Proofs.Ytkilionclpeonaa.Sx
open Go Go.RowKit Go.Proofs
set_option linter.unusedVariables false
set_option linter.unusedSimpArgs false
def tab8 : Tab := { size := [(2, 1, false), (30, 1, false), (37, 5, true), (51, 1, false), (68, 3, true), (101, 3, true)], off := [((37, 0), 0), ((53, 0), 0), ((53, 1), 5), ((53, 2), 6), ((68, 0), 0), ((101, 0), 0), ((101, 1), 1), ((101, 2), 2)], elem := [(30, 68), (51, 101)] }
theorem tab_ok8 : tab8.check Try.prog = true := by kernel_rfl
noncomputable abbrev X8 (N : Nat) (w : World) : Cx := ⟨Try.prog, tab8, tab_ok8, wide, N, w, none, []⟩

def markFault (kind : Int) (m : Mark) : Int := if within m.dist 0 10000 = true ∧ within m.id 0 39 = true ∧ within m.nsn 0 100000 = true then if ¬ m.dist = 0 ∧ ¬ kind = 4 then 1 else 0 else 3
def foundFault (l : List Pair) (d : Int) : Nat → Int
  | 0 => match l[0]? with
    | some p => pairFault p d
    | none => 0
  | i + 1 => match l[i + 1]?, l[i]? with
    | some p, some a => if pairFault p d = 0 then if p.id ≤ a.id then 1 else 0 else pairFault p d
    | _, _ => 0
def lookFault (l : Look) (d : Int) : Int :=
  if queryFault l.query d = 0 then
    if (l.front.length : Int) ≤ 20000 ∧ (l.found.length : Int) ≤ 1000 then
      if firstFault (markFault l.query.kind) l.front = 0 then firstFault (foundFault l.found d) (List.range l.found.length) else firstFault (markFault l.query.kind) l.front
    else 2
  else queryFault l.query d
/-! impl.isNsn -/
set_option maxRecDepth 20000 in
set_option maxHeartbeats 2000000 in
theorem impl_isNsn (w : World) (n : Int)  : Calls Try.prog 70 #[.int .i64 n] w (fun e_ w2_ => e_ = .returned (.bool (within n 0 100000)) ∧ Below w.heap.size w w2_) := by
  refine fnc (X := X8 5 w) (args := [.int .i64 n]) (l := [(0, .int .i64 n)]) (G := []) Try.func70 rfl rfl rfl ⟨rfl, trivial⟩ (s0n w).1 ?_
  refine sq (rg (a_ rfl rfl (en (nx (sq (rg (m_ rfl rfl (cs_ (v := .bool (within n 0 100000)) (by kernel_rfl) rfl rfl rfl (fun w_ hs_ => impl_within w_ _ _ _) (a_ rfl rfl (en (nx (rt (ret1 rfl rfl (fun w_ hs_ => ⟨?_, hs_.below⟩))))))))))))))
  rfl
theorem found_bad {l : List Pair} {d : Int} {k : Nat} {p : Pair} (hp : l[k]? = some p) (h : ¬ pairFault p d = 0) : foundFault l d k = pairFault p d := by
  cases k with
  | zero => simp only [foundFault, hp]
  | succ k =>
    have hk : k + 1 < l.length := (List.getElem?_eq_some_iff.1 hp).1
    have ha : l[k]? = some l[k] := List.getElem?_eq_getElem (by omega)
    simp only [foundFault, hp, ha, if_neg h]
theorem found_ok {l : List Pair} {d : Int} {k : Nat} {p : Pair} (hp : l[k]? = some p) (h : pairFault p d = 0) (hk : k = 0 ∨ ∃ i a, i + 1 = k ∧ l[i]? = some a ∧ ¬ p.id ≤ a.id) : foundFault l d k = 0 := by
  cases k with
  | zero => simp only [foundFault, hp, h]
  | succ k =>
    rcases hk with hk | ⟨i, a, hi, ha, hn⟩
    · omega
    · obtain rfl : i = k := by omega
      simp only [foundFault, hp, ha, if_pos h, if_neg hn]
theorem found_low {l : List Pair} {d : Int} {k i : Nat} {p a : Pair} (hp : l[k]? = some p) (h : pairFault p d = 0) (hk : i + 1 = k) (ha : l[i]? = some a) (hn : p.id ≤ a.id) : foundFault l d k = 1 := by
  cases k with
  | zero => omega
  | succ k =>
    obtain rfl : i = k := by omega
    simp only [foundFault, hp, ha, if_pos h, if_pos hn]
theorem range_get {n k x : Nat} (h : (List.range n)[k]? = some x) : x = k ∧ k < n := by
  obtain ⟨h1, h2⟩ := List.getElem?_eq_some_iff.1 h
  simp at h1 h2; exact ⟨h2.symm, h1⟩
theorem ffr_at {f : Nat → Int} {n k : Nat} (h : ∀ j, j < k → f j = 0) (hk : k < n) (hf : ¬ f k = 0) : firstFault f (List.range n) = f k :=
  firstFault_at (k := k) (fun j x hj hx => by rw [(range_get hx).1]; exact h j hj) (by simp [hk]) hf
theorem ffr_0 {f : Nat → Int} {n k : Nat} (h : ∀ j, j < k → f j = 0) (hk : n ≤ k) : firstFault f (List.range n) = 0 :=
  firstFault_0 (k := k) (fun j x hj hx => by rw [(range_get hx).1]; exact h j hj) (by simpa using hk)
theorem step_le {f : Nat → Int} {k : Nat} (h : ∀ j, j < k → f j = 0) (hk : f k = 0) : ∀ j, j < k + 1 → f j = 0 := fun j hj => by
  rcases Nat.lt_succ_iff_lt_or_eq.1 hj with hlt | rfl
  · exact h j hlt
  · exact hk
theorem lf_q {l : Look} {d : Int} (h : ¬ queryFault l.query d = 0) : queryFault l.query d = lookFault l d := by unfold lookFault; rw [if_neg h]
theorem lf_many {l : Look} {d : Int} (h0 : queryFault l.query d = 0) (h : ¬ ((l.front.length : Int) ≤ 20000 ∧ (l.found.length : Int) ≤ 1000)) : 2 = lookFault l d := by unfold lookFault; rw [if_pos h0, if_neg h]
theorem lf_front {l : Look} {d v : Int} (h0 : queryFault l.query d = 0) (h : (l.front.length : Int) ≤ 20000 ∧ (l.found.length : Int) ≤ 1000) (z : firstFault (markFault l.query.kind) l.front = v) (hv : ¬ v = 0) : v = lookFault l d := by unfold lookFault; rw [if_pos h0, if_pos h, z, if_neg hv]
theorem lf_found {l : Look} {d v : Int} (h0 : queryFault l.query d = 0) (h : (l.front.length : Int) ≤ 20000 ∧ (l.found.length : Int) ≤ 1000) (z : firstFault (markFault l.query.kind) l.front = 0) (y : firstFault (foundFault l.found d) (List.range l.found.length) = v) : v = lookFault l d := by unfold lookFault; rw [if_pos h0, if_pos h, if_pos z, y]
theorem mark_3 {k : Int} {m : Mark} (h : ¬ (within m.dist 0 10000 = true ∧ within m.id 0 39 = true ∧ within m.nsn 0 100000 = true)) : markFault k m = 3 := by unfold markFault; rw [if_neg h]
theorem mark_1 {k : Int} {m : Mark} (h : within m.dist 0 10000 = true ∧ within m.id 0 39 = true ∧ within m.nsn 0 100000 = true) (h2 : ¬ m.dist = 0 ∧ ¬ k = 4) : markFault k m = 1 := by unfold markFault; rw [if_pos h, if_pos h2]
/-! impl.LookFault -/
set_option maxRecDepth 20000 in
set_option maxHeartbeats 2000000 in
theorem impl_LookFault (w : World) (dims : Int) {Al1 : Option Addr} {cl1 : Nat} {Al2 : Option Addr} {cl2 : Nat} {Al3 : Option Addr} {cl3 : Nat} {Al5 : Option Addr} {cl5 : Nat} {Al6 : Option Addr} {cl6 : Nat} {l : Look} {sl_ : List Nat} (hl : kLookS.Rel w [.int .i64 l.query.kind, .slice Al1 l.query.rect.low.length cl1, .slice Al2 l.query.rect.high.length cl2, .slice Al3 l.query.point.length cl3, .int .i64 l.query.k, .slice Al5 l.front.length cl5, .slice Al6 l.found.length cl6] l [] sl_)  : Calls Try.prog 46 #[.agg #[.int .i64 l.query.kind, .slice Al1 l.query.rect.low.length cl1, .slice Al2 l.query.rect.high.length cl2, .slice Al3 l.query.point.length cl3, .int .i64 l.query.k, .slice Al5 l.front.length cl5, .slice Al6 l.found.length cl6], .int .i64 dims] w (fun e_ w2_ => e_ = .returned (.int .i64 (lookFault l dims)) ∧ Below w.heap.size w w2_) := by
  have Ll5 := Kd.sub_len kLookS_p5_1 hl; have Cl5 := Kd.sub_cap kLookS_p5_1 hl rfl
  have Ll6 := Kd.sub_len kLookS_p6_1 hl; have Cl6 := Kd.sub_cap kLookS_p6_1 hl rfl
  refine fnc (X := X8 92 w) (args := [.agg #[.int .i64 l.query.kind, .slice Al1 l.query.rect.low.length cl1, .slice Al2 l.query.rect.high.length cl2, .slice Al3 l.query.point.length cl3, .int .i64 l.query.k, .slice Al5 l.front.length cl5, .slice Al6 l.found.length cl6], .int .i64 dims]) (l := [(0, .agg #[.int .i64 l.query.kind, .slice Al1 l.query.rect.low.length cl1, .slice Al2 l.query.rect.high.length cl2, .slice Al3 l.query.point.length cl3, .int .i64 l.query.k, .slice Al5 l.front.length cl5, .slice Al6 l.found.length cl6]), (1, .int .i64 dims)]) (G := [dat kLookS [.int .i64 l.query.kind, .slice Al1 l.query.rect.low.length cl1, .slice Al2 l.query.rect.high.length cl2, .slice Al3 l.query.point.length cl3, .int .i64 l.query.k, .slice Al5 l.front.length cl5, .slice Al6 l.found.length cl6] l ([]) sl_]) Try.func46 rfl rfl rfl ⟨rfl, rfl, trivial⟩ (s0d hl (s0n w)).1 ?_
  refine sq (rg (bx rfl rfl rfl rfl ?_))
  intro b1
  refine a_ rfl rfl (en (nx (sq (rg (vl (fa rfl rfl rfl) rfl (vl (ldb 0 rfl rfl rfl rfl rfl rfl rfl) rfl (m_ rfl rfl ?_)))))))
  refine gd 1 kLookS_p0_5 rfl (cs' := [.int .i64 l.query.kind, .slice Al1 l.query.rect.low.length cl1, .slice Al2 l.query.rect.high.length cl2, .slice Al3 l.query.point.length cl3, .int .i64 l.query.k]) rfl fun s2 w_ rs2 us2 => ?_
  refine cs_ (v := .int .i64 (queryFault l.query dims)) (by kernel_rfl) rfl rfl rfl (fun w_ hs_ => impl_QueryFault w_ _ (hs_.at 0 rfl)) (a_ rfl rfl (en (nx (sq (bk (sq (rg (m_ rfl rfl (vl (cm rfl rfl rfl rfl) rfl (a_ rfl rfl (en (nx ?_))))))))))))
  by_cases h3 : (queryFault l.query dims) = (0 : Int)
  · refine cf rfl (bne_eq_false_iff_eq.2 h3) (sq (rg (vl (fa rfl rfl rfl) rfl (vl (ldb (u := .slice Al5 l.front.length cl5) 1 rfl rfl rfl rfl rfl rfl rfl) rfl (vl (ln rfl rfl rfl) rfl (vl (cm rfl rfl rfl rfl) rfl (m_ rfl rfl ?_)))))))
    by_cases h4 : (20000 : Int) < ((l.front.length : Nat) : Int)
    · refine sg rfl rfl (decide_eq_true h4) (sg rfl rfl (decide_eq_true h4) (sg rfl rfl (decide_eq_true h4) (sg rfl rfl (decide_eq_true h4) (vl (pk (b := true) rfl rfl (decide_eq_true h4) rfl) rfl (a_ rfl rfl (en (nx (ct rfl rfl (sq (rg (a_ rfl rfl (en (nx (rt (xrb (xr (ret1 rfl rfl (fun w_ hs_ => ⟨?_, hs_.below⟩))))))))))))))))))
      exact ri (lf_many h3 (by omega))
    · refine vg (fa rfl rfl rfl) rfl rfl (decide_eq_false h4) (vg (ldb (u := .slice Al6 l.found.length cl6) 1 rfl rfl rfl rfl rfl rfl rfl) rfl rfl (decide_eq_false h4) (vg (ln rfl rfl rfl) rfl rfl (decide_eq_false h4) (vg (cm rfl rfl rfl rfl) rfl rfl (decide_eq_false h4) (vl (pk (b := false) rfl rfl (decide_eq_false h4) rfl) rfl (a_ rfl rfl (en (nx ?_)))))))
      by_cases h5 : (1000 : Int) < ((l.found.length : Nat) : Int)
      · refine ct rfl (decide_eq_true h5) (sq (rg (a_ rfl rfl (en (nx (rt (xrb (xr (ret1 rfl rfl (fun w_ hs_ => ⟨?_, hs_.below⟩))))))))))
        exact ri (lf_many h3 (by omega))
      · refine cf rfl (decide_eq_false h5) (sk (xn (nx (sq (sq (rg (vl (fa rfl rfl rfl) rfl (vl (ldb (u := .slice Al5 l.front.length cl5) 1 rfl rfl rfl rfl rfl rfl rfl) rfl (vl (ln rfl rfl rfl) rfl (m_ rfl rfl (en (nx (bk ?_)))))))))))))
        refine lp (σ := Nat) (fun k : Nat => [(1, .int .i64 dims), (2, .pointer (some ⟨b1, 0, none⟩)), (31, .slice Al5 l.front.length cl5), (32, .int .i64 ((l.front.length : Nat) : Int)), (33, .int .i64 ((k : Nat) : Int))])
            (fun k : Nat => [dat kQueryS [.int .i64 l.query.kind, .slice Al1 l.query.rect.low.length cl1, .slice Al2 l.query.rect.high.length cl2, .slice Al3 l.query.point.length cl3, .int .i64 l.query.k] l.query ([]) s2, blk b1 [.int .i64 l.query.kind, .slice Al1 l.query.rect.low.length cl1, .slice Al2 l.query.rect.high.length cl2, .slice Al3 l.query.point.length cl3, .int .i64 l.query.k, .slice Al5 l.front.length cl5, .slice Al6 l.found.length cl6] 53, dat kLookS [.int .i64 l.query.kind, .slice Al1 l.query.rect.low.length cl1, .slice Al2 l.query.rect.high.length cl2, .slice Al3 l.query.point.length cl3, .int .i64 l.query.k, .slice Al5 l.front.length cl5, .slice Al6 l.found.length cl6] l ([]) sl_])
            (fun k : Nat => k ≤ l.front.length ∧ ∀ j x, j < k → l.front[j]? = some x → markFault l.query.kind x = 0) (fun k : Nat => l.front.length - k) 0 [0, 0, 0] ⟨Nat.zero_le _, by simp⟩ ⟨rfl, rfl, rfl, rfl, rfl, trivial⟩ rfl ?_
        intro k hp_
        obtain ⟨hk, hinv⟩ := hp_
        refine sq (rg (vl (cm rfl rfl rfl rfl) rfl (en (nx (sq ?_)))))
        by_cases h6 : ((k : Nat) : Int) < ((l.front.length : Nat) : Int)
        · refine ct rfl (decide_eq_true h6) (sk (nx (sq (bk (sq (rg ?_))))))
          refine gd 2 kLookS_p5_1 rfl (cs' := [.slice Al5 l.front.length cl5]) rfl fun s7 w_ rs7 us7 => ?_
          have Ls7 := Kd.sl_len rs7; have Cs7 := Kd.sl_cap rs7
          refine gx 0 k rfl (by omega) fun y13 p8 cs_ s9 w12 m14 e10 r11 us9 => ?_
          obtain ⟨rfl⟩ := kMarkS_sh r11
          refine vl (ix k e10 rfl rfl rfl rfl rfl (by omega)) rfl (vl (ldq 0 rfl rfl rfl rfl rfl rfl rfl) rfl (al zero101 rfl rfl rfl ?_))
          intro b15
          refine sto rfl rfl rfl rfl rfl rfl rfl (cs' := [.int .i64 y13.dist, .int .i64 y13.id, .int .i64 y13.nsn]) rfl (en (nx (sq (sq (rg (vl (fa rfl rfl rfl) rfl (vl (ldb (u := .int .i64 y13.dist) 0 rfl rfl rfl rfl rfl rfl rfl) rfl (cs_ (v := .bool (within y13.dist 0 10000)) (by kernel_rfl) rfl rfl rfl (fun w_ hs_ => impl_within w_ _ _ _) (vl (nt rfl rfl) rfl (m_ rfl rfl ?_))))))))))
          by_cases h16 : within y13.dist 0 10000 = true
          · refine vg (fa rfl rfl rfl) rfl rfl (not_f h16) (vg (ldb (u := .int .i64 y13.id) 0 rfl rfl rfl rfl rfl rfl rfl) rfl rfl (not_f h16) (gw rfl rfl (not_f h16) (cs_ (v := .bool (within y13.id 0 39)) (by kernel_rfl) rfl rfl rfl (fun w_ hs_ => impl_within w_ _ _ _) (vg (nt rfl rfl) rfl rfl (not_f h16) (vl (pk (b := false) rfl rfl (not_f h16) rfl) rfl (m_ rfl rfl ?_))))))
            by_cases h17 : within y13.id 0 39 = true
            · refine vg (fa rfl rfl rfl) rfl rfl (not_f h17) (vg (ldb (u := .int .i64 y13.nsn) 0 rfl rfl rfl rfl rfl rfl rfl) rfl rfl (not_f h17) (gw rfl rfl (not_f h17) (cs_ (v := .bool (within y13.nsn 0 100000)) (by kernel_rfl) rfl rfl rfl (fun w_ hs_ => impl_isNsn w_ _) (vg (nt rfl rfl) rfl rfl (not_f h17) (vl (pk (b := false) rfl rfl (not_f h17) rfl) rfl (en (nx ?_)))))))
              by_cases h18 : within y13.nsn 0 100000 = true
              · refine cf rfl (not_f h18) (sk (nx (sq (rg (vl (fa rfl rfl rfl) rfl (vl (ldb (u := .int .i64 y13.dist) 0 rfl rfl rfl rfl rfl rfl rfl) rfl (vl (cm rfl rfl rfl rfl) rfl (m_ rfl rfl ?_))))))))
                by_cases h19 : y13.dist = (0 : Int)
                · exact sg rfl rfl (bne_eq_false_iff_eq.2 h19) (sg rfl rfl (bne_eq_false_iff_eq.2 h19) (sg rfl rfl (bne_eq_false_iff_eq.2 h19) (sg rfl rfl (bne_eq_false_iff_eq.2 h19) (vl (pk (b := false) rfl rfl (bne_eq_false_iff_eq.2 h19) rfl) rfl (en (nx (cf rfl rfl (sk (xn (nx (rg (vl (ra (c := ((k + 1 : Nat) : Int)) rfl rfl rfl (by omega) (by omega) (by omega)) rfl (m_ rfl rfl (en (lpe (s := k) (k + 1) [3, 3, 3] ⟨by omega, zero_step (f := markFault l.query.kind) hinv m14 (by grind [markFault])⟩ (by omega) ⟨rfl, rfl, rfl, rfl, rfl, trivial⟩ rfl)))))))))))))))
                · refine vg (fa rfl rfl rfl) rfl rfl (bne_iff_ne.2 h19) (vg (fa rfl rfl rfl) rfl rfl (bne_iff_ne.2 h19) (vg (ldb (u := .int .i64 l.query.kind) 4 rfl rfl rfl rfl rfl rfl rfl) rfl rfl (bne_iff_ne.2 h19) (vg (cm rfl rfl rfl rfl) rfl rfl (bne_iff_ne.2 h19) (vl (pk (b := true) rfl rfl (bne_iff_ne.2 h19) rfl) rfl (en (nx ?_))))))
                  by_cases h20 : l.query.kind = (4 : Int)
                  · exact cf rfl (bne_eq_false_iff_eq.2 h20) (sk (xn (nx (rg (vl (ra (c := ((k + 1 : Nat) : Int)) rfl rfl rfl (by omega) (by omega) (by omega)) rfl (m_ rfl rfl (en (lpe (s := k) (k + 1) [3, 3, 3] ⟨by omega, zero_step (f := markFault l.query.kind) hinv m14 (by grind [markFault])⟩ (by omega) ⟨rfl, rfl, rfl, rfl, rfl, trivial⟩ rfl))))))))
                  · refine ct rfl (bne_iff_ne.2 h20) (sq (rg (a_ rfl rfl (en (nx (rt (xrb (xr (xr (xrb (xr (ret1 rfl rfl (fun w_ hs_ => ⟨?_, hs_.below⟩)))))))))))))
                    exact ri (by have e := mark_1 (k := l.query.kind) (m := y13) (by grind) (by grind); exact lf_front h3 ⟨by omega, by omega⟩ ((firstFault_at (f := markFault l.query.kind) hinv m14 (by rw [e]; decide)).trans e) (by decide))
              · refine ct rfl (not_t (Bool.eq_false_iff.2 h18)) (sq (rg (a_ rfl rfl (en (nx (rt (xr (xrb (xr (xr (xrb (xr (ret1 rfl rfl (fun w_ hs_ => ⟨?_, hs_.below⟩))))))))))))))
                exact ri (by have e := mark_3 (k := l.query.kind) (m := y13) (by grind); exact lf_front h3 ⟨by omega, by omega⟩ ((firstFault_at (f := markFault l.query.kind) hinv m14 (by rw [e]; decide)).trans e) (by decide))
            · refine sg rfl rfl (not_t (Bool.eq_false_iff.2 h17)) (sg rfl rfl (not_t (Bool.eq_false_iff.2 h17)) (sg rfl rfl (not_t (Bool.eq_false_iff.2 h17)) (sg rfl rfl (not_t (Bool.eq_false_iff.2 h17)) (vl (pk (b := true) rfl rfl (not_t (Bool.eq_false_iff.2 h17)) rfl) rfl (en (nx (ct rfl rfl (sq (rg (a_ rfl rfl (en (nx (rt (xr (xrb (xr (xr (xrb (xr (ret1 rfl rfl (fun w_ hs_ => ⟨?_, hs_.below⟩)))))))))))))))))))))
              exact ri (by have e := mark_3 (k := l.query.kind) (m := y13) (by grind); exact lf_front h3 ⟨by omega, by omega⟩ ((firstFault_at (f := markFault l.query.kind) hinv m14 (by rw [e]; decide)).trans e) (by decide))
          · refine sg rfl rfl (not_t (Bool.eq_false_iff.2 h16)) (sg rfl rfl (not_t (Bool.eq_false_iff.2 h16)) (sg rfl rfl (not_t (Bool.eq_false_iff.2 h16)) (sg rfl rfl (not_t (Bool.eq_false_iff.2 h16)) (vl (pk (b := true) rfl rfl (not_t (Bool.eq_false_iff.2 h16)) rfl) rfl (m_ rfl rfl (sg rfl rfl rfl (sg rfl rfl rfl (sg rfl rfl rfl (sg rfl rfl rfl (vl (pk (b := true) rfl rfl rfl rfl) rfl (en (nx (ct rfl rfl (sq (rg (a_ rfl rfl (en (nx (rt (xr (xrb (xr (xr (xrb (xr (ret1 rfl rfl (fun w_ hs_ => ⟨?_, hs_.below⟩)))))))))))))))))))))))))))
            exact ri (by have e := mark_3 (k := l.query.kind) (m := y13) (by grind); exact lf_front h3 ⟨by omega, by omega⟩ ((firstFault_at (f := markFault l.query.kind) hinv m14 (by rw [e]; decide)).trans e) (by decide))
        · refine cf rfl (decide_eq_false h6) (xt (xq (xq (xb (nx (sq (sq (rg (vl (fa rfl rfl rfl) rfl (vl (ldb (u := .slice Al6 l.found.length cl6) 1 rfl rfl rfl rfl rfl rfl rfl) rfl (vl (ln rfl rfl rfl) rfl (m_ rfl rfl (en (nx (bk ?_)))))))))))))))
          refine lp (σ := Nat) (fun k2 : Nat => [(1, .int .i64 dims), (2, .pointer (some ⟨b1, 0, none⟩)), (64, .slice Al6 l.found.length cl6), (65, .int .i64 ((l.found.length : Nat) : Int)), (66, .int .i64 ((k2 : Nat) : Int))])
              (fun k2 : Nat => [dat kQueryS [.int .i64 l.query.kind, .slice Al1 l.query.rect.low.length cl1, .slice Al2 l.query.rect.high.length cl2, .slice Al3 l.query.point.length cl3, .int .i64 l.query.k] l.query ([]) s2, blk b1 [.int .i64 l.query.kind, .slice Al1 l.query.rect.low.length cl1, .slice Al2 l.query.rect.high.length cl2, .slice Al3 l.query.point.length cl3, .int .i64 l.query.k, .slice Al5 l.front.length cl5, .slice Al6 l.found.length cl6] 53, dat kLookS [.int .i64 l.query.kind, .slice Al1 l.query.rect.low.length cl1, .slice Al2 l.query.rect.high.length cl2, .slice Al3 l.query.point.length cl3, .int .i64 l.query.k, .slice Al5 l.front.length cl5, .slice Al6 l.found.length cl6] l ([]) sl_])
              (fun k2 : Nat => k2 ≤ l.found.length ∧ ∀ j, j < k2 → foundFault l.found dims j = 0) (fun k2 : Nat => l.found.length - k2) 0 [0, 0, 0] ⟨Nat.zero_le _, by simp⟩ ⟨rfl, rfl, rfl, rfl, rfl, trivial⟩ rfl ?_
          intro k2 hp_
          obtain ⟨hk2, hinv2⟩ := hp_
          refine sq (rg (vl (cm rfl rfl rfl rfl) rfl (en (nx (sq ?_)))))
          by_cases h21 : ((k2 : Nat) : Int) < ((l.found.length : Nat) : Int)
          · refine ct rfl (decide_eq_true h21) (sk (nx (sq (bk (sq (rg (m_ rfl rfl ?_)))))))
            refine gd 2 kLookS_p6_1 rfl (cs' := [.slice Al6 l.found.length cl6]) rfl fun s22 w_ rs22 us22 => ?_
            have Ls22 := Kd.sl_len rs22; have Cs22 := Kd.sl_cap rs22
            refine gx 0 k2 rfl (by omega) fun y28 p23 cs_ s24 w27 m29 e25 r26 us24 => ?_
            obtain ⟨A30, c31, A32, c33, rfl⟩ := kPairS_sh r26
            refine vl (ix k2 e25 rfl rfl rfl rfl rfl (by omega)) rfl (vl (ldq 0 rfl rfl rfl rfl rfl rfl rfl) rfl (al zero68 rfl rfl rfl ?_))
            intro b34
            refine a_ rfl rfl (sto rfl rfl rfl rfl rfl rfl rfl (cs' := [.int .i64 y28.id, .slice A30 y28.rect.low.length c31, .slice A32 y28.rect.high.length c33]) rfl (en (nx (sq (sq (rg (vl (ldb 0 rfl rfl rfl rfl rfl rfl rfl) rfl (m_ rfl rfl ?_))))))))
            refine gp 1 Kd.Sub.rfl rfl (cs' := [.int .i64 y28.id, .slice A30 y28.rect.low.length c31, .slice A32 y28.rect.high.length c33]) rfl fun s35 w_ rs35 us35 => ?_
            refine cs_ (v := .int .i64 (pairFault y28 dims)) (by kernel_rfl) rfl rfl rfl (fun w_ hs_ => impl_pairFault w_ _ (hs_.at 0 rfl)) (a_ rfl rfl (en (nx (sq (rg (m_ rfl rfl (vl (cm rfl rfl rfl rfl) rfl (en (nx ?_)))))))))
            by_cases h36 : (pairFault y28 dims) = (0 : Int)
            · refine cf rfl (bne_eq_false_iff_eq.2 h36) (sk (nx (sq ?_)))
              by_cases h37 : (0 : Int) < ((k2 : Nat) : Int)
              · refine gx 3 ((((k2 : Nat) : Int) - 1).toNat) rfl (by omega) fun y43 p38 cs_ s39 w42 m44 e40 r41 us39 => ?_
                obtain ⟨A45, c46, A47, c48, rfl⟩ := kPairS_sh r41
                refine r0 (qv 0 rfl (mv rfl rfl) rfl (by kernel_rfl) (qv 1 rfl (cm rfl rfl rfl rfl) rfl (by kernel_rfl) (qv 2 rfl (mv rfl rfl) rfl (by kernel_rfl) (qg 3 rfl (fa rfl rfl rfl) rfl rfl (decide_eq_true h37) (by kernel_rfl) (qg 4 rfl (ldb (u := .slice Al6 l.found.length cl6) 6 rfl rfl rfl rfl rfl rfl rfl) rfl rfl (decide_eq_true h37) (by kernel_rfl) (qg 5 rfl (mv rfl rfl) rfl rfl (decide_eq_true h37) (by kernel_rfl) (qg 6 rfl (rs (c := ((k2 : Nat) : Int) - 1) rfl rfl rfl rfl (by omega) (by omega)) rfl rfl (decide_eq_true h37) (by kernel_rfl) (qg 7 rfl (ixz ((((k2 : Nat) : Int) - 1).toNat) (by omega) e40 rfl rfl rfl rfl rfl (by omega)) rfl rfl (decide_eq_true h37) (by kernel_rfl) (qg 8 rfl (fa rfl rfl rfl) rfl rfl (decide_eq_true h37) (by kernel_rfl) (qg 9 rfl (ldp (u := .int .i64 y43.id) 0 rfl rfl rfl rfl rfl rfl rfl) rfl rfl (decide_eq_true h37) (by kernel_rfl) (qg 10 rfl (fa rfl rfl rfl) rfl rfl (decide_eq_true h37) (by kernel_rfl) (qg 11 rfl (ldb (u := .int .i64 y28.id) 2 rfl rfl rfl rfl rfl rfl rfl) rfl rfl (decide_eq_true h37) (by kernel_rfl) (qg 12 rfl (cm rfl rfl rfl rfl) rfl rfl (decide_eq_true h37) (by kernel_rfl) (qv 13 rfl (pk (b := true) rfl rfl (decide_eq_true h37) rfl) rfl (by kernel_rfl) (qe [0, 0, 0, 0, 0, 0, 0, 0] (by kernel_rfl) rfl (nx ?_))))))))))))))))
                by_cases h49 : y28.id ≤ y43.id
                · refine ct rfl (decide_eq_true h49) (sq (rg (a_ rfl rfl (en (nx (rt (xrb (xr (xr (xrb (xr (ret1 rfl rfl (fun w_ hs_ => ⟨?_, hs_.below⟩)))))))))))))
                  exact ri (by have e := found_low (d := dims) m29 h36 (by omega) m44 (by omega); exact lf_found h3 ⟨by omega, by omega⟩ (firstFault_0 (f := markFault l.query.kind) hinv (by omega)) ((ffr_at (f := foundFault l.found dims) hinv2 (by omega) (by rw [e]; decide)).trans e))
                · exact cf rfl (decide_eq_false h49) (sk (xn (nx (rg (vl (ra (c := ((k2 + 1 : Nat) : Int)) rfl rfl rfl (by omega) (by omega) (by omega)) rfl (m_ rfl rfl (en (lpe (s := k2) (k2 + 1) [5, 5, 5] ⟨by omega, step_le hinv2 (found_ok m29 h36 (.inr ⟨_, _, by omega, m44, by omega⟩))⟩ (by omega) ⟨rfl, rfl, rfl, rfl, rfl, trivial⟩ rfl))))))))
              · exact r0 (qv 0 rfl (mv rfl rfl) rfl (by kernel_rfl) (qv 1 rfl (cm rfl rfl rfl rfl) rfl (by kernel_rfl) (qv 2 rfl (mv rfl rfl) rfl (by kernel_rfl) (qs 3 rfl rfl rfl (decide_eq_false h37) (by kernel_rfl) (qs 4 rfl rfl rfl (decide_eq_false h37) (by kernel_rfl) (qs 5 rfl rfl rfl (decide_eq_false h37) (by kernel_rfl) (qs 6 rfl rfl rfl (decide_eq_false h37) (by kernel_rfl) (qs 7 rfl rfl rfl (decide_eq_false h37) (by kernel_rfl) (qs 8 rfl rfl rfl (decide_eq_false h37) (by kernel_rfl) (qs 9 rfl rfl rfl (decide_eq_false h37) (by kernel_rfl) (qs 10 rfl rfl rfl (decide_eq_false h37) (by kernel_rfl) (qs 11 rfl rfl rfl (decide_eq_false h37) (by kernel_rfl) (qs 12 rfl rfl rfl (decide_eq_false h37) (by kernel_rfl) (qv 13 rfl (pk (b := false) rfl rfl (decide_eq_false h37) rfl) rfl (by kernel_rfl) (qe [0, 0, 0, 0, 0, 0, 0] (by kernel_rfl) rfl (nx (cf rfl rfl (sk (xn (nx (rg (vl (ra (c := ((k2 + 1 : Nat) : Int)) rfl rfl rfl (by omega) (by omega) (by omega)) rfl (m_ rfl rfl (en (lpe (s := k2) (k2 + 1) [4, 4, 4] ⟨by omega, step_le hinv2 (found_ok m29 h36 (.inl (by omega)))⟩ (by omega) ⟨rfl, rfl, rfl, rfl, rfl, trivial⟩ rfl)))))))))))))))))))))))))
            · refine ct rfl (bne_iff_ne.2 h36) (sq (rg (m_ rfl rfl (a_ rfl rfl (en (nx (rt (xr (xrb (xr (xr (xrb (xr (ret1 rfl rfl (fun w_ hs_ => ⟨?_, hs_.below⟩)))))))))))))))
              exact ri (lf_found h3 ⟨by omega, by omega⟩ (firstFault_0 (f := markFault l.query.kind) hinv (by omega)) ((ffr_at (f := foundFault l.found dims) hinv2 (by omega) (by rw [found_bad m29 h36]; exact h36)).trans (found_bad m29 h36)))
          · refine cf rfl (decide_eq_false h21) (xt (xq (xq (xb (nx (sq (rg (a_ rfl rfl (en (nx (rt (ret1 rfl rfl (fun w_ hs_ => ⟨?_, hs_.below⟩)))))))))))))
            exact ri (lf_found h3 ⟨by omega, by omega⟩ (firstFault_0 (f := markFault l.query.kind) hinv (by omega)) (ffr_0 (f := foundFault l.found dims) (n := l.found.length) hinv2 (by omega)))
  · refine ct rfl (bne_iff_ne.2 h3) (sq (rg (m_ rfl rfl (a_ rfl rfl (en (nx (rt (xrb (xr (ret1 rfl rfl (fun w_ hs_ => ⟨?_, hs_.below⟩)))))))))))
    exact ri (lf_q h3)
/-! spec.LookFault -/
set_option maxRecDepth 20000 in
set_option maxHeartbeats 2000000 in
theorem spec_LookFault (w : World) (dims : Int) {Al1 : Option Addr} {cl1 : Nat} {Al2 : Option Addr} {cl2 : Nat} {Al3 : Option Addr} {cl3 : Nat} {Al5 : Option Addr} {cl5 : Nat} {Al6 : Option Addr} {cl6 : Nat} {l : Look} {sl_ : List Nat} (hl : kLookS.Rel w [.int .i64 l.query.kind, .slice Al1 l.query.rect.low.length cl1, .slice Al2 l.query.rect.high.length cl2, .slice Al3 l.query.point.length cl3, .int .i64 l.query.k, .slice Al5 l.front.length cl5, .slice Al6 l.found.length cl6] l [] sl_)  : Calls Try.prog 43 #[.agg #[.int .i64 l.query.kind, .slice Al1 l.query.rect.low.length cl1, .slice Al2 l.query.rect.high.length cl2, .slice Al3 l.query.point.length cl3, .int .i64 l.query.k, .slice Al5 l.front.length cl5, .slice Al6 l.found.length cl6], .int .i64 dims] w (fun e_ w2_ => e_ = .returned (.int .i64 (lookFault l dims)) ∧ Below w.heap.size w w2_) := by
  have Ll5 := Kd.sub_len kLookS_p5_1 hl; have Cl5 := Kd.sub_cap kLookS_p5_1 hl rfl
  have Ll6 := Kd.sub_len kLookS_p6_1 hl; have Cl6 := Kd.sub_cap kLookS_p6_1 hl rfl
  refine fnc (X := X8 98 w) (args := [.agg #[.int .i64 l.query.kind, .slice Al1 l.query.rect.low.length cl1, .slice Al2 l.query.rect.high.length cl2, .slice Al3 l.query.point.length cl3, .int .i64 l.query.k, .slice Al5 l.front.length cl5, .slice Al6 l.found.length cl6], .int .i64 dims]) (l := [(0, .agg #[.int .i64 l.query.kind, .slice Al1 l.query.rect.low.length cl1, .slice Al2 l.query.rect.high.length cl2, .slice Al3 l.query.point.length cl3, .int .i64 l.query.k, .slice Al5 l.front.length cl5, .slice Al6 l.found.length cl6]), (1, .int .i64 dims)]) (G := [dat kLookS [.int .i64 l.query.kind, .slice Al1 l.query.rect.low.length cl1, .slice Al2 l.query.rect.high.length cl2, .slice Al3 l.query.point.length cl3, .int .i64 l.query.k, .slice Al5 l.front.length cl5, .slice Al6 l.found.length cl6] l ([]) sl_]) Try.func43 rfl rfl rfl ⟨rfl, rfl, trivial⟩ (s0d hl (s0n w)).1 ?_
  refine sq (rg (bx rfl rfl rfl rfl ?_))
  intro b1
  refine a_ rfl rfl (en (nx (sq (sq (rg (vl (fa rfl rfl rfl) rfl (vl (ldb 0 rfl rfl rfl rfl rfl rfl rfl) rfl (m_ rfl rfl ?_))))))))
  refine gd 1 kLookS_p0_5 rfl (cs' := [.int .i64 l.query.kind, .slice Al1 l.query.rect.low.length cl1, .slice Al2 l.query.rect.high.length cl2, .slice Al3 l.query.point.length cl3, .int .i64 l.query.k]) rfl fun s2 w_ rs2 us2 => ?_
  refine cs_ (v := .int .i64 (queryFault l.query dims)) (by kernel_rfl) rfl rfl rfl (fun w_ hs_ => spec_QueryFault w_ _ (hs_.at 0 rfl)) (a_ rfl rfl (en (nx (sq (rg (m_ rfl rfl (vl (cm rfl rfl rfl rfl) rfl (en (nx ?_)))))))))
  by_cases h3 : (queryFault l.query dims) = (0 : Int)
  · refine cf rfl (bne_eq_false_iff_eq.2 h3) (sk (nx (sq (sq (rg (vl (fa rfl rfl rfl) rfl (vl (ldb (u := .slice Al5 l.front.length cl5) 1 rfl rfl rfl rfl rfl rfl rfl) rfl (vl (ln rfl rfl rfl) rfl (vl (cm rfl rfl rfl rfl) rfl (m_ rfl rfl ?_))))))))))
    by_cases h4 : (20000 : Int) < ((l.front.length : Nat) : Int)
    · refine sg rfl rfl (decide_eq_true h4) (sg rfl rfl (decide_eq_true h4) (sg rfl rfl (decide_eq_true h4) (sg rfl rfl (decide_eq_true h4) (vl (pk (b := true) rfl rfl (decide_eq_true h4) rfl) rfl (en (nx (ct rfl rfl (sq (rg (a_ rfl rfl (en (nx (rt (xr (ret1 rfl rfl (fun w_ hs_ => ⟨?_, hs_.below⟩))))))))))))))))
      exact ri (lf_many h3 (by omega))
    · refine vg (fa rfl rfl rfl) rfl rfl (decide_eq_false h4) (vg (ldb (u := .slice Al6 l.found.length cl6) 1 rfl rfl rfl rfl rfl rfl rfl) rfl rfl (decide_eq_false h4) (vg (ln rfl rfl rfl) rfl rfl (decide_eq_false h4) (vg (cm rfl rfl rfl rfl) rfl rfl (decide_eq_false h4) (vl (pk (b := false) rfl rfl (decide_eq_false h4) rfl) rfl (en (nx ?_))))))
      by_cases h5 : (1000 : Int) < ((l.found.length : Nat) : Int)
      · refine ct rfl (decide_eq_true h5) (sq (rg (a_ rfl rfl (en (nx (rt (xr (ret1 rfl rfl (fun w_ hs_ => ⟨?_, hs_.below⟩)))))))))
        exact ri (lf_many h3 (by omega))
      · refine cf rfl (decide_eq_false h5) (sk (nx (sq (sq (rg (a_ rfl rfl (en (nx (bk ?_)))))))))
        refine lp (σ := Nat) (fun k : Nat => [(1, .int .i64 dims), (2, .pointer (some ⟨b1, 0, none⟩)), (6, .int .i64 ((k : Nat) : Int))])
            (fun k : Nat => [dat kQueryS [.int .i64 l.query.kind, .slice Al1 l.query.rect.low.length cl1, .slice Al2 l.query.rect.high.length cl2, .slice Al3 l.query.point.length cl3, .int .i64 l.query.k] l.query ([]) s2, blk b1 [.int .i64 l.query.kind, .slice Al1 l.query.rect.low.length cl1, .slice Al2 l.query.rect.high.length cl2, .slice Al3 l.query.point.length cl3, .int .i64 l.query.k, .slice Al5 l.front.length cl5, .slice Al6 l.found.length cl6] 53, dat kLookS [.int .i64 l.query.kind, .slice Al1 l.query.rect.low.length cl1, .slice Al2 l.query.rect.high.length cl2, .slice Al3 l.query.point.length cl3, .int .i64 l.query.k, .slice Al5 l.front.length cl5, .slice Al6 l.found.length cl6] l ([]) sl_])
            (fun k : Nat => k ≤ l.front.length ∧ ∀ j x, j < k → l.front[j]? = some x → markFault l.query.kind x = 0) (fun k : Nat => l.front.length - k) 0 [0, 0, 0] ⟨Nat.zero_le _, by simp⟩ ⟨rfl, rfl, rfl, trivial⟩ rfl ?_
        intro k hp_
        obtain ⟨hk, hinv⟩ := hp_
        refine sq (sq (rg (m_ rfl rfl (vl (fa rfl rfl rfl) rfl (vl (ldb (u := .slice Al5 l.front.length cl5) 1 rfl rfl rfl rfl rfl rfl rfl) rfl (vl (ln rfl rfl rfl) rfl (vl (cm rfl rfl rfl rfl) rfl (en (nx ?_)))))))))
        by_cases h6 : ((k : Nat) : Int) < ((l.front.length : Nat) : Int)
        · refine ct rfl (decide_eq_true h6) (sk (nx (sq (bk (sq (rg (vl (fa rfl rfl rfl) rfl (vl (ldb (u := .slice Al5 l.front.length cl5) 1 rfl rfl rfl rfl rfl rfl rfl) rfl (m_ rfl rfl ?_)))))))))
          refine gd 2 kLookS_p5_1 rfl (cs' := [.slice Al5 l.front.length cl5]) rfl fun s7 w_ rs7 us7 => ?_
          have Ls7 := Kd.sl_len rs7; have Cs7 := Kd.sl_cap rs7
          refine gx 0 k rfl (by omega) fun y13 p8 cs_ s9 w12 m14 e10 r11 us9 => ?_
          obtain ⟨rfl⟩ := kMarkS_sh r11
          refine vl (ix k e10 rfl rfl rfl rfl rfl (by omega)) rfl (vl (ldq 0 rfl rfl rfl rfl rfl rfl rfl) rfl (al zero101 rfl rfl rfl ?_))
          intro b15
          refine sto rfl rfl rfl rfl rfl rfl rfl (cs' := [.int .i64 y13.dist, .int .i64 y13.id, .int .i64 y13.nsn]) rfl (en (nx (sq (sq (rg (vl (fa rfl rfl rfl) rfl (vl (ldb (u := .int .i64 y13.dist) 0 rfl rfl rfl rfl rfl rfl rfl) rfl (cs_ (v := .bool (within y13.dist 0 10000)) (by kernel_rfl) rfl rfl rfl (fun w_ hs_ => spec_l1In w_ _ _ _) (vl (nt rfl rfl) rfl (m_ rfl rfl ?_))))))))))
          by_cases h16 : within y13.dist 0 10000 = true
          · refine vg (fa rfl rfl rfl) rfl rfl (not_f h16) (vg (ldb (u := .int .i64 y13.id) 0 rfl rfl rfl rfl rfl rfl rfl) rfl rfl (not_f h16) (gw rfl rfl (not_f h16) (cs_ (v := .bool (within y13.id 0 39)) (by kernel_rfl) rfl rfl rfl (fun w_ hs_ => spec_l1In w_ _ _ _) (vg (nt rfl rfl) rfl rfl (not_f h16) (vl (pk (b := false) rfl rfl (not_f h16) rfl) rfl (m_ rfl rfl ?_))))))
            by_cases h17 : within y13.id 0 39 = true
            · refine vg (fa rfl rfl rfl) rfl rfl (not_f h17) (vg (ldb (u := .int .i64 y13.nsn) 0 rfl rfl rfl rfl rfl rfl rfl) rfl rfl (not_f h17) (gw rfl rfl (not_f h17) (cs_ (v := .bool (within y13.nsn 0 100000)) (by kernel_rfl) rfl rfl rfl (fun w_ hs_ => spec_l1In w_ _ _ _) (vg (nt rfl rfl) rfl rfl (not_f h17) (vl (pk (b := false) rfl rfl (not_f h17) rfl) rfl (en (nx ?_)))))))
              by_cases h18 : within y13.nsn 0 100000 = true
              · refine cf rfl (not_f h18) (sk (nx (sq (rg (vl (fa rfl rfl rfl) rfl (vl (ldb (u := .int .i64 y13.dist) 0 rfl rfl rfl rfl rfl rfl rfl) rfl (vl (cm rfl rfl rfl rfl) rfl (m_ rfl rfl ?_))))))))
                by_cases h19 : y13.dist = (0 : Int)
                · exact sg rfl rfl (bne_eq_false_iff_eq.2 h19) (sg rfl rfl (bne_eq_false_iff_eq.2 h19) (sg rfl rfl (bne_eq_false_iff_eq.2 h19) (sg rfl rfl (bne_eq_false_iff_eq.2 h19) (vl (pk (b := false) rfl rfl (bne_eq_false_iff_eq.2 h19) rfl) rfl (en (nx (cf rfl rfl (sk (xn (nx (rg (m_ rfl rfl (vl (ra (c := ((k + 1 : Nat) : Int)) rfl rfl rfl (by omega) (by omega) (by omega)) rfl (a_ rfl rfl (en (lpe (s := k) (k + 1) [3, 3, 3] ⟨by omega, zero_step (f := markFault l.query.kind) hinv m14 (by grind [markFault])⟩ (by omega) ⟨rfl, rfl, rfl, trivial⟩ rfl))))))))))))))))
                · refine vg (fa rfl rfl rfl) rfl rfl (bne_iff_ne.2 h19) (vg (fa rfl rfl rfl) rfl rfl (bne_iff_ne.2 h19) (vg (ldb (u := .int .i64 l.query.kind) 4 rfl rfl rfl rfl rfl rfl rfl) rfl rfl (bne_iff_ne.2 h19) (vg (cm rfl rfl rfl rfl) rfl rfl (bne_iff_ne.2 h19) (vl (pk (b := true) rfl rfl (bne_iff_ne.2 h19) rfl) rfl (en (nx ?_))))))
                  by_cases h20 : l.query.kind = (4 : Int)
                  · exact cf rfl (bne_eq_false_iff_eq.2 h20) (sk (xn (nx (rg (m_ rfl rfl (vl (ra (c := ((k + 1 : Nat) : Int)) rfl rfl rfl (by omega) (by omega) (by omega)) rfl (a_ rfl rfl (en (lpe (s := k) (k + 1) [3, 3, 3] ⟨by omega, zero_step (f := markFault l.query.kind) hinv m14 (by grind [markFault])⟩ (by omega) ⟨rfl, rfl, rfl, trivial⟩ rfl)))))))))
                  · refine ct rfl (bne_iff_ne.2 h20) (sq (rg (a_ rfl rfl (en (nx (rt (xrb (xr (xr (xrb (xr (ret1 rfl rfl (fun w_ hs_ => ⟨?_, hs_.below⟩)))))))))))))
                    exact ri (by have e := mark_1 (k := l.query.kind) (m := y13) (by grind) (by grind); exact lf_front h3 ⟨by omega, by omega⟩ ((firstFault_at (f := markFault l.query.kind) hinv m14 (by rw [e]; decide)).trans e) (by decide))
              · refine ct rfl (not_t (Bool.eq_false_iff.2 h18)) (sq (rg (a_ rfl rfl (en (nx (rt (xr (xrb (xr (xr (xrb (xr (ret1 rfl rfl (fun w_ hs_ => ⟨?_, hs_.below⟩))))))))))))))
                exact ri (by have e := mark_3 (k := l.query.kind) (m := y13) (by grind); exact lf_front h3 ⟨by omega, by omega⟩ ((firstFault_at (f := markFault l.query.kind) hinv m14 (by rw [e]; decide)).trans e) (by decide))
            · refine sg rfl rfl (not_t (Bool.eq_false_iff.2 h17)) (sg rfl rfl (not_t (Bool.eq_false_iff.2 h17)) (sg rfl rfl (not_t (Bool.eq_false_iff.2 h17)) (sg rfl rfl (not_t (Bool.eq_false_iff.2 h17)) (vl (pk (b := true) rfl rfl (not_t (Bool.eq_false_iff.2 h17)) rfl) rfl (en (nx (ct rfl rfl (sq (rg (a_ rfl rfl (en (nx (rt (xr (xrb (xr (xr (xrb (xr (ret1 rfl rfl (fun w_ hs_ => ⟨?_, hs_.below⟩)))))))))))))))))))))
              exact ri (by have e := mark_3 (k := l.query.kind) (m := y13) (by grind); exact lf_front h3 ⟨by omega, by omega⟩ ((firstFault_at (f := markFault l.query.kind) hinv m14 (by rw [e]; decide)).trans e) (by decide))
          · refine sg rfl rfl (not_t (Bool.eq_false_iff.2 h16)) (sg rfl rfl (not_t (Bool.eq_false_iff.2 h16)) (sg rfl rfl (not_t (Bool.eq_false_iff.2 h16)) (sg rfl rfl (not_t (Bool.eq_false_iff.2 h16)) (vl (pk (b := true) rfl rfl (not_t (Bool.eq_false_iff.2 h16)) rfl) rfl (m_ rfl rfl (sg rfl rfl rfl (sg rfl rfl rfl (sg rfl rfl rfl (sg rfl rfl rfl (vl (pk (b := true) rfl rfl rfl rfl) rfl (en (nx (ct rfl rfl (sq (rg (a_ rfl rfl (en (nx (rt (xr (xrb (xr (xr (xrb (xr (ret1 rfl rfl (fun w_ hs_ => ⟨?_, hs_.below⟩)))))))))))))))))))))))))))
            exact ri (by have e := mark_3 (k := l.query.kind) (m := y13) (by grind); exact lf_front h3 ⟨by omega, by omega⟩ ((firstFault_at (f := markFault l.query.kind) hinv m14 (by rw [e]; decide)).trans e) (by decide))
        · refine cf rfl (decide_eq_false h6) (xt (xq (xq (xb (nx (sq (sq (rg (a_ rfl rfl (en (nx (bk ?_))))))))))))
          refine lp (σ := Nat) (fun k2 : Nat => [(1, .int .i64 dims), (2, .pointer (some ⟨b1, 0, none⟩)), (8, .int .i64 ((k2 : Nat) : Int))])
              (fun k2 : Nat => [dat kQueryS [.int .i64 l.query.kind, .slice Al1 l.query.rect.low.length cl1, .slice Al2 l.query.rect.high.length cl2, .slice Al3 l.query.point.length cl3, .int .i64 l.query.k] l.query ([]) s2, blk b1 [.int .i64 l.query.kind, .slice Al1 l.query.rect.low.length cl1, .slice Al2 l.query.rect.high.length cl2, .slice Al3 l.query.point.length cl3, .int .i64 l.query.k, .slice Al5 l.front.length cl5, .slice Al6 l.found.length cl6] 53, dat kLookS [.int .i64 l.query.kind, .slice Al1 l.query.rect.low.length cl1, .slice Al2 l.query.rect.high.length cl2, .slice Al3 l.query.point.length cl3, .int .i64 l.query.k, .slice Al5 l.front.length cl5, .slice Al6 l.found.length cl6] l ([]) sl_])
              (fun k2 : Nat => k2 ≤ l.found.length ∧ ∀ j, j < k2 → foundFault l.found dims j = 0) (fun k2 : Nat => l.found.length - k2) 0 [0, 0, 0] ⟨Nat.zero_le _, by simp⟩ ⟨rfl, rfl, rfl, trivial⟩ rfl ?_
          intro k2 hp_
          obtain ⟨hk2, hinv2⟩ := hp_
          refine sq (sq (rg (m_ rfl rfl (vl (fa rfl rfl rfl) rfl (vl (ldb (u := .slice Al6 l.found.length cl6) 1 rfl rfl rfl rfl rfl rfl rfl) rfl (vl (ln rfl rfl rfl) rfl (vl (cm rfl rfl rfl rfl) rfl (en (nx ?_)))))))))
          by_cases h21 : ((k2 : Nat) : Int) < ((l.found.length : Nat) : Int)
          · refine ct rfl (decide_eq_true h21) (sk (nx (sq (bk (sq (sq (rg (vl (fa rfl rfl rfl) rfl (vl (ldb (u := .slice Al6 l.found.length cl6) 1 rfl rfl rfl rfl rfl rfl rfl) rfl (m_ rfl rfl ?_))))))))))
            refine gd 2 kLookS_p6_1 rfl (cs' := [.slice Al6 l.found.length cl6]) rfl fun s22 w_ rs22 us22 => ?_
            have Ls22 := Kd.sl_len rs22; have Cs22 := Kd.sl_cap rs22
            refine gx 0 k2 rfl (by omega) fun y28 p23 cs_ s24 w27 m29 e25 r26 us24 => ?_
            obtain ⟨A30, c31, A32, c33, rfl⟩ := kPairS_sh r26
            refine vl (ix k2 e25 rfl rfl rfl rfl rfl (by omega)) rfl (m_ rfl rfl (cs_ (v := .int .i64 (pairFault y28 dims)) (by kernel_rfl) rfl rfl rfl (fun w_ hs_ => spec_l2Pair w_ _ (hs_.at 0 rfl)) (a_ rfl rfl (en (nx (sq (rg (m_ rfl rfl (vl (cm rfl rfl rfl rfl) rfl (en (nx ?_)))))))))))
            by_cases h34 : (pairFault y28 dims) = (0 : Int)
            · refine cf rfl (bne_eq_false_iff_eq.2 h34) (sk (nx (sq ?_)))
              by_cases h35 : (0 : Int) < ((k2 : Nat) : Int)
              · refine gx 1 ((((k2 : Nat) : Int) - 1).toNat) rfl (by omega) fun y41 p36 cs_ s37 w40 m42 e38 r39 us37 => ?_
                obtain ⟨A43, c44, A45, c46, rfl⟩ := kPairS_sh r39
                refine r0 (qv 0 rfl (mv rfl rfl) rfl (by kernel_rfl) (qv 1 rfl (cm rfl rfl rfl rfl) rfl (by kernel_rfl) (qv 2 rfl (mv rfl rfl) rfl (by kernel_rfl) (qg 3 rfl (fa rfl rfl rfl) rfl rfl (decide_eq_true h35) (by kernel_rfl) (qg 4 rfl (ldb (u := .slice Al6 l.found.length cl6) 4 rfl rfl rfl rfl rfl rfl rfl) rfl rfl (decide_eq_true h35) (by kernel_rfl) (qg 5 rfl (mv rfl rfl) rfl rfl (decide_eq_true h35) (by kernel_rfl) (qg 6 rfl (ix k2 e25 rfl rfl rfl rfl rfl (by omega)) rfl rfl (decide_eq_true h35) (by kernel_rfl) (qg 7 rfl (fa rfl rfl rfl) rfl rfl (decide_eq_true h35) (by kernel_rfl) (qg 8 rfl (ldp (u := .int .i64 y28.id) 1 rfl rfl rfl rfl rfl rfl rfl) rfl rfl (decide_eq_true h35) (by kernel_rfl) (qg 9 rfl (fa rfl rfl rfl) rfl rfl (decide_eq_true h35) (by kernel_rfl) (qg 10 rfl (ldb (u := .slice Al6 l.found.length cl6) 4 rfl rfl rfl rfl rfl rfl rfl) rfl rfl (decide_eq_true h35) (by kernel_rfl) (qg 11 rfl (mv rfl rfl) rfl rfl (decide_eq_true h35) (by kernel_rfl) (qg 12 rfl (rs (c := ((k2 : Nat) : Int) - 1) rfl rfl rfl rfl (by omega) (by omega)) rfl rfl (decide_eq_true h35) (by kernel_rfl) (qg 13 rfl (ixz ((((k2 : Nat) : Int) - 1).toNat) (by omega) e38 rfl rfl rfl rfl rfl (by omega)) rfl rfl (decide_eq_true h35) (by kernel_rfl) (qg 14 rfl (fa rfl rfl rfl) rfl rfl (decide_eq_true h35) (by kernel_rfl) (qg 15 rfl (ldp (u := .int .i64 y41.id) 0 rfl rfl rfl rfl rfl rfl rfl) rfl rfl (decide_eq_true h35) (by kernel_rfl) (qg 16 rfl (cm rfl rfl rfl rfl) rfl rfl (decide_eq_true h35) (by kernel_rfl) (qv 17 rfl (pk (b := true) rfl rfl (decide_eq_true h35) rfl) rfl (by kernel_rfl) (qe [0, 0, 0, 0, 0, 0] (by kernel_rfl) rfl (nx ?_))))))))))))))))))))
                by_cases h47 : y28.id ≤ y41.id
                · refine ct rfl (decide_eq_true h47) (sq (rg (a_ rfl rfl (en (nx (rt (xrb (xr (xr (xrb (xr (ret1 rfl rfl (fun w_ hs_ => ⟨?_, hs_.below⟩)))))))))))))
                  exact ri (by have e := found_low (d := dims) m29 h34 (by omega) m42 (by omega); exact lf_found h3 ⟨by omega, by omega⟩ (firstFault_0 (f := markFault l.query.kind) hinv (by omega)) ((ffr_at (f := foundFault l.found dims) hinv2 (by omega) (by rw [e]; decide)).trans e))
                · exact cf rfl (decide_eq_false h47) (sk (xn (nx (rg (m_ rfl rfl (vl (ra (c := ((k2 + 1 : Nat) : Int)) rfl rfl rfl (by omega) (by omega) (by omega)) rfl (a_ rfl rfl (en (lpe (s := k2) (k2 + 1) [3, 3, 3] ⟨by omega, step_le hinv2 (found_ok m29 h34 (.inr ⟨_, _, by omega, m42, by omega⟩))⟩ (by omega) ⟨rfl, rfl, rfl, trivial⟩ rfl)))))))))
              · exact r0 (qv 0 rfl (mv rfl rfl) rfl (by kernel_rfl) (qv 1 rfl (cm rfl rfl rfl rfl) rfl (by kernel_rfl) (qv 2 rfl (mv rfl rfl) rfl (by kernel_rfl) (qs 3 rfl rfl rfl (decide_eq_false h35) (by kernel_rfl) (qs 4 rfl rfl rfl (decide_eq_false h35) (by kernel_rfl) (qs 5 rfl rfl rfl (decide_eq_false h35) (by kernel_rfl) (qs 6 rfl rfl rfl (decide_eq_false h35) (by kernel_rfl) (qs 7 rfl rfl rfl (decide_eq_false h35) (by kernel_rfl) (qs 8 rfl rfl rfl (decide_eq_false h35) (by kernel_rfl) (qs 9 rfl rfl rfl (decide_eq_false h35) (by kernel_rfl) (qs 10 rfl rfl rfl (decide_eq_false h35) (by kernel_rfl) (qs 11 rfl rfl rfl (decide_eq_false h35) (by kernel_rfl) (qs 12 rfl rfl rfl (decide_eq_false h35) (by kernel_rfl) (qs 13 rfl rfl rfl (decide_eq_false h35) (by kernel_rfl) (qs 14 rfl rfl rfl (decide_eq_false h35) (by kernel_rfl) (qs 15 rfl rfl rfl (decide_eq_false h35) (by kernel_rfl) (qs 16 rfl rfl rfl (decide_eq_false h35) (by kernel_rfl) (qv 17 rfl (pk (b := false) rfl rfl (decide_eq_false h35) rfl) rfl (by kernel_rfl) (qe [0, 0, 0, 0, 0] (by kernel_rfl) rfl (nx (cf rfl rfl (sk (xn (nx (rg (m_ rfl rfl (vl (ra (c := ((k2 + 1 : Nat) : Int)) rfl rfl rfl (by omega) (by omega) (by omega)) rfl (a_ rfl rfl (en (lpe (s := k2) (k2 + 1) [2, 2, 2] ⟨by omega, step_le hinv2 (found_ok m29 h34 (.inl (by omega)))⟩ (by omega) ⟨rfl, rfl, rfl, trivial⟩ rfl))))))))))))))))))))))))))))))
            · refine ct rfl (bne_iff_ne.2 h34) (sq (rg (m_ rfl rfl (a_ rfl rfl (en (nx (rt (xr (xrb (xr (xr (xrb (xr (ret1 rfl rfl (fun w_ hs_ => ⟨?_, hs_.below⟩)))))))))))))))
              exact ri (lf_found h3 ⟨by omega, by omega⟩ (firstFault_0 (f := markFault l.query.kind) hinv (by omega)) ((ffr_at (f := foundFault l.found dims) hinv2 (by omega) (by rw [found_bad m29 h34]; exact h34)).trans (found_bad m29 h34)))
          · refine cf rfl (decide_eq_false h21) (xt (xq (xq (xb (nx (sq (rg (a_ rfl rfl (en (nx (rt (ret1 rfl rfl (fun w_ hs_ => ⟨?_, hs_.below⟩)))))))))))))
            exact ri (lf_found h3 ⟨by omega, by omega⟩ (firstFault_0 (f := markFault l.query.kind) hinv (by omega)) (ffr_0 (f := foundFault l.found dims) (n := l.found.length) hinv2 (by omega)))
  · refine ct rfl (bne_iff_ne.2 h3) (sq (rg (m_ rfl rfl (a_ rfl rfl (en (nx (rt (xr (ret1 rfl rfl (fun w_ hs_ => ⟨?_, hs_.below⟩))))))))))
    exact ri (lf_q h3)
end Go.Proofs.Ytkilionclpeonaa.Sx
