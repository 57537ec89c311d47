/- What functions of the program answer, each at every input that its row names; walked through their code. -/
import Derived.Test.YtfaflffdekoimaaGreatSy17
namespace Go.Proofs.YtfaflffdekoimaaGreat.Sx
open Go Go.RowKit Go.Proofs
set_option linter.unusedVariables false
set_option linter.unusedSimpArgs false
def tab18 : Tab := { size := [(2, 1, false), (3, 1, false), (23, 1, false), (46, 2, true)], off := [((46, 0), 0), ((46, 1), 1), ((48, 0), 0), ((48, 1), 1), ((48, 2), 3), ((91, 0), 0), ((91, 1), 1)], elem := [(23, 2), (202, 3)] }
theorem tab_ok18 : tab18.check Tryz.prog = true := by kernel_rfl
noncomputable abbrev X18 (N : Nat) (w : World) : Cx := ⟨Tryz.prog, tab18, tab_ok18, wide, N, w, none, []⟩
theorem info3 : (Tryz.prog.info? 3).map (fun i => (i.zero, i.size, i.bytes)) = some (some (.int .i64 0), 1, 8) := by kernel_rfl

def Bnd (l : List Int) : Prop := ∀ x ∈ l, -1000 ≤ x ∧ x ≤ 1000
structure FitR (d : Nat) (r : Rect) : Prop where
  lo : r.low.length = d
  hi : r.high.length = d
  bl : Bnd r.low
  bh : Bnd r.high
  le : ∀ (j : Nat) (a b : Int), r.low[j]? = some a → r.high[j]? = some b → a ≤ b
structure FitP (d : Nat) (p : List Int) : Prop where
  len : p.length = d
  bnd : Bnd p
theorem Bnd.at {l : List Int} (h : Bnd l) {k : Nat} {a : Int} (ha : l[k]? = some a) : -1000 ≤ a ∧ a ≤ 1000 := h a (List.mem_of_getElem? ha)
theorem point_fit {p : List Int} {d : Int} (h : pointFault p d = 0) (hd : isDims d = true) : FitP d.toNat p := by
  have h1 := pointFault_len h
  refine ⟨by omega, fun x hx => ?_⟩
  unfold pointFault at h
  rw [if_pos hd, if_pos h1] at h
  split at h
  · cases h
  · rename_i h2
    have h3 : p.any (fun n => !within n (-1000) 1000) = false := by simpa using h2
    have h4 := List.any_eq_false.1 h3 x hx
    have h5 : within x (-1000) 1000 = true := by simpa using h4
    unfold within at h5
    simpa using h5
theorem rect_fit {r : Rect} {d : Int} (h : rectFault r d = 0) (hd : isDims d = true) : FitR d.toNat r := by
  unfold rectFault at h
  split at h
  · rename_i h1
    split at h
    · rename_i h2
      have f1 := point_fit h1 hd
      have f2 := point_fit h2 hd
      split at h
      · cases h
      · rename_i h3
        refine ⟨f1.len, f2.len, f1.bnd, f2.bnd, fun j a b ha hb => ?_⟩
        refine Decidable.byContradiction fun hab => h3 (rectBad_t ha hb (by omega))
    · contradiction
  · contradiction
theorem dims_le {d : Int} (hd : isDims d = true) : d.toNat ≤ 3 ∧ 2 ≤ d.toNat := by
  unfold isDims within at hd; simp at hd; omega
/-! distances -/
def dist1 (a b n : Int) : Int := if n < a then a - n else if b < n then n - b else 0
def distTo (r : Rect) (p : List Int) : Nat → Int
  | 0 => 0
  | k + 1 => distTo r p k + dist1 (r.low.getD k 0) (r.high.getD k 0) (p.getD k 0)
def distR (r : Rect) (p : List Int) : Int := distTo r p p.length
theorem distTo_on {r : Rect} {p : List Int} {k : Nat} {a b n : Int} (ha : r.low[k]? = some a) (hb : r.high[k]? = some b) (hn : p[k]? = some n) : distTo r p (k + 1) = distTo r p k + dist1 a b n := by
  simp only [distTo, List.getD_eq_getElem?_getD, ha, hb, hn, Option.getD_some]
theorem dist1_b {a b n : Int} (ha : -1000 ≤ a ∧ a ≤ 1000) (hb : -1000 ≤ b ∧ b ≤ 1000) (hn : -1000 ≤ n ∧ n ≤ 1000) : 0 ≤ dist1 a b n ∧ dist1 a b n ≤ 2000 := by unfold dist1; split <;> (try split) <;> omega
theorem distTo_b {d : Nat} {r : Rect} {p : List Int} (hr : FitR d r) (hp : FitP d p) : ∀ k : Nat, k ≤ d → 0 ≤ distTo r p k ∧ distTo r p k ≤ 2000 * k
  | 0, _ => by simp [distTo]
  | k + 1, hk => by
    have ih := distTo_b hr hp k (by omega)
    have l1 : k < r.low.length := by rw [hr.lo]; omega
    have l2 : k < r.high.length := by rw [hr.hi]; omega
    have l3 : k < p.length := by rw [hp.len]; omega
    have h1 : r.low[k]? = some r.low[k] := List.getElem?_eq_getElem l1
    have h2 : r.high[k]? = some r.high[k] := List.getElem?_eq_getElem l2
    have h3 : p[k]? = some p[k] := List.getElem?_eq_getElem l3
    rw [distTo_on h1 h2 h3]
    have := dist1_b (hr.bl.at h1) (hr.bh.at h2) (hp.bnd.at h3)
    omega
theorem dist1_max {a b n : Int} (h : a ≤ b) : gmax (gmax 0 (a - n)) (n - b) = dist1 a b n := by unfold gmax dist1; split <;> split <;> (try split) <;> omega
theorem dist1_two {a b n : Int} (h : a ≤ b) : gmax (a - n) 0 + gmax (n - b) 0 = dist1 a b n := by unfold gmax dist1; split <;> split <;> (try split) <;> omega
/-! two boxes -/
theorem range_t {f : Nat → Bool} {n : Nat} (h : ∀ j, j < n → f j = true) : true = (List.range n).all f := by
  symm; rw [List.all_eq_true]; intro j hj; exact h j (List.mem_range.1 hj)
theorem range_f {f : Nat → Bool} {n k : Nat} (hk : k < n) (h : f k = false) : false = (List.range n).all f := by
  symm; rw [List.all_eq_false]; exact ⟨k, List.mem_range.2 hk, by simp [h]⟩
def meets1 (a b : Rect) (i : Nat) : Bool := !(decide (b.high.getD i 0 < a.low.getD i 0) || decide (a.high.getD i 0 < b.low.getD i 0))
def covers1 (a b : Rect) (i : Nat) : Bool := !(decide (b.low.getD i 0 < a.low.getD i 0) || decide (a.high.getD i 0 < b.high.getD i 0))
def meetsR (a b : Rect) : Bool := (List.range a.low.length).all (meets1 a b)
def coversR (a b : Rect) : Bool := (List.range a.low.length).all (covers1 a b)
theorem getD_of {l : List Int} {k : Nat} {a : Int} (h : l[k]? = some a) : l.getD k 0 = a := by simp [List.getD_eq_getElem?_getD, h]
theorem meets1_t {a b : Rect} {k : Nat} {x y : Int} {z w : Int} (h1 : a.low[k]? = some x) (h2 : b.high[k]? = some y) (h3 : b.low[k]? = some z) (h4 : a.high[k]? = some w) (p : ¬ y < x) (q : ¬ w < z) : meets1 a b k = true := by
  unfold meets1; rw [getD_of h1, getD_of h2, getD_of h3, getD_of h4]; simp; omega
theorem meets1_f1 {a b : Rect} {k : Nat} {x y : Int} (h1 : a.low[k]? = some x) (h2 : b.high[k]? = some y) (p : y < x) : meets1 a b k = false := by
  unfold meets1; rw [getD_of h1, getD_of h2]; simp; omega
theorem meets1_f2 {a b : Rect} {k : Nat} {z w : Int} (h3 : b.low[k]? = some z) (h4 : a.high[k]? = some w) (q : w < z) : meets1 a b k = false := by
  unfold meets1; rw [getD_of h3, getD_of h4]; simp; omega
theorem covers1_t {a b : Rect} {k : Nat} {x y : Int} {z w : Int} (h1 : a.low[k]? = some x) (h2 : b.low[k]? = some y) (h3 : b.high[k]? = some z) (h4 : a.high[k]? = some w) (p : ¬ y < x) (q : ¬ w < z) : covers1 a b k = true := by
  unfold covers1; rw [getD_of h1, getD_of h2, getD_of h3, getD_of h4]; simp; omega
theorem covers1_f1 {a b : Rect} {k : Nat} {x y : Int} (h1 : a.low[k]? = some x) (h2 : b.low[k]? = some y) (p : y < x) : covers1 a b k = false := by
  unfold covers1; rw [getD_of h1, getD_of h2]; simp; omega
theorem covers1_f2 {a b : Rect} {k : Nat} {z w : Int} (h3 : b.high[k]? = some z) (h4 : a.high[k]? = some w) (q : w < z) : covers1 a b k = false := by
  unfold covers1; rw [getD_of h3, getD_of h4]; simp; omega
/-! queries -/
structure FitQ (d : Nat) (q : Query) : Prop where
  rect : q.kind = 1 ∨ q.kind = 2 → FitR d q.rect
  pt : q.kind = 3 ∨ q.kind = 4 → FitP d q.point
  k : q.kind = 4 → 1 ≤ q.k ∧ q.k ≤ 20
  kind : 1 ≤ q.kind ∧ q.kind ≤ 4
theorem query_fit {q : Query} {d : Int} (h : queryFault q d = 0) : FitQ d.toNat q ∧ isDims d = true := by
  unfold queryFault at h
  split at h
  · rename_i hd
    split at h
    · rename_i hk
      have hk1 : 1 ≤ q.kind ∧ q.kind ≤ 4 := by unfold within at hk; simpa using hk
      split at h
      · cases h
      · split at h
        · cases h
        · split at h
          · cases h
          · split at h
            · rename_i hr
              have hr1 : q.kind = 1 ∨ q.kind = 2 := by unfold hasRect at hr; simpa using hr
              exact ⟨⟨fun _ => rect_fit h hd, fun h3 => by omega, fun h4 => by omega, hk1⟩, hd⟩
            · rename_i hr
              have hr1 : ¬ (q.kind = 1 ∨ q.kind = 2) := by unfold hasRect at hr; simpa using hr
              split at h
              · rename_i hp
                refine ⟨⟨fun h1 => absurd h1 hr1, fun _ => point_fit hp hd, fun h4 => ?_, hk1⟩, hd⟩
                split at h
                · cases h
                · rename_i h5
                  have h6 : within q.k 1 20 = true := by
                    cases hw : within q.k 1 20
                    · exact absurd ⟨h4, hw⟩ h5
                    · rfl
                  unfold within at h6; simpa using h6
              · contradiction
    · cases h
  · cases h
def matchQ (q : Query) (r : Rect) : Bool := if q.kind = 1 then meetsR q.rect r else if q.kind = 2 then coversR q.rect r else if q.kind = 3 then distR r q.point == 0 else true
def nearerP (p : List Int) (a b : Pair) : Bool := decide (distR a.rect p < distR b.rect p) || (distR a.rect p == distR b.rect p && decide (a.id < b.id))

def nearC (p : List Int) (a b : Pair) : Int := if cmpI (distR a.rect p) (distR b.rect p) = 0 then cmpI a.id b.id else cmpI (distR a.rect p) (distR b.rect p)
theorem nearC_ge {p : List Int} {a b : Pair} : (decide (0 ≤ nearC p a b)) = !nearerP p a b := by
  unfold nearC nearerP cmpI
  rw [Bool.eq_iff_iff]
  simp
  split <;> (try split) <;> (try split) <;> (try split) <;> omega
/-! the pairs that stay -/
theorem true_stepP {α : Type} {p : α → Prop} {xs : List α} {k : Nat} {y : α} (h : ∀ (j : Nat) (x : α), j < k → xs[j]? = some x → p x) (hy : xs[k]? = some y) (hp : p y) : ∀ (j : Nat) (x : α), j < k + 1 → xs[j]? = some x → p x := fun j x hj hx => by
  rcases Nat.lt_succ_iff_lt_or_eq.1 hj with hlt | rfl
  · exact h j x hlt hx
  · rw [hy] at hx; cases hx; exact hp

/-! impl.meets -/
set_option maxRecDepth 20000 in
set_option maxHeartbeats 2000000 in
theorem impl_meets (w : World) {Aa0 : Option Addr} {ca0 : Nat} {Aa1 : Option Addr} {ca1 : Nat} {a : Rect} {sa_ : List Nat} (ha : kRectS.Rel w [.slice Aa0 a.low.length ca0, .slice Aa1 a.high.length ca1] a [] sa_) {Ab0 : Option Addr} {cb0 : Nat} {Ab1 : Option Addr} {cb1 : Nat} {b : Rect} {sb_ : List Nat} (hb : kRectS.Rel w [.slice Ab0 b.low.length cb0, .slice Ab1 b.high.length cb1] b [] sb_) {d : Nat} (yFa : FitR d a) (yFb : FitR d b) : Calls Tryz.prog 155 #[.agg #[.slice Aa0 a.low.length ca0, .slice Aa1 a.high.length ca1], .agg #[.slice Ab0 b.low.length cb0, .slice Ab1 b.high.length cb1]] w (fun e_ w2_ => e_ = .returned (.bool (meetsR a b)) ∧ Below w.heap.size w w2_) := by
  have l1 := yFa.lo; have l2 := yFa.hi; have l3 := yFb.lo; have l4 := yFb.hi
  refine fnc (X := X18 37 w) (args := [.agg #[.slice Aa0 a.low.length ca0, .slice Aa1 a.high.length ca1], .agg #[.slice Ab0 b.low.length cb0, .slice Ab1 b.high.length cb1]]) (l := [(0, .agg #[.slice Aa0 a.low.length ca0, .slice Aa1 a.high.length ca1]), (1, .agg #[.slice Ab0 b.low.length cb0, .slice Ab1 b.high.length cb1])]) (G := [dat kRectS [.slice Ab0 b.low.length cb0, .slice Ab1 b.high.length cb1] b ([]) sb_, dat kRectS [.slice Aa0 a.low.length ca0, .slice Aa1 a.high.length ca1] a ([]) sa_]) Tryz.func155 rfl rfl rfl ⟨rfl, rfl, trivial⟩ (s0d hb (s0d ha (s0n w))).1 ?_
  refine sq (rg (bx rfl rfl rfl rfl ?_))
  intro b1
  refine bx rfl rfl rfl rfl ?_
  intro b2
  refine a_ rfl rfl (en (nx (sq (sq (rg (vl (fa rfl rfl rfl) rfl (vl (ldb (u := .slice Aa0 a.low.length ca0) 1 rfl rfl rfl rfl rfl rfl rfl) rfl (vl (ln rfl rfl rfl) rfl (m_ rfl rfl (en (nx (bk ?_))))))))))))
  refine lp (σ := Nat) (fun k : Nat => [(2, .pointer (some ⟨b1, 0, none⟩)), (3, .pointer (some ⟨b2, 0, none⟩)), (8, .int .i64 ((a.low.length : Nat) : Int)), (9, .int .i64 ((k : Nat) : Int))])
      (fun k : Nat => [blk b2 [.slice Ab0 b.low.length cb0, .slice Ab1 b.high.length cb1] 46, blk b1 [.slice Aa0 a.low.length ca0, .slice Aa1 a.high.length ca1] 46, dat kRectS [.slice Ab0 b.low.length cb0, .slice Ab1 b.high.length cb1] b ([]) sb_, dat kRectS [.slice Aa0 a.low.length ca0, .slice Aa1 a.high.length ca1] a ([]) sa_])
      (fun k : Nat => k ≤ a.low.length ∧ ∀ j, j < k → meets1 a b j = true) (fun k : Nat => a.low.length - k) 0 [0, 0, 0, 0] ⟨Nat.zero_le _, by simp⟩ ⟨rfl, rfl, rfl, rfl, trivial⟩ rfl ?_
  intro k hp_
  obtain ⟨hk, hinv⟩ := hp_
  refine sq (rg (vl (cm rfl rfl rfl rfl) rfl (en (nx (sq ?_)))))
  by_cases h3 : ((k : Nat) : Int) < ((a.low.length : Nat) : Int)
  · refine ct rfl (decide_eq_true h3) (sk (nx (sq (bk (sq (rg (m_ rfl rfl (a_ rfl rfl (en (nx (sq ?_)))))))))))
    refine gd 3 kRectS_p0_1 rfl (cs' := [.slice Aa0 a.low.length ca0]) rfl fun s4 w_ rs4 us4 => ?_
    have Ls4 := Kd.sl_len rs4; have Cs4 := Kd.sl_cap rs4
    refine gx 0 k rfl (by omega) fun y10 p5 cs_ s6 w9 m11 e7 r8 us6 => ?_
    obtain ⟨rfl, -, -⟩ := r8
    refine gd 4 kRectS_p1_1 rfl (cs' := [.slice Ab1 b.high.length cb1]) rfl fun s12 w_ rs12 us12 => ?_
    have Ls12 := Kd.sl_len rs12; have Cs12 := Kd.sl_cap rs12
    refine gx 0 k rfl (by omega) fun y18 p13 cs_ s14 w17 m19 e15 r16 us14 => ?_
    obtain ⟨rfl, -, -⟩ := r16
    by_cases h20 : y18 < y10
    · refine r0 (qv 0 rfl (fa rfl rfl rfl) rfl (by kernel_rfl) (qv 1 rfl (ldb (u := .slice Aa0 a.low.length ca0) 5 rfl rfl rfl rfl rfl rfl rfl) rfl (by kernel_rfl) (qv 2 rfl (mv rfl rfl) rfl (by kernel_rfl) (qv 3 rfl (ix k e7 rfl rfl rfl rfl rfl (by omega)) rfl (by kernel_rfl) (qv 4 rfl (ldq (u := .int .i64 y10) 2 rfl rfl rfl rfl rfl rfl rfl) rfl (by kernel_rfl) (qv 5 rfl (fa rfl rfl rfl) rfl (by kernel_rfl) (qv 6 rfl (ldb (u := .slice Ab1 b.high.length cb1) 4 rfl rfl rfl rfl rfl rfl rfl) rfl (by kernel_rfl) (qv 7 rfl (mv rfl rfl) rfl (by kernel_rfl) (qv 8 rfl (ix k e15 rfl rfl rfl rfl rfl (by omega)) rfl (by kernel_rfl) (qv 9 rfl (ldq (u := .int .i64 y18) 0 rfl rfl rfl rfl rfl rfl rfl) rfl (by kernel_rfl) (qv 10 rfl (cm rfl rfl rfl rfl) rfl (by kernel_rfl) (qv 11 rfl (mv rfl rfl) rfl (by kernel_rfl) (qs 12 rfl rfl rfl (decide_eq_true h20) (by kernel_rfl) (qs 13 rfl rfl rfl (decide_eq_true h20) (by kernel_rfl) (qs 14 rfl rfl rfl (decide_eq_true h20) (by kernel_rfl) (qs 15 rfl rfl rfl (decide_eq_true h20) (by kernel_rfl) (qs 16 rfl rfl rfl (decide_eq_true h20) (by kernel_rfl) (qs 17 rfl rfl rfl (decide_eq_true h20) (by kernel_rfl) (qs 18 rfl rfl rfl (decide_eq_true h20) (by kernel_rfl) (qs 19 rfl rfl rfl (decide_eq_true h20) (by kernel_rfl) (qs 20 rfl rfl rfl (decide_eq_true h20) (by kernel_rfl) (qs 21 rfl rfl rfl (decide_eq_true h20) (by kernel_rfl) (qs 22 rfl rfl rfl (decide_eq_true h20) (by kernel_rfl) (qv 23 rfl (pk (b := true) rfl rfl (decide_eq_true h20) rfl) rfl (by kernel_rfl) (qe [0, 0, 0, 0, 0, 0, 0, 0] (by kernel_rfl) rfl (nx (ct rfl rfl (sq (rg (a_ rfl rfl (en (nx (rt (xrb (xr (xr (xrb (xr (ret1 rfl rfl (fun w_ hs_ => ⟨?_, hs_.below⟩))))))))))))))))))))))))))))))))))))))))
      exact rb (range_f (k := k) (by omega) (meets1_f1 m11 m19 h20))
    · refine gd 6 kRectS_p0_1 rfl (cs' := [.slice Ab0 b.low.length cb0]) rfl fun s21 w_ rs21 us21 => ?_
      have Ls21 := Kd.sl_len rs21; have Cs21 := Kd.sl_cap rs21
      refine gx 0 k rfl (by omega) fun y27 p22 cs_ s23 w26 m28 e24 r25 us23 => ?_
      obtain ⟨rfl, -, -⟩ := r25
      refine gd 9 kRectS_p1_1 rfl (cs' := [.slice Aa1 a.high.length ca1]) rfl fun s29 w_ rs29 us29 => ?_
      have Ls29 := Kd.sl_len rs29; have Cs29 := Kd.sl_cap rs29
      refine gx 0 k rfl (by omega) fun y35 p30 cs_ s31 w34 m36 e32 r33 us31 => ?_
      obtain ⟨rfl, -, -⟩ := r33
      refine r0 (qv 0 rfl (fa rfl rfl rfl) rfl (by kernel_rfl) (qv 1 rfl (ldb (u := .slice Aa0 a.low.length ca0) 9 rfl rfl rfl rfl rfl rfl rfl) rfl (by kernel_rfl) (qv 2 rfl (mv rfl rfl) rfl (by kernel_rfl) (qv 3 rfl (ix k e7 rfl rfl rfl rfl rfl (by omega)) rfl (by kernel_rfl) (qv 4 rfl (ldq (u := .int .i64 y10) 6 rfl rfl rfl rfl rfl rfl rfl) rfl (by kernel_rfl) (qv 5 rfl (fa rfl rfl rfl) rfl (by kernel_rfl) (qv 6 rfl (ldb (u := .slice Ab1 b.high.length cb1) 8 rfl rfl rfl rfl rfl rfl rfl) rfl (by kernel_rfl) (qv 7 rfl (mv rfl rfl) rfl (by kernel_rfl) (qv 8 rfl (ix k e15 rfl rfl rfl rfl rfl (by omega)) rfl (by kernel_rfl) (qv 9 rfl (ldq (u := .int .i64 y18) 4 rfl rfl rfl rfl rfl rfl rfl) rfl (by kernel_rfl) (qv 10 rfl (cm rfl rfl rfl rfl) rfl (by kernel_rfl) (qv 11 rfl (mv rfl rfl) rfl (by kernel_rfl) (qg 12 rfl (fa rfl rfl rfl) rfl rfl (decide_eq_false h20) (by kernel_rfl) (qg 13 rfl (ldb (u := .slice Ab0 b.low.length cb0) 8 rfl rfl rfl rfl rfl rfl rfl) rfl rfl (decide_eq_false h20) (by kernel_rfl) (qg 14 rfl (mv rfl rfl) rfl rfl (decide_eq_false h20) (by kernel_rfl) (qg 15 rfl (ix k e24 rfl rfl rfl rfl rfl (by omega)) rfl rfl (decide_eq_false h20) (by kernel_rfl) (qg 16 rfl (ldq (u := .int .i64 y27) 2 rfl rfl rfl rfl rfl rfl rfl) rfl rfl (decide_eq_false h20) (by kernel_rfl) (qg 17 rfl (fa rfl rfl rfl) rfl rfl (decide_eq_false h20) (by kernel_rfl) (qg 18 rfl (ldb (u := .slice Aa1 a.high.length ca1) 9 rfl rfl rfl rfl rfl rfl rfl) rfl rfl (decide_eq_false h20) (by kernel_rfl) (qg 19 rfl (mv rfl rfl) rfl rfl (decide_eq_false h20) (by kernel_rfl) (qg 20 rfl (ix k e32 rfl rfl rfl rfl rfl (by omega)) rfl rfl (decide_eq_false h20) (by kernel_rfl) (qg 21 rfl (ldq (u := .int .i64 y35) 0 rfl rfl rfl rfl rfl rfl rfl) rfl rfl (decide_eq_false h20) (by kernel_rfl) (qg 22 rfl (cm rfl rfl rfl rfl) rfl rfl (decide_eq_false h20) (by kernel_rfl) (qv 23 rfl (pk (b := false) rfl rfl (decide_eq_false h20) rfl) rfl (by kernel_rfl) (qe [0, 0, 0, 0, 0, 0, 0, 0, 0, 0, 0, 0] (by kernel_rfl) rfl (nx ?_))))))))))))))))))))))))))
      by_cases h37 : y35 < y27
      · refine ct rfl (decide_eq_true h37) (sq (rg (a_ rfl rfl (en (nx (rt (xrb (xr (xr (xrb (xr (ret1 rfl rfl (fun w_ hs_ => ⟨?_, hs_.below⟩)))))))))))))
        exact rb (range_f (k := k) (by omega) (meets1_f2 m28 m36 h37))
      · exact cf rfl (decide_eq_false h37) (sk (xn (nx (rg (vl (ra (c := ((k + 1 : Nat) : Int)) rfl rfl rfl (by omega) (by omega) (by omega)) rfl (m_ rfl rfl (en (lpe (s := k) (k + 1) [8, 8, 8, 8] ⟨by omega, (fun j hj => by rcases Nat.lt_succ_iff_lt_or_eq.1 hj with h_ | rfl; exact hinv j h_; exact meets1_t m11 m19 m28 m36 h20 h37)⟩ (by omega) ⟨rfl, rfl, rfl, rfl, trivial⟩ rfl))))))))
  · refine cf rfl (decide_eq_false h3) (xt (xq (xq (xb (nx (sq (rg (a_ rfl rfl (en (nx (rt (ret1 rfl rfl (fun w_ hs_ => ⟨?_, hs_.below⟩)))))))))))))
    exact rb (range_t (fun j hj => hinv j (by omega)))
/-! spec.l1Meets -/
set_option maxRecDepth 20000 in
set_option maxHeartbeats 2000000 in
theorem spec_l1Meets (w : World) {Aa0 : Option Addr} {ca0 : Nat} {Aa1 : Option Addr} {ca1 : Nat} {a : Rect} {sa_ : List Nat} {pa : Addr} (ha : (ptr kRectS pa [.slice Aa0 a.low.length ca0, .slice Aa1 a.high.length ca1] a sa_).P w) {Ab0 : Option Addr} {cb0 : Nat} {Ab1 : Option Addr} {cb1 : Nat} {b : Rect} {sb_ : List Nat} {pb : Addr} (hb : (ptr kRectS pb [.slice Ab0 b.low.length cb0, .slice Ab1 b.high.length cb1] b sb_).P w) {d : Nat} (yFa : FitR d a) (yFb : FitR d b) : Calls Tryz.prog 84 #[.pointer (some pa), .pointer (some pb)] w (fun e_ w2_ => e_ = .returned (.bool (meetsR a b)) ∧ Below w.heap.size w w2_) := by
  have l1 := yFa.lo; have l2 := yFa.hi; have l3 := yFb.lo; have l4 := yFb.hi
  refine fnc (X := X18 47 w) (args := [.pointer (some pa), .pointer (some pb)]) (l := [(0, .pointer (some pa)), (1, .pointer (some pb))]) (G := [ptr kRectS pb [.slice Ab0 b.low.length cb0, .slice Ab1 b.high.length cb1] b sb_, ptr kRectS pa [.slice Aa0 a.low.length ca0, .slice Aa1 a.high.length ca1] a sa_]) Tryz.func84 rfl rfl rfl ⟨rfl, rfl, trivial⟩ (s0p hb (s0p ha (s0n w))).1 ?_
  refine sq (rg (a_ rfl rfl (en (nx (sq (sq (rg (a_ rfl rfl (en (nx (bk ?_)))))))))))
  refine lp (σ := Nat) (fun k : Nat => [(0, .pointer (some pa)), (1, .pointer (some pb)), (5, .int .i64 ((k : Nat) : Int))])
      (fun k : Nat => [ptr kRectS pb [.slice Ab0 b.low.length cb0, .slice Ab1 b.high.length cb1] b sb_, ptr kRectS pa [.slice Aa0 a.low.length ca0, .slice Aa1 a.high.length ca1] a sa_])
      (fun k : Nat => k ≤ a.low.length ∧ ∀ j, j < k → meets1 a b j = true) (fun k : Nat => a.low.length - k) 0 [0, 0] ⟨Nat.zero_le _, by simp⟩ ⟨rfl, rfl, rfl, trivial⟩ rfl ?_
  intro k hp_
  obtain ⟨hk, hinv⟩ := hp_
  refine sq (sq (rg (m_ rfl rfl (m_ rfl rfl (vl (nc rfl rfl) rfl (vl (fa rfl rfl rfl) rfl (vl (ldp (u := .slice Aa0 a.low.length ca0) 1 rfl rfl rfl rfl rfl rfl rfl) rfl (vl (ln rfl rfl rfl) rfl (vl (cm rfl rfl rfl rfl) rfl (en (nx ?_)))))))))))
  by_cases h1 : ((k : Nat) : Int) < ((a.low.length : Nat) : Int)
  · refine ct rfl (decide_eq_true h1) (sk (nx (sq (bk (sq ?_)))))
    refine gp 1 kRectS_p0_1 rfl (cs' := [.slice Aa0 a.low.length ca0]) rfl fun s2 w_ rs2 us2 => ?_
    have Ls2 := Kd.sl_len rs2; have Cs2 := Kd.sl_cap rs2
    refine gx 0 k rfl (by omega) fun y8 p3 cs_ s4 w7 m9 e5 r6 us4 => ?_
    obtain ⟨rfl, -, -⟩ := r6
    refine gp 2 kRectS_p1_1 rfl (cs' := [.slice Ab1 b.high.length cb1]) rfl fun s10 w_ rs10 us10 => ?_
    have Ls10 := Kd.sl_len rs10; have Cs10 := Kd.sl_cap rs10
    refine gx 0 k rfl (by omega) fun y16 p11 cs_ s12 w15 m17 e13 r14 us12 => ?_
    obtain ⟨rfl, -, -⟩ := r14
    by_cases h18 : y16 < y8
    · refine r0 (qv 0 rfl (mv rfl rfl) rfl (by kernel_rfl) (qv 1 rfl (nc rfl rfl) rfl (by kernel_rfl) (qv 2 rfl (fa rfl rfl rfl) rfl (by kernel_rfl) (qv 3 rfl (ldp (u := .slice Aa0 a.low.length ca0) 5 rfl rfl rfl rfl rfl rfl rfl) rfl (by kernel_rfl) (qv 4 rfl (mv rfl rfl) rfl (by kernel_rfl) (qv 5 rfl (ix k e5 rfl rfl rfl rfl rfl (by omega)) rfl (by kernel_rfl) (qv 6 rfl (ldq (u := .int .i64 y8) 2 rfl rfl rfl rfl rfl rfl rfl) rfl (by kernel_rfl) (qv 7 rfl (mv rfl rfl) rfl (by kernel_rfl) (qv 8 rfl (nc rfl rfl) rfl (by kernel_rfl) (qv 9 rfl (fa rfl rfl rfl) rfl (by kernel_rfl) (qv 10 rfl (ldp (u := .slice Ab1 b.high.length cb1) 4 rfl rfl rfl rfl rfl rfl rfl) rfl (by kernel_rfl) (qv 11 rfl (mv rfl rfl) rfl (by kernel_rfl) (qv 12 rfl (ix k e13 rfl rfl rfl rfl rfl (by omega)) rfl (by kernel_rfl) (qv 13 rfl (ldq (u := .int .i64 y16) 0 rfl rfl rfl rfl rfl rfl rfl) rfl (by kernel_rfl) (qv 14 rfl (cm rfl rfl rfl rfl) rfl (by kernel_rfl) (qv 15 rfl (mv rfl rfl) rfl (by kernel_rfl) (qs 16 rfl rfl rfl (decide_eq_true h18) (by kernel_rfl) (qs 17 rfl rfl rfl (decide_eq_true h18) (by kernel_rfl) (qs 18 rfl rfl rfl (decide_eq_true h18) (by kernel_rfl) (qs 19 rfl rfl rfl (decide_eq_true h18) (by kernel_rfl) (qs 20 rfl rfl rfl (decide_eq_true h18) (by kernel_rfl) (qs 21 rfl rfl rfl (decide_eq_true h18) (by kernel_rfl) (qs 22 rfl rfl rfl (decide_eq_true h18) (by kernel_rfl) (qs 23 rfl rfl rfl (decide_eq_true h18) (by kernel_rfl) (qs 24 rfl rfl rfl (decide_eq_true h18) (by kernel_rfl) (qs 25 rfl rfl rfl (decide_eq_true h18) (by kernel_rfl) (qs 26 rfl rfl rfl (decide_eq_true h18) (by kernel_rfl) (qs 27 rfl rfl rfl (decide_eq_true h18) (by kernel_rfl) (qs 28 rfl rfl rfl (decide_eq_true h18) (by kernel_rfl) (qs 29 rfl rfl rfl (decide_eq_true h18) (by kernel_rfl) (qs 30 rfl rfl rfl (decide_eq_true h18) (by kernel_rfl) (qv 31 rfl (pk (b := true) rfl rfl (decide_eq_true h18) rfl) rfl (by kernel_rfl) (qe [0, 0, 0, 0, 0, 0] (by kernel_rfl) rfl (nx (ct rfl rfl (sq (rg (a_ rfl rfl (en (nx (rt (xrb (xr (xr (xrb (xr (ret1 rfl rfl (fun w_ hs_ => ⟨?_, hs_.below⟩))))))))))))))))))))))))))))))))))))))))))))))))
      exact rb (range_f (k := k) (by omega) (meets1_f1 m9 m17 h18))
    · refine gp 4 kRectS_p0_1 rfl (cs' := [.slice Ab0 b.low.length cb0]) rfl fun s19 w_ rs19 us19 => ?_
      have Ls19 := Kd.sl_len rs19; have Cs19 := Kd.sl_cap rs19
      refine gx 0 k rfl (by omega) fun y25 p20 cs_ s21 w24 m26 e22 r23 us21 => ?_
      obtain ⟨rfl, -, -⟩ := r23
      refine gp 7 kRectS_p1_1 rfl (cs' := [.slice Aa1 a.high.length ca1]) rfl fun s27 w_ rs27 us27 => ?_
      have Ls27 := Kd.sl_len rs27; have Cs27 := Kd.sl_cap rs27
      refine gx 0 k rfl (by omega) fun y33 p28 cs_ s29 w32 m34 e30 r31 us29 => ?_
      obtain ⟨rfl, -, -⟩ := r31
      refine r0 (qv 0 rfl (mv rfl rfl) rfl (by kernel_rfl) (qv 1 rfl (nc rfl rfl) rfl (by kernel_rfl) (qv 2 rfl (fa rfl rfl rfl) rfl (by kernel_rfl) (qv 3 rfl (ldp (u := .slice Aa0 a.low.length ca0) 9 rfl rfl rfl rfl rfl rfl rfl) rfl (by kernel_rfl) (qv 4 rfl (mv rfl rfl) rfl (by kernel_rfl) (qv 5 rfl (ix k e5 rfl rfl rfl rfl rfl (by omega)) rfl (by kernel_rfl) (qv 6 rfl (ldq (u := .int .i64 y8) 6 rfl rfl rfl rfl rfl rfl rfl) rfl (by kernel_rfl) (qv 7 rfl (mv rfl rfl) rfl (by kernel_rfl) (qv 8 rfl (nc rfl rfl) rfl (by kernel_rfl) (qv 9 rfl (fa rfl rfl rfl) rfl (by kernel_rfl) (qv 10 rfl (ldp (u := .slice Ab1 b.high.length cb1) 8 rfl rfl rfl rfl rfl rfl rfl) rfl (by kernel_rfl) (qv 11 rfl (mv rfl rfl) rfl (by kernel_rfl) (qv 12 rfl (ix k e13 rfl rfl rfl rfl rfl (by omega)) rfl (by kernel_rfl) (qv 13 rfl (ldq (u := .int .i64 y16) 4 rfl rfl rfl rfl rfl rfl rfl) rfl (by kernel_rfl) (qv 14 rfl (cm rfl rfl rfl rfl) rfl (by kernel_rfl) (qv 15 rfl (mv rfl rfl) rfl (by kernel_rfl) (qg 16 rfl (mv rfl rfl) rfl rfl (decide_eq_false h18) (by kernel_rfl) (qg 17 rfl (nc rfl rfl) rfl rfl (decide_eq_false h18) (by kernel_rfl) (qg 18 rfl (fa rfl rfl rfl) rfl rfl (decide_eq_false h18) (by kernel_rfl) (qg 19 rfl (ldp (u := .slice Ab0 b.low.length cb0) 8 rfl rfl rfl rfl rfl rfl rfl) rfl rfl (decide_eq_false h18) (by kernel_rfl) (qg 20 rfl (mv rfl rfl) rfl rfl (decide_eq_false h18) (by kernel_rfl) (qg 21 rfl (ix k e22 rfl rfl rfl rfl rfl (by omega)) rfl rfl (decide_eq_false h18) (by kernel_rfl) (qg 22 rfl (ldq (u := .int .i64 y25) 2 rfl rfl rfl rfl rfl rfl rfl) rfl rfl (decide_eq_false h18) (by kernel_rfl) (qg 23 rfl (mv rfl rfl) rfl rfl (decide_eq_false h18) (by kernel_rfl) (qg 24 rfl (nc rfl rfl) rfl rfl (decide_eq_false h18) (by kernel_rfl) (qg 25 rfl (fa rfl rfl rfl) rfl rfl (decide_eq_false h18) (by kernel_rfl) (qg 26 rfl (ldp (u := .slice Aa1 a.high.length ca1) 9 rfl rfl rfl rfl rfl rfl rfl) rfl rfl (decide_eq_false h18) (by kernel_rfl) (qg 27 rfl (mv rfl rfl) rfl rfl (decide_eq_false h18) (by kernel_rfl) (qg 28 rfl (ix k e30 rfl rfl rfl rfl rfl (by omega)) rfl rfl (decide_eq_false h18) (by kernel_rfl) (qg 29 rfl (ldq (u := .int .i64 y33) 0 rfl rfl rfl rfl rfl rfl rfl) rfl rfl (decide_eq_false h18) (by kernel_rfl) (qg 30 rfl (cm rfl rfl rfl rfl) rfl rfl (decide_eq_false h18) (by kernel_rfl) (qv 31 rfl (pk (b := false) rfl rfl (decide_eq_false h18) rfl) rfl (by kernel_rfl) (qe [0, 0, 0, 0, 0, 0, 0, 0, 0, 0] (by kernel_rfl) rfl (nx ?_))))))))))))))))))))))))))))))))))
      by_cases h35 : y33 < y25
      · refine ct rfl (decide_eq_true h35) (sq (rg (a_ rfl rfl (en (nx (rt (xrb (xr (xr (xrb (xr (ret1 rfl rfl (fun w_ hs_ => ⟨?_, hs_.below⟩)))))))))))))
        exact rb (range_f (k := k) (by omega) (meets1_f2 m26 m34 h35))
      · exact cf rfl (decide_eq_false h35) (sk (xn (nx (rg (m_ rfl rfl (vl (ra (c := ((k + 1 : Nat) : Int)) rfl rfl rfl (by omega) (by omega) (by omega)) rfl (a_ rfl rfl (en (lpe (s := k) (k + 1) [8, 8] ⟨by omega, (fun j hj => by rcases Nat.lt_succ_iff_lt_or_eq.1 hj with h_ | rfl; exact hinv j h_; exact meets1_t m9 m17 m26 m34 h18 h35)⟩ (by omega) ⟨rfl, rfl, rfl, trivial⟩ rfl)))))))))
  · refine cf rfl (decide_eq_false h1) (xt (xq (xq (xb (nx (sq (rg (a_ rfl rfl (en (nx (rt (ret1 rfl rfl (fun w_ hs_ => ⟨?_, hs_.below⟩)))))))))))))
    exact rb (range_t (fun j hj => hinv j (by omega)))
/-! impl.covers -/
set_option maxRecDepth 20000 in
set_option maxHeartbeats 2000000 in
theorem impl_covers (w : World) {Aa0 : Option Addr} {ca0 : Nat} {Aa1 : Option Addr} {ca1 : Nat} {a : Rect} {sa_ : List Nat} (ha : kRectS.Rel w [.slice Aa0 a.low.length ca0, .slice Aa1 a.high.length ca1] a [] sa_) {Ab0 : Option Addr} {cb0 : Nat} {Ab1 : Option Addr} {cb1 : Nat} {b : Rect} {sb_ : List Nat} (hb : kRectS.Rel w [.slice Ab0 b.low.length cb0, .slice Ab1 b.high.length cb1] b [] sb_) {d : Nat} (yFa : FitR d a) (yFb : FitR d b) : Calls Tryz.prog 156 #[.agg #[.slice Aa0 a.low.length ca0, .slice Aa1 a.high.length ca1], .agg #[.slice Ab0 b.low.length cb0, .slice Ab1 b.high.length cb1]] w (fun e_ w2_ => e_ = .returned (.bool (coversR a b)) ∧ Below w.heap.size w w2_) := by
  have l1 := yFa.lo; have l2 := yFa.hi; have l3 := yFb.lo; have l4 := yFb.hi
  refine fnc (X := X18 37 w) (args := [.agg #[.slice Aa0 a.low.length ca0, .slice Aa1 a.high.length ca1], .agg #[.slice Ab0 b.low.length cb0, .slice Ab1 b.high.length cb1]]) (l := [(0, .agg #[.slice Aa0 a.low.length ca0, .slice Aa1 a.high.length ca1]), (1, .agg #[.slice Ab0 b.low.length cb0, .slice Ab1 b.high.length cb1])]) (G := [dat kRectS [.slice Ab0 b.low.length cb0, .slice Ab1 b.high.length cb1] b ([]) sb_, dat kRectS [.slice Aa0 a.low.length ca0, .slice Aa1 a.high.length ca1] a ([]) sa_]) Tryz.func156 rfl rfl rfl ⟨rfl, rfl, trivial⟩ (s0d hb (s0d ha (s0n w))).1 ?_
  refine sq (rg (bx rfl rfl rfl rfl ?_))
  intro b1
  refine bx rfl rfl rfl rfl ?_
  intro b2
  refine a_ rfl rfl (en (nx (sq (sq (rg (vl (fa rfl rfl rfl) rfl (vl (ldb (u := .slice Aa0 a.low.length ca0) 1 rfl rfl rfl rfl rfl rfl rfl) rfl (vl (ln rfl rfl rfl) rfl (m_ rfl rfl (en (nx (bk ?_))))))))))))
  refine lp (σ := Nat) (fun k : Nat => [(2, .pointer (some ⟨b1, 0, none⟩)), (3, .pointer (some ⟨b2, 0, none⟩)), (8, .int .i64 ((a.low.length : Nat) : Int)), (9, .int .i64 ((k : Nat) : Int))])
      (fun k : Nat => [blk b2 [.slice Ab0 b.low.length cb0, .slice Ab1 b.high.length cb1] 46, blk b1 [.slice Aa0 a.low.length ca0, .slice Aa1 a.high.length ca1] 46, dat kRectS [.slice Ab0 b.low.length cb0, .slice Ab1 b.high.length cb1] b ([]) sb_, dat kRectS [.slice Aa0 a.low.length ca0, .slice Aa1 a.high.length ca1] a ([]) sa_])
      (fun k : Nat => k ≤ a.low.length ∧ ∀ j, j < k → covers1 a b j = true) (fun k : Nat => a.low.length - k) 0 [0, 0, 0, 0] ⟨Nat.zero_le _, by simp⟩ ⟨rfl, rfl, rfl, rfl, trivial⟩ rfl ?_
  intro k hp_
  obtain ⟨hk, hinv⟩ := hp_
  refine sq (rg (vl (cm rfl rfl rfl rfl) rfl (en (nx (sq ?_)))))
  by_cases h3 : ((k : Nat) : Int) < ((a.low.length : Nat) : Int)
  · refine ct rfl (decide_eq_true h3) (sk (nx (sq (bk (sq (rg (m_ rfl rfl (a_ rfl rfl (en (nx (sq ?_)))))))))))
    refine gd 3 kRectS_p0_1 rfl (cs' := [.slice Aa0 a.low.length ca0]) rfl fun s4 w_ rs4 us4 => ?_
    have Ls4 := Kd.sl_len rs4; have Cs4 := Kd.sl_cap rs4
    refine gx 0 k rfl (by omega) fun y10 p5 cs_ s6 w9 m11 e7 r8 us6 => ?_
    obtain ⟨rfl, -, -⟩ := r8
    refine gd 4 kRectS_p0_1 rfl (cs' := [.slice Ab0 b.low.length cb0]) rfl fun s12 w_ rs12 us12 => ?_
    have Ls12 := Kd.sl_len rs12; have Cs12 := Kd.sl_cap rs12
    refine gx 0 k rfl (by omega) fun y18 p13 cs_ s14 w17 m19 e15 r16 us14 => ?_
    obtain ⟨rfl, -, -⟩ := r16
    by_cases h20 : y18 < y10
    · refine r0 (qv 0 rfl (fa rfl rfl rfl) rfl (by kernel_rfl) (qv 1 rfl (ldb (u := .slice Aa0 a.low.length ca0) 5 rfl rfl rfl rfl rfl rfl rfl) rfl (by kernel_rfl) (qv 2 rfl (mv rfl rfl) rfl (by kernel_rfl) (qv 3 rfl (ix k e7 rfl rfl rfl rfl rfl (by omega)) rfl (by kernel_rfl) (qv 4 rfl (ldq (u := .int .i64 y10) 2 rfl rfl rfl rfl rfl rfl rfl) rfl (by kernel_rfl) (qv 5 rfl (fa rfl rfl rfl) rfl (by kernel_rfl) (qv 6 rfl (ldb (u := .slice Ab0 b.low.length cb0) 4 rfl rfl rfl rfl rfl rfl rfl) rfl (by kernel_rfl) (qv 7 rfl (mv rfl rfl) rfl (by kernel_rfl) (qv 8 rfl (ix k e15 rfl rfl rfl rfl rfl (by omega)) rfl (by kernel_rfl) (qv 9 rfl (ldq (u := .int .i64 y18) 0 rfl rfl rfl rfl rfl rfl rfl) rfl (by kernel_rfl) (qv 10 rfl (cm rfl rfl rfl rfl) rfl (by kernel_rfl) (qv 11 rfl (mv rfl rfl) rfl (by kernel_rfl) (qs 12 rfl rfl rfl (decide_eq_true h20) (by kernel_rfl) (qs 13 rfl rfl rfl (decide_eq_true h20) (by kernel_rfl) (qs 14 rfl rfl rfl (decide_eq_true h20) (by kernel_rfl) (qs 15 rfl rfl rfl (decide_eq_true h20) (by kernel_rfl) (qs 16 rfl rfl rfl (decide_eq_true h20) (by kernel_rfl) (qs 17 rfl rfl rfl (decide_eq_true h20) (by kernel_rfl) (qs 18 rfl rfl rfl (decide_eq_true h20) (by kernel_rfl) (qs 19 rfl rfl rfl (decide_eq_true h20) (by kernel_rfl) (qs 20 rfl rfl rfl (decide_eq_true h20) (by kernel_rfl) (qs 21 rfl rfl rfl (decide_eq_true h20) (by kernel_rfl) (qs 22 rfl rfl rfl (decide_eq_true h20) (by kernel_rfl) (qv 23 rfl (pk (b := true) rfl rfl (decide_eq_true h20) rfl) rfl (by kernel_rfl) (qe [0, 0, 0, 0, 0, 0, 0, 0] (by kernel_rfl) rfl (nx (ct rfl rfl (sq (rg (a_ rfl rfl (en (nx (rt (xrb (xr (xr (xrb (xr (ret1 rfl rfl (fun w_ hs_ => ⟨?_, hs_.below⟩))))))))))))))))))))))))))))))))))))))))
      exact rb (range_f (k := k) (by omega) (covers1_f1 m11 m19 h20))
    · refine gd 7 kRectS_p1_1 rfl (cs' := [.slice Aa1 a.high.length ca1]) rfl fun s21 w_ rs21 us21 => ?_
      have Ls21 := Kd.sl_len rs21; have Cs21 := Kd.sl_cap rs21
      refine gx 0 k rfl (by omega) fun y27 p22 cs_ s23 w26 m28 e24 r25 us23 => ?_
      obtain ⟨rfl, -, -⟩ := r25
      refine gd 8 kRectS_p1_1 rfl (cs' := [.slice Ab1 b.high.length cb1]) rfl fun s29 w_ rs29 us29 => ?_
      have Ls29 := Kd.sl_len rs29; have Cs29 := Kd.sl_cap rs29
      refine gx 0 k rfl (by omega) fun y35 p30 cs_ s31 w34 m36 e32 r33 us31 => ?_
      obtain ⟨rfl, -, -⟩ := r33
      refine r0 (qv 0 rfl (fa rfl rfl rfl) rfl (by kernel_rfl) (qv 1 rfl (ldb (u := .slice Aa0 a.low.length ca0) 9 rfl rfl rfl rfl rfl rfl rfl) rfl (by kernel_rfl) (qv 2 rfl (mv rfl rfl) rfl (by kernel_rfl) (qv 3 rfl (ix k e7 rfl rfl rfl rfl rfl (by omega)) rfl (by kernel_rfl) (qv 4 rfl (ldq (u := .int .i64 y10) 6 rfl rfl rfl rfl rfl rfl rfl) rfl (by kernel_rfl) (qv 5 rfl (fa rfl rfl rfl) rfl (by kernel_rfl) (qv 6 rfl (ldb (u := .slice Ab0 b.low.length cb0) 8 rfl rfl rfl rfl rfl rfl rfl) rfl (by kernel_rfl) (qv 7 rfl (mv rfl rfl) rfl (by kernel_rfl) (qv 8 rfl (ix k e15 rfl rfl rfl rfl rfl (by omega)) rfl (by kernel_rfl) (qv 9 rfl (ldq (u := .int .i64 y18) 4 rfl rfl rfl rfl rfl rfl rfl) rfl (by kernel_rfl) (qv 10 rfl (cm rfl rfl rfl rfl) rfl (by kernel_rfl) (qv 11 rfl (mv rfl rfl) rfl (by kernel_rfl) (qg 12 rfl (fa rfl rfl rfl) rfl rfl (decide_eq_false h20) (by kernel_rfl) (qg 13 rfl (ldb (u := .slice Aa1 a.high.length ca1) 9 rfl rfl rfl rfl rfl rfl rfl) rfl rfl (decide_eq_false h20) (by kernel_rfl) (qg 14 rfl (mv rfl rfl) rfl rfl (decide_eq_false h20) (by kernel_rfl) (qg 15 rfl (ix k e24 rfl rfl rfl rfl rfl (by omega)) rfl rfl (decide_eq_false h20) (by kernel_rfl) (qg 16 rfl (ldq (u := .int .i64 y27) 2 rfl rfl rfl rfl rfl rfl rfl) rfl rfl (decide_eq_false h20) (by kernel_rfl) (qg 17 rfl (fa rfl rfl rfl) rfl rfl (decide_eq_false h20) (by kernel_rfl) (qg 18 rfl (ldb (u := .slice Ab1 b.high.length cb1) 8 rfl rfl rfl rfl rfl rfl rfl) rfl rfl (decide_eq_false h20) (by kernel_rfl) (qg 19 rfl (mv rfl rfl) rfl rfl (decide_eq_false h20) (by kernel_rfl) (qg 20 rfl (ix k e32 rfl rfl rfl rfl rfl (by omega)) rfl rfl (decide_eq_false h20) (by kernel_rfl) (qg 21 rfl (ldq (u := .int .i64 y35) 0 rfl rfl rfl rfl rfl rfl rfl) rfl rfl (decide_eq_false h20) (by kernel_rfl) (qg 22 rfl (cm rfl rfl rfl rfl) rfl rfl (decide_eq_false h20) (by kernel_rfl) (qv 23 rfl (pk (b := false) rfl rfl (decide_eq_false h20) rfl) rfl (by kernel_rfl) (qe [0, 0, 0, 0, 0, 0, 0, 0, 0, 0, 0, 0] (by kernel_rfl) rfl (nx ?_))))))))))))))))))))))))))
      by_cases h37 : y27 < y35
      · refine ct rfl (decide_eq_true h37) (sq (rg (a_ rfl rfl (en (nx (rt (xrb (xr (xr (xrb (xr (ret1 rfl rfl (fun w_ hs_ => ⟨?_, hs_.below⟩)))))))))))))
        exact rb (range_f (k := k) (by omega) (covers1_f2 m36 m28 h37))
      · exact cf rfl (decide_eq_false h37) (sk (xn (nx (rg (vl (ra (c := ((k + 1 : Nat) : Int)) rfl rfl rfl (by omega) (by omega) (by omega)) rfl (m_ rfl rfl (en (lpe (s := k) (k + 1) [8, 8, 8, 8] ⟨by omega, (fun j hj => by rcases Nat.lt_succ_iff_lt_or_eq.1 hj with h_ | rfl; exact hinv j h_; exact covers1_t m11 m19 m36 m28 h20 h37)⟩ (by omega) ⟨rfl, rfl, rfl, rfl, trivial⟩ rfl))))))))
  · refine cf rfl (decide_eq_false h3) (xt (xq (xq (xb (nx (sq (rg (a_ rfl rfl (en (nx (rt (ret1 rfl rfl (fun w_ hs_ => ⟨?_, hs_.below⟩)))))))))))))
    exact rb (range_t (fun j hj => hinv j (by omega)))
/-! spec.l1Covers -/
set_option maxRecDepth 20000 in
set_option maxHeartbeats 2000000 in
theorem spec_l1Covers (w : World) {Aa0 : Option Addr} {ca0 : Nat} {Aa1 : Option Addr} {ca1 : Nat} {a : Rect} {sa_ : List Nat} {pa : Addr} (ha : (ptr kRectS pa [.slice Aa0 a.low.length ca0, .slice Aa1 a.high.length ca1] a sa_).P w) {Ab0 : Option Addr} {cb0 : Nat} {Ab1 : Option Addr} {cb1 : Nat} {b : Rect} {sb_ : List Nat} {pb : Addr} (hb : (ptr kRectS pb [.slice Ab0 b.low.length cb0, .slice Ab1 b.high.length cb1] b sb_).P w) {d : Nat} (yFa : FitR d a) (yFb : FitR d b) : Calls Tryz.prog 85 #[.pointer (some pa), .pointer (some pb)] w (fun e_ w2_ => e_ = .returned (.bool (coversR a b)) ∧ Below w.heap.size w w2_) := by
  have l1 := yFa.lo; have l2 := yFa.hi; have l3 := yFb.lo; have l4 := yFb.hi
  refine fnc (X := X18 47 w) (args := [.pointer (some pa), .pointer (some pb)]) (l := [(0, .pointer (some pa)), (1, .pointer (some pb))]) (G := [ptr kRectS pb [.slice Ab0 b.low.length cb0, .slice Ab1 b.high.length cb1] b sb_, ptr kRectS pa [.slice Aa0 a.low.length ca0, .slice Aa1 a.high.length ca1] a sa_]) Tryz.func85 rfl rfl rfl ⟨rfl, rfl, trivial⟩ (s0p hb (s0p ha (s0n w))).1 ?_
  refine sq (rg (a_ rfl rfl (en (nx (sq (sq (rg (a_ rfl rfl (en (nx (bk ?_)))))))))))
  refine lp (σ := Nat) (fun k : Nat => [(0, .pointer (some pa)), (1, .pointer (some pb)), (5, .int .i64 ((k : Nat) : Int))])
      (fun k : Nat => [ptr kRectS pb [.slice Ab0 b.low.length cb0, .slice Ab1 b.high.length cb1] b sb_, ptr kRectS pa [.slice Aa0 a.low.length ca0, .slice Aa1 a.high.length ca1] a sa_])
      (fun k : Nat => k ≤ a.low.length ∧ ∀ j, j < k → covers1 a b j = true) (fun k : Nat => a.low.length - k) 0 [0, 0] ⟨Nat.zero_le _, by simp⟩ ⟨rfl, rfl, rfl, trivial⟩ rfl ?_
  intro k hp_
  obtain ⟨hk, hinv⟩ := hp_
  refine sq (sq (rg (m_ rfl rfl (m_ rfl rfl (vl (nc rfl rfl) rfl (vl (fa rfl rfl rfl) rfl (vl (ldp (u := .slice Aa0 a.low.length ca0) 1 rfl rfl rfl rfl rfl rfl rfl) rfl (vl (ln rfl rfl rfl) rfl (vl (cm rfl rfl rfl rfl) rfl (en (nx ?_)))))))))))
  by_cases h1 : ((k : Nat) : Int) < ((a.low.length : Nat) : Int)
  · refine ct rfl (decide_eq_true h1) (sk (nx (sq (bk (sq ?_)))))
    refine gp 1 kRectS_p0_1 rfl (cs' := [.slice Aa0 a.low.length ca0]) rfl fun s2 w_ rs2 us2 => ?_
    have Ls2 := Kd.sl_len rs2; have Cs2 := Kd.sl_cap rs2
    refine gx 0 k rfl (by omega) fun y8 p3 cs_ s4 w7 m9 e5 r6 us4 => ?_
    obtain ⟨rfl, -, -⟩ := r6
    refine gp 2 kRectS_p0_1 rfl (cs' := [.slice Ab0 b.low.length cb0]) rfl fun s10 w_ rs10 us10 => ?_
    have Ls10 := Kd.sl_len rs10; have Cs10 := Kd.sl_cap rs10
    refine gx 0 k rfl (by omega) fun y16 p11 cs_ s12 w15 m17 e13 r14 us12 => ?_
    obtain ⟨rfl, -, -⟩ := r14
    by_cases h18 : y16 < y8
    · refine r0 (qv 0 rfl (mv rfl rfl) rfl (by kernel_rfl) (qv 1 rfl (nc rfl rfl) rfl (by kernel_rfl) (qv 2 rfl (fa rfl rfl rfl) rfl (by kernel_rfl) (qv 3 rfl (ldp (u := .slice Aa0 a.low.length ca0) 5 rfl rfl rfl rfl rfl rfl rfl) rfl (by kernel_rfl) (qv 4 rfl (mv rfl rfl) rfl (by kernel_rfl) (qv 5 rfl (ix k e5 rfl rfl rfl rfl rfl (by omega)) rfl (by kernel_rfl) (qv 6 rfl (ldq (u := .int .i64 y8) 2 rfl rfl rfl rfl rfl rfl rfl) rfl (by kernel_rfl) (qv 7 rfl (mv rfl rfl) rfl (by kernel_rfl) (qv 8 rfl (nc rfl rfl) rfl (by kernel_rfl) (qv 9 rfl (fa rfl rfl rfl) rfl (by kernel_rfl) (qv 10 rfl (ldp (u := .slice Ab0 b.low.length cb0) 4 rfl rfl rfl rfl rfl rfl rfl) rfl (by kernel_rfl) (qv 11 rfl (mv rfl rfl) rfl (by kernel_rfl) (qv 12 rfl (ix k e13 rfl rfl rfl rfl rfl (by omega)) rfl (by kernel_rfl) (qv 13 rfl (ldq (u := .int .i64 y16) 0 rfl rfl rfl rfl rfl rfl rfl) rfl (by kernel_rfl) (qv 14 rfl (cm rfl rfl rfl rfl) rfl (by kernel_rfl) (qv 15 rfl (mv rfl rfl) rfl (by kernel_rfl) (qs 16 rfl rfl rfl (decide_eq_true h18) (by kernel_rfl) (qs 17 rfl rfl rfl (decide_eq_true h18) (by kernel_rfl) (qs 18 rfl rfl rfl (decide_eq_true h18) (by kernel_rfl) (qs 19 rfl rfl rfl (decide_eq_true h18) (by kernel_rfl) (qs 20 rfl rfl rfl (decide_eq_true h18) (by kernel_rfl) (qs 21 rfl rfl rfl (decide_eq_true h18) (by kernel_rfl) (qs 22 rfl rfl rfl (decide_eq_true h18) (by kernel_rfl) (qs 23 rfl rfl rfl (decide_eq_true h18) (by kernel_rfl) (qs 24 rfl rfl rfl (decide_eq_true h18) (by kernel_rfl) (qs 25 rfl rfl rfl (decide_eq_true h18) (by kernel_rfl) (qs 26 rfl rfl rfl (decide_eq_true h18) (by kernel_rfl) (qs 27 rfl rfl rfl (decide_eq_true h18) (by kernel_rfl) (qs 28 rfl rfl rfl (decide_eq_true h18) (by kernel_rfl) (qs 29 rfl rfl rfl (decide_eq_true h18) (by kernel_rfl) (qs 30 rfl rfl rfl (decide_eq_true h18) (by kernel_rfl) (qv 31 rfl (pk (b := true) rfl rfl (decide_eq_true h18) rfl) rfl (by kernel_rfl) (qe [0, 0, 0, 0, 0, 0] (by kernel_rfl) rfl (nx (ct rfl rfl (sq (rg (a_ rfl rfl (en (nx (rt (xrb (xr (xr (xrb (xr (ret1 rfl rfl (fun w_ hs_ => ⟨?_, hs_.below⟩))))))))))))))))))))))))))))))))))))))))))))))))
      exact rb (range_f (k := k) (by omega) (covers1_f1 m9 m17 h18))
    · refine gp 5 kRectS_p1_1 rfl (cs' := [.slice Aa1 a.high.length ca1]) rfl fun s19 w_ rs19 us19 => ?_
      have Ls19 := Kd.sl_len rs19; have Cs19 := Kd.sl_cap rs19
      refine gx 0 k rfl (by omega) fun y25 p20 cs_ s21 w24 m26 e22 r23 us21 => ?_
      obtain ⟨rfl, -, -⟩ := r23
      refine gp 6 kRectS_p1_1 rfl (cs' := [.slice Ab1 b.high.length cb1]) rfl fun s27 w_ rs27 us27 => ?_
      have Ls27 := Kd.sl_len rs27; have Cs27 := Kd.sl_cap rs27
      refine gx 0 k rfl (by omega) fun y33 p28 cs_ s29 w32 m34 e30 r31 us29 => ?_
      obtain ⟨rfl, -, -⟩ := r31
      refine r0 (qv 0 rfl (mv rfl rfl) rfl (by kernel_rfl) (qv 1 rfl (nc rfl rfl) rfl (by kernel_rfl) (qv 2 rfl (fa rfl rfl rfl) rfl (by kernel_rfl) (qv 3 rfl (ldp (u := .slice Aa0 a.low.length ca0) 9 rfl rfl rfl rfl rfl rfl rfl) rfl (by kernel_rfl) (qv 4 rfl (mv rfl rfl) rfl (by kernel_rfl) (qv 5 rfl (ix k e5 rfl rfl rfl rfl rfl (by omega)) rfl (by kernel_rfl) (qv 6 rfl (ldq (u := .int .i64 y8) 6 rfl rfl rfl rfl rfl rfl rfl) rfl (by kernel_rfl) (qv 7 rfl (mv rfl rfl) rfl (by kernel_rfl) (qv 8 rfl (nc rfl rfl) rfl (by kernel_rfl) (qv 9 rfl (fa rfl rfl rfl) rfl (by kernel_rfl) (qv 10 rfl (ldp (u := .slice Ab0 b.low.length cb0) 8 rfl rfl rfl rfl rfl rfl rfl) rfl (by kernel_rfl) (qv 11 rfl (mv rfl rfl) rfl (by kernel_rfl) (qv 12 rfl (ix k e13 rfl rfl rfl rfl rfl (by omega)) rfl (by kernel_rfl) (qv 13 rfl (ldq (u := .int .i64 y16) 4 rfl rfl rfl rfl rfl rfl rfl) rfl (by kernel_rfl) (qv 14 rfl (cm rfl rfl rfl rfl) rfl (by kernel_rfl) (qv 15 rfl (mv rfl rfl) rfl (by kernel_rfl) (qg 16 rfl (mv rfl rfl) rfl rfl (decide_eq_false h18) (by kernel_rfl) (qg 17 rfl (nc rfl rfl) rfl rfl (decide_eq_false h18) (by kernel_rfl) (qg 18 rfl (fa rfl rfl rfl) rfl rfl (decide_eq_false h18) (by kernel_rfl) (qg 19 rfl (ldp (u := .slice Aa1 a.high.length ca1) 9 rfl rfl rfl rfl rfl rfl rfl) rfl rfl (decide_eq_false h18) (by kernel_rfl) (qg 20 rfl (mv rfl rfl) rfl rfl (decide_eq_false h18) (by kernel_rfl) (qg 21 rfl (ix k e22 rfl rfl rfl rfl rfl (by omega)) rfl rfl (decide_eq_false h18) (by kernel_rfl) (qg 22 rfl (ldq (u := .int .i64 y25) 2 rfl rfl rfl rfl rfl rfl rfl) rfl rfl (decide_eq_false h18) (by kernel_rfl) (qg 23 rfl (mv rfl rfl) rfl rfl (decide_eq_false h18) (by kernel_rfl) (qg 24 rfl (nc rfl rfl) rfl rfl (decide_eq_false h18) (by kernel_rfl) (qg 25 rfl (fa rfl rfl rfl) rfl rfl (decide_eq_false h18) (by kernel_rfl) (qg 26 rfl (ldp (u := .slice Ab1 b.high.length cb1) 8 rfl rfl rfl rfl rfl rfl rfl) rfl rfl (decide_eq_false h18) (by kernel_rfl) (qg 27 rfl (mv rfl rfl) rfl rfl (decide_eq_false h18) (by kernel_rfl) (qg 28 rfl (ix k e30 rfl rfl rfl rfl rfl (by omega)) rfl rfl (decide_eq_false h18) (by kernel_rfl) (qg 29 rfl (ldq (u := .int .i64 y33) 0 rfl rfl rfl rfl rfl rfl rfl) rfl rfl (decide_eq_false h18) (by kernel_rfl) (qg 30 rfl (cm rfl rfl rfl rfl) rfl rfl (decide_eq_false h18) (by kernel_rfl) (qv 31 rfl (pk (b := false) rfl rfl (decide_eq_false h18) rfl) rfl (by kernel_rfl) (qe [0, 0, 0, 0, 0, 0, 0, 0, 0, 0] (by kernel_rfl) rfl (nx ?_))))))))))))))))))))))))))))))))))
      by_cases h35 : y25 < y33
      · refine ct rfl (decide_eq_true h35) (sq (rg (a_ rfl rfl (en (nx (rt (xrb (xr (xr (xrb (xr (ret1 rfl rfl (fun w_ hs_ => ⟨?_, hs_.below⟩)))))))))))))
        exact rb (range_f (k := k) (by omega) (covers1_f2 m34 m26 h35))
      · exact cf rfl (decide_eq_false h35) (sk (xn (nx (rg (m_ rfl rfl (vl (ra (c := ((k + 1 : Nat) : Int)) rfl rfl rfl (by omega) (by omega) (by omega)) rfl (a_ rfl rfl (en (lpe (s := k) (k + 1) [8, 8] ⟨by omega, (fun j hj => by rcases Nat.lt_succ_iff_lt_or_eq.1 hj with h_ | rfl; exact hinv j h_; exact covers1_t m9 m17 m34 m26 h18 h35)⟩ (by omega) ⟨rfl, rfl, rfl, trivial⟩ rfl)))))))))
  · refine cf rfl (decide_eq_false h1) (xt (xq (xq (xb (nx (sq (rg (a_ rfl rfl (en (nx (rt (ret1 rfl rfl (fun w_ hs_ => ⟨?_, hs_.below⟩)))))))))))))
    exact rb (range_t (fun j hj => hinv j (by omega)))
/-! impl.distance -/
set_option maxRecDepth 20000 in
set_option maxHeartbeats 2000000 in
theorem impl_distance (w : World) {Ar0 : Option Addr} {cr0 : Nat} {Ar1 : Option Addr} {cr1 : Nat} {r : Rect} {sr_ : List Nat} (hr : kRectS.Rel w [.slice Ar0 r.low.length cr0, .slice Ar1 r.high.length cr1] r [] sr_) {Ap : Option Addr} {cp : Nat} {p : List Int} {sp_ : List Nat} (hp : (Kd.sl Kd.i64).Rel w [.slice Ap p.length cp] p [] sp_) {d : Nat} (hd : d ≤ 3) (yFr : FitR d r) (yFp : FitP d p) : Calls Tryz.prog 157 #[.agg #[.slice Ar0 r.low.length cr0, .slice Ar1 r.high.length cr1], .slice Ap p.length cp] w (fun e_ w2_ => e_ = .returned (.int .i64 (distR r p)) ∧ Below w.heap.size w w2_) := by
  have Lp := Kd.sl_len hp; have Cp := Kd.sl_cap hp
  have l1 := yFr.lo; have l2 := yFr.hi; have l3 := yFp.len
  refine fnc (X := X18 34 w) (args := [.agg #[.slice Ar0 r.low.length cr0, .slice Ar1 r.high.length cr1], .slice Ap p.length cp]) (l := [(0, .agg #[.slice Ar0 r.low.length cr0, .slice Ar1 r.high.length cr1]), (1, .slice Ap p.length cp)]) (G := [dat (Kd.sl Kd.i64) [.slice Ap p.length cp] p ([]) sp_, dat kRectS [.slice Ar0 r.low.length cr0, .slice Ar1 r.high.length cr1] r ([]) sr_]) Tryz.func157 rfl rfl rfl ⟨rfl, rfl, trivial⟩ (s0d hp (s0d hr (s0n w))).1 ?_
  refine sq (rg (bx rfl rfl rfl rfl ?_))
  intro b1
  refine a_ rfl rfl (en (nx (sq (rg (a_ rfl rfl (en (nx (sq (sq (rg (m_ rfl rfl (vl (ln rfl rfl rfl) rfl (m_ rfl rfl (en (nx (bk ?_))))))))))))))))
  refine lp (σ := Nat × Int) (fun z_ : Nat × Int => match z_ with | (k, v) => [(2, .pointer (some ⟨b1, 0, none⟩)), (5, .int .i64 v), (8, .slice Ap p.length cp), (9, .int .i64 ((p.length : Nat) : Int)), (10, .int .i64 ((k : Nat) : Int))])
      (fun z_ : Nat × Int => match z_ with | (k, v) => [blk b1 [.slice Ar0 r.low.length cr0, .slice Ar1 r.high.length cr1] 46, dat (Kd.sl Kd.i64) [.slice Ap p.length cp] p ([]) sp_, dat kRectS [.slice Ar0 r.low.length cr0, .slice Ar1 r.high.length cr1] r ([]) sr_])
      (fun z_ : Nat × Int => match z_ with | (k, v) => k ≤ p.length ∧ v = distTo r p k) (fun z_ : Nat × Int => match z_ with | (k, v) => p.length - k) (0, 0) [0, 0, 0] ⟨Nat.zero_le _, rfl⟩ ⟨rfl, rfl, rfl, rfl, rfl, trivial⟩ rfl ?_
  rintro ⟨k, v⟩ hp_
  obtain ⟨hk, hv⟩ := hp_; have zk := distTo_b yFr yFp k (by omega)
  refine sq (rg (vl (cm rfl rfl rfl rfl) rfl (en (nx (sq ?_)))))
  by_cases h2 : ((k : Nat) : Int) < ((p.length : Nat) : Int)
  · refine ct rfl (decide_eq_true h2) (sk (nx (sq (bk (sq (rg (m_ rfl rfl ?_)))))))
    refine gx 1 k rfl (by omega) fun y8 p3 cs_ s4 w7 m9 e5 r6 us4 => ?_
    obtain ⟨rfl, -, -⟩ := r6
    have zby8 := yFp.bnd.at m9
    refine vl (ix k e5 rfl rfl rfl rfl rfl (by omega)) rfl (vl (ldq (u := .int .i64 y8) 0 rfl rfl rfl rfl rfl rfl rfl) rfl (a_ rfl rfl (a_ rfl rfl (en (nx ?_)))))
    refine gd 3 kRectS_p0_1 rfl (cs' := [.slice Ar0 r.low.length cr0]) rfl fun s10 w_ rs10 us10 => ?_
    have Ls10 := Kd.sl_len rs10; have Cs10 := Kd.sl_cap rs10
    refine gx 0 k rfl (by omega) fun y16 p11 cs_ s12 w15 m17 e13 r14 us12 => ?_
    obtain ⟨rfl, -, -⟩ := r14
    have zby16 := yFr.bl.at m17
    refine gd 5 kRectS_p1_1 rfl (cs' := [.slice Ar1 r.high.length cr1]) rfl fun s18 w_ rs18 us18 => ?_
    have Ls18 := Kd.sl_len rs18; have Cs18 := Kd.sl_cap rs18
    refine gx 0 k rfl (by omega) fun y24 p19 cs_ s20 w23 m25 e21 r22 us20 => ?_
    obtain ⟨rfl, -, -⟩ := r22
    have zby24 := yFr.bh.at m25
    have zle := yFr.le k _ _ m17 m25; have zm := dist1_max (n := y8) zle; have zt := dist1_two (n := y8) zle; have zo := distTo_on m17 m25 m9; have zd := dist1_b zby16 zby24 zby8; have zg1 : 0 ≤ gmax (y16 - y8) 0 := (by unfold gmax; split <;> omega); have zg2 : 0 ≤ gmax (y8 - y24) 0 := (by unfold gmax; split <;> omega)
    exact r0 (qv 0 rfl (mv rfl rfl) rfl (by kernel_rfl) (qv 1 rfl (fa rfl rfl rfl) rfl (by kernel_rfl) (qv 2 rfl (ldb (u := .slice Ar0 r.low.length cr0) 5 rfl rfl rfl rfl rfl rfl rfl) rfl (by kernel_rfl) (qv 3 rfl (mv rfl rfl) rfl (by kernel_rfl) (qv 4 rfl (ix k e13 rfl rfl rfl rfl rfl (by omega)) rfl (by kernel_rfl) (qv 5 rfl (ldq (u := .int .i64 y16) 2 rfl rfl rfl rfl rfl rfl rfl) rfl (by kernel_rfl) (qv 6 rfl (mv rfl rfl) rfl (by kernel_rfl) (qv 7 rfl (rs (c := y16 - y8) rfl rfl rfl rfl (by omega) (by omega)) rfl (by kernel_rfl) (qv 8 rfl (mv rfl rfl) rfl (by kernel_rfl) (qv 9 rfl (fa rfl rfl rfl) rfl (by kernel_rfl) (qv 10 rfl (ldb (u := .slice Ar1 r.high.length cr1) 5 rfl rfl rfl rfl rfl rfl rfl) rfl (by kernel_rfl) (qv 11 rfl (mv rfl rfl) rfl (by kernel_rfl) (qv 12 rfl (ix k e21 rfl rfl rfl rfl rfl (by omega)) rfl (by kernel_rfl) (qv 13 rfl (ldq (u := .int .i64 y24) 0 rfl rfl rfl rfl rfl rfl rfl) rfl (by kernel_rfl) (qv 14 rfl (rs (c := y8 - y24) rfl rfl rfl rfl (by omega) (by omega)) rfl (by kernel_rfl) (qv 15 rfl (mx3 rfl rfl rfl rfl) rfl (by kernel_rfl) (qv 16 rfl (ra (c := v + (gmax (gmax 0 (y16 - y8)) (y8 - y24))) rfl rfl rfl rfl (by omega) (by omega)) rfl (by kernel_rfl) (qv 17 rfl (as_ rfl rfl) rfl (by kernel_rfl) (qe [0, 0, 0, 0, 0, 0, 0, 0] (by kernel_rfl) rfl (xn (nx (rg (vl (ra (c := ((k + 1 : Nat) : Int)) rfl rfl rfl (by omega) (by omega) (by omega)) rfl (m_ rfl rfl (en (lpe (s := (k, v)) (k + 1, v + (gmax (gmax 0 (y16 - y8)) (y8 - y24))) [5, 5, 5] ⟨by omega, by omega⟩ (by show p.length - (k + 1) < p.length - k; omega) ⟨rfl, rfl, rfl, rfl, rfl, trivial⟩ rfl))))))))))))))))))))))))))
  · refine cf rfl (decide_eq_false h2) (xt (xq (xq (xb (nx (sq (rg (m_ rfl rfl (a_ rfl rfl (en (nx (rt (ret1 rfl rfl (fun w_ hs_ => ⟨?_, hs_.below⟩))))))))))))))
    exact ri (by unfold distR; rw [hv]; congr 1; omega)
/-! spec.l1Dist -/
set_option maxRecDepth 20000 in
set_option maxHeartbeats 2000000 in
theorem spec_l1Dist (w : World) {Ar0 : Option Addr} {cr0 : Nat} {Ar1 : Option Addr} {cr1 : Nat} {r : Rect} {sr_ : List Nat} {pr : Addr} (hr : (ptr kRectS pr [.slice Ar0 r.low.length cr0, .slice Ar1 r.high.length cr1] r sr_).P w) {Ap : Option Addr} {cp : Nat} {p : List Int} {sp_ : List Nat} (hp : (Kd.sl Kd.i64).Rel w [.slice Ap p.length cp] p [] sp_) {d : Nat} (hd : d ≤ 3) (yFr : FitR d r) (yFp : FitP d p) : Calls Tryz.prog 86 #[.pointer (some pr), .slice Ap p.length cp] w (fun e_ w2_ => e_ = .returned (.int .i64 (distR r p)) ∧ Below w.heap.size w w2_) := by
  have Lp := Kd.sl_len hp; have Cp := Kd.sl_cap hp
  have l1 := yFr.lo; have l2 := yFr.hi; have l3 := yFp.len
  refine fnc (X := X18 46 w) (args := [.pointer (some pr), .slice Ap p.length cp]) (l := [(0, .pointer (some pr)), (1, .slice Ap p.length cp)]) (G := [dat (Kd.sl Kd.i64) [.slice Ap p.length cp] p ([]) sp_, ptr kRectS pr [.slice Ar0 r.low.length cr0, .slice Ar1 r.high.length cr1] r sr_]) Tryz.func86 rfl rfl rfl ⟨rfl, rfl, trivial⟩ (s0d hp (s0p hr (s0n w))).1 ?_
  refine sq (rg (a_ rfl rfl (en (nx (sq (rg (a_ rfl rfl (en (nx (sq (sq (rg (a_ rfl rfl (en (nx (bk ?_))))))))))))))))
  refine lp (σ := Nat × Int) (fun z_ : Nat × Int => match z_ with | (k, v) => [(0, .pointer (some pr)), (1, .slice Ap p.length cp), (5, .int .i64 v), (6, .int .i64 ((k : Nat) : Int))])
      (fun z_ : Nat × Int => match z_ with | (k, v) => [dat (Kd.sl Kd.i64) [.slice Ap p.length cp] p ([]) sp_, ptr kRectS pr [.slice Ar0 r.low.length cr0, .slice Ar1 r.high.length cr1] r sr_])
      (fun z_ : Nat × Int => match z_ with | (k, v) => k ≤ r.low.length ∧ v = distTo r p k) (fun z_ : Nat × Int => match z_ with | (k, v) => r.low.length - k) (0, 0) [0, 0] ⟨Nat.zero_le _, rfl⟩ ⟨rfl, rfl, rfl, rfl, trivial⟩ rfl ?_
  rintro ⟨k, v⟩ hp_
  obtain ⟨hk, hv⟩ := hp_; have zk := distTo_b yFr yFp k (by omega)
  refine sq (sq (rg (m_ rfl rfl (m_ rfl rfl (vl (nc rfl rfl) rfl (vl (fa rfl rfl rfl) rfl (vl (ldp (u := .slice Ar0 r.low.length cr0) 1 rfl rfl rfl rfl rfl rfl rfl) rfl (vl (ln rfl rfl rfl) rfl (vl (cm rfl rfl rfl rfl) rfl (en (nx ?_)))))))))))
  by_cases h1 : ((k : Nat) : Int) < ((r.low.length : Nat) : Int)
  · refine ct rfl (decide_eq_true h1) (sk (nx (sq (bk ?_))))
    refine gp 1 kRectS_p0_1 rfl (cs' := [.slice Ar0 r.low.length cr0]) rfl fun s2 w_ rs2 us2 => ?_
    have Ls2 := Kd.sl_len rs2; have Cs2 := Kd.sl_cap rs2
    refine gx 0 k rfl (by omega) fun y8 p3 cs_ s4 w7 m9 e5 r6 us4 => ?_
    obtain ⟨rfl, -, -⟩ := r6
    have zby8 := yFr.bl.at m9
    refine gx 2 k rfl (by omega) fun y15 p10 cs_ s11 w14 m16 e12 r13 us11 => ?_
    obtain ⟨rfl, -, -⟩ := r13
    have zby15 := yFp.bnd.at m16
    refine gp 4 kRectS_p1_1 rfl (cs' := [.slice Ar1 r.high.length cr1]) rfl fun s17 w_ rs17 us17 => ?_
    have Ls17 := Kd.sl_len rs17; have Cs17 := Kd.sl_cap rs17
    refine gx 0 k rfl (by omega) fun y23 p18 cs_ s19 w22 m24 e20 r21 us19 => ?_
    obtain ⟨rfl, -, -⟩ := r21
    have zby23 := yFr.bh.at m24
    have zle := yFr.le k _ _ m9 m24; have zm := dist1_max (n := y15) zle; have zt := dist1_two (n := y15) zle; have zo := distTo_on m9 m24 m16; have zd := dist1_b zby8 zby23 zby15; have zg1 : 0 ≤ gmax (y8 - y15) 0 := (by unfold gmax; split <;> omega); have zg2 : 0 ≤ gmax (y15 - y23) 0 := (by unfold gmax; split <;> omega)
    exact r0 (qv 0 rfl (mv rfl rfl) rfl (by kernel_rfl) (qv 1 rfl (mv rfl rfl) rfl (by kernel_rfl) (qv 2 rfl (nc rfl rfl) rfl (by kernel_rfl) (qv 3 rfl (fa rfl rfl rfl) rfl (by kernel_rfl) (qv 4 rfl (ldp (u := .slice Ar0 r.low.length cr0) 6 rfl rfl rfl rfl rfl rfl rfl) rfl (by kernel_rfl) (qv 5 rfl (mv rfl rfl) rfl (by kernel_rfl) (qv 6 rfl (ix k e5 rfl rfl rfl rfl rfl (by omega)) rfl (by kernel_rfl) (qv 7 rfl (ldq (u := .int .i64 y8) 3 rfl rfl rfl rfl rfl rfl rfl) rfl (by kernel_rfl) (qv 8 rfl (mv rfl rfl) rfl (by kernel_rfl) (qv 9 rfl (mv rfl rfl) rfl (by kernel_rfl) (qv 10 rfl (ix k e12 rfl rfl rfl rfl rfl (by omega)) rfl (by kernel_rfl) (qv 11 rfl (ldq (u := .int .i64 y15) 2 rfl rfl rfl rfl rfl rfl rfl) rfl (by kernel_rfl) (qv 12 rfl (rs (c := y8 - y15) rfl rfl rfl rfl (by omega) (by omega)) rfl (by kernel_rfl) (qv 15 rfl (mv rfl rfl) rfl (by kernel_rfl) (qv 16 rfl (mv rfl rfl) rfl (by kernel_rfl) (qv 17 rfl (ix k e12 rfl rfl rfl rfl rfl (by omega)) rfl (by kernel_rfl) (qv 18 rfl (ldq (u := .int .i64 y15) 2 rfl rfl rfl rfl rfl rfl rfl) rfl (by kernel_rfl) (qv 19 rfl (mv rfl rfl) rfl (by kernel_rfl) (qv 20 rfl (nc rfl rfl) rfl (by kernel_rfl) (qv 21 rfl (fa rfl rfl rfl) rfl (by kernel_rfl) (qv 22 rfl (ldp (u := .slice Ar1 r.high.length cr1) 6 rfl rfl rfl rfl rfl rfl rfl) rfl (by kernel_rfl) (qv 23 rfl (mv rfl rfl) rfl (by kernel_rfl) (qv 24 rfl (ix k e20 rfl rfl rfl rfl rfl (by omega)) rfl (by kernel_rfl) (qv 25 rfl (ldq (u := .int .i64 y23) 0 rfl rfl rfl rfl rfl rfl rfl) rfl (by kernel_rfl) (qv 26 rfl (rs (c := y15 - y23) rfl rfl rfl rfl (by omega) (by omega)) rfl (by kernel_rfl) (q1 13 [0, 0, 0, 0, 0, 0, 0] rfl (by kernel_rfl) rfl (cs_ (v := .int .i64 (gmax (y8 - y15) 0)) (by kernel_rfl) rfl rfl rfl (fun w_ hs_ => by exact spec_l1Max w_ _ _) (qn (qv 14 rfl (ra (c := v + (gmax (y8 - y15) 0)) rfl rfl rfl rfl (by omega) (by omega)) rfl (by kernel_rfl) (q1 27 [0, 0, 0, 0, 0, 0, 0] rfl (by kernel_rfl) rfl (cs_ (v := .int .i64 (gmax (y15 - y23) 0)) (by kernel_rfl) rfl rfl rfl (fun w_ hs_ => by exact spec_l1Max w_ _ _) (qn (qv 28 rfl (ra (c := v + (gmax (y8 - y15) 0) + (gmax (y15 - y23) 0)) rfl rfl rfl rfl (by omega) (by omega)) rfl (by kernel_rfl) (qv 29 rfl (as_ rfl rfl) rfl (by kernel_rfl) (qe [0, 0, 0, 0, 0, 0, 0] (by kernel_rfl) rfl (xn (nx (rg (m_ rfl rfl (vl (ra (c := ((k + 1 : Nat) : Int)) rfl rfl rfl (by omega) (by omega) (by omega)) rfl (a_ rfl rfl (en (lpe (s := (k, v)) (k + 1, v + (gmax (y8 - y15) 0) + (gmax (y15 - y23) 0)) [5, 5] ⟨by omega, by omega⟩ (by show r.low.length - (k + 1) < r.low.length - k; omega) ⟨rfl, rfl, rfl, rfl, trivial⟩ rfl)))))))))))))))))))))))))))))))))))))))))))
  · refine cf rfl (decide_eq_false h1) (xt (xq (xq (xb (nx (sq (rg (m_ rfl rfl (a_ rfl rfl (en (nx (rt (ret1 rfl rfl (fun w_ hs_ => ⟨?_, hs_.below⟩))))))))))))))
    exact ri (by unfold distR; rw [hv]; congr 1; omega)
/-! (impl.Query).matches -/
set_option maxRecDepth 20000 in
set_option maxHeartbeats 2000000 in
theorem impl_Query_matches (w : World) {Aq1 : Option Addr} {cq1 : Nat} {Aq2 : Option Addr} {cq2 : Nat} {Aq3 : Option Addr} {cq3 : Nat} {q : Query} {sq_ : List Nat} (hq : kQueryS.Rel w [.int .i64 q.kind, .slice Aq1 q.rect.low.length cq1, .slice Aq2 q.rect.high.length cq2, .slice Aq3 q.point.length cq3, .int .i64 q.k] q [] sq_) {Ar0 : Option Addr} {cr0 : Nat} {Ar1 : Option Addr} {cr1 : Nat} {r : Rect} {sr_ : List Nat} (hr : kRectS.Rel w [.slice Ar0 r.low.length cr0, .slice Ar1 r.high.length cr1] r [] sr_) {d : Nat} (hd : d ≤ 3) (yFq : FitQ d q) (yFr : FitR d r) : Calls Tryz.prog 111 #[.agg #[.int .i64 q.kind, .slice Aq1 q.rect.low.length cq1, .slice Aq2 q.rect.high.length cq2, .slice Aq3 q.point.length cq3, .int .i64 q.k], .agg #[.slice Ar0 r.low.length cr0, .slice Ar1 r.high.length cr1]] w (fun e_ w2_ => e_ = .returned (.bool (matchQ q r)) ∧ Below w.heap.size w w2_) := by
  refine fnc (X := X18 26 w) (args := [.agg #[.int .i64 q.kind, .slice Aq1 q.rect.low.length cq1, .slice Aq2 q.rect.high.length cq2, .slice Aq3 q.point.length cq3, .int .i64 q.k], .agg #[.slice Ar0 r.low.length cr0, .slice Ar1 r.high.length cr1]]) (l := [(0, .agg #[.int .i64 q.kind, .slice Aq1 q.rect.low.length cq1, .slice Aq2 q.rect.high.length cq2, .slice Aq3 q.point.length cq3, .int .i64 q.k]), (1, .agg #[.slice Ar0 r.low.length cr0, .slice Ar1 r.high.length cr1])]) (G := [dat kRectS [.slice Ar0 r.low.length cr0, .slice Ar1 r.high.length cr1] r ([]) sr_, dat kQueryS [.int .i64 q.kind, .slice Aq1 q.rect.low.length cq1, .slice Aq2 q.rect.high.length cq2, .slice Aq3 q.point.length cq3, .int .i64 q.k] q ([]) sq_]) Tryz.func111 rfl rfl rfl ⟨rfl, rfl, trivial⟩ (s0d hr (s0d hq (s0n w))).1 ?_
  refine sq (rg (bx rfl rfl rfl rfl ?_))
  intro b1
  refine bx rfl rfl rfl rfl ?_
  intro b2
  refine a_ rfl rfl (en (nx (sq (sq (rg (vl (fa rfl rfl rfl) rfl (vl (ldb (u := .int .i64 q.kind) 1 rfl rfl rfl rfl rfl rfl rfl) rfl (en (nx (bk (sq (rg (vl (cm rfl rfl rfl rfl) rfl (a_ rfl rfl (en (nx ?_))))))))))))))))
  by_cases h3 : q.kind = (1 : Int)
  · refine ct rfl (beq_iff_eq.2 h3) (sq (rg (vl (fa rfl rfl rfl) rfl (vl (ldb 1 rfl rfl rfl rfl rfl rfl rfl) rfl (vl (ldb 0 rfl rfl rfl rfl rfl rfl rfl) rfl ?_)))))
    refine gd 3 kQueryS_p1_2 rfl (cs' := [.slice Aq1 q.rect.low.length cq1, .slice Aq2 q.rect.high.length cq2]) rfl fun s4 w_ rs4 us4 => ?_
    refine cs_ (v := .bool (meetsR q.rect r)) (by kernel_rfl) rfl rfl rfl (fun w_ hs_ => impl_meets w_ (hs_.at 0 rfl) (hs_.at 3 rfl) (yFq.rect (by omega)) yFr) (a_ rfl rfl (en (nx (rt (xrb (xr (ret1 rfl rfl (fun w_ hs_ => ⟨?_, hs_.below⟩))))))))
    simp [matchQ, h3]
  · refine cf rfl (beq_eq_false_iff_ne.2 h3) (sq (rg (vl (cm rfl rfl rfl rfl) rfl (a_ rfl rfl (en (nx ?_))))))
    by_cases h5 : q.kind = (2 : Int)
    · refine ct rfl (beq_iff_eq.2 h5) (sq (rg (vl (fa rfl rfl rfl) rfl (vl (ldb 1 rfl rfl rfl rfl rfl rfl rfl) rfl (vl (ldb 0 rfl rfl rfl rfl rfl rfl rfl) rfl ?_)))))
      refine gd 3 kQueryS_p1_2 rfl (cs' := [.slice Aq1 q.rect.low.length cq1, .slice Aq2 q.rect.high.length cq2]) rfl fun s6 w_ rs6 us6 => ?_
      refine cs_ (v := .bool (coversR q.rect r)) (by kernel_rfl) rfl rfl rfl (fun w_ hs_ => impl_covers w_ (hs_.at 0 rfl) (hs_.at 3 rfl) (yFq.rect (by omega)) yFr) (a_ rfl rfl (en (nx (rt (xrb (xr (ret1 rfl rfl (fun w_ hs_ => ⟨?_, hs_.below⟩))))))))
      simp [matchQ, h3, h5]
    · refine cf rfl (beq_eq_false_iff_ne.2 h5) (sq (rg (vl (cm rfl rfl rfl rfl) rfl (a_ rfl rfl (en (nx ?_))))))
      by_cases h7 : q.kind = (3 : Int)
      · refine ct rfl (beq_iff_eq.2 h7) (sq (rg (vl (ldb 0 rfl rfl rfl rfl rfl rfl rfl) rfl (vl (fa rfl rfl rfl) rfl (vl (ldb (u := .slice Aq3 q.point.length cq3) 1 rfl rfl rfl rfl rfl rfl rfl) rfl ?_)))))
        refine gd 3 kQueryS_p3_1 rfl (cs' := [.slice Aq3 q.point.length cq3]) rfl fun s8 w_ rs8 us8 => ?_
        have Ls8 := Kd.sl_len rs8; have Cs8 := Kd.sl_cap rs8
        refine cs_ (v := .int .i64 (distR r q.point)) (by kernel_rfl) rfl rfl rfl (fun w_ hs_ => impl_distance w_ (hs_.at 3 rfl) (hs_.at 0 rfl) hd yFr (yFq.pt (by omega))) (vl (cm rfl rfl rfl rfl) rfl (a_ rfl rfl (en (nx (rt (xrb (xr (ret1 rfl rfl (fun w_ hs_ => ⟨?_, hs_.below⟩)))))))))
        simp [matchQ, h3, h5, h7]
      · refine cf rfl (beq_eq_false_iff_ne.2 h7) (sk (xn (nx (sq (rg (a_ rfl rfl (en (nx (rt (ret1 rfl rfl (fun w_ hs_ => ⟨?_, hs_.below⟩)))))))))))
        simp [matchQ, h3, h5, h7]
/-! spec.l2Matches -/
set_option maxRecDepth 20000 in
set_option maxHeartbeats 2000000 in
theorem spec_l2Matches (w : World) {Aq1 : Option Addr} {cq1 : Nat} {Aq2 : Option Addr} {cq2 : Nat} {Aq3 : Option Addr} {cq3 : Nat} {q : Query} {sq_ : List Nat} {pq : Addr} (hq : (ptr kQueryS pq [.int .i64 q.kind, .slice Aq1 q.rect.low.length cq1, .slice Aq2 q.rect.high.length cq2, .slice Aq3 q.point.length cq3, .int .i64 q.k] q sq_).P w) {Ar0 : Option Addr} {cr0 : Nat} {Ar1 : Option Addr} {cr1 : Nat} {r : Rect} {sr_ : List Nat} {pr : Addr} (hr : (ptr kRectS pr [.slice Ar0 r.low.length cr0, .slice Ar1 r.high.length cr1] r sr_).P w) {d : Nat} (hd : d ≤ 3) (yFq : FitQ d q) (yFr : FitR d r) : Calls Tryz.prog 49 #[.pointer (some pq), .pointer (some pr)] w (fun e_ w2_ => e_ = .returned (.bool (matchQ q r)) ∧ Below w.heap.size w w2_) := by
  refine fnc (X := X18 32 w) (args := [.pointer (some pq), .pointer (some pr)]) (l := [(0, .pointer (some pq)), (1, .pointer (some pr))]) (G := [ptr kRectS pr [.slice Ar0 r.low.length cr0, .slice Ar1 r.high.length cr1] r sr_, ptr kQueryS pq [.int .i64 q.kind, .slice Aq1 q.rect.low.length cq1, .slice Aq2 q.rect.high.length cq2, .slice Aq3 q.point.length cq3, .int .i64 q.k] q sq_]) Tryz.func49 rfl rfl rfl ⟨rfl, rfl, trivial⟩ (s0p hr (s0p hq (s0n w))).1 ?_
  refine sq (rg (a_ rfl rfl (en (nx (sq (sq (rg (m_ rfl rfl (vl (nc rfl rfl) rfl (vl (fa rfl rfl rfl) rfl (vl (ldp (u := .int .i64 q.kind) 1 rfl rfl rfl rfl rfl rfl rfl) rfl (en (nx (bk (sq (rg (vl (cm rfl rfl rfl rfl) rfl (a_ rfl rfl (en (nx ?_))))))))))))))))))))
  by_cases h1 : q.kind = (1 : Int)
  · refine ct rfl (beq_iff_eq.2 h1) (sq (rg (m_ rfl rfl (vl (nc rfl rfl) rfl (vl (fa rfl rfl rfl) rfl (m_ rfl rfl ?_))))))
    refine gq 1 kQueryS_p1_2 rfl (cs' := [.slice Aq1 q.rect.low.length cq1, .slice Aq2 q.rect.high.length cq2]) rfl fun s2 w_ rs2 us2 => ?_
    refine cs_ (v := .bool (meetsR q.rect r)) (by kernel_rfl) rfl rfl rfl (fun w_ hs_ => spec_l1Meets w_ (hs_.at 0 rfl) (hs_.at 1 rfl) (yFq.rect (by omega)) yFr) (a_ rfl rfl (en (nx (rt (xrb (xr (ret1 rfl rfl (fun w_ hs_ => ⟨?_, hs_.below⟩))))))))
    simp [matchQ, h1]
  · refine cf rfl (beq_eq_false_iff_ne.2 h1) (sq (rg (vl (cm rfl rfl rfl rfl) rfl (a_ rfl rfl (en (nx ?_))))))
    by_cases h3 : q.kind = (2 : Int)
    · refine ct rfl (beq_iff_eq.2 h3) (sq (rg (m_ rfl rfl (vl (nc rfl rfl) rfl (vl (fa rfl rfl rfl) rfl (m_ rfl rfl ?_))))))
      refine gq 1 kQueryS_p1_2 rfl (cs' := [.slice Aq1 q.rect.low.length cq1, .slice Aq2 q.rect.high.length cq2]) rfl fun s4 w_ rs4 us4 => ?_
      refine cs_ (v := .bool (coversR q.rect r)) (by kernel_rfl) rfl rfl rfl (fun w_ hs_ => spec_l1Covers w_ (hs_.at 0 rfl) (hs_.at 1 rfl) (yFq.rect (by omega)) yFr) (a_ rfl rfl (en (nx (rt (xrb (xr (ret1 rfl rfl (fun w_ hs_ => ⟨?_, hs_.below⟩))))))))
      simp [matchQ, h1, h3]
    · refine cf rfl (beq_eq_false_iff_ne.2 h3) (sq (rg (vl (cm rfl rfl rfl rfl) rfl (a_ rfl rfl (en (nx ?_))))))
      by_cases h5 : q.kind = (3 : Int)
      · refine ct rfl (beq_iff_eq.2 h5) (sq (rg (m_ rfl rfl (m_ rfl rfl (vl (nc rfl rfl) rfl (vl (fa rfl rfl rfl) rfl (vl (ldp (u := .slice Aq3 q.point.length cq3) 1 rfl rfl rfl rfl rfl rfl rfl) rfl ?_)))))))
        refine gp 1 kQueryS_p3_1 rfl (cs' := [.slice Aq3 q.point.length cq3]) rfl fun s6 w_ rs6 us6 => ?_
        have Ls6 := Kd.sl_len rs6; have Cs6 := Kd.sl_cap rs6
        refine cs_ (v := .int .i64 (distR r q.point)) (by kernel_rfl) rfl rfl rfl (fun w_ hs_ => spec_l1Dist w_ (hs_.at 1 rfl) (hs_.at 0 rfl) hd yFr (yFq.pt (by omega))) (vl (cm rfl rfl rfl rfl) rfl (a_ rfl rfl (en (nx (rt (xrb (xr (ret1 rfl rfl (fun w_ hs_ => ⟨?_, hs_.below⟩)))))))))
        simp [matchQ, h1, h3, h5]
      · refine cf rfl (beq_eq_false_iff_ne.2 h5) (sk (xn (nx (sq (rg (a_ rfl rfl (en (nx (rt (ret1 rfl rfl (fun w_ hs_ => ⟨?_, hs_.below⟩)))))))))))
        simp [matchQ, h1, h3, h5]
def orI (l : List Int) : Int := (l.find? (fun x => x != 0)).getD 0
theorem orI_at {l : List Int} {k : Nat} {y : Int} (h : ∀ j x, j < k → l[j]? = some x → x = 0) (hy : l[k]? = some y) (hn : ¬ y = 0) : y = orI l := by
  unfold orI
  have h1 : l.find? (fun x => x != 0) = some y := by
    rw [List.find?_eq_some_iff_getElem]
    obtain ⟨hk, rfl⟩ := List.getElem?_eq_some_iff.1 hy
    refine ⟨by simpa using hn, k, hk, rfl, fun j hj => ?_⟩
    have := h j l[j] hj (List.getElem?_eq_getElem (by omega))
    simp [this]
  rw [h1]; rfl
theorem orI_0 {l : List Int} {k : Nat} (h : ∀ j x, j < k → l[j]? = some x → x = 0) (hk : l.length ≤ k) : 0 = orI l := by
  unfold orI
  have h1 : l.find? (fun x => x != 0) = none := by
    rw [List.find?_eq_none]
    intro x hx
    obtain ⟨j, hj⟩ := List.getElem?_of_mem hx
    have := h j x (by have := (List.getElem?_eq_some_iff.1 hj).1; omega) hj
    simp [this]
  rw [h1]; rfl
theorem orI_two (a b : Int) : orI [a, b] = if a = 0 then b else a := by
  unfold orI
  by_cases h : a = 0
  · subst h
    by_cases h2 : b = 0
    · subst h2; rfl
    · rw [if_pos rfl, List.find?_cons_of_neg (by simp), List.find?_cons_of_pos (by simpa using h2)]; rfl
  · rw [if_neg h, List.find?_cons_of_pos (by simpa using h)]; rfl
/-! cmp.Or[int] -/
set_option maxRecDepth 20000 in
set_option maxHeartbeats 2000000 in
theorem cmp_Or_int (w : World) {Avals : Option Addr} {cvals : Nat} {vals : List Int} {svals_ : List Nat} (hvals : (Kd.sl Kd.i64).Rel w [.slice Avals vals.length cvals] vals [] svals_)  : Calls Tryz.prog 159 #[.slice Avals vals.length cvals] w (fun e_ w2_ => e_ = .returned (.int .i64 (orI vals)) ∧ Below w.heap.size w w2_) := by
  have Lvals := Kd.sl_len hvals; have Cvals := Kd.sl_cap hvals
  refine fnc (X := X18 18 w) (args := [.slice Avals vals.length cvals]) (l := [(0, .slice Avals vals.length cvals)]) (G := [dat (Kd.sl Kd.i64) [.slice Avals vals.length cvals] vals ([]) svals_]) Tryz.func159 rfl rfl rfl ⟨rfl, trivial⟩ (s0d hvals (s0n w)).1 ?_
  refine sq (rg (a_ rfl rfl (en (nx (sq (rg (a_ rfl rfl (en (nx (sq (sq (rg (m_ rfl rfl (vl (ln rfl rfl rfl) rfl (m_ rfl rfl (en (nx (bk ?_))))))))))))))))))
  refine lp (σ := Nat) (fun k : Nat => [(3, .int .i64 0), (6, .slice Avals vals.length cvals), (7, .int .i64 ((vals.length : Nat) : Int)), (8, .int .i64 ((k : Nat) : Int))])
      (fun k : Nat => [dat (Kd.sl Kd.i64) [.slice Avals vals.length cvals] vals ([]) svals_])
      (fun k : Nat => k ≤ vals.length ∧ ∀ j x, j < k → vals[j]? = some x → x = 0) (fun k : Nat => vals.length - k) 0 [0] ⟨Nat.zero_le _, by simp⟩ ⟨rfl, rfl, rfl, rfl, trivial⟩ rfl ?_
  intro k hp_
  obtain ⟨hk, hinv⟩ := hp_
  refine sq (rg (vl (cm rfl rfl rfl rfl) rfl (en (nx (sq ?_)))))
  by_cases h1 : ((k : Nat) : Int) < ((vals.length : Nat) : Int)
  · refine ct rfl (decide_eq_true h1) (sk (nx (sq (bk (sq (rg ?_))))))
    refine gx 0 k rfl (by omega) fun y7 p2 cs_ s3 w6 m8 e4 r5 us3 => ?_
    obtain ⟨rfl, -, -⟩ := r5
    refine vl (ix k e4 rfl rfl rfl rfl rfl (by omega)) rfl (vl (ldq (u := .int .i64 y7) 0 rfl rfl rfl rfl rfl rfl rfl) rfl (a_ rfl rfl (en (nx (sq (rg (m_ rfl rfl (m_ rfl rfl (vl (cm rfl rfl rfl rfl) rfl (en (nx ?_)))))))))))
    by_cases h9 : y7 = (0 : Int)
    · exact cf rfl (bne_eq_false_iff_eq.2 h9) (sk (xn (nx (rg (vl (ra (c := ((k + 1 : Nat) : Int)) rfl rfl rfl (by omega) (by omega) (by omega)) rfl (m_ rfl rfl (en (lpe (s := k) (k + 1) [1] ⟨by omega, true_stepP hinv m8 h9⟩ (by omega) ⟨rfl, rfl, rfl, rfl, trivial⟩ rfl))))))))
    · refine ct rfl (bne_iff_ne.2 h9) (sq (rg (m_ rfl rfl (a_ rfl rfl (en (nx (rt (xrb (xr (xr (xrb (xr (ret1 rfl rfl (fun w_ hs_ => ⟨?_, hs_.below⟩))))))))))))))
      exact ri (orI_at hinv m8 h9)
  · refine cf rfl (decide_eq_false h1) (xt (xq (xq (xb (nx (sq (rg (m_ rfl rfl (a_ rfl rfl (en (nx (rt (ret1 rfl rfl (fun w_ hs_ => ⟨?_, hs_.below⟩))))))))))))))
    exact ri (orI_0 hinv (by omega))
/-! impl.nearFirst$1 -/
set_option maxRecDepth 20000 in
set_option maxHeartbeats 2000000 in
theorem impl_nearFirst_1 (w : World) {Aa1 : Option Addr} {ca1 : Nat} {Aa2 : Option Addr} {ca2 : Nat} {a : Pair} {sa_ : List Nat} (ha : kPairS.Rel w [.int .i64 a.id, .slice Aa1 a.rect.low.length ca1, .slice Aa2 a.rect.high.length ca2] a [] sa_) {Ab1 : Option Addr} {cb1 : Nat} {Ab2 : Option Addr} {cb2 : Nat} {b : Pair} {sb_ : List Nat} (hb : kPairS.Rel w [.int .i64 b.id, .slice Ab1 b.rect.low.length cb1, .slice Ab2 b.rect.high.length cb2] b [] sb_) {Ap : Option Addr} {cp : Nat} {p : List Int} {sp_ : List Nat} {pp : Addr} (hp : (ptr (Kd.sl Kd.i64) pp [.slice Ap p.length cp] p sp_).P w) {d : Nat} (hd : d ≤ 3) (yFa : FitR d a.rect) (yFb : FitR d b.rect) (yFp : FitP d p) : Calls Tryz.prog 158 #[.agg #[.int .i64 a.id, .slice Aa1 a.rect.low.length ca1, .slice Aa2 a.rect.high.length ca2], .agg #[.int .i64 b.id, .slice Ab1 b.rect.low.length cb1, .slice Ab2 b.rect.high.length cb2], .pointer (some pp)] w (fun e_ w2_ => e_ = .returned (.int .i64 (nearC p a b)) ∧ Below w.heap.size w w2_) := by
  refine fnc (X := X18 22 w) (args := [.agg #[.int .i64 a.id, .slice Aa1 a.rect.low.length ca1, .slice Aa2 a.rect.high.length ca2], .agg #[.int .i64 b.id, .slice Ab1 b.rect.low.length cb1, .slice Ab2 b.rect.high.length cb2], .pointer (some pp)]) (l := [(0, .agg #[.int .i64 a.id, .slice Aa1 a.rect.low.length ca1, .slice Aa2 a.rect.high.length ca2]), (1, .agg #[.int .i64 b.id, .slice Ab1 b.rect.low.length cb1, .slice Ab2 b.rect.high.length cb2]), (2, .pointer (some pp))]) (G := [ptr (Kd.sl Kd.i64) pp [.slice Ap p.length cp] p sp_, dat kPairS [.int .i64 b.id, .slice Ab1 b.rect.low.length cb1, .slice Ab2 b.rect.high.length cb2] b ([]) sb_, dat kPairS [.int .i64 a.id, .slice Aa1 a.rect.low.length ca1, .slice Aa2 a.rect.high.length ca2] a ([]) sa_]) Tryz.func158 rfl rfl rfl ⟨rfl, rfl, rfl, trivial⟩ (s0p hp (s0d hb (s0d ha (s0n w)))).1 ?_
  refine sq (rg (bx rfl rfl rfl rfl ?_))
  intro b1
  refine bx rfl rfl rfl rfl ?_
  intro b2
  refine a_ rfl rfl (en (nx (sq ?_)))
  refine gd 4 kPairS_p1_2 rfl (cs' := [.slice Aa1 a.rect.low.length ca1, .slice Aa2 a.rect.high.length ca2]) rfl fun s3 w_ rs3 us3 => ?_
  refine gp 3 Kd.Sub.rfl rfl (cs' := [.slice Ap p.length cp]) rfl fun s4 w_ rs4 us4 => ?_
  have Ls4 := Kd.sl_len rs4; have Cs4 := Kd.sl_cap rs4
  refine gd 5 kPairS_p1_2 rfl (cs' := [.slice Ab1 b.rect.low.length cb1, .slice Ab2 b.rect.high.length cb2]) rfl fun s5 w_ rs5 us5 => ?_
  refine r0 (qv 0 rfl (fa rfl rfl rfl) rfl (by kernel_rfl) (qv 1 rfl (ldb 4 rfl rfl rfl rfl rfl rfl rfl) rfl (by kernel_rfl) (qv 2 rfl (ldq (u := .slice Ap p.length cp) 5 rfl rfl rfl rfl rfl rfl rfl) rfl (by kernel_rfl) (qv 4 rfl (fa rfl rfl rfl) rfl (by kernel_rfl) (qv 5 rfl (ldb 3 rfl rfl rfl rfl rfl rfl rfl) rfl (by kernel_rfl) (qv 6 rfl (ldq (u := .slice Ap p.length cp) 5 rfl rfl rfl rfl rfl rfl rfl) rfl (by kernel_rfl) (qv 9 rfl (fa rfl rfl rfl) rfl (by kernel_rfl) (qv 10 rfl (ldb (u := .int .i64 a.id) 4 rfl rfl rfl rfl rfl rfl rfl) rfl (by kernel_rfl) (qv 11 rfl (fa rfl rfl rfl) rfl (by kernel_rfl) (qv 12 rfl (ldb (u := .int .i64 b.id) 3 rfl rfl rfl rfl rfl rfl rfl) rfl (by kernel_rfl) (q1 3 [0, 0, 0, 0, 0, 0, 0, 0] rfl (by kernel_rfl) rfl (cs_ (v := .int .i64 (distR a.rect p)) (by kernel_rfl) rfl rfl rfl (fun w_ hs_ => by exact impl_distance w_ (hs_.at 2 rfl) (hs_.at 1 rfl) hd yFa yFp) (qn (q1 7 [0, 0, 0, 0, 0, 0, 0, 0] rfl (by kernel_rfl) rfl (cs_ (v := .int .i64 (distR b.rect p)) (by kernel_rfl) rfl rfl rfl (fun w_ hs_ => by exact impl_distance w_ (hs_.at 0 rfl) (hs_.at 1 rfl) hd yFb yFp) (qn (q1 8 [0, 0, 0, 0, 0, 0, 0, 0] rfl (by kernel_rfl) rfl (cs_ (v := .int .i64 (cmpI (distR a.rect p) (distR b.rect p))) (by kernel_rfl) rfl rfl rfl (fun w_ hs_ => by exact cmp_Compare_int64 w_ _ _) (qn (q1 13 [0, 0, 0, 0, 0, 0, 0, 0] rfl (by kernel_rfl) rfl (cs_ (v := .int .i64 (cmpI a.id b.id)) (by kernel_rfl) rfl rfl rfl (fun w_ hs_ => by exact cmp_Compare_int64 w_ _ _) (qn (q1 14 [0, 0, 0, 0, 0, 0, 0, 0] rfl (by kernel_rfl) rfl (bs2 rfl info3 rfl rfl rfl rfl ?_))))))))))))))))))))))))
  intro b6
  refine qn (q1 15 [1, 1, 1, 1, 1, 1, 1, 1] rfl (by kernel_rfl) rfl (cs_ (v := .int .i64 (orI ([(cmpI (distR a.rect p) (distR b.rect p)), (cmpI a.id b.id)]))) (by kernel_rfl) rfl rfl rfl (fun w_ hs_ => by exact bor (Kd.Seals.row Kd.Seals.i64 _) (hs_.at 0 rfl) fun _ lb0_ => cmp_Or_int w_ lb0_) (qn (qv 16 rfl (as_ rfl rfl) rfl (by kernel_rfl) (qe [1, 1, 1, 1, 1, 1, 1, 1] (by kernel_rfl) rfl (nx (rt (ret1 rfl rfl (fun w_ hs_ => ⟨?_, hs_.below⟩)))))))))
  exact ri (by unfold nearC; rw [orI_two])
/-! spec.l2Nearer -/
set_option maxRecDepth 20000 in
set_option maxHeartbeats 2000000 in
theorem spec_l2Nearer (w : World) {Ap : Option Addr} {cp : Nat} {p : List Int} {sp_ : List Nat} (hp : (Kd.sl Kd.i64).Rel w [.slice Ap p.length cp] p [] sp_) {Aa1 : Option Addr} {ca1 : Nat} {Aa2 : Option Addr} {ca2 : Nat} {a : Pair} {sa_ : List Nat} {pa : Addr} (ha : (ptr kPairS pa [.int .i64 a.id, .slice Aa1 a.rect.low.length ca1, .slice Aa2 a.rect.high.length ca2] a sa_).P w) {Ab1 : Option Addr} {cb1 : Nat} {Ab2 : Option Addr} {cb2 : Nat} {b : Pair} {sb_ : List Nat} {pb : Addr} (hb : (ptr kPairS pb [.int .i64 b.id, .slice Ab1 b.rect.low.length cb1, .slice Ab2 b.rect.high.length cb2] b sb_).P w) {d : Nat} (hd : d ≤ 3) (yFa : FitR d a.rect) (yFb : FitR d b.rect) (yFp : FitP d p) : Calls Tryz.prog 87 #[.slice Ap p.length cp, .pointer (some pa), .pointer (some pb)] w (fun e_ w2_ => e_ = .returned (.bool (nearerP p a b)) ∧ Below w.heap.size w w2_) := by
  have Lp := Kd.sl_len hp; have Cp := Kd.sl_cap hp
  refine fnc (X := X18 38 w) (args := [.slice Ap p.length cp, .pointer (some pa), .pointer (some pb)]) (l := [(0, .slice Ap p.length cp), (1, .pointer (some pa)), (2, .pointer (some pb))]) (G := [ptr kPairS pb [.int .i64 b.id, .slice Ab1 b.rect.low.length cb1, .slice Ab2 b.rect.high.length cb2] b sb_, ptr kPairS pa [.int .i64 a.id, .slice Aa1 a.rect.low.length ca1, .slice Aa2 a.rect.high.length ca2] a sa_, dat (Kd.sl Kd.i64) [.slice Ap p.length cp] p ([]) sp_]) Tryz.func87 rfl rfl rfl ⟨rfl, rfl, rfl, trivial⟩ (s0p hb (s0p ha (s0d hp (s0n w)))).1 ?_
  refine sq (rg (a_ rfl rfl (en (nx (sq (rg (m_ rfl rfl (vl (nc rfl rfl) rfl (vl (fa rfl rfl rfl) rfl (m_ rfl rfl ?_))))))))))
  refine gq 1 kPairS_p1_2 rfl (cs' := [.slice Aa1 a.rect.low.length ca1, .slice Aa2 a.rect.high.length ca2]) rfl fun s1 w_ rs1 us1 => ?_
  refine cs_ (v := .int .i64 (distR a.rect p)) (by kernel_rfl) rfl rfl rfl (fun w_ hs_ => spec_l1Dist w_ (hs_.at 0 rfl) (hs_.at 3 rfl) hd yFa yFp) (a_ rfl rfl (en (nx (sq (rg (m_ rfl rfl (vl (nc rfl rfl) rfl (vl (fa rfl rfl rfl) rfl (m_ rfl rfl ?_)))))))))
  refine gq 1 kPairS_p1_2 rfl (cs' := [.slice Ab1 b.rect.low.length cb1, .slice Ab2 b.rect.high.length cb2]) rfl fun s2 w_ rs2 us2 => ?_
  refine cs_ (v := .int .i64 (distR b.rect p)) (by kernel_rfl) rfl rfl rfl (fun w_ hs_ => spec_l1Dist w_ (hs_.at 0 rfl) (hs_.at 4 rfl) hd yFb yFp) (a_ rfl rfl (en (nx (sq ?_))))
  by_cases h3 : (distR a.rect p) < (distR b.rect p)
  · refine r0 (qv 0 rfl (mv rfl rfl) rfl (by kernel_rfl) (qv 1 rfl (mv rfl rfl) rfl (by kernel_rfl) (qv 2 rfl (cm rfl rfl rfl rfl) rfl (by kernel_rfl) (qv 3 rfl (mv rfl rfl) rfl (by kernel_rfl) (qs 4 rfl rfl rfl (decide_eq_true h3) (by kernel_rfl) (qs 5 rfl rfl rfl (decide_eq_true h3) (by kernel_rfl) (qs 6 rfl rfl rfl (decide_eq_true h3) (by kernel_rfl) (qs 7 rfl rfl rfl (decide_eq_true h3) (by kernel_rfl) (qu 8 rfl rfl rfl (by kernel_rfl) (qu 9 rfl rfl rfl (by kernel_rfl) (qu 10 rfl rfl rfl (by kernel_rfl) (qu 11 rfl rfl rfl (by kernel_rfl) (qu 12 rfl rfl rfl (by kernel_rfl) (qu 13 rfl rfl rfl (by kernel_rfl) (qu 14 rfl rfl rfl (by kernel_rfl) (qu 15 rfl rfl rfl (by kernel_rfl) (qu 16 rfl rfl rfl (by kernel_rfl) (qs 17 rfl rfl rfl (decide_eq_true h3) (by kernel_rfl) (qv 18 rfl (pk (b := true) rfl rfl (decide_eq_true h3) rfl) rfl (by kernel_rfl) (qv 19 rfl (as_ rfl rfl) rfl (by kernel_rfl) (qe [0, 0, 0, 0, 0] (by kernel_rfl) rfl (nx (rt (ret1 rfl rfl (fun w_ hs_ => ⟨?_, hs_.below⟩)))))))))))))))))))))))))
    exact rb (by unfold nearerP; grind)
  · by_cases h4 : (distR a.rect p) = (distR b.rect p)
    · refine r0 (qv 0 rfl (mv rfl rfl) rfl (by kernel_rfl) (qv 1 rfl (mv rfl rfl) rfl (by kernel_rfl) (qv 2 rfl (cm rfl rfl rfl rfl) rfl (by kernel_rfl) (qv 3 rfl (mv rfl rfl) rfl (by kernel_rfl) (qg 4 rfl (mv rfl rfl) rfl rfl (decide_eq_false h3) (by kernel_rfl) (qg 5 rfl (mv rfl rfl) rfl rfl (decide_eq_false h3) (by kernel_rfl) (qg 6 rfl (cm rfl rfl rfl rfl) rfl rfl (decide_eq_false h3) (by kernel_rfl) (qg 7 rfl (mv rfl rfl) rfl rfl (decide_eq_false h3) (by kernel_rfl) (qg 8 rfl (mv rfl rfl) rfl rfl (beq_iff_eq.2 h4) (by kernel_rfl) (qg 9 rfl (nc rfl rfl) rfl rfl (beq_iff_eq.2 h4) (by kernel_rfl) (qg 10 rfl (fa rfl rfl rfl) rfl rfl (beq_iff_eq.2 h4) (by kernel_rfl) (qg 11 rfl (ldp (u := .int .i64 a.id) 3 rfl rfl rfl rfl rfl rfl rfl) rfl rfl (beq_iff_eq.2 h4) (by kernel_rfl) (qg 12 rfl (mv rfl rfl) rfl rfl (beq_iff_eq.2 h4) (by kernel_rfl) (qg 13 rfl (nc rfl rfl) rfl rfl (beq_iff_eq.2 h4) (by kernel_rfl) (qg 14 rfl (fa rfl rfl rfl) rfl rfl (beq_iff_eq.2 h4) (by kernel_rfl) (qg 15 rfl (ldp (u := .int .i64 b.id) 2 rfl rfl rfl rfl rfl rfl rfl) rfl rfl (beq_iff_eq.2 h4) (by kernel_rfl) (qg 16 rfl (cm rfl rfl rfl rfl) rfl rfl (beq_iff_eq.2 h4) (by kernel_rfl) (qg 17 rfl (pk (b := true) rfl rfl (beq_iff_eq.2 h4) rfl) rfl rfl (decide_eq_false h3) (by kernel_rfl) (qv 18 rfl (pk (b := false) rfl rfl (decide_eq_false h3) rfl) rfl (by kernel_rfl) (qv 19 rfl (as_ rfl rfl) rfl (by kernel_rfl) (qe [0, 0, 0, 0, 0] (by kernel_rfl) rfl (nx (rt (ret1 rfl rfl (fun w_ hs_ => ⟨?_, hs_.below⟩)))))))))))))))))))))))))
      exact rb (by unfold nearerP; grind)
    · refine r0 (qv 0 rfl (mv rfl rfl) rfl (by kernel_rfl) (qv 1 rfl (mv rfl rfl) rfl (by kernel_rfl) (qv 2 rfl (cm rfl rfl rfl rfl) rfl (by kernel_rfl) (qv 3 rfl (mv rfl rfl) rfl (by kernel_rfl) (qg 4 rfl (mv rfl rfl) rfl rfl (decide_eq_false h3) (by kernel_rfl) (qg 5 rfl (mv rfl rfl) rfl rfl (decide_eq_false h3) (by kernel_rfl) (qg 6 rfl (cm rfl rfl rfl rfl) rfl rfl (decide_eq_false h3) (by kernel_rfl) (qg 7 rfl (mv rfl rfl) rfl rfl (decide_eq_false h3) (by kernel_rfl) (qs 8 rfl rfl rfl (beq_eq_false_iff_ne.2 h4) (by kernel_rfl) (qs 9 rfl rfl rfl (beq_eq_false_iff_ne.2 h4) (by kernel_rfl) (qs 10 rfl rfl rfl (beq_eq_false_iff_ne.2 h4) (by kernel_rfl) (qs 11 rfl rfl rfl (beq_eq_false_iff_ne.2 h4) (by kernel_rfl) (qs 12 rfl rfl rfl (beq_eq_false_iff_ne.2 h4) (by kernel_rfl) (qs 13 rfl rfl rfl (beq_eq_false_iff_ne.2 h4) (by kernel_rfl) (qs 14 rfl rfl rfl (beq_eq_false_iff_ne.2 h4) (by kernel_rfl) (qs 15 rfl rfl rfl (beq_eq_false_iff_ne.2 h4) (by kernel_rfl) (qs 16 rfl rfl rfl (beq_eq_false_iff_ne.2 h4) (by kernel_rfl) (qg 17 rfl (pk (b := false) rfl rfl (beq_eq_false_iff_ne.2 h4) rfl) rfl rfl (decide_eq_false h3) (by kernel_rfl) (qv 18 rfl (pk (b := false) rfl rfl (decide_eq_false h3) rfl) rfl (by kernel_rfl) (qv 19 rfl (as_ rfl rfl) rfl (by kernel_rfl) (qe [0, 0, 0, 0, 0] (by kernel_rfl) rfl (nx (rt (ret1 rfl rfl (fun w_ hs_ => ⟨?_, hs_.below⟩)))))))))))))))))))))))))
      exact rb (by unfold nearerP; grind)
end Go.Proofs.YtfaflffdekoimaaGreat.Sx
