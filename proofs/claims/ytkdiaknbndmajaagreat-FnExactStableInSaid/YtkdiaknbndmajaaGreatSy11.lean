/- What functions of the program answer, each at every input that its row names; walked through their code. -/
import Derived.Test.YtkdiaknbndmajaaGreatSy10
namespace Go.Proofs.YtkdiaknbndmajaaGreat.Sx
open Go Go.RowKit Go.Proofs
set_option linter.unusedVariables false
set_option linter.unusedSimpArgs false
def tab10 : Tab := { size := [(2, 1, false), (3, 1, false), (40, 1, false), (58, 2, true)], off := [((58, 0), 0), ((58, 1), 1), ((60, 0), 0), ((60, 1), 1), ((62, 0), 0), ((62, 1), 1), ((62, 2), 3)], elem := [(40, 2), (170, 3)] }
theorem tab_ok10 : tab10.check Tryz.prog = true := by kernel_rfl
noncomputable abbrev X10 (N : Nat) (w : World) : Cx := ⟨Tryz.prog, tab10, tab_ok10, wide, N, w, none, []⟩
theorem info3 : (Tryz.prog.info? 3).map (fun i => (i.zero, i.size, i.bytes)) = some (some (.int .i64 0), 1, 8) := by kernel_rfl

def Bnd (l : List Int) : Prop := ∀ x ∈ l, -1000 ≤ x ∧ x ≤ 1000
structure FitR (d : Nat) (r : Rect) : Prop where
  lo : r.low.length = d
  hi : r.high.length = d
  bl : Bnd r.low
  bh : Bnd r.high
  le : ∀ (j : Nat) (a b : Int), r.low[j]? = some a → r.high[j]? = some b → a ≤ b
structure FitP (d : Nat) (p : List Int) : Prop where
  len : p.length = d
  bnd : Bnd p
theorem Bnd.at {l : List Int} (h : Bnd l) {k : Nat} {a : Int} (ha : l[k]? = some a) : -1000 ≤ a ∧ a ≤ 1000 := h a (List.mem_of_getElem? ha)
theorem point_fit {p : List Int} {d : Int} (h : pointFault p d = 0) (hd : isDims d = true) : FitP d.toNat p := by
  have h1 := pointFault_len h
  refine ⟨by omega, fun x hx => ?_⟩
  unfold pointFault at h
  rw [if_pos hd, if_pos h1] at h
  split at h
  · cases h
  · rename_i h2
    have h3 : p.any (fun n => !within n (-1000) 1000) = false := by simpa using h2
    have h4 := List.any_eq_false.1 h3 x hx
    have h5 : within x (-1000) 1000 = true := by simpa using h4
    unfold within at h5
    simpa using h5
theorem rect_fit {r : Rect} {d : Int} (h : rectFault r d = 0) (hd : isDims d = true) : FitR d.toNat r := by
  unfold rectFault at h
  split at h
  · rename_i h1
    split at h
    · rename_i h2
      have f1 := point_fit h1 hd
      have f2 := point_fit h2 hd
      split at h
      · cases h
      · rename_i h3
        refine ⟨f1.len, f2.len, f1.bnd, f2.bnd, fun j a b ha hb => ?_⟩
        refine Decidable.byContradiction fun hab => h3 (rectBad_t ha hb (by omega))
    · contradiction
  · contradiction
theorem dims_le {d : Int} (hd : isDims d = true) : d.toNat ≤ 3 ∧ 2 ≤ d.toNat := by
  unfold isDims within at hd; simp at hd; omega
/-! distances -/
def dist1 (a b n : Int) : Int := if n < a then a - n else if b < n then n - b else 0
def distTo (r : Rect) (p : List Int) : Nat → Int
  | 0 => 0
  | k + 1 => distTo r p k + dist1 (r.low.getD k 0) (r.high.getD k 0) (p.getD k 0)
def distR (r : Rect) (p : List Int) : Int := distTo r p p.length
theorem distTo_on {r : Rect} {p : List Int} {k : Nat} {a b n : Int} (ha : r.low[k]? = some a) (hb : r.high[k]? = some b) (hn : p[k]? = some n) : distTo r p (k + 1) = distTo r p k + dist1 a b n := by
  simp only [distTo, List.getD_eq_getElem?_getD, ha, hb, hn, Option.getD_some]
theorem dist1_b {a b n : Int} (ha : -1000 ≤ a ∧ a ≤ 1000) (hb : -1000 ≤ b ∧ b ≤ 1000) (hn : -1000 ≤ n ∧ n ≤ 1000) : 0 ≤ dist1 a b n ∧ dist1 a b n ≤ 2000 := by unfold dist1; split <;> (try split) <;> omega
theorem distTo_b {d : Nat} {r : Rect} {p : List Int} (hr : FitR d r) (hp : FitP d p) : ∀ k : Nat, k ≤ d → 0 ≤ distTo r p k ∧ distTo r p k ≤ 2000 * k
  | 0, _ => by simp [distTo]
  | k + 1, hk => by
    have ih := distTo_b hr hp k (by omega)
    have l1 : k < r.low.length := by rw [hr.lo]; omega
    have l2 : k < r.high.length := by rw [hr.hi]; omega
    have l3 : k < p.length := by rw [hp.len]; omega
    have h1 : r.low[k]? = some r.low[k] := List.getElem?_eq_getElem l1
    have h2 : r.high[k]? = some r.high[k] := List.getElem?_eq_getElem l2
    have h3 : p[k]? = some p[k] := List.getElem?_eq_getElem l3
    rw [distTo_on h1 h2 h3]
    have := dist1_b (hr.bl.at h1) (hr.bh.at h2) (hp.bnd.at h3)
    omega
theorem dist1_max {a b n : Int} (h : a ≤ b) : gmax (gmax 0 (a - n)) (n - b) = dist1 a b n := by unfold gmax dist1; split <;> split <;> (try split) <;> omega
theorem dist1_two {a b n : Int} (h : a ≤ b) : gmax (a - n) 0 + gmax (n - b) 0 = dist1 a b n := by unfold gmax dist1; split <;> split <;> (try split) <;> omega
/-! two boxes -/
theorem range_t {f : Nat → Bool} {n : Nat} (h : ∀ j, j < n → f j = true) : true = (List.range n).all f := by
  symm; rw [List.all_eq_true]; intro j hj; exact h j (List.mem_range.1 hj)
theorem range_f {f : Nat → Bool} {n k : Nat} (hk : k < n) (h : f k = false) : false = (List.range n).all f := by
  symm; rw [List.all_eq_false]; exact ⟨k, List.mem_range.2 hk, by simp [h]⟩
def meets1 (a b : Rect) (i : Nat) : Bool := !(decide (b.high.getD i 0 < a.low.getD i 0) || decide (a.high.getD i 0 < b.low.getD i 0))
def covers1 (a b : Rect) (i : Nat) : Bool := !(decide (b.low.getD i 0 < a.low.getD i 0) || decide (a.high.getD i 0 < b.high.getD i 0))
def meetsR (a b : Rect) : Bool := (List.range a.low.length).all (meets1 a b)
def coversR (a b : Rect) : Bool := (List.range a.low.length).all (covers1 a b)
theorem getD_of {l : List Int} {k : Nat} {a : Int} (h : l[k]? = some a) : l.getD k 0 = a := by simp [List.getD_eq_getElem?_getD, h]
theorem meets1_t {a b : Rect} {k : Nat} {x y : Int} {z w : Int} (h1 : a.low[k]? = some x) (h2 : b.high[k]? = some y) (h3 : b.low[k]? = some z) (h4 : a.high[k]? = some w) (p : ¬ y < x) (q : ¬ w < z) : meets1 a b k = true := by
  unfold meets1; rw [getD_of h1, getD_of h2, getD_of h3, getD_of h4]; simp; omega
theorem meets1_f1 {a b : Rect} {k : Nat} {x y : Int} (h1 : a.low[k]? = some x) (h2 : b.high[k]? = some y) (p : y < x) : meets1 a b k = false := by
  unfold meets1; rw [getD_of h1, getD_of h2]; simp; omega
theorem meets1_f2 {a b : Rect} {k : Nat} {z w : Int} (h3 : b.low[k]? = some z) (h4 : a.high[k]? = some w) (q : w < z) : meets1 a b k = false := by
  unfold meets1; rw [getD_of h3, getD_of h4]; simp; omega
theorem covers1_t {a b : Rect} {k : Nat} {x y : Int} {z w : Int} (h1 : a.low[k]? = some x) (h2 : b.low[k]? = some y) (h3 : b.high[k]? = some z) (h4 : a.high[k]? = some w) (p : ¬ y < x) (q : ¬ w < z) : covers1 a b k = true := by
  unfold covers1; rw [getD_of h1, getD_of h2, getD_of h3, getD_of h4]; simp; omega
theorem covers1_f1 {a b : Rect} {k : Nat} {x y : Int} (h1 : a.low[k]? = some x) (h2 : b.low[k]? = some y) (p : y < x) : covers1 a b k = false := by
  unfold covers1; rw [getD_of h1, getD_of h2]; simp; omega
theorem covers1_f2 {a b : Rect} {k : Nat} {z w : Int} (h3 : b.high[k]? = some z) (h4 : a.high[k]? = some w) (q : w < z) : covers1 a b k = false := by
  unfold covers1; rw [getD_of h3, getD_of h4]; simp; omega
/-! queries -/
structure FitQ (d : Nat) (q : Query) : Prop where
  rect : q.kind = 1 ∨ q.kind = 2 → FitR d q.rect
  pt : q.kind = 3 ∨ q.kind = 4 → FitP d q.point
  k : q.kind = 4 → 1 ≤ q.k ∧ q.k ≤ 20
  kind : 1 ≤ q.kind ∧ q.kind ≤ 4
theorem query_fit {q : Query} {d : Int} (h : queryFault q d = 0) : FitQ d.toNat q ∧ isDims d = true := by
  unfold queryFault at h
  split at h
  · rename_i hd
    split at h
    · rename_i hk
      have hk1 : 1 ≤ q.kind ∧ q.kind ≤ 4 := by unfold within at hk; simpa using hk
      split at h
      · cases h
      · split at h
        · cases h
        · split at h
          · cases h
          · split at h
            · rename_i hr
              have hr1 : q.kind = 1 ∨ q.kind = 2 := by unfold hasRect at hr; simpa using hr
              exact ⟨⟨fun _ => rect_fit h hd, fun h3 => by omega, fun h4 => by omega, hk1⟩, hd⟩
            · rename_i hr
              have hr1 : ¬ (q.kind = 1 ∨ q.kind = 2) := by unfold hasRect at hr; simpa using hr
              split at h
              · rename_i hp
                refine ⟨⟨fun h1 => absurd h1 hr1, fun _ => point_fit hp hd, fun h4 => ?_, hk1⟩, hd⟩
                split at h
                · cases h
                · rename_i h5
                  have h6 : within q.k 1 20 = true := by
                    cases hw : within q.k 1 20
                    · exact absurd ⟨h4, hw⟩ h5
                    · rfl
                  unfold within at h6; simpa using h6
              · contradiction
    · cases h
  · cases h
def matchQ (q : Query) (r : Rect) : Bool := if q.kind = 1 then meetsR q.rect r else if q.kind = 2 then coversR q.rect r else if q.kind = 3 then distR r q.point == 0 else true
def nearerP (p : List Int) (a b : Pair) : Bool := decide (distR a.rect p < distR b.rect p) || (distR a.rect p == distR b.rect p && decide (a.id < b.id))
def cmpI (x y : Int) : Int := if x < y then -1 else if y < x then 1 else 0
def nearC (p : List Int) (a b : Pair) : Int := if cmpI (distR a.rect p) (distR b.rect p) = 0 then cmpI a.id b.id else cmpI (distR a.rect p) (distR b.rect p)
theorem nearC_ge {p : List Int} {a b : Pair} : (decide (0 ≤ nearC p a b)) = !nearerP p a b := by
  unfold nearC nearerP cmpI
  rw [Bool.eq_iff_iff]
  simp
  split <;> (try split) <;> (try split) <;> (try split) <;> omega
/-! the pairs that stay -/
def inL (l : List Pair) (p : Pair) : Bool := l.any (fun q => decide (p = q))
def stabOf (notes : List Note) (lo hi : Int) : List Pair := (modelAt notes lo).filter (fun p => (modelsOf notes lo hi).all (fun l => inL l p))
theorem stab_times {notes : List Note} {lo hi : Int} {d : Int} (h : timesFault notes d lo hi = 0) : stabOf notes lo hi = (modelAt notes lo).filter (fun p => (timesOf notes lo hi).all (fun t => inL (modelAt notes t) p)) := by
  unfold stabOf
  refine List.filter_congr fun p _ => ?_
  have h1 := models_any (lo := lo) (hi := hi) (P := fun l => !inL l p) (falls_pw (notes_falls (times_ok h).1))
  rw [Bool.eq_iff_iff, List.all_eq_true, List.all_eq_true]
  rw [Bool.eq_iff_iff, List.any_eq_true, List.any_eq_true] at h1
  constructor
  · intro h2 t ht
    refine Decidable.byContradiction fun h3 => ?_
    obtain ⟨l, hl, hl2⟩ := h1.2 ⟨t, ht, by simpa using h3⟩
    rw [h2 l hl] at hl2; simp at hl2
  · intro h2 l hl
    refine Decidable.byContradiction fun h3 => ?_
    obtain ⟨t, ht, ht2⟩ := h1.1 ⟨l, hl, by simpa using h3⟩
    rw [h2 t ht] at ht2; simp at ht2
/-- A pair of a model was put in by a note. -/
theorem turnOf_put {l : List Pair} {n : Note} {x : Pair} (h : x ∈ turnOf l n) : x ∈ l ∨ (x = n.op.pair ∧ n.op.kind = 1) := by
  unfold turnOf takeId at h
  split at h
  · split at h
    · rename_i hk
      rcases addTo_mem h with h | h
      · exact .inr ⟨h, hk⟩
      · exact .inl (List.mem_filter.1 h).1
    · split at h
      · exact .inl (List.mem_filter.1 h).1
      · exact .inl h
  · exact .inl h
theorem op_put {o : Op} {d : Int} (h : opFault o d = 0) (hk : o.kind = 1) : rectFault o.pair.rect d = 0 ∧ isDims d = true := by
  unfold opFault at h
  split at h
  · rename_i hd
    split at h
    · rw [if_neg (by omega)] at h
      split at h
      · rw [if_neg (by omega)] at h; exact ⟨h, hd⟩
      · cases h
    · cases h
  · cases h
theorem note_op {n : Note} {d : Int} (h : noteFault n d = 0) : opFault n.op d = 0 ∧ ∀ p ∈ n.answer.pairs, pairFault p d = 0 := by
  unfold noteFault at h
  split at h
  · split at h
    · split at h
      · rename_i ho
        split at h
        · split at h
          · exact ⟨ho, fun p hp => firstFault_all h p hp⟩
          · cases h
        · cases h
      · contradiction
    · cases h
  · cases h
theorem notes_note {l : List Note} {d : Int} (h : notesFault l d = 0) {n : Note} (hn : n ∈ l) : noteFault n d = 0 ∧ isDims d = true := by
  unfold notesFault at h
  split at h
  · rename_i hd
    split at h
    · split at h
      · rename_i h1; exact ⟨firstFault_all h1 n hn, hd⟩
      · contradiction
    · cases h
  · cases h
theorem fold_fit {d : Int} : ∀ (l : List Note) {p : List Pair}, (∀ n ∈ l, noteFault n d = 0) → (∀ x ∈ p, FitR d.toNat x.rect) → ∀ x ∈ l.foldl turnOf p, FitR d.toNat x.rect
  | [], _, _, h => h
  | n :: l, p, hl, h => fold_fit l (fun m hm => hl m (List.mem_cons_of_mem _ hm)) (fun x hx => by
      rcases turnOf_put hx with hx | ⟨rfl, hk⟩
      · exact h x hx
      · have h1 := op_put (note_op (hl n (List.mem_cons_self ..))).1 hk
        exact rect_fit h1.1 h1.2)
theorem model_fit {notes : List Note} {d : Int} (h : notesFault notes d = 0) (t : Int) : ∀ x ∈ modelAt notes t, FitR d.toNat x.rect :=
  fold_fit _ (fun n hn => (notes_note h ((List.takeWhile_sublist _).subset hn)).1) (by simp)
theorem pair_fit {p : Pair} {d : Int} (h : pairFault p d = 0) (hd : isDims d = true) : FitR d.toNat p.rect := by
  unfold pairFault at h
  split at h
  · exact rect_fit h hd
  · cases h
theorem stab_fit {notes : List Note} {d : Int} (h : notesFault notes d = 0) (lo hi : Int) : ∀ x ∈ stabOf notes lo hi, FitR d.toNat x.rect := fun x hx => model_fit h lo x ((List.mem_filter.1 hx).1)
/-! what may be told -/
def lastNear (p : List Int) (got : List Pair) (x : Pair) : Bool := match got.getLast? with
  | some z => nearerP p z x
  | none => false
def nearStep (q : Query) (got : List Pair) (p : Pair) : Bool := !inL got p && (decide ((got.length : Int) < q.k) || !lastNear q.point got p)
def nearOk (q : Query) (got stab : List Pair) : Bool := decide ((got.length : Int) ≤ q.k) && !adj (fun a b => !nearerP q.point a b) got && decide (Uniq Pair.id got) && !stab.any (nearStep q got)
def rising (got : List Pair) : Bool := !adj (fun a b => decide (b.id ≤ a.id)) got
def askedOk (notes : List Note) (d : Int) (n : Note) (lo hi : Int) : Bool :=
  n.answer.code == 0 && decide (((modelAt notes lo).length : Int) ≤ 60) && n.answer.pairs.all (fun p => matchQ n.op.query p.rect && wasIn notes d lo hi p) &&
  (if n.op.query.kind = 4 then nearOk n.op.query n.answer.pairs (stabOf notes lo hi) else rising n.answer.pairs && !(stabOf notes lo hi).any (fun p => matchQ n.op.query p.rect && !inL n.answer.pairs p))
def gotOk (n : Note) (pairs : List Pair) : Bool := match pairs.find? (fun p => p.id == n.op.pair.id) with
  | none => n.answer.code == 4 && decide (n.answer.pairs = [])
  | some p => n.answer.code == 0 && decide (n.answer.pairs = [p])
def didOne (n : Note) (lo : Int) (m : Note) : Bool := m.kind == 2 && m.client == n.client && m.op.kind == n.op.kind && decide (m.op.pair = n.op.pair) && m.answer.code == n.answer.code && decide (lo ≤ m.at_)
def answeredAt (notes : List Note) (d : Int) (i : Nat) : Bool :=
  if spanOk notes i = true then
    if (noteAt notes i).op.kind = 3 then gotOk (noteAt notes i) (modelAt notes (spanE notes i))
    else if (noteAt notes i).op.kind = 4 then askedOk notes d (noteAt notes i) (spanB notes i) (spanE notes i)
    else (notes.take i).any (didOne (noteAt notes i) (spanB notes i))
  else false
def isAnswered (notes : List Note) (d i : Int) : Bool := if notesFault notes d = 0 then if within i 0 ((notes.length : Int) - 1) = true then answeredAt notes d i.toNat else false else false
def isExplained (notes : List Note) (d : Int) : Bool := isSerial notes d && (List.range notes.length).all (fun i => !((noteAt notes i).kind == 3) || answeredAt notes d i)
theorem true_stepP {α : Type} {p : α → Prop} {xs : List α} {k : Nat} {y : α} (h : ∀ (j : Nat) (x : α), j < k → xs[j]? = some x → p x) (hy : xs[k]? = some y) (hp : p y) : ∀ (j : Nat) (x : α), j < k + 1 → xs[j]? = some x → p x := fun j x hj hx => by
  rcases Nat.lt_succ_iff_lt_or_eq.1 hj with hlt | rfl
  · exact h j x hlt hx
  · rw [hy] at hx; cases hx; exact hp
theorem thereU_at {l : List Pair} {p y : Pair} {k : Nat} (hs : Uniq Pair.id l) (hk : l[k]? = some y) (he : (y.id == p.id) = true) : l.any (fun q => decide (p = q)) = decide (y.rect = p.rect) := by
  simp only [beq_iff_eq] at he
  rw [Bool.eq_iff_iff, List.any_eq_true]
  simp only [decide_eq_true_eq]
  constructor
  · rintro ⟨q, hq, rfl⟩
    obtain ⟨j, hj⟩ := List.getElem?_of_mem hq
    have := hs.at hj hk (by omega)
    subst this
    rw [hk] at hj; cases hj; rfl
  · intro hr
    refine ⟨y, List.mem_of_getElem? hk, ?_⟩
    cases y; cases p; simp_all
theorem Sorted.uq {l : List Pair} (h : Sorted l) : Uniq Pair.id l := h.imp fun h => by omega
/-! the nearest -/
def nearTo (p : List Int) (l : List Pair) (k : Nat) : Prop := ∀ (j : Nat) (a b : Pair), j + 1 < k → l[j]? = some a → l[j + 1]? = some b → (!nearerP p a b) = false
theorem nearTo_0 {p : List Int} {l : List Pair} : nearTo p l 0 := fun j a b h => by omega
theorem nearTo_on {p : List Int} {l : List Pair} {k : Nat} (h : nearTo p l k) (hk : ∀ a b, l[k - 1]? = some a → l[k]? = some b → 0 < k → (!nearerP p a b) = false) : nearTo p l (k + 1) := fun j a b hj ha hb => by
  rcases Nat.lt_or_ge (j + 1) k with h1 | h1
  · exact h j a b h1 ha hb
  · have : k = j + 1 := by omega
    subst this
    exact hk a b (by simpa using ha) hb (by omega)
theorem nearTo_end {p : List Int} {l : List Pair} {k : Nat} (h : nearTo p l k) (hk : l.length ≤ k) : adj (fun a b => !nearerP p a b) l = false :=
  adj_f (k := l.length) (fun j a b hj ha hb => h j a b (by have := (List.getElem?_eq_some_iff.1 hb).1; omega) ha hb) (by omega)
theorem near_c {p : List Int} {a b : Pair} (h : ¬ (0 : Int) ≤ nearC p a b) : (!nearerP p a b) = false := by rw [← nearC_ge]; exact decide_eq_false h
theorem near_c2 {p : List Int} {a b : Pair} (h : (0 : Int) ≤ nearC p a b) : (!nearerP p a b) = true := by rw [← nearC_ge]; exact decide_eq_true h
theorem lastNear_of {p : List Int} {l : List Pair} {x z : Pair} {k : Nat} (hz : l[k]? = some z) (hk : k + 1 = l.length) : lastNear p l x = nearerP p z x := by
  unfold lastNear
  rw [List.getLast?_eq_getElem?, show l.length - 1 = k by omega, hz]
theorem ns_in {q : Query} {l : List Pair} {x : Pair} (h : inL l x = true) : nearStep q l x = false := by unfold nearStep; rw [h]; rfl
theorem ns_few {q : Query} {l : List Pair} {x : Pair} (h : ¬ inL l x = true) (h2 : (l.length : Int) < q.k) : nearStep q l x = true := by unfold nearStep; rw [Bool.eq_false_iff.2 h, decide_eq_true h2]; rfl
theorem ns_last {q : Query} {l : List Pair} {x z : Pair} {k : Nat} {b : Bool} (h : ¬ inL l x = true) (h2 : ¬ (l.length : Int) < q.k) (hz : l[k]? = some z) (hk : k + 1 = l.length) (hb : (!nearerP q.point z x) = b) : nearStep q l x = b := by
  unfold nearStep; rw [Bool.eq_false_iff.2 h, decide_eq_false h2, lastNear_of hz hk, hb]; cases b <;> rfl
theorem near_t {q : Query} {l st : List Pair} (h1 : ¬ q.k < (l.length : Int)) (h2 : adj (fun a b => !nearerP q.point a b) l = false) (h3 : Uniq Pair.id l) (h4 : st.any (nearStep q l) = false) : true = nearOk q l st := by
  unfold nearOk; rw [h2, h4, decide_eq_true h3, decide_eq_true (by omega)]; rfl
theorem near_f1 {q : Query} {l st : List Pair} (h1 : q.k < (l.length : Int)) : false = nearOk q l st := by
  unfold nearOk; rw [decide_eq_false (by omega)]; rfl
theorem near_f2 {q : Query} {l st : List Pair} (h2 : adj (fun a b => !nearerP q.point a b) l = true) : false = nearOk q l st := by
  unfold nearOk; rw [h2]; simp
theorem near_f3 {q : Query} {l st : List Pair} (h3 : ¬ Uniq Pair.id l) : false = nearOk q l st := by
  unfold nearOk; rw [decide_eq_false h3]; simp
theorem near_f4 {q : Query} {l st : List Pair} (h4 : st.any (nearStep q l) = true) : false = nearOk q l st := by
  unfold nearOk; rw [h4]; simp
/-! what was asked, told by the models -/
def stabM (ms : List (List Pair)) : List Pair := (ms.headD []).filter (fun p => ms.all (fun l => inL l p))
theorem stabM_of (notes : List Note) (lo hi : Int) : stabM (modelsOf notes lo hi) = stabOf notes lo hi := rfl
def restOk (q : Query) (got st : List Pair) : Bool := if q.kind = 4 then nearOk q got st else rising got && !st.any (fun p => matchQ q p.rect && !inL got p)
def partOk (q : Query) (got : List Pair) (ms : List (List Pair)) : Bool := got.all (fun p => matchQ q p.rect && ms.any (fun l => inL l p))
theorem part_t {q : Query} {got : List Pair} {ms : List (List Pair)} {k : Nat} (h : ∀ (j : Nat) (x : Pair), j < k → got[j]? = some x → (matchQ q x.rect && ms.any (fun l => inL l x)) = true) (hk : got.length ≤ k) : partOk q got ms = true := all_of h hk
theorem part_f {q : Query} {got : List Pair} {ms : List (List Pair)} {k : Nat} {y : Pair} (hy : got[k]? = some y) (h : (matchQ q y.rect && ms.any (fun l => inL l y)) = false) : partOk q got ms = false := by
  unfold partOk
  rw [List.all_eq_false]
  exact ⟨y, List.mem_of_getElem? hy, fun hc => by rw [hc] at h; cases h⟩
def askedM (n : Note) (ms : List (List Pair)) : Bool :=
  n.answer.code == 0 && decide (((ms.headD []).length : Int) ≤ 60) && partOk n.op.query n.answer.pairs ms && restOk n.op.query n.answer.pairs (stabM ms)
theorem asked_eq {notes : List Note} {d : Int} {n : Note} {lo hi : Int} (h : timesFault notes d lo hi = 0) : askedM n (modelsOf notes lo hi) = askedOk notes d n lo hi := by
  unfold askedM askedOk restOk partOk
  rw [stabM_of]
  have h1 : (fun p : Pair => matchQ n.op.query p.rect && (modelsOf notes lo hi).any (fun l => inL l p)) = (fun p : Pair => matchQ n.op.query p.rect && wasIn notes d lo hi p) := by
    funext p; rw [← was_eq h]; rfl
  rw [h1]; rfl
theorem asked_f1 {n : Note} {ms : List (List Pair)} (h : ¬ n.answer.code = 0) : false = askedM n ms := by unfold askedM; rw [beq_eq_false_iff_ne.2 h]; rfl
theorem asked_f2 {n : Note} {ms : List (List Pair)} (h : (60 : Int) < ((ms.headD []).length : Int)) : false = askedM n ms := by unfold askedM; rw [decide_eq_false (by omega)]; simp
theorem asked_f3 {n : Note} {ms : List (List Pair)} {k : Nat} {y : Pair} (hy : n.answer.pairs[k]? = some y) (h : (matchQ n.op.query y.rect && ms.any (fun l => inL l y)) = false) : false = askedM n ms := by
  unfold askedM; rw [part_f hy h]; simp
theorem asked_t {n : Note} {ms : List (List Pair)} {k : Nat} {b : Bool} (h1 : n.answer.code = 0) (h2 : ¬ (60 : Int) < ((ms.headD []).length : Int)) (h3 : ∀ (j : Nat) (x : Pair), j < k → n.answer.pairs[j]? = some x → (matchQ n.op.query x.rect && ms.any (fun l => inL l x)) = true) (hk : n.answer.pairs.length ≤ k) (hb : b = restOk n.op.query n.answer.pairs (stabM ms)) : b = askedM n ms := by
  unfold askedM; rw [part_t h3 hk, beq_iff_eq.2 h1, decide_eq_true (by omega), ← hb]; simp
def riseTo (l : List Pair) (k : Nat) : Prop := ∀ (j : Nat) (a b : Pair), j < k → l[j]? = some a → l[j + 1]? = some b → decide (b.id ≤ a.id) = false
theorem rising_t {l : List Pair} {k : Nat} (h : riseTo l k) (hk : l.length ≤ k + 1) : rising l = true := by unfold rising; rw [adj_f h hk]; rfl
theorem rising_f {l : List Pair} {k : Nat} {a b : Pair} (ha : l[k]? = some a) (hb : l[k + 1]? = some b) (h : b.id ≤ a.id) : rising l = false := by unfold rising; rw [adj_t ha hb (decide_eq_true h)]; rfl
theorem rising_sorted {l : List Pair} (h : rising l = true) : Sorted l := by
  unfold rising at h
  have h1 : adj (fun a b : Pair => decide (b.id ≤ a.id)) l = false := by simpa using h
  unfold Sorted
  clear h
  induction l with
  | nil => exact .nil
  | cons a l ih =>
    cases l with
    | nil => exact List.pairwise_singleton _ _
    | cons b l =>
      have h2 : decide (b.id ≤ a.id) = false := Bool.eq_false_iff.2 fun hc => by
        have := adj_t (r := fun a b : Pair => decide (b.id ≤ a.id)) (xs := a :: b :: l) (k := 0) rfl rfl hc
        rw [h1] at this; cases this
      have h3 : adj (fun a b : Pair => decide (b.id ≤ a.id)) (b :: l) = false := Bool.eq_false_iff.2 fun hc => by
        have : adj (fun a b : Pair => decide (b.id ≤ a.id)) (a :: b :: l) = true := by simp only [adj, hc, Bool.or_true]
        rw [h1] at this; cases this
      have h4 := ih h3
      refine List.pairwise_cons.2 ⟨fun x hx => ?_, h4⟩
      have h5 : a.id < b.id := by simpa using h2
      rcases List.mem_cons.1 hx with rfl | hx
      · exact h5
      · have := (List.pairwise_cons.1 h4).1 x hx; omega
theorem rest_far {q : Query} {got st : List Pair} (h : ¬ q.kind = 4) : restOk q got st = (rising got && !st.any (fun p => matchQ q p.rect && !inL got p)) := by unfold restOk; rw [if_neg h]
theorem rest_near {q : Query} {got st : List Pair} (h : q.kind = 4) : restOk q got st = nearOk q got st := by unfold restOk; rw [if_pos h]
theorem fold_lenP : ∀ (l : List Note) (p : List Pair), (l.foldl turnOf p).length ≤ p.length + l.length
  | [], p => by simp
  | n :: l, p => by
    have h1 := fold_lenP l (turnOf p n)
    have h2 := turnOf_len p n
    simp only [List.foldl_cons, List.length_cons]; omega
theorem model_len (notes : List Note) (t : Int) : (modelAt notes t).length ≤ notes.length := by
  unfold modelAt foldTurn
  have h1 := fold_lenP (notes.takeWhile (fun n => decide (n.at_ ≤ t))) []
  have h2 := (List.takeWhile_sublist (l := notes) (fun n => decide (n.at_ ≤ t))).length_le
  simp at h1; omega
theorem fit_sz {d : Nat} {r : Rect} (h : FitR d r) (hd : d ≤ 3) : szRect r ≤ 6 := by
  have h1 := h.lo; have h2 := h.hi
  unfold szRect; omega
/-! the pairs that stay, time by time -/
theorem stab_0 {notes : List Note} {lo hi : Int} : modelAt notes lo = (modelAt notes lo).filter (fun p => ((timesOf notes lo hi).take 1).all (fun t => inL (modelAt notes t) p)) := by
  symm; rw [List.filter_eq_self]
  intro p hp
  have h1 : (timesOf notes lo hi).take 1 = [lo] := rfl
  rw [h1]
  simp only [List.all_cons, List.all_nil, Bool.and_true]
  unfold inL
  rw [List.any_eq_true]
  exact ⟨p, hp, by simp⟩
theorem stab_on {notes : List Note} {lo hi t : Int} {k : Nat} {out : List Pair} (h : out = (modelAt notes lo).filter (fun p => ((timesOf notes lo hi).take k).all (fun t => inL (modelAt notes t) p))) (ht : (timesOf notes lo hi)[k]? = some t) {left : List Pair} {k2 : Nat} (hl : left = (out.take k2).filter (fun p => inL (modelAt notes t) p)) (hk : out.length ≤ k2) : left = (modelAt notes lo).filter (fun p => ((timesOf notes lo hi).take (k + 1)).all (fun t => inL (modelAt notes t) p)) := by
  rw [hl, List.take_of_length_le hk, h, List.filter_filter]
  refine List.filter_congr fun p _ => ?_
  rw [take_snoc ht, List.all_append]
  simp only [List.all_cons, List.all_nil, Bool.and_true]
  rw [Bool.and_comm]
theorem stab_end {notes : List Note} {lo hi d : Int} {k : Nat} {out : List Pair} (hf : timesFault notes d lo hi = 0) (h : out = (modelAt notes lo).filter (fun p => ((timesOf notes lo hi).take k).all (fun t => inL (modelAt notes t) p))) (hk : (timesOf notes lo hi).length ≤ k) : out = stabOf notes lo hi := by
  rw [stab_times hf, h, List.take_of_length_le hk]
theorem left_y {l left : List Pair} {q : Pair → Bool} {k : Nat} {y : Pair} (h : left = (l.take k).filter q) (hy : l[k]? = some y) (hq : q y = true) : left ++ [y] = (l.take (k + 1)).filter q := by
  rw [take_snoc hy, List.filter_append, ← h]; simp [hq]
theorem left_n {l left : List Pair} {q : Pair → Bool} {k : Nat} {y : Pair} (h : left = (l.take k).filter q) (hy : l[k]? = some y) (hq : ¬ q y = true) : left = (l.take (k + 1)).filter q := by
  rw [take_snoc hy, List.filter_append, ← h]; simp [hq]
theorem stabM_del {ms : List (List Pair)} {y : List Pair} (h : ms[0]? = some y) : List.filter (fun x => !(List.any ms (fun l => !inL l x))) y = stabM ms := by
  unfold stabM
  have h1 : ms.headD [] = y := by cases ms with
    | nil => simp at h
    | cons a l => simp at h; simpa using h
  rw [h1]
  refine List.filter_congr fun p _ => ?_
  rw [Bool.eq_iff_iff]; simp
theorem stabM_mem {ms : List (List Pair)} {x : Pair} (h : x ∈ stabM ms) : ∃ l ∈ ms, x ∈ l := by
  unfold stabM at h
  have h1 := (List.mem_filter.1 h).1
  cases ms with
  | nil => simp at h1
  | cons a l => exact ⟨a, by simp, by simpa using h1⟩
theorem stabM_len {ms : List (List Pair)} : (stabM ms).length ≤ (ms.headD []).length := List.length_filter_le _ _
theorem headD_at {ms : List (List Pair)} {y : List Pair} (h : ms[0]? = some y) : ms.headD [] = y := by cases ms with
  | nil => simp at h
  | cons a l => simp at h; simpa using h
def stableRes (notes : List Note) (d lo hi : Int) : PairsResult := if timesFault notes d lo hi = 0 then if 60 < ((modelAt notes lo).length : Int) then ⟨2, []⟩ else ⟨0, stabOf notes lo hi⟩ else ⟨timesFault notes d lo hi, []⟩
/-! who asked for one -/
theorem got_none {n : Note} {pairs : List Pair} {b : Bool} (h : idx (fun x : Pair => x.id == n.op.pair.id) pairs < 0) (hb : b = (n.answer.code == 4 && decide (n.answer.pairs = []))) : b = gotOk n pairs := by
  unfold gotOk
  have h1 : pairs.find? (fun p => p.id == n.op.pair.id) = none := by
    rw [List.find?_eq_none]
    intro x hx
    have := idx_neg (p := fun x : Pair => x.id == n.op.pair.id) (xs := pairs) (by omega) x hx
    simpa using this
  rw [h1]; exact hb
theorem got_at {n : Note} {pairs : List Pair} {b : Bool} {k : Nat} {y : Pair} (hy : pairs[k]? = some y) (hp : (y.id == n.op.pair.id) = true) (hn : ∀ (j : Nat) (x : Pair), j < k → pairs[j]? = some x → (x.id == n.op.pair.id) = false) (hb : b = (n.answer.code == 0 && decide (n.answer.pairs = [y]))) : b = gotOk n pairs := by
  unfold gotOk
  have h1 : pairs.find? (fun p => p.id == n.op.pair.id) = some y := by
    rw [List.find?_eq_some_iff_getElem]
    obtain ⟨hk, rfl⟩ := List.getElem?_eq_some_iff.1 hy
    refine ⟨hp, k, hk, rfl, fun j hj => ?_⟩
    have := hn j pairs[j] hj (List.getElem?_eq_getElem (by omega))
    simpa using this
  rw [h1]; exact hb
theorem nil_len {l : List Pair} : (((l.length : Nat) : Int) == 0) = decide (l = []) := by cases l <;> simp <;> omega
theorem one_ne {l : List Pair} {y : Pair} (h : ¬ ((l.length : Nat) : Int) = 1) : decide (l = [y]) = false := by
  rw [decide_eq_false_iff_not]; rintro rfl; exact h rfl
theorem one_eq {l : List Pair} {z y : Pair} (h : ((l.length : Nat) : Int) = 1) (hz : l[0]? = some z) : decide (l = [y]) = decide (z = y) := by
  match l, h with
  | [a], _ => simp at hz; subst hz; simp
  | [], h => simp at h
  | _ :: _ :: _, h => simp at h; omega
theorem cut1 {l : List Pair} {k : Nat} {y : Pair} (h : l[k]? = some y) : (l.take (k + 1)).drop k = [y] := by
  rw [take_snoc h, List.drop_append_of_le_length (by have := (List.getElem?_eq_some_iff.1 h).1; simp; omega), List.drop_of_length_le (by simp; omega)]; rfl
/-! an answer as a whole -/
theorem op_kind {o : Op} {d : Int} (h : opFault o d = 0) : 1 ≤ o.kind ∧ o.kind ≤ 4 := by
  unfold opFault at h
  split at h
  · split at h
    · rename_i hk
      unfold opKind at hk
      split at hk
      · omega
      · split at hk
        · omega
        · split at hk
          · omega
          · cases hk
    · cases h
  · cases h
theorem op_ask {o : Op} {d : Int} (h : opFault o d = 0) (hk : o.kind = 4) : queryFault o.query d = 0 := by
  unfold opFault at h
  rw [if_pos hk] at h
  split at h
  · split at h
    · exact h
    · cases h
  · cases h
theorem noQuery_eq {q : Query} (h : noQuery q = true) : q = ⟨0, ⟨[], []⟩, [], 0⟩ := by
  obtain ⟨k, ⟨lo, hi⟩, p, n⟩ := q
  simp only [noQuery, rectEmpty, Bool.and_eq_true, beq_iff_eq, decide_eq_true_eq] at h
  obtain ⟨⟨⟨rfl, h1, h2⟩, h3⟩, rfl⟩ := h
  obtain rfl : lo = [] := List.eq_nil_of_length_eq_zero (by omega)
  obtain rfl : hi = [] := List.eq_nil_of_length_eq_zero (by omega)
  obtain rfl : p = [] := List.eq_nil_of_length_eq_zero (by omega)
  rfl
theorem op_noq {o : Op} {d : Int} (h : opFault o d = 0) (hk : o.kind = 1 ∨ o.kind = 2) : noQuery o.query = true := by
  unfold opFault at h
  split at h
  · split at h
    · rename_i h1; unfold opKind at h1; rw [if_pos hk] at h1; exact h1
    · cases h
  · cases h
theorem op_same {a c : Op} {d : Int} (ha : opFault a d = 0) (hc : opFault c d = 0) (hk : c.kind = 1 ∨ c.kind = 2) : decide (a = c) = (a.kind == c.kind && decide (a.pair = c.pair)) := by
  rw [Bool.eq_iff_iff]
  simp only [decide_eq_true_eq, Bool.and_eq_true, beq_iff_eq]
  constructor
  · rintro rfl; exact ⟨rfl, rfl⟩
  · rintro ⟨h1, h2⟩
    have q1 := noQuery_eq (op_noq ha (by omega))
    have q2 := noQuery_eq (op_noq hc hk)
    cases a; cases c; simp_all
theorem noteAt_mem {l : List Note} {i : Nat} (hi : i < l.length) : noteAt l i ∈ l ∧ l[i]? = some (noteAt l i) := by
  have h1 : l[i]? = some l[i] := List.getElem?_eq_getElem hi
  have h2 := noteAt_of h1
  rw [← h2]; exact ⟨List.getElem_mem hi, h1⟩
theorem spanIx_some {l : List Note} {i : Nat} {m : Note} (h : spanIx l i = some m) : ∃ j, j < i ∧ l[j]? = some m := by
  unfold spanIx at h
  split at h
  · have h1 := List.mem_of_find?_eq_some h
    obtain ⟨j, hj⟩ := List.getElem?_of_mem (List.mem_reverse.1 h1)
    rw [List.getElem?_take] at hj
    split at hj
    · exact ⟨j, by assumption, hj⟩
    · cases hj
  · cases h
theorem falls_le {l : List Note} (h : falls l = false) {i j : Nat} {a b : Note} (hij : i < j) (ha : l[i]? = some a) (hb : l[j]? = some b) : a.at_ ≤ b.at_ := by
  have h1 := List.pairwise_iff_getElem.1 (falls_pw h)
  obtain ⟨hi, rfl⟩ := List.getElem?_eq_some_iff.1 ha
  obtain ⟨hj, rfl⟩ := List.getElem?_eq_some_iff.1 hb
  exact h1 i j hi hj hij
theorem note_time {n : Note} {d : Int} (h : noteFault n d = 0) : 0 ≤ n.at_ ∧ n.at_ ≤ 1000000 := by
  unfold noteFault at h
  split at h
  · split at h
    · rename_i h1; have := h1.1; unfold within at this; simpa using this
    · cases h
  · cases h
theorem span_times {l : List Note} {d : Int} {i : Nat} (h : notesFault l d = 0) (hi : i < l.length) (ho : spanOk l i = true) : timesFault l d (spanB l i) (spanE l i) = 0 := by
  unfold spanOk at ho
  obtain ⟨m, hm⟩ := Option.isSome_iff_exists.1 ho
  obtain ⟨j, hj, hjm⟩ := spanIx_some hm
  have e1 : spanB l i = m.at_ := by unfold spanB; rw [hm]
  have e2 : spanE l i = (noteAt l i).at_ := by unfold spanE; rw [hm]
  have t1 := note_time (notes_note h (List.mem_of_getElem? hjm)).1
  have t2 := note_time (notes_note h (noteAt_mem hi).1).1
  have t3 := falls_le (notes_falls h) hj hjm (noteAt_mem hi).2
  rw [e1, e2]
  unfold timesFault
  rw [if_pos h, if_pos]
  unfold within
  simp; omega
theorem models_mem {notes : List Note} {d lo hi : Int} (h : notesFault notes d = 0) {l : List Pair} (hl : l ∈ modelsOf notes lo hi) : ∃ t, l = modelAt notes t := by
  have h1 := models_any (lo := lo) (hi := hi) (P := fun x => decide (x = l)) (falls_pw (notes_falls h))
  have h2 : (modelsOf notes lo hi).any (fun x => decide (x = l)) = true := List.any_eq_true.2 ⟨l, hl, by simp⟩
  rw [h1] at h2
  obtain ⟨t, -, ht⟩ := List.any_eq_true.1 h2
  exact ⟨t, (of_decide_eq_true ht).symm⟩
theorem models_fit {notes : List Note} {d lo hi : Int} (h : notesFault notes d = 0) : ∀ l ∈ modelsOf notes lo hi, l.length ≤ 1048576 ∧ ∀ p ∈ l, FitR d.toNat p.rect := fun l hl => by
  obtain ⟨t, rfl⟩ := models_mem h hl
  have := model_len notes t
  have := (notes_0 h).1
  exact ⟨by omega, model_fit h t⟩
theorem note_fit {notes : List Note} {d : Int} {n : Note} (h : notesFault notes d = 0) (hn : n ∈ notes) : d.toNat ≤ 3 ∧ (n.op.kind = 4 → FitQ d.toNat n.op.query) ∧ (∀ p ∈ n.answer.pairs, FitR d.toNat p.rect) ∧ 1 ≤ n.op.kind ∧ n.op.kind ≤ 4 ∧ opFault n.op d = 0 := by
  have h1 := notes_note h hn
  have h2 := note_op h1.1
  have h3 := op_kind h2.1
  exact ⟨(dims_le h1.2).1, fun hk => (query_fit (op_ask h2.1 hk)).1, fun p hp => pair_fit (h2.2 p hp) h1.2, h3.1, h3.2, h2.1⟩
theorem spanRes_0 {l : List Note} {d i : Int} (h : (spanRes l d i).code = 0) : notesFault l d = 0 ∧ within i 0 ((l.length : Int) - 1) = true ∧ spanOk l i.toNat = true ∧ (spanRes l d i).begin_ = spanB l i.toNat ∧ (spanRes l d i).end_ = spanE l i.toNat := by
  unfold spanRes at h ⊢
  split at h
  · rename_i h1
    split at h
    · rename_i h2
      split at h
      · rename_i h3
        rw [if_pos h1, if_pos h2, if_pos h3]; exact ⟨h1, h2, h3, rfl, rfl⟩
      · cases h
    · cases h
  · rename_i h1; exact absurd h h1
theorem spanRes_n {l : List Note} {d i : Int} (h : ¬ (spanRes l d i).code = 0) : isAnswered l d i = false := by
  unfold spanRes at h
  unfold isAnswered
  split at h
  · rename_i h1
    rw [if_pos h1]
    split at h
    · rename_i h2
      rw [if_pos h2]
      split at h
      · exact absurd rfl h
      · rename_i h3; unfold answeredAt; rw [if_neg h3]
    · rename_i h2; rw [if_neg h2]
  · rename_i h1; rw [if_neg h1]
theorem ans_0 {l : List Note} {d : Int} {i : Nat} (h : ¬ spanOk l i = true) : false = answeredAt l d i := by unfold answeredAt; rw [if_neg h]
theorem ans_get {l : List Note} {d : Int} {i : Nat} {v : Bool} (h : spanOk l i = true) (hk : (noteAt l i).op.kind = 3) (hv : v = gotOk (noteAt l i) (modelAt l (spanE l i))) : v = answeredAt l d i := by unfold answeredAt; rw [if_pos h, if_pos hk]; exact hv
theorem ans_ask {l : List Note} {d : Int} {i : Nat} {v : Bool} (h : spanOk l i = true) (hk : (noteAt l i).op.kind = 4) (hv : v = askedOk l d (noteAt l i) (spanB l i) (spanE l i)) : v = answeredAt l d i := by unfold answeredAt; rw [if_pos h, if_neg (by omega), if_pos hk]; exact hv
theorem ans_did {l : List Note} {d : Int} {i : Nat} {v : Bool} (h : spanOk l i = true) (hk : ¬ (noteAt l i).op.kind = 3) (hk2 : ¬ (noteAt l i).op.kind = 4) (hv : v = (l.take i).any (didOne (noteAt l i) (spanB l i))) : v = answeredAt l d i := by unfold answeredAt; rw [if_pos h, if_neg hk, if_neg hk2]; exact hv
theorem isAns_of {l : List Note} {d : Int} {k : Nat} (h : notesFault l d = 0) (hk : k < l.length) : isAnswered l d (k : Int) = answeredAt l d k := by
  unfold isAnswered
  rw [if_pos h, if_pos (by unfold within; simp; omega)]; rfl
theorem serial_fault {l : List Note} {d : Int} (h : isSerial l d = true) : notesFault l d = 0 := by
  unfold isSerial at h; split at h
  · assumption
  · cases h
def explOne (l : List Note) (d : Int) (i : Nat) : Bool := !((noteAt l i).kind == 3) || answeredAt l d i
theorem expl_0 {l : List Note} {d : Int} (h : ¬ isSerial l d = true) : false = isExplained l d := by unfold isExplained; rw [Bool.eq_false_iff.2 h]; rfl
theorem expl_t {l : List Note} {d : Int} {k : Nat} (h : isSerial l d = true) (hall : ∀ j, j < k → explOne l d j = true) (hk : l.length ≤ k) : true = isExplained l d := by
  unfold isExplained; rw [h, Bool.true_and]; exact range_t (fun j hj => hall j (by omega))
theorem expl_f {l : List Note} {d : Int} {k : Nat} (h : isSerial l d = true) (hk : k < l.length) (h2 : explOne l d k = false) : false = isExplained l d := by
  unfold isExplained; rw [h, Bool.true_and]; exact range_f hk h2
theorem expl_y {l : List Note} {d : Int} {k : Nat} (h : (noteAt l k).kind = 3) {v : Bool} (hv : answeredAt l d k = v) : explOne l d k = v := by unfold explOne; rw [beq_iff_eq.2 h, hv]; rfl
theorem expl_n {l : List Note} {d : Int} {k : Nat} (h : ¬ (noteAt l k).kind = 3) : explOne l d k = true := by unfold explOne; rw [beq_eq_false_iff_ne.2 h]; rfl
theorem stable_0 {notes : List Note} {d lo hi : Int} (hf : timesFault notes d lo hi = 0) (h : (stableRes notes d lo hi).code = 0) : ¬ 60 < ((modelAt notes lo).length : Int) ∧ (stableRes notes d lo hi).pairs = stabOf notes lo hi := by
  unfold stableRes at h ⊢
  rw [if_pos hf] at h ⊢
  split at h
  · cases h
  · rename_i h1; rw [if_neg h1]; exact ⟨h1, rfl⟩
theorem stable_n {notes : List Note} {d lo hi : Int} (hf : timesFault notes d lo hi = 0) (h : ¬ (stableRes notes d lo hi).code = 0) : 60 < ((modelAt notes lo).length : Int) := by
  unfold stableRes at h
  rw [if_pos hf] at h
  split at h
  · assumption
  · exact absurd rfl h
def partW (notes : List Note) (d lo hi : Int) (q : Query) (got : List Pair) : Bool := got.all (fun p => matchQ q p.rect && wasIn notes d lo hi p)
theorem askedOk_eq (notes : List Note) (d : Int) (n : Note) (lo hi : Int) : askedOk notes d n lo hi = (n.answer.code == 0 && decide (((modelAt notes lo).length : Int) ≤ 60) && partW notes d lo hi n.op.query n.answer.pairs && restOk n.op.query n.answer.pairs (stabOf notes lo hi)) := rfl
theorem ask2_f1 {notes : List Note} {d lo hi : Int} {n : Note} {k : Nat} {y : Pair} (hy : n.answer.pairs[k]? = some y) (h : (matchQ n.op.query y.rect && wasIn notes d lo hi y) = false) : false = askedOk notes d n lo hi := by
  have h1 : partW notes d lo hi n.op.query n.answer.pairs = false := by
    unfold partW
    rw [List.all_eq_false]
    exact ⟨y, List.mem_of_getElem? hy, fun hc => by rw [hc] at h; cases h⟩
  rw [askedOk_eq, h1]; simp
theorem ask2_f2 {notes : List Note} {d lo hi : Int} {n : Note} (h : 60 < ((modelAt notes lo).length : Int)) : false = askedOk notes d n lo hi := by rw [askedOk_eq, decide_eq_false (by omega)]; simp
theorem ask2_f3 {notes : List Note} {d lo hi : Int} {n : Note} (h : ¬ n.answer.code = 0) : false = askedOk notes d n lo hi := by rw [askedOk_eq, beq_eq_false_iff_ne.2 h]; rfl
theorem ask2_t {notes : List Note} {d lo hi : Int} {n : Note} {k : Nat} {b : Bool} (h1 : n.answer.code = 0) (h2 : ¬ 60 < ((modelAt notes lo).length : Int)) (h3 : ∀ (j : Nat) (x : Pair), j < k → n.answer.pairs[j]? = some x → (matchQ n.op.query x.rect && wasIn notes d lo hi x) = true) (hk : n.answer.pairs.length ≤ k) (hb : b = restOk n.op.query n.answer.pairs (stabOf notes lo hi)) : b = askedOk notes d n lo hi := by
  have h4 : partW notes d lo hi n.op.query n.answer.pairs = true := all_of h3 hk
  rw [askedOk_eq, h4, beq_iff_eq.2 h1, decide_eq_true (by omega), ← hb]; simp
theorem take_any_t {α : Type} {p : α → Bool} {l : List α} {n k : Nat} {y : α} (hk : k < n) (hy : l[k]? = some y) (h : p y = true) : true = (l.take n).any p := by
  symm; rw [List.any_eq_true]
  exact ⟨y, List.mem_of_getElem? (i := k) (by rw [List.getElem?_take, if_pos hk]; exact hy), h⟩
theorem take_any_f {α : Type} {p : α → Bool} {l : List α} {n k : Nat} (h : ∀ (j : Nat) (x : α), j < k → l[j]? = some x → p x = false) (hk : n ≤ k) : false = (l.take n).any p := by
  symm; rw [List.any_eq_false]
  intro x hx
  obtain ⟨j, hj⟩ := List.getElem?_of_mem hx
  rw [List.getElem?_take] at hj
  split at hj
  · rw [h j x (by omega) hj]; simp
  · cases hj
theorem far_step {q : Query} {got S : List Pair} {k : Nat} {y : Pair} (h : ∀ (j : Nat) (x : Pair), j < k → S[j]? = some x → (matchQ q x.rect && !inL got x) = false) (hy : S[k]? = some y) (hp : (matchQ q y.rect && !inL got y) = false) : ∀ (j : Nat) (x : Pair), j < k + 1 → S[j]? = some x → (matchQ q x.rect && !inL got x) = false :=
  true_stepP (p := fun x => (matchQ q x.rect && !inL got x) = false) h hy hp
theorem far_0 {q : Query} {got : List Pair} {y : Pair} (h : ¬ matchQ q y.rect = true) : (matchQ q y.rect && !inL got y) = false := by rw [Bool.eq_false_iff.2 h]; rfl
theorem far_1 {q : Query} {got : List Pair} {y : Pair} (h : List.any got (fun x => decide (y = x)) = true) : (matchQ q y.rect && !inL got y) = false := by
  have h1 : inL got y = true := h
  rw [h1]; simp
theorem far_2 {q : Query} {got : List Pair} {y : Pair} (hm : matchQ q y.rect = true) (h : ¬ List.any got (fun x => decide (y = x)) = true) : (matchQ q y.rect && !inL got y) = true := by
  have h1 : inL got y = false := Bool.eq_false_iff.2 h
  rw [h1, hm]; rfl
theorem gen_yes {α : Type} {p : α → Bool} {R r : Bool} {S st : List α} {k : Nat} {y : α} (hR : R = (r && !st.any p)) (hr : r = true) (hS : S = st) (hy : S[k]? = some y) (hp : p y = true) : false = R := by
  rw [hR, hr, ← hS, any_some hy hp]; rfl
theorem gen_no {α : Type} {p : α → Bool} {R r : Bool} {S st : List α} {k : Nat} (hR : R = (r && !st.any p)) (hr : r = true) (hS : S = st) (hn : ∀ (j : Nat) (x : α), j < k → S[j]? = some x → p x = false) (hk : S.length ≤ k) : true = R := by
  rw [hR, hr, ← hS, any_none hn hk]; rfl
theorem far_yes {q : Query} {got S st : List Pair} {k : Nat} {y : Pair} (h : ¬ q.kind = 4) (hr : rising got = true) (hS : S = st) (hy : S[k]? = some y) (hp : (matchQ q y.rect && !inL got y) = true) : false = restOk q got st := by
  have z := rest_far (got := got) (st := st) h
  exact gen_yes z hr hS hy hp
theorem far_no {q : Query} {got S st : List Pair} {k : Nat} (h : ¬ q.kind = 4) (hr : rising got = true) (hS : S = st) (hn : ∀ (j : Nat) (x : Pair), j < k → S[j]? = some x → (matchQ q x.rect && !inL got x) = false) (hk : S.length ≤ k) : true = restOk q got st := by
  have z := rest_far (got := got) (st := st) h
  exact gen_no z hr hS hn hk

/-! impl.meets -/
set_option maxRecDepth 20000 in
set_option maxHeartbeats 2000000 in
theorem impl_meets (w : World) {Aa0 : Option Addr} {ca0 : Nat} {Aa1 : Option Addr} {ca1 : Nat} {a : Rect} {sa_ : List Nat} (ha : kRectS.Rel w [.slice Aa0 a.low.length ca0, .slice Aa1 a.high.length ca1] a [] sa_) {Ab0 : Option Addr} {cb0 : Nat} {Ab1 : Option Addr} {cb1 : Nat} {b : Rect} {sb_ : List Nat} (hb : kRectS.Rel w [.slice Ab0 b.low.length cb0, .slice Ab1 b.high.length cb1] b [] sb_) {d : Nat} (yFa : FitR d a) (yFb : FitR d b) : Calls Tryz.prog 139 #[.agg #[.slice Aa0 a.low.length ca0, .slice Aa1 a.high.length ca1], .agg #[.slice Ab0 b.low.length cb0, .slice Ab1 b.high.length cb1]] w (fun e_ w2_ => e_ = .returned (.bool (meetsR a b)) ∧ Below w.heap.size w w2_) := by
  have l1 := yFa.lo; have l2 := yFa.hi; have l3 := yFb.lo; have l4 := yFb.hi
  refine fnc (X := X10 37 w) (args := [.agg #[.slice Aa0 a.low.length ca0, .slice Aa1 a.high.length ca1], .agg #[.slice Ab0 b.low.length cb0, .slice Ab1 b.high.length cb1]]) (l := [(0, .agg #[.slice Aa0 a.low.length ca0, .slice Aa1 a.high.length ca1]), (1, .agg #[.slice Ab0 b.low.length cb0, .slice Ab1 b.high.length cb1])]) (G := [dat kRectS [.slice Ab0 b.low.length cb0, .slice Ab1 b.high.length cb1] b ([]) sb_, dat kRectS [.slice Aa0 a.low.length ca0, .slice Aa1 a.high.length ca1] a ([]) sa_]) Tryz.func139 rfl rfl rfl ⟨rfl, rfl, trivial⟩ (s0d hb (s0d ha (s0n w))).1 ?_
  refine sq (rg (bx rfl rfl rfl rfl ?_))
  intro b1
  refine bx rfl rfl rfl rfl ?_
  intro b2
  refine a_ rfl rfl (en (nx (sq (sq (rg (vl (fa rfl rfl rfl) rfl (vl (ldb (u := .slice Aa0 a.low.length ca0) 1 rfl rfl rfl rfl rfl rfl rfl) rfl (vl (ln rfl rfl rfl) rfl (m_ rfl rfl (en (nx (bk ?_))))))))))))
  refine lp (σ := Nat) (fun k : Nat => [(2, .pointer (some ⟨b1, 0, none⟩)), (3, .pointer (some ⟨b2, 0, none⟩)), (8, .int .i64 ((a.low.length : Nat) : Int)), (9, .int .i64 ((k : Nat) : Int))])
      (fun k : Nat => [blk b2 [.slice Ab0 b.low.length cb0, .slice Ab1 b.high.length cb1] 58, blk b1 [.slice Aa0 a.low.length ca0, .slice Aa1 a.high.length ca1] 58, dat kRectS [.slice Ab0 b.low.length cb0, .slice Ab1 b.high.length cb1] b ([]) sb_, dat kRectS [.slice Aa0 a.low.length ca0, .slice Aa1 a.high.length ca1] a ([]) sa_])
      (fun k : Nat => k ≤ a.low.length ∧ ∀ j, j < k → meets1 a b j = true) (fun k : Nat => a.low.length - k) 0 [0, 0, 0, 0] ⟨Nat.zero_le _, by simp⟩ ⟨rfl, rfl, rfl, rfl, trivial⟩ rfl ?_
  intro k hp_
  obtain ⟨hk, hinv⟩ := hp_
  refine sq (rg (vl (cm rfl rfl rfl rfl) rfl (en (nx (sq ?_)))))
  by_cases h3 : ((k : Nat) : Int) < ((a.low.length : Nat) : Int)
  · refine ct rfl (decide_eq_true h3) (sk (nx (sq (bk (sq (rg (m_ rfl rfl (a_ rfl rfl (en (nx (sq ?_)))))))))))
    refine gd 3 kRectS_p0_1 rfl (cs' := [.slice Aa0 a.low.length ca0]) rfl fun s4 w_ rs4 us4 => ?_
    have Ls4 := Kd.sl_len rs4; have Cs4 := Kd.sl_cap rs4
    refine gx 0 k rfl (by omega) fun y10 p5 cs_ s6 w9 m11 e7 r8 us6 => ?_
    obtain ⟨rfl, -, -⟩ := r8
    refine gd 4 kRectS_p1_1 rfl (cs' := [.slice Ab1 b.high.length cb1]) rfl fun s12 w_ rs12 us12 => ?_
    have Ls12 := Kd.sl_len rs12; have Cs12 := Kd.sl_cap rs12
    refine gx 0 k rfl (by omega) fun y18 p13 cs_ s14 w17 m19 e15 r16 us14 => ?_
    obtain ⟨rfl, -, -⟩ := r16
    by_cases h20 : y18 < y10
    · refine r0 (qv 0 rfl (fa rfl rfl rfl) rfl (by kernel_rfl) (qv 1 rfl (ldb (u := .slice Aa0 a.low.length ca0) 5 rfl rfl rfl rfl rfl rfl rfl) rfl (by kernel_rfl) (qv 2 rfl (mv rfl rfl) rfl (by kernel_rfl) (qv 3 rfl (ix k e7 rfl rfl rfl rfl rfl (by omega)) rfl (by kernel_rfl) (qv 4 rfl (ldq (u := .int .i64 y10) 2 rfl rfl rfl rfl rfl rfl rfl) rfl (by kernel_rfl) (qv 5 rfl (fa rfl rfl rfl) rfl (by kernel_rfl) (qv 6 rfl (ldb (u := .slice Ab1 b.high.length cb1) 4 rfl rfl rfl rfl rfl rfl rfl) rfl (by kernel_rfl) (qv 7 rfl (mv rfl rfl) rfl (by kernel_rfl) (qv 8 rfl (ix k e15 rfl rfl rfl rfl rfl (by omega)) rfl (by kernel_rfl) (qv 9 rfl (ldq (u := .int .i64 y18) 0 rfl rfl rfl rfl rfl rfl rfl) rfl (by kernel_rfl) (qv 10 rfl (cm rfl rfl rfl rfl) rfl (by kernel_rfl) (qv 11 rfl (mv rfl rfl) rfl (by kernel_rfl) (qs 12 rfl rfl rfl (decide_eq_true h20) (by kernel_rfl) (qs 13 rfl rfl rfl (decide_eq_true h20) (by kernel_rfl) (qs 14 rfl rfl rfl (decide_eq_true h20) (by kernel_rfl) (qs 15 rfl rfl rfl (decide_eq_true h20) (by kernel_rfl) (qs 16 rfl rfl rfl (decide_eq_true h20) (by kernel_rfl) (qs 17 rfl rfl rfl (decide_eq_true h20) (by kernel_rfl) (qs 18 rfl rfl rfl (decide_eq_true h20) (by kernel_rfl) (qs 19 rfl rfl rfl (decide_eq_true h20) (by kernel_rfl) (qs 20 rfl rfl rfl (decide_eq_true h20) (by kernel_rfl) (qs 21 rfl rfl rfl (decide_eq_true h20) (by kernel_rfl) (qs 22 rfl rfl rfl (decide_eq_true h20) (by kernel_rfl) (qv 23 rfl (pk (b := true) rfl rfl (decide_eq_true h20) rfl) rfl (by kernel_rfl) (qe [0, 0, 0, 0, 0, 0, 0, 0] (by kernel_rfl) rfl (nx (ct rfl rfl (sq (rg (a_ rfl rfl (en (nx (rt (xrb (xr (xr (xrb (xr (ret1 rfl rfl (fun w_ hs_ => ⟨?_, hs_.below⟩))))))))))))))))))))))))))))))))))))))))
      exact rb (range_f (k := k) (by omega) (meets1_f1 m11 m19 h20))
    · refine gd 6 kRectS_p0_1 rfl (cs' := [.slice Ab0 b.low.length cb0]) rfl fun s21 w_ rs21 us21 => ?_
      have Ls21 := Kd.sl_len rs21; have Cs21 := Kd.sl_cap rs21
      refine gx 0 k rfl (by omega) fun y27 p22 cs_ s23 w26 m28 e24 r25 us23 => ?_
      obtain ⟨rfl, -, -⟩ := r25
      refine gd 9 kRectS_p1_1 rfl (cs' := [.slice Aa1 a.high.length ca1]) rfl fun s29 w_ rs29 us29 => ?_
      have Ls29 := Kd.sl_len rs29; have Cs29 := Kd.sl_cap rs29
      refine gx 0 k rfl (by omega) fun y35 p30 cs_ s31 w34 m36 e32 r33 us31 => ?_
      obtain ⟨rfl, -, -⟩ := r33
      refine r0 (qv 0 rfl (fa rfl rfl rfl) rfl (by kernel_rfl) (qv 1 rfl (ldb (u := .slice Aa0 a.low.length ca0) 9 rfl rfl rfl rfl rfl rfl rfl) rfl (by kernel_rfl) (qv 2 rfl (mv rfl rfl) rfl (by kernel_rfl) (qv 3 rfl (ix k e7 rfl rfl rfl rfl rfl (by omega)) rfl (by kernel_rfl) (qv 4 rfl (ldq (u := .int .i64 y10) 6 rfl rfl rfl rfl rfl rfl rfl) rfl (by kernel_rfl) (qv 5 rfl (fa rfl rfl rfl) rfl (by kernel_rfl) (qv 6 rfl (ldb (u := .slice Ab1 b.high.length cb1) 8 rfl rfl rfl rfl rfl rfl rfl) rfl (by kernel_rfl) (qv 7 rfl (mv rfl rfl) rfl (by kernel_rfl) (qv 8 rfl (ix k e15 rfl rfl rfl rfl rfl (by omega)) rfl (by kernel_rfl) (qv 9 rfl (ldq (u := .int .i64 y18) 4 rfl rfl rfl rfl rfl rfl rfl) rfl (by kernel_rfl) (qv 10 rfl (cm rfl rfl rfl rfl) rfl (by kernel_rfl) (qv 11 rfl (mv rfl rfl) rfl (by kernel_rfl) (qg 12 rfl (fa rfl rfl rfl) rfl rfl (decide_eq_false h20) (by kernel_rfl) (qg 13 rfl (ldb (u := .slice Ab0 b.low.length cb0) 8 rfl rfl rfl rfl rfl rfl rfl) rfl rfl (decide_eq_false h20) (by kernel_rfl) (qg 14 rfl (mv rfl rfl) rfl rfl (decide_eq_false h20) (by kernel_rfl) (qg 15 rfl (ix k e24 rfl rfl rfl rfl rfl (by omega)) rfl rfl (decide_eq_false h20) (by kernel_rfl) (qg 16 rfl (ldq (u := .int .i64 y27) 2 rfl rfl rfl rfl rfl rfl rfl) rfl rfl (decide_eq_false h20) (by kernel_rfl) (qg 17 rfl (fa rfl rfl rfl) rfl rfl (decide_eq_false h20) (by kernel_rfl) (qg 18 rfl (ldb (u := .slice Aa1 a.high.length ca1) 9 rfl rfl rfl rfl rfl rfl rfl) rfl rfl (decide_eq_false h20) (by kernel_rfl) (qg 19 rfl (mv rfl rfl) rfl rfl (decide_eq_false h20) (by kernel_rfl) (qg 20 rfl (ix k e32 rfl rfl rfl rfl rfl (by omega)) rfl rfl (decide_eq_false h20) (by kernel_rfl) (qg 21 rfl (ldq (u := .int .i64 y35) 0 rfl rfl rfl rfl rfl rfl rfl) rfl rfl (decide_eq_false h20) (by kernel_rfl) (qg 22 rfl (cm rfl rfl rfl rfl) rfl rfl (decide_eq_false h20) (by kernel_rfl) (qv 23 rfl (pk (b := false) rfl rfl (decide_eq_false h20) rfl) rfl (by kernel_rfl) (qe [0, 0, 0, 0, 0, 0, 0, 0, 0, 0, 0, 0] (by kernel_rfl) rfl (nx ?_))))))))))))))))))))))))))
      by_cases h37 : y35 < y27
      · refine ct rfl (decide_eq_true h37) (sq (rg (a_ rfl rfl (en (nx (rt (xrb (xr (xr (xrb (xr (ret1 rfl rfl (fun w_ hs_ => ⟨?_, hs_.below⟩)))))))))))))
        exact rb (range_f (k := k) (by omega) (meets1_f2 m28 m36 h37))
      · exact cf rfl (decide_eq_false h37) (sk (xn (nx (rg (vl (ra (c := ((k + 1 : Nat) : Int)) rfl rfl rfl (by omega) (by omega) (by omega)) rfl (m_ rfl rfl (en (lpe (s := k) (k + 1) [8, 8, 8, 8] ⟨by omega, (fun j hj => by rcases Nat.lt_succ_iff_lt_or_eq.1 hj with h_ | rfl; exact hinv j h_; exact meets1_t m11 m19 m28 m36 h20 h37)⟩ (by omega) ⟨rfl, rfl, rfl, rfl, trivial⟩ rfl))))))))
  · refine cf rfl (decide_eq_false h3) (xt (xq (xq (xb (nx (sq (rg (a_ rfl rfl (en (nx (rt (ret1 rfl rfl (fun w_ hs_ => ⟨?_, hs_.below⟩)))))))))))))
    exact rb (range_t (fun j hj => hinv j (by omega)))
/-! spec.l1Meets -/
set_option maxRecDepth 20000 in
set_option maxHeartbeats 2000000 in
theorem spec_l1Meets (w : World) {Aa0 : Option Addr} {ca0 : Nat} {Aa1 : Option Addr} {ca1 : Nat} {a : Rect} {sa_ : List Nat} {pa : Addr} (ha : (ptr kRectS pa [.slice Aa0 a.low.length ca0, .slice Aa1 a.high.length ca1] a sa_).P w) {Ab0 : Option Addr} {cb0 : Nat} {Ab1 : Option Addr} {cb1 : Nat} {b : Rect} {sb_ : List Nat} {pb : Addr} (hb : (ptr kRectS pb [.slice Ab0 b.low.length cb0, .slice Ab1 b.high.length cb1] b sb_).P w) {d : Nat} (yFa : FitR d a) (yFb : FitR d b) : Calls Tryz.prog 103 #[.pointer (some pa), .pointer (some pb)] w (fun e_ w2_ => e_ = .returned (.bool (meetsR a b)) ∧ Below w.heap.size w w2_) := by
  have l1 := yFa.lo; have l2 := yFa.hi; have l3 := yFb.lo; have l4 := yFb.hi
  refine fnc (X := X10 47 w) (args := [.pointer (some pa), .pointer (some pb)]) (l := [(0, .pointer (some pa)), (1, .pointer (some pb))]) (G := [ptr kRectS pb [.slice Ab0 b.low.length cb0, .slice Ab1 b.high.length cb1] b sb_, ptr kRectS pa [.slice Aa0 a.low.length ca0, .slice Aa1 a.high.length ca1] a sa_]) Tryz.func103 rfl rfl rfl ⟨rfl, rfl, trivial⟩ (s0p hb (s0p ha (s0n w))).1 ?_
  refine sq (rg (a_ rfl rfl (en (nx (sq (sq (rg (a_ rfl rfl (en (nx (bk ?_)))))))))))
  refine lp (σ := Nat) (fun k : Nat => [(0, .pointer (some pa)), (1, .pointer (some pb)), (5, .int .i64 ((k : Nat) : Int))])
      (fun k : Nat => [ptr kRectS pb [.slice Ab0 b.low.length cb0, .slice Ab1 b.high.length cb1] b sb_, ptr kRectS pa [.slice Aa0 a.low.length ca0, .slice Aa1 a.high.length ca1] a sa_])
      (fun k : Nat => k ≤ a.low.length ∧ ∀ j, j < k → meets1 a b j = true) (fun k : Nat => a.low.length - k) 0 [0, 0] ⟨Nat.zero_le _, by simp⟩ ⟨rfl, rfl, rfl, trivial⟩ rfl ?_
  intro k hp_
  obtain ⟨hk, hinv⟩ := hp_
  refine sq (sq (rg (m_ rfl rfl (m_ rfl rfl (vl (nc rfl rfl) rfl (vl (fa rfl rfl rfl) rfl (vl (ldp (u := .slice Aa0 a.low.length ca0) 1 rfl rfl rfl rfl rfl rfl rfl) rfl (vl (ln rfl rfl rfl) rfl (vl (cm rfl rfl rfl rfl) rfl (en (nx ?_)))))))))))
  by_cases h1 : ((k : Nat) : Int) < ((a.low.length : Nat) : Int)
  · refine ct rfl (decide_eq_true h1) (sk (nx (sq (bk (sq ?_)))))
    refine gp 1 kRectS_p0_1 rfl (cs' := [.slice Aa0 a.low.length ca0]) rfl fun s2 w_ rs2 us2 => ?_
    have Ls2 := Kd.sl_len rs2; have Cs2 := Kd.sl_cap rs2
    refine gx 0 k rfl (by omega) fun y8 p3 cs_ s4 w7 m9 e5 r6 us4 => ?_
    obtain ⟨rfl, -, -⟩ := r6
    refine gp 2 kRectS_p1_1 rfl (cs' := [.slice Ab1 b.high.length cb1]) rfl fun s10 w_ rs10 us10 => ?_
    have Ls10 := Kd.sl_len rs10; have Cs10 := Kd.sl_cap rs10
    refine gx 0 k rfl (by omega) fun y16 p11 cs_ s12 w15 m17 e13 r14 us12 => ?_
    obtain ⟨rfl, -, -⟩ := r14
    by_cases h18 : y16 < y8
    · refine r0 (qv 0 rfl (mv rfl rfl) rfl (by kernel_rfl) (qv 1 rfl (nc rfl rfl) rfl (by kernel_rfl) (qv 2 rfl (fa rfl rfl rfl) rfl (by kernel_rfl) (qv 3 rfl (ldp (u := .slice Aa0 a.low.length ca0) 5 rfl rfl rfl rfl rfl rfl rfl) rfl (by kernel_rfl) (qv 4 rfl (mv rfl rfl) rfl (by kernel_rfl) (qv 5 rfl (ix k e5 rfl rfl rfl rfl rfl (by omega)) rfl (by kernel_rfl) (qv 6 rfl (ldq (u := .int .i64 y8) 2 rfl rfl rfl rfl rfl rfl rfl) rfl (by kernel_rfl) (qv 7 rfl (mv rfl rfl) rfl (by kernel_rfl) (qv 8 rfl (nc rfl rfl) rfl (by kernel_rfl) (qv 9 rfl (fa rfl rfl rfl) rfl (by kernel_rfl) (qv 10 rfl (ldp (u := .slice Ab1 b.high.length cb1) 4 rfl rfl rfl rfl rfl rfl rfl) rfl (by kernel_rfl) (qv 11 rfl (mv rfl rfl) rfl (by kernel_rfl) (qv 12 rfl (ix k e13 rfl rfl rfl rfl rfl (by omega)) rfl (by kernel_rfl) (qv 13 rfl (ldq (u := .int .i64 y16) 0 rfl rfl rfl rfl rfl rfl rfl) rfl (by kernel_rfl) (qv 14 rfl (cm rfl rfl rfl rfl) rfl (by kernel_rfl) (qv 15 rfl (mv rfl rfl) rfl (by kernel_rfl) (qs 16 rfl rfl rfl (decide_eq_true h18) (by kernel_rfl) (qs 17 rfl rfl rfl (decide_eq_true h18) (by kernel_rfl) (qs 18 rfl rfl rfl (decide_eq_true h18) (by kernel_rfl) (qs 19 rfl rfl rfl (decide_eq_true h18) (by kernel_rfl) (qs 20 rfl rfl rfl (decide_eq_true h18) (by kernel_rfl) (qs 21 rfl rfl rfl (decide_eq_true h18) (by kernel_rfl) (qs 22 rfl rfl rfl (decide_eq_true h18) (by kernel_rfl) (qs 23 rfl rfl rfl (decide_eq_true h18) (by kernel_rfl) (qs 24 rfl rfl rfl (decide_eq_true h18) (by kernel_rfl) (qs 25 rfl rfl rfl (decide_eq_true h18) (by kernel_rfl) (qs 26 rfl rfl rfl (decide_eq_true h18) (by kernel_rfl) (qs 27 rfl rfl rfl (decide_eq_true h18) (by kernel_rfl) (qs 28 rfl rfl rfl (decide_eq_true h18) (by kernel_rfl) (qs 29 rfl rfl rfl (decide_eq_true h18) (by kernel_rfl) (qs 30 rfl rfl rfl (decide_eq_true h18) (by kernel_rfl) (qv 31 rfl (pk (b := true) rfl rfl (decide_eq_true h18) rfl) rfl (by kernel_rfl) (qe [0, 0, 0, 0, 0, 0] (by kernel_rfl) rfl (nx (ct rfl rfl (sq (rg (a_ rfl rfl (en (nx (rt (xrb (xr (xr (xrb (xr (ret1 rfl rfl (fun w_ hs_ => ⟨?_, hs_.below⟩))))))))))))))))))))))))))))))))))))))))))))))))
      exact rb (range_f (k := k) (by omega) (meets1_f1 m9 m17 h18))
    · refine gp 4 kRectS_p0_1 rfl (cs' := [.slice Ab0 b.low.length cb0]) rfl fun s19 w_ rs19 us19 => ?_
      have Ls19 := Kd.sl_len rs19; have Cs19 := Kd.sl_cap rs19
      refine gx 0 k rfl (by omega) fun y25 p20 cs_ s21 w24 m26 e22 r23 us21 => ?_
      obtain ⟨rfl, -, -⟩ := r23
      refine gp 7 kRectS_p1_1 rfl (cs' := [.slice Aa1 a.high.length ca1]) rfl fun s27 w_ rs27 us27 => ?_
      have Ls27 := Kd.sl_len rs27; have Cs27 := Kd.sl_cap rs27
      refine gx 0 k rfl (by omega) fun y33 p28 cs_ s29 w32 m34 e30 r31 us29 => ?_
      obtain ⟨rfl, -, -⟩ := r31
      refine r0 (qv 0 rfl (mv rfl rfl) rfl (by kernel_rfl) (qv 1 rfl (nc rfl rfl) rfl (by kernel_rfl) (qv 2 rfl (fa rfl rfl rfl) rfl (by kernel_rfl) (qv 3 rfl (ldp (u := .slice Aa0 a.low.length ca0) 9 rfl rfl rfl rfl rfl rfl rfl) rfl (by kernel_rfl) (qv 4 rfl (mv rfl rfl) rfl (by kernel_rfl) (qv 5 rfl (ix k e5 rfl rfl rfl rfl rfl (by omega)) rfl (by kernel_rfl) (qv 6 rfl (ldq (u := .int .i64 y8) 6 rfl rfl rfl rfl rfl rfl rfl) rfl (by kernel_rfl) (qv 7 rfl (mv rfl rfl) rfl (by kernel_rfl) (qv 8 rfl (nc rfl rfl) rfl (by kernel_rfl) (qv 9 rfl (fa rfl rfl rfl) rfl (by kernel_rfl) (qv 10 rfl (ldp (u := .slice Ab1 b.high.length cb1) 8 rfl rfl rfl rfl rfl rfl rfl) rfl (by kernel_rfl) (qv 11 rfl (mv rfl rfl) rfl (by kernel_rfl) (qv 12 rfl (ix k e13 rfl rfl rfl rfl rfl (by omega)) rfl (by kernel_rfl) (qv 13 rfl (ldq (u := .int .i64 y16) 4 rfl rfl rfl rfl rfl rfl rfl) rfl (by kernel_rfl) (qv 14 rfl (cm rfl rfl rfl rfl) rfl (by kernel_rfl) (qv 15 rfl (mv rfl rfl) rfl (by kernel_rfl) (qg 16 rfl (mv rfl rfl) rfl rfl (decide_eq_false h18) (by kernel_rfl) (qg 17 rfl (nc rfl rfl) rfl rfl (decide_eq_false h18) (by kernel_rfl) (qg 18 rfl (fa rfl rfl rfl) rfl rfl (decide_eq_false h18) (by kernel_rfl) (qg 19 rfl (ldp (u := .slice Ab0 b.low.length cb0) 8 rfl rfl rfl rfl rfl rfl rfl) rfl rfl (decide_eq_false h18) (by kernel_rfl) (qg 20 rfl (mv rfl rfl) rfl rfl (decide_eq_false h18) (by kernel_rfl) (qg 21 rfl (ix k e22 rfl rfl rfl rfl rfl (by omega)) rfl rfl (decide_eq_false h18) (by kernel_rfl) (qg 22 rfl (ldq (u := .int .i64 y25) 2 rfl rfl rfl rfl rfl rfl rfl) rfl rfl (decide_eq_false h18) (by kernel_rfl) (qg 23 rfl (mv rfl rfl) rfl rfl (decide_eq_false h18) (by kernel_rfl) (qg 24 rfl (nc rfl rfl) rfl rfl (decide_eq_false h18) (by kernel_rfl) (qg 25 rfl (fa rfl rfl rfl) rfl rfl (decide_eq_false h18) (by kernel_rfl) (qg 26 rfl (ldp (u := .slice Aa1 a.high.length ca1) 9 rfl rfl rfl rfl rfl rfl rfl) rfl rfl (decide_eq_false h18) (by kernel_rfl) (qg 27 rfl (mv rfl rfl) rfl rfl (decide_eq_false h18) (by kernel_rfl) (qg 28 rfl (ix k e30 rfl rfl rfl rfl rfl (by omega)) rfl rfl (decide_eq_false h18) (by kernel_rfl) (qg 29 rfl (ldq (u := .int .i64 y33) 0 rfl rfl rfl rfl rfl rfl rfl) rfl rfl (decide_eq_false h18) (by kernel_rfl) (qg 30 rfl (cm rfl rfl rfl rfl) rfl rfl (decide_eq_false h18) (by kernel_rfl) (qv 31 rfl (pk (b := false) rfl rfl (decide_eq_false h18) rfl) rfl (by kernel_rfl) (qe [0, 0, 0, 0, 0, 0, 0, 0, 0, 0] (by kernel_rfl) rfl (nx ?_))))))))))))))))))))))))))))))))))
      by_cases h35 : y33 < y25
      · refine ct rfl (decide_eq_true h35) (sq (rg (a_ rfl rfl (en (nx (rt (xrb (xr (xr (xrb (xr (ret1 rfl rfl (fun w_ hs_ => ⟨?_, hs_.below⟩)))))))))))))
        exact rb (range_f (k := k) (by omega) (meets1_f2 m26 m34 h35))
      · exact cf rfl (decide_eq_false h35) (sk (xn (nx (rg (m_ rfl rfl (vl (ra (c := ((k + 1 : Nat) : Int)) rfl rfl rfl (by omega) (by omega) (by omega)) rfl (a_ rfl rfl (en (lpe (s := k) (k + 1) [8, 8] ⟨by omega, (fun j hj => by rcases Nat.lt_succ_iff_lt_or_eq.1 hj with h_ | rfl; exact hinv j h_; exact meets1_t m9 m17 m26 m34 h18 h35)⟩ (by omega) ⟨rfl, rfl, rfl, trivial⟩ rfl)))))))))
  · refine cf rfl (decide_eq_false h1) (xt (xq (xq (xb (nx (sq (rg (a_ rfl rfl (en (nx (rt (ret1 rfl rfl (fun w_ hs_ => ⟨?_, hs_.below⟩)))))))))))))
    exact rb (range_t (fun j hj => hinv j (by omega)))
/-! impl.covers -/
set_option maxRecDepth 20000 in
set_option maxHeartbeats 2000000 in
theorem impl_covers (w : World) {Aa0 : Option Addr} {ca0 : Nat} {Aa1 : Option Addr} {ca1 : Nat} {a : Rect} {sa_ : List Nat} (ha : kRectS.Rel w [.slice Aa0 a.low.length ca0, .slice Aa1 a.high.length ca1] a [] sa_) {Ab0 : Option Addr} {cb0 : Nat} {Ab1 : Option Addr} {cb1 : Nat} {b : Rect} {sb_ : List Nat} (hb : kRectS.Rel w [.slice Ab0 b.low.length cb0, .slice Ab1 b.high.length cb1] b [] sb_) {d : Nat} (yFa : FitR d a) (yFb : FitR d b) : Calls Tryz.prog 140 #[.agg #[.slice Aa0 a.low.length ca0, .slice Aa1 a.high.length ca1], .agg #[.slice Ab0 b.low.length cb0, .slice Ab1 b.high.length cb1]] w (fun e_ w2_ => e_ = .returned (.bool (coversR a b)) ∧ Below w.heap.size w w2_) := by
  have l1 := yFa.lo; have l2 := yFa.hi; have l3 := yFb.lo; have l4 := yFb.hi
  refine fnc (X := X10 37 w) (args := [.agg #[.slice Aa0 a.low.length ca0, .slice Aa1 a.high.length ca1], .agg #[.slice Ab0 b.low.length cb0, .slice Ab1 b.high.length cb1]]) (l := [(0, .agg #[.slice Aa0 a.low.length ca0, .slice Aa1 a.high.length ca1]), (1, .agg #[.slice Ab0 b.low.length cb0, .slice Ab1 b.high.length cb1])]) (G := [dat kRectS [.slice Ab0 b.low.length cb0, .slice Ab1 b.high.length cb1] b ([]) sb_, dat kRectS [.slice Aa0 a.low.length ca0, .slice Aa1 a.high.length ca1] a ([]) sa_]) Tryz.func140 rfl rfl rfl ⟨rfl, rfl, trivial⟩ (s0d hb (s0d ha (s0n w))).1 ?_
  refine sq (rg (bx rfl rfl rfl rfl ?_))
  intro b1
  refine bx rfl rfl rfl rfl ?_
  intro b2
  refine a_ rfl rfl (en (nx (sq (sq (rg (vl (fa rfl rfl rfl) rfl (vl (ldb (u := .slice Aa0 a.low.length ca0) 1 rfl rfl rfl rfl rfl rfl rfl) rfl (vl (ln rfl rfl rfl) rfl (m_ rfl rfl (en (nx (bk ?_))))))))))))
  refine lp (σ := Nat) (fun k : Nat => [(2, .pointer (some ⟨b1, 0, none⟩)), (3, .pointer (some ⟨b2, 0, none⟩)), (8, .int .i64 ((a.low.length : Nat) : Int)), (9, .int .i64 ((k : Nat) : Int))])
      (fun k : Nat => [blk b2 [.slice Ab0 b.low.length cb0, .slice Ab1 b.high.length cb1] 58, blk b1 [.slice Aa0 a.low.length ca0, .slice Aa1 a.high.length ca1] 58, dat kRectS [.slice Ab0 b.low.length cb0, .slice Ab1 b.high.length cb1] b ([]) sb_, dat kRectS [.slice Aa0 a.low.length ca0, .slice Aa1 a.high.length ca1] a ([]) sa_])
      (fun k : Nat => k ≤ a.low.length ∧ ∀ j, j < k → covers1 a b j = true) (fun k : Nat => a.low.length - k) 0 [0, 0, 0, 0] ⟨Nat.zero_le _, by simp⟩ ⟨rfl, rfl, rfl, rfl, trivial⟩ rfl ?_
  intro k hp_
  obtain ⟨hk, hinv⟩ := hp_
  refine sq (rg (vl (cm rfl rfl rfl rfl) rfl (en (nx (sq ?_)))))
  by_cases h3 : ((k : Nat) : Int) < ((a.low.length : Nat) : Int)
  · refine ct rfl (decide_eq_true h3) (sk (nx (sq (bk (sq (rg (m_ rfl rfl (a_ rfl rfl (en (nx (sq ?_)))))))))))
    refine gd 3 kRectS_p0_1 rfl (cs' := [.slice Aa0 a.low.length ca0]) rfl fun s4 w_ rs4 us4 => ?_
    have Ls4 := Kd.sl_len rs4; have Cs4 := Kd.sl_cap rs4
    refine gx 0 k rfl (by omega) fun y10 p5 cs_ s6 w9 m11 e7 r8 us6 => ?_
    obtain ⟨rfl, -, -⟩ := r8
    refine gd 4 kRectS_p0_1 rfl (cs' := [.slice Ab0 b.low.length cb0]) rfl fun s12 w_ rs12 us12 => ?_
    have Ls12 := Kd.sl_len rs12; have Cs12 := Kd.sl_cap rs12
    refine gx 0 k rfl (by omega) fun y18 p13 cs_ s14 w17 m19 e15 r16 us14 => ?_
    obtain ⟨rfl, -, -⟩ := r16
    by_cases h20 : y18 < y10
    · refine r0 (qv 0 rfl (fa rfl rfl rfl) rfl (by kernel_rfl) (qv 1 rfl (ldb (u := .slice Aa0 a.low.length ca0) 5 rfl rfl rfl rfl rfl rfl rfl) rfl (by kernel_rfl) (qv 2 rfl (mv rfl rfl) rfl (by kernel_rfl) (qv 3 rfl (ix k e7 rfl rfl rfl rfl rfl (by omega)) rfl (by kernel_rfl) (qv 4 rfl (ldq (u := .int .i64 y10) 2 rfl rfl rfl rfl rfl rfl rfl) rfl (by kernel_rfl) (qv 5 rfl (fa rfl rfl rfl) rfl (by kernel_rfl) (qv 6 rfl (ldb (u := .slice Ab0 b.low.length cb0) 4 rfl rfl rfl rfl rfl rfl rfl) rfl (by kernel_rfl) (qv 7 rfl (mv rfl rfl) rfl (by kernel_rfl) (qv 8 rfl (ix k e15 rfl rfl rfl rfl rfl (by omega)) rfl (by kernel_rfl) (qv 9 rfl (ldq (u := .int .i64 y18) 0 rfl rfl rfl rfl rfl rfl rfl) rfl (by kernel_rfl) (qv 10 rfl (cm rfl rfl rfl rfl) rfl (by kernel_rfl) (qv 11 rfl (mv rfl rfl) rfl (by kernel_rfl) (qs 12 rfl rfl rfl (decide_eq_true h20) (by kernel_rfl) (qs 13 rfl rfl rfl (decide_eq_true h20) (by kernel_rfl) (qs 14 rfl rfl rfl (decide_eq_true h20) (by kernel_rfl) (qs 15 rfl rfl rfl (decide_eq_true h20) (by kernel_rfl) (qs 16 rfl rfl rfl (decide_eq_true h20) (by kernel_rfl) (qs 17 rfl rfl rfl (decide_eq_true h20) (by kernel_rfl) (qs 18 rfl rfl rfl (decide_eq_true h20) (by kernel_rfl) (qs 19 rfl rfl rfl (decide_eq_true h20) (by kernel_rfl) (qs 20 rfl rfl rfl (decide_eq_true h20) (by kernel_rfl) (qs 21 rfl rfl rfl (decide_eq_true h20) (by kernel_rfl) (qs 22 rfl rfl rfl (decide_eq_true h20) (by kernel_rfl) (qv 23 rfl (pk (b := true) rfl rfl (decide_eq_true h20) rfl) rfl (by kernel_rfl) (qe [0, 0, 0, 0, 0, 0, 0, 0] (by kernel_rfl) rfl (nx (ct rfl rfl (sq (rg (a_ rfl rfl (en (nx (rt (xrb (xr (xr (xrb (xr (ret1 rfl rfl (fun w_ hs_ => ⟨?_, hs_.below⟩))))))))))))))))))))))))))))))))))))))))
      exact rb (range_f (k := k) (by omega) (covers1_f1 m11 m19 h20))
    · refine gd 7 kRectS_p1_1 rfl (cs' := [.slice Aa1 a.high.length ca1]) rfl fun s21 w_ rs21 us21 => ?_
      have Ls21 := Kd.sl_len rs21; have Cs21 := Kd.sl_cap rs21
      refine gx 0 k rfl (by omega) fun y27 p22 cs_ s23 w26 m28 e24 r25 us23 => ?_
      obtain ⟨rfl, -, -⟩ := r25
      refine gd 8 kRectS_p1_1 rfl (cs' := [.slice Ab1 b.high.length cb1]) rfl fun s29 w_ rs29 us29 => ?_
      have Ls29 := Kd.sl_len rs29; have Cs29 := Kd.sl_cap rs29
      refine gx 0 k rfl (by omega) fun y35 p30 cs_ s31 w34 m36 e32 r33 us31 => ?_
      obtain ⟨rfl, -, -⟩ := r33
      refine r0 (qv 0 rfl (fa rfl rfl rfl) rfl (by kernel_rfl) (qv 1 rfl (ldb (u := .slice Aa0 a.low.length ca0) 9 rfl rfl rfl rfl rfl rfl rfl) rfl (by kernel_rfl) (qv 2 rfl (mv rfl rfl) rfl (by kernel_rfl) (qv 3 rfl (ix k e7 rfl rfl rfl rfl rfl (by omega)) rfl (by kernel_rfl) (qv 4 rfl (ldq (u := .int .i64 y10) 6 rfl rfl rfl rfl rfl rfl rfl) rfl (by kernel_rfl) (qv 5 rfl (fa rfl rfl rfl) rfl (by kernel_rfl) (qv 6 rfl (ldb (u := .slice Ab0 b.low.length cb0) 8 rfl rfl rfl rfl rfl rfl rfl) rfl (by kernel_rfl) (qv 7 rfl (mv rfl rfl) rfl (by kernel_rfl) (qv 8 rfl (ix k e15 rfl rfl rfl rfl rfl (by omega)) rfl (by kernel_rfl) (qv 9 rfl (ldq (u := .int .i64 y18) 4 rfl rfl rfl rfl rfl rfl rfl) rfl (by kernel_rfl) (qv 10 rfl (cm rfl rfl rfl rfl) rfl (by kernel_rfl) (qv 11 rfl (mv rfl rfl) rfl (by kernel_rfl) (qg 12 rfl (fa rfl rfl rfl) rfl rfl (decide_eq_false h20) (by kernel_rfl) (qg 13 rfl (ldb (u := .slice Aa1 a.high.length ca1) 9 rfl rfl rfl rfl rfl rfl rfl) rfl rfl (decide_eq_false h20) (by kernel_rfl) (qg 14 rfl (mv rfl rfl) rfl rfl (decide_eq_false h20) (by kernel_rfl) (qg 15 rfl (ix k e24 rfl rfl rfl rfl rfl (by omega)) rfl rfl (decide_eq_false h20) (by kernel_rfl) (qg 16 rfl (ldq (u := .int .i64 y27) 2 rfl rfl rfl rfl rfl rfl rfl) rfl rfl (decide_eq_false h20) (by kernel_rfl) (qg 17 rfl (fa rfl rfl rfl) rfl rfl (decide_eq_false h20) (by kernel_rfl) (qg 18 rfl (ldb (u := .slice Ab1 b.high.length cb1) 8 rfl rfl rfl rfl rfl rfl rfl) rfl rfl (decide_eq_false h20) (by kernel_rfl) (qg 19 rfl (mv rfl rfl) rfl rfl (decide_eq_false h20) (by kernel_rfl) (qg 20 rfl (ix k e32 rfl rfl rfl rfl rfl (by omega)) rfl rfl (decide_eq_false h20) (by kernel_rfl) (qg 21 rfl (ldq (u := .int .i64 y35) 0 rfl rfl rfl rfl rfl rfl rfl) rfl rfl (decide_eq_false h20) (by kernel_rfl) (qg 22 rfl (cm rfl rfl rfl rfl) rfl rfl (decide_eq_false h20) (by kernel_rfl) (qv 23 rfl (pk (b := false) rfl rfl (decide_eq_false h20) rfl) rfl (by kernel_rfl) (qe [0, 0, 0, 0, 0, 0, 0, 0, 0, 0, 0, 0] (by kernel_rfl) rfl (nx ?_))))))))))))))))))))))))))
      by_cases h37 : y27 < y35
      · refine ct rfl (decide_eq_true h37) (sq (rg (a_ rfl rfl (en (nx (rt (xrb (xr (xr (xrb (xr (ret1 rfl rfl (fun w_ hs_ => ⟨?_, hs_.below⟩)))))))))))))
        exact rb (range_f (k := k) (by omega) (covers1_f2 m36 m28 h37))
      · exact cf rfl (decide_eq_false h37) (sk (xn (nx (rg (vl (ra (c := ((k + 1 : Nat) : Int)) rfl rfl rfl (by omega) (by omega) (by omega)) rfl (m_ rfl rfl (en (lpe (s := k) (k + 1) [8, 8, 8, 8] ⟨by omega, (fun j hj => by rcases Nat.lt_succ_iff_lt_or_eq.1 hj with h_ | rfl; exact hinv j h_; exact covers1_t m11 m19 m36 m28 h20 h37)⟩ (by omega) ⟨rfl, rfl, rfl, rfl, trivial⟩ rfl))))))))
  · refine cf rfl (decide_eq_false h3) (xt (xq (xq (xb (nx (sq (rg (a_ rfl rfl (en (nx (rt (ret1 rfl rfl (fun w_ hs_ => ⟨?_, hs_.below⟩)))))))))))))
    exact rb (range_t (fun j hj => hinv j (by omega)))
/-! spec.l1Covers -/
set_option maxRecDepth 20000 in
set_option maxHeartbeats 2000000 in
theorem spec_l1Covers (w : World) {Aa0 : Option Addr} {ca0 : Nat} {Aa1 : Option Addr} {ca1 : Nat} {a : Rect} {sa_ : List Nat} {pa : Addr} (ha : (ptr kRectS pa [.slice Aa0 a.low.length ca0, .slice Aa1 a.high.length ca1] a sa_).P w) {Ab0 : Option Addr} {cb0 : Nat} {Ab1 : Option Addr} {cb1 : Nat} {b : Rect} {sb_ : List Nat} {pb : Addr} (hb : (ptr kRectS pb [.slice Ab0 b.low.length cb0, .slice Ab1 b.high.length cb1] b sb_).P w) {d : Nat} (yFa : FitR d a) (yFb : FitR d b) : Calls Tryz.prog 104 #[.pointer (some pa), .pointer (some pb)] w (fun e_ w2_ => e_ = .returned (.bool (coversR a b)) ∧ Below w.heap.size w w2_) := by
  have l1 := yFa.lo; have l2 := yFa.hi; have l3 := yFb.lo; have l4 := yFb.hi
  refine fnc (X := X10 47 w) (args := [.pointer (some pa), .pointer (some pb)]) (l := [(0, .pointer (some pa)), (1, .pointer (some pb))]) (G := [ptr kRectS pb [.slice Ab0 b.low.length cb0, .slice Ab1 b.high.length cb1] b sb_, ptr kRectS pa [.slice Aa0 a.low.length ca0, .slice Aa1 a.high.length ca1] a sa_]) Tryz.func104 rfl rfl rfl ⟨rfl, rfl, trivial⟩ (s0p hb (s0p ha (s0n w))).1 ?_
  refine sq (rg (a_ rfl rfl (en (nx (sq (sq (rg (a_ rfl rfl (en (nx (bk ?_)))))))))))
  refine lp (σ := Nat) (fun k : Nat => [(0, .pointer (some pa)), (1, .pointer (some pb)), (5, .int .i64 ((k : Nat) : Int))])
      (fun k : Nat => [ptr kRectS pb [.slice Ab0 b.low.length cb0, .slice Ab1 b.high.length cb1] b sb_, ptr kRectS pa [.slice Aa0 a.low.length ca0, .slice Aa1 a.high.length ca1] a sa_])
      (fun k : Nat => k ≤ a.low.length ∧ ∀ j, j < k → covers1 a b j = true) (fun k : Nat => a.low.length - k) 0 [0, 0] ⟨Nat.zero_le _, by simp⟩ ⟨rfl, rfl, rfl, trivial⟩ rfl ?_
  intro k hp_
  obtain ⟨hk, hinv⟩ := hp_
  refine sq (sq (rg (m_ rfl rfl (m_ rfl rfl (vl (nc rfl rfl) rfl (vl (fa rfl rfl rfl) rfl (vl (ldp (u := .slice Aa0 a.low.length ca0) 1 rfl rfl rfl rfl rfl rfl rfl) rfl (vl (ln rfl rfl rfl) rfl (vl (cm rfl rfl rfl rfl) rfl (en (nx ?_)))))))))))
  by_cases h1 : ((k : Nat) : Int) < ((a.low.length : Nat) : Int)
  · refine ct rfl (decide_eq_true h1) (sk (nx (sq (bk (sq ?_)))))
    refine gp 1 kRectS_p0_1 rfl (cs' := [.slice Aa0 a.low.length ca0]) rfl fun s2 w_ rs2 us2 => ?_
    have Ls2 := Kd.sl_len rs2; have Cs2 := Kd.sl_cap rs2
    refine gx 0 k rfl (by omega) fun y8 p3 cs_ s4 w7 m9 e5 r6 us4 => ?_
    obtain ⟨rfl, -, -⟩ := r6
    refine gp 2 kRectS_p0_1 rfl (cs' := [.slice Ab0 b.low.length cb0]) rfl fun s10 w_ rs10 us10 => ?_
    have Ls10 := Kd.sl_len rs10; have Cs10 := Kd.sl_cap rs10
    refine gx 0 k rfl (by omega) fun y16 p11 cs_ s12 w15 m17 e13 r14 us12 => ?_
    obtain ⟨rfl, -, -⟩ := r14
    by_cases h18 : y16 < y8
    · refine r0 (qv 0 rfl (mv rfl rfl) rfl (by kernel_rfl) (qv 1 rfl (nc rfl rfl) rfl (by kernel_rfl) (qv 2 rfl (fa rfl rfl rfl) rfl (by kernel_rfl) (qv 3 rfl (ldp (u := .slice Aa0 a.low.length ca0) 5 rfl rfl rfl rfl rfl rfl rfl) rfl (by kernel_rfl) (qv 4 rfl (mv rfl rfl) rfl (by kernel_rfl) (qv 5 rfl (ix k e5 rfl rfl rfl rfl rfl (by omega)) rfl (by kernel_rfl) (qv 6 rfl (ldq (u := .int .i64 y8) 2 rfl rfl rfl rfl rfl rfl rfl) rfl (by kernel_rfl) (qv 7 rfl (mv rfl rfl) rfl (by kernel_rfl) (qv 8 rfl (nc rfl rfl) rfl (by kernel_rfl) (qv 9 rfl (fa rfl rfl rfl) rfl (by kernel_rfl) (qv 10 rfl (ldp (u := .slice Ab0 b.low.length cb0) 4 rfl rfl rfl rfl rfl rfl rfl) rfl (by kernel_rfl) (qv 11 rfl (mv rfl rfl) rfl (by kernel_rfl) (qv 12 rfl (ix k e13 rfl rfl rfl rfl rfl (by omega)) rfl (by kernel_rfl) (qv 13 rfl (ldq (u := .int .i64 y16) 0 rfl rfl rfl rfl rfl rfl rfl) rfl (by kernel_rfl) (qv 14 rfl (cm rfl rfl rfl rfl) rfl (by kernel_rfl) (qv 15 rfl (mv rfl rfl) rfl (by kernel_rfl) (qs 16 rfl rfl rfl (decide_eq_true h18) (by kernel_rfl) (qs 17 rfl rfl rfl (decide_eq_true h18) (by kernel_rfl) (qs 18 rfl rfl rfl (decide_eq_true h18) (by kernel_rfl) (qs 19 rfl rfl rfl (decide_eq_true h18) (by kernel_rfl) (qs 20 rfl rfl rfl (decide_eq_true h18) (by kernel_rfl) (qs 21 rfl rfl rfl (decide_eq_true h18) (by kernel_rfl) (qs 22 rfl rfl rfl (decide_eq_true h18) (by kernel_rfl) (qs 23 rfl rfl rfl (decide_eq_true h18) (by kernel_rfl) (qs 24 rfl rfl rfl (decide_eq_true h18) (by kernel_rfl) (qs 25 rfl rfl rfl (decide_eq_true h18) (by kernel_rfl) (qs 26 rfl rfl rfl (decide_eq_true h18) (by kernel_rfl) (qs 27 rfl rfl rfl (decide_eq_true h18) (by kernel_rfl) (qs 28 rfl rfl rfl (decide_eq_true h18) (by kernel_rfl) (qs 29 rfl rfl rfl (decide_eq_true h18) (by kernel_rfl) (qs 30 rfl rfl rfl (decide_eq_true h18) (by kernel_rfl) (qv 31 rfl (pk (b := true) rfl rfl (decide_eq_true h18) rfl) rfl (by kernel_rfl) (qe [0, 0, 0, 0, 0, 0] (by kernel_rfl) rfl (nx (ct rfl rfl (sq (rg (a_ rfl rfl (en (nx (rt (xrb (xr (xr (xrb (xr (ret1 rfl rfl (fun w_ hs_ => ⟨?_, hs_.below⟩))))))))))))))))))))))))))))))))))))))))))))))))
      exact rb (range_f (k := k) (by omega) (covers1_f1 m9 m17 h18))
    · refine gp 5 kRectS_p1_1 rfl (cs' := [.slice Aa1 a.high.length ca1]) rfl fun s19 w_ rs19 us19 => ?_
      have Ls19 := Kd.sl_len rs19; have Cs19 := Kd.sl_cap rs19
      refine gx 0 k rfl (by omega) fun y25 p20 cs_ s21 w24 m26 e22 r23 us21 => ?_
      obtain ⟨rfl, -, -⟩ := r23
      refine gp 6 kRectS_p1_1 rfl (cs' := [.slice Ab1 b.high.length cb1]) rfl fun s27 w_ rs27 us27 => ?_
      have Ls27 := Kd.sl_len rs27; have Cs27 := Kd.sl_cap rs27
      refine gx 0 k rfl (by omega) fun y33 p28 cs_ s29 w32 m34 e30 r31 us29 => ?_
      obtain ⟨rfl, -, -⟩ := r31
      refine r0 (qv 0 rfl (mv rfl rfl) rfl (by kernel_rfl) (qv 1 rfl (nc rfl rfl) rfl (by kernel_rfl) (qv 2 rfl (fa rfl rfl rfl) rfl (by kernel_rfl) (qv 3 rfl (ldp (u := .slice Aa0 a.low.length ca0) 9 rfl rfl rfl rfl rfl rfl rfl) rfl (by kernel_rfl) (qv 4 rfl (mv rfl rfl) rfl (by kernel_rfl) (qv 5 rfl (ix k e5 rfl rfl rfl rfl rfl (by omega)) rfl (by kernel_rfl) (qv 6 rfl (ldq (u := .int .i64 y8) 6 rfl rfl rfl rfl rfl rfl rfl) rfl (by kernel_rfl) (qv 7 rfl (mv rfl rfl) rfl (by kernel_rfl) (qv 8 rfl (nc rfl rfl) rfl (by kernel_rfl) (qv 9 rfl (fa rfl rfl rfl) rfl (by kernel_rfl) (qv 10 rfl (ldp (u := .slice Ab0 b.low.length cb0) 8 rfl rfl rfl rfl rfl rfl rfl) rfl (by kernel_rfl) (qv 11 rfl (mv rfl rfl) rfl (by kernel_rfl) (qv 12 rfl (ix k e13 rfl rfl rfl rfl rfl (by omega)) rfl (by kernel_rfl) (qv 13 rfl (ldq (u := .int .i64 y16) 4 rfl rfl rfl rfl rfl rfl rfl) rfl (by kernel_rfl) (qv 14 rfl (cm rfl rfl rfl rfl) rfl (by kernel_rfl) (qv 15 rfl (mv rfl rfl) rfl (by kernel_rfl) (qg 16 rfl (mv rfl rfl) rfl rfl (decide_eq_false h18) (by kernel_rfl) (qg 17 rfl (nc rfl rfl) rfl rfl (decide_eq_false h18) (by kernel_rfl) (qg 18 rfl (fa rfl rfl rfl) rfl rfl (decide_eq_false h18) (by kernel_rfl) (qg 19 rfl (ldp (u := .slice Aa1 a.high.length ca1) 9 rfl rfl rfl rfl rfl rfl rfl) rfl rfl (decide_eq_false h18) (by kernel_rfl) (qg 20 rfl (mv rfl rfl) rfl rfl (decide_eq_false h18) (by kernel_rfl) (qg 21 rfl (ix k e22 rfl rfl rfl rfl rfl (by omega)) rfl rfl (decide_eq_false h18) (by kernel_rfl) (qg 22 rfl (ldq (u := .int .i64 y25) 2 rfl rfl rfl rfl rfl rfl rfl) rfl rfl (decide_eq_false h18) (by kernel_rfl) (qg 23 rfl (mv rfl rfl) rfl rfl (decide_eq_false h18) (by kernel_rfl) (qg 24 rfl (nc rfl rfl) rfl rfl (decide_eq_false h18) (by kernel_rfl) (qg 25 rfl (fa rfl rfl rfl) rfl rfl (decide_eq_false h18) (by kernel_rfl) (qg 26 rfl (ldp (u := .slice Ab1 b.high.length cb1) 8 rfl rfl rfl rfl rfl rfl rfl) rfl rfl (decide_eq_false h18) (by kernel_rfl) (qg 27 rfl (mv rfl rfl) rfl rfl (decide_eq_false h18) (by kernel_rfl) (qg 28 rfl (ix k e30 rfl rfl rfl rfl rfl (by omega)) rfl rfl (decide_eq_false h18) (by kernel_rfl) (qg 29 rfl (ldq (u := .int .i64 y33) 0 rfl rfl rfl rfl rfl rfl rfl) rfl rfl (decide_eq_false h18) (by kernel_rfl) (qg 30 rfl (cm rfl rfl rfl rfl) rfl rfl (decide_eq_false h18) (by kernel_rfl) (qv 31 rfl (pk (b := false) rfl rfl (decide_eq_false h18) rfl) rfl (by kernel_rfl) (qe [0, 0, 0, 0, 0, 0, 0, 0, 0, 0] (by kernel_rfl) rfl (nx ?_))))))))))))))))))))))))))))))))))
      by_cases h35 : y25 < y33
      · refine ct rfl (decide_eq_true h35) (sq (rg (a_ rfl rfl (en (nx (rt (xrb (xr (xr (xrb (xr (ret1 rfl rfl (fun w_ hs_ => ⟨?_, hs_.below⟩)))))))))))))
        exact rb (range_f (k := k) (by omega) (covers1_f2 m34 m26 h35))
      · exact cf rfl (decide_eq_false h35) (sk (xn (nx (rg (m_ rfl rfl (vl (ra (c := ((k + 1 : Nat) : Int)) rfl rfl rfl (by omega) (by omega) (by omega)) rfl (a_ rfl rfl (en (lpe (s := k) (k + 1) [8, 8] ⟨by omega, (fun j hj => by rcases Nat.lt_succ_iff_lt_or_eq.1 hj with h_ | rfl; exact hinv j h_; exact covers1_t m9 m17 m34 m26 h18 h35)⟩ (by omega) ⟨rfl, rfl, rfl, trivial⟩ rfl)))))))))
  · refine cf rfl (decide_eq_false h1) (xt (xq (xq (xb (nx (sq (rg (a_ rfl rfl (en (nx (rt (ret1 rfl rfl (fun w_ hs_ => ⟨?_, hs_.below⟩)))))))))))))
    exact rb (range_t (fun j hj => hinv j (by omega)))
/-! spec.l1Max -/
set_option maxRecDepth 20000 in
set_option maxHeartbeats 2000000 in
theorem spec_l1Max (w : World) (a : Int) (b : Int)  : Calls Tryz.prog 131 #[.int .i64 a, .int .i64 b] w (fun e_ w2_ => e_ = .returned (.int .i64 (gmax a b)) ∧ Below w.heap.size w w2_) := by
  refine fnc (X := X10 10 w) (args := [.int .i64 a, .int .i64 b]) (l := [(0, .int .i64 a), (1, .int .i64 b)]) (G := []) Tryz.func131 rfl rfl rfl ⟨rfl, rfl, trivial⟩ (s0n w).1 ?_
  refine sq (rg (a_ rfl rfl (en (nx (sq (sq (rg (m_ rfl rfl (m_ rfl rfl (vl (cm rfl rfl rfl rfl) rfl (en (nx ?_))))))))))))
  by_cases h1 : b < a
  · refine ct rfl (decide_eq_true h1) (sq (rg (m_ rfl rfl (a_ rfl rfl (en (nx (rt (xr (ret1 rfl rfl (fun w_ hs_ => ⟨?_, hs_.below⟩))))))))))
    exact ri (by unfold gmax; split <;> omega)
  · refine cf rfl (decide_eq_false h1) (sk (nx (sq (rg (m_ rfl rfl (a_ rfl rfl (en (nx (rt (ret1 rfl rfl (fun w_ hs_ => ⟨?_, hs_.below⟩)))))))))))
    exact ri (by unfold gmax; split <;> omega)
/-! impl.distance -/
set_option maxRecDepth 20000 in
set_option maxHeartbeats 2000000 in
theorem impl_distance (w : World) {Ar0 : Option Addr} {cr0 : Nat} {Ar1 : Option Addr} {cr1 : Nat} {r : Rect} {sr_ : List Nat} (hr : kRectS.Rel w [.slice Ar0 r.low.length cr0, .slice Ar1 r.high.length cr1] r [] sr_) {Ap : Option Addr} {cp : Nat} {p : List Int} {sp_ : List Nat} (hp : (Kd.sl Kd.i64).Rel w [.slice Ap p.length cp] p [] sp_) {d : Nat} (hd : d ≤ 3) (yFr : FitR d r) (yFp : FitP d p) : Calls Tryz.prog 141 #[.agg #[.slice Ar0 r.low.length cr0, .slice Ar1 r.high.length cr1], .slice Ap p.length cp] w (fun e_ w2_ => e_ = .returned (.int .i64 (distR r p)) ∧ Below w.heap.size w w2_) := by
  have Lp := Kd.sl_len hp; have Cp := Kd.sl_cap hp
  have l1 := yFr.lo; have l2 := yFr.hi; have l3 := yFp.len
  refine fnc (X := X10 34 w) (args := [.agg #[.slice Ar0 r.low.length cr0, .slice Ar1 r.high.length cr1], .slice Ap p.length cp]) (l := [(0, .agg #[.slice Ar0 r.low.length cr0, .slice Ar1 r.high.length cr1]), (1, .slice Ap p.length cp)]) (G := [dat (Kd.sl Kd.i64) [.slice Ap p.length cp] p ([]) sp_, dat kRectS [.slice Ar0 r.low.length cr0, .slice Ar1 r.high.length cr1] r ([]) sr_]) Tryz.func141 rfl rfl rfl ⟨rfl, rfl, trivial⟩ (s0d hp (s0d hr (s0n w))).1 ?_
  refine sq (rg (bx rfl rfl rfl rfl ?_))
  intro b1
  refine a_ rfl rfl (en (nx (sq (rg (a_ rfl rfl (en (nx (sq (sq (rg (m_ rfl rfl (vl (ln rfl rfl rfl) rfl (m_ rfl rfl (en (nx (bk ?_))))))))))))))))
  refine lp (σ := Nat × Int) (fun z_ : Nat × Int => match z_ with | (k, v) => [(2, .pointer (some ⟨b1, 0, none⟩)), (5, .int .i64 v), (8, .slice Ap p.length cp), (9, .int .i64 ((p.length : Nat) : Int)), (10, .int .i64 ((k : Nat) : Int))])
      (fun z_ : Nat × Int => match z_ with | (k, v) => [blk b1 [.slice Ar0 r.low.length cr0, .slice Ar1 r.high.length cr1] 58, dat (Kd.sl Kd.i64) [.slice Ap p.length cp] p ([]) sp_, dat kRectS [.slice Ar0 r.low.length cr0, .slice Ar1 r.high.length cr1] r ([]) sr_])
      (fun z_ : Nat × Int => match z_ with | (k, v) => k ≤ p.length ∧ v = distTo r p k) (fun z_ : Nat × Int => match z_ with | (k, v) => p.length - k) (0, 0) [0, 0, 0] ⟨Nat.zero_le _, rfl⟩ ⟨rfl, rfl, rfl, rfl, rfl, trivial⟩ rfl ?_
  rintro ⟨k, v⟩ hp_
  obtain ⟨hk, hv⟩ := hp_; have zk := distTo_b yFr yFp k (by omega)
  refine sq (rg (vl (cm rfl rfl rfl rfl) rfl (en (nx (sq ?_)))))
  by_cases h2 : ((k : Nat) : Int) < ((p.length : Nat) : Int)
  · refine ct rfl (decide_eq_true h2) (sk (nx (sq (bk (sq (rg (m_ rfl rfl ?_)))))))
    refine gx 1 k rfl (by omega) fun y8 p3 cs_ s4 w7 m9 e5 r6 us4 => ?_
    obtain ⟨rfl, -, -⟩ := r6
    have zby8 := yFp.bnd.at m9
    refine vl (ix k e5 rfl rfl rfl rfl rfl (by omega)) rfl (vl (ldq (u := .int .i64 y8) 0 rfl rfl rfl rfl rfl rfl rfl) rfl (a_ rfl rfl (a_ rfl rfl (en (nx ?_)))))
    refine gd 3 kRectS_p0_1 rfl (cs' := [.slice Ar0 r.low.length cr0]) rfl fun s10 w_ rs10 us10 => ?_
    have Ls10 := Kd.sl_len rs10; have Cs10 := Kd.sl_cap rs10
    refine gx 0 k rfl (by omega) fun y16 p11 cs_ s12 w15 m17 e13 r14 us12 => ?_
    obtain ⟨rfl, -, -⟩ := r14
    have zby16 := yFr.bl.at m17
    refine gd 5 kRectS_p1_1 rfl (cs' := [.slice Ar1 r.high.length cr1]) rfl fun s18 w_ rs18 us18 => ?_
    have Ls18 := Kd.sl_len rs18; have Cs18 := Kd.sl_cap rs18
    refine gx 0 k rfl (by omega) fun y24 p19 cs_ s20 w23 m25 e21 r22 us20 => ?_
    obtain ⟨rfl, -, -⟩ := r22
    have zby24 := yFr.bh.at m25
    have zle := yFr.le k _ _ m17 m25; have zm := dist1_max (n := y8) zle; have zt := dist1_two (n := y8) zle; have zo := distTo_on m17 m25 m9; have zd := dist1_b zby16 zby24 zby8; have zg1 : 0 ≤ gmax (y16 - y8) 0 := (by unfold gmax; split <;> omega); have zg2 : 0 ≤ gmax (y8 - y24) 0 := (by unfold gmax; split <;> omega)
    exact r0 (qv 0 rfl (mv rfl rfl) rfl (by kernel_rfl) (qv 1 rfl (fa rfl rfl rfl) rfl (by kernel_rfl) (qv 2 rfl (ldb (u := .slice Ar0 r.low.length cr0) 5 rfl rfl rfl rfl rfl rfl rfl) rfl (by kernel_rfl) (qv 3 rfl (mv rfl rfl) rfl (by kernel_rfl) (qv 4 rfl (ix k e13 rfl rfl rfl rfl rfl (by omega)) rfl (by kernel_rfl) (qv 5 rfl (ldq (u := .int .i64 y16) 2 rfl rfl rfl rfl rfl rfl rfl) rfl (by kernel_rfl) (qv 6 rfl (mv rfl rfl) rfl (by kernel_rfl) (qv 7 rfl (rs (c := y16 - y8) rfl rfl rfl rfl (by omega) (by omega)) rfl (by kernel_rfl) (qv 8 rfl (mv rfl rfl) rfl (by kernel_rfl) (qv 9 rfl (fa rfl rfl rfl) rfl (by kernel_rfl) (qv 10 rfl (ldb (u := .slice Ar1 r.high.length cr1) 5 rfl rfl rfl rfl rfl rfl rfl) rfl (by kernel_rfl) (qv 11 rfl (mv rfl rfl) rfl (by kernel_rfl) (qv 12 rfl (ix k e21 rfl rfl rfl rfl rfl (by omega)) rfl (by kernel_rfl) (qv 13 rfl (ldq (u := .int .i64 y24) 0 rfl rfl rfl rfl rfl rfl rfl) rfl (by kernel_rfl) (qv 14 rfl (rs (c := y8 - y24) rfl rfl rfl rfl (by omega) (by omega)) rfl (by kernel_rfl) (qv 15 rfl (mx3 rfl rfl rfl rfl) rfl (by kernel_rfl) (qv 16 rfl (ra (c := v + (gmax (gmax 0 (y16 - y8)) (y8 - y24))) rfl rfl rfl rfl (by omega) (by omega)) rfl (by kernel_rfl) (qv 17 rfl (as_ rfl rfl) rfl (by kernel_rfl) (qe [0, 0, 0, 0, 0, 0, 0, 0] (by kernel_rfl) rfl (xn (nx (rg (vl (ra (c := ((k + 1 : Nat) : Int)) rfl rfl rfl (by omega) (by omega) (by omega)) rfl (m_ rfl rfl (en (lpe (s := (k, v)) (k + 1, v + (gmax (gmax 0 (y16 - y8)) (y8 - y24))) [5, 5, 5] ⟨by omega, by omega⟩ (by show p.length - (k + 1) < p.length - k; omega) ⟨rfl, rfl, rfl, rfl, rfl, trivial⟩ rfl))))))))))))))))))))))))))
  · refine cf rfl (decide_eq_false h2) (xt (xq (xq (xb (nx (sq (rg (m_ rfl rfl (a_ rfl rfl (en (nx (rt (ret1 rfl rfl (fun w_ hs_ => ⟨?_, hs_.below⟩))))))))))))))
    exact ri (by unfold distR; rw [hv]; congr 1; omega)
/-! spec.l1Dist -/
set_option maxRecDepth 20000 in
set_option maxHeartbeats 2000000 in
theorem spec_l1Dist (w : World) {Ar0 : Option Addr} {cr0 : Nat} {Ar1 : Option Addr} {cr1 : Nat} {r : Rect} {sr_ : List Nat} {pr : Addr} (hr : (ptr kRectS pr [.slice Ar0 r.low.length cr0, .slice Ar1 r.high.length cr1] r sr_).P w) {Ap : Option Addr} {cp : Nat} {p : List Int} {sp_ : List Nat} (hp : (Kd.sl Kd.i64).Rel w [.slice Ap p.length cp] p [] sp_) {d : Nat} (hd : d ≤ 3) (yFr : FitR d r) (yFp : FitP d p) : Calls Tryz.prog 105 #[.pointer (some pr), .slice Ap p.length cp] w (fun e_ w2_ => e_ = .returned (.int .i64 (distR r p)) ∧ Below w.heap.size w w2_) := by
  have Lp := Kd.sl_len hp; have Cp := Kd.sl_cap hp
  have l1 := yFr.lo; have l2 := yFr.hi; have l3 := yFp.len
  refine fnc (X := X10 46 w) (args := [.pointer (some pr), .slice Ap p.length cp]) (l := [(0, .pointer (some pr)), (1, .slice Ap p.length cp)]) (G := [dat (Kd.sl Kd.i64) [.slice Ap p.length cp] p ([]) sp_, ptr kRectS pr [.slice Ar0 r.low.length cr0, .slice Ar1 r.high.length cr1] r sr_]) Tryz.func105 rfl rfl rfl ⟨rfl, rfl, trivial⟩ (s0d hp (s0p hr (s0n w))).1 ?_
  refine sq (rg (a_ rfl rfl (en (nx (sq (rg (a_ rfl rfl (en (nx (sq (sq (rg (a_ rfl rfl (en (nx (bk ?_))))))))))))))))
  refine lp (σ := Nat × Int) (fun z_ : Nat × Int => match z_ with | (k, v) => [(0, .pointer (some pr)), (1, .slice Ap p.length cp), (5, .int .i64 v), (6, .int .i64 ((k : Nat) : Int))])
      (fun z_ : Nat × Int => match z_ with | (k, v) => [dat (Kd.sl Kd.i64) [.slice Ap p.length cp] p ([]) sp_, ptr kRectS pr [.slice Ar0 r.low.length cr0, .slice Ar1 r.high.length cr1] r sr_])
      (fun z_ : Nat × Int => match z_ with | (k, v) => k ≤ r.low.length ∧ v = distTo r p k) (fun z_ : Nat × Int => match z_ with | (k, v) => r.low.length - k) (0, 0) [0, 0] ⟨Nat.zero_le _, rfl⟩ ⟨rfl, rfl, rfl, rfl, trivial⟩ rfl ?_
  rintro ⟨k, v⟩ hp_
  obtain ⟨hk, hv⟩ := hp_; have zk := distTo_b yFr yFp k (by omega)
  refine sq (sq (rg (m_ rfl rfl (m_ rfl rfl (vl (nc rfl rfl) rfl (vl (fa rfl rfl rfl) rfl (vl (ldp (u := .slice Ar0 r.low.length cr0) 1 rfl rfl rfl rfl rfl rfl rfl) rfl (vl (ln rfl rfl rfl) rfl (vl (cm rfl rfl rfl rfl) rfl (en (nx ?_)))))))))))
  by_cases h1 : ((k : Nat) : Int) < ((r.low.length : Nat) : Int)
  · refine ct rfl (decide_eq_true h1) (sk (nx (sq (bk ?_))))
    refine gp 1 kRectS_p0_1 rfl (cs' := [.slice Ar0 r.low.length cr0]) rfl fun s2 w_ rs2 us2 => ?_
    have Ls2 := Kd.sl_len rs2; have Cs2 := Kd.sl_cap rs2
    refine gx 0 k rfl (by omega) fun y8 p3 cs_ s4 w7 m9 e5 r6 us4 => ?_
    obtain ⟨rfl, -, -⟩ := r6
    have zby8 := yFr.bl.at m9
    refine gx 2 k rfl (by omega) fun y15 p10 cs_ s11 w14 m16 e12 r13 us11 => ?_
    obtain ⟨rfl, -, -⟩ := r13
    have zby15 := yFp.bnd.at m16
    refine gp 4 kRectS_p1_1 rfl (cs' := [.slice Ar1 r.high.length cr1]) rfl fun s17 w_ rs17 us17 => ?_
    have Ls17 := Kd.sl_len rs17; have Cs17 := Kd.sl_cap rs17
    refine gx 0 k rfl (by omega) fun y23 p18 cs_ s19 w22 m24 e20 r21 us19 => ?_
    obtain ⟨rfl, -, -⟩ := r21
    have zby23 := yFr.bh.at m24
    have zle := yFr.le k _ _ m9 m24; have zm := dist1_max (n := y15) zle; have zt := dist1_two (n := y15) zle; have zo := distTo_on m9 m24 m16; have zd := dist1_b zby8 zby23 zby15; have zg1 : 0 ≤ gmax (y8 - y15) 0 := (by unfold gmax; split <;> omega); have zg2 : 0 ≤ gmax (y15 - y23) 0 := (by unfold gmax; split <;> omega)
    exact r0 (qv 0 rfl (mv rfl rfl) rfl (by kernel_rfl) (qv 1 rfl (mv rfl rfl) rfl (by kernel_rfl) (qv 2 rfl (nc rfl rfl) rfl (by kernel_rfl) (qv 3 rfl (fa rfl rfl rfl) rfl (by kernel_rfl) (qv 4 rfl (ldp (u := .slice Ar0 r.low.length cr0) 6 rfl rfl rfl rfl rfl rfl rfl) rfl (by kernel_rfl) (qv 5 rfl (mv rfl rfl) rfl (by kernel_rfl) (qv 6 rfl (ix k e5 rfl rfl rfl rfl rfl (by omega)) rfl (by kernel_rfl) (qv 7 rfl (ldq (u := .int .i64 y8) 3 rfl rfl rfl rfl rfl rfl rfl) rfl (by kernel_rfl) (qv 8 rfl (mv rfl rfl) rfl (by kernel_rfl) (qv 9 rfl (mv rfl rfl) rfl (by kernel_rfl) (qv 10 rfl (ix k e12 rfl rfl rfl rfl rfl (by omega)) rfl (by kernel_rfl) (qv 11 rfl (ldq (u := .int .i64 y15) 2 rfl rfl rfl rfl rfl rfl rfl) rfl (by kernel_rfl) (qv 12 rfl (rs (c := y8 - y15) rfl rfl rfl rfl (by omega) (by omega)) rfl (by kernel_rfl) (qv 15 rfl (mv rfl rfl) rfl (by kernel_rfl) (qv 16 rfl (mv rfl rfl) rfl (by kernel_rfl) (qv 17 rfl (ix k e12 rfl rfl rfl rfl rfl (by omega)) rfl (by kernel_rfl) (qv 18 rfl (ldq (u := .int .i64 y15) 2 rfl rfl rfl rfl rfl rfl rfl) rfl (by kernel_rfl) (qv 19 rfl (mv rfl rfl) rfl (by kernel_rfl) (qv 20 rfl (nc rfl rfl) rfl (by kernel_rfl) (qv 21 rfl (fa rfl rfl rfl) rfl (by kernel_rfl) (qv 22 rfl (ldp (u := .slice Ar1 r.high.length cr1) 6 rfl rfl rfl rfl rfl rfl rfl) rfl (by kernel_rfl) (qv 23 rfl (mv rfl rfl) rfl (by kernel_rfl) (qv 24 rfl (ix k e20 rfl rfl rfl rfl rfl (by omega)) rfl (by kernel_rfl) (qv 25 rfl (ldq (u := .int .i64 y23) 0 rfl rfl rfl rfl rfl rfl rfl) rfl (by kernel_rfl) (qv 26 rfl (rs (c := y15 - y23) rfl rfl rfl rfl (by omega) (by omega)) rfl (by kernel_rfl) (q1 13 [0, 0, 0, 0, 0, 0, 0] rfl (by kernel_rfl) rfl (cs_ (v := .int .i64 (gmax (y8 - y15) 0)) (by kernel_rfl) rfl rfl rfl (fun w_ hs_ => by exact spec_l1Max w_ _ _) (qn (qv 14 rfl (ra (c := v + (gmax (y8 - y15) 0)) rfl rfl rfl rfl (by omega) (by omega)) rfl (by kernel_rfl) (q1 27 [0, 0, 0, 0, 0, 0, 0] rfl (by kernel_rfl) rfl (cs_ (v := .int .i64 (gmax (y15 - y23) 0)) (by kernel_rfl) rfl rfl rfl (fun w_ hs_ => by exact spec_l1Max w_ _ _) (qn (qv 28 rfl (ra (c := v + (gmax (y8 - y15) 0) + (gmax (y15 - y23) 0)) rfl rfl rfl rfl (by omega) (by omega)) rfl (by kernel_rfl) (qv 29 rfl (as_ rfl rfl) rfl (by kernel_rfl) (qe [0, 0, 0, 0, 0, 0, 0] (by kernel_rfl) rfl (xn (nx (rg (m_ rfl rfl (vl (ra (c := ((k + 1 : Nat) : Int)) rfl rfl rfl (by omega) (by omega) (by omega)) rfl (a_ rfl rfl (en (lpe (s := (k, v)) (k + 1, v + (gmax (y8 - y15) 0) + (gmax (y15 - y23) 0)) [5, 5] ⟨by omega, by omega⟩ (by show r.low.length - (k + 1) < r.low.length - k; omega) ⟨rfl, rfl, rfl, rfl, trivial⟩ rfl)))))))))))))))))))))))))))))))))))))))))))
  · refine cf rfl (decide_eq_false h1) (xt (xq (xq (xb (nx (sq (rg (m_ rfl rfl (a_ rfl rfl (en (nx (rt (ret1 rfl rfl (fun w_ hs_ => ⟨?_, hs_.below⟩))))))))))))))
    exact ri (by unfold distR; rw [hv]; congr 1; omega)
/-! (impl.Query).matches -/
set_option maxRecDepth 20000 in
set_option maxHeartbeats 2000000 in
theorem impl_Query_matches (w : World) {Aq1 : Option Addr} {cq1 : Nat} {Aq2 : Option Addr} {cq2 : Nat} {Aq3 : Option Addr} {cq3 : Nat} {q : Query} {sq_ : List Nat} (hq : kQueryS.Rel w [.int .i64 q.kind, .slice Aq1 q.rect.low.length cq1, .slice Aq2 q.rect.high.length cq2, .slice Aq3 q.point.length cq3, .int .i64 q.k] q [] sq_) {Ar0 : Option Addr} {cr0 : Nat} {Ar1 : Option Addr} {cr1 : Nat} {r : Rect} {sr_ : List Nat} (hr : kRectS.Rel w [.slice Ar0 r.low.length cr0, .slice Ar1 r.high.length cr1] r [] sr_) {d : Nat} (hd : d ≤ 3) (yFq : FitQ d q) (yFr : FitR d r) : Calls Tryz.prog 116 #[.agg #[.int .i64 q.kind, .slice Aq1 q.rect.low.length cq1, .slice Aq2 q.rect.high.length cq2, .slice Aq3 q.point.length cq3, .int .i64 q.k], .agg #[.slice Ar0 r.low.length cr0, .slice Ar1 r.high.length cr1]] w (fun e_ w2_ => e_ = .returned (.bool (matchQ q r)) ∧ Below w.heap.size w w2_) := by
  refine fnc (X := X10 26 w) (args := [.agg #[.int .i64 q.kind, .slice Aq1 q.rect.low.length cq1, .slice Aq2 q.rect.high.length cq2, .slice Aq3 q.point.length cq3, .int .i64 q.k], .agg #[.slice Ar0 r.low.length cr0, .slice Ar1 r.high.length cr1]]) (l := [(0, .agg #[.int .i64 q.kind, .slice Aq1 q.rect.low.length cq1, .slice Aq2 q.rect.high.length cq2, .slice Aq3 q.point.length cq3, .int .i64 q.k]), (1, .agg #[.slice Ar0 r.low.length cr0, .slice Ar1 r.high.length cr1])]) (G := [dat kRectS [.slice Ar0 r.low.length cr0, .slice Ar1 r.high.length cr1] r ([]) sr_, dat kQueryS [.int .i64 q.kind, .slice Aq1 q.rect.low.length cq1, .slice Aq2 q.rect.high.length cq2, .slice Aq3 q.point.length cq3, .int .i64 q.k] q ([]) sq_]) Tryz.func116 rfl rfl rfl ⟨rfl, rfl, trivial⟩ (s0d hr (s0d hq (s0n w))).1 ?_
  refine sq (rg (bx rfl rfl rfl rfl ?_))
  intro b1
  refine bx rfl rfl rfl rfl ?_
  intro b2
  refine a_ rfl rfl (en (nx (sq (sq (rg (vl (fa rfl rfl rfl) rfl (vl (ldb (u := .int .i64 q.kind) 1 rfl rfl rfl rfl rfl rfl rfl) rfl (en (nx (bk (sq (rg (vl (cm rfl rfl rfl rfl) rfl (a_ rfl rfl (en (nx ?_))))))))))))))))
  by_cases h3 : q.kind = (1 : Int)
  · refine ct rfl (beq_iff_eq.2 h3) (sq (rg (vl (fa rfl rfl rfl) rfl (vl (ldb 1 rfl rfl rfl rfl rfl rfl rfl) rfl (vl (ldb 0 rfl rfl rfl rfl rfl rfl rfl) rfl ?_)))))
    refine gd 3 kQueryS_p1_2 rfl (cs' := [.slice Aq1 q.rect.low.length cq1, .slice Aq2 q.rect.high.length cq2]) rfl fun s4 w_ rs4 us4 => ?_
    refine cs_ (v := .bool (meetsR q.rect r)) (by kernel_rfl) rfl rfl rfl (fun w_ hs_ => impl_meets w_ (hs_.at 0 rfl) (hs_.at 3 rfl) (yFq.rect (by omega)) yFr) (a_ rfl rfl (en (nx (rt (xrb (xr (ret1 rfl rfl (fun w_ hs_ => ⟨?_, hs_.below⟩))))))))
    simp [matchQ, h3]
  · refine cf rfl (beq_eq_false_iff_ne.2 h3) (sq (rg (vl (cm rfl rfl rfl rfl) rfl (a_ rfl rfl (en (nx ?_))))))
    by_cases h5 : q.kind = (2 : Int)
    · refine ct rfl (beq_iff_eq.2 h5) (sq (rg (vl (fa rfl rfl rfl) rfl (vl (ldb 1 rfl rfl rfl rfl rfl rfl rfl) rfl (vl (ldb 0 rfl rfl rfl rfl rfl rfl rfl) rfl ?_)))))
      refine gd 3 kQueryS_p1_2 rfl (cs' := [.slice Aq1 q.rect.low.length cq1, .slice Aq2 q.rect.high.length cq2]) rfl fun s6 w_ rs6 us6 => ?_
      refine cs_ (v := .bool (coversR q.rect r)) (by kernel_rfl) rfl rfl rfl (fun w_ hs_ => impl_covers w_ (hs_.at 0 rfl) (hs_.at 3 rfl) (yFq.rect (by omega)) yFr) (a_ rfl rfl (en (nx (rt (xrb (xr (ret1 rfl rfl (fun w_ hs_ => ⟨?_, hs_.below⟩))))))))
      simp [matchQ, h3, h5]
    · refine cf rfl (beq_eq_false_iff_ne.2 h5) (sq (rg (vl (cm rfl rfl rfl rfl) rfl (a_ rfl rfl (en (nx ?_))))))
      by_cases h7 : q.kind = (3 : Int)
      · refine ct rfl (beq_iff_eq.2 h7) (sq (rg (vl (ldb 0 rfl rfl rfl rfl rfl rfl rfl) rfl (vl (fa rfl rfl rfl) rfl (vl (ldb (u := .slice Aq3 q.point.length cq3) 1 rfl rfl rfl rfl rfl rfl rfl) rfl ?_)))))
        refine gd 3 kQueryS_p3_1 rfl (cs' := [.slice Aq3 q.point.length cq3]) rfl fun s8 w_ rs8 us8 => ?_
        have Ls8 := Kd.sl_len rs8; have Cs8 := Kd.sl_cap rs8
        refine cs_ (v := .int .i64 (distR r q.point)) (by kernel_rfl) rfl rfl rfl (fun w_ hs_ => impl_distance w_ (hs_.at 3 rfl) (hs_.at 0 rfl) hd yFr (yFq.pt (by omega))) (vl (cm rfl rfl rfl rfl) rfl (a_ rfl rfl (en (nx (rt (xrb (xr (ret1 rfl rfl (fun w_ hs_ => ⟨?_, hs_.below⟩)))))))))
        simp [matchQ, h3, h5, h7]
      · refine cf rfl (beq_eq_false_iff_ne.2 h7) (sk (xn (nx (sq (rg (a_ rfl rfl (en (nx (rt (ret1 rfl rfl (fun w_ hs_ => ⟨?_, hs_.below⟩)))))))))))
        simp [matchQ, h3, h5, h7]
/-! spec.l2Matches -/
set_option maxRecDepth 20000 in
set_option maxHeartbeats 2000000 in
theorem spec_l2Matches (w : World) {Aq1 : Option Addr} {cq1 : Nat} {Aq2 : Option Addr} {cq2 : Nat} {Aq3 : Option Addr} {cq3 : Nat} {q : Query} {sq_ : List Nat} {pq : Addr} (hq : (ptr kQueryS pq [.int .i64 q.kind, .slice Aq1 q.rect.low.length cq1, .slice Aq2 q.rect.high.length cq2, .slice Aq3 q.point.length cq3, .int .i64 q.k] q sq_).P w) {Ar0 : Option Addr} {cr0 : Nat} {Ar1 : Option Addr} {cr1 : Nat} {r : Rect} {sr_ : List Nat} {pr : Addr} (hr : (ptr kRectS pr [.slice Ar0 r.low.length cr0, .slice Ar1 r.high.length cr1] r sr_).P w) {d : Nat} (hd : d ≤ 3) (yFq : FitQ d q) (yFr : FitR d r) : Calls Tryz.prog 66 #[.pointer (some pq), .pointer (some pr)] w (fun e_ w2_ => e_ = .returned (.bool (matchQ q r)) ∧ Below w.heap.size w w2_) := by
  refine fnc (X := X10 32 w) (args := [.pointer (some pq), .pointer (some pr)]) (l := [(0, .pointer (some pq)), (1, .pointer (some pr))]) (G := [ptr kRectS pr [.slice Ar0 r.low.length cr0, .slice Ar1 r.high.length cr1] r sr_, ptr kQueryS pq [.int .i64 q.kind, .slice Aq1 q.rect.low.length cq1, .slice Aq2 q.rect.high.length cq2, .slice Aq3 q.point.length cq3, .int .i64 q.k] q sq_]) Tryz.func66 rfl rfl rfl ⟨rfl, rfl, trivial⟩ (s0p hr (s0p hq (s0n w))).1 ?_
  refine sq (rg (a_ rfl rfl (en (nx (sq (sq (rg (m_ rfl rfl (vl (nc rfl rfl) rfl (vl (fa rfl rfl rfl) rfl (vl (ldp (u := .int .i64 q.kind) 1 rfl rfl rfl rfl rfl rfl rfl) rfl (en (nx (bk (sq (rg (vl (cm rfl rfl rfl rfl) rfl (a_ rfl rfl (en (nx ?_))))))))))))))))))))
  by_cases h1 : q.kind = (1 : Int)
  · refine ct rfl (beq_iff_eq.2 h1) (sq (rg (m_ rfl rfl (vl (nc rfl rfl) rfl (vl (fa rfl rfl rfl) rfl (m_ rfl rfl ?_))))))
    refine gq 1 kQueryS_p1_2 rfl (cs' := [.slice Aq1 q.rect.low.length cq1, .slice Aq2 q.rect.high.length cq2]) rfl fun s2 w_ rs2 us2 => ?_
    refine cs_ (v := .bool (meetsR q.rect r)) (by kernel_rfl) rfl rfl rfl (fun w_ hs_ => spec_l1Meets w_ (hs_.at 0 rfl) (hs_.at 1 rfl) (yFq.rect (by omega)) yFr) (a_ rfl rfl (en (nx (rt (xrb (xr (ret1 rfl rfl (fun w_ hs_ => ⟨?_, hs_.below⟩))))))))
    simp [matchQ, h1]
  · refine cf rfl (beq_eq_false_iff_ne.2 h1) (sq (rg (vl (cm rfl rfl rfl rfl) rfl (a_ rfl rfl (en (nx ?_))))))
    by_cases h3 : q.kind = (2 : Int)
    · refine ct rfl (beq_iff_eq.2 h3) (sq (rg (m_ rfl rfl (vl (nc rfl rfl) rfl (vl (fa rfl rfl rfl) rfl (m_ rfl rfl ?_))))))
      refine gq 1 kQueryS_p1_2 rfl (cs' := [.slice Aq1 q.rect.low.length cq1, .slice Aq2 q.rect.high.length cq2]) rfl fun s4 w_ rs4 us4 => ?_
      refine cs_ (v := .bool (coversR q.rect r)) (by kernel_rfl) rfl rfl rfl (fun w_ hs_ => spec_l1Covers w_ (hs_.at 0 rfl) (hs_.at 1 rfl) (yFq.rect (by omega)) yFr) (a_ rfl rfl (en (nx (rt (xrb (xr (ret1 rfl rfl (fun w_ hs_ => ⟨?_, hs_.below⟩))))))))
      simp [matchQ, h1, h3]
    · refine cf rfl (beq_eq_false_iff_ne.2 h3) (sq (rg (vl (cm rfl rfl rfl rfl) rfl (a_ rfl rfl (en (nx ?_))))))
      by_cases h5 : q.kind = (3 : Int)
      · refine ct rfl (beq_iff_eq.2 h5) (sq (rg (m_ rfl rfl (m_ rfl rfl (vl (nc rfl rfl) rfl (vl (fa rfl rfl rfl) rfl (vl (ldp (u := .slice Aq3 q.point.length cq3) 1 rfl rfl rfl rfl rfl rfl rfl) rfl ?_)))))))
        refine gp 1 kQueryS_p3_1 rfl (cs' := [.slice Aq3 q.point.length cq3]) rfl fun s6 w_ rs6 us6 => ?_
        have Ls6 := Kd.sl_len rs6; have Cs6 := Kd.sl_cap rs6
        refine cs_ (v := .int .i64 (distR r q.point)) (by kernel_rfl) rfl rfl rfl (fun w_ hs_ => spec_l1Dist w_ (hs_.at 1 rfl) (hs_.at 0 rfl) hd yFr (yFq.pt (by omega))) (vl (cm rfl rfl rfl rfl) rfl (a_ rfl rfl (en (nx (rt (xrb (xr (ret1 rfl rfl (fun w_ hs_ => ⟨?_, hs_.below⟩)))))))))
        simp [matchQ, h1, h3, h5]
      · refine cf rfl (beq_eq_false_iff_ne.2 h5) (sk (xn (nx (sq (rg (a_ rfl rfl (en (nx (rt (ret1 rfl rfl (fun w_ hs_ => ⟨?_, hs_.below⟩)))))))))))
        simp [matchQ, h1, h3, h5]
/-! cmp.isNaN[int64] -/
set_option maxRecDepth 20000 in
set_option maxHeartbeats 2000000 in
theorem cmp_isNaN_int64 (w : World) (x : Int)  : Calls Tryz.prog 162 #[.int .i64 x] w (fun e_ w2_ => e_ = .returned (.bool false) ∧ Below w.heap.size w w2_) := by
  refine fnc (X := X10 6 w) (args := [.int .i64 x]) (l := [(0, .int .i64 x)]) (G := []) Tryz.func162 rfl rfl rfl ⟨rfl, trivial⟩ (s0n w).1 ?_
  refine sq (rg (a_ rfl rfl (en (nx (sq (rg (m_ rfl rfl (m_ rfl rfl (vl (cm rfl rfl rfl rfl) rfl (a_ rfl rfl (en (nx (rt (ret1 rfl rfl (fun w_ hs_ => ⟨?_, hs_.below⟩)))))))))))))))
  exact rb (by simp)
/-! cmp.Compare[int64] -/
set_option maxRecDepth 20000 in
set_option maxHeartbeats 2000000 in
theorem cmp_Compare_int64 (w : World) (x : Int) (y : Int)  : Calls Tryz.prog 157 #[.int .i64 x, .int .i64 y] w (fun e_ w2_ => e_ = .returned (.int .i64 (cmpI x y)) ∧ Below w.heap.size w w2_) := by
  refine fnc (X := X10 20 w) (args := [.int .i64 x, .int .i64 y]) (l := [(0, .int .i64 x), (1, .int .i64 y)]) (G := []) Tryz.func157 rfl rfl rfl ⟨rfl, rfl, trivial⟩ (s0n w).1 ?_
  refine sq (rg (a_ rfl rfl (en (nx (sq (rg (m_ rfl rfl (cs_ (v := .bool false) (by kernel_rfl) rfl rfl rfl (fun w_ hs_ => cmp_isNaN_int64 w_ _) (a_ rfl rfl (en (nx (sq (rg (m_ rfl rfl (cs_ (v := .bool false) (by kernel_rfl) rfl rfl rfl (fun w_ hs_ => cmp_isNaN_int64 w_ _) (a_ rfl rfl (en (nx (sq (sq (rg (m_ rfl rfl (en (nx (cf rfl rfl (sk (nx (sq (sq (rg (m_ rfl rfl (en (nx (cf rfl rfl (sk (nx (sq (sq (rg (m_ rfl rfl (m_ rfl rfl (vl (cm rfl rfl rfl rfl) rfl (en (nx ?_))))))))))))))))))))))))))))))))))))))))))))
  by_cases h1 : x < y
  · refine ct rfl (decide_eq_true h1) (sq (rg (a_ rfl rfl (en (nx (rt (xr (ret1 rfl rfl (fun w_ hs_ => ⟨?_, hs_.below⟩)))))))))
    exact ri (by unfold cmpI; grind)
  · refine cf rfl (decide_eq_false h1) (sk (nx (sq (sq (rg (m_ rfl rfl (m_ rfl rfl (vl (cm rfl rfl rfl rfl) rfl (en (nx ?_))))))))))
    by_cases h2 : y < x
    · refine ct rfl (decide_eq_true h2) (sq (rg (a_ rfl rfl (en (nx (rt (xr (ret1 rfl rfl (fun w_ hs_ => ⟨?_, hs_.below⟩)))))))))
      exact ri (by unfold cmpI; grind)
    · refine cf rfl (decide_eq_false h2) (sk (nx (sq (rg (a_ rfl rfl (en (nx (rt (ret1 rfl rfl (fun w_ hs_ => ⟨?_, hs_.below⟩))))))))))
      exact ri (by unfold cmpI; grind)
def orI (l : List Int) : Int := (l.find? (fun x => x != 0)).getD 0
theorem orI_at {l : List Int} {k : Nat} {y : Int} (h : ∀ j x, j < k → l[j]? = some x → x = 0) (hy : l[k]? = some y) (hn : ¬ y = 0) : y = orI l := by
  unfold orI
  have h1 : l.find? (fun x => x != 0) = some y := by
    rw [List.find?_eq_some_iff_getElem]
    obtain ⟨hk, rfl⟩ := List.getElem?_eq_some_iff.1 hy
    refine ⟨by simpa using hn, k, hk, rfl, fun j hj => ?_⟩
    have := h j l[j] hj (List.getElem?_eq_getElem (by omega))
    simp [this]
  rw [h1]; rfl
theorem orI_0 {l : List Int} {k : Nat} (h : ∀ j x, j < k → l[j]? = some x → x = 0) (hk : l.length ≤ k) : 0 = orI l := by
  unfold orI
  have h1 : l.find? (fun x => x != 0) = none := by
    rw [List.find?_eq_none]
    intro x hx
    obtain ⟨j, hj⟩ := List.getElem?_of_mem hx
    have := h j x (by have := (List.getElem?_eq_some_iff.1 hj).1; omega) hj
    simp [this]
  rw [h1]; rfl
theorem orI_two (a b : Int) : orI [a, b] = if a = 0 then b else a := by
  unfold orI
  by_cases h : a = 0
  · subst h
    by_cases h2 : b = 0
    · subst h2; rfl
    · rw [if_pos rfl, List.find?_cons_of_neg (by simp), List.find?_cons_of_pos (by simpa using h2)]; rfl
  · rw [if_neg h, List.find?_cons_of_pos (by simpa using h)]; rfl
/-! cmp.Or[int] -/
set_option maxRecDepth 20000 in
set_option maxHeartbeats 2000000 in
theorem cmp_Or_int (w : World) {Avals : Option Addr} {cvals : Nat} {vals : List Int} {svals_ : List Nat} (hvals : (Kd.sl Kd.i64).Rel w [.slice Avals vals.length cvals] vals [] svals_)  : Calls Tryz.prog 156 #[.slice Avals vals.length cvals] w (fun e_ w2_ => e_ = .returned (.int .i64 (orI vals)) ∧ Below w.heap.size w w2_) := by
  have Lvals := Kd.sl_len hvals; have Cvals := Kd.sl_cap hvals
  refine fnc (X := X10 18 w) (args := [.slice Avals vals.length cvals]) (l := [(0, .slice Avals vals.length cvals)]) (G := [dat (Kd.sl Kd.i64) [.slice Avals vals.length cvals] vals ([]) svals_]) Tryz.func156 rfl rfl rfl ⟨rfl, trivial⟩ (s0d hvals (s0n w)).1 ?_
  refine sq (rg (a_ rfl rfl (en (nx (sq (rg (a_ rfl rfl (en (nx (sq (sq (rg (m_ rfl rfl (vl (ln rfl rfl rfl) rfl (m_ rfl rfl (en (nx (bk ?_))))))))))))))))))
  refine lp (σ := Nat) (fun k : Nat => [(3, .int .i64 0), (6, .slice Avals vals.length cvals), (7, .int .i64 ((vals.length : Nat) : Int)), (8, .int .i64 ((k : Nat) : Int))])
      (fun k : Nat => [dat (Kd.sl Kd.i64) [.slice Avals vals.length cvals] vals ([]) svals_])
      (fun k : Nat => k ≤ vals.length ∧ ∀ j x, j < k → vals[j]? = some x → x = 0) (fun k : Nat => vals.length - k) 0 [0] ⟨Nat.zero_le _, by simp⟩ ⟨rfl, rfl, rfl, rfl, trivial⟩ rfl ?_
  intro k hp_
  obtain ⟨hk, hinv⟩ := hp_
  refine sq (rg (vl (cm rfl rfl rfl rfl) rfl (en (nx (sq ?_)))))
  by_cases h1 : ((k : Nat) : Int) < ((vals.length : Nat) : Int)
  · refine ct rfl (decide_eq_true h1) (sk (nx (sq (bk (sq (rg ?_))))))
    refine gx 0 k rfl (by omega) fun y7 p2 cs_ s3 w6 m8 e4 r5 us3 => ?_
    obtain ⟨rfl, -, -⟩ := r5
    refine vl (ix k e4 rfl rfl rfl rfl rfl (by omega)) rfl (vl (ldq (u := .int .i64 y7) 0 rfl rfl rfl rfl rfl rfl rfl) rfl (a_ rfl rfl (en (nx (sq (rg (m_ rfl rfl (m_ rfl rfl (vl (cm rfl rfl rfl rfl) rfl (en (nx ?_)))))))))))
    by_cases h9 : y7 = (0 : Int)
    · exact cf rfl (bne_eq_false_iff_eq.2 h9) (sk (xn (nx (rg (vl (ra (c := ((k + 1 : Nat) : Int)) rfl rfl rfl (by omega) (by omega) (by omega)) rfl (m_ rfl rfl (en (lpe (s := k) (k + 1) [1] ⟨by omega, true_stepP hinv m8 h9⟩ (by omega) ⟨rfl, rfl, rfl, rfl, trivial⟩ rfl))))))))
    · refine ct rfl (bne_iff_ne.2 h9) (sq (rg (m_ rfl rfl (a_ rfl rfl (en (nx (rt (xrb (xr (xr (xrb (xr (ret1 rfl rfl (fun w_ hs_ => ⟨?_, hs_.below⟩))))))))))))))
      exact ri (orI_at hinv m8 h9)
  · refine cf rfl (decide_eq_false h1) (xt (xq (xq (xb (nx (sq (rg (m_ rfl rfl (a_ rfl rfl (en (nx (rt (ret1 rfl rfl (fun w_ hs_ => ⟨?_, hs_.below⟩))))))))))))))
    exact ri (orI_0 hinv (by omega))
/-! impl.nearFirst$1 -/
set_option maxRecDepth 20000 in
set_option maxHeartbeats 2000000 in
theorem impl_nearFirst_1 (w : World) {Aa1 : Option Addr} {ca1 : Nat} {Aa2 : Option Addr} {ca2 : Nat} {a : Pair} {sa_ : List Nat} (ha : kPairS.Rel w [.int .i64 a.id, .slice Aa1 a.rect.low.length ca1, .slice Aa2 a.rect.high.length ca2] a [] sa_) {Ab1 : Option Addr} {cb1 : Nat} {Ab2 : Option Addr} {cb2 : Nat} {b : Pair} {sb_ : List Nat} (hb : kPairS.Rel w [.int .i64 b.id, .slice Ab1 b.rect.low.length cb1, .slice Ab2 b.rect.high.length cb2] b [] sb_) {Ap : Option Addr} {cp : Nat} {p : List Int} {sp_ : List Nat} {pp : Addr} (hp : (ptr (Kd.sl Kd.i64) pp [.slice Ap p.length cp] p sp_).P w) {d : Nat} (hd : d ≤ 3) (yFa : FitR d a.rect) (yFb : FitR d b.rect) (yFp : FitP d p) : Calls Tryz.prog 155 #[.agg #[.int .i64 a.id, .slice Aa1 a.rect.low.length ca1, .slice Aa2 a.rect.high.length ca2], .agg #[.int .i64 b.id, .slice Ab1 b.rect.low.length cb1, .slice Ab2 b.rect.high.length cb2], .pointer (some pp)] w (fun e_ w2_ => e_ = .returned (.int .i64 (nearC p a b)) ∧ Below w.heap.size w w2_) := by
  refine fnc (X := X10 22 w) (args := [.agg #[.int .i64 a.id, .slice Aa1 a.rect.low.length ca1, .slice Aa2 a.rect.high.length ca2], .agg #[.int .i64 b.id, .slice Ab1 b.rect.low.length cb1, .slice Ab2 b.rect.high.length cb2], .pointer (some pp)]) (l := [(0, .agg #[.int .i64 a.id, .slice Aa1 a.rect.low.length ca1, .slice Aa2 a.rect.high.length ca2]), (1, .agg #[.int .i64 b.id, .slice Ab1 b.rect.low.length cb1, .slice Ab2 b.rect.high.length cb2]), (2, .pointer (some pp))]) (G := [ptr (Kd.sl Kd.i64) pp [.slice Ap p.length cp] p sp_, dat kPairS [.int .i64 b.id, .slice Ab1 b.rect.low.length cb1, .slice Ab2 b.rect.high.length cb2] b ([]) sb_, dat kPairS [.int .i64 a.id, .slice Aa1 a.rect.low.length ca1, .slice Aa2 a.rect.high.length ca2] a ([]) sa_]) Tryz.func155 rfl rfl rfl ⟨rfl, rfl, rfl, trivial⟩ (s0p hp (s0d hb (s0d ha (s0n w)))).1 ?_
  refine sq (rg (bx rfl rfl rfl rfl ?_))
  intro b1
  refine bx rfl rfl rfl rfl ?_
  intro b2
  refine a_ rfl rfl (en (nx (sq ?_)))
  refine gd 4 kPairS_p1_2 rfl (cs' := [.slice Aa1 a.rect.low.length ca1, .slice Aa2 a.rect.high.length ca2]) rfl fun s3 w_ rs3 us3 => ?_
  refine gp 3 Kd.Sub.rfl rfl (cs' := [.slice Ap p.length cp]) rfl fun s4 w_ rs4 us4 => ?_
  have Ls4 := Kd.sl_len rs4; have Cs4 := Kd.sl_cap rs4
  refine gd 5 kPairS_p1_2 rfl (cs' := [.slice Ab1 b.rect.low.length cb1, .slice Ab2 b.rect.high.length cb2]) rfl fun s5 w_ rs5 us5 => ?_
  refine r0 (qv 0 rfl (fa rfl rfl rfl) rfl (by kernel_rfl) (qv 1 rfl (ldb 4 rfl rfl rfl rfl rfl rfl rfl) rfl (by kernel_rfl) (qv 2 rfl (ldq (u := .slice Ap p.length cp) 5 rfl rfl rfl rfl rfl rfl rfl) rfl (by kernel_rfl) (qv 4 rfl (fa rfl rfl rfl) rfl (by kernel_rfl) (qv 5 rfl (ldb 3 rfl rfl rfl rfl rfl rfl rfl) rfl (by kernel_rfl) (qv 6 rfl (ldq (u := .slice Ap p.length cp) 5 rfl rfl rfl rfl rfl rfl rfl) rfl (by kernel_rfl) (qv 9 rfl (fa rfl rfl rfl) rfl (by kernel_rfl) (qv 10 rfl (ldb (u := .int .i64 a.id) 4 rfl rfl rfl rfl rfl rfl rfl) rfl (by kernel_rfl) (qv 11 rfl (fa rfl rfl rfl) rfl (by kernel_rfl) (qv 12 rfl (ldb (u := .int .i64 b.id) 3 rfl rfl rfl rfl rfl rfl rfl) rfl (by kernel_rfl) (q1 3 [0, 0, 0, 0, 0, 0, 0, 0] rfl (by kernel_rfl) rfl (cs_ (v := .int .i64 (distR a.rect p)) (by kernel_rfl) rfl rfl rfl (fun w_ hs_ => by exact impl_distance w_ (hs_.at 2 rfl) (hs_.at 1 rfl) hd yFa yFp) (qn (q1 7 [0, 0, 0, 0, 0, 0, 0, 0] rfl (by kernel_rfl) rfl (cs_ (v := .int .i64 (distR b.rect p)) (by kernel_rfl) rfl rfl rfl (fun w_ hs_ => by exact impl_distance w_ (hs_.at 0 rfl) (hs_.at 1 rfl) hd yFb yFp) (qn (q1 8 [0, 0, 0, 0, 0, 0, 0, 0] rfl (by kernel_rfl) rfl (cs_ (v := .int .i64 (cmpI (distR a.rect p) (distR b.rect p))) (by kernel_rfl) rfl rfl rfl (fun w_ hs_ => by exact cmp_Compare_int64 w_ _ _) (qn (q1 13 [0, 0, 0, 0, 0, 0, 0, 0] rfl (by kernel_rfl) rfl (cs_ (v := .int .i64 (cmpI a.id b.id)) (by kernel_rfl) rfl rfl rfl (fun w_ hs_ => by exact cmp_Compare_int64 w_ _ _) (qn (q1 14 [0, 0, 0, 0, 0, 0, 0, 0] rfl (by kernel_rfl) rfl (bs2 rfl info3 rfl rfl rfl rfl ?_))))))))))))))))))))))))
  intro b6
  refine qn (q1 15 [1, 1, 1, 1, 1, 1, 1, 1] rfl (by kernel_rfl) rfl (cs_ (v := .int .i64 (orI ([(cmpI (distR a.rect p) (distR b.rect p)), (cmpI a.id b.id)]))) (by kernel_rfl) rfl rfl rfl (fun w_ hs_ => by exact bor (Kd.Seals.row Kd.Seals.i64 _) (hs_.at 0 rfl) fun _ lb0_ => cmp_Or_int w_ lb0_) (qn (qv 16 rfl (as_ rfl rfl) rfl (by kernel_rfl) (qe [1, 1, 1, 1, 1, 1, 1, 1] (by kernel_rfl) rfl (nx (rt (ret1 rfl rfl (fun w_ hs_ => ⟨?_, hs_.below⟩)))))))))
  exact ri (by unfold nearC; rw [orI_two])
/-! spec.l2Nearer -/
set_option maxRecDepth 20000 in
set_option maxHeartbeats 2000000 in
theorem spec_l2Nearer (w : World) {Ap : Option Addr} {cp : Nat} {p : List Int} {sp_ : List Nat} (hp : (Kd.sl Kd.i64).Rel w [.slice Ap p.length cp] p [] sp_) {Aa1 : Option Addr} {ca1 : Nat} {Aa2 : Option Addr} {ca2 : Nat} {a : Pair} {sa_ : List Nat} {pa : Addr} (ha : (ptr kPairS pa [.int .i64 a.id, .slice Aa1 a.rect.low.length ca1, .slice Aa2 a.rect.high.length ca2] a sa_).P w) {Ab1 : Option Addr} {cb1 : Nat} {Ab2 : Option Addr} {cb2 : Nat} {b : Pair} {sb_ : List Nat} {pb : Addr} (hb : (ptr kPairS pb [.int .i64 b.id, .slice Ab1 b.rect.low.length cb1, .slice Ab2 b.rect.high.length cb2] b sb_).P w) {d : Nat} (hd : d ≤ 3) (yFa : FitR d a.rect) (yFb : FitR d b.rect) (yFp : FitP d p) : Calls Tryz.prog 106 #[.slice Ap p.length cp, .pointer (some pa), .pointer (some pb)] w (fun e_ w2_ => e_ = .returned (.bool (nearerP p a b)) ∧ Below w.heap.size w w2_) := by
  have Lp := Kd.sl_len hp; have Cp := Kd.sl_cap hp
  refine fnc (X := X10 38 w) (args := [.slice Ap p.length cp, .pointer (some pa), .pointer (some pb)]) (l := [(0, .slice Ap p.length cp), (1, .pointer (some pa)), (2, .pointer (some pb))]) (G := [ptr kPairS pb [.int .i64 b.id, .slice Ab1 b.rect.low.length cb1, .slice Ab2 b.rect.high.length cb2] b sb_, ptr kPairS pa [.int .i64 a.id, .slice Aa1 a.rect.low.length ca1, .slice Aa2 a.rect.high.length ca2] a sa_, dat (Kd.sl Kd.i64) [.slice Ap p.length cp] p ([]) sp_]) Tryz.func106 rfl rfl rfl ⟨rfl, rfl, rfl, trivial⟩ (s0p hb (s0p ha (s0d hp (s0n w)))).1 ?_
  refine sq (rg (a_ rfl rfl (en (nx (sq (rg (m_ rfl rfl (vl (nc rfl rfl) rfl (vl (fa rfl rfl rfl) rfl (m_ rfl rfl ?_))))))))))
  refine gq 1 kPairS_p1_2 rfl (cs' := [.slice Aa1 a.rect.low.length ca1, .slice Aa2 a.rect.high.length ca2]) rfl fun s1 w_ rs1 us1 => ?_
  refine cs_ (v := .int .i64 (distR a.rect p)) (by kernel_rfl) rfl rfl rfl (fun w_ hs_ => spec_l1Dist w_ (hs_.at 0 rfl) (hs_.at 3 rfl) hd yFa yFp) (a_ rfl rfl (en (nx (sq (rg (m_ rfl rfl (vl (nc rfl rfl) rfl (vl (fa rfl rfl rfl) rfl (m_ rfl rfl ?_)))))))))
  refine gq 1 kPairS_p1_2 rfl (cs' := [.slice Ab1 b.rect.low.length cb1, .slice Ab2 b.rect.high.length cb2]) rfl fun s2 w_ rs2 us2 => ?_
  refine cs_ (v := .int .i64 (distR b.rect p)) (by kernel_rfl) rfl rfl rfl (fun w_ hs_ => spec_l1Dist w_ (hs_.at 0 rfl) (hs_.at 4 rfl) hd yFb yFp) (a_ rfl rfl (en (nx (sq ?_))))
  by_cases h3 : (distR a.rect p) < (distR b.rect p)
  · refine r0 (qv 0 rfl (mv rfl rfl) rfl (by kernel_rfl) (qv 1 rfl (mv rfl rfl) rfl (by kernel_rfl) (qv 2 rfl (cm rfl rfl rfl rfl) rfl (by kernel_rfl) (qv 3 rfl (mv rfl rfl) rfl (by kernel_rfl) (qs 4 rfl rfl rfl (decide_eq_true h3) (by kernel_rfl) (qs 5 rfl rfl rfl (decide_eq_true h3) (by kernel_rfl) (qs 6 rfl rfl rfl (decide_eq_true h3) (by kernel_rfl) (qs 7 rfl rfl rfl (decide_eq_true h3) (by kernel_rfl) (qu 8 rfl rfl rfl (by kernel_rfl) (qu 9 rfl rfl rfl (by kernel_rfl) (qu 10 rfl rfl rfl (by kernel_rfl) (qu 11 rfl rfl rfl (by kernel_rfl) (qu 12 rfl rfl rfl (by kernel_rfl) (qu 13 rfl rfl rfl (by kernel_rfl) (qu 14 rfl rfl rfl (by kernel_rfl) (qu 15 rfl rfl rfl (by kernel_rfl) (qu 16 rfl rfl rfl (by kernel_rfl) (qs 17 rfl rfl rfl (decide_eq_true h3) (by kernel_rfl) (qv 18 rfl (pk (b := true) rfl rfl (decide_eq_true h3) rfl) rfl (by kernel_rfl) (qv 19 rfl (as_ rfl rfl) rfl (by kernel_rfl) (qe [0, 0, 0, 0, 0] (by kernel_rfl) rfl (nx (rt (ret1 rfl rfl (fun w_ hs_ => ⟨?_, hs_.below⟩)))))))))))))))))))))))))
    exact rb (by unfold nearerP; grind)
  · by_cases h4 : (distR a.rect p) = (distR b.rect p)
    · refine r0 (qv 0 rfl (mv rfl rfl) rfl (by kernel_rfl) (qv 1 rfl (mv rfl rfl) rfl (by kernel_rfl) (qv 2 rfl (cm rfl rfl rfl rfl) rfl (by kernel_rfl) (qv 3 rfl (mv rfl rfl) rfl (by kernel_rfl) (qg 4 rfl (mv rfl rfl) rfl rfl (decide_eq_false h3) (by kernel_rfl) (qg 5 rfl (mv rfl rfl) rfl rfl (decide_eq_false h3) (by kernel_rfl) (qg 6 rfl (cm rfl rfl rfl rfl) rfl rfl (decide_eq_false h3) (by kernel_rfl) (qg 7 rfl (mv rfl rfl) rfl rfl (decide_eq_false h3) (by kernel_rfl) (qg 8 rfl (mv rfl rfl) rfl rfl (beq_iff_eq.2 h4) (by kernel_rfl) (qg 9 rfl (nc rfl rfl) rfl rfl (beq_iff_eq.2 h4) (by kernel_rfl) (qg 10 rfl (fa rfl rfl rfl) rfl rfl (beq_iff_eq.2 h4) (by kernel_rfl) (qg 11 rfl (ldp (u := .int .i64 a.id) 3 rfl rfl rfl rfl rfl rfl rfl) rfl rfl (beq_iff_eq.2 h4) (by kernel_rfl) (qg 12 rfl (mv rfl rfl) rfl rfl (beq_iff_eq.2 h4) (by kernel_rfl) (qg 13 rfl (nc rfl rfl) rfl rfl (beq_iff_eq.2 h4) (by kernel_rfl) (qg 14 rfl (fa rfl rfl rfl) rfl rfl (beq_iff_eq.2 h4) (by kernel_rfl) (qg 15 rfl (ldp (u := .int .i64 b.id) 2 rfl rfl rfl rfl rfl rfl rfl) rfl rfl (beq_iff_eq.2 h4) (by kernel_rfl) (qg 16 rfl (cm rfl rfl rfl rfl) rfl rfl (beq_iff_eq.2 h4) (by kernel_rfl) (qg 17 rfl (pk (b := true) rfl rfl (beq_iff_eq.2 h4) rfl) rfl rfl (decide_eq_false h3) (by kernel_rfl) (qv 18 rfl (pk (b := false) rfl rfl (decide_eq_false h3) rfl) rfl (by kernel_rfl) (qv 19 rfl (as_ rfl rfl) rfl (by kernel_rfl) (qe [0, 0, 0, 0, 0] (by kernel_rfl) rfl (nx (rt (ret1 rfl rfl (fun w_ hs_ => ⟨?_, hs_.below⟩)))))))))))))))))))))))))
      exact rb (by unfold nearerP; grind)
    · refine r0 (qv 0 rfl (mv rfl rfl) rfl (by kernel_rfl) (qv 1 rfl (mv rfl rfl) rfl (by kernel_rfl) (qv 2 rfl (cm rfl rfl rfl rfl) rfl (by kernel_rfl) (qv 3 rfl (mv rfl rfl) rfl (by kernel_rfl) (qg 4 rfl (mv rfl rfl) rfl rfl (decide_eq_false h3) (by kernel_rfl) (qg 5 rfl (mv rfl rfl) rfl rfl (decide_eq_false h3) (by kernel_rfl) (qg 6 rfl (cm rfl rfl rfl rfl) rfl rfl (decide_eq_false h3) (by kernel_rfl) (qg 7 rfl (mv rfl rfl) rfl rfl (decide_eq_false h3) (by kernel_rfl) (qs 8 rfl rfl rfl (beq_eq_false_iff_ne.2 h4) (by kernel_rfl) (qs 9 rfl rfl rfl (beq_eq_false_iff_ne.2 h4) (by kernel_rfl) (qs 10 rfl rfl rfl (beq_eq_false_iff_ne.2 h4) (by kernel_rfl) (qs 11 rfl rfl rfl (beq_eq_false_iff_ne.2 h4) (by kernel_rfl) (qs 12 rfl rfl rfl (beq_eq_false_iff_ne.2 h4) (by kernel_rfl) (qs 13 rfl rfl rfl (beq_eq_false_iff_ne.2 h4) (by kernel_rfl) (qs 14 rfl rfl rfl (beq_eq_false_iff_ne.2 h4) (by kernel_rfl) (qs 15 rfl rfl rfl (beq_eq_false_iff_ne.2 h4) (by kernel_rfl) (qs 16 rfl rfl rfl (beq_eq_false_iff_ne.2 h4) (by kernel_rfl) (qg 17 rfl (pk (b := false) rfl rfl (beq_eq_false_iff_ne.2 h4) rfl) rfl rfl (decide_eq_false h3) (by kernel_rfl) (qv 18 rfl (pk (b := false) rfl rfl (decide_eq_false h3) rfl) rfl (by kernel_rfl) (qv 19 rfl (as_ rfl rfl) rfl (by kernel_rfl) (qe [0, 0, 0, 0, 0] (by kernel_rfl) rfl (nx (rt (ret1 rfl rfl (fun w_ hs_ => ⟨?_, hs_.below⟩)))))))))))))))))))))))))
      exact rb (by unfold nearerP; grind)
end Go.Proofs.YtkdiaknbndmajaaGreat.Sx
