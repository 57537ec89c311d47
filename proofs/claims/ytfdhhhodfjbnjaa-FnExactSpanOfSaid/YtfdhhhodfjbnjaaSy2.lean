/- What functions of the program answer, each at every input that its row names; walked through their code. -/
import Derived.Test.YtfdhhhodfjbnjaaSy1
namespace Go.Proofs.Ytfdhhhodfjbnjaa.Sx
open Go Go.RowKit Go.Proofs
set_option linter.unusedVariables false
set_option linter.unusedSimpArgs false
def tab1 : Tab := { size := [], off := [], elem := [] }
theorem tab_ok1 : tab1.check Try.prog = true := by kernel_rfl
noncomputable abbrev X1 (N : Nat) (w : World) : Cx := ⟨Try.prog, tab1, tab_ok1, wide, N, w, none, []⟩

def Sorted (l : List Pair) : Prop := l.Pairwise (fun a b => a.id < b.id)
def takeId (l : List Pair) (id : Int) : List Pair := l.filter (fun p => !(p.id == id))
def addTo : List Pair → Pair → List Pair
  | [], p => [p]
  | q :: r, p => if p.id < q.id then p :: q :: r else q :: addTo r p
def turnOf (l : List Pair) (n : Note) : List Pair := if n.kind = 2 ∧ n.answer.code = 0 then (if n.op.kind = 1 then addTo (takeId l n.op.pair.id) n.op.pair else if n.op.kind = 2 then takeId l n.op.pair.id else l) else l
def fitsN (l : List Pair) (n : Note) : Bool :=
  if n.op.kind = 1 then (if 0 ≤ idx (fun x => x.id == n.op.pair.id) l then n.answer.code == 6 else n.answer.code == 0 || n.answer.code == 7)
  else if n.op.kind = 2 then (if l.any (fun q => decide (n.op.pair = q)) = true then n.answer.code == 0 else n.answer.code == 4) else false
theorem Sorted.uniq {l : List Pair} (h : Sorted l) {i j : Nat} {a b : Pair} (hi : l[i]? = some a) (hj : l[j]? = some b) (he : a.id = b.id) : i = j := by
  unfold Sorted at h
  rw [List.pairwise_iff_getElem] at h
  obtain ⟨h1, rfl⟩ := List.getElem?_eq_some_iff.1 hi
  obtain ⟨h2, rfl⟩ := List.getElem?_eq_some_iff.1 hj
  rcases Nat.lt_trichotomy i j with hlt | rfl | hlt
  · have := h i j h1 h2 hlt; omega
  · rfl
  · have := h j i h2 h1 hlt; omega
theorem there_no {l : List Pair} {p : Pair} (h : ¬ (0 : Int) ≤ idx (fun x => x.id == p.id) l) : l.any (fun q => decide (p = q)) = false := by
  have h1 := idx_neg h
  rw [List.any_eq_false]
  intro q hq he
  have := h1 q hq
  simp at he this
  exact this (by rw [he])
theorem there_at {l : List Pair} {p y : Pair} {k : Nat} (hs : Sorted l) (hk : l[k]? = some y) (he : (y.id == p.id) = true) : l.any (fun q => decide (p = q)) = decide (y.rect = p.rect) := by
  simp only [beq_iff_eq] at he
  rw [Bool.eq_iff_iff, List.any_eq_true]
  simp only [decide_eq_true_eq]
  constructor
  · rintro ⟨q, hq, rfl⟩
    obtain ⟨j, hj⟩ := List.getElem?_of_mem hq
    have := hs.uniq hj hk (by omega)
    subst this
    rw [hk] at hj; cases hj; rfl
  · intro hr
    refine ⟨y, List.mem_of_getElem? hk, ?_⟩
    cases y; cases p; simp_all
theorem drop_at {α : Type} {l : List α} {k : Nat} {y : α} (h : l[k]? = some y) : l.drop k = y :: l.drop (k + 1) := by
  obtain ⟨h1, rfl⟩ := List.getElem?_eq_some_iff.1 h
  exact List.drop_eq_getElem_cons h1
theorem take_0 {l out : List Pair} {id : Int} {k : Nat} (h : out ++ takeId (l.drop k) id = takeId l id) (hk : l.length ≤ k) : out = takeId l id := by
  rw [List.drop_of_length_le hk] at h; simpa [takeId] using h
theorem take_y {l out : List Pair} {id : Int} {k : Nat} {y : Pair} (h : out ++ takeId (l.drop k) id = takeId l id) (hy : l[k]? = some y) (hn : ¬ y.id = id) : (out ++ [y]) ++ takeId (l.drop (k + 1)) id = takeId l id := by
  rw [drop_at hy] at h; simpa [takeId, hn] using h
theorem take_n {l out : List Pair} {id : Int} {k : Nat} {y : Pair} (h : out ++ takeId (l.drop k) id = takeId l id) (hy : l[k]? = some y) (hn : y.id = id) : out ++ takeId (l.drop (k + 1)) id = takeId l id := by
  rw [drop_at hy] at h; simpa [takeId, hn] using h
theorem add_0 {l out : List Pair} {p : Pair} {k : Nat} (h : out ++ addTo (l.drop k) p = addTo l p) (hk : l.length ≤ k) : out ++ [p] = addTo l p := by
  rw [List.drop_of_length_le hk] at h; simpa [addTo] using h
theorem add_y {l out : List Pair} {p y : Pair} {k : Nat} (h : out ++ addTo (l.drop k) p = addTo l p) (hy : l[k]? = some y) (hn : p.id < y.id) : ((out ++ [p]) ++ [y]) ++ l.drop (k + 1) = addTo l p := by
  rw [drop_at hy] at h; simpa [addTo, hn] using h
theorem add_n {l out : List Pair} {p y : Pair} {k : Nat} (h : out ++ addTo (l.drop k) p = addTo l p) (hy : l[k]? = some y) (hn : ¬ p.id < y.id) : (out ++ [y]) ++ addTo (l.drop (k + 1)) p = addTo l p := by
  rw [drop_at hy] at h; simpa [addTo, hn] using h
theorem add_d {l out r : List Pair} {y : Pair} {k : Nat} (h : out ++ l.drop k = r) (hy : l[k]? = some y) : (out ++ [y]) ++ l.drop (k + 1) = r := by
  rw [drop_at hy] at h; simpa using h
theorem add_e {l out r : List Pair} {k : Nat} (h : out ++ l.drop k = r) (hk : l.length ≤ k) : out = r := by
  rw [List.drop_of_length_le hk] at h; simpa using h
theorem takeId_len (l : List Pair) (i : Int) : (takeId l i).length ≤ l.length := List.length_filter_le _ _
theorem addTo_len (p : Pair) : ∀ l : List Pair, (addTo l p).length = l.length + 1
  | [] => rfl
  | q :: r => by unfold addTo; split <;> simp [addTo_len p r]
theorem turnOf_len (l : List Pair) (n : Note) : (turnOf l n).length ≤ l.length + 1 := by
  have h1 := takeId_len l n.op.pair.id
  have h2 := addTo_len n.op.pair (takeId l n.op.pair.id)
  unfold turnOf; split
  · split
    · omega
    · split <;> omega
  · omega
theorem Sorted.take {l : List Pair} (h : Sorted l) (i : Int) : Sorted (takeId l i) := List.Pairwise.filter _ h
theorem addTo_mem {p x : Pair} : ∀ {l : List Pair}, x ∈ addTo l p → x = p ∨ x ∈ l
  | [], h => by simp [addTo] at h; exact .inl h
  | q :: r, h => by
    unfold addTo at h
    split at h
    · simpa using h
    · rcases List.mem_cons.1 h with rfl | h
      · exact .inr (List.mem_cons_self ..)
      · exact (addTo_mem h).imp_right (List.mem_cons_of_mem _)
theorem Sorted.add {p : Pair} : ∀ {l : List Pair}, Sorted l → (∀ x ∈ l, x.id ≠ p.id) → Sorted (addTo l p)
  | [], _, _ => List.pairwise_singleton _ _
  | q :: r, h, hn => by
    have h1 := List.pairwise_cons.1 h
    have hq := hn q (List.mem_cons_self ..)
    unfold addTo
    split
    · rename_i hlt
      exact List.pairwise_cons.2 ⟨fun x hx => by
        rcases List.mem_cons.1 hx with rfl | hx
        · exact hlt
        · have := h1.1 x hx; omega, h⟩
    · rename_i hlt
      refine List.pairwise_cons.2 ⟨fun x hx => ?_, Sorted.add h1.2 (fun x hx => hn x (List.mem_cons_of_mem _ hx))⟩
      rcases addTo_mem hx with rfl | hx
      · omega
      · exact h1.1 x hx
theorem Sorted.turn {l : List Pair} (h : Sorted l) (n : Note) : Sorted (turnOf l n) := by
  unfold turnOf; split
  · split
    · exact (h.take _).add (fun x hx => by unfold takeId at hx; simpa using (List.mem_filter.1 hx).2)
    · split
      · exact h.take _
      · exact h
  · exact h
def serialFrom : List Pair → List Note → Bool
  | _, [] => true
  | l, n :: r => if n.kind = 2 ∧ fitsN l n = false then false else serialFrom (turnOf l n) r
def isSerial (notes : List Note) (dims : Int) : Bool := if notesFault notes dims = 0 then serialFrom [] notes else false
theorem serial_no {l : List Pair} {notes : List Note} {k : Nat} {n : Note} (hn : notes[k]? = some n) (h1 : n.kind = 2) (h2 : fitsN l n = false) : serialFrom l (notes.drop k) = false := by
  rw [drop_at hn]; simp [serialFrom, h1, h2]
theorem serial_on {l : List Pair} {notes : List Note} {k : Nat} {n : Note} {r : Bool} (h : serialFrom l (notes.drop k) = r) (hn : notes[k]? = some n) (h1 : ¬ (n.kind = 2 ∧ fitsN l n = false)) : serialFrom (turnOf l n) (notes.drop (k + 1)) = r := by
  rw [drop_at hn] at h; simpa only [serialFrom, if_neg h1] using h
theorem serial_0 {l : List Pair} {notes : List Note} {k : Nat} {r : Bool} (h : serialFrom l (notes.drop k) = r) (hk : notes.length ≤ k) : r = true := by
  rw [List.drop_of_length_le hk] at h; simpa [serialFrom] using h.symm
theorem firstFault_all {α : Type} {f : α → Int} : ∀ {l : List α}, firstFault f l = 0 → ∀ x ∈ l, f x = 0
  | a :: l, h, x, hx => by
    have h0 : f a = 0 := by
      by_cases h0 : f a = 0
      · exact h0
      · have := firstFault_at (f := f) (xs := a :: l) (k := 0) (y := a) (by simp) rfl h0
        omega
    rcases List.mem_cons.1 hx with rfl | hx
    · exact h0
    · have h2 : firstFault f l = 0 := by
        by_cases h3 : ∃ (k : Nat) (y : α), l[k]? = some y ∧ ¬ f y = 0 ∧ ∀ j x, j < k → l[j]? = some x → f x = 0
        · obtain ⟨k, y, hy, hfy, hall⟩ := h3
          have h4 := firstFault_at (f := f) (xs := a :: l) (k := k + 1) (y := y) (fun j x hj hx => by
            cases j with
            | zero => simp at hx; rw [← hx]; exact h0
            | succ j => exact hall j x (by omega) (by simpa using hx)) (by simpa using hy) hfy
          omega
        · refine firstFault_0 (k := l.length) (fun j x hj hx => ?_) (Nat.le_refl _)
          induction j using Nat.strongRecOn generalizing x with
          | _ j ih =>
            by_cases h5 : f x = 0
            · exact h5
            · exact absurd ⟨j, x, hx, h5, fun i y hi hy => ih i hi y (by omega) hy⟩ h3
      exact firstFault_all h2 x hx
theorem rect_sz {r : Rect} {d : Int} (h : rectFault r d = 0) (hd : isDims d = true) : szRect r ≤ 6 := by
  have hd2 : d ≤ 3 := by simp [isDims, within] at hd; omega
  unfold rectFault at h
  split at h
  · rename_i h1
    split at h
    · rename_i h2
      have := pointFault_len h1
      have := pointFault_len h2
      unfold szRect; omega
    · contradiction
  · contradiction
theorem empty_sz {r : Rect} (h : rectEmpty r = true) : szRect r ≤ 6 := by simp only [rectEmpty, Bool.and_eq_true, decide_eq_true_eq] at h; unfold szRect; omega
theorem op_sz {o : Op} {d : Int} (h : opFault o d = 0) : szPair o.pair ≤ 6 := by
  unfold szPair
  unfold opFault at h
  split at h
  · rename_i hd
    split at h
    · rename_i hk
      by_cases h4 : o.kind = 4
      · have : noPair o.pair = true := by simpa [opKind, h4] using hk
        simp only [noPair, Bool.and_eq_true] at this
        exact empty_sz this.2
      · by_cases h3 : o.kind = 3
        · have : rectEmpty o.pair.rect = true := by have := hk; simp [opKind, h3] at this; exact this.2
          exact empty_sz this
        · simp only [h4, h3, if_false] at h
          split at h
          · exact rect_sz h hd
          · simp at h
    · simp at h
  · simp at h
theorem note_sz {n : Note} {d : Int} (h : noteFault n d = 0) : szPair n.op.pair ≤ 6 := by
  apply op_sz (d := d)
  unfold noteFault at h
  split at h
  · split at h
    · split at h
      · assumption
      · assumption
    · simp at h
  · simp at h
theorem notes_0 {l : List Note} {d : Int} (h : notesFault l d = 0) : l.length ≤ 600 ∧ ∀ n ∈ l, szPair n.op.pair ≤ 6 := by
  unfold notesFault at h
  split at h
  · split at h
    · split at h
      · rename_i h1
        exact ⟨by omega, fun n hn => note_sz (firstFault_all h1 n hn)⟩
      · contradiction
    · simp at h
  · simp at h
end Go.Proofs.Ytfdhhhodfjbnjaa.Sx
