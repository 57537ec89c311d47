/- What functions of the program answer, each at every input that its row names; walked through their code. -/
import Derived.Test.YtfdhhhodfjbnjaaSy3
namespace Go.Proofs.Ytfdhhhodfjbnjaa.Sx
open Go Go.RowKit Go.Proofs
set_option linter.unusedVariables false
set_option linter.unusedSimpArgs false
def tab3 : Tab := { size := [], off := [], elem := [] }
theorem tab_ok3 : tab3.check Try.prog = true := by kernel_rfl
noncomputable abbrev X3 (N : Nat) (w : World) : Cx := ⟨Try.prog, tab3, tab_ok3, wide, N, w, none, []⟩

def timesFault (notes : List Note) (dims lo hi : Int) : Int := if notesFault notes dims = 0 then if within hi 0 1000000 = true ∧ within lo 0 hi = true then 0 else 3 else notesFault notes dims
def foldTurn (l : List Note) : List Pair := l.foldl turnOf []
def modelAt (notes : List Note) (at_ : Int) : List Pair := foldTurn (notes.takeWhile (fun n => decide (n.at_ ≤ at_)))
theorem takeWhile_at {α : Type} {p : α → Bool} : ∀ {l : List α} {k : Nat}, (∀ j x, j < k → l[j]? = some x → p x = true) → k ≤ l.length → (∀ y, l[k]? = some y → p y = false) → l.takeWhile p = l.take k
  | [], k, _, hk, _ => by simp at hk; subst hk; rfl
  | a :: l, 0, _, _, h => by have := h a rfl; simp [List.takeWhile, this]
  | a :: l, k + 1, h1, hk, h2 => by
    have h0 := h1 0 a (by omega) rfl
    rw [List.takeWhile_cons, if_pos h0, List.take_succ_cons, takeWhile_at (k := k) (fun j x hj hx => h1 (j + 1) x (by omega) (by simpa using hx)) (by simpa using hk) (fun y hy => h2 y (by simpa using hy))]
theorem foldTurn_snoc {l : List Note} {k : Nat} {y : Note} (h : l[k]? = some y) : foldTurn (l.take (k + 1)) = turnOf (foldTurn (l.take k)) y := by
  unfold foldTurn; rw [take_snoc h, List.foldl_append]; rfl
theorem model_end {notes : List Note} {at_ : Int} {k : Nat} {pairs : List Pair} (h : pairs = foldTurn (notes.take k)) (h1 : ∀ j x, j < k → notes[j]? = some x → decide (x.at_ ≤ at_) = true) (hk : k ≤ notes.length) (h2 : ∀ y, notes[k]? = some y → decide (y.at_ ≤ at_) = false) : pairs = modelAt notes at_ := by
  unfold modelAt; rw [takeWhile_at h1 hk h2, h]
theorem true_step {α : Type} {p : α → Bool} {xs : List α} {k : Nat} {y : α} (h : ∀ j x, j < k → xs[j]? = some x → p x = true) (hy : xs[k]? = some y) (hp : p y = true) : ∀ j x, j < k + 1 → xs[j]? = some x → p x = true := fun j x hj hx => by
  rcases Nat.lt_succ_iff_lt_or_eq.1 hj with hlt | rfl
  · exact h j x hlt hx
  · rw [hy] at hx; cases hx; exact hp
def timesOf (notes : List Note) (lo hi : Int) : List Int := lo :: (notes.filter (fun n => within n.at_ (lo + 1) hi)).map Note.at_
theorem timesOf_len (notes : List Note) (lo hi : Int) : (timesOf notes lo hi).length ≤ notes.length + 1 := by
  have := List.length_filter_le (fun n : Note => within n.at_ (lo + 1) hi) notes
  simp only [timesOf, List.length_cons, List.length_map]; omega
theorem times_y {l : List Note} {out r : List Int} {lo hi : Int} {k : Nat} {y : Note} (h : out ++ ((l.drop k).filter (fun n => within n.at_ (lo + 1) hi)).map Note.at_ = r) (hy : l[k]? = some y) (hn : within y.at_ (lo + 1) hi = true) : (out ++ [y.at_]) ++ ((l.drop (k + 1)).filter (fun n => within n.at_ (lo + 1) hi)).map Note.at_ = r := by
  rw [drop_at hy] at h; simpa [hn] using h
theorem times_n {l : List Note} {out r : List Int} {lo hi : Int} {k : Nat} {y : Note} (h : out ++ ((l.drop k).filter (fun n => within n.at_ (lo + 1) hi)).map Note.at_ = r) (hy : l[k]? = some y) (hn : ¬ within y.at_ (lo + 1) hi = true) : out ++ ((l.drop (k + 1)).filter (fun n => within n.at_ (lo + 1) hi)).map Note.at_ = r := by
  rw [drop_at hy] at h; simpa [hn] using h
theorem times_0 {l : List Note} {out r : List Int} {lo hi : Int} {k : Nat} (h : out ++ ((l.drop k).filter (fun n => within n.at_ (lo + 1) hi)).map Note.at_ = r) (hk : l.length ≤ k) : out = r := by
  rw [List.drop_of_length_le hk] at h; simpa using h
theorem Sorted.fold : ∀ (l : List Note) {p : List Pair}, Sorted p → Sorted (l.foldl turnOf p)
  | [], _, h => h
  | n :: l, _, h => Sorted.fold l (h.turn n)
theorem Sorted.model (notes : List Note) (t : Int) : Sorted (modelAt notes t) := Sorted.fold _ .nil
def wasIn (notes : List Note) (dims lo hi : Int) (p : Pair) : Bool := if timesFault notes dims lo hi = 0 then (timesOf notes lo hi).any (fun t => (modelAt notes t).any (fun q => decide (p = q))) else false
theorem times_ok {notes : List Note} {dims lo hi : Int} (h : timesFault notes dims lo hi = 0) : notesFault notes dims = 0 ∧ 0 ≤ lo ∧ lo ≤ 1000000 ∧ hi ≤ 1000000 ∧ lo ≤ hi := by
  unfold timesFault at h
  split at h
  · rename_i h0
    split at h
    · rename_i h1
      simp [within] at h1
      exact ⟨h0, by omega, by omega, by omega, by omega⟩
    · simp at h
  · contradiction
end Go.Proofs.Ytfdhhhodfjbnjaa.Sx
