/- What functions of the program answer, each at every input that its row names; walked through their code. -/
import Derived.Test.YtfdhhhodfjbnjaaSy4
namespace Go.Proofs.Ytfdhhhodfjbnjaa.Sx
open Go Go.RowKit Go.Proofs
set_option linter.unusedVariables false
set_option linter.unusedSimpArgs false
def tab4 : Tab := { size := [], off := [], elem := [] }
theorem tab_ok4 : tab4.check Try.prog = true := by kernel_rfl
noncomputable abbrev X4 (N : Nat) (w : World) : Cx := ⟨Try.prog, tab4, tab_ok4, wide, N, w, none, []⟩

mutual
def modelsG (hi : Int) : List Pair → Int → List Note → List (List Pair)
  | p, _, [] => [p]
  | p, a, n :: r => if n.at_ = a then modelsG hi (turnOf p n) a r else p :: (if n.at_ ≤ hi then modelsG hi (turnOf p n) n.at_ r else [])
end
def modelsO (hi : Int) (p : List Pair) : List Note → List (List Pair)
  | [] => []
  | n :: r => if n.at_ ≤ hi then modelsG hi (turnOf p n) n.at_ r else []
def restOf (notes : List Note) (at_ : Int) : List Note := notes.dropWhile (fun n => decide (n.at_ ≤ at_))
def modelsOf (notes : List Note) (lo hi : Int) : List (List Pair) := modelAt notes lo :: modelsO hi (modelAt notes lo) (restOf notes lo)
theorem dropWhile_at {α : Type} {p : α → Bool} : ∀ {l : List α} {k : Nat}, (∀ j x, j < k → l[j]? = some x → p x = true) → k ≤ l.length → (∀ y, l[k]? = some y → p y = false) → l.dropWhile p = l.drop k
  | [], k, _, hk, _ => by simp at hk; subst hk; rfl
  | a :: l, 0, _, _, h => by have := h a rfl; simp [List.dropWhile, this]
  | a :: l, k + 1, h1, hk, h2 => by
    have h0 := h1 0 a (by omega) rfl
    rw [List.dropWhile_cons, if_pos h0, List.drop_succ_cons, dropWhile_at (k := k) (fun j x hj hx => h1 (j + 1) x (by omega) (by simpa using hx)) (by simpa using hk) (fun y hy => h2 y (by simpa using hy))]
theorem models_in {l : List Note} {hi : Int} {p : List Pair} {k : Nat} {y : Note} {out r : List (List Pair)} (h : out ++ modelsO hi p (l.drop k) = r) (hy : l[k]? = some y) (hn : y.at_ ≤ hi) : out ++ modelsG hi p y.at_ (l.drop k) = r := by
  rw [drop_at hy] at h ⊢; simpa [modelsO, modelsG, hn] using h
theorem models_on {l : List Note} {hi a : Int} {p : List Pair} {k : Nat} {y : Note} {out r : List (List Pair)} (h : out ++ modelsG hi p a (l.drop k) = r) (hy : l[k]? = some y) (hn : y.at_ = a) : out ++ modelsG hi (turnOf p y) a (l.drop (k + 1)) = r := by
  rw [drop_at hy] at h; simpa [modelsG, hn] using h
theorem models_out {l : List Note} {hi a : Int} {p : List Pair} {k : Nat} {out r : List (List Pair)} (h : out ++ modelsG hi p a (l.drop k) = r) (hn : ∀ y, l[k]? = some y → ¬ y.at_ = a) : (out ++ [p]) ++ modelsO hi p (l.drop k) = r := by
  cases hl : l.drop k with
  | nil => rw [hl] at h; simpa [modelsO, modelsG] using h
  | cons n r' =>
    have hy : l[k]? = some n := by
      have : (l.drop k)[0]? = some n := by rw [hl]; rfl
      simpa using this
    rw [hl] at h
    have := hn n hy
    simpa [modelsO, modelsG, this] using h
theorem models_end {l : List Note} {hi : Int} {p : List Pair} {k : Nat} {out r : List (List Pair)} (h : out ++ modelsO hi p (l.drop k) = r) (hn : ∀ y, l[k]? = some y → ¬ y.at_ ≤ hi) : out = r := by
  cases hl : l.drop k with
  | nil => rw [hl] at h; simpa [modelsO] using h
  | cons n r' =>
    have hy : l[k]? = some n := by
      have : (l.drop k)[0]? = some n := by rw [hl]; rfl
      simpa using this
    rw [hl] at h
    simpa [modelsO, hn n hy] using h
theorem falls_pw : ∀ {l : List Note}, falls l = false → l.Pairwise (fun a b => a.at_ ≤ b.at_)
  | [], _ => .nil
  | [a], _ => List.pairwise_singleton _ _
  | a :: b :: l, h => by
    simp only [falls, adj, Bool.or_eq_false_iff, decide_eq_false_iff_not] at h
    have ih := falls_pw (l := b :: l) h.2
    refine List.pairwise_cons.2 ⟨fun x hx => ?_, ih⟩
    rcases List.mem_cons.1 hx with rfl | hx
    · omega
    · have := (List.pairwise_cons.1 ih).1 x hx; omega
def foldAt (p : List Pair) (l : List Note) (t : Int) : List Pair := (l.takeWhile (fun n => decide (n.at_ ≤ t))).foldl turnOf p
theorem foldAt_le {p : List Pair} {n : Note} {r : List Note} {t : Int} (h : n.at_ ≤ t) : foldAt p (n :: r) t = foldAt (turnOf p n) r t := by simp [foldAt, List.takeWhile, h]
theorem foldAt_gt {p : List Pair} {n : Note} {r : List Note} {t : Int} (h : ¬ n.at_ ≤ t) : foldAt p (n :: r) t = p := by simp [foldAt, List.takeWhile, h]
theorem any_congr' {α : Type} {f g : α → Bool} : ∀ {l : List α}, (∀ x ∈ l, f x = g x) → l.any f = l.any g
  | [], _ => rfl
  | a :: l, h => by rw [List.any_cons, List.any_cons, h a (List.mem_cons_self ..), any_congr' (fun x hx => h x (List.mem_cons_of_mem _ hx))]
theorem models_G {hi : Int} {P : List Pair → Bool} : ∀ (l : List Note) (p : List Pair) (a : Int), l.Pairwise (fun a b => a.at_ ≤ b.at_) → (∀ n ∈ l, a ≤ n.at_) →
    (modelsG hi p a l).any P = (P (foldAt p l a) || (l.filter (fun n => decide (n.at_ ≤ hi))).any (fun m => P (foldAt p l m.at_)))
  | [], p, a, _, _ => by simp [modelsG, foldAt]
  | n :: r, p, a, hs, ha => by
    have hs' := List.pairwise_cons.1 hs
    have hn := ha n (List.mem_cons_self ..)
    have key : ((r.filter (fun n => decide (n.at_ ≤ hi))).any fun m => P (foldAt p (n :: r) m.at_)) = (r.filter (fun n => decide (n.at_ ≤ hi))).any (fun m => P (foldAt (turnOf p n) r m.at_)) :=
      any_congr' (fun m hm => by rw [foldAt_le (hs'.1 m (List.mem_filter.1 hm).1)])
    unfold modelsG
    by_cases he : n.at_ = a
    · rw [if_pos he, models_G r (turnOf p n) a hs'.2 (fun m hm => ha m (List.mem_cons_of_mem _ hm)), foldAt_le (by omega)]
      by_cases hh : n.at_ ≤ hi
      · rw [List.filter_cons_of_pos (by simpa using hh), List.any_cons, key, foldAt_le (Int.le_refl _), he]
        cases P (foldAt (turnOf p n) r a) <;> simp
      · rw [List.filter_cons_of_neg (by simpa using hh), key]
    · rw [if_neg he, List.any_cons, foldAt_gt (by omega)]
      by_cases hh : n.at_ ≤ hi
      · rw [if_pos hh, models_G r (turnOf p n) n.at_ hs'.2 hs'.1, List.filter_cons_of_pos (by simpa using hh), List.any_cons, key, foldAt_le (Int.le_refl _)]
      · have e : r.filter (fun n => decide (n.at_ ≤ hi)) = [] := by
          rw [List.filter_eq_nil_iff]; intro m hm; have := hs'.1 m hm; simp; omega
        rw [if_neg hh, List.filter_cons_of_neg (by simpa using hh), e]; simp
theorem models_O {hi : Int} {P : List Pair → Bool} {l : List Note} {p : List Pair} (hs : l.Pairwise (fun a b => a.at_ ≤ b.at_)) :
    (modelsO hi p l).any P = (l.filter (fun n => decide (n.at_ ≤ hi))).any (fun m => P (foldAt p l m.at_)) := by
  cases l with
  | nil => simp [modelsO]
  | cons n r =>
    have hs' := List.pairwise_cons.1 hs
    have key : ((r.filter (fun n => decide (n.at_ ≤ hi))).any fun m => P (foldAt p (n :: r) m.at_)) = (r.filter (fun n => decide (n.at_ ≤ hi))).any (fun m => P (foldAt (turnOf p n) r m.at_)) :=
      any_congr' (fun m hm => by rw [foldAt_le (hs'.1 m (List.mem_filter.1 hm).1)])
    show (if n.at_ ≤ hi then modelsG hi (turnOf p n) n.at_ r else []).any P = _
    by_cases hh : n.at_ ≤ hi
    · rw [if_pos hh, models_G r (turnOf p n) n.at_ hs'.2 hs'.1, List.filter_cons_of_pos (by simpa using hh), List.any_cons, key, foldAt_le (Int.le_refl _)]
    · have e : r.filter (fun n => decide (n.at_ ≤ hi)) = [] := by
        rw [List.filter_eq_nil_iff]; intro m hm; have := hs'.1 m hm; simp; omega
      rw [if_neg hh, List.filter_cons_of_neg (by simpa using hh), e]; simp
theorem takeWhile_more {q r : Note → Bool} : ∀ {l : List Note}, (∀ n, r n = true → q n = true) → l.takeWhile q = l.takeWhile r ++ (l.dropWhile r).takeWhile q
  | [], _ => rfl
  | a :: l, h => by
    by_cases ha : r a = true
    · simp [List.takeWhile, List.dropWhile, ha, h a ha, takeWhile_more (l := l) h]
    · simp [List.takeWhile, List.dropWhile, ha]
theorem rest_pw {l : List Note} {lo : Int} (hs : l.Pairwise (fun a b => a.at_ ≤ b.at_)) : (restOf l lo).Pairwise (fun a b => a.at_ ≤ b.at_) := hs.sublist (List.dropWhile_sublist _)
theorem rest_gt : ∀ {l : List Note} {lo : Int}, l.Pairwise (fun a b => a.at_ ≤ b.at_) → ∀ n ∈ restOf l lo, lo < n.at_
  | [], _, _, n, hn => by simp [restOf] at hn
  | a :: l, lo, hs, n, hn => by
    have hs' := List.pairwise_cons.1 hs
    by_cases ha : a.at_ ≤ lo
    · exact rest_gt hs'.2 n (by simpa [restOf, List.dropWhile, ha] using hn)
    · have hn' : n ∈ a :: l := by simpa [restOf, List.dropWhile, ha] using hn
      rcases List.mem_cons.1 hn' with rfl | hn'
      · omega
      · have := hs'.1 n hn'; omega
theorem times_rest {l : List Note} {lo hi : Int} (hs : l.Pairwise (fun a b => a.at_ ≤ b.at_)) : l.filter (fun n => within n.at_ (lo + 1) hi) = (restOf l lo).filter (fun n => decide (n.at_ ≤ hi)) := by
  conv => lhs; rw [← List.takeWhile_append_dropWhile (p := fun n : Note => decide (n.at_ ≤ lo)) (l := l)]
  rw [List.filter_append]
  have e1 : (l.takeWhile (fun n : Note => decide (n.at_ ≤ lo))).filter (fun n => within n.at_ (lo + 1) hi) = [] := by
    rw [List.filter_eq_nil_iff]
    intro n hn
    have := List.all_eq_true.1 (List.all_takeWhile (l := l) (p := fun n : Note => decide (n.at_ ≤ lo))) n hn
    simp at this; simp [within]; omega
  rw [e1, List.nil_append]
  refine List.filter_congr (fun n hn => ?_)
  have := rest_gt hs n hn
  simp [within]; omega
theorem model_rest {l : List Note} {lo t : Int} (h : lo ≤ t) : modelAt l t = foldAt (modelAt l lo) (restOf l lo) t := by
  unfold modelAt foldTurn foldAt restOf
  rw [takeWhile_more (r := fun n => decide (n.at_ ≤ lo)) (q := fun n => decide (n.at_ ≤ t)) (fun n hn => by simp at hn ⊢; omega), List.foldl_append]
theorem models_any {l : List Note} {lo hi : Int} {P : List Pair → Bool} (hs : l.Pairwise (fun a b => a.at_ ≤ b.at_)) :
    (modelsOf l lo hi).any P = (timesOf l lo hi).any (fun t => P (modelAt l t)) := by
  unfold modelsOf timesOf
  rw [List.any_cons, List.any_cons, models_O (rest_pw hs), times_rest hs, List.any_map]
  congr 1
  refine any_congr' (fun n hn => ?_)
  have := rest_gt hs n (List.mem_filter.1 hn).1
  simp only [Function.comp]
  rw [model_rest (Int.le_of_lt this)]

theorem notes_falls {l : List Note} {d : Int} (h : notesFault l d = 0) : falls l = false := by
  unfold notesFault at h
  split at h
  · split at h
    · split at h
      · split at h
        · simp at h
        · rename_i h1; simpa using h1
      · contradiction
    · simp at h
  · simp at h
theorem was_eq {notes : List Note} {dims lo hi : Int} {p : Pair} (h : timesFault notes dims lo hi = 0) : (modelsOf notes lo hi).any (fun x0 => x0.any (fun x1 => decide (p = x1))) = wasIn notes dims lo hi p := by
  rw [models_any (falls_pw (notes_falls (times_ok h).1)), wasIn, if_pos h]
end Go.Proofs.Ytfdhhhodfjbnjaa.Sx
