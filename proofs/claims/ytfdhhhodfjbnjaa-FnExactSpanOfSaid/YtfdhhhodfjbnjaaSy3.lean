/- What functions of the program answer, each at every input that its row names; walked through their code. -/
import Derived.Test.YtfdhhhodfjbnjaaSy2
namespace Go.Proofs.Ytfdhhhodfjbnjaa.Sx
open Go Go.RowKit Go.Proofs
set_option linter.unusedVariables false
set_option linter.unusedSimpArgs false
def tab2 : Tab := { size := [], off := [], elem := [] }
theorem tab_ok2 : tab2.check Try.prog = true := by kernel_rfl
noncomputable abbrev X2 (N : Nat) (w : World) : Cx := ⟨Try.prog, tab2, tab_ok2, wide, N, w, none, []⟩

theorem addTo_at {p : Pair} : ∀ {l : List Pair} {k : Nat}, k ≤ l.length → (∀ j x, j < k → l[j]? = some x → ¬ p.id < x.id) → (∀ x, l[k]? = some x → p.id < x.id) → l.take k ++ [p] ++ l.drop k = addTo l p
  | [], k, hk, _, _ => by simp at hk; subst hk; rfl
  | q :: r, 0, _, _, h => by have := h q rfl; simp [addTo, this]
  | q :: r, k + 1, hk, h1, h2 => by
    have h0 := h1 0 q (by omega) rfl
    have ih := addTo_at (l := r) (k := k) (by simpa using hk) (fun j x hj hx => h1 (j + 1) x (by omega) (by simpa using hx)) (fun x hx => h2 x (by simpa using hx))
    simp only [addTo, if_neg h0]
    simpa using ih
theorem told_end {l : List Pair} {p : Pair} (h : idx (fun (x0 : Pair) => decide (x0.id > p.id)) l < 0) : l.take l.length ++ [p] ++ l.drop l.length = addTo l p := by
  have h1 := idx_neg (p := fun (x0 : Pair) => decide (x0.id > p.id)) (xs := l) (by omega)
  refine addTo_at (Nat.le_refl _) (fun j x hj hx => ?_) (fun x hx => by simp at hx)
  have := h1 x (List.mem_of_getElem? hx)
  simp at this; omega
theorem told_at {l : List Pair} {p y : Pair} {k : Nat} (hk : k < l.length) (hy : l[k]? = some y) (hp : decide (y.id > p.id) = true) (h : ∀ j x, j < k → l[j]? = some x → decide (x.id > p.id) = false) : l.take k ++ [p] ++ l.drop k = addTo l p := by
  refine addTo_at (by omega) (fun j x hj hx => by have := h j x hj hx; simp at this; omega) (fun x hx => by rw [hy] at hx; cases hx; simpa using hp)
section
variable {X : Cx} {o : Oper} {l : List (Nat × Value)} {G : List Asn}
theorem cmbe {t t' : TypeId} {x y : Operand} {m : Bool} (ho : o.op = .binOp .eql t x y t') (hx : ev l x = some (.bool m)) (hy : ev l y = some (.bool m)) (ht : X.P.underlying t = some .bool) : Ev X o l G (.bool true) := fun a w hk _ => by
  have h1 := run_eql_bool (P := X.P) w t m m ht
  unfold execOp
  simp only [ho, hk.ev hx, hk.ev hy, eqGuard]
  simp [h1]
theorem cmbn {t t' : TypeId} {x y : Operand} {m : Bool} (ho : o.op = .binOp .neq t x y t') (hx : ev l x = some (.bool m)) (hy : ev l y = some (.bool m)) (ht : X.P.underlying t = some .bool) : Ev X o l G (.bool false) := fun a w hk _ => by
  have h1 := run_neq_bool (P := X.P) w t m m ht
  unfold execOp
  simp only [ho, hk.ev hx, hk.ev hy, eqGuard]
  simp [h1]
end
end Go.Proofs.Ytfdhhhodfjbnjaa.Sx
