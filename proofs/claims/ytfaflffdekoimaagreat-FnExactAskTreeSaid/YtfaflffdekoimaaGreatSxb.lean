/- Words for walks over the program's code: what is said of memory, and how each step of the code turns it. No law is proved here; nothing is assumed. -/
import Derived.Test.YtfaflffdekoimaaGreatSx
import Derived.RangeFuncRecord
import Derived.RangeFuncIn
import Derived.RangeFuncLeaves
import Derived.RangeFuncFrom
import Derived.OrdersIn
import Derived.Laws.Concat
import Derived.Laws.Strings3
import Derived.Laws.BytesString
namespace Go.Proofs.YtfaflffdekoimaaGreat.Sx
open Go Go.RowKit
set_option linter.unusedVariables false
set_option linter.unusedSimpArgs false
section

/-! ### 23. an element taken out of a row of one's own -/
namespace Kd
variable {α : Type} {dk : Kd α} {w : World}
theorem Elems.split : ∀ (i : Nat) {cs xs o s}, Elems dk w cs xs o s → (hi : i < xs.length) → ∃ l ci r o1 oi o2 s1 si s2, cs = l ++ ci ++ r ∧ o = o1 ++ oi ++ o2 ∧ s = s1 ++ si ++ s2 ∧
    Elems dk w l (xs.take i) o1 s1 ∧ dk.Rel w ci xs[i] oi si ∧ Elems dk w r (xs.drop (i + 1)) o2 s2 := by
  intro i cs xs o s h
  induction h generalizing i with
  | nil => intro hi; simp at hi
  | cons h hh ih =>
    rename_i c0 cs x0 xs o0 o1 s0 s1
    intro hi
    cases i with
    | zero => exact ⟨[], c0, cs, [], o0, o1, [], s0, s1, rfl, rfl, rfl, .nil, h, hh⟩
    | succ i =>
      obtain ⟨l, ci, r, oa, oi, ob, sa, si, sb, rfl, rfl, rfl, h1, h2, h3⟩ := ih i (by simpa using hi)
      exact ⟨c0 ++ l, ci, r, o0 ++ oa, oi, ob, s0 ++ sa, si, sb, by simp, by simp, by simp, .cons h h1, h2, h3⟩
end Kd
/-- A row of one's own but for its element i, whose cells are 'ci'. -/
def hole {α : Type} (dk : Kd α) (e b n c i : Nat) (xs : List α) (ci : List Value) (o s : List Nat) : Asn where
  own := b :: o
  see := s
  P w := ∃ cur l r o1 o2 s1 s2, w.heap[b]? = some (.cells cur e (0, 0)) ∧ n ≤ c ∧ (c ≤ maxLen ∧ n ≤ 281474976710656) ∧ cur.size = c * dk.sz ∧ xs.length = n ∧ i < n ∧
    cur.toList.take (n * dk.sz) = l ++ ci ++ r ∧ ci.length = dk.sz ∧ Kd.Elems dk w l (xs.take i) o1 s1 ∧ Kd.Elems dk w r (xs.drop (i + 1)) o2 s2 ∧ o = o1 ++ o2 ∧ s = s1 ++ s2
  keep := by
    rintro w w' - ho hs ⟨cur, l, r, o1, o2, s1, s2, h1, h2, h3, h4, h5, h6, h7, h8, h9, h10, rfl, rfl⟩
    exact ⟨cur, l, r, o1, o2, s1, s2, ho.cons.1.trans h1, h2, h3, h4, h5, h6, h7, h8, h9.keep ho.cons.2.app.1 hs.app.1, h10.keep ho.cons.2.app.2 hs.app.2, rfl, rfl⟩
  lt := by
    rintro w ⟨cur, l, r, o1, o2, s1, s2, h1, h2, h3, h4, h5, h6, h7, h8, h9, h10, rfl, rfl⟩ q hq
    simp only [List.mem_cons, List.mem_append] at hq
    rcases hq with (rfl | hq | hq) | hq | hq
    · exact (Array.getElem?_eq_some_iff.1 h1).1
    · exact h9.lt q (.inl hq)
    · exact h10.lt q (.inl hq)
    · exact h9.lt q (.inr hq)
    · exact h10.lt q (.inr hq)
theorem pa0 {b m : Nat} : (⟨b, 0, none⟩ : Addr).add m = ⟨b, m, none⟩ := by unfold Addr.add; split <;> simp_all
theorem pa1 {b m n : Nat} : ((⟨b, 0, none⟩ : Addr).add m).add n = ⟨b, m + n, none⟩ := by
  rw [pa0]; unfold Addr.add; split <;> simp_all
section
variable {X : Cx} {o : Oper} {l : List (Nat × Value)} {G G1 : List Asn} {v : Value} {ops : Array Oper} {Q : Exit → Act → World → Prop} {r : List Oper} {K : Act → World → Prop} {d : Nat} {α : Type} {dk : Kd α}
theorem foc (i : Nat) {e n c b : Nat} {xs : List α} {o1 s1 : List Nat} (hi : i < xs.length)
    (h : ∀ y ci o' s' oi si w, xs[i]? = some y → dk.Rel w ci y oi si → (∀ q ∈ s', q ∈ s1) → (∀ q ∈ si, q ∈ s1) → SK X K l (hole dk e b n c i xs ci o' s' :: dat dk ci y oi si :: G)) :
    SK X K l (dat (Kd.row e dk) [.slice (some ⟨b, 0, none⟩) n c] xs o1 s1 :: G) := fun a w hk hs => by
  have hR : (Kd.row e dk).Rel w [.slice (some ⟨b, 0, none⟩) n c] xs o1 s1 := hs.holds (dat (Kd.row e dk) _ xs o1 s1) (by simp)
  obtain ⟨cur, o', rfl, hgb, hln, hnc, hcm, hz, he⟩ := Kd.row_inv hR
  have hu := hs.uniq (dat (Kd.row e dk) [.slice (some ⟨b, 0, none⟩) n c] xs (b :: o') s1) (by simp)
  obtain ⟨lc, ci, rc, oa, oi, ob, sa, si, sb, hcs, rfl, rfl, hl, hci, hr⟩ := Kd.Elems.split i he hi
  have hu1 : (b :: (oa ++ oi ++ ob)).Nodup := hu.1
  have hu2 : ∀ q ∈ b :: (oa ++ oi ++ ob), q ∉ sa ++ si ++ sb := hu.2
  simp only [List.nodup_cons, List.nodup_append, List.mem_append, List.mem_cons, not_or] at hu1 hu2
  refine h xs[i] ci (oa ++ ob) (sa ++ sb) oi si w (by simp [hi]) hci (by simp only [List.mem_append]; grind) (by simp only [List.mem_append]; grind) a w hk
    (hs.swap (As := [dat (Kd.row e dk) [.slice (some ⟨b, 0, none⟩) n c] xs (b :: (oa ++ oi ++ ob)) (sa ++ si ++ sb)]) (Bs := [hole dk e b n c i xs ci (oa ++ ob) (sa ++ sb), dat dk ci xs[i] oi si]) (.refl _ _) ?_ ?_ ?_ ?_ ?_)
  · intro B hB
    simp only [List.mem_cons, List.not_mem_nil, or_false] at hB
    rcases hB with rfl | rfl
    · exact ⟨cur, lc, rc, oa, ob, sa, sb, hgb, hnc, hcm, hz, hln, by omega, hcs, dk.len hci, hl, hr, rfl, rfl⟩
    · exact hci
  · intro B hB q hq
    simp only [List.mem_cons, List.not_mem_nil, or_false] at hB
    left
    simp only [owns, List.flatMap_cons, List.flatMap_nil, List.append_nil, dat, List.mem_cons, List.mem_append]
    rcases hB with rfl | rfl
    · simp only [hole, List.mem_cons, List.mem_append] at hq; grind
    · simp only [dat] at hq; grind
  · intro B hB q hq
    simp only [List.mem_cons, List.not_mem_nil, or_false] at hB
    refine .inl ⟨_, List.mem_singleton_self _, .inr ?_⟩
    simp only [dat, List.mem_append]
    rcases hB with rfl | rfl
    · simp only [hole, List.mem_append] at hq; grind
    · simp only [dat] at hq; grind
  · intro B hB
    simp only [List.mem_cons, List.not_mem_nil, or_false] at hB
    rcases hB with rfl | rfl
    · simp only [hole, List.nodup_cons, List.nodup_append, List.mem_append, List.mem_cons, not_or]; grind
    · simp only [dat]; grind
  · simp only [List.pairwise_cons, List.mem_cons, List.not_mem_nil, or_false, forall_eq, false_implies, implies_true, List.Pairwise.nil, and_true, Apart, hole, dat, List.mem_append, not_or]
    grind
theorem unf {e n c b i : Nat} {xs : List α} {y : α} {ci : List Value} {o' s' oi si : List Nat}
    (h : ∀ o3 s3, (∀ q ∈ s3, q ∈ s' ∨ q ∈ si) → SK X K l (dat (Kd.row e dk) [.slice (some ⟨b, 0, none⟩) n c] (xs.set i y) o3 s3 :: G)) :
    SK X K l (hole dk e b n c i xs ci o' s' :: dat dk ci y oi si :: G) := fun a w hk hs => by
  have hH : (hole dk e b n c i xs ci o' s').P w := hs.holds _ (by simp)
  have hD : dk.Rel w ci y oi si := hs.holds (dat dk ci y oi si) (by simp)
  obtain ⟨cur, lc, rc, oa, ob, sa, sb, hgb, hnc, hcm, hz, hln, hin, hcs, hcl, hl, hr, rfl, rfl⟩ := hH
  have hu := hs.uniq (hole dk e b n c i xs ci (oa ++ ob) (sa ++ sb)) (by simp)
  have hv := hs.uniq (dat dk ci y oi si) (by simp)
  have hap : Apart (hole dk e b n c i xs ci (oa ++ ob) (sa ++ sb)) (dat dk ci y oi si) := (List.pairwise_cons.1 hs.sep).1 _ (by simp)
  have e1 : xs.set i y = xs.take i ++ y :: xs.drop (i + 1) := by rw [List.set_eq_take_append_cons_drop, if_pos (by omega)]
  have hE : Kd.Elems dk w (cur.toList.take (n * dk.sz)) (xs.set i y) (oa ++ (oi ++ ob)) (sa ++ (si ++ sb)) := by
    rw [hcs, e1, List.append_assoc]
    exact hl.app (Kd.Elems.cons hD hr)
  have hR : (Kd.row e dk).Rel w [.slice (some ⟨b, 0, none⟩) n c] (xs.set i y) (b :: (oa ++ (oi ++ ob))) (sa ++ (si ++ sb)) := Kd.row_mk hgb (by simp [hln]) hnc hcm.1 hcm.2 hz hE
  simp only [hole, dat, List.nodup_cons, List.nodup_append, List.mem_append, List.mem_cons, not_or] at hu hv
  simp only [Apart, hole, dat, List.mem_append, List.mem_cons, not_or] at hap
  refine h _ _ (by simp only [List.mem_append]; grind) a w hk (hs.swap (As := [hole dk e b n c i xs ci (oa ++ ob) (sa ++ sb), dat dk ci y oi si]) (Bs := [dat (Kd.row e dk) [.slice (some ⟨b, 0, none⟩) n c] (xs.set i y) (b :: (oa ++ (oi ++ ob))) (sa ++ (si ++ sb))]) (.refl _ _) ?_ ?_ ?_ ?_ (by simp))
  · intro B hB; rw [List.mem_singleton] at hB; subst hB; exact hR
  · intro B hB q hq; rw [List.mem_singleton] at hB; subst hB
    left
    simp only [owns, List.flatMap_cons, List.flatMap_nil, List.append_nil, hole, dat, List.mem_cons, List.mem_append] at hq ⊢
    grind
  · intro B hB q hq; rw [List.mem_singleton] at hB; subst hB
    simp only [dat, List.mem_append] at hq
    rcases hq with hq | hq | hq
    · exact .inl ⟨hole dk e b n c i xs ci (oa ++ ob) (sa ++ sb), by simp, .inr (by simp [hole, hq])⟩
    · exact .inl ⟨dat dk ci y oi si, by simp, .inr hq⟩
    · exact .inl ⟨hole dk e b n c i xs ci (oa ++ ob) (sa ++ sb), by simp, .inr (by simp [hole, hq])⟩
  · intro B hB; rw [List.mem_singleton] at hB; subst hB
    simp only [dat, List.nodup_cons, List.nodup_append, List.mem_append, List.mem_cons, not_or]
    grind
theorem hole_cell {e n c b i : Nat} {xs : List α} {ci : List Value} {o' s' : List Nat} {w : World} (hH : (hole dk e b n c i xs ci o' s').P w) {j : Nat} {v : Value} (hj : ci[j]? = some v) : w.cell? ⟨b, i * dk.sz + j, none⟩ = some v := by
  obtain ⟨cur, lc, rc, oa, ob, sa, sb, hgb, hnc, hcm, hz, hln, hin, hcs, hcl, hl, hr, rfl, rfl⟩ := hH
  have hll := hl.len
  have h1 : (xs.take i).length = i := by simp; omega
  rw [h1] at hll
  have h2 : (cur.toList.take (n * dk.sz))[i * dk.sz + j]? = some v := by
    rw [hcs, ← hll, List.append_assoc, List.getElem?_append_right (by omega), Nat.add_sub_cancel_left, List.getElem?_append_left (List.getElem?_eq_some_iff.1 hj).1]
    exact hj
  rw [List.getElem?_take] at h2
  split at h2
  · simp only [World.cell?, hgb]; simpa using h2
  · cases h2
/-- A load out of that element. -/
theorem ldh (k : Nat) {t m off : Nat} {bb : Bool} {x : Operand} {e n c b i : Nat} {xs : List α} {ci : List Value} {o' s' : List Nat} {p : Addr} {u : Value} (hk : G[k]? = some (hole dk e b n c i xs ci o' s')) (ho : o.op = .load t x) (ht : look X.T.size t = some (m, bb)) (hx : ev l x = some (.pointer (some p))) (hpa : p = ⟨b, i * dk.sz + off, none⟩)
    (hl' : Nat.ble (off + m) ci.length = true) (hb' : (bb || Nat.beq m 1) = true) (hu : (if bb then Value.agg ((ci.drop off).take m).toArray else ci.getD off undef) = u) : Ev X o l G u := by
  have hl := Nat.le_of_ble_eq_true hl'
  have hb : bb = true ∨ m = 1 := by cases bb <;> simp_all
  have h := ldv (X := X) (G := G) ((ci.drop off).take m) ho ht hx (by simp; omega) hb (fun w hs j v hv => by
    have hH : (hole dk e b n c i xs ci o' s').P w := hs.at k hk
    have e1 : p.add j = ⟨b, i * dk.sz + (off + j), none⟩ := by subst hpa; unfold Addr.add; split <;> simp_all; omega
    rw [e1]
    refine hole_cell hH ?_
    rw [List.getElem?_take] at hv
    split at hv
    · rwa [List.getElem?_drop] at hv
    · cases hv)
  subst hu
  cases bb with
  | true => exact h
  | false =>
    have hn : m = 1 := by simpa using hb
    subst hn
    have e1 : ((ci.drop off).take 1).headD undef = ci.getD off undef := head_drop (by omega)
    rw [e1] at h
    exact h
/-- A store into that element. -/
theorem sth {t m off : Nat} {bb : Bool} {x y : Operand} {e n c b i : Nat} {xs : List α} {ci ci' vs : List Value} {o' s' : List Nat} {p : Addr} {v : Value} {ty : TypeId} {ps : String} {af : Array Edge} (ht : look X.T.size t = some (m, bb)) (hx : ev l x = some (.pointer (some p))) (hpa : p = ⟨b, i * dk.sz + off, none⟩)
    (hy : ev l y = some v) (hv : v.cells = vs.toArray) (hl : vs.length = m) (hle' : Nat.ble (off + m) ci.length = true) (h1 : vs.all (·.oneCell') = true) (hc : splice ci off vs = ci')
    (h : SL X ops Q r l (hole dk e b n c i xs ci' o' s' :: G)) : SL X ops Q (⟨none, .store t x y, ty, ps, af, none⟩ :: r) l (hole dk e b n c i xs ci o' s' :: G) := fun a w hk' hs => by
  have hle := Nat.le_of_ble_eq_true hle'
  refine wl_plain rfl fun K hK => ?_
  have hH : (hole dk e b n c i xs ci o' s').P w := hs.holds _ (by simp)
  obtain ⟨cur, lc, rc, oa, ob, sa, sb, hgb, hnc, hcm, hz, hln, hin, hcs, hcl, hl1, hr1, rfl, rfl⟩ := hH
  have hll := hl1.len
  have h2 : (xs.take i).length = i := by simp; omega
  rw [h2] at hll
  have hcur : n * dk.sz ≤ cur.toList.length := by rw [Array.length_toList, hz]; exact Nat.mul_le_mul_right _ hnc
  have hlen : (lc ++ ci ++ rc).length = n * dk.sz := by rw [← hcs, List.length_take]; omega
  simp only [List.length_append, hll, hcl] at hlen
  have hst := run_storeAt X.ok ht w b (i * dk.sz + off) e v vs hv hl cur.toList (by simpa using hgb) (by omega) (by simpa using h1)
  subst hc
  have hci : (splice ci off vs).length = dk.sz := by rw [Kd.length_splice (by omega)]; exact hcl
  have hcs2 : (splice cur.toList (i * dk.sz + off) vs).take (n * dk.sz) = lc ++ splice ci off vs ++ rc := by
    rw [splice_take (by omega) hcur, hcs]
    simp only [splice]
    have d1 : (lc ++ ci ++ rc).take (i * dk.sz + off) = lc ++ ci.take off := by
      rw [← hll, List.append_assoc, List.take_length_add_append, List.take_append_of_le_length (by omega)]
    have d2 : (lc ++ ci ++ rc).drop (i * dk.sz + off + vs.length) = ci.drop (off + vs.length) ++ rc := by
      rw [← hll, List.append_assoc, Nat.add_assoc, List.drop_length_add_append, List.drop_append_of_le_length (by omega)]
    rw [d1, d2]; simp [List.append_assoc]
  unfold Oper.wp execOp
  simp only [hk'.ev hx, hk'.ev hy, hpa, Sem.run_bind, hst, Result.andThen_ok]
  have hu := hs.uniq (hole dk e b n c i xs ci (oa ++ ob) (sa ++ sb)) (by simp)
  have hu1 : (b :: (oa ++ ob)).Nodup := hu.1
  have hu2 : ∀ q ∈ b :: (oa ++ ob), q ∉ sa ++ sb := hu.2
  have hne : ∀ q, q ∈ oa ++ ob ∨ q ∈ sa ++ sb → (w.setRow b (splice cur.toList (i * dk.sz + off) vs).toArray).heap[q]? = w.heap[q]? := fun q hq => setRow_other w b q _ (fun e => by
    subst e
    rcases hq with hq | hq
    · exact (List.nodup_cons.1 hu1).1 hq
    · exact hu2 _ (List.mem_cons_self ..) hq)
  refine hK _ _ (h _ _ hk' (hs.swap (As := [hole dk e b n c i xs ci (oa ++ ob) (sa ++ sb)]) (Bs := [hole dk e b n c i xs (splice ci off vs) (oa ++ ob) (sa ++ sb)]) (mod_setRow.mono (by simp [owns, hole])) ?_ ?_ ?_ ?_ (by simp)))
  · intro B hB; rw [List.mem_singleton] at hB; subst hB
    refine ⟨_, lc, rc, oa, ob, sa, sb, setRow_heap w b cur _ e _ hgb, hnc, hcm, ?_, hln, hin, hcs2, hci, hl1.keep ?_ ?_, hr1.keep ?_ ?_, rfl, rfl⟩
    · rw [List.size_toArray, Kd.length_splice (by omega), Array.length_toList, hz]
    · exact fun q hq => hne q (.inl (List.mem_append_left _ hq))
    · exact fun q hq => hne q (.inr (List.mem_append_left _ hq))
    · exact fun q hq => hne q (.inl (List.mem_append_right _ hq))
    · exact fun q hq => hne q (.inr (List.mem_append_right _ hq))
  · intro B hB q hq; rw [List.mem_singleton] at hB; subst hB; exact .inl (by simpa [owns, hole] using hq)
  · intro B hB q hq; rw [List.mem_singleton] at hB; subst hB; exact .inl ⟨_, List.mem_singleton_self _, .inr hq⟩
  · intro B hB; rw [List.mem_singleton] at hB; subst hB; exact hu
/-- What is one becomes two parts. -/
theorem gsp {da db : Kd α} {cs c1 c2 : List Value} {x : α} {oo ss : List Nat} (h1 : cs.take da.sz = c1) (h2 : cs.drop da.sz = c2)
    (h : ∀ o1 o2 s1 s2, (∀ q ∈ s1, q ∈ ss) → (∀ q ∈ s2, q ∈ ss) → SK X K l (dat da c1 x o1 s1 :: dat db c2 x o2 s2 :: G)) : SK X K l (dat (da.cat db) cs x oo ss :: G) := fun a w hk hs => by
  have hR : (da.cat db).Rel w cs x oo ss := hs.holds (dat (da.cat db) cs x oo ss) (by simp)
  have hu := hs.uniq (dat (da.cat db) cs x oo ss) (by simp)
  obtain ⟨k1, k2, o1, o2, s1, s2, rfl, rfl, rfl, r1, r2⟩ := hR
  have hl := da.len r1
  rw [← hl, List.take_left] at h1
  rw [← hl, List.drop_left] at h2
  subst h1; subst h2
  simp only [dat, List.nodup_append, List.mem_append, not_or] at hu
  refine h o1 o2 s1 s2 (by simp only [List.mem_append]; grind) (by simp only [List.mem_append]; grind) a w hk (hs.swap (As := [dat (da.cat db) (k1 ++ k2) x (o1 ++ o2) (s1 ++ s2)]) (Bs := [dat da k1 x o1 s1, dat db k2 x o2 s2]) (.refl _ _) ?_ ?_ ?_ ?_ ?_)
  · intro B hB
    simp only [List.mem_cons, List.not_mem_nil, or_false] at hB
    rcases hB with rfl | rfl
    · exact r1
    · exact r2
  · intro B hB q hq
    simp only [List.mem_cons, List.not_mem_nil, or_false] at hB
    left
    simp only [owns, List.flatMap_cons, List.flatMap_nil, List.append_nil, dat, List.mem_append]
    rcases hB with rfl | rfl <;> (simp only [dat] at hq; grind)
  · intro B hB q hq
    simp only [List.mem_cons, List.not_mem_nil, or_false] at hB
    refine .inl ⟨_, List.mem_singleton_self _, .inr ?_⟩
    simp only [dat, List.mem_append]
    rcases hB with rfl | rfl <;> (simp only [dat] at hq; grind)
  · intro B hB
    simp only [List.mem_cons, List.not_mem_nil, or_false] at hB
    rcases hB with rfl | rfl <;> (simp only [dat]; grind)
  · simp only [List.pairwise_cons, List.mem_cons, List.not_mem_nil, or_false, forall_eq, false_implies, implies_true, List.Pairwise.nil, and_true, Apart, dat]
    grind
/-- A call that turns what is handed over, and answers 'v'. -/
def TurnO {β : Type} (dk : Kd β) (cs : List Value) (v : Value) (w : World) (o : List Nat) (x : β) (S : List Nat) (e : Ending) (w' : World) : Prop :=
  e = .returned v ∧ ∃ oo ss, Turned w w' o S [dat dk cs x oo ss]
theorem turno {w w' : World} {x : α} {S : List Nat} {v v' : Value} {cs : List Value} {oa oo ss : List Nat} {G : List Asn} (hs : St (nul w) w' (dat dk cs x oo ss :: G)) (k : Nat) (hk : G[k]? = some (frm w oa)) (hv : v = v') (hS : ∀ b ∈ ss, b ∈ S ∨ w.heap.size ≤ b) :
    TurnO dk cs v' w oa x S (.returned v) w' := by
  obtain ⟨_, oo', ss', -, h2⟩ := madeo (v := valof cs) hs k hk rfl hS
  subst hv
  refine ⟨rfl, oo, ss, hs.mod (k + 1) hk, ?_, ?_, ?_, ?_, by simp⟩
  · intro B hB; simp at hB; subst hB; exact hs.holds (dat dk cs x oo ss) (by simp)
  · intro B hB b hb; simp at hB; subst hB
    have hap : Apart (dat dk cs x oo ss) (frm w oa) := (List.pairwise_cons.1 hs.sep).1 _ (List.mem_of_getElem? hk)
    by_cases hbo : b ∈ oa
    · exact .inl hbo
    · by_cases hlt : b < w.heap.size
      · exact absurd (by simp [frm, hlt, hbo] : b ∈ (frm w oa).see) (hap.1 b hb).2
      · exact .inr (by omega)
  · intro B hB b hb; simp at hB; subst hB; exact hS b hb
  · intro B hB; simp at hB; subst hB; exact hs.uniq (dat dk cs x oo ss) (by simp)
/-- The end: what was handed over stands first, turned. -/
theorem cto {x : α} {cs : List Value} {S : List Nat} {A0 : Asn} {f : FuncId} {args : List Operand} {ts : Array TypeId} {vs : List Value} {v : Value} (hE : enters X.P f = true)
    (ho : o.op = .call { callee := .value (.func f), args := args.toArray, argTypes := ts }) (hv : evs l args = some vs) (hp : pl X.N o = some d)
    (hS : ∀ b ∈ S, ∃ A ∈ A0 :: G, b ∈ A.see) (m : Nat) (hm : ∀ w, St X.w0 w (A0 :: G) → m ≤ w.heap.size)
    (hc : ∀ w, St X.w0 w (A0 :: G) → Calls X.P f vs.toArray w (TurnO dk cs v w A0.own x S))
    (h : ∀ oo ss, (∀ b ∈ ss, b ∈ S ∨ m ≤ b) → SL X ops Q r ((d, v) :: l) (dat dk cs x oo ss :: G)) : SL X ops Q (o :: r) l (A0 :: G) := by
  obtain ⟨fn, h1, h2, h3⟩ := enters_spec hE
  refine clx ho h1 h2 h3 hv hp fun a w hk hs => (hc w hs).mono ?_
  rintro e w' ⟨rfl, oo, ss, hmo, hP, hoo, hss, hu, hpw⟩
  refine ⟨_, rfl, fun a' ha' => h oo ss (fun b hb => (hss (dat dk cs x oo ss) (by simp) b hb).imp_right (Nat.le_trans (hm w hs))) a' w' ha' ?_⟩
  exact hs.swap' (As := [A0]) (Bs := [dat dk cs x oo ss]) (hmo.mono (fun b h => by simpa [owns] using h)) hP (fun B hB b hb => (hoo B hB b hb).imp_left (fun h => by simpa [owns] using h)) (fun B hB b hb => (hss B hB b hb).imp_left (hS b)) hu hpw
end
/-! marks, one behind the other -/
def mkL {α : Type} (mk : Int → α → α) (cnt : α → Int) : Int → List α → List α
  | _, [] => []
  | k, x :: r => mk k x :: mkL mk cnt (k + cnt x) r
theorem mkL_len {α : Type} {mk : Int → α → α} {cnt : α → Int} : ∀ (k : Int) (l : List α), (mkL mk cnt k l).length = l.length
  | _, [] => rfl
  | k, x :: r => by simp [mkL, mkL_len _ r]
theorem mkL_get {α : Type} {mk : Int → α → α} {cnt : α → Int} : ∀ (k : Int) (l : List α) (i : Nat) {y : α}, l[i]? = some y → (mkL mk cnt k l)[i]? = some (mk (k + sumTo cnt l i) y)
  | _, [], _, _, h => by simp at h
  | k, x :: r, 0, y, h => by simp at h; subst h; simp [mkL, sumTo]
  | k, x :: r, i + 1, y, h => by
    have h1 : r[i]? = some y := by simpa using h
    have h2 := mkL_get (mk := mk) (cnt := cnt) (k + cnt x) r i h1
    simp only [mkL, List.getElem?_cons_succ, h2]
    congr 2
    simp [sumTo]; omega
theorem mkL_at {α : Type} {mk : Int → α → α} {cnt : α → Int} {k : Int} {l : List α} {i : Nat} {y z : α} (h : (mkL mk cnt k l)[i]? = some z) (hy : l[i]? = some y) : z = mk (k + sumTo cnt l i) y := by
  rw [mkL_get k l i hy] at h; simpa using h.symm
theorem mkL_app {α : Type} {mk : Int → α → α} {cnt : α → Int} : ∀ (k : Int) (l r : List α), mkL mk cnt k (l ++ r) = mkL mk cnt k l ++ mkL mk cnt (k + (l.map cnt).sum) r
  | k, [], r => by simp [mkL]
  | k, x :: l, r => by simp [mkL, mkL_app _ l r, Int.add_assoc]
theorem mk_raw {α : Type} {mk : Int → α → α} {cnt : α → Int} {k : Int} {l : List α} {i : Nat} {y : α} (h : (mkL mk cnt k (l.take i) ++ l.drop i)[i]? = some y) : l[i]? = some y := by
  by_cases hi : i ≤ l.length
  · have h1 : (mkL mk cnt k (l.take i)).length = i := by rw [mkL_len]; simp; omega
    rw [List.getElem?_append_right (by omega), h1, Nat.sub_self, List.getElem?_drop] at h
    simpa using h
  · have h1 : l.drop i = [] := List.drop_of_length_le (by omega)
    rw [h1, List.append_nil] at h
    have := (List.getElem?_eq_some_iff.1 h).1
    rw [mkL_len, List.length_take] at this
    omega
theorem mk_step {α : Type} {mk : Int → α → α} {cnt : α → Int} {k : Int} {l : List α} {i : Nat} {y z : α} (hy : l[i]? = some y) (hz : z = mk (k + sumTo cnt l i) y) : (mkL mk cnt k (l.take i) ++ l.drop i).set i z = mkL mk cnt k (l.take (i + 1)) ++ l.drop (i + 1) := by
  have hi : i < l.length := (List.getElem?_eq_some_iff.1 hy).1
  have hv : l[i] = y := (List.getElem?_eq_some_iff.1 hy).2
  have h1 : (mkL mk cnt k (l.take i)).length = i := by rw [mkL_len]; simp; omega
  rw [List.set_append_right _ _ (by omega), h1, Nat.sub_self, take_snoc hy, mkL_app, List.append_assoc]
  congr 1
  rw [List.drop_eq_getElem_cons hi, hv]
  simp [mkL, hz, sumTo]
theorem mk_end {α : Type} {mk : Int → α → α} {cnt : α → Int} {k : Int} {l : List α} {i : Nat} (hi : l.length ≤ i) : mkL mk cnt k (l.take i) ++ l.drop i = mkL mk cnt k l := by
  rw [List.take_of_length_le hi, List.drop_of_length_le hi, List.append_nil]
end
section

/-! ### 24. parts of a slice that is seen; data spelled otherwise -/
namespace Kd
variable {α : Type} {dk : Kd α} {w : World}
theorem Elems.skip : ∀ (i : Nat) {cs : List Value} {xs : List α} {ss : List Nat}, Kd.Elems dk w cs xs [] ss → i ≤ xs.length → ∃ s3, (∀ q ∈ s3, q ∈ ss) ∧ Kd.Elems dk w (cs.drop (i * dk.sz)) (xs.drop i) [] s3 := by
  intro i cs xs ss hE
  generalize hoo : ([] : List Nat) = oo at hE
  induction hE generalizing i with
  | nil => intro _; exact ⟨[], by simp, by simpa [hoo.symm] using Kd.Elems.nil⟩
  | cons h hh ih =>
    rename_i c0 cs0 x0 xs0 oa ob sa sb
    obtain ⟨rfl, rfl⟩ := List.append_eq_nil_iff.1 hoo.symm
    intro hle
    cases i with
    | zero => exact ⟨sa ++ sb, fun _ h => h, by simpa using Kd.Elems.cons h hh⟩
    | succ i =>
      obtain ⟨s3, h3, h4⟩ := ih i rfl (by simpa using hle)
      have hl := dk.len h
      refine ⟨s3, fun q hq => List.mem_append_right _ (h3 q hq), ?_⟩
      have e2 : (i + 1) * dk.sz = c0.length + i * dk.sz := by rw [Nat.add_mul, hl]; omega
      rw [e2, List.drop_length_add_append, List.drop_succ_cons]
      exact h4
theorem sl_n {d : Kd α} {A : Option Addr} {n c : Nat} {xs : List α} {o s : List Nat} (h : (sl d).Rel w [.slice A n c] xs o s) : n = xs.length := by
  obtain ⟨-, A', c', he, -⟩ := h
  simp only [List.cons.injEq, Value.slice.injEq, and_true] at he
  exact he.2.1
theorem sl_cap {d : Kd α} {A : Option Addr} {n c : Nat} {xs : List α} {o s : List Nat} (h : (sl d).Rel w [.slice A n c] xs o s) : n ≤ c := by
  obtain ⟨-, A', c', he, hc, -⟩ := h
  simp only [List.cons.injEq, Value.slice.injEq, and_true] at he
  obtain ⟨_, h1, h2⟩ := he
  omega
end Kd
section
variable {X : Cx} {o : Oper} {l : List (Nat × Value)} {G G1 : List Asn} {v v' : Value} {ops : Array Oper} {Q : Exit → Act → World → Prop} {r : List Oper} {K : Act → World → Prop} {d : Nat} {α β : Type} {dk : Kd α}
theorem evr (h : Ev X o l G v) (e : v = v') : Ev X o l G v' := e ▸ h
theorem sl_eq {A : Option Addr} {n m c : Nat} (h : n = m) : Value.slice A n c = .slice A m c := by rw [h]
theorem gct (k i : Nat) {A : Option Addr} {n c : Nat} {xs : List α} {s : List Nat} (hk : G[k]? = some (dat (Kd.sl dk) [.slice A n c] xs [] s)) (hi : i ≤ xs.length)
    (h : ∀ s' w, (Kd.sl dk).Rel w [.slice A (xs.take i).length c] (xs.take i) [] s' → (∀ b ∈ s', b ∈ s) → SK X K l (dat (Kd.sl dk) [.slice A (xs.take i).length c] (xs.take i) [] s' :: G)) : SK X K l G := fun a w hl hs => by
  have hR : (Kd.sl dk).Rel w [.slice A n c] xs [] s := hs.at k hk
  have hR0 := hR
  obtain ⟨-, A', c', he, hc, hm, h2⟩ := hR
  simp only [List.cons.injEq, Value.slice.injEq, and_true] at he
  obtain ⟨rfl, rfl, rfl⟩ := he
  have hlen : (xs.take i).length ≤ xs.length := by simp; omega
  rcases h2 with ⟨rfl, rfl⟩ | ⟨b, off, el, s2, rfl, rfl, hb, hel, hcell⟩
  · have hr' : (Kd.sl dk).Rel w [.slice A (([] : List α).take i).length c] (([] : List α).take i) [] [] := ⟨rfl, A, c, rfl, by simp, by simp, .inl ⟨by simp, rfl⟩⟩
    exact h [] w hr' (by simp) a w hl (hs.see k hk (B := dat (Kd.sl dk) _ _ [] []) hr' rfl (by simp [dat]) rfl)
  · obtain ⟨s3, h3, h4⟩ := Kd.Elems.cut i hel hi
    have hr' : (Kd.sl dk).Rel w [.slice (some ⟨b, off, none⟩) (xs.take i).length c] (xs.take i) [] (b :: s3) := ⟨rfl, _, c, rfl, by omega, by omega, .inr ⟨b, off, _, s3, rfl, rfl, hb, h4, fun j v hj => by
      rw [List.getElem?_take] at hj
      split at hj
      · exact hcell j v hj
      · cases hj⟩⟩
    have hsub : ∀ q ∈ b :: s3, q ∈ b :: s2 := fun q hq => by
      rcases List.mem_cons.1 hq with rfl | hq
      · exact List.mem_cons_self ..
      · exact List.mem_cons_of_mem _ (h3 q hq)
    exact h (b :: s3) w hr' hsub a w hl (hs.see k hk (B := dat (Kd.sl dk) _ _ [] (b :: s3)) hr' rfl hsub rfl)
theorem gdr (k i : Nat) {A : Option Addr} {n c : Nat} {xs : List α} {s : List Nat} (hk : G[k]? = some (dat (Kd.sl dk) [.slice A n c] xs [] s)) (hi : i ≤ xs.length)
    (h : ∀ s' w, (Kd.sl dk).Rel w [.slice (if c = i then A else A.map (·.add (i * dk.sz))) (xs.drop i).length (c - i)] (xs.drop i) [] s' → (∀ b ∈ s', b ∈ s) → SK X K l (dat (Kd.sl dk) [.slice (if c = i then A else A.map (·.add (i * dk.sz))) (xs.drop i).length (c - i)] (xs.drop i) [] s' :: G)) : SK X K l G := fun a w hl hs => by
  have hR : (Kd.sl dk).Rel w [.slice A n c] xs [] s := hs.at k hk
  obtain ⟨-, A', c', he, hc, hm, h2⟩ := hR
  simp only [List.cons.injEq, Value.slice.injEq, and_true] at he
  obtain ⟨rfl, rfl, rfl⟩ := he
  have hlen : (xs.drop i).length = xs.length - i := by simp
  by_cases hnil : xs.drop i = []
  · have hr' : (Kd.sl dk).Rel w [.slice (if c = i then A else A.map (·.add (i * dk.sz))) (xs.drop i).length (c - i)] (xs.drop i) [] [] := ⟨rfl, _, _, rfl, by omega, by omega, .inl ⟨hnil, rfl⟩⟩
    exact h [] w hr' (by simp) a w hl (hs.see k hk (B := dat (Kd.sl dk) _ _ [] []) hr' rfl (by simp [dat]) rfl)
  · have hlt : i < xs.length := by
      rcases Nat.lt_or_ge i xs.length with h | h
      · exact h
      · exact absurd (List.drop_of_length_le h) hnil
    rcases h2 with ⟨rfl, rfl⟩ | ⟨b, off, el, s2, rfl, rfl, hb, hel, hcell⟩
    · simp at hlt
    · obtain ⟨s3, h3, h4⟩ := Kd.Elems.skip i hel hi
      have hci : ¬ c = i := by omega
      have hadd : (⟨b, off, none⟩ : Addr).add (i * dk.sz) = ⟨b, off + i * dk.sz, none⟩ := by unfold Addr.add; split <;> simp_all
      have hr' : (Kd.sl dk).Rel w [.slice (if c = i then some ⟨b, off, none⟩ else (some (⟨b, off, none⟩ : Addr)).map (·.add (i * dk.sz))) (xs.drop i).length (c - i)] (xs.drop i) [] (b :: s3) := by
        rw [if_neg hci, Option.map_some, hadd]
        exact ⟨rfl, _, _, rfl, by omega, by omega, .inr ⟨b, off + i * dk.sz, _, s3, rfl, rfl, hb, h4, fun j v hj => by
          rw [List.getElem?_drop] at hj
          have := hcell _ _ hj
          simpa [Nat.add_assoc] using this⟩⟩
      have hsub : ∀ q ∈ b :: s3, q ∈ b :: s2 := fun q hq => by
        rcases List.mem_cons.1 hq with rfl | hq
        · exact List.mem_cons_self ..
        · exact List.mem_cons_of_mem _ (h3 q hq)
      exact h (b :: s3) w hr' hsub a w hl (hs.see k hk (B := dat (Kd.sl dk) _ _ [] (b :: s3)) hr' rfl hsub rfl)
/-- A part of a struct, by itself. -/
theorem gv {d : Kd β} {g : α → β} {cs : List Value} {x : α} {oo ss : List Nat} (h : SK X K l (dat d cs (g x) oo ss :: G)) : SK X K l (dat (d.via g) cs x oo ss :: G) := h
end
def mI (k : Int) (_ : Int) : Int := k
def cI (_ : Int) : Int := 1
theorem cI_nn (x : Int) : 0 ≤ cI x := by simp [cI]
theorem cI_sum (l : List Int) : (l.map cI).sum = (l.length : Int) := by
  induction l with
  | nil => rfl
  | cons a l ih => rw [List.map_cons, List.sum_cons, ih]; simp [cI]; omega
theorem cI_to {l : List Int} {k : Nat} (h : k ≤ l.length) : sumTo cI l k = (k : Int) := by
  rw [sumTo, cI_sum]; simp; omega
theorem mkL_at' {α : Type} {mk : Int → α → α} {cnt : α → Int} {k v : Int} {l : List α} {i : Nat} {y z : α} (h : (mkL mk cnt k l)[i]? = some z) (hy : l[i]? = some y) (hv : v = k + sumTo cnt l i) : z = mk v y := by
  rw [hv]; exact mkL_at h hy
theorem mkL_some {α : Type} {mk : Int → α → α} {cnt : α → Int} {k : Int} {l : List α} {i : Nat} {z : α} (h : (mkL mk cnt k l)[i]? = some z) : ∃ y, l[i]? = some y := by
  have := (List.getElem?_eq_some_iff.1 h).1
  rw [mkL_len] at this
  exact ⟨l[i], by simp [this]⟩
end
section

/-! ### 25. the lesser and the greater; indexes that are numbers; what is made, in a tuple -/
theorem Kd.sub_cap {α β : Type} {d : Kd α} {off : Nat} {d' : Kd β} {g : α → List β} (hs : Kd.Sub d off (Kd.sl d') g) {w : World} {cs : List Value} {x : α} {s : List Nat} (h : d.Rel w cs x [] s) {A : Option Addr} {n c : Nat} (hc : (cs.drop off).take 1 = [.slice A n c]) : n ≤ c := by
  obtain ⟨s', -, hr⟩ := hs w cs x s h
  have e : (cs.drop off).take (Kd.sl d').sz = [.slice A n c] := hc
  rw [e] at hr
  exact Kd.sl_cap hr
def gmin (a b : Int) : Int := if b < a then b else a
def gmax (a b : Int) : Int := if a < b then b else a
section
variable {X : Cx} {o : Oper} {l : List (Nat × Value)} {G G1 : List Asn} {v v' : Value} {ops : Array Oper} {Q : Exit → Act → World → Prop} {r : List Oper} {K : Act → World → Prop} {d : Nat} {α β : Type} {dk : Kd α}
theorem mn {x y : Operand} {k : IntKind} {m n : Int} {ts : Array TypeId} (ho : o.op = .call { callee := .builtin .min, args := #[x, y], argTypes := ts }) (hx : ev l x = some (.int k m)) (hy : ev l y = some (.int k n)) : Ev X o l G (.int k (gmin m n)) := fun a w hk _ => by
  unfold execOp
  simp [ho, resolve, hk.ev hx, hk.ev hy, invoke, builtin, Builtin.min_, Builtin.min2, gmin]
theorem mx {x y : Operand} {k : IntKind} {m n : Int} {ts : Array TypeId} (ho : o.op = .call { callee := .builtin .max, args := #[x, y], argTypes := ts }) (hx : ev l x = some (.int k m)) (hy : ev l y = some (.int k n)) : Ev X o l G (.int k (gmax m n)) := fun a w hk _ => by
  unfold execOp
  simp [ho, resolve, hk.ev hx, hk.ev hy, invoke, builtin, Builtin.max_, Builtin.max2, gmax]
theorem mx3 {x y z : Operand} {k : IntKind} {m n q : Int} {ts : Array TypeId} (ho : o.op = .call { callee := .builtin .max, args := #[x, y, z], argTypes := ts }) (hx : ev l x = some (.int k m)) (hy : ev l y = some (.int k n)) (hz : ev l z = some (.int k q)) : Ev X o l G (.int k (gmax (gmax m n) q)) := fun a w hk _ => by
  unfold execOp
  simp [ho, resolve, hk.ev hx, hk.ev hy, hk.ev hz, invoke, builtin, Builtin.max_, Builtin.max2, gmax]
  rfl
/-- Where an element lies, the index any number. -/
theorem ixz {t e n : Nat} {b : Bool} {x y : Operand} {A : Option Addr} {c m : Nat} {p : Addr} {z : Int} (i : Nat) (hz : z = (i : Int)) (hp : A.map (·.add (i * n)) = some p) (ho : o.op = .indexAddr t x y) (he : look X.T.elem t = some e) (hn : look X.T.size e = some (n, b))
    (hx : ev l x = some (.slice A m c)) (hy : ev l y = some (.int .i64 z)) (hi : i < m) : Ev X o l G (.pointer (some p)) := by
  subst hz
  exact ix i hp ho he hn hx hy hi
/-- Where a row of one's own lies that is not empty. -/
theorem gpos (k : Nat) {e : TypeId} {A : Option Addr} {n c : Nat} {xs : List α} {oo ss : List Nat} (hk : G[k]? = some (dat (Kd.row e dk) [.slice A n c] xs oo ss)) (hp : 0 < xs.length) (h : ∀ b, A = some ⟨b, 0, none⟩ → SK X K l G) : SK X K l G := fun a w hl hs => by
  obtain ⟨b, hb⟩ := Kd.row_pos (hs.at k hk) hp
  exact h b hb a w hl hs
/-- What is made comes in a tuple (or however 'f' says). -/
def MadeT (dk : Kd α) (w : World) (x : α) (S : List Nat) (f : Value → Value) (e : Ending) (w' : World) : Prop := ∃ v, e = .returned (f v) ∧ Made dk w x S (.returned v) w'
def MadeOT (dk : Kd α) (w : World) (oo : List Nat) (x : α) (S : List Nat) (f : Value → Value) (e : Ending) (w' : World) : Prop := ∃ v, e = .returned (f v) ∧ MadeO dk w oo x S (.returned v) w'
theorem madeT {w0 w : World} {x : α} {S : List Nat} {f : Value → Value} {v u : Value} {cs : List Value} {oo ss : List Nat} (hs : St w0 w (dat dk cs x oo ss :: G)) (hc : v = valof cs) (hu : u = f v) (hS : ∀ b ∈ ss, b ∈ S ∨ w0.heap.size ≤ b) : MadeT dk w0 x S f (.returned u) w :=
  ⟨v, by rw [hu], made hs hc hS⟩
theorem madeoT {w w' : World} {x : α} {S : List Nat} {f : Value → Value} {v u : Value} {cs : List Value} {o oo ss : List Nat} (hs : St (nul w) w' (dat dk cs x oo ss :: G)) (k : Nat) (hk : G[k]? = some (frm w o)) (hc : v = valof cs) (hu : u = f v) (hS : ∀ b ∈ ss, b ∈ S ∨ w.heap.size ≤ b) : MadeOT dk w o x S f (.returned u) w' :=
  ⟨v, by rw [hu], madeo hs k hk hc hS⟩
theorem cmT {x : α} {S : List Nat} {f : Value → Value} {g : FuncId} {args : List Operand} {ts : Array TypeId} {vs : List Value} (hE : enters X.P g = true)
    (ho : o.op = .call { callee := .value (.func g), args := args.toArray, argTypes := ts }) (hv : evs l args = some vs) (hp : pl X.N o = some d)
    (hS : ∀ b ∈ S, ∃ A ∈ G, b ∈ A.see)
    (hc : ∀ w, St X.w0 w G → Calls X.P g vs.toArray w (MadeT dk w x S f))
    (h : ∀ cs o s w, dk.Rel w cs x o s → (∀ b ∈ s, b ∈ S ∨ X.w0.heap.size ≤ b) → SL X ops Q r ((d, f (valof cs)) :: l) (dat dk cs x o s :: G)) : SL X ops Q (o :: r) l G := by
  obtain ⟨fn, h1, h2, h3⟩ := enters_spec hE
  refine clx ho h1 h2 h3 hv hp fun a w hk hs => (hc w hs).mono ?_
  rintro e w' ⟨_, rfl, hb, cs, ow, se, he, hr, hn, hnd, hdis, hse⟩
  cases he
  refine ⟨_, rfl, fun a' ha' => h cs ow se w' hr (fun b hb => (hse b hb).imp_right (Nat.le_trans hs.below.size)) a' w' ha' ?_⟩
  refine (hs.step hb).cons hr (fun b hb' => Nat.le_trans hs.below.size (hn b hb')) ⟨hnd, hdis⟩ (fun B hB => ⟨fun b hb' => ?_, fun b hb' hx => ?_⟩)
  · have := hn b hb'
    exact ⟨fun hx => by have := hs.lt hB (.inl hx); omega, fun hx => by have := hs.lt hB (.inr hx); omega⟩
  · rcases hse b hx with h4 | h4
    · obtain ⟨A, hA, h5⟩ := hS b h4
      by_cases hAB : A = B
      · subst hAB; exact (hs.uniq A hA).2 b hb' h5
      · obtain ⟨i, hi, rfl⟩ := List.getElem_of_mem hA
        obtain ⟨j, hj, rfl⟩ := List.getElem_of_mem hB
        have hne : i ≠ j := fun e => hAB (by subst e; rfl)
        have hp := List.pairwise_iff_getElem.1 hs.sep
        rcases Nat.lt_or_gt_of_ne hne with hlt | hlt
        · exact (hp i j hi hj hlt).2 b hb' h5
        · exact ((hp j i hj hi hlt).1 b hb').2 h5
    · have := hs.lt hB (.inl hb'); omega
theorem coT {x : α} {S : List Nat} {f : Value → Value} {A0 : Asn} {g : FuncId} {args : List Operand} {ts : Array TypeId} {vs : List Value} (hE : enters X.P g = true)
    (ho : o.op = .call { callee := .value (.func g), args := args.toArray, argTypes := ts }) (hv : evs l args = some vs) (hp : pl X.N o = some d)
    (hS : ∀ b ∈ S, ∃ A ∈ A0 :: G, b ∈ A.see) (m : Nat) (hm : ∀ w, St X.w0 w (A0 :: G) → m ≤ w.heap.size)
    (hc : ∀ w, St X.w0 w (A0 :: G) → Calls X.P g vs.toArray w (MadeOT dk w A0.own x S f))
    (h : ∀ cs oo ss w, dk.Rel w cs x oo ss → (∀ b ∈ ss, b ∈ S ∨ m ≤ b) → SL X ops Q r ((d, f (valof cs)) :: l) (dat dk cs x oo ss :: G)) : SL X ops Q (o :: r) l (A0 :: G) := by
  obtain ⟨fn, h1, h2, h3⟩ := enters_spec hE
  refine clx ho h1 h2 h3 hv hp fun a w hk hs => (hc w hs).mono ?_
  rintro e w' ⟨_, rfl, cs, oo, ss, he, hmo, hP, hoo, hss, hu, hpw⟩
  cases he
  refine ⟨_, rfl, fun a' ha' => h cs oo ss w' (hP (dat dk cs x oo ss) (by simp)) (fun b hb => (hss (dat dk cs x oo ss) (by simp) b hb).imp_right (Nat.le_trans (hm w hs))) a' w' ha' ?_⟩
  exact hs.swap' (As := [A0]) (Bs := [dat dk cs x oo ss]) (hmo.mono (fun b h => by simpa [owns] using h)) hP (fun B hB b hb => (hoo B hB b hb).imp_left (fun h => by simpa [owns] using h)) (fun B hB b hb => (hss B hB b hb).imp_left (hS b)) hu hpw
end
/-! lists in which no two have the same number -/
def Uniq {α : Type} (f : α → Int) (l : List α) : Prop := l.Pairwise (fun a b => f a ≠ f b)
instance {α : Type} (f : α → Int) (l : List α) : Decidable (Uniq f l) := inferInstanceAs (Decidable (l.Pairwise _))
theorem Uniq.nil {α : Type} {f : α → Int} : Uniq f [] := List.Pairwise.nil
theorem Uniq.at {α : Type} {f : α → Int} {l : List α} (h : Uniq f l) {i j : Nat} {a b : α} (hi : l[i]? = some a) (hj : l[j]? = some b) (hf : f a = f b) : i = j := by
  unfold Uniq at h
  rw [List.pairwise_iff_getElem] at h
  obtain ⟨h1, rfl⟩ := List.getElem?_eq_some_iff.1 hi
  obtain ⟨h2, rfl⟩ := List.getElem?_eq_some_iff.1 hj
  rcases Nat.lt_trichotomy i j with hlt | rfl | hlt
  · exact absurd hf (h i j h1 h2 hlt)
  · rfl
  · exact absurd hf.symm (h j i h2 h1 hlt)
theorem uniq_snoc {α : Type} {f : α → Int} {l : List α} {k : Nat} {y : α} (h : Uniq f (l.take k)) (hy : l[k]? = some y) (hn : ∀ x ∈ l.take k, f x ≠ f y) : Uniq f (l.take (k + 1)) := by
  rw [take_snoc hy]
  unfold Uniq
  rw [List.pairwise_append]
  exact ⟨h, List.pairwise_singleton _ _, fun a ha b hb => by rw [List.mem_singleton] at hb; subst hb; exact hn a ha⟩
/-- one that stands ahead has the same number -/
theorem uniq_no {α : Type} {f : α → Int} {l : List α} {k : Nat} {y : α} (hy : l[k]? = some y) (h : 0 ≤ idx (fun x => f x == f y) (l.take k)) : ¬ Uniq f l := fun hu => by
  obtain ⟨j, z, _, hj, hz, hp, _⟩ := idx_pos h
  rw [List.length_take] at hj
  have hz' : l[j]? = some z := by rw [List.getElem?_take] at hz; split at hz; exact hz; cases hz
  have := hu.at hz' hy (by simpa using hp)
  omega
theorem uniq_step {α : Type} {f : α → Int} {l : List α} {k : Nat} {y : α} (hu : Uniq f (l.take k)) (hy : l[k]? = some y) (h : ¬ 0 ≤ idx (fun x => f x == f y) (l.take k)) : Uniq f (l.take (k + 1)) :=
  uniq_snoc hu hy (fun x hx => by have := idx_neg h x hx; simpa using this)
/-- the first one with the number of the k-th stands elsewhere -/
theorem uniq_no2 {α : Type} {f : α → Int} {l : List α} {k : Nat} {y : α} (hy : l[k]? = some y) (h : ¬ idx (fun x => f x == f y) l = (k : Int)) : ¬ Uniq f l := fun hu => by
  have h0 : 0 ≤ idx (fun x => f x == f y) l := by
    rcases Int.lt_or_le (idx (fun x => f x == f y) l) 0 with h1 | h1
    · have := idx_neg (p := fun x => f x == f y) (xs := l) (by omega) y (List.mem_of_getElem? hy)
      simp at this
    · exact h1
  obtain ⟨j, z, he, hj, hz, hp, _⟩ := idx_pos h0
  have := hu.at hz hy (by simpa using hp)
  omega
theorem uniq_step2 {α : Type} {f : α → Int} {l : List α} {k : Nat} {y : α} (hu : Uniq f (l.take k)) (hy : l[k]? = some y) (h : idx (fun x => f x == f y) l = (k : Int)) : Uniq f (l.take (k + 1)) := by
  refine uniq_snoc hu hy (fun x hx => ?_)
  obtain ⟨j, z, he, hj, hz, hp, hall⟩ := idx_pos (p := fun x => f x == f y) (xs := l) (by omega)
  obtain ⟨i, hi⟩ := List.getElem?_of_mem hx
  rw [List.getElem?_take] at hi
  split at hi
  · have := hall i x (by omega) hi; simpa using this
  · cases hi
theorem uniq_end {α : Type} {f : α → Int} {l : List α} {k : Nat} (h : Uniq f (l.take k)) (hk : l.length ≤ k) : Uniq f l := by rwa [List.take_of_length_le hk] at h
end
section

/-! ### 26. x[i:j]; two lists side by side -/
section
variable {X : Cx} {o : Oper} {l : List (Nat × Value)} {G : List Asn}
theorem slh {t e sz n c i j : Nat} {bb : Bool} {x y z : Operand} {A : Option Addr} {zi zj : Int} (hi : zi = (i : Int)) (hj : zj = (j : Int)) (he : look X.T.elem t = some e) (hn : look X.T.size e = some (sz, bb)) (ho : o.op = .slice t x (some y) (some z) none) (hx : ev l x = some (.slice A n c))
    (hy : ev l y = some (.int .i64 zi)) (hz : ev l z = some (.int .i64 zj)) (hij : i ≤ j) (hc : j ≤ c) : Ev X o l G (.slice (if c = i then A else A.map (·.add (i * sz))) (j - i) (c - i)) := fun a w hk _ => by
  subst hi; subst hj
  unfold execOp
  have h1 := run_underlying (Tab.elemOk X.ok he) w
  obtain ⟨_, q, _, _, hq, hqs⟩ := Tab.sizeOk X.ok hn
  have h2 : (sizeOf e).run X.P w = .ok sz w := by simp [sizeOf, typeInfo, hq, hqs]
  have h3 := run_sliceBound (P := X.P) w .i64 (j : Int) c .sliceAcap (by omega) (by omega)
  have h4 := run_sliceBound (P := X.P) w .i64 (i : Int) j .sliceB (by omega) (by omega)
  simp only [Int.toNat_natCast] at h3 h4
  simp [ho, hk.ev hx, hk.ev hy, hk.ev hz, Instr.sliceAt, Instr.slice, h1, h2, h3, h4, Instr.sliceBounds]
end
def eqBy {α β : Type} (p : α → β → Bool) : List α → List β → Bool
  | [], [] => true
  | a :: l, b :: r => p a b && eqBy p l r
  | _, _ => false
theorem eqBy_len {α β : Type} {p : α → β → Bool} : ∀ {l : List α} {r : List β}, l.length ≠ r.length → eqBy p l r = false
  | [], [], h => absurd rfl h
  | [], _ :: _, _ => rfl
  | _ :: _, [], _ => rfl
  | a :: l, b :: r, h => by simp only [eqBy, eqBy_len (l := l) (r := r) (fun e => h (by simp [e])), Bool.and_false]
theorem eqBy_at {α β : Type} {p : α → β → Bool} : ∀ {l : List α} {r : List β} {k : Nat} {a : α} {b : β}, l[k]? = some a → r[k]? = some b → p a b = false → eqBy p l r = false
  | x :: l, y :: r, 0, a, b, ha, hb, h => by simp at ha hb; subst ha; subst hb; simp [eqBy, h]
  | x :: l, y :: r, k + 1, a, b, ha, hb, h => by simp only [eqBy, eqBy_at (l := l) (r := r) (k := k) (by simpa using ha) (by simpa using hb) h, Bool.and_false]
  | [], _, _, _, _, ha, _, _ => by simp at ha
  | _ :: _, [], _, _, _, _, hb, _ => by simp at hb
theorem eqBy_all {α β : Type} {p : α → β → Bool} : ∀ {l : List α} {r : List β}, l.length = r.length → (∀ (k : Nat) (a : α) (b : β), l[k]? = some a → r[k]? = some b → p a b = true) → eqBy p l r = true
  | [], [], _, _ => rfl
  | a :: l, b :: r, h, k => by
    have h0 := k 0 a b rfl rfl
    simp only [eqBy, h0, Bool.true_and]
    exact eqBy_all (by simpa using h) (fun i x y hx hy => k (i + 1) x y (by simpa using hx) (by simpa using hy))
  | [], _ :: _, h, _ => by simp at h
  | _ :: _, [], h, _ => by simp at h
theorem eqBy_eq {α : Type} [DecidableEq α] {p : α → α → Bool} (hp : ∀ a b, p a b = decide (a = b)) : ∀ (l r : List α), eqBy p l r = decide (l = r)
  | [], [] => by simp [eqBy]
  | [], _ :: _ => by simp [eqBy]
  | _ :: _, [] => by simp [eqBy]
  | a :: l, b :: r => by
    rw [eqBy, hp, eqBy_eq hp l r, Bool.eq_iff_iff]
    simp
end
section

/-! ### 27. two that may come now: what yields a value, and a call that answers a number -/
section
variable {X : Cx} {ops : Array Oper} {Q : Exit → Act → World → Prop} {o oi oj : Oper} {l : List (Nat × Value)} {G Gq : List Asn} {v : Value} {n d i j : Nat} {L : Array Bool}
theorem wpOp_of {K : Act → World → Prop} (i : Nat) (hi : ops[i]? = some o) (h : SL X ops (fun e a w => match e with | .normal => K a w | e => Q e a w) [o] l G) (hrd : X.rd = none) {a : Act} {w : World} (hk : Knows X.K l a) (hst : St X.w0 w G) : wpOp X.P ops Q i K a w := by
  have h1 := h a w hk hst
  rw [Cx.wl_none hrd] at h1
  unfold wpOp
  simp only [hi]
  unfold wpList at h1
  split
  · rename_i hw
    rw [if_pos hw] at h1
    rcases h1 with h1 | ⟨ha, a', w', hl⟩
    · refine .inl ?_
      unfold Oper.wp at *
      generalize (execOp a.eval o).run X.P w = rr at *
      cases rr with
      | ok nx w' => cases nx <;> simp only [Oper.upon] at h1 ⊢ <;> exact h1
      | halt x w' => cases x <;> simp only [Oper.upon] at h1 ⊢ <;> exact h1
    · exact .inr ⟨ha, a', w', hl⟩
  · rename_i hw
    rw [if_neg hw] at h1
    exact h1
end
end
section

/-! ### 28. regions that draw and whose last operation turns what was read -/
section
variable {P : Program} {ops : Array Oper} {C : World → Prop} {Q : Exit → Act → World → Prop} {z : Nat}
def wpAnyZ (P : Program) (ops : Array Oper) (C : World → Prop) (z : Nat) (Q : Exit → Act → World → Prop) : Nat → Array Bool → Act → World → Prop
  | 0, listed, a, w => (listed.getD z true = false → C w) ∧ Region.ready .any ops listed = [] ∧ Q .normal a w
  | fuel + 1, listed, a, w => (listed.getD z true = false → C w) ∧ (Region.ready .any ops listed = [] → Q .normal a w) ∧
    ∀ i ∈ Region.ready .any ops listed, wpOp P ops Q i (wpAnyZ P ops C z Q fuel (listed.setIfInBounds i true)) a w
theorem wpAny_of_Z : ∀ (fuel : Nat) (listed : Array Bool) (a : Act) (w : World), wpAnyZ P ops C z Q fuel listed a w → wpAny P .any ops Q fuel listed a w
  | 0, _, _, _, h => h.2
  | fuel + 1, _, _, _, h => ⟨h.2.1, fun i hi => wpOp_mono (fun a w h => wpAny_of_Z fuel _ a w h) (h.2.2 i hi)⟩
theorem wpAnyZ_first {i : Nat} {oi : Oper} {v : Value} (hi : ops[i]? = some oi) (hsel : ∀ (j : Nat) (o : Oper) cs b, ops[j]? = some o → o.op ≠ .select cs b)
    (hQ : ∀ c a w, Q (.panic c) (a.put oi.dst v) w → Q (.panic c) a w)
    (hzi : i ≠ z) {oz : Oper} (hoz : ops[z]? = some oz) (hze : oz.after.any (fun e => Region.binds .any e && Nat.beq e.on i) = true) : ∀ (fuel : Nat) (listed : Array Bool) (a : Act) (w : World), listed.getD z true = false →
      (∀ j oj, ops[j]? = some oj → j ≠ i → listed.getD j true = false → (∀ e ∈ oj.after, Region.binds .any e = true → e.on ≠ i) → oi.apart ops oj = true) →
      i ∈ Region.ready .any ops listed → YieldsC P ops C oi v a →
      wpAnyZ P ops C z Q fuel (listed.setIfInBounds i true) (a.put oi.dst v) w → wpAnyZ P ops C z Q (fuel + 1) listed a w := by
  intro fuel
  induction fuel with
  | zero =>
    intro listed a w hzl _ hr hy H
    have hzi2 : (listed.setIfInBounds i true).getD z true = false := by rw [getD_set_ne true hzi]; exact hzl
    have hC := H.1 hzi2
    refine ⟨fun _ => hC, fun h => (by rw [h] at hr; cases hr), fun j hj => ?_⟩
    by_cases hji : j = i
    · subst hji; exact hy.wpOp hi hC H
    · have := ready_mono hj hji
      rw [H.2.1] at this
      cases this
  | succ fuel ih =>
    intro listed a w hzl hfree hr hy H
    have hzi2 : (listed.setIfInBounds i true).getD z true = false := by rw [getD_set_ne true hzi]; exact hzl
    have hC := H.1 hzi2
    refine ⟨fun _ => hC, fun h => (by rw [h] at hr; cases hr), fun j hj => ?_⟩
    by_cases hji : j = i
    · subst hji; exact hy.wpOp hi hC H
    · have h1 := H.2.2 j (ready_mono hj hji)
      obtain ⟨hjun, oj, hoj, hall⟩ := mem_ready.1 hj
      have hnot : ∀ e ∈ oj.after, Region.binds .any e = true → e.on ≠ i := fun e he hb heq => by
        have h1 := hall e he hb
        have h0 := (mem_ready.1 hr).1
        rw [heq] at h1
        rcases Nat.lt_or_ge i listed.size with h' | h'
        · simp [h'] at h0 h1; rw [h0] at h1; cases h1
        · simp [Array.getElem?_eq_none h'] at h1
      have h2 := wpOp_putC hoj (hfree j oj hoj hji hjun hnot) (fun cs b => hsel i oi cs b hi) (fun cs b => hsel j oj cs b hoj) hQ hy h1
      have hjz : j ≠ z := fun e => by
        subst e
        rw [hoz] at hoj; cases hoj
        obtain ⟨ed, hed, hb⟩ := Array.any_eq_true'.1 hze
        simp only [Bool.and_eq_true] at hb
        exact hnot ed hed hb.1 (Nat.eq_of_beq_eq_true hb.2)
      have hzj : (listed.setIfInBounds j true).getD z true = false := by rw [getD_set_ne true hjz]; exact hzl
      have hfree' : ∀ k ok, ops[k]? = some ok → k ≠ i → (listed.setIfInBounds j true).getD k true = false →
          (∀ e ∈ ok.after, Region.binds .any e = true → e.on ≠ i) → oi.apart ops ok = true := fun k ok hk hki hun hno => by
        refine hfree k ok hk hki ?_ hno
        by_cases hjk : j = k
        · subst hjk; exact hjun
        · rw [getD_set_ne true hjk] at hun; exact hun
      refine wpOp_mono (fun a' w' h3 => ih (listed.setIfInBounds j true) a' w' hzj hfree' (ready_mono hr (Ne.symm hji)) h3.1 ?_) h2
      rw [Array.setIfInBounds_comm _ _ hji]
      exact h3.2
end
variable {X : Cx} {ops : Array Oper} {Q : Exit → Act → World → Prop} {o : Oper} {l : List (Nat × Value)} {G Gq : List Asn} {v : Value} {n d i z : Nat} {L : Array Bool}
abbrev SZ (X : Cx) (ops : Array Oper) (Gq : List Asn) (z : Nat) (Q : Exit → Act → World → Prop) (n : Nat) (L : Array Bool) (l : List (Nat × Value)) (G : List Asn) : Prop :=
  SK X (wpAnyZ X.P ops (fun w => St X.w0 w Gq) z Q n L) l G
theorem rdz {id : Nat} {os : List Oper} (z : Nat) (ks : List Nat) (hG : pickAll ks G = Gq) (h : SZ X os.toArray Gq z Q os.length (Array.replicate os.length false) l G) (hrd : X.rd = none := by rfl) : SX X (.region id os.toArray true) Q l G := fun a w hk hs => by
  rw [Cx.wp_none hrd]
  exact wp_region_any X.wide (wpAny_of_Z _ _ _ _ (by have := h a _ hk hs.drew; simpa using this))
/-- is the z-th unlisted, and does it come behind the i-th? -/
def zok (ops : Array Oper) (L : Array Bool) (z i : Nat) : Bool := !(L.getD z true) && !(Nat.beq i z) && (match ops[z]? with | some oz => oz.after.any (fun e => Region.binds .any e && Nat.beq e.on i) | none => false)
theorem zok_spec (h : zok ops L z i = true) : L.getD z true = false ∧ i ≠ z ∧ ∃ oz, ops[z]? = some oz ∧ oz.after.any (fun e => Region.binds .any e && Nat.beq e.on i) = true := by
  unfold zok at h
  simp only [Bool.and_eq_true, Bool.not_eq_true'] at h
  refine ⟨h.1.1, fun e => by have := h.1.2; subst e; simp at this, ?_⟩
  have h2 := h.2
  split at h2
  · rename_i oz hoz; exact ⟨oz, hoz, h2⟩
  · cases h2
theorem zv (i : Nat) (hi : ops[i]? = some o) (he : Ev X o l Gq v) (hp : pl X.N o = some d) (hq : (Region.noSelect ops && Region.free .any ops L i && (Region.ready .any ops L).contains i) = true) (hz : zok ops L z i = true) [hQ : Calm Q]
    (h : SZ X ops Gq z Q n (L.setIfInBounds i true) ((d, v) :: l) G) : SZ X ops Gq z Q (n + 1) L l G := fun a w hk hst => by
  simp only [Bool.and_eq_true] at hq
  obtain ⟨⟨hs, hf⟩, hr⟩ := hq
  obtain ⟨hd, hN, hg⟩ := pl_spec hp
  obtain ⟨hz1, hz2, oz, hz3, hz4⟩ := zok_spec hz
  exact wpAnyZ_first hi (Region.noSelect_spec hs) (fun c a w h => hQ.out c a _ w (put_defers _ _ _) h) hz2 hz3 hz4 n L a w hz1 (Region.free_spec hi hf) (by simpa using hr)
    (.inl ⟨by simp [Region.wanted, hg], fun w' hw' => he a w' hk hw'⟩) (by rw [hd]; exact h _ w (hk.put v hN) hst)
theorem z1 (i : Nat) (ks : List Nat) (hi : ops[i]? = some o) (hr : Region.ready .any ops L = [i]) (hG : pickAll ks G = Gq)
    (h : SL X ops (fun e a w => match e with | .normal => wpAnyZ X.P ops (fun w => St X.w0 w Gq) z Q n (L.setIfInBounds i true) a w | e => Q e a w) [o] l G) (hrd : X.rd = none := by rfl) : SZ X ops Gq z Q (n + 1) L l G := fun a w hk hst => by
  refine ⟨fun _ => hst.pk ks hG, fun h0 => (by rw [hr] at h0; cases h0), fun j hj => ?_⟩
  rw [hr] at hj
  simp only [List.mem_singleton] at hj
  subst hj
  exact wpOp_of _ hi h hrd hk hst
/-- The end: the z-th has been carried out. -/
theorem ze (hr : Region.ready .any ops L = []) (hz : L.getD z true = true) (h : SK X (Q .normal) l G) : SZ X ops Gq z Q n L l G := fun a w hk hst => by
  cases n with
  | zero => exact ⟨fun h0 => (by rw [hz] at h0; cases h0), hr, h a w hk hst⟩
  | succ n => exact ⟨fun h0 => (by rw [hz] at h0; cases h0), fun _ => h a w hk hst, by rw [hr]; simp⟩
end
section
variable {X : Cx} {o : Oper} {l : List (Nat × Value)} {G G1 : List Asn} {v : Value} {ops : Array Oper} {Q : Exit → Act → World → Prop} {r : List Oper} {K : Act → World → Prop} {d : Nat}
/-! ### 30. a function value with first arguments bound -/
/-! ### 31. a region that draws: either of two may come first -/
theorem qo {oi oj : Oper} {n : Nat} {L : Array Bool} {Gq : List Asn} (i j : Nat) (ks : List Nat) (hi : ops[i]? = some oi) (hj : ops[j]? = some oj) (hr : Region.ready .any ops L = [i, j]) (hG : pickAll ks G = Gq)
    (A : SL X ops (fun e a w => match e with | .normal => wpAnyC X.P ops (fun w => St X.w0 w Gq) Q n (L.setIfInBounds i true) a w | e => Q e a w) [oi] l G)
    (B : SL X ops (fun e a w => match e with | .normal => wpAnyC X.P ops (fun w => St X.w0 w Gq) Q n (L.setIfInBounds j true) a w | e => Q e a w) [oj] l G) (hrd : X.rd = none := by rfl) : SM X ops Gq Q (n + 1) L l G := fun a w hk hst => by
  refine ⟨hst.pk ks hG, fun h0 => (by rw [hr] at h0; cases h0), fun k hk' => ?_⟩
  rw [hr] at hk'
  simp at hk'
  rcases hk' with rfl | rfl
  · exact wpOp_of _ hi A hrd hk hst
  · exact wpOp_of _ hj B hrd hk hst
/-- A cut: what holds behind a piece of code, told once. -/
def cutQ (K : Act → World → Prop) (Q : Exit → Act → World → Prop) : Exit → Act → World → Prop
  | .normal, a, w => K a w
  | .exit id, a, w => Q (.exit id) a w
  | .goto t, a, w => Q (.goto t) a w
  | .ret, a, w => Q .ret a w
  | .panic c, a, w => Q (.panic c) a w
  | .outgrown, a, w => Q .outgrown a w
instance Calm.cut {K : Act → World → Prop} {Q : Exit → Act → World → Prop} [h : Calm Q] : Calm (cutQ K Q) := ⟨h.out⟩
theorem rx {σ : Type} {c : Code} (E : σ → List (Nat × Value)) (H : σ → List Asn) (pre : σ → Prop) (h : ∀ s, pre s → SK X (Q .normal) (E s) (H s))
    (r : SX X c (cutQ (fun a w => ∃ s, pre s ∧ Knows X.K (E s) a ∧ St X.w0 w (H s)) Q) l G) (hrd : X.rd = none := by rfl) : SX X c Q l G := fun a w hk hs => by
  have h1 := r a w hk hs
  rw [Cx.wp_none hrd] at h1 ⊢
  refine wp_mono h1 ?_
  intro e a w hq
  cases e with
  | normal => obtain ⟨s, h2, h3, h4⟩ := hq; exact h s h2 a w h3 h4
  | exit id => exact hq
  | goto l => exact hq
  | ret => exact hq
  | panic ch => exact hq
  | outgrown => exact hq
theorem cx {σ : Type} {E : σ → List (Nat × Value)} {H : σ → List Asn} {pre : σ → Prop} (s : σ) (ks : List Nat) (h0 : pre s) (hl : lessB l (E s)) (hG : pickAll ks G = H s) :
    SK X (cutQ (fun a w => ∃ s, pre s ∧ Knows X.K (E s) a ∧ St X.w0 w (H s)) Q .normal) l G := fun a w hk hs => ⟨s, h0, hk.less hl, hG ▸ hs.pick ks⟩
end
section

/-! ### 32. many assertions as one; a block that holds no cells -/
def ob (b : Nat) (o : Obj) : Asn where
  own := [b]
  see := []
  P w := w.heap[b]? = some o
  keep w w' _ h _ hp := (h b (by simp)).trans hp
  lt w hp b' hb := by
    simp at hb
    subst hb
    exact (Array.getElem?_eq_some_iff.1 hp).1
/-! ### 33. function ends behind a range over a function -/
abbrev bpM (P : Program) (fn : Func) (R : Ending → World → Prop) : Exit → Act → World → Prop := bodyPostM Fence.wide 9 P fn R
variable {X : Cx} {o : Oper} {l : List (Nat × Value)} {G G1 : List Asn} {v : Value} {ops : Array Oper} {Q : Exit → Act → World → Prop} {r : List Oper} {K : Act → World → Prop} {d : Nat}
/-- What follows lets nothing out that has outgrown. -/
class Tight (Q : Exit → Act → World → Prop) : Prop where
  out : ¬ LetsOut Q
instance Tight.then {Q : Exit → Act → World → Prop} (K : Act → World → Prop) [h : Tight Q] : Tight (Exit.then K Q) := ⟨h.out⟩
instance Tight.block {Q : Exit → Act → World → Prop} {id : Nat} [h : Tight Q] : Tight (Exit.inBlock id Q) := ⟨h.out⟩
def mark (D : Nat) : List Deferred := [{ target := .collected D, args := #[] }]
abbrev dfr : Obj := .deferred (some [])
/-! ### 34. a range over an iterator over a slice, from its end on -/
abbrev Cx.rnd (X : Cx) (lo : Nat) : Cx := { X with rd := some (some lo), df := [] }
abbrev Cx.mk' (X : Cx) (D : Nat) : Cx := { X with df := mark D }
/-- How a round may be left. -/
def rndQ (N R : World → Prop) : Exit → Act → World → Prop
  | .normal, _, w => N w
  | .ret, _, w => R w
  | _, _, _ => False
instance Calm.rnd {N R : World → Prop} : Calm (rndQ N R) := ⟨fun c a a' w _ h => h⟩
instance Tight.rnd {N R : World → Prop} : Tight (rndQ N R) := ⟨fun ⟨_, _, h⟩ => h⟩
/-! ### 35. an iterator's own walk -/
end
section
variable {X : Cx} {o : Oper} {l : List (Nat × Value)} {G G1 : List Asn} {v : Value} {ops : Array Oper} {Q : Exit → Act → World → Prop} {r : List Oper} {K : Act → World → Prop} {d : Nat}
/-! ### 36. three results; a function that hands back an iterator -/
/-- A function value over a box that is handed back. -/
def BackMade (gf T : Nat) (v : Value) (w : World) (e : Ending) (w' : World) : Prop := ∃ b, e = .returned (.func (.func gf) #[] #[.pointer (some ⟨b, 0, none⟩)]) ∧ Below w.heap.size w w' ∧ w.heap.size ≤ b ∧ w'.heap[b]? = some (.cells #[v] T (0, 0))
theorem retb {fn : Func} {t gf T b : Nat} {v : Value} (k : Nat) (hr : fn.results = #[.tmp t]) (hv : look l t = some (.func (.func gf) #[] #[.pointer (some ⟨b, 0, none⟩)])) (hG : G[k]? = some (blk b [v] T)) (hdf : X.df = [] := by rfl) : SK X (bodyPost X.P fn (BackMade gf T v X.w0) .ret) l G :=
  ret1 hr hv (fun w hs => ⟨b, rfl, hs.below, hs.new _ (List.mem_of_getElem? hG) b (by simp [blk]), hs.at k hG⟩) hdf
theorem cbk {f gf T : Nat} {args : List Operand} {ts : Array TypeId} {vs : List Value} {v : Value} (hE : enters X.P f = true)
    (ho : o.op = .call { callee := .value (.func f), args := args.toArray, argTypes := ts }) (hv : evs l args = some vs) (hp : pl X.N o = some d)
    (hc : ∀ w, St X.w0 w G → Calls X.P f vs.toArray w (BackMade gf T v w))
    (h : ∀ b, SL X ops Q r ((d, .func (.func gf) #[] #[.pointer (some ⟨b, 0, none⟩)]) :: l) (blk b [v] T :: G)) : SL X ops Q (o :: r) l G := by
  obtain ⟨fn, h1, h2, h3⟩ := enters_spec hE
  refine clx ho h1 h2 h3 hv hp fun a w hk hs => (hc w hs).mono ?_
  rintro e w' ⟨b, rfl, hb, hn, hw⟩
  refine ⟨_, rfl, fun a' ha' => h b a' w' ha' ?_⟩
  refine (hs.step hb).cons hw (fun b' hb' => by simp [blk] at hb'; subst hb'; exact Nat.le_trans hs.below.size hn) ⟨by simp [blk], by simp [blk]⟩ (fun B hB => ⟨fun b' hb' => ?_, fun b' _ hx => by simp [blk] at hx⟩)
  simp [blk] at hb'
  subst hb'
  exact ⟨fun hx => by have := hs.lt hB (.inl hx); omega, fun hx => by have := hs.lt hB (.inr hx); omega⟩
/-! searches from the end -/
end
section
variable {X : Cx} {o : Oper} {l : List (Nat × Value)} {G G1 : List Asn} {v : Value} {ops : Array Oper} {Q : Exit → Act → World → Prop} {r : List Oper} {K : Act → World → Prop} {d : Nat} {α : Type}
/-! ### 37. a row's elements are sealed, the row stays one's own; a slice built of two -/
theorem run_bs2 {P : Program} {t e : TypeId} {i : TypeInfo} {z : Value} (ht : P.underlying t = some (.slice e)) (hi : P.info? e = some i) (hz : i.zero = some z) (w : World) (a b : Int) (k : IntKind) (hl : i.size = 1) :
    (Instr.buildSlice t 2 #[(0, .int k a), (1, .int k b)]).run P w = .ok (.slice (some ⟨w.heap.size, 0, none⟩) 2 2) (w.alloc (.cells #[.int k a, .int k b] e)) := by
  have key : ∀ c : Array Value, c.size = 2 → (c.setIfInBounds 0 (.int k a)).setIfInBounds 1 (.int k b) = #[.int k a, .int k b] := by
    rintro ⟨l⟩ hc
    match l, hc with
    | [x, y], _ => simp
  simp [Instr.buildSlice, run_underlying ht, sizeOf, typeInfo, zeroValue, hi, hz, Instr.fill, newRow, newObj, hl, Value.cells]
  rw [key _ (by simp)]
  rfl
theorem bs2 {zv : Value} {t e by_ : Nat} {x y : Operand} {a b : Int} (he : look X.T.elem t = some e) (hi : (X.P.info? e).map (fun i => (i.zero, i.size, i.bytes)) = some (some zv, 1, by_))
    (ho : o.op = .buildSlice t 2 #[(0, x), (1, y)]) (hx : ev l x = some (.int .i64 a)) (hy : ev l y = some (.int .i64 b)) (hp : pl X.N o = some d)
    (h : ∀ b', SL X ops Q r ((d, .slice (some ⟨b', 0, none⟩) 2 2) :: l) (dat (Kd.row e Kd.i64) [.slice (some ⟨b', 0, none⟩) 2 2] [a, b] [b'] [] :: G)) : SL X ops Q (o :: r) l G := fun ac w hk hs => by
  obtain ⟨hd, hN, hg⟩ := pl_spec hp
  refine wl_plain hg fun K hK => ?_
  obtain ⟨i, hi1, hi2⟩ := Option.map_eq_some_iff.1 hi
  simp only [Prod.mk.injEq] at hi2
  have hr := run_bs2 (P := X.P) (Tab.elemOk X.ok he) hi1 hi2.1 w a b .i64 hi2.2.1
  unfold Oper.wp execOp
  simp only [ho, List.map_toArray, List.map_cons, List.map_nil, hk.ev hx, hk.ev hy, Sem.run_bind, hr, Result.andThen_ok]
  suffices hS : St X.w0 (w.alloc (.cells #[.int .i64 a, .int .i64 b] e)) (dat (Kd.row e Kd.i64) [.slice (some ⟨w.heap.size, 0, none⟩) 2 2] [a, b] [w.heap.size] [] :: G) from
    hK _ _ (by rw [hd]; exact h w.heap.size _ _ (hk.put _ hN) hS)
  have hR : (Kd.row e Kd.i64).Rel (w.alloc (.cells #[.int .i64 a, .int .i64 b] e)) [.slice (some ⟨w.heap.size, 0, none⟩) 2 2] [a, b] [w.heap.size] [] :=
    Kd.row_mk (heap_alloc_new w (.cells #[.int .i64 a, .int .i64 b] e)) rfl (Nat.le_refl _) (by simp [maxLen]) (by omega) (by simp [Kd.i64, Kd.int, Kd.scal]) (by
      have e1 : (#[Value.int .i64 a, Value.int .i64 b] : Array Value).toList.take (2 * Kd.i64.sz) = [.int .i64 a] ++ [.int .i64 b] := rfl
      rw [e1]
      exact Kd.Elems.cons (d := Kd.i64) (c := [.int .i64 a]) (cs := [.int .i64 b] ++ []) (x := a) (xs := [b]) (o := []) (o' := []) (s := []) (s' := []) ⟨rfl, rfl, rfl⟩ (Kd.Elems.cons (d := Kd.i64) (c := [.int .i64 b]) (x := b) (cs := []) (o := []) (o' := []) (s := []) (s' := []) ⟨rfl, rfl, rfl⟩ .nil))
  refine (hs.step (w' := w.alloc _) ((Below.refl _ _).alloc (Nat.le_refl _) _)).cons hR (fun b hb => ?_) ⟨by simp [dat], by simp [dat]⟩ (fun B hB => ⟨fun b hb => ?_, fun b _ => by simp [dat]⟩)
  · simp [dat] at hb; subst hb; exact hs.below.size
  · simp [dat] at hb; subst hb; exact ⟨fun hx => Nat.lt_irrefl _ (hs.lt hB (.inl hx)), fun hx => Nat.lt_irrefl _ (hs.lt hB (.inr hx))⟩
end
section

/-! ### elements of one's own that are moved: each with its cells and its memory noted -/
abbrev Tg (α : Type) := α × List Value × List Nat × List Nat
namespace Kd
section
variable {α : Type}
def tag (d : Kd α) : Kd (Tg α) where
  sz := d.sz
  Rel w cs t o s := cs = t.2.1 ∧ d.Rel w cs t.1 o s
  len h := d.len h.2
  one h := d.one h.2
  keep ho hs h := ⟨h.1, d.keep ho hs h.2⟩
  lt h := d.lt h.2
theorem Pure.tag {d : Kd α} (h : d.Pure) : d.tag.Pure := fun w cs x o s hr => h w cs x.1 o s hr.2
theorem Seals.tag {d : Kd α} (h : Seals d d) : Seals d.tag d.tag := ⟨rfl, fun w cs x o s hr => by
  obtain ⟨s', h1, h2⟩ := h.2 w cs x.1 o s hr.2
  exact ⟨s', h1, hr.1, h2⟩⟩
theorem Elems.tags {da db : Kd α} (hS : Seals da db) {w : World} {cs : List Value} {xs : List α} {o s : List Nat} (h : Elems da w cs xs o s) :
    ∃ (ts : List (Tg α)) (s' : List Nat), ts.map (·.1) = xs ∧ o = ts.flatMap (·.2.2.1) ∧ s = ts.flatMap (·.2.2.2) ∧ (∀ t ∈ ts, da.Rel w t.2.1 t.1 t.2.2.1 t.2.2.2) ∧ (∀ b ∈ s', b ∈ o ∨ b ∈ s) ∧ Elems db.tag w cs ts [] s' := by
  induction h with
  | nil => exact ⟨[], [], rfl, rfl, rfl, by simp, by simp, .nil⟩
  | @cons c cs x xs o o' s s' hr he ih =>
    obtain ⟨ts, s1, h1, h2, h3, h4, h5, h6⟩ := ih
    obtain ⟨s2, h7, h8⟩ := hS.2 w c x o s hr
    refine ⟨(x, c, o, s) :: ts, s2 ++ s1, by simp [h1], by simp [h2], by simp [h3], ?_, ?_, ?_⟩
    · intro t ht
      rcases List.mem_cons.1 ht with rfl | ht
      · exact hr
      · exact h4 t ht
    · intro b hb
      simp only [List.mem_append] at hb ⊢
      rcases hb with hb | hb
      · rcases h7 b hb with h | h
        · exact .inl (.inl h)
        · exact .inr (.inl h)
      · rcases h5 b hb with h | h
        · exact .inl (.inr h)
        · exact .inr (.inr h)
    · exact Elems.cons (d := db.tag) (x := (x, c, o, s)) (o := []) (o' := []) ⟨rfl, h8⟩ h6
theorem Elems.untag {da db : Kd α} {w : World} {cs : List Value} {ts : List (Tg α)} {oo ss : List Nat} (h : Elems db.tag w cs ts oo ss) (hk : ∀ t ∈ ts, da.Rel w t.2.1 t.1 t.2.2.1 t.2.2.2) :
    Elems da w cs (ts.map (·.1)) (ts.flatMap (·.2.2.1)) (ts.flatMap (·.2.2.2)) := by
  induction h with
  | nil => exact .nil
  | @cons c cs x xs o o' s s' hr he ih =>
    obtain ⟨rfl, -⟩ := hr
    simp only [List.map_cons, List.flatMap_cons]
    exact .cons (hk x (by simp)) (ih (fun t ht => hk t (List.mem_cons_of_mem _ ht)))
end
end Kd
theorem sub_flatMap {α β : Type} {f : α → List β} {l1 l2 : List α} (h : l1.Sublist l2) : (l1.flatMap f).Sublist (l2.flatMap f) := by
  induction h with
  | slnil => exact .slnil
  | cons a h ih => exact ih.trans (by rw [List.flatMap_cons]; exact List.sublist_append_right _ _)
  | cons_cons a h ih => rw [List.flatMap_cons, List.flatMap_cons]; exact (List.Sublist.refl _).append ih
theorem row_tags {α : Type} {da db : Kd α} {e : TypeId} (hS : Kd.Seals da db) {w : World} {A : Option Addr} {c : Nat} {xs : List α} {o s : List Nat} (hr : (Kd.row e da).Rel w [.slice A xs.length c] xs o s) : ∃ (ts : List (Tg α)) (bs s' : List Nat), ts.map (·.1) = xs ∧ o = bs ++ ts.flatMap (·.2.2.1) ∧ s = ts.flatMap (·.2.2.2) ∧ (∀ t ∈ ts, da.Rel w t.2.1 t.1 t.2.2.1 t.2.2.2) ∧ (∀ b ∈ s', b ∈ ts.flatMap (·.2.2.1) ∨ b ∈ s) ∧ (Kd.row e db.tag).Rel w [.slice A ts.length c] ts bs s' := by
  rcases hr with ⟨rfl, rfl, rfl, hc⟩ | ⟨b, c', cur, o', hc, rfl, hb, h1, h2, h3, he⟩
  · exact ⟨[], [], [], rfl, rfl, rfl, by simp, by simp, .inl ⟨rfl, rfl, rfl, hc⟩⟩
  · obtain ⟨ts, s', h4, h5, h6, h7, h8, h9⟩ := he.tags hS
    have hlen : ts.length = xs.length := by rw [← h4, List.length_map]
    have hsz : da.sz = db.sz := hS.1
    refine ⟨ts, [b], s', h4, by rw [← h5]; rfl, h6, h7, fun q hq => by rw [← h5]; exact h8 q hq, .inr ⟨b, c', cur, [], ?_, rfl, hb, by omega, ⟨h2.1, by omega⟩, ?_, ?_⟩⟩
    · rw [hlen]; exact hc
    · exact h3.trans (by rw [hsz]; rfl)
    · rw [hlen]; show Kd.Elems db.tag w (cur.toList.take (xs.length * db.sz)) ts [] s'; rw [← hsz]; exact h9
/-! ### a row whose elements own memory, its elements moved in the middle of a walk: they are noted, and what they own is kept in a pool -/
def pool {α : Type} (da : Kd α) (ts : List (Tg α)) : Asn where
  own := []
  see := ts.flatMap (·.2.2.1) ++ ts.flatMap (·.2.2.2)
  P w := ∀ t ∈ ts, da.Rel w t.2.1 t.1 t.2.2.1 t.2.2.2
  keep w w' _ _ hs h := fun t ht => da.keep (fun b hb => hs b (List.mem_append_left _ (List.mem_flatMap.2 ⟨t, ht, hb⟩))) (fun b hb => hs b (List.mem_append_right _ (List.mem_flatMap.2 ⟨t, ht, hb⟩))) (h t ht)
  lt w h b hb := by
    rcases hb with hb | hb
    · cases hb
    · rcases List.mem_append.1 hb with hb | hb
      · obtain ⟨t, ht, hb⟩ := List.mem_flatMap.1 hb; exact da.lt (h t ht) b (.inl hb)
      · obtain ⟨t, ht, hb⟩ := List.mem_flatMap.1 hb; exact da.lt (h t ht) b (.inr hb)
section
variable {X : Cx} {l : List (Nat × Value)} {G : List Asn} {K : Act → World → Prop} {α : Type}
/-- The elements of a row of one's own are noted. -/
theorem gtag {e : TypeId} {da db : Kd α} {A : Option Addr} {c n : Nat} {xs : List α} {o s : List Nat} (hS : Kd.Seals da db) (hn : n = xs.length)
    (h : ∀ (ts : List (Tg α)) (bs s' : List Nat), ts.map (·.1) = xs → (∀ b ∈ ts.flatMap (·.2.2.1), X.w0.heap.size ≤ b) → (ts.flatMap (·.2.2.1)).Nodup → s = ts.flatMap (·.2.2.2) → (∀ t ∈ ts, ∀ b ∈ t.2.2.1, ∀ t' ∈ ts, b ∉ t'.2.2.2) → (∀ b ∈ s', b ∈ ts.flatMap (·.2.2.1) ∨ b ∈ s) → SK X K l (dat (Kd.row e db.tag) [.slice A n c] ts bs s' :: pool da ts :: G)) :
    SK X K l (dat (Kd.row e da) [.slice A n c] xs o s :: G) := fun a w hk hs => by
  subst hn
  have hr : (Kd.row e da).Rel w [.slice A xs.length c] xs o s := hs.at 0 rfl
  have hu0 := hs.uniq _ (List.mem_cons_self ..)
  have hu : o.Nodup ∧ ∀ b ∈ o, b ∉ s := hu0
  have hnew : ∀ b ∈ o, X.w0.heap.size ≤ b := hs.new _ (List.mem_cons_self ..)
  obtain ⟨hsep, htl⟩ := List.pairwise_cons.1 hs.sep
  obtain ⟨ts, bs, s', h1, h2, h3, h4, h5, h6⟩ := row_tags hS hr
  rw [show ts.length = xs.length by rw [← h1, List.length_map]] at h6
  have hnd : bs.Nodup ∧ (ts.flatMap (·.2.2.1)).Nodup ∧ ∀ b ∈ bs, b ∉ ts.flatMap (·.2.2.1) := by
    have := hu.1; rw [h2, List.nodup_append] at this
    exact ⟨this.1, this.2.1, fun b hb hb' => this.2.2 b hb b hb' rfl⟩
  have hbo : ∀ b ∈ bs, b ∈ o := fun b hb => by rw [h2]; exact List.mem_append_left _ hb
  have hfo : ∀ b ∈ ts.flatMap (·.2.2.1), b ∈ o := fun b hb => by rw [h2]; exact List.mem_append_right _ hb
  have hpool : ∀ B ∈ G, Apart (pool da ts) B := fun B hB => ⟨fun b hb => by simp [pool] at hb, fun b hb hb' => by
    have hA : Apart (dat (Kd.row e da) [.slice A xs.length c] xs o s) B := hsep B hB
    rcases List.mem_append.1 hb' with hb' | hb'
    · exact (hA.1 b (hfo b hb')).1 hb
    · rw [← h3] at hb'; exact hA.2 b hb hb'⟩
  have hst1 : St X.w0 w (pool da ts :: G) := hs.tail.cons h4 (fun b hb => by simp [pool] at hb) ⟨by simp [pool], fun b hb => by simp [pool] at hb⟩ hpool
  refine h ts bs s' h1 (fun b hb => hnew b (hfo b hb)) hnd.2.1 h3 (fun t ht b hb t' ht' hb' => hu.2 b (hfo b (List.mem_flatMap.2 ⟨t, ht, hb⟩)) (by rw [h3]; exact List.mem_flatMap.2 ⟨t', ht', hb'⟩)) h5 a w hk (hst1.cons h6 (fun b hb => hnew b (hbo b hb)) ⟨hnd.1, fun b hb hb' => ?_⟩ (fun B hB => ?_))
  · rcases h5 b hb' with h | h
    · exact hnd.2.2 b hb h
    · exact hu.2 b (hbo b hb) h
  · rcases List.mem_cons.1 hB with rfl | hB
    · refine ⟨fun b hb => ⟨by simp [pool], fun hb' => ?_⟩, fun b hb => by simp [pool] at hb⟩
      rcases List.mem_append.1 hb' with hb' | hb'
      · exact hnd.2.2 b hb hb'
      · rw [← h3] at hb'; exact hu.2 b (hbo b hb) hb'
    · have hA : Apart (dat (Kd.row e da) [.slice A xs.length c] xs o s) B := hsep B hB
      refine ⟨fun b hb => hA.1 b (hbo b hb), fun b hb hb' => ?_⟩
      rcases h5 b hb' with h | h
      · exact (hA.1 b (hfo b h)).1 hb
      · exact hA.2 b hb h
/-- They are told again as one's own. All else is forgotten. -/
theorem gut {e : TypeId} {da db : Kd α} {A : Option Addr} {c n : Nat} {ts tx : List (Tg α)} {oo ss : List Nat} (k : Nat) (hS : Kd.Seals da db) (hp : db.Pure) (hk : G[k]? = some (pool da ts)) (hmem : ∀ t ∈ tx, t ∈ ts) (hnd : (tx.flatMap (·.2.2.1)).Nodup) (hnew : ∀ b ∈ ts.flatMap (·.2.2.1), X.w0.heap.size ≤ b)
    (h : ∀ o', SK X K l [dat (Kd.row e da) [.slice A n c] (tx.map (·.1)) o' (tx.flatMap (·.2.2.2))]) (hos : ∀ t ∈ ts, ∀ b ∈ t.2.2.1, ∀ t' ∈ ts, b ∉ t'.2.2.2) :
    SK X K l (dat (Kd.row e db.tag) [.slice A n c] tx oo ss :: G) := fun a w hk' hs => by
  have hr : (Kd.row e db.tag).Rel w [.slice A n c] tx oo ss := hs.at 0 rfl
  have hpl : ∀ t ∈ ts, da.Rel w t.2.1 t.1 t.2.2.1 t.2.2.2 := (hs.tail).at k hk
  obtain ⟨hsep, htl⟩ := List.pairwise_cons.1 hs.sep
  have hA : Apart (dat (Kd.row e db.tag) [.slice A n c] tx oo ss) (pool da ts) := hsep _ (List.mem_of_getElem? hk)
  have hu0 := hs.uniq _ (List.mem_cons_self ..)
  have hu : oo.Nodup ∧ ∀ b ∈ oo, b ∉ ss := hu0
  have hno : ∀ b ∈ oo, X.w0.heap.size ≤ b := hs.new _ (List.mem_cons_self ..)
  have hsub : ∀ b ∈ tx.flatMap (·.2.2.1), b ∈ ts.flatMap (·.2.2.1) := fun b hb => by
    obtain ⟨t, ht, hb⟩ := List.mem_flatMap.1 hb; exact List.mem_flatMap.2 ⟨t, hmem t ht, hb⟩
  have hsee : ∀ b ∈ oo, b ∉ tx.flatMap (·.2.2.1) ∧ b ∉ tx.flatMap (·.2.2.2) := fun b hb => by
    have := (hA.1 b hb).2
    refine ⟨fun h1 => this (List.mem_append_left _ (hsub b h1)), fun h1 => ?_⟩
    obtain ⟨t, ht, h1⟩ := List.mem_flatMap.1 h1
    exact this (List.mem_append_right _ (List.mem_flatMap.2 ⟨t, hmem t ht, h1⟩))
  have hsz : da.sz = db.sz := hS.1
  refine h (oo ++ tx.flatMap (·.2.2.1)) a w hk' ((St.nil hs.below).cons ?_ (fun b hb => ?_) ⟨?_, fun b hb hb' => ?_⟩ (by simp))
  · show (Kd.row e da).Rel w [.slice A n c] (tx.map (·.1)) (oo ++ tx.flatMap (·.2.2.1)) (tx.flatMap (·.2.2.2))
    rcases hr with ⟨rfl, rfl, rfl, hc⟩ | ⟨b, c', cur, o', hc, rfl, hb, h7, h8, h9, he⟩
    · exact .inl ⟨rfl, rfl, rfl, hc⟩
    · have ho' : o' = [] := Kd.Elems.pure hp.tag he
      subst ho'
      exact .inr ⟨b, c', cur, _, by rw [List.length_map]; exact hc, rfl, hb, by rw [List.length_map]; exact h7, ⟨h8.1, by rw [List.length_map]; exact h8.2⟩, h9.trans (by rw [hsz]; rfl), by rw [List.length_map, hsz]; exact he.untag (fun t ht => hpl t (hmem t ht))⟩
  · rcases List.mem_append.1 hb with hb | hb
    · exact hno b hb
    · exact hnew b (hsub b hb)
  · exact List.nodup_append.2 ⟨hu.1, hnd, fun b hb b' hb' e => (hsee b hb).1 (e ▸ hb')⟩
  · rcases List.mem_append.1 hb with hb | hb
    · exact (hsee b hb).2 hb'
    · obtain ⟨t, ht, hb⟩ := List.mem_flatMap.1 hb
      obtain ⟨t', ht', hb'⟩ := List.mem_flatMap.1 hb'
      exact hos t (hmem t ht) b hb t' (hmem t' ht') hb'
end
end
section
variable {X : Cx} {o : Oper} {l : List (Nat × Value)} {G : List Asn} {v : Value}
/-! ### 36. strings -/
namespace Kd
abbrev u8 : Kd Int := int .u8
theorem Seals.u8 : Seals Kd.u8 Kd.u8 := .scal _ (fun _ => rfl)
theorem Pure.u8 : Kd.u8.Pure := fun _ _ _ _ _ h => h.2.1
end Kd
section
variable {G1 : List Asn} {ops : Array Oper} {Q : Exit → Act → World → Prop} {r : List Oper} {K : Act → World → Prop} {d : Nat} {α : Type} {dk : Kd α}
end
end
section
/-! ### 37. a struct behind a pointer that a callee turns: as a row of one -/
section
variable {X : Cx} {l : List (Nat × Value)} {G : List Asn} {K : Act → World → Prop} {α : Type} {dk : Kd α}
end
section
variable {X : Cx} {l : List (Nat × Value)} {G : List Asn}
end
section
variable {X : Cx} {o : Oper} {l : List (Nat × Value)} {G G1 : List Asn} {v : Value} {ops : Array Oper} {Q : Exit → Act → World → Prop} {r : List Oper} {K : Act → World → Prop} {d : Nat}
/-- A call that makes something, in a function that turns what was handed over: how old what is made leads to at the least. -/
theorem cmm {α : Type} {dk : Kd α} {x : α} {S : List Nat} {f : FuncId} {args : List Operand} {ts : Array TypeId} {vs : List Value} (hE : enters X.P f = true)
    (ho : o.op = .call { callee := .value (.func f), args := args.toArray, argTypes := ts }) (hv : evs l args = some vs) (hp : pl X.N o = some d)
    (hS : ∀ b ∈ S, ∃ A ∈ G, b ∈ A.see) (m : Nat) (hm : ∀ w, St X.w0 w G → m ≤ w.heap.size)
    (hc : ∀ w, St X.w0 w G → Calls X.P f vs.toArray w (Made dk w x S))
    (h : ∀ cs o s w, dk.Rel w cs x o s → (∀ b ∈ s, b ∈ S ∨ m ≤ b) → SL X ops Q r ((d, valof cs) :: l) (dat dk cs x o s :: G)) : SL X ops Q (o :: r) l G := by
  obtain ⟨fn, h1, h2, h3⟩ := enters_spec hE
  refine clx ho h1 h2 h3 hv hp fun a w hk hs => (hc w hs).mono ?_
  rintro e w' ⟨hb, cs, ow, se, rfl, hr, hn, hnd, hdis, hse⟩
  refine ⟨_, rfl, fun a' ha' => h cs ow se w' hr (fun b hb => (hse b hb).imp_right (Nat.le_trans (hm w hs))) a' w' ha' ?_⟩
  refine (hs.step hb).cons hr (fun b hb' => Nat.le_trans hs.below.size (hn b hb')) ⟨hnd, hdis⟩ (fun B hB => ⟨fun b hb' => ?_, fun b hb' hx => ?_⟩)
  · have := hn b hb'
    exact ⟨fun hx => by have := hs.lt hB (.inl hx); omega, fun hx => by have := hs.lt hB (.inr hx); omega⟩
  · rcases hse b hx with h4 | h4
    · obtain ⟨A, hA, h5⟩ := hS b h4
      by_cases hAB : A = B
      · subst hAB; exact (hs.uniq A hA).2 b hb' h5
      · obtain ⟨i, hi, rfl⟩ := List.getElem_of_mem hA
        obtain ⟨j, hj, rfl⟩ := List.getElem_of_mem hB
        have hne : i ≠ j := fun e => hAB (by subst e; rfl)
        have hp := List.pairwise_iff_getElem.1 hs.sep
        rcases Nat.lt_or_gt_of_ne hne with hlt | hlt
        · exact (hp i j hi hj hlt).2 b hb' h5
        · exact ((hp j i hj hi hlt).1 b hb').2 h5
    · have := hs.lt hB (.inl hb'); omega
end
end
end Go.Proofs.YtfaflffdekoimaaGreat.Sx
