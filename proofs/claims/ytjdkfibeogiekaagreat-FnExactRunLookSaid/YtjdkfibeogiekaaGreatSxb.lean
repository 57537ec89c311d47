/- Words for walks over the program's code: what is said of memory, and how each step of the code turns it. No law is proved here; nothing is assumed. -/
import Derived.Test.YtjdkfibeogiekaaGreatSx
import Derived.Laws.AppendOwn
import Derived.Laws.Tables
import Derived.Lib.Overlaps
import Derived.Laws.Externs
import Derived.WalkSpells
import Derived.RangeFuncRecord
import Derived.RangeFuncIn
import Derived.RangeFuncLeaves
import Derived.RangeFuncFrom
import Derived.OrdersIn
import Derived.Laws.Concat
import Derived.Laws.Strings3
import Derived.Laws.BytesString
namespace Go.Proofs.YtjdkfibeogiekaaGreat.Sx
open Go Go.RowKit
set_option linter.unusedVariables false
set_option linter.unusedSimpArgs false
section

theorem run_bs0 {P : Program} {t e : TypeId} {i : TypeInfo} (ht : P.underlying t = some (.slice e)) (hi : P.info? e = some i) (w : World) :
    (Instr.buildSlice t 0 #[]).run P w = .ok (.slice (some ⟨w.heap.size, 0, none⟩) 0 0) (w.alloc (.cells #[] e)) := by
  simp [Instr.buildSlice, run_underlying ht, sizeOf, typeInfo, hi, Instr.fill, newRow, newObj]
  rw [show (Array.map (fun _ => default) (Array.range 0) : Array Value) = #[] from Array.eq_empty_of_size_eq_zero (by simp)]
  rfl
theorem run_bs1 {P : Program} {t e : TypeId} {i : TypeInfo} {z : Value} (ht : P.underlying t = some (.slice e)) (hi : P.info? e = some i) (hz : i.zero = some z) (w : World) (v : Value) (cs : List Value) (hv : v.cells = cs.toArray) (hl : cs.length = i.size) (hp : 0 < i.size) (hs : i.size ≤ 16777216) :
    (Instr.buildSlice t 1 #[(0, v)]).run P w = .ok (.slice (some ⟨w.heap.size, 0, none⟩) 1 1) (w.alloc (.cells cs.toArray e)) := by
  have h24 : ¬ (16777216 < i.size) := by omega
  have h25 : ¬ (i.size = 0) := by omega
  have key : ∀ (m : List Value) (pre : List Value) (k : Nat), m.length = cs.length - k → k ≤ cs.length → pre.length = k →
      ((cs.drop k).zipIdx k).foldl (fun (a : Array Value) (p : Value × Nat) => a.setIfInBounds p.2 p.1) (pre ++ m).toArray = (pre ++ cs.drop k).toArray := by
    intro m
    induction m with
    | nil => intro pre k h1 h2 h3; rw [List.drop_of_length_le (by simp at h1; omega)]; simp
    | cons a m ih =>
      intro pre k h1 h2 h3
      simp only [List.length_cons] at h1
      have hk : k < cs.length := by omega
      rw [List.drop_eq_getElem_cons hk, List.zipIdx_cons, List.foldl_cons]
      have e1 : (pre ++ a :: m).toArray.setIfInBounds k cs[k] = ((pre ++ [cs[k]]) ++ m).toArray := by
        subst h3
        simp [List.setIfInBounds_toArray]
      simp only [e1]
      rw [ih (pre ++ [cs[k]]) (k + 1) (by omega) (by omega) (by simp [h3])]
      simp
  have key2 : ∀ a : Array Value, a.size = cs.length → cs.zipIdx.foldl (fun (a : Array Value) (p : Value × Nat) => a.setIfInBounds p.2 p.1) a = cs.toArray := by
    intro a ha
    have := key a.toList [] 0 (by simpa using ha) (Nat.zero_le _) rfl
    simpa using this
  simp [Instr.buildSlice, run_underlying ht, sizeOf, typeInfo, zeroValue, hi, hz, Instr.fill, newRow, newObj, h24, h25, hv, hl]
  rw [key2 _ (by simp [hl])]
  rfl

theorem run_append_no {P : Program} {t tx ty e : TypeId} {i : TypeInfo} (ht : P.underlying t = some (.slice e)) (hi : P.info? e = some i) (w : World) (A A2 : Option Addr) (n c c2 : Nat) (hle : n ≤ c) :
    (Builtin.append_ #[t, t] ty #[.slice A n c, .slice A2 0 c2]).run P w = .ok (.slice A n c) w := by
  cases A <;> cases A2 <;> simp [Builtin.append_, run_underlying ht, sizeOf, typeInfo, hi, Builtin.lenOf, hle, Builtin.firstCells, loadCells, loadCellsFrom, storeCells]

namespace Kd
variable {α : Type} {dk : Kd α} {w : World}
def Src (w : World) (A : Option Addr) (news : List Value) : Prop := news = [] ∨ ∃ a, A = some a ∧ ∀ j u, news[j]? = some u → w.cell? (a.add j) = some u
theorem row_src {e : TypeId} {A : Option Addr} {m c : Nat} {ys : List α} {o s : List Nat} (h : (row e dk).Rel w [.slice A m c] ys o s) (hp : 0 < dk.sz) :
    ys.length = m ∧ ∃ news o', Elems dk w news ys o' s ∧ Src w A news ∧ (∀ b ∈ o', b ∈ o) ∧ (o.Nodup → o'.Nodup) := by
  rcases h with ⟨rfl, rfl, rfl, h⟩ | ⟨b, c', cur, o', h, rfl, hb, hc, hm, hz, he⟩
  · simp only [List.cons.injEq, Value.slice.injEq, and_true] at h
    obtain ⟨rfl, rfl, rfl⟩ := h
    exact ⟨rfl, [], [], .nil, .inl rfl, by simp, fun h => h⟩
  · simp only [List.cons.injEq, Value.slice.injEq, and_true] at h
    obtain ⟨rfl, rfl, rfl⟩ := h
    refine ⟨rfl, _, o', he, .inr ⟨_, rfl, fun j u hj => ?_⟩, fun b hb => List.mem_cons_of_mem _ hb, fun h => (List.nodup_cons.1 h).2⟩
    rw [List.getElem?_take] at hj
    split at hj
    · have e1 : (⟨b, 0, none⟩ : Addr).add j = ⟨b, j, none⟩ := by unfold Addr.add; split <;> simp_all
      rw [e1]
      simp only [World.cell?, hb]
      simpa using hj
    · cases hj
theorem sl_src {A : Option Addr} {m c : Nat} {ys : List α} {s : List Nat} (h : (sl dk).Rel w [.slice A m c] ys [] s) : ys.length = m ∧ ∃ news s', Elems dk w news ys [] s' ∧ Src w A news ∧ ∀ b ∈ s', b ∈ s := by
  obtain ⟨-, A', c', he, hc, hm, h2⟩ := h
  simp only [List.cons.injEq, Value.slice.injEq, and_true] at he
  obtain ⟨rfl, rfl, rfl⟩ := he
  rcases h2 with ⟨rfl, rfl⟩ | ⟨b, off, el, s', rfl, rfl, hb, hel, hcell⟩
  · exact ⟨rfl, [], [], .nil, .inl rfl, by simp⟩
  · refine ⟨rfl, el, s', hel, .inr ⟨_, rfl, fun j u hj => ?_⟩, fun b hb => List.mem_cons_of_mem _ hb⟩
    have e1 : (⟨b, off, none⟩ : Addr).add j = ⟨b, off + j, none⟩ := by unfold Addr.add; split <;> simp_all
    rw [e1]
    exact hcell j u hj
end Kd

theorem app_world {P : Program} {α : Type} {dk : Kd α} {w : World} {t ty e : TypeId} {i : TypeInfo} {zv : Value} {zs : List Value} {A A2 : Option Addr} {n c m c2 : Nat} {xs ys : List α} {o1 s1 o2 s2 : List Nat} {news : List Value}
    (ht : P.underlying t = some (.slice e)) (hi : P.info? e = some i) (hz : i.zero = some zv) (hzc : zv.cells = zs.toArray) (hzl : zs.length = dk.sz) (hsz : i.size = dk.sz) (hpos : 0 < dk.sz)
    (hR : (Kd.row e dk).Rel w [.slice A n c] xs o1 s1) (hE : Kd.Elems dk w news ys o2 s2) (hS : Kd.Src w A2 news) (hm : ys.length = m)
    (hb : (n + m) * i.bytes ≤ 140737488355328) (hn : n + m ≤ 281474976710656)
    (hu : o1.Nodup ∧ ∀ b ∈ o1, b ∉ s1) (hu2 : o2.Nodup ∧ ∀ b ∈ o2, b ∉ s2) (hap : (∀ b ∈ o1, b ∉ o2 ∧ b ∉ s2) ∧ ∀ b ∈ o2, b ∉ s1) (hlt2 : ∀ b, b ∈ o2 ∨ b ∈ s2 → b < w.heap.size) :
    ∃ A' c' w' o3, (Builtin.append_ #[t, t] ty #[.slice A n c, .slice A2 m c2]).run P w = .ok (.slice A' (n + m) c') w' ∧ Mod w w' o1 ∧ (Kd.row e dk).Rel w' [.slice A' (n + m) c'] (xs ++ ys) o3 (s1 ++ s2) ∧
      (∀ b ∈ o3, b ∈ o1 ∨ b ∈ o2 ∨ w.heap.size ≤ b) ∧ o3.Nodup ∧ (∀ b ∈ o3, b ∉ s1 ++ s2) := by
  have hnl : news.length = m * i.size := by rw [hE.len, hm, hsz]
  have hmax : n + m ≤ maxLen := by simp only [maxLen]; omega
  have h63 : ((n + m : Nat) : Int) ≤ 9223372036854775807 := by omega
  have hlt1 : ∀ b, b ∈ o1 ∨ b ∈ s1 → b < w.heap.size := (Kd.row e dk).lt hR
  rcases Nat.eq_zero_or_pos m with h0 | h0
  · subst h0
    have hys : ys = [] := List.eq_nil_of_length_eq_zero hm
    subst hys
    cases hE
    have hle : n ≤ c := by
      rcases hR with ⟨_, _, _, h⟩ | ⟨b, c', cur, o', h, rfl, hb', hc, hm', hz', he⟩
      · simp only [List.cons.injEq, Value.slice.injEq, and_true] at h; omega
      · simp only [List.cons.injEq, Value.slice.injEq, and_true] at h; omega
    refine ⟨A, c, w, o1, run_append_no (tx := t) ht hi w A A2 n c c2 hle, .refl _ _, by simpa using hR, fun b hb => .inl hb, hu.1, by simpa using hu.2⟩
  · have hsrc : ∃ a, A2 = some a ∧ ∀ j u, news[j]? = some u → w.cell? (a.add j) = some u := by
      rcases hS with h | h
      · subst h
        rw [hsz] at hnl
        have := Nat.mul_pos h0 hpos
        simp at hnl; omega
      · exact h
    obtain ⟨a, rfl, hnews⟩ := hsrc
    have grown : ∀ (old : Nat) (olds : List Value) (oo : List Nat), Kd.Elems dk w olds xs oo s1 → xs.length = n → (∀ b ∈ oo, b ∈ o1) → oo.Nodup →
        (Kd.row e dk).Rel (w.drew.alloc (.cells (olds.toArray ++ news.toArray ++ Builtin.zeroCells zv.cells (grownCap w (n + m) old e - (n + m))) e)) [.slice (some ⟨w.heap.size, 0, none⟩) (n + m) (grownCap w (n + m) old e)] (xs ++ ys) (w.heap.size :: (oo ++ o2)) (s1 ++ s2) ∧
          Mod w (w.drew.alloc (.cells (olds.toArray ++ news.toArray ++ Builtin.zeroCells zv.cells (grownCap w (n + m) old e - (n + m))) e)) o1 ∧
          (∀ b ∈ w.heap.size :: (oo ++ o2), b ∈ o1 ∨ b ∈ o2 ∨ w.heap.size ≤ b) ∧ (w.heap.size :: (oo ++ o2)).Nodup ∧ (∀ b ∈ w.heap.size :: (oo ++ o2), b ∉ s1 ++ s2) := by
      intro old olds oo hO hxl hoo hnd
      have hge := grownCap_ge w (n + m) old e
      have hB : Below w.heap.size w (w.drew.alloc (.cells (olds.toArray ++ news.toArray ++ Builtin.zeroCells zv.cells (grownCap w (n + m) old e - (n + m))) e)) := ((Below.refl _ w).drew).alloc (Nat.le_refl _) _
      have hA : Kd.Elems dk w (olds ++ news) (xs ++ ys) (oo ++ o2) (s1 ++ s2) := hO.app hE
      have hAl := hA.lt
      refine ⟨?_, .of_below hB _, ?_, ?_, ?_⟩
      · refine Kd.row_mk (heap_alloc_new w.drew _) (by simp [hxl, hm]) hge (grownCap_le_maxLen w (n + m) old e hmax) hn ?_ ?_
        · have hol := hO.len
          rw [hxl] at hol
          simp only [Array.size_append, List.size_toArray, size_zeroCells, hzc, hzl, hol, hnl, hsz, ← Nat.add_mul]
          congr 1
          omega
        · have e1 : (olds.toArray ++ news.toArray ++ Builtin.zeroCells zv.cells (grownCap w (n + m) old e - (n + m))).toList.take ((n + m) * dk.sz) = olds ++ news := by
            have hol := hO.len
            have h4 : (olds ++ news).length = (n + m) * dk.sz := by rw [List.length_append, hol, hnl, hxl, hsz, Nat.add_mul]
            simp only [Array.toList_append, List.append_assoc]
            rw [← List.append_assoc, ← h4]
            exact List.take_left
          rw [e1]
          exact hA.keep (fun q hq => hB.block q (hAl q (.inl hq))) (fun q hq => hB.block q (hAl q (.inr hq)))
      · intro b hb
        rcases List.mem_cons.1 hb with rfl | hb
        · exact .inr (.inr (Nat.le_refl _))
        · rcases List.mem_append.1 hb with hb | hb
          · exact .inl (hoo b hb)
          · exact .inr (.inl hb)
      · refine List.nodup_cons.2 ⟨fun hx => Nat.lt_irrefl _ (hAl _ (.inl hx)), List.nodup_append.2 ⟨hnd, hu2.1, fun p hp q hq e => ?_⟩⟩
        subst e
        exact (hap.1 p (hoo p hp)).1 hq
      · intro b hb hx
        rcases List.mem_cons.1 hb with rfl | hb
        · exact Nat.lt_irrefl _ (hAl _ (.inr hx))
        · rcases List.mem_append.1 hb with hb | hb <;> rcases List.mem_append.1 hx with hx | hx
          · exact hu.2 b (hoo b hb) hx
          · exact (hap.1 b (hoo b hb)).2 hx
          · exact hap.2 b hb hx
          · exact hu2.2 b hb hx
    rcases hR with ⟨rfl, rfl, rfl, h⟩ | ⟨b, c', cur, o', h, rfl, hg, hnc, hcm, hcs, he⟩
    · simp only [List.cons.injEq, Value.slice.injEq, and_true] at h
      obtain ⟨rfl, rfl, rfl⟩ := h
      have hr := run_append_nil (P := P) w t ty e i zv ht hi hz a m c2 news hnl hnews h0 (by omega) (by have hb := hb; simp only [Nat.zero_add] at hb; omega)
      obtain ⟨g1, g2, g3, g4, g5⟩ := grown 0 [] [] .nil rfl (by simp) .nil
      refine ⟨_, _, _, _, ?_, g2, g1, g3, g4, g5⟩
      simpa using hr
    · simp only [List.cons.injEq, Value.slice.injEq, and_true] at h
      obtain ⟨rfl, rfl, rfl⟩ := h
      have hbo : b ∉ o' := (List.nodup_cons.1 hu.1).1
      have hbs : b ∉ s1 := hu.2 b (List.mem_cons_self ..)
      have hb2 := hap.1 b (List.mem_cons_self ..)
      by_cases hroom : xs.length + m ≤ c
      · have hol := he.len
        have hle : (xs.length + m) * dk.sz ≤ c * dk.sz := Nat.mul_le_mul_right _ hroom
        rw [Nat.add_mul] at hle
        have hfit : xs.length * i.size + news.length ≤ cur.size := by rw [hnl, hcs, hsz]; omega
        have hr := run_append_room (P := P) w t ty e i ht hi b xs.length c cur hg a m c2 news hnl hnews hE.one hroom hfit
        have hA : Kd.Elems dk w (cur.toList.take (xs.length * dk.sz) ++ news) (xs ++ ys) (o' ++ o2) (s1 ++ s2) := he.app hE
        refine ⟨_, _, _, b :: (o' ++ o2), hr, (mod_setRow).mono (by simp), ?_, ?_, ?_, ?_⟩
        · refine Kd.row_mk (setRow_heap w b cur _ e _ hg) (by simp [hm]) hroom hcm.1 hn ?_ ?_
          · simp only [List.size_toArray, List.length_append, List.length_take, List.length_drop, Array.length_toList, hsz, hnl, hcs]
            omega
          · have e1 : (cur.toList.take (xs.length * i.size) ++ news ++ cur.toList.drop (xs.length * i.size + news.length)).toArray.toList.take ((xs.length + m) * dk.sz) = cur.toList.take (xs.length * dk.sz) ++ news := by
              have h4 : (cur.toList.take (xs.length * dk.sz) ++ news).length = (xs.length + m) * dk.sz := by rw [List.length_append, hol, hnl, hsz, Nat.add_mul]
              rw [hsz, ← h4]
              exact List.take_left
            rw [e1]
            have hne : ∀ q, q ≠ b → (w.setRow b (cur.toList.take (xs.length * i.size) ++ news ++ cur.toList.drop (xs.length * i.size + news.length)).toArray).heap[q]? = w.heap[q]? := fun q hq => setRow_other w b q _ hq
            refine hA.keep (fun q hq => hne q (fun e => ?_)) (fun q hq => hne q (fun e => ?_))
            · subst e
              rcases List.mem_append.1 hq with h | h
              · exact hbo h
              · exact hb2.1 h
            · subst e
              rcases List.mem_append.1 hq with h | h
              · exact hbs h
              · exact hb2.2 h
        · intro q hq
          rcases List.mem_cons.1 hq with rfl | hq
          · exact .inl (List.mem_cons_self ..)
          · rcases List.mem_append.1 hq with hq | hq
            · exact .inl (List.mem_cons_of_mem _ hq)
            · exact .inr (.inl hq)
        · refine List.nodup_cons.2 ⟨fun hx => (List.mem_append.1 hx).elim hbo hb2.1, List.nodup_append.2 ⟨(List.nodup_cons.1 hu.1).2, hu2.1, fun p hp q hq e => ?_⟩⟩
          subst e
          exact (hap.1 p (List.mem_cons_of_mem _ hp)).1 hq
        · intro q hq hx
          rcases List.mem_cons.1 hq with rfl | hq
          · exact (List.mem_append.1 hx).elim hbs hb2.2
          · rcases List.mem_append.1 hq with hq | hq <;> rcases List.mem_append.1 hx with hx | hx
            · exact hu.2 q (List.mem_cons_of_mem _ hq) hx
            · exact (hap.1 q (List.mem_cons_of_mem _ hq)).2 hx
            · exact hap.2 q hq hx
            · exact hu2.2 q hq hx
      · have holds : ∀ j u, (cur.toList.take (xs.length * dk.sz))[j]? = some u → w.cell? ((⟨b, 0, none⟩ : Addr).add j) = some u := by
          intro j u hj
          rw [List.getElem?_take] at hj
          split at hj
          · have e1 : (⟨b, 0, none⟩ : Addr).add j = ⟨b, j, none⟩ := by unfold Addr.add; split <;> simp_all
            rw [e1]
            simp only [World.cell?, hg]
            simpa using hj
          · cases hj
        have hr := run_append_grow (P := P) w t ty e i zv ht hi hz ⟨b, 0, none⟩ xs.length c _ (by rw [he.len, hsz]) holds a m c2 news hnl hnews (by omega) h63 (growslice_fits (by omega) hb)
        obtain ⟨g1, g2, g3, g4, g5⟩ := grown c _ o' he rfl (fun q hq => List.mem_cons_of_mem _ hq) (List.nodup_cons.1 hu.1).2
        exact ⟨_, _, _, _, hr, g2, g1, g3, g4, g5⟩

section
variable {X : Cx} {o : Oper} {l : List (Nat × Value)} {G G1 : List Asn} {v : Value} {ops : Array Oper} {Q : Exit → Act → World → Prop} {r : List Oper} {K : Act → World → Prop} {d : Nat} {α : Type} {dk : Kd α}
theorem bs0 {zv : Value} {t e by_ : Nat} (he : look X.T.elem t = some e) (hi : (X.P.info? e).map (fun i => (i.zero, i.size, i.bytes)) = some (some zv, dk.sz, by_))
    (ho : o.op = .buildSlice t 0 #[]) (hp : pl X.N o = some d)
    (h : ∀ b, SL X ops Q r ((d, .slice (some ⟨b, 0, none⟩) 0 0) :: l) (dat (Kd.row e dk) [.slice (some ⟨b, 0, none⟩) 0 0] [] [b] [] :: G)) : SL X ops Q (o :: r) l G := fun a w hk hs => by
  obtain ⟨hd, hN, hg⟩ := pl_spec hp
  refine wl_plain hg fun K hK => ?_
  obtain ⟨i, hi1, hi2⟩ := Option.map_eq_some_iff.1 hi
  have hr := run_bs0 (P := X.P) (Tab.elemOk X.ok he) hi1 w
  unfold Oper.wp execOp
  simp only [ho, List.map_toArray, List.map_nil, Sem.run_bind, hr, Result.andThen_ok]
  suffices hS : St X.w0 (w.alloc (.cells #[] e)) (dat (Kd.row e dk) [.slice (some ⟨w.heap.size, 0, none⟩) 0 0] [] [w.heap.size] [] :: G) from
    hK _ _ (by rw [hd]; exact h w.heap.size _ _ (hk.put _ hN) hS)
  have hR : (Kd.row e dk).Rel (w.alloc (.cells #[] e)) [.slice (some ⟨w.heap.size, 0, none⟩) 0 0] [] [w.heap.size] [] :=
    Kd.row_mk (heap_alloc_new w (.cells #[] e)) rfl (Nat.le_refl _) (Nat.zero_le _) (Nat.zero_le _) (by simp) (by simpa using Kd.Elems.nil)
  refine (hs.step (w' := w.alloc _) ((Below.refl _ _).alloc (Nat.le_refl _) _)).cons hR (fun b hb => ?_) ⟨by simp [dat], by simp [dat]⟩ (fun B hB => ⟨fun b hb => ?_, fun b _ => by simp [dat]⟩)
  · simp [dat] at hb; subst hb; exact hs.below.size
  · simp [dat] at hb; subst hb; exact ⟨fun hx => Nat.lt_irrefl _ (hs.lt hB (.inl hx)), fun hx => Nat.lt_irrefl _ (hs.lt hB (.inr hx))⟩
theorem bs1 {zv : Value} {t e by_ : Nat} {x : Operand} {cs : List Value} {u : α} {o2 s2 : List Nat} (he : look X.T.elem t = some e) (hi : (X.P.info? e).map (fun i => (i.zero, i.size, i.bytes)) = some (some zv, dk.sz, by_))
    (hsz : 0 < dk.sz ∧ dk.sz ≤ 16777216) (ho : o.op = .buildSlice t 1 #[(0, x)]) (hx : ev l x = some v) (hv : v.cells = cs.toArray) (hp : pl X.N o = some d)
    (h : ∀ b, SL X ops Q r ((d, .slice (some ⟨b, 0, none⟩) 1 1) :: l) (dat (Kd.row e dk) [.slice (some ⟨b, 0, none⟩) 1 1] [u] (b :: o2) s2 :: G)) : SL X ops Q (o :: r) l (dat dk cs u o2 s2 :: G) := fun a w hk hs => by
  obtain ⟨hd, hN, hg⟩ := pl_spec hp
  refine wl_plain hg fun K hK => ?_
  obtain ⟨i, hi1, hi2⟩ := Option.map_eq_some_iff.1 hi
  simp only [Prod.mk.injEq] at hi2
  have hR0 : dk.Rel w cs u o2 s2 := hs.holds (dat dk cs u o2 s2) (by simp)
  have hlen := dk.len hR0
  have hr := run_bs1 (P := X.P) (Tab.elemOk X.ok he) hi1 hi2.1 w v cs hv (by rw [hlen, hi2.2.1]) (by rw [hi2.2.1]; exact hsz.1) (by rw [hi2.2.1]; exact hsz.2)
  unfold Oper.wp execOp
  simp only [ho, List.map_toArray, List.map_cons, List.map_nil, hk.ev hx, Sem.run_bind, hr, Result.andThen_ok]
  suffices hS : St X.w0 (w.alloc (.cells cs.toArray e)) (dat (Kd.row e dk) [.slice (some ⟨w.heap.size, 0, none⟩) 1 1] [u] (w.heap.size :: o2) s2 :: G) from
    hK _ _ (by rw [hd]; exact h w.heap.size _ _ (hk.put _ hN) hS)
  have hB : Below w.heap.size w (w.alloc (.cells cs.toArray e)) := (Below.refl _ _).alloc (Nat.le_refl _) _
  have hlt := dk.lt hR0
  have hR : (Kd.row e dk).Rel (w.alloc (.cells cs.toArray e)) [.slice (some ⟨w.heap.size, 0, none⟩) 1 1] [u] (w.heap.size :: o2) s2 :=
    Kd.row_mk (heap_alloc_new w (.cells cs.toArray e)) rfl (Nat.le_refl _) (by simp [maxLen]) (by omega) (by simp [hlen]) (by
      have e1 : cs.toArray.toList.take (1 * dk.sz) = cs := by simp [← hlen]
      rw [e1]
      exact Kd.Elems.one1 (dk.keep (fun q hq => hB.block q (hlt q (.inl hq))) (fun q hq => hB.block q (hlt q (.inr hq))) hR0))
  have hu := hs.uniq (dat dk cs u o2 s2) (by simp)
  refine hs.swap (As := [dat dk cs u o2 s2]) (Bs := [dat (Kd.row e dk) [.slice (some ⟨w.heap.size, 0, none⟩) 1 1] [u] (w.heap.size :: o2) s2]) (.of_below hB _) ?_ ?_ ?_ ?_ (by simp)
  · intro B hB; simp at hB; subst hB; exact hR
  · intro B hB b hb; simp at hB; subst hB
    rcases List.mem_cons.1 hb with rfl | hb
    · exact .inr (Nat.le_refl _)
    · exact .inl (by simp [owns, dat, hb])
  · intro B hB b hb; simp at hB; subst hB; exact .inl ⟨dat dk cs u o2 s2, by simp, .inr hb⟩
  · intro B hB; simp at hB; subst hB
    refine ⟨List.nodup_cons.2 ⟨fun hx => Nat.lt_irrefl _ (hlt _ (.inl hx)), hu.1⟩, fun b hb hx => ?_⟩
    rcases List.mem_cons.1 hb with rfl | hb
    · exact Nat.lt_irrefl _ (hlt _ (.inr hx))
    · exact hu.2 b hb hx
theorem ap {zv : Value} {zs : List Value} {t e by_ n c m c2 : Nat} {x y : Operand} {A A2 : Option Addr} {xs ys : List α} (zl : List α) {o1 s1 o2 s2 : List Nat} (he : look X.T.elem t = some e) (hi : (X.P.info? e).map (fun i => (i.zero, i.size, i.bytes)) = some (some zv, dk.sz, by_)) (hzc : zv.cells = zs.toArray) (hzl : zs.length = dk.sz)
    (hpos : 0 < dk.sz) (ho : o.op = .call { callee := .builtin .append, args := #[x, y], argTypes := #[t, t] }) (hx : ev l x = some (.slice A n c)) (hy : ev l y = some (.slice A2 m c2)) (hz : xs ++ ys = zl) (hb : zl.length * by_ ≤ 140737488355328) (hn : zl.length ≤ 281474976710656) (hp : pl X.N o = some d)
    (h : ∀ A' c' o3 s3, (∀ b ∈ s3, b ∈ s1 ∨ b ∈ s2) → SL X ops Q r ((d, .slice A' zl.length c') :: l) (dat (Kd.row e dk) [.slice A' zl.length c'] zl o3 s3 :: G)) :
    SL X ops Q (o :: r) l (dat (Kd.row e dk) [.slice A n c] xs o1 s1 :: dat (Kd.row e dk) [.slice A2 m c2] ys o2 s2 :: G) := fun a w hk hs => by
  subst hz
  obtain ⟨hd, hN, hg⟩ := pl_spec hp
  refine wl_plain hg fun K hK => ?_
  obtain ⟨i, hi1, hi2⟩ := Option.map_eq_some_iff.1 hi
  simp only [Prod.mk.injEq] at hi2
  obtain ⟨j1, j2, j3⟩ := hi2
  have hR : (Kd.row e dk).Rel w [.slice A n c] xs o1 s1 := hs.holds (dat (Kd.row e dk) _ xs o1 s1) (by simp)
  have hR2 : (Kd.row e dk).Rel w [.slice A2 m c2] ys o2 s2 := hs.holds (dat (Kd.row e dk) _ ys o2 s2) (by simp)
  obtain ⟨hm, news, o2', hE, hS, hoo, hnd⟩ := Kd.row_src hR2 hpos
  have hn1 : xs.length = n := by obtain ⟨A', c', hh⟩ := Kd.row_sh hR; simp at hh; exact hh.2.1.symm
  have hu := hs.uniq (dat (Kd.row e dk) [.slice A n c] xs o1 s1) (by simp)
  have hu2 := hs.uniq (dat (Kd.row e dk) [.slice A2 m c2] ys o2 s2) (by simp)
  have hap : Apart (dat (Kd.row e dk) [.slice A n c] xs o1 s1) (dat (Kd.row e dk) [.slice A2 m c2] ys o2 s2) := (List.pairwise_cons.1 hs.sep).1 _ (by simp)
  have hlt2 : ∀ b, b ∈ o2 ∨ b ∈ s2 → b < w.heap.size := (Kd.row e dk).lt hR2
  obtain ⟨A', c', w', o3, hr, hmod, hR3, ho3, hnd3, hdis⟩ := app_world (P := X.P) (t := t) (ty := o.type) (Tab.elemOk X.ok he) hi1 j1 hzc hzl j2 hpos hR hE hS hm (by rw [j3]; rw [List.length_append, hn1, hm] at hb; exact hb) (by rw [List.length_append, hn1, hm] at hn; exact hn)
    hu ⟨hnd hu2.1, fun b hb => hu2.2 b (hoo b hb)⟩ ⟨fun b hb => ⟨fun hx => (hap.1 b hb).1 (hoo b hx), (hap.1 b hb).2⟩, fun b hb => hap.2 b (hoo b hb)⟩ (fun b hb => hlt2 b (hb.imp_left (hoo b)))
  unfold Oper.wp execOp
  simp only [ho, resolve, invoke, builtin, Sem.run_bind, Sem.run_pure, Result.andThen_ok, List.map_toArray, List.map_cons, List.map_nil, hk.ev hx, hk.ev hy]
  rw [hr]
  simp only [Result.andThen_ok, Oper.upon]
  have e1 : n + m = (xs ++ ys).length := by rw [List.length_append, hn1, hm]
  rw [e1] at hR3 ⊢
  suffices hS : St X.w0 w' (dat (Kd.row e dk) [.slice A' (xs ++ ys).length c'] (xs ++ ys) o3 (s1 ++ s2) :: G) from
    hK _ _ (by rw [hd]; exact h A' c' o3 (s1 ++ s2) (fun b hb => List.mem_append.1 hb) _ _ (hk.put _ hN) hS)
  refine hs.swap (As := [dat (Kd.row e dk) [.slice A n c] xs o1 s1, dat (Kd.row e dk) [.slice A2 m c2] ys o2 s2]) (Bs := [dat (Kd.row e dk) [.slice A' (xs ++ ys).length c'] (xs ++ ys) o3 (s1 ++ s2)]) (hmod.mono (fun b hb => by simp [owns, dat, hb])) ?_ ?_ ?_ ?_ (by simp)
  · intro B hB; rw [List.mem_singleton] at hB; subst hB; exact hR3
  · intro B hB b hb; simp at hB; subst hB
    rcases ho3 b hb with h | h | h
    · exact .inl (by simp [owns, dat, h])
    · exact .inl (by simp [owns, dat, hoo b h])
    · exact .inr h
  · intro B hB b hb; simp at hB; subst hB
    rcases List.mem_append.1 hb with h | h
    · exact .inl ⟨dat (Kd.row e dk) [.slice A n c] xs o1 s1, by simp, .inr h⟩
    · exact .inl ⟨dat (Kd.row e dk) [.slice A2 m c2] ys o2 s2, by simp, .inr h⟩
  · intro B hB; simp at hB; subst hB; exact ⟨hnd3, hdis⟩
theorem aps' (F : List Nat) {s2 : List Nat} (hF : ∀ w cs xs s, Kd.Elems dk w cs xs [] s → (∀ b ∈ s, b ∈ s2) → ∀ b ∈ s, b ∈ F) {zv : Value} {zs : List Value} {t e by_ n c m c2 : Nat} {x y : Operand} {A A2 : Option Addr} {xs ys : List α} (zl : List α) {o1 s1 : List Nat} (he : look X.T.elem t = some e) (hi : (X.P.info? e).map (fun i => (i.zero, i.size, i.bytes)) = some (some zv, dk.sz, by_)) (hzc : zv.cells = zs.toArray) (hzl : zs.length = dk.sz)
    (hpos : 0 < dk.sz) (ho : o.op = .call { callee := .builtin .append, args := #[x, y], argTypes := #[t, t] }) (hx : ev l x = some (.slice A n c)) (hy : ev l y = some (.slice A2 m c2)) (hz : xs ++ ys = zl) (hb : zl.length * by_ ≤ 140737488355328) (hn : zl.length ≤ 281474976710656) (hp : pl X.N o = some d)
    (h : ∀ A' c' o3 s3, (∀ b ∈ s3, b ∈ s1 ∨ b ∈ F) → SL X ops Q r ((d, .slice A' zl.length c') :: l) (dat (Kd.row e dk) [.slice A' zl.length c'] zl o3 s3 :: dat (Kd.sl dk) [.slice A2 m c2] ys [] s2 :: G)) :
    SL X ops Q (o :: r) l (dat (Kd.row e dk) [.slice A n c] xs o1 s1 :: dat (Kd.sl dk) [.slice A2 m c2] ys [] s2 :: G) := fun a w hk hs => by
  subst hz
  obtain ⟨hd, hN, hg⟩ := pl_spec hp
  refine wl_plain hg fun K hK => ?_
  obtain ⟨i, hi1, hi2⟩ := Option.map_eq_some_iff.1 hi
  simp only [Prod.mk.injEq] at hi2
  obtain ⟨j1, j2, j3⟩ := hi2
  have hR : (Kd.row e dk).Rel w [.slice A n c] xs o1 s1 := hs.holds (dat (Kd.row e dk) _ xs o1 s1) (by simp)
  have hR2 : (Kd.sl dk).Rel w [.slice A2 m c2] ys [] s2 := hs.holds (dat (Kd.sl dk) _ ys [] s2) (by simp)
  obtain ⟨hm, news, s2', hE, hS, hss⟩ := Kd.sl_src hR2
  have hn1 : xs.length = n := by obtain ⟨A', c', hh⟩ := Kd.row_sh hR; simp at hh; exact hh.2.1.symm
  have hu := hs.uniq (dat (Kd.row e dk) [.slice A n c] xs o1 s1) (by simp)
  have hap : Apart (dat (Kd.row e dk) [.slice A n c] xs o1 s1) (dat (Kd.sl dk) [.slice A2 m c2] ys [] s2) := (List.pairwise_cons.1 hs.sep).1 _ (by simp)
  have hlt2 : ∀ b, b ∈ [] ∨ b ∈ s2 → b < w.heap.size := (Kd.sl dk).lt hR2
  obtain ⟨A', c', w', o3, hr, hmod, hR3, ho3, hnd3, hdis⟩ := app_world (P := X.P) (t := t) (ty := o.type) (Tab.elemOk X.ok he) hi1 j1 hzc hzl j2 hpos hR hE hS hm (by rw [j3]; rw [List.length_append, hn1, hm] at hb; exact hb) (by rw [List.length_append, hn1, hm] at hn; exact hn)
    hu ⟨.nil, by simp⟩ ⟨fun b hb => ⟨by simp, fun hx => (hap.1 b hb).2 (hss b hx)⟩, by simp⟩ (fun b hb => hlt2 b (hb.imp_right (hss b)))
  unfold Oper.wp execOp
  simp only [ho, resolve, invoke, builtin, Sem.run_bind, Sem.run_pure, Result.andThen_ok, List.map_toArray, List.map_cons, List.map_nil, hk.ev hx, hk.ev hy]
  rw [hr]
  simp only [Result.andThen_ok, Oper.upon]
  have e1 : n + m = (xs ++ ys).length := by rw [List.length_append, hn1, hm]
  rw [e1] at hR3 ⊢
  have hR4 : (Kd.sl dk).Rel w' [.slice A2 m c2] ys [] s2 := (Kd.sl dk).keep (fun _ h => by cases h) (fun b hb => hmod.block b (hlt2 b (.inr hb)) (fun hx => (hap.1 b hx).2 hb)) hR2
  suffices hS : St X.w0 w' (dat (Kd.row e dk) [.slice A' (xs ++ ys).length c'] (xs ++ ys) o3 (s1 ++ s2') :: dat (Kd.sl dk) [.slice A2 m c2] ys [] s2 :: G) from
    hK _ _ (by rw [hd]; exact h A' c' o3 (s1 ++ s2') (fun b hb => (List.mem_append.1 hb).imp_right (hF w news ys s2' hE hss b)) _ _ (hk.put _ hN) hS)
  refine hs.swap (As := [dat (Kd.row e dk) [.slice A n c] xs o1 s1, dat (Kd.sl dk) [.slice A2 m c2] ys [] s2]) (Bs := [dat (Kd.row e dk) [.slice A' (xs ++ ys).length c'] (xs ++ ys) o3 (s1 ++ s2'), dat (Kd.sl dk) [.slice A2 m c2] ys [] s2]) (hmod.mono (fun b hb => by simp [owns, dat, hb])) ?_ ?_ ?_ ?_ ?_
  · intro B hB; simp at hB; rcases hB with rfl | rfl
    · rw [← List.length_append]; exact hR3
    · exact hR4
  · intro B hB b hb; simp at hB; rcases hB with rfl | rfl
    · rcases ho3 b hb with h | h | h
      · exact .inl (by simp [owns, dat, h])
      · cases h
      · exact .inr h
    · cases hb
  · intro B hB b hb; simp at hB; rcases hB with rfl | rfl
    · rcases List.mem_append.1 hb with h | h
      · exact .inl ⟨dat (Kd.row e dk) [.slice A n c] xs o1 s1, by simp, .inr h⟩
      · exact .inl ⟨dat (Kd.sl dk) [.slice A2 m c2] ys [] s2, by simp, .inr (hss b h)⟩
    · exact .inl ⟨dat (Kd.sl dk) [.slice A2 m c2] ys [] s2, by simp, .inr hb⟩
  · intro B hB; simp at hB; rcases hB with rfl | rfl
    · exact ⟨hnd3, hdis⟩
    · exact ⟨.nil, fun b hb => by cases hb⟩
  · refine List.pairwise_cons.2 ⟨fun B hB => ?_, by simp⟩
    simp at hB; subst hB
    refine ⟨fun b hb => ⟨fun hx => (by cases hx), fun hx => ?_⟩, fun b hb => by cases hb⟩
    rcases ho3 b hb with h | h | h
    · exact (hap.1 b h).2 hx
    · cases h
    · have := hlt2 b (.inr hx); omega
theorem aps {zv : Value} {zs : List Value} {t e by_ n c m c2 : Nat} {x y : Operand} {A A2 : Option Addr} {xs ys : List α} (zl : List α) {o1 s1 s2 : List Nat} (he : look X.T.elem t = some e) (hi : (X.P.info? e).map (fun i => (i.zero, i.size, i.bytes)) = some (some zv, dk.sz, by_)) (hzc : zv.cells = zs.toArray) (hzl : zs.length = dk.sz)
    (hpos : 0 < dk.sz) (ho : o.op = .call { callee := .builtin .append, args := #[x, y], argTypes := #[t, t] }) (hx : ev l x = some (.slice A n c)) (hy : ev l y = some (.slice A2 m c2)) (hz : xs ++ ys = zl) (hb : zl.length * by_ ≤ 140737488355328) (hn : zl.length ≤ 281474976710656) (hp : pl X.N o = some d)
    (h : ∀ A' c' o3 s3, (∀ b ∈ s3, b ∈ s1 ∨ b ∈ s2) → SL X ops Q r ((d, .slice A' zl.length c') :: l) (dat (Kd.row e dk) [.slice A' zl.length c'] zl o3 s3 :: dat (Kd.sl dk) [.slice A2 m c2] ys [] s2 :: G)) :
    SL X ops Q (o :: r) l (dat (Kd.row e dk) [.slice A n c] xs o1 s1 :: dat (Kd.sl dk) [.slice A2 m c2] ys [] s2 :: G) :=
  aps' s2 (fun _ _ _ _ _ h => h) zl he hi hzc hzl hpos ho hx hy hz hb hn hp h
theorem aps0 (hpure : ∀ w cs x o s, dk.Rel w cs x o s → s = []) {zv : Value} {zs : List Value} {t e by_ n c m c2 : Nat} {x y : Operand} {A A2 : Option Addr} {xs ys : List α} (zl : List α) {o1 s1 s2 : List Nat} (he : look X.T.elem t = some e) (hi : (X.P.info? e).map (fun i => (i.zero, i.size, i.bytes)) = some (some zv, dk.sz, by_)) (hzc : zv.cells = zs.toArray) (hzl : zs.length = dk.sz)
    (hpos : 0 < dk.sz) (ho : o.op = .call { callee := .builtin .append, args := #[x, y], argTypes := #[t, t] }) (hx : ev l x = some (.slice A n c)) (hy : ev l y = some (.slice A2 m c2)) (hz : xs ++ ys = zl) (hb : zl.length * by_ ≤ 140737488355328) (hn : zl.length ≤ 281474976710656) (hp : pl X.N o = some d)
    (h : ∀ A' c' o3 s3, (∀ b ∈ s3, b ∈ s1) → SL X ops Q r ((d, .slice A' zl.length c') :: l) (dat (Kd.row e dk) [.slice A' zl.length c'] zl o3 s3 :: dat (Kd.sl dk) [.slice A2 m c2] ys [] s2 :: G)) :
    SL X ops Q (o :: r) l (dat (Kd.row e dk) [.slice A n c] xs o1 s1 :: dat (Kd.sl dk) [.slice A2 m c2] ys [] s2 :: G) :=
  aps' [] (fun w cs xs s hE _ => by
    have key : ∀ {w cs xs o s}, Kd.Elems dk w cs xs o s → s = [] := by
      intro w cs xs o s hE
      induction hE with
      | nil => rfl
      | cons h1 _ ih => rw [hpure _ _ _ _ _ h1, ih]; rfl
    rw [key hE]; simp) zl he hi hzc hzl hpos ho hx hy hz hb hn hp (fun A' c' o3 s3 hs => h A' c' o3 s3 (fun b hb => (hs b hb).elim id (fun h => by cases h)))
theorem pure_i64 : ∀ w cs x o s, Kd.i64.Rel w cs x o s → s = [] := fun _ _ _ _ _ h => h.2.2
end
end
section

def fillL (pl : List (Nat × Nat)) (cs : List Value) : List (Nat × Value) → Option (List Value)
  | [] => some cs
  | (i, v) :: r => match pl[i]? with
    | none => none
    | some (off, size) => if v.cells.size ≠ size ∨ off + size > cs.length then none else fillL pl (splice cs off v.cells.toList) r
theorem fold_splice : ∀ (vs cs : List Value) (off k : Nat), off + k + vs.length ≤ cs.length →
    (vs.zipIdx k).foldl (fun (a : Array Value) (p : Value × Nat) => a.setIfInBounds (off + p.2) p.1) cs.toArray = (splice cs (off + k) vs).toArray
  | [], cs, off, k, h => by simp [splice]
  | v :: vs, cs, off, k, h => by
    simp only [List.length_cons] at h
    rw [List.zipIdx_cons, List.foldl_cons]
    have e1 : cs.toArray.setIfInBounds (off + k) v = (cs.set (off + k) v).toArray := by simp [List.setIfInBounds_toArray]
    simp only [e1]
    rw [fold_splice vs (cs.set (off + k) v) off (k + 1) (by simp; omega)]
    congr 1
    have hk : off + k < cs.length := by omega
    simp only [splice, List.length_cons, ← Nat.add_assoc]
    rw [List.set_eq_take_append_cons_drop, if_pos hk]
    have hl : (cs.take (off + k)).length = off + k := by simp; omega
    rw [List.take_append, hl, List.drop_append, hl]
    have e2 : off + k + 1 - (off + k) = 1 := by omega
    have e3 : off + k + 1 + vs.length - (off + k) = vs.length + 1 := by omega
    rw [e2, e3, List.take_of_length_le (l := cs.take (off + k)) (by omega), List.drop_of_length_le (l := cs.take (off + k)) (by omega)]
    simp only [List.take_succ_cons, List.take_zero, List.drop_succ_cons, List.nil_append, List.drop_drop, List.append_assoc, List.cons_append]
    congr 4
    omega
theorem fill_fillL (pl : List (Nat × Nat)) : ∀ (ps : List (Nat × Value)) (cs cs' : List Value), fillL pl cs ps = some cs' → Instr.fill (pl.toArray[·]?) cs.toArray ps = some cs'.toArray
  | [], cs, cs', h => by simp [fillL] at h; subst h; rfl
  | (i, v) :: r, cs, cs', h => by
    unfold fillL at h
    unfold Instr.fill
    simp only [List.getElem?_toArray]
    cases hp : pl[i]? with
    | none => simp [hp] at h
    | some q =>
      obtain ⟨off, size⟩ := q
      simp only [hp] at h ⊢
      split at h
      · cases h
      · rename_i hc
        simp only [not_or, Classical.not_not] at hc
        rw [if_neg (by have := hc.1; simp only [Bool.or_eq_true, decide_eq_true_eq, List.size_toArray, not_or]; omega)]
        have e0 := fold_splice v.cells.toList cs off 0 (by have := hc.1; simp only [Array.length_toList]; omega)
        rw [Nat.add_zero] at e0
        have e1 : v.cells.zipIdx.foldl (fun (a : Array Value) (p : Value × Nat) => a.setIfInBounds (off + p.2) p.1) cs.toArray = (splice cs off v.cells.toList).toArray := by
          rw [← e0, ← Array.foldl_toList]
          simp
        have := fill_fillL pl r _ _ h
        rw [← e1] at this
        simpa using this
def bld (P : Program) (t : TypeId) : Option (List (Nat × Nat) × List Value) := match P.info? t, P.underlying t with
  | some it, some (.struct fields) => match it.zero, fields.toList.mapM (fun f => (P.info? f.type).map fun i => (f.offset, i.size)) with
    | some z, some pl => some (pl, z.cells.toList)
    | _, _ => none
  | _, _ => none
theorem built_of {P : Program} {t : TypeId} {pl : List (Nat × Nat)} {zs cs : List Value} {ps : List (Nat × Value)} (hb : bld P t = some (pl, zs)) (hf : fillL pl zs ps = some cs) : P.built t ps = some cs.toArray := by
  unfold bld at hb
  unfold Program.built
  cases hi : P.info? t with
  | none => simp [hi] at hb
  | some it =>
    cases hu : P.underlying t with
    | none => simp [hi, hu] at hb
    | some d =>
      cases d <;> try (simp [hi, hu] at hb; done)
      rename_i fields
      cases hz : it.zero with
      | none => simp [hi, hu, hz] at hb
      | some z =>
        cases hm : fields.toList.mapM (fun f => (P.info? f.type).map fun i => (f.offset, i.size)) with
        | none => simp [hi, hu, hz, hm] at hb
        | some pl' =>
          simp only [hi, hu, hz, hm, Option.some.injEq, Prod.mk.injEq] at hb
          obtain ⟨rfl, rfl⟩ := hb
          simp only [hz, hm]
          have := fill_fillL _ _ _ _ hf
          simpa using this
section
variable {X : Cx} {o : Oper} {l : List (Nat × Value)} {G : List Asn}
def evp (l : List (Nat × Value)) : List (Nat × Operand) → Option (List (Nat × Value))
  | [] => some []
  | (i, x) :: r => match ev l x, evp l r with
    | some v, some q => some ((i, v) :: q)
    | _, _ => none
theorem evp_spec {N : NN} {l : List (Nat × Value)} {a : Act} (hk : Knows N l a) : ∀ {ps : List (Nat × Operand)} {vs : List (Nat × Value)}, evp l ps = some vs → ps.map (fun p => (p.1, a.eval p.2)) = vs
  | [], vs, h => by simp [evp] at h; subst h; rfl
  | (i, x) :: r, vs, h => by
    unfold evp at h
    split at h
    · rename_i v q hv hq
      cases h
      simp only [List.map_cons, hk.ev hv, evp_spec hk hq]
    · cases h
theorem bd {t : TypeId} {ps : List (Nat × Operand)} {vs : List (Nat × Value)} {pl : List (Nat × Nat)} {zs cs : List Value} (hb : bld X.P t = some (pl, zs)) (ho : o.op = .build t ps.toArray) (hv : evp l ps = some vs) (hf : fillL pl zs vs = some cs) : Ev X o l G (.agg cs.toArray) := fun a w hk _ => by
  have h1 := run_build (P := X.P) w t (vs.toArray) cs.toArray (built_of hb hf)
  unfold execOp
  have e1 : ps.toArray.map (fun p => (p.1, a.eval p.2)) = vs.toArray := by rw [List.map_toArray, evp_spec hk hv]
  simp only [ho, Sem.run_bind, e1, h1, Result.andThen_ok]
  rfl
end

theorem snt {G : List Asn} {α : Type} {d : Kd α} {cs : List Value} {x : α} {o s : List Nat} (k : Nat) (hk : G[k]? = some (dat d cs x o s)) : ∀ b ∈ s, ∃ A ∈ G, b ∈ A.see := fun b hb => ⟨_, List.mem_of_getElem? hk, hb⟩
theorem snp {G : List Asn} {α : Type} {d : Kd α} {p : Addr} {cs : List Value} {x : α} {s : List Nat} (k : Nat) (hk : G[k]? = some (ptr d p cs x s)) : ∀ b ∈ s, ∃ A ∈ G, b ∈ A.see := fun b hb => ⟨_, List.mem_of_getElem? hk, List.mem_cons_of_mem _ hb⟩
theorem idx_pos {α : Type} {p : α → Bool} {xs : List α} (h : (0 : Int) ≤ idx p xs) : ∃ k y, idx p xs = ((k : Nat) : Int) ∧ k < xs.length ∧ xs[k]? = some y ∧ p y = true ∧ ∀ j x, j < k → xs[j]? = some x → p x = false := by
  unfold idx at h ⊢
  cases hf : xs.findIdx? p with
  | none => rw [hf] at h; simp at h
  | some i =>
    rw [List.findIdx?_eq_some_iff_getElem] at hf
    obtain ⟨h1, h2, h3⟩ := hf
    exact ⟨i, xs[i], rfl, h1, List.getElem?_eq_getElem h1, h2, fun j x hj hx => by
      obtain ⟨hj2, rfl⟩ := List.getElem?_eq_some_iff.1 hx
      simpa using h3 j hj⟩
theorem idx_neg {α : Type} {p : α → Bool} {xs : List α} (h : ¬ (0 : Int) ≤ idx p xs) : ∀ x ∈ xs, p x = false := by
  unfold idx at h
  cases hf : xs.findIdx? p with
  | none => rw [List.findIdx?_eq_none_iff] at hf; exact fun x hx => by simpa using hf x hx
  | some i => rw [hf] at h; simp at h
end
section

def nul (w : World) : World := { w with heap := #[] }
theorem St.nl {w0 w : World} {G : List Asn} (h : St w0 w G) : St (nul w) w G :=
  ⟨⟨rfl, rfl, rfl, Nat.zero_le _, fun k hk => absurd hk (Nat.not_lt_zero _), Nat.le_refl _⟩, h.holds, fun _ _ _ _ => Nat.zero_le _, h.uniq, h.sep⟩
def frm (w : World) (o : List Nat) : Asn where
  own := []
  see := (List.range w.heap.size).filter (fun b => !decide (b ∈ o))
  P w' := w.heap.size ≤ w'.heap.size ∧ ∀ b, b < w.heap.size → b ∉ o → w'.heap[b]? = w.heap[b]?
  keep w' w'' hz _ hs h := ⟨Nat.le_trans h.1 hz, fun b hb hn => (hs b (by simp [hb, hn])).trans (h.2 b hb hn)⟩
  lt w' h b hb := by
    rcases hb with hb | hb
    · cases hb
    · simp at hb; exact Nat.lt_of_lt_of_le hb.1 h.1
theorem St.fr {w : World} {G : List Asn} (h : St (nul w) w G) (o : List Nat) (ho : o = owns G) : St (nul w) w (frm w o :: G) := by
  subst ho
  refine h.cons ⟨Nat.le_refl _, fun _ _ _ => rfl⟩ (by simp [frm]) (by simp [frm]) (fun B hB => ⟨by simp [frm], fun b hb hx => ?_⟩)
  simp only [frm, List.mem_filter, List.mem_range, Bool.not_eq_true', decide_eq_false_iff_not] at hx
  exact hx.2 (List.mem_flatMap.2 ⟨B, hB, hb⟩)
theorem St.mod {w w' : World} {G : List Asn} {o : List Nat} (h : St (nul w) w' G) (k : Nat) (hk : G[k]? = some (frm w o)) : Mod w w' o := by
  have hp : (frm w o).P w' := h.at k hk
  exact ⟨h.below.os, h.below.tape, h.below.output, hp.1, hp.2, h.below.dn⟩
def Turned (w w' : World) (o S : List Nat) (Bs : List Asn) : Prop :=
  Mod w w' o ∧ (∀ B ∈ Bs, B.P w') ∧ (∀ B ∈ Bs, ∀ b ∈ B.own, b ∈ o ∨ w.heap.size ≤ b) ∧ (∀ B ∈ Bs, ∀ b ∈ B.see, b ∈ S ∨ w.heap.size ≤ b) ∧ (∀ B ∈ Bs, B.own.Nodup ∧ ∀ b ∈ B.own, b ∉ B.see) ∧ Bs.Pairwise Apart
def MadeO {α : Type} (dk : Kd α) (w : World) (o : List Nat) (x : α) (S : List Nat) (e : Ending) (w' : World) : Prop :=
  ∃ cs oo ss, e = .returned (valof cs) ∧ Turned w w' o S [dat dk cs x oo ss]
theorem madeo {α : Type} {dk : Kd α} {w w' : World} {x : α} {S : List Nat} {v : Value} {cs : List Value} {o oo ss : List Nat} {G : List Asn} (hs : St (nul w) w' (dat dk cs x oo ss :: G)) (k : Nat) (hk : G[k]? = some (frm w o)) (hc : v = valof cs) (hS : ∀ b ∈ ss, b ∈ S ∨ w.heap.size ≤ b) :
    MadeO dk w o x S (.returned v) w' := by
  refine ⟨cs, oo, ss, by rw [hc], hs.mod (k + 1) hk, ?_, ?_, ?_, ?_, by simp⟩
  · intro B hB; simp at hB; subst hB; exact hs.holds (dat dk cs x oo ss) (by simp)
  · intro B hB b hb; simp at hB; subst hB
    have hap : Apart (dat dk cs x oo ss) (frm w o) := (List.pairwise_cons.1 hs.sep).1 _ (List.mem_of_getElem? hk)
    by_cases hbo : b ∈ o
    · exact .inl hbo
    · by_cases hlt : b < w.heap.size
      · exact absurd (by simp [frm, hlt, hbo] : b ∈ (frm w o).see) (hap.1 b hb).2
      · exact .inr (by omega)
  · intro B hB b hb; simp at hB; subst hB; exact hS b hb
  · intro B hB; simp at hB; subst hB; exact hs.uniq (dat dk cs x oo ss) (by simp)
theorem St.swap' {w0 w w' : World} {As Bs G : List Asn} (h : St w0 w (As ++ G)) (hm : Mod w w' (owns As)) (hP : ∀ B ∈ Bs, B.P w')
    (ho : ∀ B ∈ Bs, ∀ b ∈ B.own, b ∈ owns As ∨ w.heap.size ≤ b) (hs : ∀ B ∈ Bs, ∀ b ∈ B.see, (∃ A ∈ As ++ G, b ∈ A.see) ∨ w.heap.size ≤ b)
    (hu : ∀ B ∈ Bs, B.own.Nodup ∧ ∀ b ∈ B.own, b ∉ B.see) (hp : Bs.Pairwise Apart) : St w0 w' (Bs ++ G) := by
  have hsep := List.pairwise_append.1 h.sep
  have hown : ∀ b, b ∈ owns As → w0.heap.size ≤ b := fun b hb => by
    obtain ⟨A, hA, hb⟩ := List.mem_flatMap.1 hb
    exact h.new A (List.mem_append_left _ hA) b hb
  have hfar : ∀ C ∈ G, ∀ b, b ∈ C.own ∨ b ∈ C.see → b ∉ owns As := fun C hC b hb hx => by
    obtain ⟨A, hA, hbA⟩ := List.mem_flatMap.1 hx
    have := (hsep.2.2 A hA C hC).1 b hbA
    rcases hb with hb | hb
    · exact this.1 hb
    · exact this.2 hb
  have hlt : ∀ C ∈ G, ∀ b, b ∈ C.own ∨ b ∈ C.see → b < w.heap.size := fun C hC b hb => h.lt (List.mem_append_right _ hC) hb
  refine ⟨?_, ?_, ?_, ?_, ?_⟩
  · refine ⟨hm.os.trans h.below.os, hm.tape.trans h.below.tape, hm.output.trans h.below.output, Nat.le_trans h.below.size hm.size, fun k hk => ?_, Nat.le_trans h.below.dn hm.dn⟩
    exact (hm.block k (Nat.lt_of_lt_of_le hk h.below.size) (fun hx => by have := hown k hx; omega)).trans (h.below.block k hk)
  · intro A hA
    rcases List.mem_append.1 hA with hA | hA
    · exact hP A hA
    · exact A.keep w w' hm.size (fun b hb => hm.block b (hlt A hA b (.inl hb)) (hfar A hA b (.inl hb))) (fun b hb => hm.block b (hlt A hA b (.inr hb)) (hfar A hA b (.inr hb))) (h.holds A (List.mem_append_right _ hA))
  · intro A hA b hb
    rcases List.mem_append.1 hA with hA | hA
    · rcases ho A hA b hb with h1 | h1
      · exact hown b h1
      · exact Nat.le_trans h.below.size h1
    · exact h.new A (List.mem_append_right _ hA) b hb
  · intro A hA
    rcases List.mem_append.1 hA with hA | hA
    · exact hu A hA
    · exact h.uniq A (List.mem_append_right _ hA)
  · refine List.pairwise_append.2 ⟨hp, hsep.2.1, fun B hB C hC => ⟨fun b hb => ?_, fun b hb hx => ?_⟩⟩
    · rcases ho B hB b hb with h1 | h1
      · exact ⟨fun hx => hfar C hC b (.inl hx) h1, fun hx => hfar C hC b (.inr hx) h1⟩
      · exact ⟨fun hx => by have := hlt C hC b (.inl hx); omega, fun hx => by have := hlt C hC b (.inr hx); omega⟩
    · rcases hs B hB b hx with ⟨A, hA, h1⟩ | h1
      · by_cases hAC : A = C
        · subst hAC; exact (h.uniq A hA).2 b hb h1
        · obtain ⟨i, hi, rfl⟩ := List.getElem_of_mem hA
          obtain ⟨j, hj, rfl⟩ := List.getElem_of_mem (List.mem_append_right As hC)
          have hne : i ≠ j := fun e => hAC (by subst e; rfl)
          have hpw := List.pairwise_iff_getElem.1 h.sep
          rcases Nat.lt_or_gt_of_ne hne with hlt' | hlt'
          · exact (hpw i j hi hj hlt').2 b hb h1
          · exact ((hpw j i hj hi hlt').1 b hb).2 h1
      · have := hlt C hC b (.inl hb); omega
section
variable {X : Cx} {o : Oper} {l : List (Nat × Value)} {G G1 : List Asn} {v : Value} {ops : Array Oper} {Q : Exit → Act → World → Prop} {r : List Oper} {K : Act → World → Prop} {d : Nat} {α : Type} {dk : Kd α}
theorem co {x : α} {S : List Nat} {A0 : Asn} {f : FuncId} {args : List Operand} {ts : Array TypeId} {vs : List Value} (hE : enters X.P f = true)
    (ho : o.op = .call { callee := .value (.func f), args := args.toArray, argTypes := ts }) (hv : evs l args = some vs) (hp : pl X.N o = some d)
    (hS : ∀ b ∈ S, ∃ A ∈ A0 :: G, b ∈ A.see)
    (hc : ∀ w, St X.w0 w (A0 :: G) → Calls X.P f vs.toArray w (MadeO dk w A0.own x S))
    (h : ∀ cs oo ss w, dk.Rel w cs x oo ss → (∀ b ∈ ss, b ∈ S ∨ X.w0.heap.size ≤ b) → SL X ops Q r ((d, valof cs) :: l) (dat dk cs x oo ss :: G)) : SL X ops Q (o :: r) l (A0 :: G) := by
  obtain ⟨fn, h1, h2, h3⟩ := enters_spec hE
  refine clx ho h1 h2 h3 hv hp fun a w hk hs => (hc w hs).mono ?_
  rintro e w' ⟨cs, oo, ss, rfl, hm, hP, hoo, hss, hu, hpw⟩
  refine ⟨_, rfl, fun a' ha' => h cs oo ss w' (hP (dat dk cs x oo ss) (by simp)) (fun b hb => (hss (dat dk cs x oo ss) (by simp) b hb).imp_right (Nat.le_trans hs.below.size)) a' w' ha' ?_⟩
  exact hs.swap' (As := [A0]) (Bs := [dat dk cs x oo ss]) (hm.mono (fun b h => by simpa [owns] using h)) hP (fun B hB b hb => (hoo B hB b hb).imp_left (fun h => by simpa [owns] using h)) (fun B hB b hb => (hss B hB b hb).imp_left (hS b)) hu hpw
theorem bor {β : Type} {da db : Kd β} {w : World} {cs : List Value} {x : β} {oo ss : List Nat} {C : Prop} (hS : Kd.Seals da db) (hr : da.Rel w cs x oo ss) (h : ∀ s', db.Rel w cs x [] s' → C) : C := by
  obtain ⟨s', -, hr'⟩ := hS.2 w cs x oo ss hr
  exact h s' hr'
def _root_.Go.Proofs.YtjdkfibeogiekaaGreat.Sx.Kd.Pure (d : Kd α) : Prop := ∀ w cs x o s, d.Rel w cs x o s → o = []
theorem Kd.Elems.pure (hp : dk.Pure) {w : World} {cs xs oo ss} (h : Kd.Elems dk w cs xs oo ss) : oo = [] := by
  induction h with
  | nil => rfl
  | cons h _ ih => rw [hp _ _ _ _ _ h, ih]; rfl
theorem slo {t e sz n c i : Nat} {bb : Bool} {x y : Operand} {A : Option Addr} (he : look X.T.elem t = some e) (hn : look X.T.size e = some (sz, bb)) (ho : o.op = .slice t x (some y) none none) (hx : ev l x = some (.slice A n c)) (hy : ev l y = some (.int .i64 (i : Int))) (hi : i ≤ n) (hc : n ≤ c) :
    Ev X o l G (.slice (if c = i then A else A.map (·.add (i * sz))) (n - i) (c - i)) := fun a w hk _ => by
  unfold execOp
  have h1 := run_underlying (Tab.elemOk X.ok he) w
  obtain ⟨_, j, _, _, hj, hjs⟩ := Tab.sizeOk X.ok hn
  have h2 : (sizeOf e).run X.P w = .ok sz w := by simp [sizeOf, typeInfo, hj, hjs]
  have h3 := run_sliceBound (P := X.P) w .i64 (i : Int) n .sliceB (by omega) (by omega)
  simp only [Int.toNat_natCast] at h3
  simp [ho, hk.ev hx, hk.ev hy, Instr.sliceAt, Instr.slice, h1, h2, h3, Instr.sliceBounds]
theorem shi {t e sz n c i : Nat} {bb : Bool} {x y : Operand} {A : Option Addr} (he : look X.T.elem t = some e) (hn : look X.T.size e = some (sz, bb)) (ho : o.op = .slice t x none (some y) none) (hx : ev l x = some (.slice A n c)) (hy : ev l y = some (.int .i64 (i : Int))) (hc : i ≤ c) :
    Ev X o l G (.slice A i c) := fun a w hk _ => by
  unfold execOp
  have h1 := run_underlying (Tab.elemOk X.ok he) w
  obtain ⟨_, j, _, _, hj, hjs⟩ := Tab.sizeOk X.ok hn
  have h2 : (sizeOf e).run X.P w = .ok sz w := by simp [sizeOf, typeInfo, hj, hjs]
  have h3 := run_sliceBound (P := X.P) w .i64 (i : Int) c .sliceAcap (by omega) (by omega)
  simp only [Int.toNat_natCast] at h3
  have e0 : A.map (fun x => x.add 0) = A := by cases A <;> simp [Addr.add]
  simp [ho, hk.ev hx, hk.ev hy, Instr.sliceAt, Instr.slice, h1, h2, h3, Instr.sliceBounds, e0]
theorem Kd.Elems.cut {w : World} : ∀ (i : Nat) {cs : List Value} {xs : List α} {ss : List Nat}, Kd.Elems dk w cs xs [] ss → i ≤ xs.length → ∃ s3, (∀ q ∈ s3, q ∈ ss) ∧ Kd.Elems dk w (cs.take (i * dk.sz)) (xs.take i) [] s3 := by
  intro i cs xs ss hE
  generalize hoo : ([] : List Nat) = oo at hE
  induction hE generalizing i with
  | nil => intro _; exact ⟨[], by simp, by simpa [hoo.symm] using Kd.Elems.nil⟩
  | cons h hh ih =>
    rename_i c0 cs0 x0 xs0 oa ob sa sb
    obtain ⟨rfl, rfl⟩ := List.append_eq_nil_iff.1 hoo.symm
    intro hle
    cases i with
    | zero => exact ⟨[], by simp, by simpa using Kd.Elems.nil⟩
    | succ i =>
      obtain ⟨s3, h3, h4⟩ := ih i rfl (by simpa using hle)
      have hl := dk.len h
      refine ⟨sa ++ s3, fun q hq => ?_, ?_⟩
      · rcases List.mem_append.1 hq with hq | hq
        · exact List.mem_append_left _ hq
        · exact List.mem_append_right _ (h3 q hq)
      · have e1 : (c0 ++ cs0).take ((i + 1) * dk.sz) = c0 ++ cs0.take (i * dk.sz) := by
          have e2 : (i + 1) * dk.sz = c0.length + i * dk.sz := by rw [Nat.add_mul, hl]; omega
          rw [e2, List.take_length_add_append]
        rw [e1, List.take_succ_cons]
        exact Kd.Elems.cons h h4
theorem zero_flat (zs : List Value) (hp : 0 < zs.length) (n : Nat) : (Builtin.zeroCells zs.toArray n).toList = (List.replicate n zs).flatten := by
  apply List.ext_getElem
  · simp [Builtin.zeroCells]
  · intro j k1 k2
    have hj : j < n * zs.length := by simpa [Builtin.zeroCells] using k1
    have hmod : j % zs.length < zs.length := Nat.mod_lt _ hp
    have hg : ∀ (m j : Nat), j < m * zs.length → (List.replicate m zs).flatten[j]? = zs[j % zs.length]? := by
      intro m
      induction m with
      | zero => intro j hj; omega
      | succ m ih =>
        intro j hj
        rw [List.replicate_succ, List.flatten_cons]
        by_cases hjl : j < zs.length
        · rw [List.getElem?_append_left hjl, Nat.mod_eq_of_lt hjl]
        · rw [List.getElem?_append_right (by omega), ih _ (by rw [Nat.add_mul] at hj; omega)]
          congr 1
          exact (Nat.mod_eq_sub_mod (by omega)).symm
    have h4 := hg n j hj
    rw [List.getElem?_eq_getElem k2, List.getElem?_eq_getElem hmod] at h4
    simp only [Option.some.injEq] at h4
    rw [h4]
    simp [Builtin.zeroCells, hmod]
theorem rcut (i : Nat) {e n c b : Nat} {xs : List α} {o1 s1 : List Nat} (hpu : dk.Pure) (hi : i ≤ n) (h : ∀ o3 s3, (∀ q ∈ s3, q ∈ s1) → SK X K l (dat (Kd.row e dk) [.slice (some ⟨b, 0, none⟩) i c] (xs.take i) o3 s3 :: G)) :
    SK X K l (dat (Kd.row e dk) [.slice (some ⟨b, 0, none⟩) n c] xs o1 s1 :: G) := fun a w hk hs => by
  have hR : (Kd.row e dk).Rel w [.slice (some ⟨b, 0, none⟩) n c] xs o1 s1 := hs.holds (dat (Kd.row e dk) _ xs o1 s1) (by simp)
  obtain ⟨cur, o', rfl, hgb, hln, hnc, hcm, hz, he⟩ := Kd.row_inv hR
  have ho' := he.pure hpu
  subst ho'
  obtain ⟨s3, h3, h4⟩ := Kd.Elems.cut i he (by omega)
  have hle : i * dk.sz ≤ n * dk.sz := Nat.mul_le_mul_right _ hi
  rw [List.take_take, Nat.min_eq_left hle] at h4
  have hR' : (Kd.row e dk).Rel w [.slice (some ⟨b, 0, none⟩) i c] (xs.take i) [b] s3 := Kd.row_mk hgb (by simp; omega) (by omega) hcm.1 (by omega) hz h4
  have hu := hs.uniq (dat (Kd.row e dk) [.slice (some ⟨b, 0, none⟩) n c] xs [b] s1) (by simp)
  refine h [b] s3 h3 a w hk (hs.swap (As := [dat (Kd.row e dk) [.slice (some ⟨b, 0, none⟩) n c] xs [b] s1]) (Bs := [dat (Kd.row e dk) [.slice (some ⟨b, 0, none⟩) i c] (xs.take i) [b] s3]) (.refl _ _) ?_ ?_ ?_ ?_ (by simp))
  · intro B hB; rw [List.mem_singleton] at hB; subst hB; exact hR'
  · intro B hB q hq; rw [List.mem_singleton] at hB; subst hB; exact .inl (by simpa [owns, dat] using hq)
  · intro B hB q hq; rw [List.mem_singleton] at hB; subst hB; exact .inl ⟨_, List.mem_singleton_self _, .inr (h3 q hq)⟩
  · intro B hB; rw [List.mem_singleton] at hB; subst hB; exact ⟨hu.1, fun q hq hx => hu.2 q hq (h3 q hx)⟩
theorem clr (i : Nat) {z : α} {zv : Value} {zs : List Value} {t e by_ n c b : Nat} {xs : List α} {o1 s1 : List Nat} {x : Operand} {ty : TypeId} {ps : String} {af : Array Edge} {ts : Array TypeId} (hpu : dk.Pure) (he : look X.T.elem t = some e) (hi : (X.P.info? e).map (fun i => (i.zero, i.size, i.bytes)) = some (some zv, dk.sz, by_)) (hzc : zv.cells = zs.toArray) (hz : ∀ w, dk.Rel w zs z [] []) (hpos : 0 < dk.sz)
    (hts : ts = #[t]) (hx : ev l x = some (.slice (if c = i then some ⟨b, 0, none⟩ else (some (⟨b, 0, none⟩ : Addr)).map (·.add (i * dk.sz))) (n - i) (c - i))) (hin : i ≤ n)
    (h : ∀ xs' o3 s3, xs'.take i = xs.take i → xs'.length = xs.length → (∀ q ∈ s3, q ∈ s1) → SL X ops Q r l (dat (Kd.row e dk) [.slice (some ⟨b, 0, none⟩) n c] xs' o3 s3 :: G)) :
    SL X ops Q (⟨none, .call { callee := .builtin .clear, args := #[x], argTypes := ts }, ty, ps, af, none⟩ :: r) l (dat (Kd.row e dk) [.slice (some ⟨b, 0, none⟩) n c] xs o1 s1 :: G) := fun a w hk hs => by
  subst hts
  refine wl_plain rfl fun K hK => ?_
  obtain ⟨j, hj1, hj2⟩ := Option.map_eq_some_iff.1 hi
  simp only [Prod.mk.injEq] at hj2
  obtain ⟨j1, j2, j3⟩ := hj2
  have hR : (Kd.row e dk).Rel w [.slice (some ⟨b, 0, none⟩) n c] xs o1 s1 := hs.holds (dat (Kd.row e dk) _ xs o1 s1) (by simp)
  obtain ⟨cur, o', rfl, hgb, hln, hnc, hcm, hzz, hE⟩ := Kd.row_inv hR
  have ho' := hE.pure hpu
  subst ho'
  have hut := run_underlying (Tab.elemOk X.ok he) w
  have hzl := dk.len (hz w)
  unfold Oper.wp execOp
  by_cases hni : n = i
  · subst hni
    have hrun : (Builtin.clear_ #[t] ty #[.slice (if c = n then some ⟨b, 0, none⟩ else (some (⟨b, 0, none⟩ : Addr)).map (·.add (n * dk.sz))) (n - n) (c - n)]).run X.P w = .ok (.tuple #[]) w := by
      rw [Nat.sub_self]
      split <;> simp [Builtin.clear_, hut]
    simp only [resolve, invoke, builtin, Sem.run_bind, Sem.run_pure, Result.andThen_ok, List.map_toArray, List.map_cons, List.map_nil, hk.ev hx]
    rw [hrun]
    simp only [Result.andThen_ok]
    exact hK _ _ (h xs [b] s1 rfl rfl (fun _ h => h) _ _ hk hs)
  · have hci : ¬ c = i := by omega
    have hap : (⟨b, 0, none⟩ : Addr).add (i * dk.sz) = ⟨b, i * dk.sz, none⟩ := by unfold Addr.add; split <;> simp_all
    have hlz : (Builtin.zeroCells zv.cells (n - i)).toList.length = (n - i) * dk.sz := by rw [Array.length_toList, size_zeroCells, hzc]; simp [hzl]
    have hle : n * dk.sz ≤ c * dk.sz := Nat.mul_le_mul_right _ hnc
    have hsum : i * dk.sz + (n - i) * dk.sz = n * dk.sz := by rw [← Nat.add_mul]; congr 1; omega
    have hone : ∀ v ∈ (Builtin.zeroCells zv.cells (n - i)).toList, v.oneCell' = true := by
      rw [hzc, zero_flat zs (by omega)]
      intro v hv
      obtain ⟨l', hl', hv'⟩ := List.mem_flatten.1 hv
      rw [List.eq_of_mem_replicate hl'] at hv'
      exact dk.one (hz w) v hv'
    have hst := run_storeCells_at X.P b (i * dk.sz) e (Builtin.zeroCells zv.cells (n - i)).toList 0 cur w hgb (by rw [hlz]; omega) hone
    have hrun : (Builtin.clear_ #[t] ty #[.slice (if c = i then some ⟨b, 0, none⟩ else (some (⟨b, 0, none⟩ : Addr)).map (·.add (i * dk.sz))) (n - i) (c - i)]).run X.P w =
        .ok (.tuple #[]) (w.setRow b (cur.toList.take (i * dk.sz) ++ (Builtin.zeroCells zv.cells (n - i)).toList ++ cur.toList.drop (i * dk.sz + (Builtin.zeroCells zv.cells (n - i)).toList.length)).toArray) := by
      obtain ⟨m, hm⟩ : ∃ m, n - i = m + 1 := ⟨n - i - 1, by omega⟩
      rw [if_neg hci, Option.map_some, hap]
      simp only [Nat.add_zero] at hst
      rw [hm] at hst ⊢
      simp [Builtin.clear_, hut, zeroValue, typeInfo, hj1, j1, hst]
    simp only [resolve, invoke, builtin, Sem.run_bind, Sem.run_pure, Result.andThen_ok, List.map_toArray, List.map_cons, List.map_nil, hk.ev hx]
    rw [hrun]
    simp only [Result.andThen_ok]
    obtain ⟨s3, h3, h4⟩ := Kd.Elems.cut i hE (by omega)
    have hu := hs.uniq (dat (Kd.row e dk) [.slice (some ⟨b, 0, none⟩) n c] xs [b] s1) (by simp)
    have hbs : b ∉ s1 := hu.2 b (by simp [dat])
    have hle2 : i * dk.sz ≤ n * dk.sz := Nat.mul_le_mul_right _ hin
    rw [List.take_take, Nat.min_eq_left hle2] at h4
    have hE2 : Kd.Elems dk w (cur.toList.take (i * dk.sz) ++ (Builtin.zeroCells zv.cells (n - i)).toList) (xs.take i ++ List.replicate (n - i) z) ([] ++ []) (s3 ++ []) := by
      refine h4.app ?_
      rw [hzc, zero_flat zs (by omega)]
      exact Kd.Elems.rep (hz w) (n - i)
    simp only [List.append_nil] at hE2
    have hlen : (xs.take i ++ List.replicate (n - i) z).length = n := by simp; omega
    have hl2 : (cur.toList.take (i * dk.sz) ++ (Builtin.zeroCells zv.cells (n - i)).toList).length = n * dk.sz := by rw [hE2.len, hlen]
    have hne : ∀ (cells : Array Value) (q : Nat), q ≠ b → (w.setRow b cells).heap[q]? = w.heap[q]? := fun cells q hq => setRow_other w b q _ hq
    have hR' : (Kd.row e dk).Rel (w.setRow b (cur.toList.take (i * dk.sz) ++ (Builtin.zeroCells zv.cells (n - i)).toList ++ cur.toList.drop (i * dk.sz + (Builtin.zeroCells zv.cells (n - i)).toList.length)).toArray) [.slice (some ⟨b, 0, none⟩) n c] (xs.take i ++ List.replicate (n - i) z) [b] s3 := by
      refine Kd.row_mk (setRow_heap w b cur _ e _ hgb) hlen hnc hcm.1 hcm.2 ?_ ?_
      · rw [List.size_toArray, List.length_append, hl2, List.length_drop, hlz, Array.length_toList, hzz]; omega
      · have e1 : (cur.toList.take (i * dk.sz) ++ (Builtin.zeroCells zv.cells (n - i)).toList ++ cur.toList.drop (i * dk.sz + (Builtin.zeroCells zv.cells (n - i)).toList.length)).toArray.toList.take (n * dk.sz) = cur.toList.take (i * dk.sz) ++ (Builtin.zeroCells zv.cells (n - i)).toList := by
          rw [← hl2]; exact List.take_left
        rw [e1]
        exact hE2.keep (fun _ h => by cases h) (fun q hq => hne _ q (fun e => hbs (e ▸ h3 q hq)))
    refine hK _ _ (h (xs.take i ++ List.replicate (n - i) z) [b] s3 (by rw [List.take_append_of_le_length (by simp; omega), List.take_take, Nat.min_self]) (by rw [hlen, hln]) h3 _ _ hk (hs.swap (As := [dat (Kd.row e dk) [.slice (some ⟨b, 0, none⟩) n c] xs [b] s1]) (Bs := [dat (Kd.row e dk) [.slice (some ⟨b, 0, none⟩) n c] (xs.take i ++ List.replicate (n - i) z) [b] s3]) (mod_setRow.mono (by simp [owns, dat])) ?_ ?_ ?_ ?_ (by simp)))
    · intro B hB; rw [List.mem_singleton] at hB; subst hB; exact hR'
    · intro B hB q hq; rw [List.mem_singleton] at hB; subst hB; exact .inl (by simpa [owns, dat] using hq)
    · intro B hB q hq; rw [List.mem_singleton] at hB; subst hB; exact .inl ⟨_, List.mem_singleton_self _, .inr (h3 q hq)⟩
    · intro B hB; rw [List.mem_singleton] at hB; subst hB; exact ⟨hu.1, fun q hq hx => hu.2 q hq (h3 q hx)⟩
theorem Kd.row_len {e : TypeId} {w : World} {cs : List Value} {xs : List α} {oo ss : List Nat} (h : (Kd.row e dk).Rel w cs xs oo ss) : xs.length ≤ 281474976710656 := by
  rcases h with ⟨rfl, _, _, rfl⟩ | ⟨b, c, cur, o', rfl, rfl, hb, hc, hm, hz, he⟩
  · simp
  · exact hm.2
theorem Kd.row_pos {e : TypeId} {w : World} {A : Option Addr} {n c : Nat} {xs : List α} {oo ss : List Nat} (h : (Kd.row e dk).Rel w [.slice A n c] xs oo ss) (hp : 0 < xs.length) : ∃ b, A = some ⟨b, 0, none⟩ := by
  rcases h with ⟨rfl, _, _, hh⟩ | ⟨b, c, cur, o', hh, rfl, hb, hc, hm, hz, he⟩
  · simp at hp
  · simp at hh; exact ⟨b, hh.1⟩
theorem Kd.row_cap {e : TypeId} {w : World} {A : Option Addr} {n c : Nat} {xs : List α} {oo ss : List Nat} (h : (Kd.row e dk).Rel w [.slice A n c] xs oo ss) : xs.length ≤ c ∧ c ≤ maxLen := by
  rcases h with ⟨rfl, _, _, hh⟩ | ⟨b, c, cur, o', hh, rfl, hb, hc, hm, hz, he⟩
  · simp at hh; simp [hh]
  · simp at hh; obtain ⟨_, _, rfl⟩ := hh; exact ⟨hc, hm.1⟩
theorem St.far {w0 w w1 : World} {A0 A : Asn} {G : List Asn} (h : St w0 w (A0 :: G)) (hm : Mod w w1 A0.own) (k : Nat) (hk : G[k]? = some A) : A.P w1 := by
  have hA := List.mem_of_getElem? hk
  have hap := (List.pairwise_cons.1 h.sep).1 A hA
  exact A.keep w w1 hm.size (fun b hb => hm.block b (h.lt (List.mem_cons_of_mem _ hA) (.inl hb)) (fun hx => (hap.1 b hx).1 hb)) (fun b hb => hm.block b (h.lt (List.mem_cons_of_mem _ hA) (.inr hb)) (fun hx => (hap.1 b hx).2 hb)) (h.holds A (List.mem_cons_of_mem _ hA))
end
namespace Kd
variable {α β : Type}
theorem Pure.scal (enc : α → Value) (h1) : (scal enc h1).Pure := fun _ _ _ _ _ h => h.2.1
theorem Pure.i64 : Kd.i64.Pure := fun _ _ _ _ _ h => h.2.1
theorem Pure.bool : Kd.bool.Pure := fun _ _ _ _ _ h => h.2.1
theorem Pure.sl (d : Kd α) : (sl d).Pure := fun _ _ _ _ _ h => h.1
theorem Pure.via {d : Kd β} (h : d.Pure) (g : α → β) : (d.via g).Pure := fun w cs x o s hr => h w cs (g x) o s hr
theorem Pure.cat {a b : Kd α} (h : a.Pure) (k : b.Pure) : (a.cat b).Pure := by
  rintro w cs x o s ⟨c1, c2, o1, o2, s1, s2, rfl, rfl, rfl, h1, h2⟩
  rw [h _ _ _ _ _ h1, k _ _ _ _ _ h2]; rfl
end Kd
theorem take_snoc {α : Type} {l : List α} {k : Nat} {y : α} (h : l[k]? = some y) : l.take (k + 1) = l.take k ++ [y] := by
  obtain ⟨h1, rfl⟩ := List.getElem?_eq_some_iff.1 h
  exact (List.take_append_getElem h1).symm
end
section
section
variable {X : Cx} {o : Oper} {l : List (Nat × Value)} {G G1 : List Asn} {v : Value} {ops : Array Oper} {Q : Exit → Act → World → Prop} {r : List Oper} {K : Act → World → Prop} {d : Nat} {α : Type} {dk : Kd α}
theorem cmN {t t' e n c : Nat} {x y : Operand} {A : Option Addr} (he : look X.T.elem t = some e) (ho : o.op = .binOp .eql t x y t') (hx : ev l x = some (.slice A n c)) (hy : ev l y = some (.slice none 0 0)) : Ev X o l G (.bool A.isNone) := fun a w hk _ => by
  unfold execOp
  have h1 := Lib.run_eql_slice_nil (P := X.P) w t e A n c 0 0 (Tab.elemOk X.ok he)
  simp only [ho, hk.ev hx, hk.ev hy, eqGuard]
  simp [h1]
theorem Kd.sl_nil {w : World} {n c : Nat} {xs : List α} {oo ss : List Nat} (h : (Kd.sl dk).Rel w [.slice none n c] xs oo ss) : xs = [] := by
  obtain ⟨-, A, c', he, hc, hm, h2⟩ := h
  simp at he
  rcases h2 with ⟨rfl, -⟩ | ⟨b, off, el, s', hA, -⟩
  · rfl
  · rw [hA] at he; simp at he
def Kd.seen (d : Kd α) : Kd α where
  sz := d.sz
  Rel w cs x o s := o = [] ∧ ∃ o0 s0, d.Rel w cs x o0 s0 ∧ s = o0 ++ s0
  len := by rintro w cs x o s ⟨-, o0, s0, h, -⟩; exact d.len h
  one := by rintro w cs x o s ⟨-, o0, s0, h, -⟩; exact d.one h
  keep := by rintro w w' cs x o s - hs ⟨rfl, o0, s0, h, rfl⟩; exact ⟨rfl, o0, s0, d.keep hs.app.1 hs.app.2 h, rfl⟩
  lt := by
    rintro w cs x o s ⟨rfl, o0, s0, h, rfl⟩ b hb
    rcases hb with hb | hb
    · cases hb
    · exact d.lt h b (List.mem_append.1 hb)
theorem Kd.Seals.seen (d : Kd α) : Kd.Seals d (Kd.seen d) := ⟨rfl, fun w cs x o s h => ⟨o ++ s, fun b hb => List.mem_append.1 hb, rfl, o, s, h, rfl⟩⟩
theorem Kd.Elems.rest {w : World} : ∀ (i : Nat) {cs : List Value} {xs : List α} {ss : List Nat}, Kd.Elems dk w cs xs [] ss → ∃ s3, (∀ q ∈ s3, q ∈ ss) ∧ Kd.Elems dk w (cs.drop (i * dk.sz)) (xs.drop i) [] s3 := by
  intro i cs xs ss hE
  generalize hoo : ([] : List Nat) = oo at hE
  induction hE generalizing i with
  | nil => exact ⟨[], by simp, by simpa [hoo.symm] using Kd.Elems.nil⟩
  | cons h hh ih =>
    rename_i c0 cs0 x0 xs0 oa ob sa sb
    obtain ⟨rfl, rfl⟩ := List.append_eq_nil_iff.1 hoo.symm
    cases i with
    | zero => exact ⟨_, fun q h => h, by simpa using Kd.Elems.cons h hh⟩
    | succ i =>
      obtain ⟨s3, h3, h4⟩ := ih i rfl
      have hl := dk.len h
      refine ⟨s3, fun q hq => List.mem_append_right _ (h3 q hq), ?_⟩
      have e1 : (c0 ++ cs0).drop ((i + 1) * dk.sz) = cs0.drop (i * dk.sz) := by
        have e2 : (i + 1) * dk.sz = c0.length + i * dk.sz := by rw [Nat.add_mul, hl]; omega
        rw [e2, List.drop_length_add_append]
      rw [e1, List.drop_succ_cons]
      exact h4
def From (dk : Kd α) (w : World) (A : Option Addr) (ys : List α) (F : List Nat) : Prop := ∃ news s2, Kd.Elems dk w news ys [] s2 ∧ (∃ a, A = some a ∧ ∀ j u, news[j]? = some u → w.cell? (a.add j) = some u) ∧ ∀ q ∈ s2, q ∈ F
theorem from_row (i k : Nat) {e n c b : Nat} {w : World} {xs : List α} {oo ss : List Nat} (hpu : dk.Pure) (h : (Kd.row e dk).Rel w [.slice (some ⟨b, 0, none⟩) n c] xs oo ss) (hi : i < c) (hk : i + k ≤ n) :
    From dk w (if c = i then some ⟨b, 0, none⟩ else (some (⟨b, 0, none⟩ : Addr)).map (·.add (i * dk.sz))) ((xs.drop i).take k) ss := by
  obtain ⟨cur, o', rfl, hgb, hln, hnc, hcm, hz, he⟩ := Kd.row_inv h
  have ho' := he.pure hpu
  subst ho'
  obtain ⟨s3, h3, h4⟩ := Kd.Elems.rest i he
  obtain ⟨s4, h5, h6⟩ := Kd.Elems.cut k h4 (by simp; omega)
  rw [if_neg (by omega)]
  refine ⟨_, s4, h6, ⟨_, rfl, fun j u hj => ?_⟩, fun q hq => h3 q (h5 q hq)⟩
  rw [List.getElem?_take] at hj
  split at hj
  · rw [List.getElem?_drop, List.getElem?_take] at hj
    split at hj
    · have e2 : ((⟨b, 0, none⟩ : Addr).add (i * dk.sz)).add j = ⟨b, i * dk.sz + j, none⟩ := by
        rw [add_at (p := ⟨b, 0, none⟩) rfl]; simp
      rw [e2]
      simp only [World.cell?, hgb]
      simpa using hj
    · cases hj
  · cases hj
theorem from_seen {e m c : Nat} {A : Option Addr} {w : World} {xs : List α} {ss : List Nat} (hpu : dk.Pure) (hpos : 0 < dk.sz) (h : (Kd.seen (Kd.row e dk)).Rel w [.slice A m c] xs [] ss) (hm : 0 < xs.length) : From dk w A xs ss := by
  obtain ⟨-, o0, s0, h, rfl⟩ := h
  obtain ⟨b, rfl⟩ := Kd.row_pos h hm
  obtain ⟨hl, news, o', hE, hS, hoo, -⟩ := Kd.row_src h hpos
  have ho' := hE.pure hpu
  subst ho'
  refine ⟨news, s0, hE, ?_, fun q hq => List.mem_append_right _ hq⟩
  rcases hS with hS | hS
  · subst hS
    have := hE.len
    have := Nat.mul_pos hm hpos
    simp at * <;> omega
  · exact hS
theorem run_copy {P : Program} {w : World} {dT sT ty e b off dl dc sl sc k size : Nat} {a : Addr} {cur : Array Value} {news : List Value} {tt : TypeId} (hu : P.underlying dT = some (.slice e)) (hs : ∀ w, (sizeOf e).run P w = .ok size w) (hk : Nat.min sl dl = k) (hg : w.heap[b]? = some (.cells cur tt (0, 0)))
    (hl : news.length = k * size) (hnews : ∀ j u, news[j]? = some u → w.cell? (a.add j) = some u) (h1 : ∀ u ∈ news, u.oneCell' = true) (hfit : off + news.length ≤ cur.size) :
    (Builtin.copy_ #[dT, sT] ty #[.slice (some ⟨b, off, none⟩) dl dc, .slice (some a) sl sc]).run P w = .ok (.int .i64 k) (w.setRow b (splice cur.toList off news).toArray) := by
  have hf := run_firstCells_some (P := P) w size k a sl sc news hl hnews
  have hst := run_storeCells_at P b off tt news 0 cur w hg (by simpa using hfit) h1
  simp only [Nat.add_zero] at hst
  simp only [Builtin.copy_]
  simp [run_underlying hu, Builtin.lenOf, hk, hs, hf, hst, goInt, splice]
theorem cpr (i k n2 : Nat) (F : List Nat) {t tx e n c b dl dc sl sc : Nat} {bb : Bool} {x y : Operand} {A2 : Option Addr} {xs ys : List α} {o1 s1 : List Nat} {ty : TypeId} {ps : String} {af : Array Edge} {ts : Array TypeId} (hpu : dk.Pure) (he : look X.T.elem t = some e) (hn : look X.T.size e = some (dk.sz, bb))
    (hts : ts = #[t, tx]) (hx : ev l x = some (.slice (if c = i then some ⟨b, 0, none⟩ else (some (⟨b, 0, none⟩ : Addr)).map (·.add (i * dk.sz))) dl dc)) (hy : ev l y = some (.slice A2 sl sc))
    (hk : Nat.min sl dl = k) (hys : ys.length = k) (hi : i ≤ n) (hic : i < c) (hikc : i + k ≤ c) (hn2 : n2 = max n (i + k)) (hn2m : n2 ≤ 281474976710656)
    (hF : ∀ w, St X.w0 w (dat (Kd.row e dk) [.slice (some ⟨b, 0, none⟩) n c] xs o1 s1 :: G) → From dk w A2 ys F)
    (hS : ∀ q ∈ F, ∃ A ∈ dat (Kd.row e dk) [.slice (some ⟨b, 0, none⟩) n c] xs o1 s1 :: G, q ∈ A.see)
    (hp : d < X.N)
    (h : ∀ o3 s3, (∀ q ∈ s3, q ∈ s1 ∨ q ∈ F) → SL X ops Q r ((d, .int .i64 (k : Int)) :: l) (dat (Kd.row e dk) [.slice (some ⟨b, 0, none⟩) n2 c] (xs.take i ++ ys ++ xs.drop (i + k)) o3 s3 :: G)) :
    SL X ops Q (⟨some d, .call { callee := .builtin .copy, args := #[x, y], argTypes := ts }, ty, ps, af, none⟩ :: r) l (dat (Kd.row e dk) [.slice (some ⟨b, 0, none⟩) n c] xs o1 s1 :: G) := fun a w hk' hs => by
  subst hts
  refine wl_plain rfl fun K hK => ?_
  have hR : (Kd.row e dk).Rel w [.slice (some ⟨b, 0, none⟩) n c] xs o1 s1 := hs.holds (dat (Kd.row e dk) _ xs o1 s1) (by simp)
  obtain ⟨cur, o', rfl, hgb, hln, hnc, hcm, hzz, hE⟩ := Kd.row_inv hR
  have ho' := hE.pure hpu
  subst ho'
  obtain ⟨news, s2, hE2, ⟨a2, rfl, hnews⟩, hs2⟩ := hF w hs
  have hnl := hE2.len
  obtain ⟨_, jj, _, _, hj, hjs⟩ := Tab.sizeOk X.ok hn
  have hso : ∀ w, (sizeOf e).run X.P w = .ok dk.sz w := fun w => by simp [sizeOf, typeInfo, hj, hjs]
  have hap : (⟨b, 0, none⟩ : Addr).add (i * dk.sz) = ⟨b, i * dk.sz, none⟩ := by unfold Addr.add; split <;> simp_all
  have hle : i * dk.sz + k * dk.sz ≤ c * dk.sz := by rw [← Nat.add_mul]; exact Nat.mul_le_mul_right _ hikc
  have hrun := run_copy (P := X.P) (dT := t) (sT := tx) (ty := ty) (dl := dl) (dc := dc) (sl := sl) (sc := sc) (Tab.elemOk X.ok he) hso hk hgb (off := i * dk.sz) (by rw [hnl, hys]) hnews hE2.one (by rw [hnl, hys, hzz]; exact hle)
  unfold Oper.wp execOp
  simp only [resolve, invoke, builtin, Sem.run_bind, Sem.run_pure, Result.andThen_ok, List.map_toArray, List.map_cons, List.map_nil, hk'.ev hx, hk'.ev hy, if_neg (show ¬ c = i by omega), Option.map_some, hap]
  rw [hrun]
  simp only [Result.andThen_ok]
  obtain ⟨s3, h3, h4⟩ := Kd.Elems.cut i hE (by omega)
  obtain ⟨s4, h5, h6⟩ := Kd.Elems.rest (i + k) hE
  have hu := hs.uniq (dat (Kd.row e dk) [.slice (some ⟨b, 0, none⟩) n c] xs [b] s1) (by simp)
  have hbs : b ∉ s1 := hu.2 b (by simp [dat])
  have hsF : ∀ q ∈ F, q ≠ b := fun q hq e => by
    subst e
    obtain ⟨A, hA, hqA⟩ := hS q hq
    rcases List.mem_cons.1 hA with rfl | hA
    · exact hbs hqA
    · exact ((List.pairwise_cons.1 hs.sep).1 A hA).1 q (by simp [dat]) |>.2 hqA
  have hle2 : i * dk.sz ≤ n * dk.sz := Nat.mul_le_mul_right _ hi
  rw [List.take_take, Nat.min_eq_left hle2] at h4
  have hEl : Kd.Elems dk w (cur.toList.take (i * dk.sz) ++ news ++ (cur.toList.take (n * dk.sz)).drop ((i + k) * dk.sz)) (xs.take i ++ ys ++ xs.drop (i + k)) ([] ++ [] ++ []) (s3 ++ s2 ++ s4) := (h4.app hE2).app h6
  simp only [List.append_nil] at hEl
  have hxl : (xs.take i ++ ys ++ xs.drop (i + k)).length = n2 := by simp [hys, hln]; omega
  have hEll := hEl.len
  rw [hxl] at hEll
  have hlc : cur.toList.length = c * dk.sz := by rw [Array.length_toList, hzz]
  have hn2c : n2 ≤ c := by omega
  have hle3 : n * dk.sz ≤ c * dk.sz := Nat.mul_le_mul_right _ hnc
  have htk : (splice cur.toList (i * dk.sz) news).toArray.toList.take (n2 * dk.sz) = cur.toList.take (i * dk.sz) ++ news ++ (cur.toList.take (n * dk.sz)).drop ((i + k) * dk.sz) := by
    have e1 : (cur.toList.take (i * dk.sz) ++ news).length = (i + k) * dk.sz := by rw [List.length_append, List.length_take, hnl, hys, Nat.add_mul]; omega
    have e2 : (i * dk.sz + news.length) = (i + k) * dk.sz := by rw [hnl, hys, Nat.add_mul]
    simp only [splice, e2]
    rw [List.take_append, e1, List.take_of_length_le (l := cur.toList.take (i * dk.sz) ++ news) (by rw [e1]; exact Nat.mul_le_mul_right _ (by omega))]
    congr 1
    rw [List.drop_take, ← Nat.sub_mul, ← Nat.sub_mul]
    by_cases hcase : i + k ≤ n
    · have : n2 = n := by omega
      rw [this]
    · have e3 : n2 - (i + k) = 0 := by omega
      have e4 : n - (i + k) = 0 := by omega
      rw [e3, e4]
  have hs3 : ∀ q ∈ s3 ++ s2 ++ s4, q ∈ s1 ∨ q ∈ F := fun q hq => by
    rcases List.mem_append.1 hq with hq | hq
    · rcases List.mem_append.1 hq with hq | hq
      · exact .inl (h3 q hq)
      · exact .inr (hs2 q hq)
    · exact .inl (h5 q hq)
  have hnb : ∀ q ∈ s3 ++ s2 ++ s4, q ≠ b := fun q hq e => by
    rcases hs3 q hq with h | h
    · exact hbs (e ▸ h)
    · exact hsF q h e
  have hR' : (Kd.row e dk).Rel (w.setRow b (splice cur.toList (i * dk.sz) news).toArray) [.slice (some ⟨b, 0, none⟩) n2 c] (xs.take i ++ ys ++ xs.drop (i + k)) [b] (s3 ++ s2 ++ s4) := by
    refine Kd.row_mk (setRow_heap w b cur _ e _ hgb) hxl hn2c hcm.1 hn2m ?_ ?_
    · rw [List.size_toArray, Kd.length_splice (by rw [hnl, hys, hlc]; exact hle), hlc]
    · rw [htk]
      exact hEl.keep (fun _ h => by cases h) (fun q hq => setRow_other w b q _ (hnb q hq))
  suffices hS' : St X.w0 (w.setRow b (splice cur.toList (i * dk.sz) news).toArray) (dat (Kd.row e dk) [.slice (some ⟨b, 0, none⟩) n2 c] (xs.take i ++ ys ++ xs.drop (i + k)) [b] (s3 ++ s2 ++ s4) :: G) from
    hK _ _ (h [b] (s3 ++ s2 ++ s4) hs3 _ _ (hk'.put _ hp) hS')
  refine hs.swap' (As := [dat (Kd.row e dk) [.slice (some ⟨b, 0, none⟩) n c] xs [b] s1]) (Bs := [dat (Kd.row e dk) [.slice (some ⟨b, 0, none⟩) n2 c] (xs.take i ++ ys ++ xs.drop (i + k)) [b] (s3 ++ s2 ++ s4)]) (mod_setRow.mono (by simp [owns, dat])) ?_ ?_ ?_ ?_ (by simp)
  · intro B hB; rw [List.mem_singleton] at hB; subst hB; exact hR'
  · intro B hB q hq; rw [List.mem_singleton] at hB; subst hB; exact .inl (by simpa [owns, dat] using hq)
  · intro B hB q hq; rw [List.mem_singleton] at hB; subst hB
    rcases hs3 q hq with h | h
    · exact .inl ⟨_, List.mem_cons_self .., h⟩
    · exact .inl (hS q h)
  · intro B hB; rw [List.mem_singleton] at hB; subst hB
    refine ⟨hu.1, fun q hq hx => ?_⟩
    rw [show q = b by simpa [dat] using hq] at hx
    exact hnb b hx rfl
end
end
section
section
variable {X : Cx} {o : Oper} {l : List (Nat × Value)} {G G1 : List Asn} {v : Value} {ops : Array Oper} {Q : Exit → Act → World → Prop} {r : List Oper} {K : Act → World → Prop} {d : Nat} {α : Type} {dk : Kd α}
theorem run_append_made {P : Program} (w : World) (t ti ty e : TypeId) (i : TypeInfo) (z : Value) (ht : P.underlying t = some (.slice e)) (hti : P.underlying ti = some (.int .i64)) (hi : P.info? e = some i) (hz : i.zero = some z)
    (b : Addr) (sLen sCap n : Nat) (olds : List Value) (hlo : olds.length = sLen * i.size) (holds : ∀ j v, olds[j]? = some v → w.cell? (b.add j) = some v) (hsz : 0 < i.size) (hn0 : 0 < n) (hn : n ≤ 281474976710656) (hnb : n * i.bytes ≤ 281474976710656)
    (hg : sCap < sLen + n) (h63 : ((sLen + n : Nat) : Int) ≤ 9223372036854775807) (hfit : Builtin.nextslicecap (sLen + n) sCap * i.bytes ≤ 281474976710656) :
    (Builtin.append_ #[t, ti] ty #[.slice (some b) sLen sCap, .int .i64 (n : Int)]).run P w =
      .ok (.slice (some ⟨w.heap.size, 0, none⟩) (sLen + n) (grownCap w (sLen + n) sCap e))
        (w.drew.alloc (.cells (olds.toArray ++ Builtin.zeroCells z.cells n ++ Builtin.zeroCells z.cells (grownCap w (sLen + n) sCap e - (sLen + n))) e)) := by
  have h1 : ¬ (sLen + n ≤ sCap) := by omega
  have h63' : ¬ (9223372036854775807 < ((sLen : Int) + (n : Int))) := by omega
  have h48' : ¬ (281474976710656 < Builtin.nextslicecap (sLen + n) sCap * i.bytes) := by omega
  have hfo := run_firstCells_some (P := P) w.drew i.size sLen b sLen sCap olds hlo (by simpa using holds)
  have hwr : IntKind.i64.wrap (n : Int) = (n : Int) := wr (by omega) (by omega)
  have hng : ¬ ((n : Int) < 0) := by omega
  have hnb' : ¬ ((281474976710656 : Int) < (n : Int) * (i.bytes : Int)) := by
    have : ((n * i.bytes : Nat) : Int) ≤ 281474976710656 := by omega
    rw [Int.natCast_mul] at this; omega
  have hns : ¬ (n = 0 ∨ i.size = 0) := by omega
  simp [Builtin.append_, run_underlying ht, run_underlying hti, sizeOf, typeInfo, zeroValue, hi, hz, h1, h63', h48', Question.forced, hfo, newRow, grownCap, asInt, asIntOf, hwr, hng, hnb']
  intro h0
  have := Nat.mul_pos hn0 hsz
  omega
theorem apm (i m : Nat) {z : α} {zv : Value} {zs : List Value} {t ti e by_ n c b : Nat} {x y : Operand} {xs : List α} {o1 s1 : List Nat} (hpu : dk.Pure) (he : look X.T.elem t = some e) (hti : X.P.underlying ti = some (.int .i64)) (hi : (X.P.info? e).map (fun i => (i.zero, i.size, i.bytes)) = some (some zv, dk.sz, by_)) (hzc : zv.cells = zs.toArray) (hz : ∀ w, dk.Rel w zs z [] []) (hpos : 0 < dk.sz)
    (ho : o.op = .call { callee := .builtin .append, args := #[x, y], argTypes := #[t, ti] }) (hx : ev l x = some (.slice (some ⟨b, 0, none⟩) i c)) (hy : ev l y = some (.int .i64 (m : Int))) (hm0 : 0 < m) (hin : i ≤ n) (hc : c < i + m) (hb : (i + m) * by_ ≤ 140737488355328) (hn : i + m ≤ 281474976710656) (hp : pl X.N o = some d)
    (h : ∀ b2 c2 s3, i + m ≤ c2 → (∀ q ∈ s3, q ∈ s1) → SL X ops Q r ((d, .slice (some ⟨b2, 0, none⟩) (i + m) c2) :: l) (dat (Kd.row e dk) [.slice (some ⟨b2, 0, none⟩) (i + m) c2] (xs.take i ++ List.replicate m z) [b2] s3 :: dat (Kd.row e dk) [.slice (some ⟨b, 0, none⟩) n c] xs o1 s1 :: G)) :
    SL X ops Q (o :: r) l (dat (Kd.row e dk) [.slice (some ⟨b, 0, none⟩) n c] xs o1 s1 :: G) := fun a w hk hs => by
  obtain ⟨hd, hN, hg⟩ := pl_spec hp
  refine wl_plain hg fun K hK => ?_
  obtain ⟨j, hj1, hj2⟩ := Option.map_eq_some_iff.1 hi
  simp only [Prod.mk.injEq] at hj2
  obtain ⟨j1, j2, j3⟩ := hj2
  have hR : (Kd.row e dk).Rel w [.slice (some ⟨b, 0, none⟩) n c] xs o1 s1 := hs.holds (dat (Kd.row e dk) _ xs o1 s1) (by simp)
  obtain ⟨cur, o', rfl, hgb, hln, hnc, hcm, hzz, hE⟩ := Kd.row_inv hR
  have ho' := hE.pure hpu
  subst ho'
  obtain ⟨s3, h3, h4⟩ := Kd.Elems.cut i hE (by omega)
  have hle2 : i * dk.sz ≤ n * dk.sz := Nat.mul_le_mul_right _ hin
  have hle3 : n * dk.sz ≤ c * dk.sz := Nat.mul_le_mul_right _ hnc
  rw [List.take_take, Nat.min_eq_left hle2] at h4
  have hzl := dk.len (hz w)
  have hlo : (cur.toList.take (i * dk.sz)).length = i * dk.sz := by rw [List.length_take, Array.length_toList, hzz]; omega
  have hby : m * by_ ≤ 140737488355328 := Nat.le_trans (Nat.mul_le_mul_right _ (Nat.le_add_left m i)) hb
  have hrun := run_append_made (P := X.P) w t ti o.type e j zv (Tab.elemOk X.ok he) hti hj1 j1 ⟨b, 0, none⟩ i c m (cur.toList.take (i * dk.sz)) (by rw [j2]; exact hlo) (fun jj u hj => by
    rw [List.getElem?_take] at hj
    split at hj
    · have e1 : (⟨b, 0, none⟩ : Addr).add jj = ⟨b, jj, none⟩ := by unfold Addr.add; split <;> simp_all
      rw [e1]
      simp only [World.cell?, hgb]
      simpa using hj
    · cases hj) (by omega) hm0 (by omega) (by rw [j3]; omega) hc (by omega) (by rw [j3]; exact growslice_fits (by omega) hb)
  unfold Oper.wp execOp
  simp only [ho, resolve, invoke, builtin, Sem.run_bind, Sem.run_pure, Result.andThen_ok, List.map_toArray, List.map_cons, List.map_nil, hk.ev hx, hk.ev hy]
  rw [hrun]
  simp only [Result.andThen_ok]
  have hge := grownCap_ge w (i + m) c e
  have hB : Below w.heap.size w (w.drew.alloc (.cells ((cur.toList.take (i * dk.sz)).toArray ++ Builtin.zeroCells zv.cells m ++ Builtin.zeroCells zv.cells (grownCap w (i + m) c e - (i + m))) e)) := ((Below.refl _ w).drew).alloc (Nat.le_refl _) _
  have hE2 : Kd.Elems dk w (cur.toList.take (i * dk.sz) ++ (Builtin.zeroCells zv.cells m).toList) (xs.take i ++ List.replicate m z) ([] ++ []) (s3 ++ []) := by
    refine h4.app ?_
    rw [hzc, zero_flat zs (by omega)]
    exact Kd.Elems.rep (hz w) m
  simp only [List.append_nil] at hE2
  have hxl : (xs.take i ++ List.replicate m z).length = i + m := by simp; omega
  have hEl := hE2.len
  rw [hxl] at hEl
  have hlt := hE2.lt
  have hR' : (Kd.row e dk).Rel (w.drew.alloc (.cells ((cur.toList.take (i * dk.sz)).toArray ++ Builtin.zeroCells zv.cells m ++ Builtin.zeroCells zv.cells (grownCap w (i + m) c e - (i + m))) e)) [.slice (some ⟨w.heap.size, 0, none⟩) (i + m) (grownCap w (i + m) c e)] (xs.take i ++ List.replicate m z) [w.heap.size] s3 := by
    refine Kd.row_mk (heap_alloc_new w.drew _) hxl hge (grownCap_le_maxLen w (i + m) c e (by simp only [maxLen]; omega)) hn ?_ ?_
    · simp only [Array.size_append, List.size_toArray, size_zeroCells, hzc, hzl, hlo, ← Nat.add_mul]
      congr 1
      omega
    · have e1 : ((cur.toList.take (i * dk.sz)).toArray ++ Builtin.zeroCells zv.cells m ++ Builtin.zeroCells zv.cells (grownCap w (i + m) c e - (i + m))).toList.take ((i + m) * dk.sz) = cur.toList.take (i * dk.sz) ++ (Builtin.zeroCells zv.cells m).toList := by
        simp only [Array.toList_append, List.append_assoc]
        rw [← List.append_assoc, ← hEl]
        exact List.take_left
      rw [e1]
      exact hE2.keep (fun _ h => by cases h) (fun q hq => hB.block q (hlt q (.inr hq)))
  have key : ∀ B ∈ dat (Kd.row e dk) [.slice (some ⟨b, 0, none⟩) n c] xs [b] s1 :: G, ∀ q ∈ B.own, q ∉ s3 := by
    intro B hB' q hq hx'
    rcases List.mem_cons.1 hB' with rfl | hB'
    · exact (hs.uniq (dat (Kd.row e dk) [.slice (some ⟨b, 0, none⟩) n c] xs [b] s1) (by simp)).2 q hq (h3 q hx')
    · exact ((List.pairwise_cons.1 hs.sep).1 B hB').2 q hq (h3 q hx')
  suffices hS' : St X.w0 (w.drew.alloc (.cells ((cur.toList.take (i * dk.sz)).toArray ++ Builtin.zeroCells zv.cells m ++ Builtin.zeroCells zv.cells (grownCap w (i + m) c e - (i + m))) e)) (dat (Kd.row e dk) [.slice (some ⟨w.heap.size, 0, none⟩) (i + m) (grownCap w (i + m) c e)] (xs.take i ++ List.replicate m z) [w.heap.size] s3 :: dat (Kd.row e dk) [.slice (some ⟨b, 0, none⟩) n c] xs [b] s1 :: G) from
    hK _ _ (by rw [hd]; exact h w.heap.size _ s3 hge h3 _ _ (hk.put _ hN) hS')
  refine (hs.step hB).cons hR' (fun q hq => ?_) ⟨by simp [dat], fun q hq hx => ?_⟩ (fun B hB' => ⟨fun q hq => ?_, fun q hq hx => ?_⟩)
  · simp [dat] at hq; subst hq; exact hs.below.size
  · rw [show q = w.heap.size by simpa [dat] using hq] at hx
    exact Nat.lt_irrefl _ (hlt _ (.inr hx))
  · simp [dat] at hq; subst hq; exact ⟨fun hx => Nat.lt_irrefl _ (hs.lt hB' (.inl hx)), fun hx => Nat.lt_irrefl _ (hs.lt hB' (.inr hx))⟩
  · exact key B hB' q hq hx
theorem ovl {f : FuncId} {fn : Func} {t tr e n c b m c2 lb cb : Nat} {bb : Bool} {x y : Operand} {A2 : Option Addr} {ts : Array TypeId} {xs ys : List α} {o1 s1 s2 : List Nat} (i k : Nat)
    (hk2 : G[k]? = some (dat (Kd.seen (Kd.row e dk)) [.slice A2 m c2] ys [] s2)) (hf : X.P.funcs[f]? = some fn) (hname : (fn.name == "runtime.NumGoroutine") = false) (hbn : fn.body.isNone = true) (hfn : Extern.findNext fn = none) (hfe : Extern.find fn = some (Extern.SlicesOverlaps.overlaps #[t, t] #[tr]))
    (he : look X.T.elem t = some e) (hsz : look X.T.size e = some (dk.sz, bb)) (hpos : 0 < dk.sz) (ho : o.op = .call { callee := .value (.func f), args := #[x, y], argTypes := ts })
    (hx : ev l x = some (.slice A2 m c2)) (hm : 0 < ys.length) (hy : ev l y = some (.slice (if c = i then some ⟨b, 0, none⟩ else (some (⟨b, 0, none⟩ : Addr)).map (·.add (i * dk.sz))) lb cb)) (hn : 0 < c) (hp : pl X.N o = some d)
    (h : SL X ops Q r ((d, .bool false) :: l) (dat (Kd.row e dk) [.slice (some ⟨b, 0, none⟩) n c] xs o1 s1 :: G)) :
    SL X ops Q (o :: r) l (dat (Kd.row e dk) [.slice (some ⟨b, 0, none⟩) n c] xs o1 s1 :: G) := fun a w hk hs => by
  obtain ⟨hd, hN, hg⟩ := pl_spec hp
  refine wl_plain hg fun K hK => ?_
  have hR : (Kd.row e dk).Rel w [.slice (some ⟨b, 0, none⟩) n c] xs o1 s1 := hs.holds (dat (Kd.row e dk) _ xs o1 s1) (by simp)
  obtain ⟨cur, o', rfl, hgb, hln, hnc, hcm, hzz, hE⟩ := Kd.row_inv hR
  have hmem := List.mem_of_getElem? hk2
  obtain ⟨off2, hoff⟩ : ∃ off2, (if c = i then some (⟨b, 0, none⟩ : Addr) else (some (⟨b, 0, none⟩ : Addr)).map (·.add (i * dk.sz))) = some ⟨b, off2, none⟩ := by
    split
    · exact ⟨0, rfl⟩
    · refine ⟨i * dk.sz, ?_⟩
      rw [Option.map_some]
      congr 1
      unfold Addr.add; split <;> simp_all
  rw [hoff] at hy
  have hR2 : (Kd.seen (Kd.row e dk)).Rel w [.slice A2 m c2] ys [] s2 := hs.holds (dat (Kd.seen (Kd.row e dk)) [.slice A2 m c2] ys [] s2) (List.mem_cons_of_mem _ hmem)
  obtain ⟨-, o0, s0, hR2, rfl⟩ := hR2
  obtain ⟨b2, rfl⟩ := Kd.row_pos hR2 hm
  obtain ⟨cur2, o2', rfl, hgb2, hln2, hnc2, hcm2, hzz2, hE2⟩ := Kd.row_inv hR2
  have hap := (List.pairwise_cons.1 hs.sep).1 _ hmem
  have hne : b2 ≠ b := fun e => (hap.1 b (by simp [dat])).2 (by simp [dat, e])
  obtain ⟨_, jj, _, _, hj, hjs⟩ := Tab.sizeOk X.ok hsz
  have hso : ∀ w, (sizeOf e).run X.P w = .ok dk.sz w := fun w => by simp [sizeOf, typeInfo, hj, hjs]
  have hov := Lib.run_overlaps_apart (P := X.P) w t tr e (Tab.elemOk X.ok he) dk.sz hso ⟨b2, 0, none⟩ ⟨b, off2, none⟩ m c2 lb cb hne e e cur2.size cur.size (by simp [World.shape?, hgb2]) (by simp [World.shape?, hgb]) (by
    rw [hzz]; exact Nat.pos_iff_ne_zero.1 (Nat.mul_pos hn hpos)) (by simp [World.frozen?, hgb2]) (by simp [World.frozen?, hgb2])
  have hcall := run_callFunc_extern hf hname hbn hfn hfe #[.slice (some ⟨b2, 0, none⟩) m c2, .slice (some ⟨b, off2, none⟩) lb cb] w
  rw [hov] at hcall
  have e1 := hk.ev hx
  have e2 := hk.ev hy
  have hρ : a.eval (.func f) = .func (.func f) #[] #[] := rfl
  have hrun : (execOp a.eval o).run X.P w = .ok (.value (.bool false)) w := by
    unfold execOp
    simp [ho, resolve, hρ, Deferred.ofValue, invoke, e1, e2, hcall]
  unfold Oper.wp
  rw [hrun, Oper.upon_value, hd]
  exact hK _ _ (h _ _ (hk.put _ hN) hs)
theorem lc {t e : TypeId} {x : Operand} {A : Option Addr} {n c : Nat} (he : look X.T.elem t = some e) (ho : o.op = .call { callee := .builtin .cap, args := #[x], argTypes := #[t] }) (hx : ev l x = some (.slice A n c)) : Ev X o l G (.int .i64 c) := fun a w hk _ => by
  unfold execOp
  have h1 := run_underlying (Tab.elemOk X.ok he) w
  simp [ho, resolve, hk.ev hx, invoke, builtin, Builtin.cap_, h1, goInt]
theorem seen_sub {e : TypeId} (hS : Kd.Seals dk dk) : Kd.Sub (Kd.seen (Kd.row e dk)) 0 (Kd.sl dk) (fun x => x) := by
  rintro w cs x s ⟨-, o0, s0, h, rfl⟩
  obtain ⟨s', h1, h2⟩ := (Kd.Seals.row hS e).2 w cs x o0 s0 h
  refine ⟨s', fun b hb => List.mem_append.2 (h1 b hb), ?_⟩
  have := (Kd.row e dk).len h
  have e1 : (cs.drop 0).take (Kd.sl dk).sz = cs := by
    rw [List.drop_zero]
    show cs.take 1 = cs
    have h3 : cs.length = 1 := this
    rw [← h3, List.take_length]
  rw [e1]
  exact h2
end
theorem ins_end {α : Type} {l : List α} {v : α} {i : Nat} (h : i = l.length) : l ++ [v] = l.take i ++ [v] ++ l.drop i := by subst h; simp
theorem ins_grow {α : Type} {l : List α} {v z : α} {i : Nat} (h : i < l.length) :
    List.take (i + 1) (List.take i (List.take i l ++ List.replicate (l.length + 1 - i) z) ++ [v] ++ List.drop (i + 1) (List.take i l ++ List.replicate (l.length + 1 - i) z)) ++ List.take (l.length - i) (List.drop i l) ++
      List.drop (i + 1 + (l.length - i)) (List.take i (List.take i l ++ List.replicate (l.length + 1 - i) z) ++ [v] ++ List.drop (i + 1) (List.take i l ++ List.replicate (l.length + 1 - i) z)) = l.take i ++ [v] ++ l.drop i := by
  have h1 : (List.take i l).length = i := by simp; omega
  have h2 : List.take i (List.take i l ++ List.replicate (l.length + 1 - i) z) = List.take i l := by rw [List.take_append_of_le_length (by omega), List.take_take, Nat.min_self]
  rw [h2]
  have h3 : (List.take i l ++ [v]).length = i + 1 := by simp; omega
  have h4 : List.take (l.length - i) (List.drop i l) = List.drop i l := List.take_of_length_le (by simp)
  have h5 : List.drop (i + 1 + (l.length - i)) (List.take i l ++ [v] ++ List.drop (i + 1) (List.take i l ++ List.replicate (l.length + 1 - i) z)) = [] :=
    List.drop_of_length_le (by simp only [List.length_append, List.length_take, List.length_drop, List.length_replicate, List.length_cons, List.length_nil]; omega)
  have h6 : ∀ X : List α, List.take (i + 1) (List.take i l ++ [v] ++ X) = List.take i l ++ [v] := fun X => by
    rw [List.take_append_of_le_length (by omega), List.take_of_length_le (by omega)]
  rw [h5, h4, h6, List.append_nil]
theorem ins_room {α : Type} {l : List α} {v : α} {i : Nat} (h : i < l.length) :
    List.take i (List.take (i + 1) l ++ List.take (l.length - i) (List.drop i l) ++ List.drop (i + 1 + (l.length - i)) l) ++ [v] ++ List.drop (i + 1) (List.take (i + 1) l ++ List.take (l.length - i) (List.drop i l) ++ List.drop (i + 1 + (l.length - i)) l) = l.take i ++ [v] ++ l.drop i := by
  have h1 : (List.take (i + 1) l).length = i + 1 := by simp; omega
  have h4 : List.take (l.length - i) (List.drop i l) = List.drop i l := List.take_of_length_le (by simp)
  rw [h4, List.drop_of_length_le (l := l) (i := i + 1 + (l.length - i)) (by omega), List.append_nil, List.take_append_of_le_length (by omega), List.take_take, Nat.min_eq_left (by omega)]
  congr 1
  rw [List.drop_append_of_le_length (by omega), List.drop_of_length_le (l := List.take (i + 1) l) (by omega), List.nil_append]
end
section

namespace Kd
variable {α : Type} {dk : Kd α} {w : World}
theorem Elems.split : ∀ (i : Nat) {cs xs o s}, Elems dk w cs xs o s → (hi : i < xs.length) → ∃ l ci r o1 oi o2 s1 si s2, cs = l ++ ci ++ r ∧ o = o1 ++ oi ++ o2 ∧ s = s1 ++ si ++ s2 ∧
    Elems dk w l (xs.take i) o1 s1 ∧ dk.Rel w ci xs[i] oi si ∧ Elems dk w r (xs.drop (i + 1)) o2 s2 := by
  intro i cs xs o s h
  induction h generalizing i with
  | nil => intro hi; simp at hi
  | cons h hh ih =>
    rename_i c0 cs x0 xs o0 o1 s0 s1
    intro hi
    cases i with
    | zero => exact ⟨[], c0, cs, [], o0, o1, [], s0, s1, rfl, rfl, rfl, .nil, h, hh⟩
    | succ i =>
      obtain ⟨l, ci, r, oa, oi, ob, sa, si, sb, rfl, rfl, rfl, h1, h2, h3⟩ := ih i (by simpa using hi)
      exact ⟨c0 ++ l, ci, r, o0 ++ oa, oi, ob, s0 ++ sa, si, sb, by simp, by simp, by simp, .cons h h1, h2, h3⟩
end Kd
def hole {α : Type} (dk : Kd α) (e b n c i : Nat) (xs : List α) (ci : List Value) (o s : List Nat) : Asn where
  own := b :: o
  see := s
  P w := ∃ cur l r o1 o2 s1 s2, w.heap[b]? = some (.cells cur e (0, 0)) ∧ n ≤ c ∧ (c ≤ maxLen ∧ n ≤ 281474976710656) ∧ cur.size = c * dk.sz ∧ xs.length = n ∧ i < n ∧
    cur.toList.take (n * dk.sz) = l ++ ci ++ r ∧ ci.length = dk.sz ∧ Kd.Elems dk w l (xs.take i) o1 s1 ∧ Kd.Elems dk w r (xs.drop (i + 1)) o2 s2 ∧ o = o1 ++ o2 ∧ s = s1 ++ s2
  keep := by
    rintro w w' - ho hs ⟨cur, l, r, o1, o2, s1, s2, h1, h2, h3, h4, h5, h6, h7, h8, h9, h10, rfl, rfl⟩
    exact ⟨cur, l, r, o1, o2, s1, s2, ho.cons.1.trans h1, h2, h3, h4, h5, h6, h7, h8, h9.keep ho.cons.2.app.1 hs.app.1, h10.keep ho.cons.2.app.2 hs.app.2, rfl, rfl⟩
  lt := by
    rintro w ⟨cur, l, r, o1, o2, s1, s2, h1, h2, h3, h4, h5, h6, h7, h8, h9, h10, rfl, rfl⟩ q hq
    simp only [List.mem_cons, List.mem_append] at hq
    rcases hq with (rfl | hq | hq) | hq | hq
    · exact (Array.getElem?_eq_some_iff.1 h1).1
    · exact h9.lt q (.inl hq)
    · exact h10.lt q (.inl hq)
    · exact h9.lt q (.inr hq)
    · exact h10.lt q (.inr hq)
theorem pa0 {b m : Nat} : (⟨b, 0, none⟩ : Addr).add m = ⟨b, m, none⟩ := by unfold Addr.add; split <;> simp_all
theorem pa1 {b m n : Nat} : ((⟨b, 0, none⟩ : Addr).add m).add n = ⟨b, m + n, none⟩ := by
  rw [pa0]; unfold Addr.add; split <;> simp_all
section
variable {X : Cx} {o : Oper} {l : List (Nat × Value)} {G G1 : List Asn} {v : Value} {ops : Array Oper} {Q : Exit → Act → World → Prop} {r : List Oper} {K : Act → World → Prop} {d : Nat} {α : Type} {dk : Kd α}
theorem foc (i : Nat) {e n c b : Nat} {xs : List α} {o1 s1 : List Nat} (hi : i < xs.length)
    (h : ∀ y ci o' s' oi si w, xs[i]? = some y → dk.Rel w ci y oi si → (∀ q ∈ s', q ∈ s1) → (∀ q ∈ si, q ∈ s1) → SK X K l (hole dk e b n c i xs ci o' s' :: dat dk ci y oi si :: G)) :
    SK X K l (dat (Kd.row e dk) [.slice (some ⟨b, 0, none⟩) n c] xs o1 s1 :: G) := fun a w hk hs => by
  have hR : (Kd.row e dk).Rel w [.slice (some ⟨b, 0, none⟩) n c] xs o1 s1 := hs.holds (dat (Kd.row e dk) _ xs o1 s1) (by simp)
  obtain ⟨cur, o', rfl, hgb, hln, hnc, hcm, hz, he⟩ := Kd.row_inv hR
  have hu := hs.uniq (dat (Kd.row e dk) [.slice (some ⟨b, 0, none⟩) n c] xs (b :: o') s1) (by simp)
  obtain ⟨lc, ci, rc, oa, oi, ob, sa, si, sb, hcs, rfl, rfl, hl, hci, hr⟩ := Kd.Elems.split i he hi
  have hu1 : (b :: (oa ++ oi ++ ob)).Nodup := hu.1
  have hu2 : ∀ q ∈ b :: (oa ++ oi ++ ob), q ∉ sa ++ si ++ sb := hu.2
  simp only [List.nodup_cons, List.nodup_append, List.mem_append, List.mem_cons, not_or] at hu1 hu2
  refine h xs[i] ci (oa ++ ob) (sa ++ sb) oi si w (by simp [hi]) hci (by simp only [List.mem_append]; grind) (by simp only [List.mem_append]; grind) a w hk
    (hs.swap (As := [dat (Kd.row e dk) [.slice (some ⟨b, 0, none⟩) n c] xs (b :: (oa ++ oi ++ ob)) (sa ++ si ++ sb)]) (Bs := [hole dk e b n c i xs ci (oa ++ ob) (sa ++ sb), dat dk ci xs[i] oi si]) (.refl _ _) ?_ ?_ ?_ ?_ ?_)
  · intro B hB
    simp only [List.mem_cons, List.not_mem_nil, or_false] at hB
    rcases hB with rfl | rfl
    · exact ⟨cur, lc, rc, oa, ob, sa, sb, hgb, hnc, hcm, hz, hln, by omega, hcs, dk.len hci, hl, hr, rfl, rfl⟩
    · exact hci
  · intro B hB q hq
    simp only [List.mem_cons, List.not_mem_nil, or_false] at hB
    left
    simp only [owns, List.flatMap_cons, List.flatMap_nil, List.append_nil, dat, List.mem_cons, List.mem_append]
    rcases hB with rfl | rfl
    · simp only [hole, List.mem_cons, List.mem_append] at hq; grind
    · simp only [dat] at hq; grind
  · intro B hB q hq
    simp only [List.mem_cons, List.not_mem_nil, or_false] at hB
    refine .inl ⟨_, List.mem_singleton_self _, .inr ?_⟩
    simp only [dat, List.mem_append]
    rcases hB with rfl | rfl
    · simp only [hole, List.mem_append] at hq; grind
    · simp only [dat] at hq; grind
  · intro B hB
    simp only [List.mem_cons, List.not_mem_nil, or_false] at hB
    rcases hB with rfl | rfl
    · simp only [hole, List.nodup_cons, List.nodup_append, List.mem_append, List.mem_cons, not_or]; grind
    · simp only [dat]; grind
  · simp only [List.pairwise_cons, List.mem_cons, List.not_mem_nil, or_false, forall_eq, false_implies, implies_true, List.Pairwise.nil, and_true, Apart, hole, dat, List.mem_append, not_or]
    grind
theorem unf {e n c b i : Nat} {xs : List α} {y : α} {ci : List Value} {o' s' oi si : List Nat}
    (h : ∀ o3 s3, (∀ q ∈ s3, q ∈ s' ∨ q ∈ si) → SK X K l (dat (Kd.row e dk) [.slice (some ⟨b, 0, none⟩) n c] (xs.set i y) o3 s3 :: G)) :
    SK X K l (hole dk e b n c i xs ci o' s' :: dat dk ci y oi si :: G) := fun a w hk hs => by
  have hH : (hole dk e b n c i xs ci o' s').P w := hs.holds _ (by simp)
  have hD : dk.Rel w ci y oi si := hs.holds (dat dk ci y oi si) (by simp)
  obtain ⟨cur, lc, rc, oa, ob, sa, sb, hgb, hnc, hcm, hz, hln, hin, hcs, hcl, hl, hr, rfl, rfl⟩ := hH
  have hu := hs.uniq (hole dk e b n c i xs ci (oa ++ ob) (sa ++ sb)) (by simp)
  have hv := hs.uniq (dat dk ci y oi si) (by simp)
  have hap : Apart (hole dk e b n c i xs ci (oa ++ ob) (sa ++ sb)) (dat dk ci y oi si) := (List.pairwise_cons.1 hs.sep).1 _ (by simp)
  have e1 : xs.set i y = xs.take i ++ y :: xs.drop (i + 1) := by rw [List.set_eq_take_append_cons_drop, if_pos (by omega)]
  have hE : Kd.Elems dk w (cur.toList.take (n * dk.sz)) (xs.set i y) (oa ++ (oi ++ ob)) (sa ++ (si ++ sb)) := by
    rw [hcs, e1, List.append_assoc]
    exact hl.app (Kd.Elems.cons hD hr)
  have hR : (Kd.row e dk).Rel w [.slice (some ⟨b, 0, none⟩) n c] (xs.set i y) (b :: (oa ++ (oi ++ ob))) (sa ++ (si ++ sb)) := Kd.row_mk hgb (by simp [hln]) hnc hcm.1 hcm.2 hz hE
  simp only [hole, dat, List.nodup_cons, List.nodup_append, List.mem_append, List.mem_cons, not_or] at hu hv
  simp only [Apart, hole, dat, List.mem_append, List.mem_cons, not_or] at hap
  refine h _ _ (by simp only [List.mem_append]; grind) a w hk (hs.swap (As := [hole dk e b n c i xs ci (oa ++ ob) (sa ++ sb), dat dk ci y oi si]) (Bs := [dat (Kd.row e dk) [.slice (some ⟨b, 0, none⟩) n c] (xs.set i y) (b :: (oa ++ (oi ++ ob))) (sa ++ (si ++ sb))]) (.refl _ _) ?_ ?_ ?_ ?_ (by simp))
  · intro B hB; rw [List.mem_singleton] at hB; subst hB; exact hR
  · intro B hB q hq; rw [List.mem_singleton] at hB; subst hB
    left
    simp only [owns, List.flatMap_cons, List.flatMap_nil, List.append_nil, hole, dat, List.mem_cons, List.mem_append] at hq ⊢
    grind
  · intro B hB q hq; rw [List.mem_singleton] at hB; subst hB
    simp only [dat, List.mem_append] at hq
    rcases hq with hq | hq | hq
    · exact .inl ⟨hole dk e b n c i xs ci (oa ++ ob) (sa ++ sb), by simp, .inr (by simp [hole, hq])⟩
    · exact .inl ⟨dat dk ci y oi si, by simp, .inr hq⟩
    · exact .inl ⟨hole dk e b n c i xs ci (oa ++ ob) (sa ++ sb), by simp, .inr (by simp [hole, hq])⟩
  · intro B hB; rw [List.mem_singleton] at hB; subst hB
    simp only [dat, List.nodup_cons, List.nodup_append, List.mem_append, List.mem_cons, not_or]
    grind
theorem hole_cell {e n c b i : Nat} {xs : List α} {ci : List Value} {o' s' : List Nat} {w : World} (hH : (hole dk e b n c i xs ci o' s').P w) {j : Nat} {v : Value} (hj : ci[j]? = some v) : w.cell? ⟨b, i * dk.sz + j, none⟩ = some v := by
  obtain ⟨cur, lc, rc, oa, ob, sa, sb, hgb, hnc, hcm, hz, hln, hin, hcs, hcl, hl, hr, rfl, rfl⟩ := hH
  have hll := hl.len
  have h1 : (xs.take i).length = i := by simp; omega
  rw [h1] at hll
  have h2 : (cur.toList.take (n * dk.sz))[i * dk.sz + j]? = some v := by
    rw [hcs, ← hll, List.append_assoc, List.getElem?_append_right (by omega), Nat.add_sub_cancel_left, List.getElem?_append_left (List.getElem?_eq_some_iff.1 hj).1]
    exact hj
  rw [List.getElem?_take] at h2
  split at h2
  · simp only [World.cell?, hgb]; simpa using h2
  · cases h2
theorem ldh (k : Nat) {t m off : Nat} {bb : Bool} {x : Operand} {e n c b i : Nat} {xs : List α} {ci : List Value} {o' s' : List Nat} {p : Addr} {u : Value} (hk : G[k]? = some (hole dk e b n c i xs ci o' s')) (ho : o.op = .load t x) (ht : look X.T.size t = some (m, bb)) (hx : ev l x = some (.pointer (some p))) (hpa : p = ⟨b, i * dk.sz + off, none⟩)
    (hl' : Nat.ble (off + m) ci.length = true) (hb' : (bb || Nat.beq m 1) = true) (hu : (if bb then Value.agg ((ci.drop off).take m).toArray else ci.getD off undef) = u) : Ev X o l G u := by
  have hl := Nat.le_of_ble_eq_true hl'
  have hb : bb = true ∨ m = 1 := by cases bb <;> simp_all
  have h := ldv (X := X) (G := G) ((ci.drop off).take m) ho ht hx (by simp; omega) hb (fun w hs j v hv => by
    have hH : (hole dk e b n c i xs ci o' s').P w := hs.at k hk
    have e1 : p.add j = ⟨b, i * dk.sz + (off + j), none⟩ := by subst hpa; unfold Addr.add; split <;> simp_all; omega
    rw [e1]
    refine hole_cell hH ?_
    rw [List.getElem?_take] at hv
    split at hv
    · rwa [List.getElem?_drop] at hv
    · cases hv)
  subst hu
  cases bb with
  | true => exact h
  | false =>
    have hn : m = 1 := by simpa using hb
    subst hn
    have e1 : ((ci.drop off).take 1).headD undef = ci.getD off undef := head_drop (by omega)
    rw [e1] at h
    exact h
theorem sth {t m off : Nat} {bb : Bool} {x y : Operand} {e n c b i : Nat} {xs : List α} {ci ci' vs : List Value} {o' s' : List Nat} {p : Addr} {v : Value} {ty : TypeId} {ps : String} {af : Array Edge} (ht : look X.T.size t = some (m, bb)) (hx : ev l x = some (.pointer (some p))) (hpa : p = ⟨b, i * dk.sz + off, none⟩)
    (hy : ev l y = some v) (hv : v.cells = vs.toArray) (hl : vs.length = m) (hle' : Nat.ble (off + m) ci.length = true) (h1 : vs.all (·.oneCell') = true) (hc : splice ci off vs = ci')
    (h : SL X ops Q r l (hole dk e b n c i xs ci' o' s' :: G)) : SL X ops Q (⟨none, .store t x y, ty, ps, af, none⟩ :: r) l (hole dk e b n c i xs ci o' s' :: G) := fun a w hk' hs => by
  have hle := Nat.le_of_ble_eq_true hle'
  refine wl_plain rfl fun K hK => ?_
  have hH : (hole dk e b n c i xs ci o' s').P w := hs.holds _ (by simp)
  obtain ⟨cur, lc, rc, oa, ob, sa, sb, hgb, hnc, hcm, hz, hln, hin, hcs, hcl, hl1, hr1, rfl, rfl⟩ := hH
  have hll := hl1.len
  have h2 : (xs.take i).length = i := by simp; omega
  rw [h2] at hll
  have hcur : n * dk.sz ≤ cur.toList.length := by rw [Array.length_toList, hz]; exact Nat.mul_le_mul_right _ hnc
  have hlen : (lc ++ ci ++ rc).length = n * dk.sz := by rw [← hcs, List.length_take]; omega
  simp only [List.length_append, hll, hcl] at hlen
  have hst := run_storeAt X.ok ht w b (i * dk.sz + off) e v vs hv hl cur.toList (by simpa using hgb) (by omega) (by simpa using h1)
  subst hc
  have hci : (splice ci off vs).length = dk.sz := by rw [Kd.length_splice (by omega)]; exact hcl
  have hcs2 : (splice cur.toList (i * dk.sz + off) vs).take (n * dk.sz) = lc ++ splice ci off vs ++ rc := by
    rw [splice_take (by omega) hcur, hcs]
    simp only [splice]
    have d1 : (lc ++ ci ++ rc).take (i * dk.sz + off) = lc ++ ci.take off := by
      rw [← hll, List.append_assoc, List.take_length_add_append, List.take_append_of_le_length (by omega)]
    have d2 : (lc ++ ci ++ rc).drop (i * dk.sz + off + vs.length) = ci.drop (off + vs.length) ++ rc := by
      rw [← hll, List.append_assoc, Nat.add_assoc, List.drop_length_add_append, List.drop_append_of_le_length (by omega)]
    rw [d1, d2]; simp [List.append_assoc]
  unfold Oper.wp execOp
  simp only [hk'.ev hx, hk'.ev hy, hpa, Sem.run_bind, hst, Result.andThen_ok]
  have hu := hs.uniq (hole dk e b n c i xs ci (oa ++ ob) (sa ++ sb)) (by simp)
  have hu1 : (b :: (oa ++ ob)).Nodup := hu.1
  have hu2 : ∀ q ∈ b :: (oa ++ ob), q ∉ sa ++ sb := hu.2
  have hne : ∀ q, q ∈ oa ++ ob ∨ q ∈ sa ++ sb → (w.setRow b (splice cur.toList (i * dk.sz + off) vs).toArray).heap[q]? = w.heap[q]? := fun q hq => setRow_other w b q _ (fun e => by
    subst e
    rcases hq with hq | hq
    · exact (List.nodup_cons.1 hu1).1 hq
    · exact hu2 _ (List.mem_cons_self ..) hq)
  refine hK _ _ (h _ _ hk' (hs.swap (As := [hole dk e b n c i xs ci (oa ++ ob) (sa ++ sb)]) (Bs := [hole dk e b n c i xs (splice ci off vs) (oa ++ ob) (sa ++ sb)]) (mod_setRow.mono (by simp [owns, hole])) ?_ ?_ ?_ ?_ (by simp)))
  · intro B hB; rw [List.mem_singleton] at hB; subst hB
    refine ⟨_, lc, rc, oa, ob, sa, sb, setRow_heap w b cur _ e _ hgb, hnc, hcm, ?_, hln, hin, hcs2, hci, hl1.keep ?_ ?_, hr1.keep ?_ ?_, rfl, rfl⟩
    · rw [List.size_toArray, Kd.length_splice (by omega), Array.length_toList, hz]
    · exact fun q hq => hne q (.inl (List.mem_append_left _ hq))
    · exact fun q hq => hne q (.inr (List.mem_append_left _ hq))
    · exact fun q hq => hne q (.inl (List.mem_append_right _ hq))
    · exact fun q hq => hne q (.inr (List.mem_append_right _ hq))
  · intro B hB q hq; rw [List.mem_singleton] at hB; subst hB; exact .inl (by simpa [owns, hole] using hq)
  · intro B hB q hq; rw [List.mem_singleton] at hB; subst hB; exact .inl ⟨_, List.mem_singleton_self _, .inr hq⟩
  · intro B hB; rw [List.mem_singleton] at hB; subst hB; exact hu
theorem gsp {da db : Kd α} {cs c1 c2 : List Value} {x : α} {oo ss : List Nat} (h1 : cs.take da.sz = c1) (h2 : cs.drop da.sz = c2)
    (h : ∀ o1 o2 s1 s2, (∀ q ∈ s1, q ∈ ss) → (∀ q ∈ s2, q ∈ ss) → SK X K l (dat da c1 x o1 s1 :: dat db c2 x o2 s2 :: G)) : SK X K l (dat (da.cat db) cs x oo ss :: G) := fun a w hk hs => by
  have hR : (da.cat db).Rel w cs x oo ss := hs.holds (dat (da.cat db) cs x oo ss) (by simp)
  have hu := hs.uniq (dat (da.cat db) cs x oo ss) (by simp)
  obtain ⟨k1, k2, o1, o2, s1, s2, rfl, rfl, rfl, r1, r2⟩ := hR
  have hl := da.len r1
  rw [← hl, List.take_left] at h1
  rw [← hl, List.drop_left] at h2
  subst h1; subst h2
  simp only [dat, List.nodup_append, List.mem_append, not_or] at hu
  refine h o1 o2 s1 s2 (by simp only [List.mem_append]; grind) (by simp only [List.mem_append]; grind) a w hk (hs.swap (As := [dat (da.cat db) (k1 ++ k2) x (o1 ++ o2) (s1 ++ s2)]) (Bs := [dat da k1 x o1 s1, dat db k2 x o2 s2]) (.refl _ _) ?_ ?_ ?_ ?_ ?_)
  · intro B hB
    simp only [List.mem_cons, List.not_mem_nil, or_false] at hB
    rcases hB with rfl | rfl
    · exact r1
    · exact r2
  · intro B hB q hq
    simp only [List.mem_cons, List.not_mem_nil, or_false] at hB
    left
    simp only [owns, List.flatMap_cons, List.flatMap_nil, List.append_nil, dat, List.mem_append]
    rcases hB with rfl | rfl <;> (simp only [dat] at hq; grind)
  · intro B hB q hq
    simp only [List.mem_cons, List.not_mem_nil, or_false] at hB
    refine .inl ⟨_, List.mem_singleton_self _, .inr ?_⟩
    simp only [dat, List.mem_append]
    rcases hB with rfl | rfl <;> (simp only [dat] at hq; grind)
  · intro B hB
    simp only [List.mem_cons, List.not_mem_nil, or_false] at hB
    rcases hB with rfl | rfl <;> (simp only [dat]; grind)
  · simp only [List.pairwise_cons, List.mem_cons, List.not_mem_nil, or_false, forall_eq, false_implies, implies_true, List.Pairwise.nil, and_true, Apart, dat]
    grind
def TurnO {β : Type} (dk : Kd β) (cs : List Value) (v : Value) (w : World) (o : List Nat) (x : β) (S : List Nat) (e : Ending) (w' : World) : Prop :=
  e = .returned v ∧ ∃ oo ss, Turned w w' o S [dat dk cs x oo ss]
theorem turno {w w' : World} {x : α} {S : List Nat} {v v' : Value} {cs : List Value} {oa oo ss : List Nat} {G : List Asn} (hs : St (nul w) w' (dat dk cs x oo ss :: G)) (k : Nat) (hk : G[k]? = some (frm w oa)) (hv : v = v') (hS : ∀ b ∈ ss, b ∈ S ∨ w.heap.size ≤ b) :
    TurnO dk cs v' w oa x S (.returned v) w' := by
  obtain ⟨_, oo', ss', -, h2⟩ := madeo (v := valof cs) hs k hk rfl hS
  subst hv
  refine ⟨rfl, oo, ss, hs.mod (k + 1) hk, ?_, ?_, ?_, ?_, by simp⟩
  · intro B hB; simp at hB; subst hB; exact hs.holds (dat dk cs x oo ss) (by simp)
  · intro B hB b hb; simp at hB; subst hB
    have hap : Apart (dat dk cs x oo ss) (frm w oa) := (List.pairwise_cons.1 hs.sep).1 _ (List.mem_of_getElem? hk)
    by_cases hbo : b ∈ oa
    · exact .inl hbo
    · by_cases hlt : b < w.heap.size
      · exact absurd (by simp [frm, hlt, hbo] : b ∈ (frm w oa).see) (hap.1 b hb).2
      · exact .inr (by omega)
  · intro B hB b hb; simp at hB; subst hB; exact hS b hb
  · intro B hB; simp at hB; subst hB; exact hs.uniq (dat dk cs x oo ss) (by simp)
theorem cto {x : α} {cs : List Value} {S : List Nat} {A0 : Asn} {f : FuncId} {args : List Operand} {ts : Array TypeId} {vs : List Value} {v : Value} (hE : enters X.P f = true)
    (ho : o.op = .call { callee := .value (.func f), args := args.toArray, argTypes := ts }) (hv : evs l args = some vs) (hp : pl X.N o = some d)
    (hS : ∀ b ∈ S, ∃ A ∈ A0 :: G, b ∈ A.see) (m : Nat) (hm : ∀ w, St X.w0 w (A0 :: G) → m ≤ w.heap.size)
    (hc : ∀ w, St X.w0 w (A0 :: G) → Calls X.P f vs.toArray w (TurnO dk cs v w A0.own x S))
    (h : ∀ oo ss, (∀ b ∈ ss, b ∈ S ∨ m ≤ b) → SL X ops Q r ((d, v) :: l) (dat dk cs x oo ss :: G)) : SL X ops Q (o :: r) l (A0 :: G) := by
  obtain ⟨fn, h1, h2, h3⟩ := enters_spec hE
  refine clx ho h1 h2 h3 hv hp fun a w hk hs => (hc w hs).mono ?_
  rintro e w' ⟨rfl, oo, ss, hmo, hP, hoo, hss, hu, hpw⟩
  refine ⟨_, rfl, fun a' ha' => h oo ss (fun b hb => (hss (dat dk cs x oo ss) (by simp) b hb).imp_right (Nat.le_trans (hm w hs))) a' w' ha' ?_⟩
  exact hs.swap' (As := [A0]) (Bs := [dat dk cs x oo ss]) (hmo.mono (fun b h => by simpa [owns] using h)) hP (fun B hB b hb => (hoo B hB b hb).imp_left (fun h => by simpa [owns] using h)) (fun B hB b hb => (hss B hB b hb).imp_left (hS b)) hu hpw
end
def mkL {α : Type} (mk : Int → α → α) (cnt : α → Int) : Int → List α → List α
  | _, [] => []
  | k, x :: r => mk k x :: mkL mk cnt (k + cnt x) r
theorem mkL_len {α : Type} {mk : Int → α → α} {cnt : α → Int} : ∀ (k : Int) (l : List α), (mkL mk cnt k l).length = l.length
  | _, [] => rfl
  | k, x :: r => by simp [mkL, mkL_len _ r]
theorem mkL_get {α : Type} {mk : Int → α → α} {cnt : α → Int} : ∀ (k : Int) (l : List α) (i : Nat) {y : α}, l[i]? = some y → (mkL mk cnt k l)[i]? = some (mk (k + sumTo cnt l i) y)
  | _, [], _, _, h => by simp at h
  | k, x :: r, 0, y, h => by simp at h; subst h; simp [mkL, sumTo]
  | k, x :: r, i + 1, y, h => by
    have h1 : r[i]? = some y := by simpa using h
    have h2 := mkL_get (mk := mk) (cnt := cnt) (k + cnt x) r i h1
    simp only [mkL, List.getElem?_cons_succ, h2]
    congr 2
    simp [sumTo]; omega
theorem mkL_at {α : Type} {mk : Int → α → α} {cnt : α → Int} {k : Int} {l : List α} {i : Nat} {y z : α} (h : (mkL mk cnt k l)[i]? = some z) (hy : l[i]? = some y) : z = mk (k + sumTo cnt l i) y := by
  rw [mkL_get k l i hy] at h; simpa using h.symm
theorem mkL_app {α : Type} {mk : Int → α → α} {cnt : α → Int} : ∀ (k : Int) (l r : List α), mkL mk cnt k (l ++ r) = mkL mk cnt k l ++ mkL mk cnt (k + (l.map cnt).sum) r
  | k, [], r => by simp [mkL]
  | k, x :: l, r => by simp [mkL, mkL_app _ l r, Int.add_assoc]
theorem mk_raw {α : Type} {mk : Int → α → α} {cnt : α → Int} {k : Int} {l : List α} {i : Nat} {y : α} (h : (mkL mk cnt k (l.take i) ++ l.drop i)[i]? = some y) : l[i]? = some y := by
  by_cases hi : i ≤ l.length
  · have h1 : (mkL mk cnt k (l.take i)).length = i := by rw [mkL_len]; simp; omega
    rw [List.getElem?_append_right (by omega), h1, Nat.sub_self, List.getElem?_drop] at h
    simpa using h
  · have h1 : l.drop i = [] := List.drop_of_length_le (by omega)
    rw [h1, List.append_nil] at h
    have := (List.getElem?_eq_some_iff.1 h).1
    rw [mkL_len, List.length_take] at this
    omega
theorem mk_step {α : Type} {mk : Int → α → α} {cnt : α → Int} {k : Int} {l : List α} {i : Nat} {y z : α} (hy : l[i]? = some y) (hz : z = mk (k + sumTo cnt l i) y) : (mkL mk cnt k (l.take i) ++ l.drop i).set i z = mkL mk cnt k (l.take (i + 1)) ++ l.drop (i + 1) := by
  have hi : i < l.length := (List.getElem?_eq_some_iff.1 hy).1
  have hv : l[i] = y := (List.getElem?_eq_some_iff.1 hy).2
  have h1 : (mkL mk cnt k (l.take i)).length = i := by rw [mkL_len]; simp; omega
  rw [List.set_append_right _ _ (by omega), h1, Nat.sub_self, take_snoc hy, mkL_app, List.append_assoc]
  congr 1
  rw [List.drop_eq_getElem_cons hi, hv]
  simp [mkL, hz, sumTo]
theorem mk_end {α : Type} {mk : Int → α → α} {cnt : α → Int} {k : Int} {l : List α} {i : Nat} (hi : l.length ≤ i) : mkL mk cnt k (l.take i) ++ l.drop i = mkL mk cnt k l := by
  rw [List.take_of_length_le hi, List.drop_of_length_le hi, List.append_nil]
end
section

namespace Kd
variable {α : Type} {dk : Kd α} {w : World}
theorem Elems.skip : ∀ (i : Nat) {cs : List Value} {xs : List α} {ss : List Nat}, Kd.Elems dk w cs xs [] ss → i ≤ xs.length → ∃ s3, (∀ q ∈ s3, q ∈ ss) ∧ Kd.Elems dk w (cs.drop (i * dk.sz)) (xs.drop i) [] s3 := by
  intro i cs xs ss hE
  generalize hoo : ([] : List Nat) = oo at hE
  induction hE generalizing i with
  | nil => intro _; exact ⟨[], by simp, by simpa [hoo.symm] using Kd.Elems.nil⟩
  | cons h hh ih =>
    rename_i c0 cs0 x0 xs0 oa ob sa sb
    obtain ⟨rfl, rfl⟩ := List.append_eq_nil_iff.1 hoo.symm
    intro hle
    cases i with
    | zero => exact ⟨sa ++ sb, fun _ h => h, by simpa using Kd.Elems.cons h hh⟩
    | succ i =>
      obtain ⟨s3, h3, h4⟩ := ih i rfl (by simpa using hle)
      have hl := dk.len h
      refine ⟨s3, fun q hq => List.mem_append_right _ (h3 q hq), ?_⟩
      have e2 : (i + 1) * dk.sz = c0.length + i * dk.sz := by rw [Nat.add_mul, hl]; omega
      rw [e2, List.drop_length_add_append, List.drop_succ_cons]
      exact h4
theorem sl_n {d : Kd α} {A : Option Addr} {n c : Nat} {xs : List α} {o s : List Nat} (h : (sl d).Rel w [.slice A n c] xs o s) : n = xs.length := by
  obtain ⟨-, A', c', he, -⟩ := h
  simp only [List.cons.injEq, Value.slice.injEq, and_true] at he
  exact he.2.1
theorem sl_cap {d : Kd α} {A : Option Addr} {n c : Nat} {xs : List α} {o s : List Nat} (h : (sl d).Rel w [.slice A n c] xs o s) : n ≤ c := by
  obtain ⟨-, A', c', he, hc, -⟩ := h
  simp only [List.cons.injEq, Value.slice.injEq, and_true] at he
  obtain ⟨_, h1, h2⟩ := he
  omega
end Kd
section
variable {X : Cx} {o : Oper} {l : List (Nat × Value)} {G G1 : List Asn} {v v' : Value} {ops : Array Oper} {Q : Exit → Act → World → Prop} {r : List Oper} {K : Act → World → Prop} {d : Nat} {α β : Type} {dk : Kd α}
theorem evr (h : Ev X o l G v) (e : v = v') : Ev X o l G v' := e ▸ h
theorem sl_eq {A : Option Addr} {n m c : Nat} (h : n = m) : Value.slice A n c = .slice A m c := by rw [h]
theorem gct (k i : Nat) {A : Option Addr} {n c : Nat} {xs : List α} {s : List Nat} (hk : G[k]? = some (dat (Kd.sl dk) [.slice A n c] xs [] s)) (hi : i ≤ xs.length)
    (h : ∀ s' w, (Kd.sl dk).Rel w [.slice A (xs.take i).length c] (xs.take i) [] s' → (∀ b ∈ s', b ∈ s) → SK X K l (dat (Kd.sl dk) [.slice A (xs.take i).length c] (xs.take i) [] s' :: G)) : SK X K l G := fun a w hl hs => by
  have hR : (Kd.sl dk).Rel w [.slice A n c] xs [] s := hs.at k hk
  have hR0 := hR
  obtain ⟨-, A', c', he, hc, hm, h2⟩ := hR
  simp only [List.cons.injEq, Value.slice.injEq, and_true] at he
  obtain ⟨rfl, rfl, rfl⟩ := he
  have hlen : (xs.take i).length ≤ xs.length := by simp; omega
  rcases h2 with ⟨rfl, rfl⟩ | ⟨b, off, el, s2, rfl, rfl, hb, hel, hcell⟩
  · have hr' : (Kd.sl dk).Rel w [.slice A (([] : List α).take i).length c] (([] : List α).take i) [] [] := ⟨rfl, A, c, rfl, by simp, by simp, .inl ⟨by simp, rfl⟩⟩
    exact h [] w hr' (by simp) a w hl (hs.see k hk (B := dat (Kd.sl dk) _ _ [] []) hr' rfl (by simp [dat]) rfl)
  · obtain ⟨s3, h3, h4⟩ := Kd.Elems.cut i hel hi
    have hr' : (Kd.sl dk).Rel w [.slice (some ⟨b, off, none⟩) (xs.take i).length c] (xs.take i) [] (b :: s3) := ⟨rfl, _, c, rfl, by omega, by omega, .inr ⟨b, off, _, s3, rfl, rfl, hb, h4, fun j v hj => by
      rw [List.getElem?_take] at hj
      split at hj
      · exact hcell j v hj
      · cases hj⟩⟩
    have hsub : ∀ q ∈ b :: s3, q ∈ b :: s2 := fun q hq => by
      rcases List.mem_cons.1 hq with rfl | hq
      · exact List.mem_cons_self ..
      · exact List.mem_cons_of_mem _ (h3 q hq)
    exact h (b :: s3) w hr' hsub a w hl (hs.see k hk (B := dat (Kd.sl dk) _ _ [] (b :: s3)) hr' rfl hsub rfl)
theorem gdr (k i : Nat) {A : Option Addr} {n c : Nat} {xs : List α} {s : List Nat} (hk : G[k]? = some (dat (Kd.sl dk) [.slice A n c] xs [] s)) (hi : i ≤ xs.length)
    (h : ∀ s' w, (Kd.sl dk).Rel w [.slice (if c = i then A else A.map (·.add (i * dk.sz))) (xs.drop i).length (c - i)] (xs.drop i) [] s' → (∀ b ∈ s', b ∈ s) → SK X K l (dat (Kd.sl dk) [.slice (if c = i then A else A.map (·.add (i * dk.sz))) (xs.drop i).length (c - i)] (xs.drop i) [] s' :: G)) : SK X K l G := fun a w hl hs => by
  have hR : (Kd.sl dk).Rel w [.slice A n c] xs [] s := hs.at k hk
  obtain ⟨-, A', c', he, hc, hm, h2⟩ := hR
  simp only [List.cons.injEq, Value.slice.injEq, and_true] at he
  obtain ⟨rfl, rfl, rfl⟩ := he
  have hlen : (xs.drop i).length = xs.length - i := by simp
  by_cases hnil : xs.drop i = []
  · have hr' : (Kd.sl dk).Rel w [.slice (if c = i then A else A.map (·.add (i * dk.sz))) (xs.drop i).length (c - i)] (xs.drop i) [] [] := ⟨rfl, _, _, rfl, by omega, by omega, .inl ⟨hnil, rfl⟩⟩
    exact h [] w hr' (by simp) a w hl (hs.see k hk (B := dat (Kd.sl dk) _ _ [] []) hr' rfl (by simp [dat]) rfl)
  · have hlt : i < xs.length := by
      rcases Nat.lt_or_ge i xs.length with h | h
      · exact h
      · exact absurd (List.drop_of_length_le h) hnil
    rcases h2 with ⟨rfl, rfl⟩ | ⟨b, off, el, s2, rfl, rfl, hb, hel, hcell⟩
    · simp at hlt
    · obtain ⟨s3, h3, h4⟩ := Kd.Elems.skip i hel hi
      have hci : ¬ c = i := by omega
      have hadd : (⟨b, off, none⟩ : Addr).add (i * dk.sz) = ⟨b, off + i * dk.sz, none⟩ := by unfold Addr.add; split <;> simp_all
      have hr' : (Kd.sl dk).Rel w [.slice (if c = i then some ⟨b, off, none⟩ else (some (⟨b, off, none⟩ : Addr)).map (·.add (i * dk.sz))) (xs.drop i).length (c - i)] (xs.drop i) [] (b :: s3) := by
        rw [if_neg hci, Option.map_some, hadd]
        exact ⟨rfl, _, _, rfl, by omega, by omega, .inr ⟨b, off + i * dk.sz, _, s3, rfl, rfl, hb, h4, fun j v hj => by
          rw [List.getElem?_drop] at hj
          have := hcell _ _ hj
          simpa [Nat.add_assoc] using this⟩⟩
      have hsub : ∀ q ∈ b :: s3, q ∈ b :: s2 := fun q hq => by
        rcases List.mem_cons.1 hq with rfl | hq
        · exact List.mem_cons_self ..
        · exact List.mem_cons_of_mem _ (h3 q hq)
      exact h (b :: s3) w hr' hsub a w hl (hs.see k hk (B := dat (Kd.sl dk) _ _ [] (b :: s3)) hr' rfl hsub rfl)
theorem gv {d : Kd β} {g : α → β} {cs : List Value} {x : α} {oo ss : List Nat} (h : SK X K l (dat d cs (g x) oo ss :: G)) : SK X K l (dat (d.via g) cs x oo ss :: G) := h
end
def mI (k : Int) (_ : Int) : Int := k
def cI (_ : Int) : Int := 1
theorem cI_nn (x : Int) : 0 ≤ cI x := by simp [cI]
theorem cI_sum (l : List Int) : (l.map cI).sum = (l.length : Int) := by
  induction l with
  | nil => rfl
  | cons a l ih => rw [List.map_cons, List.sum_cons, ih]; simp [cI]; omega
theorem cI_to {l : List Int} {k : Nat} (h : k ≤ l.length) : sumTo cI l k = (k : Int) := by
  rw [sumTo, cI_sum]; simp; omega
theorem mkL_at' {α : Type} {mk : Int → α → α} {cnt : α → Int} {k v : Int} {l : List α} {i : Nat} {y z : α} (h : (mkL mk cnt k l)[i]? = some z) (hy : l[i]? = some y) (hv : v = k + sumTo cnt l i) : z = mk v y := by
  rw [hv]; exact mkL_at h hy
theorem mkL_some {α : Type} {mk : Int → α → α} {cnt : α → Int} {k : Int} {l : List α} {i : Nat} {z : α} (h : (mkL mk cnt k l)[i]? = some z) : ∃ y, l[i]? = some y := by
  have := (List.getElem?_eq_some_iff.1 h).1
  rw [mkL_len] at this
  exact ⟨l[i], by simp [this]⟩
end
section

theorem Kd.sub_cap {α β : Type} {d : Kd α} {off : Nat} {d' : Kd β} {g : α → List β} (hs : Kd.Sub d off (Kd.sl d') g) {w : World} {cs : List Value} {x : α} {s : List Nat} (h : d.Rel w cs x [] s) {A : Option Addr} {n c : Nat} (hc : (cs.drop off).take 1 = [.slice A n c]) : n ≤ c := by
  obtain ⟨s', -, hr⟩ := hs w cs x s h
  have e : (cs.drop off).take (Kd.sl d').sz = [.slice A n c] := hc
  rw [e] at hr
  exact Kd.sl_cap hr
def gmin (a b : Int) : Int := if b < a then b else a
def gmax (a b : Int) : Int := if a < b then b else a
section
variable {X : Cx} {o : Oper} {l : List (Nat × Value)} {G G1 : List Asn} {v v' : Value} {ops : Array Oper} {Q : Exit → Act → World → Prop} {r : List Oper} {K : Act → World → Prop} {d : Nat} {α β : Type} {dk : Kd α}
theorem mn {x y : Operand} {k : IntKind} {m n : Int} {ts : Array TypeId} (ho : o.op = .call { callee := .builtin .min, args := #[x, y], argTypes := ts }) (hx : ev l x = some (.int k m)) (hy : ev l y = some (.int k n)) : Ev X o l G (.int k (gmin m n)) := fun a w hk _ => by
  unfold execOp
  simp [ho, resolve, hk.ev hx, hk.ev hy, invoke, builtin, Builtin.min_, Builtin.min2, gmin]
theorem mx {x y : Operand} {k : IntKind} {m n : Int} {ts : Array TypeId} (ho : o.op = .call { callee := .builtin .max, args := #[x, y], argTypes := ts }) (hx : ev l x = some (.int k m)) (hy : ev l y = some (.int k n)) : Ev X o l G (.int k (gmax m n)) := fun a w hk _ => by
  unfold execOp
  simp [ho, resolve, hk.ev hx, hk.ev hy, invoke, builtin, Builtin.max_, Builtin.max2, gmax]
theorem mx3 {x y z : Operand} {k : IntKind} {m n q : Int} {ts : Array TypeId} (ho : o.op = .call { callee := .builtin .max, args := #[x, y, z], argTypes := ts }) (hx : ev l x = some (.int k m)) (hy : ev l y = some (.int k n)) (hz : ev l z = some (.int k q)) : Ev X o l G (.int k (gmax (gmax m n) q)) := fun a w hk _ => by
  unfold execOp
  simp [ho, resolve, hk.ev hx, hk.ev hy, hk.ev hz, invoke, builtin, Builtin.max_, Builtin.max2, gmax]
  rfl
theorem ixz {t e n : Nat} {b : Bool} {x y : Operand} {A : Option Addr} {c m : Nat} {p : Addr} {z : Int} (i : Nat) (hz : z = (i : Int)) (hp : A.map (·.add (i * n)) = some p) (ho : o.op = .indexAddr t x y) (he : look X.T.elem t = some e) (hn : look X.T.size e = some (n, b))
    (hx : ev l x = some (.slice A m c)) (hy : ev l y = some (.int .i64 z)) (hi : i < m) : Ev X o l G (.pointer (some p)) := by
  subst hz
  exact ix i hp ho he hn hx hy hi
theorem gpos (k : Nat) {e : TypeId} {A : Option Addr} {n c : Nat} {xs : List α} {oo ss : List Nat} (hk : G[k]? = some (dat (Kd.row e dk) [.slice A n c] xs oo ss)) (hp : 0 < xs.length) (h : ∀ b, A = some ⟨b, 0, none⟩ → SK X K l G) : SK X K l G := fun a w hl hs => by
  obtain ⟨b, hb⟩ := Kd.row_pos (hs.at k hk) hp
  exact h b hb a w hl hs
def MadeT (dk : Kd α) (w : World) (x : α) (S : List Nat) (f : Value → Value) (e : Ending) (w' : World) : Prop := ∃ v, e = .returned (f v) ∧ Made dk w x S (.returned v) w'
def MadeOT (dk : Kd α) (w : World) (oo : List Nat) (x : α) (S : List Nat) (f : Value → Value) (e : Ending) (w' : World) : Prop := ∃ v, e = .returned (f v) ∧ MadeO dk w oo x S (.returned v) w'
theorem madeT {w0 w : World} {x : α} {S : List Nat} {f : Value → Value} {v u : Value} {cs : List Value} {oo ss : List Nat} (hs : St w0 w (dat dk cs x oo ss :: G)) (hc : v = valof cs) (hu : u = f v) (hS : ∀ b ∈ ss, b ∈ S ∨ w0.heap.size ≤ b) : MadeT dk w0 x S f (.returned u) w :=
  ⟨v, by rw [hu], made hs hc hS⟩
theorem madeoT {w w' : World} {x : α} {S : List Nat} {f : Value → Value} {v u : Value} {cs : List Value} {o oo ss : List Nat} (hs : St (nul w) w' (dat dk cs x oo ss :: G)) (k : Nat) (hk : G[k]? = some (frm w o)) (hc : v = valof cs) (hu : u = f v) (hS : ∀ b ∈ ss, b ∈ S ∨ w.heap.size ≤ b) : MadeOT dk w o x S f (.returned u) w' :=
  ⟨v, by rw [hu], madeo hs k hk hc hS⟩
theorem cmT {x : α} {S : List Nat} {f : Value → Value} {g : FuncId} {args : List Operand} {ts : Array TypeId} {vs : List Value} (hE : enters X.P g = true)
    (ho : o.op = .call { callee := .value (.func g), args := args.toArray, argTypes := ts }) (hv : evs l args = some vs) (hp : pl X.N o = some d)
    (hS : ∀ b ∈ S, ∃ A ∈ G, b ∈ A.see)
    (hc : ∀ w, St X.w0 w G → Calls X.P g vs.toArray w (MadeT dk w x S f))
    (h : ∀ cs o s w, dk.Rel w cs x o s → (∀ b ∈ s, b ∈ S ∨ X.w0.heap.size ≤ b) → SL X ops Q r ((d, f (valof cs)) :: l) (dat dk cs x o s :: G)) : SL X ops Q (o :: r) l G := by
  obtain ⟨fn, h1, h2, h3⟩ := enters_spec hE
  refine clx ho h1 h2 h3 hv hp fun a w hk hs => (hc w hs).mono ?_
  rintro e w' ⟨_, rfl, hb, cs, ow, se, he, hr, hn, hnd, hdis, hse⟩
  cases he
  refine ⟨_, rfl, fun a' ha' => h cs ow se w' hr (fun b hb => (hse b hb).imp_right (Nat.le_trans hs.below.size)) a' w' ha' ?_⟩
  refine (hs.step hb).cons hr (fun b hb' => Nat.le_trans hs.below.size (hn b hb')) ⟨hnd, hdis⟩ (fun B hB => ⟨fun b hb' => ?_, fun b hb' hx => ?_⟩)
  · have := hn b hb'
    exact ⟨fun hx => by have := hs.lt hB (.inl hx); omega, fun hx => by have := hs.lt hB (.inr hx); omega⟩
  · rcases hse b hx with h4 | h4
    · obtain ⟨A, hA, h5⟩ := hS b h4
      by_cases hAB : A = B
      · subst hAB; exact (hs.uniq A hA).2 b hb' h5
      · obtain ⟨i, hi, rfl⟩ := List.getElem_of_mem hA
        obtain ⟨j, hj, rfl⟩ := List.getElem_of_mem hB
        have hne : i ≠ j := fun e => hAB (by subst e; rfl)
        have hp := List.pairwise_iff_getElem.1 hs.sep
        rcases Nat.lt_or_gt_of_ne hne with hlt | hlt
        · exact (hp i j hi hj hlt).2 b hb' h5
        · exact ((hp j i hj hi hlt).1 b hb').2 h5
    · have := hs.lt hB (.inl hb'); omega
theorem coT {x : α} {S : List Nat} {f : Value → Value} {A0 : Asn} {g : FuncId} {args : List Operand} {ts : Array TypeId} {vs : List Value} (hE : enters X.P g = true)
    (ho : o.op = .call { callee := .value (.func g), args := args.toArray, argTypes := ts }) (hv : evs l args = some vs) (hp : pl X.N o = some d)
    (hS : ∀ b ∈ S, ∃ A ∈ A0 :: G, b ∈ A.see) (m : Nat) (hm : ∀ w, St X.w0 w (A0 :: G) → m ≤ w.heap.size)
    (hc : ∀ w, St X.w0 w (A0 :: G) → Calls X.P g vs.toArray w (MadeOT dk w A0.own x S f))
    (h : ∀ cs oo ss w, dk.Rel w cs x oo ss → (∀ b ∈ ss, b ∈ S ∨ m ≤ b) → SL X ops Q r ((d, f (valof cs)) :: l) (dat dk cs x oo ss :: G)) : SL X ops Q (o :: r) l (A0 :: G) := by
  obtain ⟨fn, h1, h2, h3⟩ := enters_spec hE
  refine clx ho h1 h2 h3 hv hp fun a w hk hs => (hc w hs).mono ?_
  rintro e w' ⟨_, rfl, cs, oo, ss, he, hmo, hP, hoo, hss, hu, hpw⟩
  cases he
  refine ⟨_, rfl, fun a' ha' => h cs oo ss w' (hP (dat dk cs x oo ss) (by simp)) (fun b hb => (hss (dat dk cs x oo ss) (by simp) b hb).imp_right (Nat.le_trans (hm w hs))) a' w' ha' ?_⟩
  exact hs.swap' (As := [A0]) (Bs := [dat dk cs x oo ss]) (hmo.mono (fun b h => by simpa [owns] using h)) hP (fun B hB b hb => (hoo B hB b hb).imp_left (fun h => by simpa [owns] using h)) (fun B hB b hb => (hss B hB b hb).imp_left (hS b)) hu hpw
end
def Uniq {α : Type} (f : α → Int) (l : List α) : Prop := l.Pairwise (fun a b => f a ≠ f b)
instance {α : Type} (f : α → Int) (l : List α) : Decidable (Uniq f l) := inferInstanceAs (Decidable (l.Pairwise _))
theorem Uniq.nil {α : Type} {f : α → Int} : Uniq f [] := List.Pairwise.nil
theorem Uniq.at {α : Type} {f : α → Int} {l : List α} (h : Uniq f l) {i j : Nat} {a b : α} (hi : l[i]? = some a) (hj : l[j]? = some b) (hf : f a = f b) : i = j := by
  unfold Uniq at h
  rw [List.pairwise_iff_getElem] at h
  obtain ⟨h1, rfl⟩ := List.getElem?_eq_some_iff.1 hi
  obtain ⟨h2, rfl⟩ := List.getElem?_eq_some_iff.1 hj
  rcases Nat.lt_trichotomy i j with hlt | rfl | hlt
  · exact absurd hf (h i j h1 h2 hlt)
  · rfl
  · exact absurd hf.symm (h j i h2 h1 hlt)
theorem uniq_snoc {α : Type} {f : α → Int} {l : List α} {k : Nat} {y : α} (h : Uniq f (l.take k)) (hy : l[k]? = some y) (hn : ∀ x ∈ l.take k, f x ≠ f y) : Uniq f (l.take (k + 1)) := by
  rw [take_snoc hy]
  unfold Uniq
  rw [List.pairwise_append]
  exact ⟨h, List.pairwise_singleton _ _, fun a ha b hb => by rw [List.mem_singleton] at hb; subst hb; exact hn a ha⟩
theorem uniq_no {α : Type} {f : α → Int} {l : List α} {k : Nat} {y : α} (hy : l[k]? = some y) (h : 0 ≤ idx (fun x => f x == f y) (l.take k)) : ¬ Uniq f l := fun hu => by
  obtain ⟨j, z, _, hj, hz, hp, _⟩ := idx_pos h
  rw [List.length_take] at hj
  have hz' : l[j]? = some z := by rw [List.getElem?_take] at hz; split at hz; exact hz; cases hz
  have := hu.at hz' hy (by simpa using hp)
  omega
theorem uniq_step {α : Type} {f : α → Int} {l : List α} {k : Nat} {y : α} (hu : Uniq f (l.take k)) (hy : l[k]? = some y) (h : ¬ 0 ≤ idx (fun x => f x == f y) (l.take k)) : Uniq f (l.take (k + 1)) :=
  uniq_snoc hu hy (fun x hx => by have := idx_neg h x hx; simpa using this)
theorem uniq_no2 {α : Type} {f : α → Int} {l : List α} {k : Nat} {y : α} (hy : l[k]? = some y) (h : ¬ idx (fun x => f x == f y) l = (k : Int)) : ¬ Uniq f l := fun hu => by
  have h0 : 0 ≤ idx (fun x => f x == f y) l := by
    rcases Int.lt_or_le (idx (fun x => f x == f y) l) 0 with h1 | h1
    · have := idx_neg (p := fun x => f x == f y) (xs := l) (by omega) y (List.mem_of_getElem? hy)
      simp at this
    · exact h1
  obtain ⟨j, z, he, hj, hz, hp, _⟩ := idx_pos h0
  have := hu.at hz hy (by simpa using hp)
  omega
theorem uniq_step2 {α : Type} {f : α → Int} {l : List α} {k : Nat} {y : α} (hu : Uniq f (l.take k)) (hy : l[k]? = some y) (h : idx (fun x => f x == f y) l = (k : Int)) : Uniq f (l.take (k + 1)) := by
  refine uniq_snoc hu hy (fun x hx => ?_)
  obtain ⟨j, z, he, hj, hz, hp, hall⟩ := idx_pos (p := fun x => f x == f y) (xs := l) (by omega)
  obtain ⟨i, hi⟩ := List.getElem?_of_mem hx
  rw [List.getElem?_take] at hi
  split at hi
  · have := hall i x (by omega) hi; simpa using this
  · cases hi
theorem uniq_end {α : Type} {f : α → Int} {l : List α} {k : Nat} (h : Uniq f (l.take k)) (hk : l.length ≤ k) : Uniq f l := by rwa [List.take_of_length_le hk] at h
end
section

section
variable {X : Cx} {o : Oper} {l : List (Nat × Value)} {G : List Asn}
theorem slh {t e sz n c i j : Nat} {bb : Bool} {x y z : Operand} {A : Option Addr} {zi zj : Int} (hi : zi = (i : Int)) (hj : zj = (j : Int)) (he : look X.T.elem t = some e) (hn : look X.T.size e = some (sz, bb)) (ho : o.op = .slice t x (some y) (some z) none) (hx : ev l x = some (.slice A n c))
    (hy : ev l y = some (.int .i64 zi)) (hz : ev l z = some (.int .i64 zj)) (hij : i ≤ j) (hc : j ≤ c) : Ev X o l G (.slice (if c = i then A else A.map (·.add (i * sz))) (j - i) (c - i)) := fun a w hk _ => by
  subst hi; subst hj
  unfold execOp
  have h1 := run_underlying (Tab.elemOk X.ok he) w
  obtain ⟨_, q, _, _, hq, hqs⟩ := Tab.sizeOk X.ok hn
  have h2 : (sizeOf e).run X.P w = .ok sz w := by simp [sizeOf, typeInfo, hq, hqs]
  have h3 := run_sliceBound (P := X.P) w .i64 (j : Int) c .sliceAcap (by omega) (by omega)
  have h4 := run_sliceBound (P := X.P) w .i64 (i : Int) j .sliceB (by omega) (by omega)
  simp only [Int.toNat_natCast] at h3 h4
  simp [ho, hk.ev hx, hk.ev hy, hk.ev hz, Instr.sliceAt, Instr.slice, h1, h2, h3, h4, Instr.sliceBounds]
end
def eqBy {α β : Type} (p : α → β → Bool) : List α → List β → Bool
  | [], [] => true
  | a :: l, b :: r => p a b && eqBy p l r
  | _, _ => false
theorem eqBy_len {α β : Type} {p : α → β → Bool} : ∀ {l : List α} {r : List β}, l.length ≠ r.length → eqBy p l r = false
  | [], [], h => absurd rfl h
  | [], _ :: _, _ => rfl
  | _ :: _, [], _ => rfl
  | a :: l, b :: r, h => by simp only [eqBy, eqBy_len (l := l) (r := r) (fun e => h (by simp [e])), Bool.and_false]
theorem eqBy_at {α β : Type} {p : α → β → Bool} : ∀ {l : List α} {r : List β} {k : Nat} {a : α} {b : β}, l[k]? = some a → r[k]? = some b → p a b = false → eqBy p l r = false
  | x :: l, y :: r, 0, a, b, ha, hb, h => by simp at ha hb; subst ha; subst hb; simp [eqBy, h]
  | x :: l, y :: r, k + 1, a, b, ha, hb, h => by simp only [eqBy, eqBy_at (l := l) (r := r) (k := k) (by simpa using ha) (by simpa using hb) h, Bool.and_false]
  | [], _, _, _, _, ha, _, _ => by simp at ha
  | _ :: _, [], _, _, _, _, hb, _ => by simp at hb
theorem eqBy_all {α β : Type} {p : α → β → Bool} : ∀ {l : List α} {r : List β}, l.length = r.length → (∀ (k : Nat) (a : α) (b : β), l[k]? = some a → r[k]? = some b → p a b = true) → eqBy p l r = true
  | [], [], _, _ => rfl
  | a :: l, b :: r, h, k => by
    have h0 := k 0 a b rfl rfl
    simp only [eqBy, h0, Bool.true_and]
    exact eqBy_all (by simpa using h) (fun i x y hx hy => k (i + 1) x y (by simpa using hx) (by simpa using hy))
  | [], _ :: _, h, _ => by simp at h
  | _ :: _, [], h, _ => by simp at h
theorem eqBy_eq {α : Type} [DecidableEq α] {p : α → α → Bool} (hp : ∀ a b, p a b = decide (a = b)) : ∀ (l r : List α), eqBy p l r = decide (l = r)
  | [], [] => by simp [eqBy]
  | [], _ :: _ => by simp [eqBy]
  | _ :: _, [] => by simp [eqBy]
  | a :: l, b :: r => by
    rw [eqBy, hp, eqBy_eq hp l r, Bool.eq_iff_iff]
    simp
end
section

section
variable {X : Cx} {ops : Array Oper} {Q : Exit → Act → World → Prop} {o oi oj : Oper} {l : List (Nat × Value)} {G Gq : List Asn} {v : Value} {n d i j : Nat} {L : Array Bool}
theorem wpOp_of {K : Act → World → Prop} (i : Nat) (hi : ops[i]? = some o) (h : SL X ops (fun e a w => match e with | .normal => K a w | e => Q e a w) [o] l G) (hrd : X.rd = none) {a : Act} {w : World} (hk : Knows X.K l a) (hst : St X.w0 w G) : wpOp X.P ops Q i K a w := by
  have h1 := h a w hk hst
  rw [Cx.wl_none hrd] at h1
  unfold wpOp
  simp only [hi]
  unfold wpList at h1
  split
  · rename_i hw
    rw [if_pos hw] at h1
    rcases h1 with h1 | ⟨ha, a', w', hl⟩
    · refine .inl ?_
      unfold Oper.wp at *
      generalize (execOp a.eval o).run X.P w = rr at *
      cases rr with
      | ok nx w' => cases nx <;> simp only [Oper.upon] at h1 ⊢ <;> exact h1
      | halt x w' => cases x <;> simp only [Oper.upon] at h1 ⊢ <;> exact h1
    · exact .inr ⟨ha, a', w', hl⟩
  · rename_i hw
    rw [if_neg hw] at h1
    exact h1
theorem knows_swap {N : NN} {a b : Nat} {u v : Value} {t : Act} (hne : a ≠ b) (h : Knows N ((a, u) :: (b, v) :: l) t) : Knows N ((b, v) :: (a, u) :: l) t := by
  refine ⟨h.1, h.2.1, fun k x hx => h.2.2 k x ?_⟩
  simp only [look] at hx ⊢
  by_cases h1 : a = k
  · subst h1
    have e1 : Nat.beq b a = false := by cases hb : Nat.beq b a; rfl; exact absurd (Nat.eq_of_beq_eq_true hb).symm hne
    rw [e1] at hx
    simpa using hx
  · have e1 : Nat.beq a k = false := by cases hb : Nat.beq a k; rfl; exact absurd (Nat.eq_of_beq_eq_true hb) h1
    rw [e1] at hx ⊢
    simpa using hx
theorem q2 (i j : Nat) (ks : List Nat) {di dj : Nat} {vi vj : Value} {f : FuncId} {args : List Operand} {ts : Array TypeId} {vs : List Value} (hi : ops[i]? = some oi) (hj : ops[j]? = some oj) (hr : Region.ready .any ops L = [i, j] ∨ Region.ready .any ops L = [j, i])
    (hri : Region.ready .any ops (L.setIfInBounds i true) = [j]) (hrj : Region.ready .any ops (L.setIfInBounds j true) = [i]) (hG : pickAll ks G = Gq) (hne : Nat.beq di dj = false)
    (hvi : Ev X oi l G vi) (hvi2 : Ev X oi ((dj, vj) :: l) G vi) (hpi : pl X.N oi = some di)
    (hE : enters X.P f = true) (ho : oj.op = .call { callee := .value (.func f), args := args.toArray, argTypes := ts }) (hv : evs l args = some vs) (hv2 : evs ((di, vi) :: l) args = some vs) (hpj : pl X.N oj = some dj)
    (hc : ∀ w, St X.w0 w G → Calls X.P f vs.toArray w (fun e w' => e = .returned vj ∧ Below w.heap.size w w'))
    (h : SM X ops Gq Q n ((L.setIfInBounds i true).setIfInBounds j true) ((dj, vj) :: (di, vi) :: l) G) (hrd : X.rd = none := by rfl) : SM X ops Gq Q (n + 2) L l G := fun a w hk hst => by
  have hne' : di ≠ dj := fun e => by subst e; simp at hne
  have hij : i ≠ j := fun e => by
    subst e
    have h1 := hri
    have h2 : i ∈ Region.ready .any ops (L.setIfInBounds i true) := by rw [h1]; simp
    have h3 := (mem_ready.1 h2).1
    rcases Nat.lt_or_ge i L.size with h' | h'
    · simp [h'] at h3
    · rw [hi] at hj; cases hj
      have h4 := (mem_ready.1 (by rcases hr with hr | hr <;> rw [hr] <;> simp : i ∈ Region.ready .any ops L)).1
      simp [Array.getElem?_eq_none h'] at h4
  have A : SL X ops (fun e a w => match e with | .normal => wpAnyC X.P ops (fun w => St X.w0 w Gq) Q (n + 1) (L.setIfInBounds i true) a w | e => Q e a w) [oi] l G :=
    vl hvi hpi (qn (q1 j ks hj hri hG (cs_ hE ho hv2 hpj hc (qn h)) hrd))
  have B : SL X ops (fun e a w => match e with | .normal => wpAnyC X.P ops (fun w => St X.w0 w Gq) Q (n + 1) (L.setIfInBounds j true) a w | e => Q e a w) [oj] l G :=
    cs_ hE ho hv hpj hc (qn (q1 i ks hi hrj hG (vl hvi2 hpi (qn (fun a w hk hs => by
      rw [Array.setIfInBounds_comm _ _ (Ne.symm hij)]
      exact h a w (knows_swap hne' hk) hs))) hrd))
  refine ⟨hst.pk ks hG, fun h0 => (by rcases hr with hr | hr <;> rw [hr] at h0 <;> cases h0), fun k hk' => ?_⟩
  have hk2 : k = i ∨ k = j := by
    rcases hr with hr | hr <;> rw [hr] at hk' <;> simp at hk'
    · exact hk'
    · exact hk'.symm
  rcases hk2 with rfl | rfl
  · exact wpOp_of _ hi A hrd hk hst
  · exact wpOp_of _ hj B hrd hk hst
end
end
section

section
variable {P : Program} {ops : Array Oper} {C : World → Prop} {Q : Exit → Act → World → Prop} {z : Nat}
def wpAnyZ (P : Program) (ops : Array Oper) (C : World → Prop) (z : Nat) (Q : Exit → Act → World → Prop) : Nat → Array Bool → Act → World → Prop
  | 0, listed, a, w => (listed.getD z true = false → C w) ∧ Region.ready .any ops listed = [] ∧ Q .normal a w
  | fuel + 1, listed, a, w => (listed.getD z true = false → C w) ∧ (Region.ready .any ops listed = [] → Q .normal a w) ∧
    ∀ i ∈ Region.ready .any ops listed, wpOp P ops Q i (wpAnyZ P ops C z Q fuel (listed.setIfInBounds i true)) a w
theorem wpAny_of_Z : ∀ (fuel : Nat) (listed : Array Bool) (a : Act) (w : World), wpAnyZ P ops C z Q fuel listed a w → wpAny P .any ops Q fuel listed a w
  | 0, _, _, _, h => h.2
  | fuel + 1, _, _, _, h => ⟨h.2.1, fun i hi => wpOp_mono (fun a w h => wpAny_of_Z fuel _ a w h) (h.2.2 i hi)⟩
theorem wpAnyZ_first {i : Nat} {oi : Oper} {v : Value} (hi : ops[i]? = some oi) (hsel : ∀ (j : Nat) (o : Oper) cs b, ops[j]? = some o → o.op ≠ .select cs b)
    (hQ : ∀ c a w, Q (.panic c) (a.put oi.dst v) w → Q (.panic c) a w)
    (hzi : i ≠ z) {oz : Oper} (hoz : ops[z]? = some oz) (hze : oz.after.any (fun e => Region.binds .any e && Nat.beq e.on i) = true) : ∀ (fuel : Nat) (listed : Array Bool) (a : Act) (w : World), listed.getD z true = false →
      (∀ j oj, ops[j]? = some oj → j ≠ i → listed.getD j true = false → (∀ e ∈ oj.after, Region.binds .any e = true → e.on ≠ i) → oi.apart ops oj = true) →
      i ∈ Region.ready .any ops listed → YieldsC P ops C oi v a →
      wpAnyZ P ops C z Q fuel (listed.setIfInBounds i true) (a.put oi.dst v) w → wpAnyZ P ops C z Q (fuel + 1) listed a w := by
  intro fuel
  induction fuel with
  | zero =>
    intro listed a w hzl _ hr hy H
    have hzi2 : (listed.setIfInBounds i true).getD z true = false := by rw [getD_set_ne true hzi]; exact hzl
    have hC := H.1 hzi2
    refine ⟨fun _ => hC, fun h => (by rw [h] at hr; cases hr), fun j hj => ?_⟩
    by_cases hji : j = i
    · subst hji; exact hy.wpOp hi hC H
    · have := ready_mono hj hji
      rw [H.2.1] at this
      cases this
  | succ fuel ih =>
    intro listed a w hzl hfree hr hy H
    have hzi2 : (listed.setIfInBounds i true).getD z true = false := by rw [getD_set_ne true hzi]; exact hzl
    have hC := H.1 hzi2
    refine ⟨fun _ => hC, fun h => (by rw [h] at hr; cases hr), fun j hj => ?_⟩
    by_cases hji : j = i
    · subst hji; exact hy.wpOp hi hC H
    · have h1 := H.2.2 j (ready_mono hj hji)
      obtain ⟨hjun, oj, hoj, hall⟩ := mem_ready.1 hj
      have hnot : ∀ e ∈ oj.after, Region.binds .any e = true → e.on ≠ i := fun e he hb heq => by
        have h1 := hall e he hb
        have h0 := (mem_ready.1 hr).1
        rw [heq] at h1
        rcases Nat.lt_or_ge i listed.size with h' | h'
        · simp [h'] at h0 h1; rw [h0] at h1; cases h1
        · simp [Array.getElem?_eq_none h'] at h1
      have h2 := wpOp_putC hoj (hfree j oj hoj hji hjun hnot) (fun cs b => hsel i oi cs b hi) (fun cs b => hsel j oj cs b hoj) hQ hy h1
      have hjz : j ≠ z := fun e => by
        subst e
        rw [hoz] at hoj; cases hoj
        obtain ⟨ed, hed, hb⟩ := Array.any_eq_true'.1 hze
        simp only [Bool.and_eq_true] at hb
        exact hnot ed hed hb.1 (Nat.eq_of_beq_eq_true hb.2)
      have hzj : (listed.setIfInBounds j true).getD z true = false := by rw [getD_set_ne true hjz]; exact hzl
      have hfree' : ∀ k ok, ops[k]? = some ok → k ≠ i → (listed.setIfInBounds j true).getD k true = false →
          (∀ e ∈ ok.after, Region.binds .any e = true → e.on ≠ i) → oi.apart ops ok = true := fun k ok hk hki hun hno => by
        refine hfree k ok hk hki ?_ hno
        by_cases hjk : j = k
        · subst hjk; exact hjun
        · rw [getD_set_ne true hjk] at hun; exact hun
      refine wpOp_mono (fun a' w' h3 => ih (listed.setIfInBounds j true) a' w' hzj hfree' (ready_mono hr (Ne.symm hji)) h3.1 ?_) h2
      rw [Array.setIfInBounds_comm _ _ hji]
      exact h3.2
end
variable {X : Cx} {ops : Array Oper} {Q : Exit → Act → World → Prop} {o : Oper} {l : List (Nat × Value)} {G Gq : List Asn} {v : Value} {n d i z : Nat} {L : Array Bool}
abbrev SZ (X : Cx) (ops : Array Oper) (Gq : List Asn) (z : Nat) (Q : Exit → Act → World → Prop) (n : Nat) (L : Array Bool) (l : List (Nat × Value)) (G : List Asn) : Prop :=
  SK X (wpAnyZ X.P ops (fun w => St X.w0 w Gq) z Q n L) l G
theorem rdz {id : Nat} {os : List Oper} (z : Nat) (ks : List Nat) (hG : pickAll ks G = Gq) (h : SZ X os.toArray Gq z Q os.length (Array.replicate os.length false) l G) (hrd : X.rd = none := by rfl) : SX X (.region id os.toArray true) Q l G := fun a w hk hs => by
  rw [Cx.wp_none hrd]
  exact wp_region_any X.wide (wpAny_of_Z _ _ _ _ (by have := h a _ hk hs.drew; simpa using this))
def zok (ops : Array Oper) (L : Array Bool) (z i : Nat) : Bool := !(L.getD z true) && !(Nat.beq i z) && (match ops[z]? with | some oz => oz.after.any (fun e => Region.binds .any e && Nat.beq e.on i) | none => false)
theorem zok_spec (h : zok ops L z i = true) : L.getD z true = false ∧ i ≠ z ∧ ∃ oz, ops[z]? = some oz ∧ oz.after.any (fun e => Region.binds .any e && Nat.beq e.on i) = true := by
  unfold zok at h
  simp only [Bool.and_eq_true, Bool.not_eq_true'] at h
  refine ⟨h.1.1, fun e => by have := h.1.2; subst e; simp at this, ?_⟩
  have h2 := h.2
  split at h2
  · rename_i oz hoz; exact ⟨oz, hoz, h2⟩
  · cases h2
theorem zv (i : Nat) (hi : ops[i]? = some o) (he : Ev X o l Gq v) (hp : pl X.N o = some d) (hq : (Region.noSelect ops && Region.free .any ops L i && (Region.ready .any ops L).contains i) = true) (hz : zok ops L z i = true) [hQ : Calm Q]
    (h : SZ X ops Gq z Q n (L.setIfInBounds i true) ((d, v) :: l) G) : SZ X ops Gq z Q (n + 1) L l G := fun a w hk hst => by
  simp only [Bool.and_eq_true] at hq
  obtain ⟨⟨hs, hf⟩, hr⟩ := hq
  obtain ⟨hd, hN, hg⟩ := pl_spec hp
  obtain ⟨hz1, hz2, oz, hz3, hz4⟩ := zok_spec hz
  exact wpAnyZ_first hi (Region.noSelect_spec hs) (fun c a w h => hQ.out c a _ w (put_defers _ _ _) h) hz2 hz3 hz4 n L a w hz1 (Region.free_spec hi hf) (by simpa using hr)
    (.inl ⟨by simp [Region.wanted, hg], fun w' hw' => he a w' hk hw'⟩) (by rw [hd]; exact h _ w (hk.put v hN) hst)
theorem z1 (i : Nat) (ks : List Nat) (hi : ops[i]? = some o) (hr : Region.ready .any ops L = [i]) (hG : pickAll ks G = Gq)
    (h : SL X ops (fun e a w => match e with | .normal => wpAnyZ X.P ops (fun w => St X.w0 w Gq) z Q n (L.setIfInBounds i true) a w | e => Q e a w) [o] l G) (hrd : X.rd = none := by rfl) : SZ X ops Gq z Q (n + 1) L l G := fun a w hk hst => by
  refine ⟨fun _ => hst.pk ks hG, fun h0 => (by rw [hr] at h0; cases h0), fun j hj => ?_⟩
  rw [hr] at hj
  simp only [List.mem_singleton] at hj
  subst hj
  exact wpOp_of _ hi h hrd hk hst
theorem ze (hr : Region.ready .any ops L = []) (hz : L.getD z true = true) (h : SK X (Q .normal) l G) : SZ X ops Gq z Q n L l G := fun a w hk hst => by
  cases n with
  | zero => exact ⟨fun h0 => (by rw [hz] at h0; cases h0), hr, h a w hk hst⟩
  | succ n => exact ⟨fun h0 => (by rw [hz] at h0; cases h0), fun _ => h a w hk hst, by rw [hr]; simp⟩
end
section
variable {X : Cx} {o : Oper} {l : List (Nat × Value)} {G G1 : List Asn} {v : Value} {ops : Array Oper} {Q : Exit → Act → World → Prop} {r : List Oper} {K : Act → World → Prop} {d : Nat}
theorem qo {oi oj : Oper} {n : Nat} {L : Array Bool} {Gq : List Asn} (i j : Nat) (ks : List Nat) (hi : ops[i]? = some oi) (hj : ops[j]? = some oj) (hr : Region.ready .any ops L = [i, j]) (hG : pickAll ks G = Gq)
    (A : SL X ops (fun e a w => match e with | .normal => wpAnyC X.P ops (fun w => St X.w0 w Gq) Q n (L.setIfInBounds i true) a w | e => Q e a w) [oi] l G)
    (B : SL X ops (fun e a w => match e with | .normal => wpAnyC X.P ops (fun w => St X.w0 w Gq) Q n (L.setIfInBounds j true) a w | e => Q e a w) [oj] l G) (hrd : X.rd = none := by rfl) : SM X ops Gq Q (n + 1) L l G := fun a w hk hst => by
  refine ⟨hst.pk ks hG, fun h0 => (by rw [hr] at h0; cases h0), fun k hk' => ?_⟩
  rw [hr] at hk'
  simp at hk'
  rcases hk' with rfl | rfl
  · exact wpOp_of _ hi A hrd hk hst
  · exact wpOp_of _ hj B hrd hk hst
def cutQ (K : Act → World → Prop) (Q : Exit → Act → World → Prop) : Exit → Act → World → Prop
  | .normal, a, w => K a w
  | .exit id, a, w => Q (.exit id) a w
  | .goto t, a, w => Q (.goto t) a w
  | .ret, a, w => Q .ret a w
  | .panic c, a, w => Q (.panic c) a w
  | .outgrown, a, w => Q .outgrown a w
instance Calm.cut {K : Act → World → Prop} {Q : Exit → Act → World → Prop} [h : Calm Q] : Calm (cutQ K Q) := ⟨h.out⟩
theorem rx {σ : Type} {c : Code} (E : σ → List (Nat × Value)) (H : σ → List Asn) (pre : σ → Prop) (h : ∀ s, pre s → SK X (Q .normal) (E s) (H s))
    (r : SX X c (cutQ (fun a w => ∃ s, pre s ∧ Knows X.K (E s) a ∧ St X.w0 w (H s)) Q) l G) (hrd : X.rd = none := by rfl) : SX X c Q l G := fun a w hk hs => by
  have h1 := r a w hk hs
  rw [Cx.wp_none hrd] at h1 ⊢
  refine wp_mono h1 ?_
  intro e a w hq
  cases e with
  | normal => obtain ⟨s, h2, h3, h4⟩ := hq; exact h s h2 a w h3 h4
  | exit id => exact hq
  | goto l => exact hq
  | ret => exact hq
  | panic ch => exact hq
  | outgrown => exact hq
theorem cx {σ : Type} {E : σ → List (Nat × Value)} {H : σ → List Asn} {pre : σ → Prop} (s : σ) (ks : List Nat) (h0 : pre s) (hl : lessB l (E s)) (hG : pickAll ks G = H s) :
    SK X (cutQ (fun a w => ∃ s, pre s ∧ Knows X.K (E s) a ∧ St X.w0 w (H s)) Q .normal) l G := fun a w hk hs => ⟨s, h0, hk.less hl, hG ▸ hs.pick ks⟩
end
section

def Fit (L : List Asn) : Prop := (∀ A ∈ L, A.own.Nodup ∧ ∀ b ∈ A.own, b ∉ A.see) ∧ L.Pairwise Apart
def cj (L : List Asn) : Asn where
  own := L.flatMap (·.own)
  see := L.flatMap (·.see)
  P w := (∀ A ∈ L, A.P w) ∧ Fit L
  keep w w' hs ho hse h := ⟨fun A hA => A.keep w w' hs (fun b hb => ho b (List.mem_flatMap.2 ⟨A, hA, hb⟩)) (fun b hb => hse b (List.mem_flatMap.2 ⟨A, hA, hb⟩)) (h.1 A hA), h.2⟩
  lt w h b hb := by
    rcases hb with hb | hb
    · obtain ⟨A, hA, hb⟩ := List.mem_flatMap.1 hb; exact A.lt w (h.1 A hA) b (.inl hb)
    · obtain ⟨A, hA, hb⟩ := List.mem_flatMap.1 hb; exact A.lt w (h.1 A hA) b (.inr hb)
theorem Fit.not_see : ∀ {L : List Asn}, Fit L → ∀ {A B : Asn}, A ∈ L → B ∈ L → ∀ b ∈ A.own, b ∉ B.see
  | [], _, _, _, hA, _ => by cases hA
  | C :: L, h, A, B, hA, hB => fun b hb => by
    have h2 := List.pairwise_cons.1 h.2
    rcases List.mem_cons.1 hA with hA | hA <;> rcases List.mem_cons.1 hB with hB | hB
    · rw [hB, ← hA]; exact (h.1 A (by simp [hA])).2 b hb
    · rw [hA] at hb; exact ((h2.1 B hB).1 b hb).2
    · rw [hB]; exact (h2.1 A hA).2 b hb
    · exact Fit.not_see ⟨fun D hD => h.1 D (List.mem_cons_of_mem _ hD), h2.2⟩ hA hB b hb
theorem Fit.nodup : ∀ {L : List Asn}, Fit L → (L.flatMap (·.own)).Nodup
  | [], _ => by simp
  | A :: L, h => by
    have h2 := List.pairwise_cons.1 h.2
    rw [List.flatMap_cons, List.nodup_append]
    refine ⟨(h.1 A (by simp)).1, Fit.nodup ⟨fun B hB => h.1 B (List.mem_cons_of_mem _ hB), h2.2⟩, fun a ha b hb he => ?_⟩
    subst he
    obtain ⟨B, hB, hb⟩ := List.mem_flatMap.1 hb
    exact ((h2.1 B hB).1 a ha).1 hb
theorem St.pack {w0 w : World} {L Ms : List Asn} (h : St w0 w (L ++ Ms)) : St w0 w (cj L :: Ms) := by
  obtain ⟨hL, hM, hX⟩ := List.pairwise_append.1 h.sep
  have hf : Fit L := ⟨fun A hA => h.uniq A (List.mem_append_left _ hA), hL⟩
  refine St.cons (h.sub (List.sublist_append_right L Ms)) ⟨fun A hA => h.holds A (List.mem_append_left _ hA), hf⟩ ?_ ⟨hf.nodup, ?_⟩ ?_
  · intro b hb; obtain ⟨A, hA, hb⟩ := List.mem_flatMap.1 hb; exact h.new A (List.mem_append_left _ hA) b hb
  · intro b hb hb'
    obtain ⟨A, hA, hb⟩ := List.mem_flatMap.1 hb
    obtain ⟨B, hB, hb'⟩ := List.mem_flatMap.1 hb'
    exact hf.not_see hA hB b hb hb'
  · intro B hB
    refine ⟨fun b hb => ?_, fun b hb hb' => ?_⟩
    · obtain ⟨A, hA, hb⟩ := List.mem_flatMap.1 hb; exact (hX A hA B hB).1 b hb
    · obtain ⟨A, hA, hb'⟩ := List.mem_flatMap.1 hb'; exact (hX A hA B hB).2 b hb hb'
theorem St.unpack {w0 w : World} {L Ms : List Asn} (h : St w0 w (cj L :: Ms)) : St w0 w (L ++ Ms) := by
  have h0 := h.holds (cj L) (by simp)
  obtain ⟨hX, hM⟩ := List.pairwise_cons.1 h.sep
  have hin : ∀ {A : Asn} {b : Nat}, A ∈ L → b ∈ A.own → b ∈ (cj L).own := fun hA hb => List.mem_flatMap.2 ⟨_, hA, hb⟩
  have hsn : ∀ {A : Asn} {b : Nat}, A ∈ L → b ∈ A.see → b ∈ (cj L).see := fun hA hb => List.mem_flatMap.2 ⟨_, hA, hb⟩
  refine ⟨h.below, fun A hA => ?_, fun A hA => ?_, fun A hA => ?_, List.pairwise_append.2 ⟨h0.2.2, hM, fun A hA B hB => ⟨fun b hb => (hX B hB).1 b (hin hA hb), fun b hb hb' => (hX B hB).2 b hb (hsn hA hb')⟩⟩⟩
  · rcases List.mem_append.1 hA with hA | hA
    · exact h0.1 A hA
    · exact h.holds A (List.mem_cons_of_mem _ hA)
  · rcases List.mem_append.1 hA with hA | hA
    · exact fun b hb => h.new (cj L) (by simp) b (hin hA hb)
    · exact h.new A (List.mem_cons_of_mem _ hA)
  · rcases List.mem_append.1 hA with hA | hA
    · exact h0.2.1 A hA
    · exact h.uniq A (List.mem_cons_of_mem _ hA)
theorem St.cjl {w0 w : World} {Ms L : List Asn} (h : St w0 w (Ms ++ [cj L])) : St w0 w (Ms ++ L) := (St.unpack (Ms := Ms) (h.perm List.perm_append_comm)).perm List.perm_append_comm
theorem St.cjr {w0 w : World} {Ms L : List Asn} (h : St w0 w (Ms ++ L)) : St w0 w (Ms ++ [cj L]) := (St.pack (Ms := Ms) (h.perm List.perm_append_comm)).perm (List.perm_append_comm (l₁ := [cj L]))

def ob (b : Nat) (o : Obj) : Asn where
  own := [b]
  see := []
  P w := w.heap[b]? = some o
  keep w w' _ h _ hp := (h b (by simp)).trans hp
  lt w hp b' hb := by
    simp at hb
    subst hb
    exact (Array.getElem?_eq_some_iff.1 hp).1
theorem St.allocO {w0 w : World} {G : List Asn} (h : St w0 w G) (o : Obj) : St w0 (w.alloc o) (ob w.heap.size o :: G) := by
  have h1 := h.step (w' := w.alloc o) ((Below.refl _ _).alloc (Nat.le_refl _) _)
  refine h1.cons (World.alloc_heap_new w _) (fun b hb => by simp [ob] at hb; subst hb; exact h.below.size) ⟨by simp [ob], by simp [ob]⟩ (fun B hB => ⟨fun b hb => ?_, fun b _ => by simp [ob]⟩)
  simp [ob] at hb
  subst hb
  exact ⟨fun hx => Nat.lt_irrefl _ (h.lt hB (.inl hx)), fun hx => Nat.lt_irrefl _ (h.lt hB (.inr hx))⟩
theorem St.putO {w0 w : World} {G : List Asn} {b : Nat} {o : Obj} (o' : Obj) (h : St w0 w (ob b o :: G)) : St w0 (w.putObj b o') (ob b o' :: G) := by
  have hb : w.heap[b]? = some o := h.at 0 rfl
  have hlt := (Array.getElem?_eq_some_iff.1 hb).1
  have hn : w0.heap.size ≤ b := h.new (ob b o) (by simp) b (by simp [ob])
  have hs := List.pairwise_cons.1 h.sep
  have hg := grownBy_putObj' w b o'
  refine ⟨h.below.grown hg h.below.size (fun k e => by cases e; exact hn) (Nat.le_refl _), fun A hA => ?_, fun A hA => ?_, fun A hA => ?_, List.pairwise_cons.2 ⟨fun B hB => hs.1 B hB, hs.2⟩⟩
  · rcases List.mem_cons.1 hA with rfl | hA'
    · exact World.putObj_heap_same hlt
    · refine A.keep w _ hg.size (fun c hc => World.putObj_heap_other (fun e => ?_)) (fun c hc => World.putObj_heap_other (fun e => ?_)) (h.holds A (List.mem_cons_of_mem _ hA'))
      · exact ((hs.1 A hA').1 b (by simp [ob])).1 (e ▸ hc)
      · exact ((hs.1 A hA').1 b (by simp [ob])).2 (e ▸ hc)
  · rcases List.mem_cons.1 hA with rfl | hA
    · exact h.new (ob b o) (by simp)
    · exact h.new A (List.mem_cons_of_mem _ hA)
  · rcases List.mem_cons.1 hA with rfl | hA
    · exact h.uniq (ob b o) (by simp)
    · exact h.uniq A (List.mem_cons_of_mem _ hA)

abbrev bpM (P : Program) (fn : Func) (R : Ending → World → Prop) : Exit → Act → World → Prop := bodyPostM Fence.wide 9 P fn R
variable {X : Cx} {o : Oper} {l : List (Nat × Value)} {G G1 : List Asn} {v : Value} {ops : Array Oper} {Q : Exit → Act → World → Prop} {r : List Oper} {K : Act → World → Prop} {d : Nat}
class Tight (Q : Exit → Act → World → Prop) : Prop where
  out : ¬ LetsOut Q
instance Tight.then {Q : Exit → Act → World → Prop} (K : Act → World → Prop) [h : Tight Q] : Tight (Exit.then K Q) := ⟨h.out⟩
instance Tight.block {Q : Exit → Act → World → Prop} {id : Nat} [h : Tight Q] : Tight (Exit.inBlock id Q) := ⟨h.out⟩
theorem rgw {id : Nat} {os : List Oper} (h : SL { X with rd := some none } os.toArray Q os l G) (hrd : X.rd = none := by rfl) : SX X (.region id os.toArray false) Q l G := fun a w hk hs => by
  rw [Cx.wp_none hrd]
  exact (wpIn_wide (n := 9)).1 (wpIn_region_lit (h a w hk hs 9))

theorem fncM {f : FuncId} {fn : Func} {c : Code} {args : List Value} {w : World} {R : Ending → World → Prop}
    (hf : X.P.funcs[f]? = some fn) (hb : fn.body = some c) (hN : fn.ntmps = X.N) (hle : Nat.ble args.length X.N = true)
    (hl : lessB (args.zipIdx.map fun p => (p.2, p.1)) l)
    (hG : St X.w0 w G) (h : SX X c (bpM X.P fn R) l G) (hrd : X.rd = none := by rfl) (hdf : X.df = [] := by rfl) : Calls X.P f args.toArray w R := by
  suffices hk : Knows X.K l { tmps := args.toArray ++ Array.replicate (fn.ntmps - args.toArray.size) undef, defers := [] } from
    callsIn_wide.1 (callsIn_of_wp_marks hf hb trivial (wpIn_wide.2 (by rw [← Cx.wp_none hrd]; exact h _ _ hk hG)))
  refine Knows.less (l := args.zipIdx.map fun p => (p.2, p.1)) ⟨hdf.symm, ?_, fun i v hi => ?_⟩ hl
  · have := Nat.le_of_ble_eq_true hle; simp [hN]; omega
  · have hm := mem_look hi
    obtain ⟨p, hp, he⟩ := List.mem_map.1 hm
    obtain ⟨rfl, rfl⟩ := Prod.mk.injEq .. ▸ he
    have h1 := List.mk_mem_zipIdx_iff_getElem?.1 (show (p.1, p.2) ∈ args.zipIdx from hp)
    have hlt := (List.getElem?_eq_some_iff.1 h1).1
    simp only [List.size_toArray]
    rw [Array.getElem?_append_left (by simpa using hlt)]
    simpa using h1
def mark (D : Nat) : List Deferred := [{ target := .collected D, args := #[] }]
abbrev dfr : Obj := .deferred (some [])
theorem retm {fn : Func} {v : Value} {R : Ending → World → Prop} (hr : ∀ a w, Knows X.K l a → St X.w0 w G → (results fn a.tmps).run X.P w = .ok v w) (h : ∀ w, St X.w0 w G → R (.returned v) w) (hdf : X.df = [] := by rfl) :
    SK X (bpM X.P fn R .ret) l G := fun a w hk hs => by
  show LeavesInM Fence.wide 9 X.P fn a.tmps R a.defers .returning w
  rw [show a.defers = [] from hk.1.trans hdf]
  exact ⟨v, hr a w hk hs, h w hs⟩
theorem retd {fn : Func} {v : Value} {R : Ending → World → Prop} {D : Nat} (hr : ∀ a w, Knows X.K l a → St X.w0 w (ob D (.deferred none) :: G) → (results fn a.tmps).run X.P w = .ok v w) (h : ∀ w, St X.w0 w (ob D (.deferred none) :: G) → R (.returned v) w) (hdf : X.df = mark D := by rfl) :
    SK X (bpM X.P fn R .ret) l (ob D dfr :: G) := fun a w hk hs => by
  show LeavesInM Fence.wide 9 X.P fn a.tmps R a.defers .returning w
  rw [show a.defers = mark D from hk.1.trans hdf]
  have h1 : w.heap[D]? = some (.deferred (some [])) := hs.at 0 rfl
  exact ⟨by simp, .inl ⟨D, _, rfl, run_takeDeferred h1, v, hr a _ hk (hs.putO _), h _ (hs.putO _)⟩⟩

abbrev Cx.rnd (X : Cx) (lo : Nat) : Cx := { X with rd := some (some lo), df := [] }
abbrev Cx.mk' (X : Cx) (D : Nat) : Cx := { X with df := mark D }
def rndQ (N R : World → Prop) : Exit → Act → World → Prop
  | .normal, _, w => N w
  | .ret, _, w => R w
  | _, _, _ => False
instance Calm.rnd {N R : World → Prop} : Calm (rndQ N R) := ⟨fun c a a' w _ h => h⟩
instance Tight.rnd {N R : World → Prop} : Tight (rndQ N R) := ⟨fun ⟨_, _, h⟩ => h⟩
def BackIter {α : Type} (P : Program) (w0 : World) (gf b T : Nat) (A : Option Addr) (c : Nat) (ek : Kd α) (xs : List α) (sv : List Nat) : Prop :=
  ∀ {ρ τ : Type} (lo : Nat) (Gr : Nat → ρ → List Asn) (Gx : τ → List Asn) (pre : Nat → ρ → Prop) (prx : τ → Prop),
    (∀ k r, pre k r → k < xs.length → ∀ y, xs[xs.length - 1 - k]? = some y → ∀ p cs s1 W, St w0 W (ptr ek p cs y s1 :: blk b [.slice A xs.length c] T :: dat (Kd.sl ek) [.slice A xs.length c] xs [] sv :: Gr k r) →
      YieldAt Fence.wide 9 P lo #[.int .i64 ((xs.length - 1 - k : Nat) : Int), .agg cs.toArray] W (fun e W' =>
        (e = .returned (.bool true) ∧ ∃ r', pre (k + 1) r' ∧ St w0 W' (blk b [.slice A xs.length c] T :: dat (Kd.sl ek) [.slice A xs.length c] xs [] sv :: Gr (k + 1) r')) ∨
        (e = .returned (.bool false) ∧ ∃ t, prx t ∧ St w0 W' (Gx t)))) →
    ∀ r W, pre 0 r → St w0 W (blk b [.slice A xs.length c] T :: dat (Kd.sl ek) [.slice A xs.length c] xs [] sv :: Gr 0 r) →
      Calls P gf #[.func (.yield lo) #[] #[], .pointer (some ⟨b, 0, none⟩)] W (fun e W' => (∃ v, e = .returned v) ∧
        ((∃ r, pre xs.length r ∧ St w0 W' (blk b [.slice A xs.length c] T :: dat (Kd.sl ek) [.slice A xs.length c] xs [] sv :: Gr xs.length r)) ∨ ∃ t, prx t ∧ St w0 W' (Gx t)))
def asnQ (X : Cx) (lo : Nat) (o1 : Obj) (body : Code) (Q' : Obj → Exit → Act → World → Prop) : Exit → Act → World → Prop :=
  Exit.then (fun a w => ∃ la Gm, Knows (X.rnd lo).K la a ∧ St X.w0 w (ob lo o1 :: Gm) ∧ ∀ o1', SX (X.rnd lo) body (Q' o1') la (ob lo o1' :: Gm)) (fun _ _ _ => False)
theorem asn {lo : Nat} {o1 : Obj} {body : Code} {Q' : Obj → Exit → Act → World → Prop} {Y : Cx} (la : List (Nat × Value)) (Gm : List Asn) (ks : List Nat) (hl : lessB l la) (hG : pickAll ks G = ob lo o1 :: Gm)
    (h : ∀ o1', SX (X.rnd lo) body (Q' o1') la (ob lo o1' :: Gm)) (hY : Y = X.rnd lo := by rfl) : SK Y (asnQ X lo o1 body Q' .normal) l G := fun a w hk hs => by
  subst hY
  exact ⟨la, Gm, hk.less hl, hG ▸ hs.pick ks, h⟩
theorem enters_call {P : Program} {f : FuncId} (h : enters P f = true) : ∀ (args : Array Value) (w : World), (callFunc f args).run P w = .ok (.enter f args) w := fun args w => by
  obtain ⟨fn, hf, hb, hn⟩ := enters_spec h
  have hb' : fn.body ≠ none := by intro h; simp [h] at hb
  have hn' : ¬ fn.name = "runtime.NumGoroutine" := by simpa using hn
  simp [callFunc, program, hf, hn', Sem.run]
  intro h
  exact absurd h hb'
theorem rf {α : Type} {ek : Kd α} {xs : List α} {ρ τ : Type} {g : Operand} {p0 p1 : Nat} {assign body : Code} {gf b T : Nat} {A : Option Addr} {c : Nat} {sv : List Nat}
    (hg : ev l g = some (.func (.func gf) #[] #[.pointer (some ⟨b, 0, none⟩)])) (hE : enters X.P gf = true) (hit : BackIter X.P X.w0 gf b T A c ek xs sv)
    (Gr : Nat → ρ → List Asn) (Gx : τ → List Asn) (pre : Nat → ρ → Prop) (prx : τ → Prop) (r0 : ρ) (ks : List Nat)
    (hp0 : pre 0 r0) (hps : Nat.blt p0 X.N = true ∧ Nat.blt p1 X.N = true) (hG : pickAll ks G = blk b [.slice A xs.length c] T :: dat (Kd.sl ek) [.slice A xs.length c] xs [] sv :: Gr 0 r0)
    (hb : ∀ k r, pre k r → k < xs.length → ∀ y, xs[xs.length - 1 - k]? = some y → ∀ p cs s1, (∃ w, ek.Rel w cs y [] s1) → ∀ (lo D : Nat) (o1 : Obj),
      SX (X.rnd lo) assign (asnQ X lo o1 body fun o1' => rndQ (fun w => ∃ r', pre (k + 1) r' ∧ St X.w0 w (ob lo o1' :: ob D dfr :: blk b [.slice A xs.length c] T :: dat (Kd.sl ek) [.slice A xs.length c] xs [] sv :: Gr (k + 1) r')) (fun w => ∃ t, prx t ∧ St X.w0 w (ob lo o1' :: ob D dfr :: Gx t)))
        ((p1, .agg cs.toArray) :: (p0, .int .i64 ((xs.length - 1 - k : Nat) : Int)) :: l) (ob lo o1 :: ptr ek p cs y s1 :: ob D dfr :: blk b [.slice A xs.length c] T :: dat (Kd.sl ek) [.slice A xs.length c] xs [] sv :: Gr k r))
    (hdone : ∀ D r, pre xs.length r → SK (X.mk' D) (Q .normal) l (ob D dfr :: blk b [.slice A xs.length c] T :: dat (Kd.sl ek) [.slice A xs.length c] xs [] sv :: Gr xs.length r))
    (hret : ∀ D t, prx t → SK (X.mk' D) (Q .ret) l (ob D dfr :: Gx t)) (hrd : X.rd = none := by rfl) (hdf : X.df = [] := by rfl) : SX X (.rangeFunc g #[p0, p1] assign body) Q l G := fun a w hk hs => by
  rw [Cx.wp_none hrd]
  refine (wpIn_wide (n := 10)).1 (wpIn_rangeFunc ?_)
  intro fn _
  have hga := hk.ev hg
  have eg := enters_call hE
  obtain ⟨rec, hrec⟩ : ∃ rec : LoopState → Option Code → Loop, rec = fun st pe => { state := st, pending := pe, fn, tmps := a.tmps, params := #[p0, p1], assign, body, defers := w.heap.size } := ⟨_, rfl⟩
  obtain ⟨W1, hW1⟩ : ∃ W1, (w.alloc (.deferred (some []))).alloc (.loop (rec .ready none)) = W1 := ⟨_, rfl⟩
  have hs1 : St X.w0 W1 (ob (w.heap.size + 1) (.loop (rec .ready none)) :: ob w.heap.size dfr :: blk b [.slice A xs.length c] T :: dat (Kd.sl ek) [.slice A xs.length c] xs [] sv :: Gr 0 r0) := by
    have h1 := ((hG ▸ hs.pick ks : St X.w0 w (blk b [.slice A xs.length c] T :: dat (Kd.sl ek) [.slice A xs.length c] xs [] sv :: Gr 0 r0)).allocO dfr).allocO (.loop (rec .ready none))
    rw [World.size_alloc] at h1
    rw [← hW1]; exact h1
  refine ⟨w.heap.size + 1, mark w.heap.size, W1, { target := .fn (.func gf) #[.pointer (some ⟨b, 0, none⟩)], args := #[.func (.yield (w.heap.size + 1)) #[] #[]] }, W1, gf,
    #[.func (.yield (w.heap.size + 1)) #[] #[], .pointer (some ⟨b, 0, none⟩)], W1, ?_, ?_, fun f' _ => trivial, ?_, fun _ => by omega, callsIn_wide.2 ?_⟩
  · rw [← hW1, hrec]; exact run_enterLoop_outer _ _ _ _ _
  · simp only [resolve, hga]
    simp [go_sem]
  · simp [invoke, go_sem, eg]
  · have e2 : ∀ {L : List Asn} {W : World}, St X.w0 W (ob (w.heap.size + 1) (.loop (rec .ready none)) :: ob w.heap.size dfr :: blk b [.slice A xs.length c] T :: dat (Kd.sl ek) [.slice A xs.length c] xs [] sv :: L) → St X.w0 W (blk b [.slice A xs.length c] T :: dat (Kd.sl ek) [.slice A xs.length c] xs [] sv :: ob (w.heap.size + 1) (.loop (rec .ready none)) :: ob w.heap.size dfr :: L) :=
      fun h => (h.perm (front_perm 3 _)).perm (front_perm 3 _)
    have e3 : ∀ {L : List Asn} {W : World}, St X.w0 W (blk b [.slice A xs.length c] T :: dat (Kd.sl ek) [.slice A xs.length c] xs [] sv :: ob (w.heap.size + 1) (.loop (rec .ready none)) :: ob w.heap.size dfr :: L) → St X.w0 W (ob (w.heap.size + 1) (.loop (rec .ready none)) :: ob w.heap.size dfr :: blk b [.slice A xs.length c] T :: dat (Kd.sl ek) [.slice A xs.length c] xs [] sv :: L) :=
      fun h => (h.perm (front_perm 3 _)).perm (front_perm 3 _)
    refine (hit (w.heap.size + 1) (fun k r => ob (w.heap.size + 1) (.loop (rec .ready none)) :: ob w.heap.size dfr :: Gr k r) (fun t => ob (w.heap.size + 1) (.loop (rec .done (some .ret))) :: ob w.heap.size dfr :: Gx t) pre prx ?_ r0 W1 hp0 (e2 hs1)).mono ?_
    · intro k r hp hlt y hy p cs s1 W hW
      have hW2 : St X.w0 W (ob (w.heap.size + 1) (.loop (rec .ready none)) :: ptr ek p cs y s1 :: ob w.heap.size dfr :: blk b [.slice A xs.length c] T :: dat (Kd.sl ek) [.slice A xs.length c] xs [] sv :: Gr k r) :=
        (((hW.perm (front_perm 4 _)).perm (front_perm 1 _)).perm (front_perm 4 _))
      have hl : W.heap[w.heap.size + 1]? = some (.loop (rec .ready none)) := hW2.at 0 rfl
      have hyd := run_yield (P := X.P) (args := #[.int .i64 ((xs.length - 1 - k : Nat) : Int), .agg cs.toArray]) hl (by rw [hrec]; rfl)
      rw [hrec] at hyd
      refine ⟨fn, _, assign, body, hyd, roundIn_of_wpIn trivial ?_⟩
      have h0 : Knows (X.rnd (w.heap.size + 1)).K l { tmps := a.tmps, defers := [] } := ⟨rfl, hk.2.1, hk.2.2⟩
      have hkn := (h0.put (.int .i64 ((xs.length - 1 - k : Nat) : Int)) (Nat.le_of_ble_eq_true hps.1)).put (.agg cs.toArray) (Nat.le_of_ble_eq_true hps.2)
      have hpt : ∃ w, ek.Rel w cs y [] s1 := ⟨W, ((hW.at 0 rfl : (ptr ek p cs y s1).P W)).2.2.2⟩
      have h1 := hb k r hp hlt y hy p cs s1 hpt (w.heap.size + 1) w.heap.size (.loop (rec .ready none)) _ W hkn hW2 9
      refine wpIn_mono (by simpa [Act.put, fof] using h1) ?_
      rintro e a1 w1 hq
      cases e with
      | normal =>
        obtain ⟨la, Gm, hk1, hst1, hbd⟩ := hq
        have hl1 : w1.heap[w.heap.size + 1]? = some (.loop (rec .ready none)) := hst1.at 0 rfl
        refine ⟨_, run_beginRound hl1 (by rw [hrec]), ?_⟩
        refine wpIn_mono (hbd (.loop { rec .ready none with state := .busy }) a1 _ hk1 (hst1.putO _) 9) ?_
        rintro e a3 W3 hq
        cases e with
        | normal =>
          obtain ⟨r', hp', hst3⟩ := hq
          refine ⟨_, _, run_endRound none (hst3.at 0 rfl), .inl ⟨rfl, r', hp', e2 ?_⟩⟩
          have h3 := hst3.putO (.loop (rec .ready none))
          rw [hrec] at h3 ⊢
          exact h3
        | ret =>
          obtain ⟨t, ht, hst3⟩ := hq
          refine ⟨_, _, run_endRound (some .ret) (hst3.at 0 rfl), .inr ⟨rfl, t, ht, ?_⟩⟩
          have h3 := hst3.putO (.loop (rec .done (some .ret)))
          rw [hrec] at h3 ⊢
          exact h3
        | exit id => exact hq.elim
        | goto t => exact hq.elim
        | panic ch => exact hq.elim
        | outgrown => exact hq.elim
      | exit id => exact hq.elim
      | ret => exact hq.elim
      | goto t => exact hq.elim
      | panic ch => exact hq.elim
      | outgrown => exact hq.elim
    · have hkD : Knows (X.mk' w.heap.size).K l { a with defers := mark w.heap.size ++ a.defers } := ⟨by simp [hk.1, hdf], hk.2.1, hk.2.2⟩
      rintro e W' ⟨⟨v, rfl⟩, (⟨r, hp, hst⟩ | ⟨t, ht, hst⟩)⟩
      · have h3 := e3 hst
        exact ⟨none, _, by have := run_endLoop (P := X.P) (h3.at 0 rfl) (by rw [hrec]; simp); rw [hrec] at this; exact this, hdone _ r hp _ _ hkD (h3.putO _).tail⟩
      · exact ⟨some .ret, _, by have := run_endLoop (P := X.P) (hst.at 0 rfl) (by rw [hrec]; simp); rw [hrec] at this; exact this, wpIn_ret (hret _ t ht _ _ hkD (hst.putO _).tail)⟩

theorem enw {X : Cx} {ops : Array Oper} {Q : Exit → Act → World → Prop} {l : List (Nat × Value)} {G : List Asn} (h : SK X (Q .normal) l G) : SL { X with rd := some none } ops Q [] l G := fun a w hk hs => wl_nil (h a w hk hs)
theorem run_cally {P : Program} {ρ : Operand → Value} {o : Oper} {x : Operand} {lo : Nat} {args : List Operand} {ts : Array TypeId} {w : World} {fn : FuncId} {tmps : Array Value} {asg bd : Code}
    (ho : o.op = .call { callee := .value x, args := args.toArray, argTypes := ts }) (hρ : ρ x = .func (.yield lo) #[] #[]) (hy : (Instr.yield lo (args.map ρ).toArray).run P w = .ok (.round lo fn tmps asg bd) w) :
    (execOp ρ o).run P w = .ok (.round lo fn tmps asg bd) w := by
  unfold execOp
  simp [ho, resolve, hρ, Deferred.ofValue, invoke]
  simpa using hy
theorem yb {α : Type} {ek : Kd α} {xs : List α} {ρ τ : Type} {x : Operand} {lo : Nat} {args : List Operand} {ts : Array TypeId} {cs : List Value} {y : α} {s1 : List Nat} {p : Addr} {b T : Nat} {A : Option Addr} {c : Nat} {sv : List Nat} {iz : Int} {k : Nat} {r0 : ρ} {w0 : World}
    {Gr : Nat → ρ → List Asn} {Gx : τ → List Asn} {pre : Nat → ρ → Prop} {prx : τ → Prop} (ks : List Nat)
    (hY : ∀ k r, pre k r → k < xs.length → ∀ y, xs[xs.length - 1 - k]? = some y → ∀ p cs s1 W, St w0 W (ptr ek p cs y s1 :: blk b [.slice A xs.length c] T :: dat (Kd.sl ek) [.slice A xs.length c] xs [] sv :: Gr k r) →
      YieldAt Fence.wide 9 X.P lo #[.int .i64 ((xs.length - 1 - k : Nat) : Int), .agg cs.toArray] W (fun e W' =>
        (e = .returned (.bool true) ∧ ∃ r', pre (k + 1) r' ∧ St w0 W' (blk b [.slice A xs.length c] T :: dat (Kd.sl ek) [.slice A xs.length c] xs [] sv :: Gr (k + 1) r')) ∨
        (e = .returned (.bool false) ∧ ∃ t, prx t ∧ St w0 W' (Gx t))))
    (ho : o.op = .call { callee := .value x, args := args.toArray, argTypes := ts }) (hx : ev l x = some (.func (.yield lo) #[] #[])) (hv : evs l args = some [.int .i64 iz, .agg cs.toArray]) (hp : pl X.N o = some d)
    (hpre : pre k r0) (hlt : k < xs.length) (hiz : iz = ((xs.length - 1 - k : Nat) : Int)) (hy : xs[xs.length - 1 - k]? = some y)
    (hG : pickAll ks G = [ptr ek p cs y s1, blk b [.slice A xs.length c] T, dat (Kd.sl ek) [.slice A xs.length c] xs [] sv, cj (Gr k r0)])
    (hT : ∀ r', pre (k + 1) r' → SL X ops Q r ((d, .bool true) :: l) [blk b [.slice A xs.length c] T, dat (Kd.sl ek) [.slice A xs.length c] xs [] sv, cj (Gr (k + 1) r')])
    (hF : ∀ t, prx t → SL X ops Q r ((d, .bool false) :: l) [cj (Gx t)]) (hw0 : X.w0 = w0 := by rfl) (hrd : X.rd = some none := by rfl) : SL X ops Q (o :: r) l G := fun a w hk hs => by
  subst hiz
  subst hw0
  obtain ⟨hd, hN, hg⟩ := pl_spec hp
  have hs1 : St X.w0 w ([ptr ek p cs y s1, blk b [.slice A xs.length c] T, dat (Kd.sl ek) [.slice A xs.length c] xs [] sv] ++ Gr k r0) := St.cjl (Ms := [ptr ek p cs y s1, blk b [.slice A xs.length c] T, dat (Kd.sl ek) [.slice A xs.length c] xs [] sv]) (hs.pk ks hG)
  obtain ⟨fn, tmps, asg, bd, hyd, hR⟩ := hY k r0 hpre hlt y hy p cs s1 w hs1
  unfold Cx.wl
  rw [hrd]
  intro n
  show wpListIn _ _ _ _ _ _ _ _
  unfold wpListIn
  rw [if_pos (by simp [Region.wanted, hg])]
  refine ⟨fun f _ => fof_fn _ f, ?_⟩
  have hrun := run_cally (ρ := a.eval) ho (hk.ev hx) (by rw [hk.evs hv]; exact hyd)
  show Oper.uponIn Fence.wide n X.P o a _ _ ((execOp a.eval o).run X.P w)
  rw [hrun, Oper.uponIn_round]
  refine ⟨fun h => (by cases h), hR.1, fun cf cs' _ => ?_⟩
  obtain ⟨e, w', he, hcome⟩ := hR.2 cf cs' (room_wide _)
  refine ⟨e, w', ?_, hcome⟩
  have back : ∀ (v : Value) {G' : List Asn}, SL X ops Q r ((d, v) :: l) G' → St X.w0 w' G' → wpListIn Fence.wide n X.P ops Q r (a.put o.dst v) w' := fun v G' hgo hst => by
    have h1 := hgo (a.put (some d) v) w' (hk.put v hN) hst
    unfold Cx.wl at h1
    rw [hrd] at h1
    rw [hd]
    exact h1 n
  rcases he with ⟨rfl, r', hp', hst⟩ | ⟨rfl, t, ht, hst⟩
  · exact back _ (hT r' hp') (St.cjr (Ms := [blk b [.slice A xs.length c] T, dat (Kd.sl ek) [.slice A xs.length c] xs [] sv]) hst)
  · exact back _ (hF t ht) (St.cjr (Ms := []) hst)
theorem ret0 {fn : Func} {R : Ending → World → Prop} (hr : fn.results = #[]) (h : ∀ w, St X.w0 w G → ∀ v, R (.returned v) w) (hdf : X.df = [] := by rfl) : SK X (bodyPost X.P fn R .ret) l G := fun a w hk hs =>
  bodyPost_ret (results_none hr _ _ _) (hk.1.trans hdf) (h w hs _)
theorem nor0 {fn : Func} {R : Ending → World → Prop} (hr : fn.results = #[]) (h : ∀ w, St X.w0 w G → ∀ v, R (.returned v) w) (hdf : X.df = [] := by rfl) : SK X (bodyPost X.P fn R .normal) l G := fun a w hk hs =>
  bodyPost_ret (results_none hr _ _ _) (hk.1.trans hdf) (h w hs _)
end
section
variable {X : Cx} {o : Oper} {l : List (Nat × Value)} {G G1 : List Asn} {v : Value} {ops : Array Oper} {Q : Exit → Act → World → Prop} {r : List Oper} {K : Act → World → Prop} {d : Nat}
def BackMade (gf T : Nat) (v : Value) (w : World) (e : Ending) (w' : World) : Prop := ∃ b, e = .returned (.func (.func gf) #[] #[.pointer (some ⟨b, 0, none⟩)]) ∧ Below w.heap.size w w' ∧ w.heap.size ≤ b ∧ w'.heap[b]? = some (.cells #[v] T (0, 0))
theorem retb {fn : Func} {t gf T b : Nat} {v : Value} (k : Nat) (hr : fn.results = #[.tmp t]) (hv : look l t = some (.func (.func gf) #[] #[.pointer (some ⟨b, 0, none⟩)])) (hG : G[k]? = some (blk b [v] T)) (hdf : X.df = [] := by rfl) : SK X (bodyPost X.P fn (BackMade gf T v X.w0) .ret) l G :=
  ret1 hr hv (fun w hs => ⟨b, rfl, hs.below, hs.new _ (List.mem_of_getElem? hG) b (by simp [blk]), hs.at k hG⟩) hdf
theorem cbk {f gf T : Nat} {args : List Operand} {ts : Array TypeId} {vs : List Value} {v : Value} (hE : enters X.P f = true)
    (ho : o.op = .call { callee := .value (.func f), args := args.toArray, argTypes := ts }) (hv : evs l args = some vs) (hp : pl X.N o = some d)
    (hc : ∀ w, St X.w0 w G → Calls X.P f vs.toArray w (BackMade gf T v w))
    (h : ∀ b, SL X ops Q r ((d, .func (.func gf) #[] #[.pointer (some ⟨b, 0, none⟩)]) :: l) (blk b [v] T :: G)) : SL X ops Q (o :: r) l G := by
  obtain ⟨fn, h1, h2, h3⟩ := enters_spec hE
  refine clx ho h1 h2 h3 hv hp fun a w hk hs => (hc w hs).mono ?_
  rintro e w' ⟨b, rfl, hb, hn, hw⟩
  refine ⟨_, rfl, fun a' ha' => h b a' w' ha' ?_⟩
  refine (hs.step hb).cons hw (fun b' hb' => by simp [blk] at hb'; subst hb'; exact Nat.le_trans hs.below.size hn) ⟨by simp [blk], by simp [blk]⟩ (fun B hB => ⟨fun b' hb' => ?_, fun b' _ hx => by simp [blk] at hx⟩)
  simp [blk] at hb'
  subst hb'
  exact ⟨fun hx => by have := hs.lt hB (.inl hx); omega, fun hx => by have := hs.lt hB (.inr hx); omega⟩
theorem rndn {R : World → Prop} {ρ : Type} {pr : ρ → Prop} {H : ρ → List Asn} (s : ρ) (ks : List Nat) (hp : pr s) (hG : pickAll ks G = H s) : SK X (rndQ (fun w => ∃ r', pr r' ∧ St X.w0 w (H r')) R .normal) l G := fun a w hk hs => ⟨s, hp, hs.pk ks hG⟩
end
section
variable {X : Cx} {o : Oper} {l : List (Nat × Value)} {G G1 : List Asn} {v : Value} {ops : Array Oper} {Q : Exit → Act → World → Prop} {r : List Oper} {K : Act → World → Prop} {d : Nat} {α : Type}
theorem run_bs2 {P : Program} {t e : TypeId} {i : TypeInfo} {z : Value} (ht : P.underlying t = some (.slice e)) (hi : P.info? e = some i) (hz : i.zero = some z) (w : World) (a b : Int) (k : IntKind) (hl : i.size = 1) :
    (Instr.buildSlice t 2 #[(0, .int k a), (1, .int k b)]).run P w = .ok (.slice (some ⟨w.heap.size, 0, none⟩) 2 2) (w.alloc (.cells #[.int k a, .int k b] e)) := by
  have key : ∀ c : Array Value, c.size = 2 → (c.setIfInBounds 0 (.int k a)).setIfInBounds 1 (.int k b) = #[.int k a, .int k b] := by
    rintro ⟨l⟩ hc
    match l, hc with
    | [x, y], _ => simp
  simp [Instr.buildSlice, run_underlying ht, sizeOf, typeInfo, zeroValue, hi, hz, Instr.fill, newRow, newObj, hl, Value.cells]
  rw [key _ (by simp)]
  rfl
theorem bs2 {zv : Value} {t e by_ : Nat} {x y : Operand} {a b : Int} (he : look X.T.elem t = some e) (hi : (X.P.info? e).map (fun i => (i.zero, i.size, i.bytes)) = some (some zv, 1, by_))
    (ho : o.op = .buildSlice t 2 #[(0, x), (1, y)]) (hx : ev l x = some (.int .i64 a)) (hy : ev l y = some (.int .i64 b)) (hp : pl X.N o = some d)
    (h : ∀ b', SL X ops Q r ((d, .slice (some ⟨b', 0, none⟩) 2 2) :: l) (dat (Kd.row e Kd.i64) [.slice (some ⟨b', 0, none⟩) 2 2] [a, b] [b'] [] :: G)) : SL X ops Q (o :: r) l G := fun ac w hk hs => by
  obtain ⟨hd, hN, hg⟩ := pl_spec hp
  refine wl_plain hg fun K hK => ?_
  obtain ⟨i, hi1, hi2⟩ := Option.map_eq_some_iff.1 hi
  simp only [Prod.mk.injEq] at hi2
  have hr := run_bs2 (P := X.P) (Tab.elemOk X.ok he) hi1 hi2.1 w a b .i64 hi2.2.1
  unfold Oper.wp execOp
  simp only [ho, List.map_toArray, List.map_cons, List.map_nil, hk.ev hx, hk.ev hy, Sem.run_bind, hr, Result.andThen_ok]
  suffices hS : St X.w0 (w.alloc (.cells #[.int .i64 a, .int .i64 b] e)) (dat (Kd.row e Kd.i64) [.slice (some ⟨w.heap.size, 0, none⟩) 2 2] [a, b] [w.heap.size] [] :: G) from
    hK _ _ (by rw [hd]; exact h w.heap.size _ _ (hk.put _ hN) hS)
  have hR : (Kd.row e Kd.i64).Rel (w.alloc (.cells #[.int .i64 a, .int .i64 b] e)) [.slice (some ⟨w.heap.size, 0, none⟩) 2 2] [a, b] [w.heap.size] [] :=
    Kd.row_mk (heap_alloc_new w (.cells #[.int .i64 a, .int .i64 b] e)) rfl (Nat.le_refl _) (by simp [maxLen]) (by omega) (by simp [Kd.i64, Kd.int, Kd.scal]) (by
      have e1 : (#[Value.int .i64 a, Value.int .i64 b] : Array Value).toList.take (2 * Kd.i64.sz) = [.int .i64 a] ++ [.int .i64 b] := rfl
      rw [e1]
      exact Kd.Elems.cons (d := Kd.i64) (c := [.int .i64 a]) (cs := [.int .i64 b] ++ []) (x := a) (xs := [b]) (o := []) (o' := []) (s := []) (s' := []) ⟨rfl, rfl, rfl⟩ (Kd.Elems.cons (d := Kd.i64) (c := [.int .i64 b]) (x := b) (cs := []) (o := []) (o' := []) (s := []) (s' := []) ⟨rfl, rfl, rfl⟩ .nil))
  refine (hs.step (w' := w.alloc _) ((Below.refl _ _).alloc (Nat.le_refl _) _)).cons hR (fun b hb => ?_) ⟨by simp [dat], by simp [dat]⟩ (fun B hB => ⟨fun b hb => ?_, fun b _ => by simp [dat]⟩)
  · simp [dat] at hb; subst hb; exact hs.below.size
  · simp [dat] at hb; subst hb; exact ⟨fun hx => Nat.lt_irrefl _ (hs.lt hB (.inl hx)), fun hx => Nat.lt_irrefl _ (hs.lt hB (.inr hx))⟩
end
section

abbrev Tg (α : Type) := α × List Value × List Nat × List Nat
namespace Kd
section
variable {α : Type}
def tag (d : Kd α) : Kd (Tg α) where
  sz := d.sz
  Rel w cs t o s := cs = t.2.1 ∧ d.Rel w cs t.1 o s
  len h := d.len h.2
  one h := d.one h.2
  keep ho hs h := ⟨h.1, d.keep ho hs h.2⟩
  lt h := d.lt h.2
theorem Pure.tag {d : Kd α} (h : d.Pure) : d.tag.Pure := fun w cs x o s hr => h w cs x.1 o s hr.2
theorem Seals.tag {d : Kd α} (h : Seals d d) : Seals d.tag d.tag := ⟨rfl, fun w cs x o s hr => by
  obtain ⟨s', h1, h2⟩ := h.2 w cs x.1 o s hr.2
  exact ⟨s', h1, hr.1, h2⟩⟩
theorem Elems.tags {da db : Kd α} (hS : Seals da db) {w : World} {cs : List Value} {xs : List α} {o s : List Nat} (h : Elems da w cs xs o s) :
    ∃ (ts : List (Tg α)) (s' : List Nat), ts.map (·.1) = xs ∧ o = ts.flatMap (·.2.2.1) ∧ s = ts.flatMap (·.2.2.2) ∧ (∀ t ∈ ts, da.Rel w t.2.1 t.1 t.2.2.1 t.2.2.2) ∧ (∀ b ∈ s', b ∈ o ∨ b ∈ s) ∧ Elems db.tag w cs ts [] s' := by
  induction h with
  | nil => exact ⟨[], [], rfl, rfl, rfl, by simp, by simp, .nil⟩
  | @cons c cs x xs o o' s s' hr he ih =>
    obtain ⟨ts, s1, h1, h2, h3, h4, h5, h6⟩ := ih
    obtain ⟨s2, h7, h8⟩ := hS.2 w c x o s hr
    refine ⟨(x, c, o, s) :: ts, s2 ++ s1, by simp [h1], by simp [h2], by simp [h3], ?_, ?_, ?_⟩
    · intro t ht
      rcases List.mem_cons.1 ht with rfl | ht
      · exact hr
      · exact h4 t ht
    · intro b hb
      simp only [List.mem_append] at hb ⊢
      rcases hb with hb | hb
      · rcases h7 b hb with h | h
        · exact .inl (.inl h)
        · exact .inr (.inl h)
      · rcases h5 b hb with h | h
        · exact .inl (.inr h)
        · exact .inr (.inr h)
    · exact Elems.cons (d := db.tag) (x := (x, c, o, s)) (o := []) (o' := []) ⟨rfl, h8⟩ h6
theorem Elems.untag {da db : Kd α} {w : World} {cs : List Value} {ts : List (Tg α)} {oo ss : List Nat} (h : Elems db.tag w cs ts oo ss) (hk : ∀ t ∈ ts, da.Rel w t.2.1 t.1 t.2.2.1 t.2.2.2) :
    Elems da w cs (ts.map (·.1)) (ts.flatMap (·.2.2.1)) (ts.flatMap (·.2.2.2)) := by
  induction h with
  | nil => exact .nil
  | @cons c cs x xs o o' s s' hr he ih =>
    obtain ⟨rfl, -⟩ := hr
    simp only [List.map_cons, List.flatMap_cons]
    exact .cons (hk x (by simp)) (ih (fun t ht => hk t (List.mem_cons_of_mem _ ht)))
end
end Kd
theorem sub_flatMap {α β : Type} {f : α → List β} {l1 l2 : List α} (h : l1.Sublist l2) : (l1.flatMap f).Sublist (l2.flatMap f) := by
  induction h with
  | slnil => exact .slnil
  | cons a h ih => exact ih.trans (by rw [List.flatMap_cons]; exact List.sublist_append_right _ _)
  | cons_cons a h ih => rw [List.flatMap_cons, List.flatMap_cons]; exact (List.Sublist.refl _).append ih
theorem row_tags {α : Type} {da db : Kd α} {e : TypeId} (hS : Kd.Seals da db) {w : World} {A : Option Addr} {c : Nat} {xs : List α} {o s : List Nat} (hr : (Kd.row e da).Rel w [.slice A xs.length c] xs o s) : ∃ (ts : List (Tg α)) (bs s' : List Nat), ts.map (·.1) = xs ∧ o = bs ++ ts.flatMap (·.2.2.1) ∧ s = ts.flatMap (·.2.2.2) ∧ (∀ t ∈ ts, da.Rel w t.2.1 t.1 t.2.2.1 t.2.2.2) ∧ (∀ b ∈ s', b ∈ ts.flatMap (·.2.2.1) ∨ b ∈ s) ∧ (Kd.row e db.tag).Rel w [.slice A ts.length c] ts bs s' := by
  rcases hr with ⟨rfl, rfl, rfl, hc⟩ | ⟨b, c', cur, o', hc, rfl, hb, h1, h2, h3, he⟩
  · exact ⟨[], [], [], rfl, rfl, rfl, by simp, by simp, .inl ⟨rfl, rfl, rfl, hc⟩⟩
  · obtain ⟨ts, s', h4, h5, h6, h7, h8, h9⟩ := he.tags hS
    have hlen : ts.length = xs.length := by rw [← h4, List.length_map]
    have hsz : da.sz = db.sz := hS.1
    refine ⟨ts, [b], s', h4, by rw [← h5]; rfl, h6, h7, fun q hq => by rw [← h5]; exact h8 q hq, .inr ⟨b, c', cur, [], ?_, rfl, hb, by omega, ⟨h2.1, by omega⟩, ?_, ?_⟩⟩
    · rw [hlen]; exact hc
    · exact h3.trans (by rw [hsz]; rfl)
    · rw [hlen]; show Kd.Elems db.tag w (cur.toList.take (xs.length * db.sz)) ts [] s'; rw [← hsz]; exact h9
def pool {α : Type} (da : Kd α) (ts : List (Tg α)) : Asn where
  own := []
  see := ts.flatMap (·.2.2.1) ++ ts.flatMap (·.2.2.2)
  P w := ∀ t ∈ ts, da.Rel w t.2.1 t.1 t.2.2.1 t.2.2.2
  keep w w' _ _ hs h := fun t ht => da.keep (fun b hb => hs b (List.mem_append_left _ (List.mem_flatMap.2 ⟨t, ht, hb⟩))) (fun b hb => hs b (List.mem_append_right _ (List.mem_flatMap.2 ⟨t, ht, hb⟩))) (h t ht)
  lt w h b hb := by
    rcases hb with hb | hb
    · cases hb
    · rcases List.mem_append.1 hb with hb | hb
      · obtain ⟨t, ht, hb⟩ := List.mem_flatMap.1 hb; exact da.lt (h t ht) b (.inl hb)
      · obtain ⟨t, ht, hb⟩ := List.mem_flatMap.1 hb; exact da.lt (h t ht) b (.inr hb)
section
variable {X : Cx} {l : List (Nat × Value)} {G : List Asn} {K : Act → World → Prop} {α : Type}
theorem gtag {e : TypeId} {da db : Kd α} {A : Option Addr} {c n : Nat} {xs : List α} {o s : List Nat} (hS : Kd.Seals da db) (hn : n = xs.length)
    (h : ∀ (ts : List (Tg α)) (bs s' : List Nat), ts.map (·.1) = xs → (∀ b ∈ ts.flatMap (·.2.2.1), X.w0.heap.size ≤ b) → (ts.flatMap (·.2.2.1)).Nodup → s = ts.flatMap (·.2.2.2) → (∀ t ∈ ts, ∀ b ∈ t.2.2.1, ∀ t' ∈ ts, b ∉ t'.2.2.2) → (∀ b ∈ s', b ∈ ts.flatMap (·.2.2.1) ∨ b ∈ s) → SK X K l (dat (Kd.row e db.tag) [.slice A n c] ts bs s' :: pool da ts :: G)) :
    SK X K l (dat (Kd.row e da) [.slice A n c] xs o s :: G) := fun a w hk hs => by
  subst hn
  have hr : (Kd.row e da).Rel w [.slice A xs.length c] xs o s := hs.at 0 rfl
  have hu0 := hs.uniq _ (List.mem_cons_self ..)
  have hu : o.Nodup ∧ ∀ b ∈ o, b ∉ s := hu0
  have hnew : ∀ b ∈ o, X.w0.heap.size ≤ b := hs.new _ (List.mem_cons_self ..)
  obtain ⟨hsep, htl⟩ := List.pairwise_cons.1 hs.sep
  obtain ⟨ts, bs, s', h1, h2, h3, h4, h5, h6⟩ := row_tags hS hr
  rw [show ts.length = xs.length by rw [← h1, List.length_map]] at h6
  have hnd : bs.Nodup ∧ (ts.flatMap (·.2.2.1)).Nodup ∧ ∀ b ∈ bs, b ∉ ts.flatMap (·.2.2.1) := by
    have := hu.1; rw [h2, List.nodup_append] at this
    exact ⟨this.1, this.2.1, fun b hb hb' => this.2.2 b hb b hb' rfl⟩
  have hbo : ∀ b ∈ bs, b ∈ o := fun b hb => by rw [h2]; exact List.mem_append_left _ hb
  have hfo : ∀ b ∈ ts.flatMap (·.2.2.1), b ∈ o := fun b hb => by rw [h2]; exact List.mem_append_right _ hb
  have hpool : ∀ B ∈ G, Apart (pool da ts) B := fun B hB => ⟨fun b hb => by simp [pool] at hb, fun b hb hb' => by
    have hA : Apart (dat (Kd.row e da) [.slice A xs.length c] xs o s) B := hsep B hB
    rcases List.mem_append.1 hb' with hb' | hb'
    · exact (hA.1 b (hfo b hb')).1 hb
    · rw [← h3] at hb'; exact hA.2 b hb hb'⟩
  have hst1 : St X.w0 w (pool da ts :: G) := hs.tail.cons h4 (fun b hb => by simp [pool] at hb) ⟨by simp [pool], fun b hb => by simp [pool] at hb⟩ hpool
  refine h ts bs s' h1 (fun b hb => hnew b (hfo b hb)) hnd.2.1 h3 (fun t ht b hb t' ht' hb' => hu.2 b (hfo b (List.mem_flatMap.2 ⟨t, ht, hb⟩)) (by rw [h3]; exact List.mem_flatMap.2 ⟨t', ht', hb'⟩)) h5 a w hk (hst1.cons h6 (fun b hb => hnew b (hbo b hb)) ⟨hnd.1, fun b hb hb' => ?_⟩ (fun B hB => ?_))
  · rcases h5 b hb' with h | h
    · exact hnd.2.2 b hb h
    · exact hu.2 b (hbo b hb) h
  · rcases List.mem_cons.1 hB with rfl | hB
    · refine ⟨fun b hb => ⟨by simp [pool], fun hb' => ?_⟩, fun b hb => by simp [pool] at hb⟩
      rcases List.mem_append.1 hb' with hb' | hb'
      · exact hnd.2.2 b hb hb'
      · rw [← h3] at hb'; exact hu.2 b (hbo b hb) hb'
    · have hA : Apart (dat (Kd.row e da) [.slice A xs.length c] xs o s) B := hsep B hB
      refine ⟨fun b hb => hA.1 b (hbo b hb), fun b hb hb' => ?_⟩
      rcases h5 b hb' with h | h
      · exact (hA.1 b (hfo b h)).1 hb
      · exact hA.2 b hb h
theorem gut {e : TypeId} {da db : Kd α} {A : Option Addr} {c n : Nat} {ts tx : List (Tg α)} {oo ss : List Nat} (k : Nat) (hS : Kd.Seals da db) (hp : db.Pure) (hk : G[k]? = some (pool da ts)) (hmem : ∀ t ∈ tx, t ∈ ts) (hnd : (tx.flatMap (·.2.2.1)).Nodup) (hnew : ∀ b ∈ ts.flatMap (·.2.2.1), X.w0.heap.size ≤ b)
    (h : ∀ o', SK X K l [dat (Kd.row e da) [.slice A n c] (tx.map (·.1)) o' (tx.flatMap (·.2.2.2))]) (hos : ∀ t ∈ ts, ∀ b ∈ t.2.2.1, ∀ t' ∈ ts, b ∉ t'.2.2.2) :
    SK X K l (dat (Kd.row e db.tag) [.slice A n c] tx oo ss :: G) := fun a w hk' hs => by
  have hr : (Kd.row e db.tag).Rel w [.slice A n c] tx oo ss := hs.at 0 rfl
  have hpl : ∀ t ∈ ts, da.Rel w t.2.1 t.1 t.2.2.1 t.2.2.2 := (hs.tail).at k hk
  obtain ⟨hsep, htl⟩ := List.pairwise_cons.1 hs.sep
  have hA : Apart (dat (Kd.row e db.tag) [.slice A n c] tx oo ss) (pool da ts) := hsep _ (List.mem_of_getElem? hk)
  have hu0 := hs.uniq _ (List.mem_cons_self ..)
  have hu : oo.Nodup ∧ ∀ b ∈ oo, b ∉ ss := hu0
  have hno : ∀ b ∈ oo, X.w0.heap.size ≤ b := hs.new _ (List.mem_cons_self ..)
  have hsub : ∀ b ∈ tx.flatMap (·.2.2.1), b ∈ ts.flatMap (·.2.2.1) := fun b hb => by
    obtain ⟨t, ht, hb⟩ := List.mem_flatMap.1 hb; exact List.mem_flatMap.2 ⟨t, hmem t ht, hb⟩
  have hsee : ∀ b ∈ oo, b ∉ tx.flatMap (·.2.2.1) ∧ b ∉ tx.flatMap (·.2.2.2) := fun b hb => by
    have := (hA.1 b hb).2
    refine ⟨fun h1 => this (List.mem_append_left _ (hsub b h1)), fun h1 => ?_⟩
    obtain ⟨t, ht, h1⟩ := List.mem_flatMap.1 h1
    exact this (List.mem_append_right _ (List.mem_flatMap.2 ⟨t, hmem t ht, h1⟩))
  have hsz : da.sz = db.sz := hS.1
  refine h (oo ++ tx.flatMap (·.2.2.1)) a w hk' ((St.nil hs.below).cons ?_ (fun b hb => ?_) ⟨?_, fun b hb hb' => ?_⟩ (by simp))
  · show (Kd.row e da).Rel w [.slice A n c] (tx.map (·.1)) (oo ++ tx.flatMap (·.2.2.1)) (tx.flatMap (·.2.2.2))
    rcases hr with ⟨rfl, rfl, rfl, hc⟩ | ⟨b, c', cur, o', hc, rfl, hb, h7, h8, h9, he⟩
    · exact .inl ⟨rfl, rfl, rfl, hc⟩
    · have ho' : o' = [] := Kd.Elems.pure hp.tag he
      subst ho'
      exact .inr ⟨b, c', cur, _, by rw [List.length_map]; exact hc, rfl, hb, by rw [List.length_map]; exact h7, ⟨h8.1, by rw [List.length_map]; exact h8.2⟩, h9.trans (by rw [hsz]; rfl), by rw [List.length_map, hsz]; exact he.untag (fun t ht => hpl t (hmem t ht))⟩
  · rcases List.mem_append.1 hb with hb | hb
    · exact hno b hb
    · exact hnew b (hsub b hb)
  · exact List.nodup_append.2 ⟨hu.1, hnd, fun b hb b' hb' e => (hsee b hb).1 (e ▸ hb')⟩
  · rcases List.mem_append.1 hb with hb | hb
    · exact (hsee b hb).2 hb'
    · obtain ⟨t, ht, hb⟩ := List.mem_flatMap.1 hb
      obtain ⟨t', ht', hb'⟩ := List.mem_flatMap.1 hb'
      exact hos t (hmem t ht) b hb t' (hmem t' ht') hb'
end
end
section
variable {X : Cx} {o : Oper} {l : List (Nat × Value)} {G : List Asn} {v : Value}
namespace Kd
abbrev u8 : Kd Int := int .u8
theorem Seals.u8 : Seals Kd.u8 Kd.u8 := .scal _ (fun _ => rfl)
theorem Pure.u8 : Kd.u8.Pure := fun _ _ _ _ _ h => h.2.1
end Kd
section
variable {G1 : List Asn} {ops : Array Oper} {Q : Exit → Act → World → Prop} {r : List Oper} {K : Act → World → Prop} {d : Nat} {α : Type} {dk : Kd α}
end
end
section
section
variable {X : Cx} {l : List (Nat × Value)} {G : List Asn} {K : Act → World → Prop} {α : Type} {dk : Kd α}
theorem boxrow {b : Nat} {cs : List Value} {ty : TypeId} {x : α} {o s : List Nat} (h : SK X K l (dat (Kd.row ty dk) [.slice (some ⟨b, 0, none⟩) 1 1] [x] (b :: o) s :: G)) : SK X K l (blk b cs ty :: dat dk cs x o s :: G) := fun a w hk hs => by
  have hb : w.heap[b]? = some (.cells cs.toArray ty (0, 0)) := hs.at 0 rfl
  have hr : dk.Rel w cs x o s := hs.at 1 rfl
  have hl := dk.len hr
  have hu := hs.uniq (dat dk cs x o s) (by simp)
  have hap : Apart (blk b cs ty) (dat dk cs x o s) := (List.pairwise_cons.1 hs.sep).1 _ (by simp)
  have hb1 := hap.1 b (by simp [blk])
  refine h a w hk (hs.swap (As := [blk b cs ty, dat dk cs x o s]) (Bs := [dat (Kd.row ty dk) [.slice (some ⟨b, 0, none⟩) 1 1] [x] (b :: o) s]) (.refl _ _) ?_ ?_ ?_ ?_ (by simp))
  · intro B hB
    rw [List.mem_singleton] at hB; subst hB
    refine .inr ⟨b, 1, cs.toArray, o, rfl, rfl, hb, Nat.le_refl _, ⟨by unfold maxLen; omega, by simp⟩, by simp [hl], ?_⟩
    have e1 : cs.toArray.toList.take ([x].length * dk.sz) = cs ++ [] := by
      rw [List.append_nil]
      exact List.take_of_length_le (by simp [hl])
    rw [e1]
    have := Kd.Elems.cons hr (Kd.Elems.nil (d := dk) (w := w))
    simpa using this
  · intro B hB q hq
    rw [List.mem_singleton] at hB; subst hB
    left
    simp only [dat, List.mem_cons] at hq
    simp only [owns, List.flatMap_cons, List.flatMap_nil, List.append_nil, blk, dat, List.mem_append, List.mem_singleton]
    exact hq
  · intro B hB q hq
    rw [List.mem_singleton] at hB; subst hB
    exact .inl ⟨dat dk cs x o s, by simp, .inr hq⟩
  · intro B hB
    rw [List.mem_singleton] at hB; subst hB
    refine ⟨List.nodup_cons.2 ⟨hb1.1, hu.1⟩, fun q hq => ?_⟩
    rcases List.mem_cons.1 hq with rfl | hq
    · exact hb1.2
    · exact hu.2 q hq
theorem rowbox {b : Nat} {ty : TypeId} {x : α} {o s : List Nat} (h : ∀ cs o' s' w, dk.Rel w cs x o' s' → (∀ q ∈ s', q ∈ s) → SK X K l (blk b cs ty :: dat dk cs x o' s' :: G)) : SK X K l (dat (Kd.row ty dk) [.slice (some ⟨b, 0, none⟩) 1 1] [x] o s :: G) := fun a w hk hs => by
  have hR : (Kd.row ty dk).Rel w [.slice (some ⟨b, 0, none⟩) 1 1] [x] o s := hs.at 0 rfl
  have hu := hs.uniq (dat (Kd.row ty dk) [.slice (some ⟨b, 0, none⟩) 1 1] [x] o s) (by simp)
  rcases hR with ⟨h0, -⟩ | ⟨b', c', cur, o', hcs, rfl, hb, hc, hm, hz, hE⟩
  · cases h0
  · simp only [List.length_singleton, List.cons.injEq, Value.slice.injEq, Option.some.injEq, Addr.mk.injEq, and_true, true_and] at hcs
    obtain ⟨rfl, rfl⟩ := hcs
    have e1 : cur.toList.take ([x].length * dk.sz) = cur.toList := List.take_of_length_le (by simp [hz])
    rw [e1] at hE
    generalize hcc : cur.toList = cc at hE
    cases hE with
    | cons h1 h2 =>
      cases h2
      rename_i cs oo ss
      have hcur : cur = cs.toArray := by rw [List.append_nil] at hcc; rw [← hcc]
      simp only [List.append_nil] at hs hu
      have hu1 := hu.1
      have hu2 := hu.2
      simp only [dat, List.nodup_cons] at hu1
      refine h cs oo ss w h1 (fun q hq => by simpa using hq) a w hk (hs.swap (As := [dat (Kd.row ty dk) [.slice (some ⟨b, 0, none⟩) 1 1] [x] (b :: oo) ss]) (Bs := [blk b cs ty, dat dk cs x oo ss]) (.refl _ _) ?_ ?_ ?_ ?_ ?_)
      · intro B hB
        simp only [List.mem_cons, List.not_mem_nil, or_false] at hB
        rcases hB with rfl | rfl
        · show w.heap[b]? = _; rw [hb, hcur]
        · exact h1
      · intro B hB q hq
        simp only [List.mem_cons, List.not_mem_nil, or_false] at hB
        left
        simp only [owns, List.flatMap_cons, List.flatMap_nil, List.append_nil, dat, List.mem_cons]
        rcases hB with rfl | rfl
        · simp [blk] at hq; exact .inl hq
        · exact .inr hq
      · intro B hB q hq
        simp only [List.mem_cons, List.not_mem_nil, or_false] at hB
        rcases hB with rfl | rfl
        · simp [blk] at hq
        · exact .inl ⟨_, List.mem_singleton_self _, .inr hq⟩
      · intro B hB
        simp only [List.mem_cons, List.not_mem_nil, or_false] at hB
        rcases hB with rfl | rfl
        · simp [blk]
        · exact ⟨hu1.2, fun q hq => hu2 q (by simp only [dat, List.mem_cons]; exact .inr hq)⟩
      · refine List.pairwise_cons.2 ⟨fun B hB => ?_, by simp⟩
        rw [List.mem_singleton] at hB; subst hB
        refine ⟨fun q hq => ?_, fun q hq => by simp [blk]⟩
        simp [blk] at hq; subst hq
        exact ⟨hu1.1, hu2 q (by simp [dat])⟩
end
section
variable {X : Cx} {l : List (Nat × Value)} {G : List Asn}
theorem ret00 {fn : Func} {R : Ending → World → Prop} (hr : fn.results = #[]) (h : ∀ w, St X.w0 w G → R (.returned (.tuple #[])) w) (hdf : X.df = [] := by rfl) : SK X (bodyPost X.P fn R .ret) l G := fun a w hk hs =>
  bodyPost_ret (results_none hr _ _ _) (hk.1.trans hdf) (h w hs)
theorem nor00 {fn : Func} {R : Ending → World → Prop} (hr : fn.results = #[]) (h : ∀ w, St X.w0 w G → R (.returned (.tuple #[])) w) (hdf : X.df = [] := by rfl) : SK X (bodyPost X.P fn R .normal) l G := fun a w hk hs =>
  bodyPost_ret (results_none hr _ _ _) (hk.1.trans hdf) (h w hs)
end
section
variable {X : Cx} {o : Oper} {l : List (Nat × Value)} {G G1 : List Asn} {v : Value} {ops : Array Oper} {Q : Exit → Act → World → Prop} {r : List Oper} {K : Act → World → Prop} {d : Nat}
theorem cmm {α : Type} {dk : Kd α} {x : α} {S : List Nat} {f : FuncId} {args : List Operand} {ts : Array TypeId} {vs : List Value} (hE : enters X.P f = true)
    (ho : o.op = .call { callee := .value (.func f), args := args.toArray, argTypes := ts }) (hv : evs l args = some vs) (hp : pl X.N o = some d)
    (hS : ∀ b ∈ S, ∃ A ∈ G, b ∈ A.see) (m : Nat) (hm : ∀ w, St X.w0 w G → m ≤ w.heap.size)
    (hc : ∀ w, St X.w0 w G → Calls X.P f vs.toArray w (Made dk w x S))
    (h : ∀ cs o s w, dk.Rel w cs x o s → (∀ b ∈ s, b ∈ S ∨ m ≤ b) → SL X ops Q r ((d, valof cs) :: l) (dat dk cs x o s :: G)) : SL X ops Q (o :: r) l G := by
  obtain ⟨fn, h1, h2, h3⟩ := enters_spec hE
  refine clx ho h1 h2 h3 hv hp fun a w hk hs => (hc w hs).mono ?_
  rintro e w' ⟨hb, cs, ow, se, rfl, hr, hn, hnd, hdis, hse⟩
  refine ⟨_, rfl, fun a' ha' => h cs ow se w' hr (fun b hb => (hse b hb).imp_right (Nat.le_trans (hm w hs))) a' w' ha' ?_⟩
  refine (hs.step hb).cons hr (fun b hb' => Nat.le_trans hs.below.size (hn b hb')) ⟨hnd, hdis⟩ (fun B hB => ⟨fun b hb' => ?_, fun b hb' hx => ?_⟩)
  · have := hn b hb'
    exact ⟨fun hx => by have := hs.lt hB (.inl hx); omega, fun hx => by have := hs.lt hB (.inr hx); omega⟩
  · rcases hse b hx with h4 | h4
    · obtain ⟨A, hA, h5⟩ := hS b h4
      by_cases hAB : A = B
      · subst hAB; exact (hs.uniq A hA).2 b hb' h5
      · obtain ⟨i, hi, rfl⟩ := List.getElem_of_mem hA
        obtain ⟨j, hj, rfl⟩ := List.getElem_of_mem hB
        have hne : i ≠ j := fun e => hAB (by subst e; rfl)
        have hp := List.pairwise_iff_getElem.1 hs.sep
        rcases Nat.lt_or_gt_of_ne hne with hlt | hlt
        · exact (hp i j hi hj hlt).2 b hb' h5
        · exact ((hp j i hj hi hlt).1 b hb').2 h5
    · have := hs.lt hB (.inl hb'); omega
end
def Kd.at1 {α : Type} (c : Value) (d : Kd α) : Kd α where
  sz := d.sz + 1
  Rel w cs x o s := ∃ cs', cs = c :: cs' ∧ c.oneCell' = true ∧ d.Rel w cs' x o s
  len := by rintro w cs x o s ⟨cs', rfl, -, h⟩; rw [List.length_cons, d.len h]
  one := by
    rintro w cs x o s ⟨cs', rfl, h1, h⟩ c' hc
    rcases List.mem_cons.1 hc with rfl | hc
    · exact h1
    · exact d.one h _ hc
  keep := by rintro w w' cs x o s ho hs ⟨cs', rfl, h1, h⟩; exact ⟨cs', rfl, h1, d.keep ho hs h⟩
  lt := by rintro w cs x o s ⟨cs', -, -, h⟩ b hb; exact d.lt h b hb
section
variable {X : Cx} {l : List (Nat × Value)} {G : List Asn} {K : Act → World → Prop} {α : Type} {dk : Kd α}
theorem St.conv {w0 w : World} {A A' : Asn} {G1 : List Asn} (h : St w0 w (G1 ++ A :: G)) (ho : A'.own = A.own) (hs : A'.see = A.see) (hP : A.P w → A'.P w) : St w0 w (G1 ++ A' :: G) := by
  obtain ⟨hb, hh, hn, hu, hse⟩ := h
  have hap : ∀ B, (Apart A B → Apart A' B) ∧ (Apart B A → Apart B A') := fun B => by unfold Apart; rw [ho, hs]; exact ⟨id, id⟩
  refine ⟨hb, fun B hB => ?_, fun B hB => ?_, fun B hB => ?_, ?_⟩
  · rcases List.mem_append.1 hB with hB | hB
    · exact hh B (List.mem_append_left _ hB)
    · rcases List.mem_cons.1 hB with rfl | hB
      · exact hP (hh A (by simp))
      · exact hh B (by simp [hB])
  · rcases List.mem_append.1 hB with hB | hB
    · exact hn B (List.mem_append_left _ hB)
    · rcases List.mem_cons.1 hB with rfl | hB
      · rw [ho]; exact hn A (by simp)
      · exact hn B (by simp [hB])
  · rcases List.mem_append.1 hB with hB | hB
    · exact hu B (List.mem_append_left _ hB)
    · rcases List.mem_cons.1 hB with rfl | hB
      · rw [ho, hs]; exact hu A (by simp)
      · exact hu B (by simp [hB])
  · rw [List.pairwise_append] at hse ⊢
    obtain ⟨h1, h2, h3⟩ := hse
    obtain ⟨h4, h5⟩ := List.pairwise_cons.1 h2
    refine ⟨h1, List.pairwise_cons.2 ⟨fun B hB => (hap B).1 (h4 B hB), h5⟩, fun B hB C hC => ?_⟩
    rcases List.mem_cons.1 hC with rfl | hC
    · exact (hap B).2 (h3 B hB A (by simp))
    · exact h3 B hB C (by simp [hC])
theorem at1i {c : Value} (h1 : c.oneCell' = true) {cs : List Value} {x : α} {o s : List Nat} (h : SK X K l (dat (Kd.at1 c dk) (c :: cs) x o s :: G)) : SK X K l (dat dk cs x o s :: G) := fun a w hk hs =>
  h a w hk (hs.conv (G1 := []) (A' := dat (Kd.at1 c dk) (c :: cs) x o s) rfl rfl fun hr => ⟨cs, rfl, h1, hr⟩)
theorem at1e {c : Value} {B : Asn} {cs : List Value} {x : α} {o s : List Nat} (h : SK X K l (B :: dat dk cs x o s :: G)) : SK X K l (B :: dat (Kd.at1 c dk) (c :: cs) x o s :: G) := fun a w hk hs =>
  h a w hk (hs.conv (G1 := [B]) (A' := dat dk cs x o s) rfl rfl fun hr => by
    obtain ⟨cs', h1, -, h2⟩ := hr
    simp only [List.cons.injEq, true_and] at h1
    subst h1; exact h2)
end
end
end Go.Proofs.YtjdkfibeogiekaaGreat.Sx
