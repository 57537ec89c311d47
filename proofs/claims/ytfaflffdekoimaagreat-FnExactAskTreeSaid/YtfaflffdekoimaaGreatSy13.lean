/- What functions of the program answer, each at every input that its row names; walked through their code. -/
import Derived.Test.YtfaflffdekoimaaGreatSy12
import Derived.Shelf.SlSortCmp.NoneTotal
import Derived.Lib.QuietBelow
namespace Go.Proofs.YtfaflffdekoimaaGreat.Sx
open Go Go.RowKit Go.Proofs
set_option linter.unusedVariables false
set_option linter.unusedSimpArgs false
def tab13 : Tab := { size := [], off := [], elem := [] }
theorem tab_ok13 : tab13.check Tryz.prog = true := by kernel_rfl
noncomputable abbrev X13 (N : Nat) (w : World) : Cx := ⟨Tryz.prog, tab13, tab_ok13, wide, N, w, none, []⟩

section
/-! ### slices.SortFunc of noted elements -/
section
variable {α : Type}
theorem Kd.Elems.flat {db : Kd α} {w : World} {cs : List Value} {ts : List (Tg α)} {oo ss : List Nat} (h : Kd.Elems db.tag w cs ts oo ss) : cs = ts.flatMap (·.2.1) := by
  induction h with
  | nil => rfl
  | cons hr he ih => rw [List.flatMap_cons, ← ih, hr.1]
theorem Kd.Elems.each {db : Kd α} (hp : db.Pure) {w : World} {cs : List Value} {ts : List (Tg α)} {oo ss : List Nat} (h : Kd.Elems db.tag w cs ts oo ss) : ∀ t ∈ ts, ∃ s, db.Rel w t.2.1 t.1 [] s ∧ ∀ b ∈ s, b ∈ ss := by
  induction h with
  | nil => simp
  | @cons c cs x xs o o' s s' hr he ih =>
    intro t ht
    rcases List.mem_cons.1 ht with rfl | ht
    · obtain ⟨rfl, hr⟩ := hr
      have : o = [] := hp _ _ _ _ _ hr
      subst this
      exact ⟨s, hr, fun b hb => List.mem_append_left _ hb⟩
    · obtain ⟨s1, h1, h2⟩ := ih t ht
      exact ⟨s1, h1, fun b hb => List.mem_append_right _ (h2 b hb)⟩
theorem Kd.Elems.ofEach {db : Kd α} {w : World} {S : List Nat} : ∀ (ts : List (Tg α)), (∀ t ∈ ts, ∃ s, db.Rel w t.2.1 t.1 [] s ∧ ∀ b ∈ s, b ∈ S) → ∃ ss, (∀ b ∈ ss, b ∈ S) ∧ Kd.Elems db.tag w (ts.flatMap (·.2.1)) ts [] ss
  | [], _ => ⟨[], by simp, .nil⟩
  | t :: ts, h => by
    obtain ⟨s, h1, h2⟩ := h t (by simp)
    obtain ⟨ss, h3, h4⟩ := Kd.Elems.ofEach ts (fun t ht => h t (List.mem_cons_of_mem _ ht))
    refine ⟨s ++ ss, fun b hb => (List.mem_append.1 hb).elim (h2 b) (h3 b), ?_⟩
    rw [List.flatMap_cons]
    exact Kd.Elems.cons (d := db.tag) (o := []) (o' := []) ⟨rfl, h1⟩ h4
theorem flat_get {β : Type} {enc : β → List Value} {k : Nat} (h0 : 0 < k) : ∀ (l : List β) (t : Nat), (∀ x ∈ l, (enc x).length = k) → (l.flatMap enc)[t]? = (l[t / k]?).bind (fun x => (enc x)[t % k]?)
  | [], t, _ => by simp
  | x :: l, t, hk => by
    have hx := hk x (by simp)
    rw [List.flatMap_cons]
    by_cases h : t < k
    · rw [List.getElem?_append_left (by omega), Nat.div_eq_of_lt h, Nat.mod_eq_of_lt h]; rfl
    · rw [List.getElem?_append_right (by omega), hx, flat_get h0 l (t - k) (fun y hy => hk y (List.mem_cons_of_mem _ hy))]
      have h1 : t / k = (t - k) / k + 1 := Nat.div_eq_sub_div h0 (by omega)
      rw [h1, List.getElem?_cons_succ, Nat.mod_eq_sub_mod (by omega : t ≥ k)]
theorem flat_len {β : Type} {enc : β → List Value} {k : Nat} : ∀ (l : List β), (∀ x ∈ l, (enc x).length = k) → (l.flatMap enc).length = l.length * k
  | [], _ => by simp
  | x :: l, h => by rw [List.flatMap_cons, List.length_append, flat_len l (fun y hy => h y (List.mem_cons_of_mem _ hy)), h x (by simp), List.length_cons, Nat.add_mul]; omega
theorem flatK_list {β : Type} [Inhabited β] {enc : β → List Value} {k : Nat} (h0 : 0 < k) (hk : ∀ x, (enc x).length = k) (l : List β) : Sort.flatK enc k l.toArray = (l.flatMap enc).toArray := by
  have hl := flat_len (enc := enc) (k := k) l (fun x _ => hk x)
  refine Sort.ext_get! (by simp [hl]) fun t ht => ?_
  have ht' : t < l.length * k := by simpa using ht
  rw [Sort.get_flatK enc k l.toArray t (by simpa using ht')]
  have hd : t / k < l.length := by rw [Nat.div_lt_iff_lt_mul h0]; exact ht'
  have hm : t % k < k := Nat.mod_lt _ h0
  have h2 := flat_get (enc := enc) h0 l t (fun x _ => hk x)
  have h3 : l[t / k]? = some l[t / k] := List.getElem?_eq_getElem hd
  have h4 : (enc l[t / k])[t % k]? = some ((enc l[t / k])[t % k]'(by rw [hk]; exact hm)) := List.getElem?_eq_getElem _
  rw [h3, Option.bind_some, h4] at h2
  have e1 : l.toArray[t / k]! = l[t / k] := by simp [hd]
  rw [e1]
  simp only [List.getElem!_eq_getElem?_getD, List.getElem!_toArray, h4, h2, Option.getD_some]
end
open Go.Shelf Go.Lib Go.Proofs
theorem enters_kit {P : Program} {f : FuncId} (h : enters P f = true) : ∀ args w, (callFunc f args).run P w = .ok (.enter f args) w := by
  obtain ⟨fn, h1, h2, h3⟩ := enters_spec h
  obtain ⟨c, hc⟩ := Option.isSome_iff_exists.1 h2
  exact enters_of h1 h3 hc
theorem sortWorld_heap {β : Type} (enc : β → List Value) (k : Nat) (w : World) (b m : Nat) (d : Array β) [Inhabited β] (os : Array Obj) (q : Nat) (hq : q < w.heap.size) (hne : q ≠ b) : (sortWorldK enc k w b 0 m d os).heap[q]? = w.heap[q]? := by
  unfold sortWorldK Sort.grow Sort.putRowK Sort.putRow Sort.mapBlock Sort.ahead
  simp only
  rw [Array.getElem?_append_left (by simpa using hq), Array.getElem?_modify, if_neg (fun e => hne e.symm)]
theorem sortWorld_row {β : Type} (enc : β → List Value) (k : Nat) (w : World) (b m : Nat) (d : Array β) [Inhabited β] (os : Array Obj) {cur : Array Value} {e : TypeId} (hb : w.heap[b]? = some (.cells cur e (0, 0))) : (sortWorldK enc k w b 0 m d os).heap[b]? = some (.cells (Sort.putCells id 0 (Sort.flatK enc k d) cur) e (0, 0)) := by
  have hlt : b < w.heap.size := (Array.getElem?_eq_some_iff.1 hb).1
  unfold sortWorldK Sort.grow Sort.putRowK Sort.putRow Sort.mapBlock Sort.ahead
  simp only
  rw [Array.getElem?_append_left (by simpa using hlt), Array.getElem?_modify, if_pos rfl, hb]
  rfl
theorem sortWorld_mod {β : Type} (enc : β → List Value) (k : Nat) (w : World) (b m : Nat) (d : Array β) [Inhabited β] (os : Array Obj) : Mod w (sortWorldK enc k w b 0 m d os) [b] :=
  ⟨rfl, rfl, rfl, by simp [sortWorldK, Sort.grow, Sort.putRowK, Sort.ahead], fun q hq hn => sortWorld_heap enc k w b m d os q hq (by simpa using hn), by simp [sortWorldK, Sort.grow, Sort.putRowK, Sort.ahead]⟩
theorem put_take {F cur : Array Value} (h : F.size ≤ cur.size) : (Sort.putCells id 0 F cur).toList.take F.size = F.toList := by
  refine List.ext_getElem? fun t => ?_
  rw [List.getElem?_take]
  by_cases ht : t < F.size
  · rw [if_pos ht]
    have h1 : t < cur.size := by omega
    simp [Sort.putCells, h1, ht]
  · rw [if_neg ht]
    simp; omega
theorem grown_of {w w' : World} (h : Below w.heap.size w w') : ∃ q os', w' = Sort.grow (w.drewN q) os' := by
  obtain ⟨p, hp⟩ := regrown_of_below h.old
  have hd : w.drawn ≤ p.d := by have := h.dn; rw [hp] at this; simpa [Sort.grow, redrawn] using this
  refine ⟨p.d - w.drawn, p.os, ?_⟩
  rw [hp]
  unfold redrawn World.drewN
  rw [Nat.add_sub_cancel' hd]
theorem sort_tag {P : Program} {ρ : Ren} {α : Type} (L : SlLaysF0.n6 P ρ) (db : Kd α) (hpu : db.Pure) (aE : ∀ w, (isAgg (ρ.t 24)).run P w = .ok true w) (zE : ∀ w, (Go.sizeOf (ρ.t 24)).run P w = .ok db.sz w) (hz : 0 < db.sz) {e : TypeId} (w : World) (cf : α → α → Int) {g : FuncId} {cb : List Value} (hE : enters P g = true) (hO : Sort.SWO (ltOf cf)) {A : Option Addr} {c : Nat} {ts : List (Tg α)} {o s : List Nat}
    (hst : St (nul w) w [dat (Kd.row e db.tag) [.slice A ts.length c] ts o s]) (hu : ∀ x ∈ ts, ∀ y ∈ ts, ltOf cf x.1 y.1 = false → ltOf cf y.1 x.1 = false → x = y) (hsm : ts.length < 1000000)
    (hf : ∀ (w1 : World) (x0 x1 : Tg α), x0 ∈ ts → x1 ∈ ts → Mod w w1 o → ∀ s0 s1, db.Rel w1 x0.2.1 x0.1 [] s0 → db.Rel w1 x1.2.1 x1.1 [] s1 → Calls P g (([.agg x0.2.1.toArray, .agg x1.2.1.toArray] : List Value) ++ cb).toArray w1 (fun e w2 => e = .returned (.int .i64 (cf x0.1 x1.1)) ∧ Below w1.heap.size w1 w2)) :
    Calls P (ρ.f 6) #[.slice A ts.length c, .func (.func g) #[] cb.toArray] w (TurnO (Kd.row e db.tag) [.slice A ts.length c] (.tuple #[]) w o (ts.mergeSort (fun x y => !ltOf cf y.1 x.1)) s) := by
  have hr : (Kd.row e db.tag).Rel w [.slice A ts.length c] ts o s := hst.at 0 rfl
  have hu0 : o.Nodup ∧ ∀ b ∈ o, b ∉ s := hst.uniq _ (List.mem_cons_self ..)
  have hl : ∀ b, b ∈ o ∨ b ∈ s → b < w.heap.size := fun b hb => (Kd.row e db.tag).lt hr b hb
  rcases hr with ⟨rfl, rfl, rfl, hc⟩ | ⟨b, c', cur, o', hc, rfl, hb, h1, h2, h3, he⟩
  · refine (AnyF.slices_SortFunc_none L A c _ w).mono ?_
    rintro en w' ⟨rfl, rfl⟩
    refine ⟨rfl, [], [], .refl _ _, fun B hB => ?_, fun B hB b hb => ?_, fun B hB b hb => ?_, fun B hB => ?_, by simp⟩
    · simp at hB; subst hB; exact .inl ⟨by simp, rfl, rfl, hc⟩
    · simp at hB; subst hB; simp [dat] at hb
    · simp at hB; subst hB; simp [dat] at hb
    · simp at hB; subst hB; exact ⟨by simp [dat], by simp [dat]⟩
  · have ho' : o' = [] := Kd.Elems.pure hpu.tag he
    subst ho'
    by_cases hnil : ts = []
    · subst hnil
      refine (AnyF.slices_SortFunc_none L A c _ w).mono ?_
      rintro en w' ⟨rfl, rfl⟩
      have hP : (Kd.row e db.tag).Rel w' [.slice A (([] : List (Tg α)).length) c] [] [b] s := .inr ⟨b, c', cur, [], hc, rfl, hb, h1, h2, h3, he⟩
      refine ⟨rfl, [b], s, .refl _ _, fun B hB => ?_, fun B hB q hq => ?_, fun B hB q hq => ?_, fun B hB => ?_, by simp⟩
      · simp at hB; subst hB; simpa [dat] using hP
      · simp at hB; subst hB; exact .inl hq
      · simp at hB; subst hB; exact .inl hq
      · simp at hB; subst hB; exact hu0
    · obtain ⟨t0, ht0⟩ : ∃ t, t ∈ ts := by cases ts with | nil => exact absurd rfl hnil | cons t r => exact ⟨t, by simp⟩
      haveI : Inhabited {t // t ∈ ts} := ⟨⟨t0, ht0⟩⟩
      obtain ⟨rfl, rfl⟩ : A = some ⟨b, 0, none⟩ ∧ c = c' := by simpa using hc
      have hsz : db.tag.sz = db.sz := rfl
      have hR := he.each hpu
      have hflat := he.flat
      let enc : {t // t ∈ ts} → List Value := fun x => x.1.2.1
      have hk : ∀ x, (enc x).length = db.sz := fun x => by obtain ⟨s1, h, -⟩ := hR x.1 x.2; exact db.len h
      have hone : ∀ x, ∀ v ∈ enc x, v.oneCell' = true := fun x => by obtain ⟨s1, h, -⟩ := hR x.1 x.2; exact db.one h
      have hfl : ts.attach.flatMap enc = ts.flatMap (·.2.1) := by
        rw [List.flatMap_def, List.flatMap_def]; congr 1; exact List.attach_map_val (l := ts) (f := fun t => t.2.1)
      have hF : Sort.flatK enc db.sz ts.attach.toArray = (ts.flatMap (·.2.1)).toArray := by rw [flatK_list hz hk, hfl]
      have hH : Sort.HoldsK enc db.sz w b 0 ts.attach.toArray := by
        intro j hj
        rw [hF] at hj ⊢
        have hj' : j < (ts.flatMap (·.2.1)).length := by simpa using hj
        have e1 : (ts.flatMap (·.2.1))[j]? = cur[j]? := by
          rw [← hflat, List.getElem?_take, if_pos]
          · simp
          · rw [← hflat] at hj'; simp at hj'; omega
        refine ⟨?_, by simp [World.frozen?, hb]⟩
        simp only [World.cell?, hb, Nat.zero_add]
        rw [← e1, List.getElem?_eq_getElem hj']
        simp [hj', List.getElem?_eq_getElem hj']
      have hcmp : CmpLays P g cb.toArray enc db.sz (fun x y => cf x.1.1 y.1.1) b 0 ts.attach.toArray.size w := by
        intro m os dk hdk x y
        have hm := sortWorld_mod enc db.sz w b m dk os
        have keepR : ∀ t ∈ ts, ∃ s1, db.Rel (sortWorldK enc db.sz w b 0 m dk os) t.2.1 t.1 [] s1 := fun t ht => by
          obtain ⟨s1, h, hs1⟩ := hR t ht
          exact ⟨s1, db.keep (fun q hq => by cases hq) (fun q hq => hm.block q (hl q (.inr (hs1 q hq))) (fun hx => hu0.2 q (by simpa using hx) (hs1 q hq))) h⟩
        obtain ⟨s0, hs0⟩ := keepR x.1 x.2
        obtain ⟨s1, hs1⟩ := keepR y.1 y.2
        have hcall := hf _ x.1 y.1 x.2 y.2 hm s0 s1 hs0 hs1
        have ea : ((#[.agg (enc x).toArray, .agg (enc y).toArray] : Array Value) ++ cb.toArray) = (([.agg x.1.2.1.toArray, .agg y.1.2.1.toArray] : List Value) ++ cb).toArray := by simp [enc]
        rw [ea]
        exact hcall.mono fun _ _ ⟨he1, hb1⟩ => ⟨he1, grown_of hb1⟩
      have hO' : Sort.SWO (ltOf (fun x y : {t // t ∈ ts} => cf x.1.1 y.1.1)) := ⟨fun x => hO.irrefl x.1.1, fun x y z => hO.trans x.1.1 y.1.1 z.1.1, fun x y z => hO.ntrans x.1.1 y.1.1 z.1.1⟩
      have hblk : b < w.heap.size := hl b (.inl (by simp))
      have hsort := AnyQ.slices_SortFunc_total L db.sz aE zE enc hk hone (fun x y => cf x.1.1 y.1.1) hO' g cb.toArray b 0 c ts.attach.toArray w (enters_kit hE) hcmp hH hblk (by simp; omega) (fun x y hxy hyx => Subtype.ext (hu x.1 x.2 y.1 y.2 hxy hyx))
      have esz : ts.attach.toArray.size = ts.length := by simp
      rw [esz] at hsort
      refine hsort.mono ?_
      rintro en w' ⟨rfl, n, os, rfl⟩
      generalize hd : (ts.attach.toArray.toList.mergeSort fun x y => !(ltOf (fun x y : {t // t ∈ ts} => cf x.1.1 y.1.1)) y x) = d'
      have hperm : d'.Perm ts.attach := by rw [← hd]; simpa using List.mergeSort_perm _ _
      have hlen : d'.length = ts.length := by rw [hperm.length_eq, List.length_attach]
      have hval : d'.map (·.1) = ts.mergeSort (fun x y => !ltOf cf y.1 x.1) := by
        rw [← hd]
        have := List.map_mergeSort (r := fun x y => !(ltOf (fun x y : {t // t ∈ ts} => cf x.1.1 y.1.1)) y x) (s := fun x y => !ltOf cf y.1 x.1) (f := fun x : {t // t ∈ ts} => x.1) (l := ts.attach) (fun a _ b _ => rfl)
        rw [this, show ts.attach.map (fun x => x.1) = ts from by simpa using List.attach_map_val (l := ts) (f := fun t => t)]
      have hm := sortWorld_mod enc db.sz w b n d'.toArray os
      have hrow := sortWorld_row enc db.sz w b n d'.toArray os hb
      have hF2 : Sort.flatK enc db.sz d'.toArray = ((d'.map (·.1)).flatMap (·.2.1)).toArray := by rw [flatK_list hz hk]; congr 1; simp [List.flatMap_map, enc]
      obtain ⟨ss, hss, hel⟩ := Kd.Elems.ofEach (db := db) (w := sortWorldK enc db.sz w b 0 n d'.toArray os) (S := s) (d'.map (·.1)) (fun t ht => by
        obtain ⟨x, -, rfl⟩ := List.mem_map.1 ht
        obtain ⟨s1, h, hs1⟩ := hR x.1 x.2
        exact ⟨s1, db.keep (fun q hq => by cases hq) (fun q hq => hm.block q (hl q (.inr (hs1 q hq))) (fun hx => hu0.2 q (by simpa using hx) (hs1 q hq))) h, hs1⟩)
      have hFs : (Sort.flatK enc db.sz d'.toArray).size = ts.length * db.sz := by rw [Sort.size_flatK]; simp [hlen]
      have hP : (Kd.row e db.tag).Rel (sortWorldK enc db.sz w b 0 n d'.toArray os) [.slice (some ⟨b, 0, none⟩) ts.length c] (d'.map (·.1)) [b] ss := by
        refine .inr ⟨b, c, _, [], by rw [List.length_map, hlen], rfl, hrow, by rw [List.length_map, hlen]; exact h1, ⟨h2.1, by rw [List.length_map, hlen]; exact h2.2⟩, ?_, ?_⟩
        · rw [← h3]; simp [Sort.putCells]
        · rw [List.length_map, hlen]
          have h4 := put_take (F := Sort.flatK enc db.sz d'.toArray) (cur := cur) (by rw [hFs, h3]; exact Nat.mul_le_mul_right _ h1)
          rw [hFs] at h4
          show Kd.Elems db.tag _ (List.take (ts.length * db.sz) _) _ _ _
          rw [h4, hF2]
          exact hel
      rw [← hval]
      refine ⟨rfl, [b], ss, hm, fun B hB => ?_, fun B hB q hq => ?_, fun B hB q hq => ?_, fun B hB => ?_, by simp⟩
      · simp at hB; subst hB; exact hP
      · simp at hB; subst hB; exact .inl hq
      · simp at hB; subst hB; exact .inl (hss q hq)
      · simp at hB; subst hB; exact ⟨by simp [dat], fun q hq hq' => hu0.2 q hq (hss q hq')⟩
end
/-! the elements of a row of pairs, noted -/
def kPairT : Kd (Tg Pair) := kPairS.tag
theorem kPairT_sh {w : World} {cs : List Value} {x : Tg Pair} {o s : List Nat} (h : kPairT.Rel w cs x o s) : ∃ (A1 : Option Addr) (c1 : Nat) (A2 : Option Addr) (c2 : Nat), cs = [.int .i64 x.1.id, .slice A1 x.1.rect.low.length c1, .slice A2 x.1.rect.high.length c2] := kPairS_sh h.2
theorem kPairT_self : Kd.Seals kPairT kPairT := kPairS_self.tag
theorem kPairT_pure : Kd.Pure kPairT := kPairS_pure.tag
theorem kPairT_p1_2 : Kd.Sub kPairT 1 kRectS (fun x => x.1.rect) := fun w cs x s h => kPairS_p1_2 w cs x.1 s h.2
theorem see_tag {α : Type} {ts tx : List (Tg α)} {s : List Nat} {n : Nat} (hs : s = ts.flatMap (·.2.2.2)) (hn : ∀ b ∈ s, b ∈ ([] : List Nat) ∨ n ≤ b) (hm : ∀ t ∈ tx, t ∈ ts) : ∀ b ∈ tx.flatMap (·.2.2.2), n ≤ b := fun b hb => by
  obtain ⟨t, ht, hb⟩ := List.mem_flatMap.1 hb
  rcases hn b (by rw [hs]; exact List.mem_flatMap.2 ⟨t, hm t ht, hb⟩) with h | h
  · cases h
  · exact h

def cmpI (x y : Int) : Int := if x < y then -1 else if y < x then 1 else 0
def idC (a b : Pair) : Int := cmpI a.id b.id
def sortP (l : List Pair) : List Pair := l.foldl addTo []
def UpP (l : List Pair) : Prop := l.Pairwise (fun a b => a.id ≤ b.id)
theorem addTo_perm (p : Pair) : ∀ l : List Pair, (addTo l p).Perm (l ++ [p])
  | [] => .refl _
  | q :: r => by
    unfold addTo
    split
    · exact (List.perm_append_comm (l₁ := [p]) (l₂ := q :: r))
    · exact (addTo_perm p r).cons q
theorem addTo_up {p : Pair} : ∀ {l : List Pair}, UpP l → UpP (addTo l p)
  | [], _ => List.pairwise_singleton _ _
  | q :: r, h => by
    have h1 := List.pairwise_cons.1 h
    unfold addTo
    split
    · rename_i hx
      refine List.pairwise_cons.2 ⟨fun y hy => ?_, h⟩
      rcases List.mem_cons.1 hy with rfl | hy
      · omega
      · have := h1.1 y hy; omega
    · rename_i hx
      refine List.pairwise_cons.2 ⟨fun y hy => ?_, addTo_up h1.2⟩
      rcases List.mem_append.1 ((addTo_perm p r).subset hy) with hy | hy
      · exact h1.1 y hy
      · simp at hy; subst hy; omega
theorem fold_perm : ∀ (l acc : List Pair), (l.foldl addTo acc).Perm (acc ++ l)
  | [], acc => by simp
  | p :: l, acc => by
    have h := (fold_perm l (addTo acc p)).trans ((addTo_perm p acc).append_right l)
    simpa using h
theorem fold_up : ∀ (l : List Pair) {acc : List Pair}, UpP acc → UpP (l.foldl addTo acc)
  | [], _, h => h
  | _ :: l, _, h => fold_up l (addTo_up h)
theorem sortP_perm (l : List Pair) : (sortP l).Perm l := by have h := fold_perm l []; rw [List.nil_append] at h; exact h
theorem sortP_up (l : List Pair) : UpP (sortP l) := fold_up l .nil
theorem sortP_len (l : List Pair) : (sortP l).length = l.length := (sortP_perm l).length_eq
theorem sortP_mem {l : List Pair} {x : Pair} (h : x ∈ sortP l) : x ∈ l := (sortP_perm l).mem_iff.1 h
theorem sortP_snoc {l out : List Pair} {k : Nat} {y : Pair} (h : out = (l.take k).foldl addTo []) (hy : l[k]? = some y) : addTo out y = (l.take (k + 1)).foldl addTo [] := by
  rw [take_snoc hy, List.foldl_append, ← h]; rfl
theorem ltOf_id (a b : Pair) : ltOf idC a b = decide (a.id < b.id) := by
  unfold ltOf idC cmpI
  rw [Bool.eq_iff_iff]; simp only [decide_eq_true_eq]
  split
  · simp_all
  · split <;> simp_all
theorem id_swo : Go.Sort.SWO (ltOf idC) where
  irrefl x := by rw [ltOf_id]; simp
  trans x y z h1 h2 := by rw [ltOf_id] at *; simp at *; omega
  ntrans x y z h1 h2 := by rw [ltOf_id] at *; simp at *; omega
theorem uniq_one {l : List Pair} (hu : Uniq Pair.id l) {x y : Pair} (hx : x ∈ l) (hy : y ∈ l) (h : x.id = y.id) : x = y := by
  obtain ⟨i, hi, rfl⟩ := List.getElem_of_mem hx
  obtain ⟨j, hj, rfl⟩ := List.getElem_of_mem hy
  have hp := List.pairwise_iff_getElem.1 hu
  rcases Nat.lt_trichotomy i j with hij | rfl | hij
  · exact absurd h (hp i j hi hj hij)
  · rfl
  · exact absurd h.symm (hp j i hj hi hij)
theorem sort_ids {l : List Pair} (hu : Uniq Pair.id l) : l.mergeSort (fun x y => !ltOf idC y x) = sortP l := by
  have hs : (l.mergeSort (fun x y => !ltOf idC y x)).Pairwise (fun a b => (!ltOf idC b a) = true) := List.pairwise_mergeSort (fun a b c h1 h2 => by simp [ltOf_id] at *; omega) (fun a b => by simp [ltOf_id]; omega) l
  have hp := List.mergeSort_perm l (fun x y => !ltOf idC y x)
  refine List.Perm.eq_of_pairwise (le := fun a b : Pair => a.id ≤ b.id) (fun a b ha hb h1 h2 => ?_) (hs.imp (fun {a b} h => by simpa [ltOf_id] using h)) (show List.Pairwise (fun a b : Pair => a.id ≤ b.id) (sortP l) from sortP_up l) (hp.trans (sortP_perm l).symm)
  exact uniq_one hu (hp.mem_iff.1 ha) ((sortP_perm l).mem_iff.1 hb) (by omega)
theorem tag_ids {ts : List (Tg Pair)} {l : List Pair} (et : ts.map (·.1) = l) (hu : Uniq Pair.id l) : (ts.mergeSort (fun x y => !ltOf idC y.1 x.1)).map (·.1) = sortP l := by
  have h := List.map_mergeSort (r := fun x y : Tg Pair => !ltOf idC y.1 x.1) (s := fun a b : Pair => !ltOf idC b a) (f := fun t : Tg Pair => t.1) (l := ts) (fun a _ b _ => rfl)
  rw [h, et, sort_ids hu]
theorem tag_uniq {ts : List (Tg Pair)} {l : List Pair} (et : ts.map (·.1) = l) (hu : Uniq Pair.id l) : ∀ x ∈ ts, ∀ y ∈ ts, ltOf idC x.1 y.1 = false → ltOf idC y.1 x.1 = false → x = y := fun x hx y hy h1 h2 => by
  rw [ltOf_id] at h1 h2
  simp at h1 h2
  subst et
  obtain ⟨i, hi, rfl⟩ := List.getElem_of_mem hx
  obtain ⟨j, hj, rfl⟩ := List.getElem_of_mem hy
  have hp := List.pairwise_iff_getElem.1 hu
  rcases Nat.lt_trichotomy i j with hij | rfl | hij
  · exact (hp i j (by simpa using hi) (by simpa using hj) hij (by simp only [List.getElem_map]; omega)).elim
  · rfl
  · exact (hp j i (by simpa using hj) (by simpa using hi) hij (by simp only [List.getElem_map]; omega)).elim
theorem right_uniq {t : Tree} (h : treeRight t = true) : Uniq Pair.id (leafP t (wk t)) := by
  have h0 := h
  unfold treeRight at h
  rcases hw : walkOf t with _ | met
  · rw [hw] at h; simp at h
  · rw [hw] at h
    simp only [Bool.and_eq_true, decide_eq_true_eq] at h
    have hm : met = wk t := by
      have hs : (walkF t (nodeAt t.arena t.root).level.toNat t.root []).isSome = true := by
        have : walkOf t = walkF t (nodeAt t.arena t.root).level.toNat t.root [] := rfl
        rw [← this, hw]; rfl
      have := walkOf_some hs
      rw [hw] at this; exact Option.some.inj this
    unfold leafP
    rw [uniqP, ← hm]
    exact h.2.2
theorem leafE_in {t : Tree} {ids : List Int} (hi : ∀ x ∈ ids, isPlace t.arena x = true) (hS : Sound t.arena) : ∀ e ∈ leafE t ids, szRect e.rect ≤ 6 := fun e he => by
  unfold leafE at he
  obtain ⟨id, hid, he⟩ := List.mem_flatMap.1 he
  split at he
  · have h1 := hS.kids (hi id hid) e he
    have h2 := hS.dimOk
    unfold Dim at h1; unfold szRect; omega
  · cases he
theorem leafP_in {t : Tree} {ids : List Int} (hi : ∀ x ∈ ids, isPlace t.arena x = true) (hS : Sound t.arena) : ∀ p ∈ leafP t ids, szPair p ≤ 6 := fun p hp => by
  unfold leafP at hp
  obtain ⟨e, he, rfl⟩ := List.mem_map.1 hp
  have h1 := leafE_in hi hS e he
  have h2 : szPair (pairOf e) = szRect e.rect := rfl
  omega
def pairsT (t : Tree) : List Pair := sortP (leafP t (wk t))
theorem pairsT_len {t : Tree} (hS : Sound t.arena) (hp : isPlace t.arena t.root = true) : (pairsT t).length ≤ 200 := by
  unfold pairsT; rw [sortP_len, leafP_len]; exact (leaf_len hS hp).1
theorem pairsT_in {t : Tree} (hS : Sound t.arena) (hp : isPlace t.arena t.root = true) : ∀ x ∈ pairsT t, szPair x ≤ 6 := fun x hx => leafP_in (wk_met hp).2 hS x (sortP_mem hx)
def pairsRes (t : Tree) : PairsResult := if treeFault t = 0 then if 60 < ((pairsT t).length : Int) then ⟨2, []⟩ else ⟨0, pairsT t⟩ else ⟨treeFault t, []⟩
theorem pairsRes_cnt (t : Tree) : 0 ≤ ((pairsRes t).pairs.map cntE_Pair).sum ∧ ((pairsRes t).pairs.map cntE_Pair).sum ≤ 1000 := by
  refine ⟨sum_nn cntE_Pair_nn _, ?_⟩
  unfold pairsRes
  split
  · rename_i h
    obtain ⟨hS, hp, -⟩ := tree_0 h
    split
    · simp
    · rename_i h2
      have h3 := sum_le (f := cntE_Pair) (c := 7) (l := pairsT t) (fun x hx => by have := pairsT_in hS hp x hx; unfold szPair szRect at this; unfold cntE_Pair; omega)
      show ((pairsT t).map cntE_Pair).sum ≤ 1000
      omega
  · simp
theorem perm_flat {α β : Type} {f : α → List β} {l1 l2 : List α} (h : l1.Perm l2) : (l1.flatMap f).Perm (l2.flatMap f) := by rw [List.flatMap_def, List.flatMap_def]; exact (h.map f).flatten

def sortRen : Go.Shelf.Ren := ⟨fun | 6 => 106 | 14 => 151 | 15 => 152 | 20 => 171 | 21 => 172 | 22 => 173 | 23 => 174 | 24 => 175 | 25 => 176 | 26 => 177 | 27 => 178 | 28 => 179 | 29 => 180 | 46 => 183 | 47 => 184 | 48 => 185 | 49 => 186 | 50 => 187 | 57 => 188 | n => n, fun | 0 => 0 | 3 => 3 | 4 => 4 | 5 => 5 | 9 => 9 | 22 => 35 | 24 => 91 | 25 => 146 | 39 => 178 | 45 => 191 | 46 => 192 | 50 => 196 | 53 => 199 | 55 => 201 | 66 => 203 | 70 => 207 | 76 => 209 | 77 => 210 | n => n, fun n => n⟩
theorem sortLaid : SlLaysF0.n6 Tryz.prog sortRen := {
  mixed := by kernel_rfl
  f6 := ⟨Tryz.f106.name, by decide, Tryz.func106.trans (congrArg some (by kernel_rfl))⟩
  f14 := ⟨Tryz.f151.name, by decide, Tryz.func151.trans (congrArg some (by kernel_rfl))⟩
  f15 := Tryz.func152.trans (congrArg some (by kernel_rfl))
  f20 := ⟨Tryz.f171.name, by decide, Tryz.func171.trans (congrArg some (by kernel_rfl))⟩
  f21 := ⟨Tryz.f172.name, by decide, Tryz.func172.trans (congrArg some (by kernel_rfl))⟩
  f22 := ⟨Tryz.f173.name, by decide, Tryz.func173.trans (congrArg some (by kernel_rfl))⟩
  f23 := ⟨Tryz.f174.name, by decide, Tryz.func174.trans (congrArg some (by kernel_rfl))⟩
  f24 := ⟨Tryz.f175.name, by decide, Tryz.func175.trans (congrArg some (by kernel_rfl))⟩
  f25 := ⟨Tryz.f176.name, by decide, Tryz.func176.trans (congrArg some (by kernel_rfl))⟩
  f26 := ⟨Tryz.f177.name, by decide, Tryz.func177.trans (congrArg some (by kernel_rfl))⟩
  f27 := ⟨Tryz.f178.name, by decide, Tryz.func178.trans (congrArg some (by kernel_rfl))⟩
  f28 := Tryz.func179.trans (congrArg some (by kernel_rfl))
  f29 := Tryz.func180.trans (congrArg some (by kernel_rfl))
  f46 := ⟨Tryz.f183.name, by decide, Tryz.func183.trans (congrArg some (by kernel_rfl))⟩
  f47 := Tryz.func184.trans (congrArg some (by kernel_rfl))
  f48 := Tryz.func185.trans (congrArg some (by kernel_rfl))
  f49 := ⟨Tryz.f186.name, by decide, Tryz.func186.trans (congrArg some (by kernel_rfl))⟩
  f50 := ⟨Tryz.f187.name, by decide, Tryz.func187.trans (congrArg some (by kernel_rfl))⟩
  f57 := ⟨Tryz.f188.name, by decide, Tryz.func188.trans (congrArg some (by kernel_rfl))⟩
  t0 := Tryz.underlying0
  a0 := Tryz.isAgg0
  z0 := Tryz.sizeOf0
  v0 := Tryz.zeroValue0
  t3 := Tryz.underlying3
  a3 := Tryz.isAgg3
  z3 := Tryz.sizeOf3
  v3 := Tryz.zeroValue3
  t4 := Tryz.underlying4
  a4 := Tryz.isAgg4
  z4 := Tryz.sizeOf4
  v4 := Tryz.zeroValue4
  t5 := Tryz.underlying5
  a5 := Tryz.isAgg5
  z5 := Tryz.sizeOf5
  v5 := Tryz.zeroValue5
  t9 := Tryz.underlying9
  a9 := Tryz.isAgg9
  z9 := Tryz.sizeOf9
  v9 := Tryz.zeroValue9
  t22 := Tryz.underlying35
  a22 := Tryz.isAgg35
  z22 := Tryz.sizeOf35
  v22 := Tryz.zeroValue35
  t25 := Tryz.underlying146
  a25 := Tryz.isAgg146
  z25 := Tryz.sizeOf146
  v25 := Tryz.zeroValue146
  t39 := Tryz.underlying178
  a39 := Tryz.isAgg178
  z39 := Tryz.sizeOf178
  v39 := Tryz.zeroValue178
  t45 := Tryz.underlying191
  a45 := Tryz.isAgg191
  z45 := Tryz.sizeOf191
  v45 := Tryz.zeroValue191
  t46 := Tryz.underlying192
  a46 := Tryz.isAgg192
  z46 := Tryz.sizeOf192
  v46 := Tryz.zeroValue192
  t50 := Tryz.underlying196
  a50 := Tryz.isAgg196
  z50 := Tryz.sizeOf196
  v50 := Tryz.zeroValue196
  t53 := Tryz.underlying199
  a53 := Tryz.isAgg199
  z53 := Tryz.sizeOf199
  v53 := Tryz.zeroValue199
  t55 := Tryz.underlying201
  a55 := Tryz.isAgg201
  z55 := Tryz.sizeOf201
  v55 := Tryz.zeroValue201
  t66 := Tryz.underlying203
  a66 := Tryz.isAgg203
  z66 := Tryz.sizeOf203
  v66 := Tryz.zeroValue203
  t70 := Tryz.underlying207
  a70 := Tryz.isAgg207
  z70 := Tryz.sizeOf207
  v70 := Tryz.zeroValue207
  t76 := Tryz.underlying209
  a76 := Tryz.isAgg209
  z76 := Tryz.sizeOf209
  v76 := Tryz.zeroValue209
  t77 := Tryz.underlying210
  a77 := Tryz.isAgg210
  z77 := Tryz.sizeOf210
  v77 := Tryz.zeroValue210 }
theorem sort_pairs (w : World) (cmp : Pair → Pair → Int) {fcmp : FuncId} {cfcmp : List Value} (hEcmp : enters Tryz.prog fcmp = true) {Asrc : Option Addr} {csrc : Nat} {src : List (Tg Pair)} {nsrc : Nat} {osrc_ ssrc_ : List Nat} (hst : St (nul w) w [dat (Kd.row 91 kPairT) [.slice Asrc nsrc csrc] src osrc_ ssrc_])
    (hfcmp : ∀ (w1 : World) (x0 x1 : Pair), x0 ∈ src.map (·.1) → x1 ∈ src.map (·.1) → Mod w w1 osrc_ → ∀ (A0_1 : Option Addr) (c0_1 : Nat) (A0_2 : Option Addr) (c0_2 : Nat) (A1_1 : Option Addr) (c1_1 : Nat) (A1_2 : Option Addr) (c1_2 : Nat), ∀ s0_ : List Nat, kPairS.Rel w1 [.int .i64 x0.id, .slice A0_1 x0.rect.low.length c0_1, .slice A0_2 x0.rect.high.length c0_2] x0 [] s0_ → ∀ s1_ : List Nat, kPairS.Rel w1 [.int .i64 x1.id, .slice A1_1 x1.rect.low.length c1_1, .slice A1_2 x1.rect.high.length c1_2] x1 [] s1_ → Calls Tryz.prog fcmp (([.agg #[.int .i64 x0.id, .slice A0_1 x0.rect.low.length c0_1, .slice A0_2 x0.rect.high.length c0_2], .agg #[.int .i64 x1.id, .slice A1_1 x1.rect.low.length c1_1, .slice A1_2 x1.rect.high.length c1_2]] : List Value) ++ cfcmp).toArray w1 (fun e_ w2_ => e_ = .returned (.int .i64 (cmp x0 x1)) ∧ Below w1.heap.size w1 w2_))
    (hO : Go.Sort.SWO (ltOf cmp)) (hu : ∀ x ∈ src, ∀ y ∈ src, ltOf cmp x.1 y.1 = false → ltOf cmp y.1 x.1 = false → x = y) (hsm : src.length < 1000000) (hnsrc : nsrc = src.length) :
    Calls Tryz.prog 106 #[.slice Asrc nsrc csrc, .func (.func fcmp) #[] cfcmp.toArray] w (TurnO (Kd.row 91 kPairT) [.slice Asrc nsrc csrc] (.tuple #[]) w osrc_ (src.mergeSort (fun x y => !ltOf cmp y.1 x.1)) ssrc_) := by
  subst hnsrc
  refine sort_tag (ρ := sortRen) sortLaid kPairS kPairS_pure (fun w => Tryz.isAgg91 w) (fun w => Tryz.sizeOf91 w) (by decide) w cmp hEcmp hO hst hu hsm (fun w1 x0 x1 m0 m1 b s0 s1 r0 r1 => ?_)
  obtain ⟨A1, c1, A2, c2, e0⟩ := kPairS_sh r0
  obtain ⟨A3, c3, A4, c4, e1⟩ := kPairS_sh r1
  rw [e0] at r0 ⊢; rw [e1] at r1 ⊢
  exact hfcmp w1 x0.1 x1.1 (List.mem_map_of_mem m0) (List.mem_map_of_mem m1) b _ _ _ _ _ _ _ _ _ r0 _ r1
end Go.Proofs.YtfaflffdekoimaaGreat.Sx
