/- What functions of the program answer, each at every input that its row names; walked through their code. -/
import Derived.Test.YtkilionclpeonaaSy4
import Derived.Shelf.SlSortCmp.NoneTotal
import Derived.Lib.QuietBelow
namespace Go.Proofs.Ytkilionclpeonaa.Sx
open Go Go.RowKit Go.Proofs
set_option linter.unusedVariables false
set_option linter.unusedSimpArgs false
def tab5 : Tab := { size := [], off := [], elem := [(30, 68)] }
theorem tab_ok5 : tab5.check Try.prog = true := by kernel_rfl
noncomputable abbrev X5 (N : Nat) (w : World) : Cx := ⟨Try.prog, tab5, tab_ok5, wide, N, w, none, []⟩

section
/-! ### slices.SortFunc of noted elements -/
section
variable {α : Type}
theorem Kd.Elems.flat {db : Kd α} {w : World} {cs : List Value} {ts : List (Tg α)} {oo ss : List Nat} (h : Kd.Elems db.tag w cs ts oo ss) : cs = ts.flatMap (·.2.1) := by
  induction h with
  | nil => rfl
  | cons hr he ih => rw [List.flatMap_cons, ← ih, hr.1]
theorem Kd.Elems.each {db : Kd α} (hp : db.Pure) {w : World} {cs : List Value} {ts : List (Tg α)} {oo ss : List Nat} (h : Kd.Elems db.tag w cs ts oo ss) : ∀ t ∈ ts, ∃ s, db.Rel w t.2.1 t.1 [] s ∧ ∀ b ∈ s, b ∈ ss := by
  induction h with
  | nil => simp
  | @cons c cs x xs o o' s s' hr he ih =>
    intro t ht
    rcases List.mem_cons.1 ht with rfl | ht
    · obtain ⟨rfl, hr⟩ := hr
      have : o = [] := hp _ _ _ _ _ hr
      subst this
      exact ⟨s, hr, fun b hb => List.mem_append_left _ hb⟩
    · obtain ⟨s1, h1, h2⟩ := ih t ht
      exact ⟨s1, h1, fun b hb => List.mem_append_right _ (h2 b hb)⟩
theorem Kd.Elems.ofEach {db : Kd α} {w : World} {S : List Nat} : ∀ (ts : List (Tg α)), (∀ t ∈ ts, ∃ s, db.Rel w t.2.1 t.1 [] s ∧ ∀ b ∈ s, b ∈ S) → ∃ ss, (∀ b ∈ ss, b ∈ S) ∧ Kd.Elems db.tag w (ts.flatMap (·.2.1)) ts [] ss
  | [], _ => ⟨[], by simp, .nil⟩
  | t :: ts, h => by
    obtain ⟨s, h1, h2⟩ := h t (by simp)
    obtain ⟨ss, h3, h4⟩ := Kd.Elems.ofEach ts (fun t ht => h t (List.mem_cons_of_mem _ ht))
    refine ⟨s ++ ss, fun b hb => (List.mem_append.1 hb).elim (h2 b) (h3 b), ?_⟩
    rw [List.flatMap_cons]
    exact Kd.Elems.cons (d := db.tag) (o := []) (o' := []) ⟨rfl, h1⟩ h4
theorem flat_get {β : Type} {enc : β → List Value} {k : Nat} (h0 : 0 < k) : ∀ (l : List β) (t : Nat), (∀ x ∈ l, (enc x).length = k) → (l.flatMap enc)[t]? = (l[t / k]?).bind (fun x => (enc x)[t % k]?)
  | [], t, _ => by simp
  | x :: l, t, hk => by
    have hx := hk x (by simp)
    rw [List.flatMap_cons]
    by_cases h : t < k
    · rw [List.getElem?_append_left (by omega), Nat.div_eq_of_lt h, Nat.mod_eq_of_lt h]; rfl
    · rw [List.getElem?_append_right (by omega), hx, flat_get h0 l (t - k) (fun y hy => hk y (List.mem_cons_of_mem _ hy))]
      have h1 : t / k = (t - k) / k + 1 := Nat.div_eq_sub_div h0 (by omega)
      rw [h1, List.getElem?_cons_succ, Nat.mod_eq_sub_mod (by omega : t ≥ k)]
theorem flat_len {β : Type} {enc : β → List Value} {k : Nat} : ∀ (l : List β), (∀ x ∈ l, (enc x).length = k) → (l.flatMap enc).length = l.length * k
  | [], _ => by simp
  | x :: l, h => by rw [List.flatMap_cons, List.length_append, flat_len l (fun y hy => h y (List.mem_cons_of_mem _ hy)), h x (by simp), List.length_cons, Nat.add_mul]; omega
theorem flatK_list {β : Type} [Inhabited β] {enc : β → List Value} {k : Nat} (h0 : 0 < k) (hk : ∀ x, (enc x).length = k) (l : List β) : Sort.flatK enc k l.toArray = (l.flatMap enc).toArray := by
  have hl := flat_len (enc := enc) (k := k) l (fun x _ => hk x)
  refine Sort.ext_get! (by simp [hl]) fun t ht => ?_
  have ht' : t < l.length * k := by simpa using ht
  rw [Sort.get_flatK enc k l.toArray t (by simpa using ht')]
  have hd : t / k < l.length := by rw [Nat.div_lt_iff_lt_mul h0]; exact ht'
  have hm : t % k < k := Nat.mod_lt _ h0
  have h2 := flat_get (enc := enc) h0 l t (fun x _ => hk x)
  have h3 : l[t / k]? = some l[t / k] := List.getElem?_eq_getElem hd
  have h4 : (enc l[t / k])[t % k]? = some ((enc l[t / k])[t % k]'(by rw [hk]; exact hm)) := List.getElem?_eq_getElem _
  rw [h3, Option.bind_some, h4] at h2
  have e1 : l.toArray[t / k]! = l[t / k] := by simp [hd]
  rw [e1]
  simp only [List.getElem!_eq_getElem?_getD, List.getElem!_toArray, h4, h2, Option.getD_some]
end
open Go.Shelf Go.Lib Go.Proofs
theorem enters_kit {P : Program} {f : FuncId} (h : enters P f = true) : ∀ args w, (callFunc f args).run P w = .ok (.enter f args) w := by
  obtain ⟨fn, h1, h2, h3⟩ := enters_spec h
  obtain ⟨c, hc⟩ := Option.isSome_iff_exists.1 h2
  exact enters_of h1 h3 hc
theorem sortWorld_heap {β : Type} (enc : β → List Value) (k : Nat) (w : World) (b m : Nat) (d : Array β) [Inhabited β] (os : Array Obj) (q : Nat) (hq : q < w.heap.size) (hne : q ≠ b) : (sortWorldK enc k w b 0 m d os).heap[q]? = w.heap[q]? := by
  unfold sortWorldK Sort.grow Sort.putRowK Sort.putRow Sort.mapBlock Sort.ahead
  simp only
  rw [Array.getElem?_append_left (by simpa using hq), Array.getElem?_modify, if_neg (fun e => hne e.symm)]
theorem sortWorld_row {β : Type} (enc : β → List Value) (k : Nat) (w : World) (b m : Nat) (d : Array β) [Inhabited β] (os : Array Obj) {cur : Array Value} {e : TypeId} (hb : w.heap[b]? = some (.cells cur e (0, 0))) : (sortWorldK enc k w b 0 m d os).heap[b]? = some (.cells (Sort.putCells id 0 (Sort.flatK enc k d) cur) e (0, 0)) := by
  have hlt : b < w.heap.size := (Array.getElem?_eq_some_iff.1 hb).1
  unfold sortWorldK Sort.grow Sort.putRowK Sort.putRow Sort.mapBlock Sort.ahead
  simp only
  rw [Array.getElem?_append_left (by simpa using hlt), Array.getElem?_modify, if_pos rfl, hb]
  rfl
theorem sortWorld_mod {β : Type} (enc : β → List Value) (k : Nat) (w : World) (b m : Nat) (d : Array β) [Inhabited β] (os : Array Obj) : Mod w (sortWorldK enc k w b 0 m d os) [b] :=
  ⟨rfl, rfl, rfl, by simp [sortWorldK, Sort.grow, Sort.putRowK, Sort.ahead], fun q hq hn => sortWorld_heap enc k w b m d os q hq (by simpa using hn), by simp [sortWorldK, Sort.grow, Sort.putRowK, Sort.ahead]⟩
theorem put_take {F cur : Array Value} (h : F.size ≤ cur.size) : (Sort.putCells id 0 F cur).toList.take F.size = F.toList := by
  refine List.ext_getElem? fun t => ?_
  rw [List.getElem?_take]
  by_cases ht : t < F.size
  · rw [if_pos ht]
    have h1 : t < cur.size := by omega
    simp [Sort.putCells, h1, ht]
  · rw [if_neg ht]
    simp; omega
theorem grown_of {w w' : World} (h : Below w.heap.size w w') : ∃ q os', w' = Sort.grow (w.drewN q) os' := by
  obtain ⟨p, hp⟩ := regrown_of_below h.old
  have hd : w.drawn ≤ p.d := by have := h.dn; rw [hp] at this; simpa [Sort.grow, redrawn] using this
  refine ⟨p.d - w.drawn, p.os, ?_⟩
  rw [hp]
  unfold redrawn World.drewN
  rw [Nat.add_sub_cancel' hd]
theorem sort_tag {P : Program} {ρ : Ren} {α : Type} (L : SlLaysF0.n6 P ρ) (db : Kd α) (hpu : db.Pure) (aE : ∀ w, (isAgg (ρ.t 24)).run P w = .ok true w) (zE : ∀ w, (Go.sizeOf (ρ.t 24)).run P w = .ok db.sz w) (hz : 0 < db.sz) {e : TypeId} (w : World) (cf : α → α → Int) {g : FuncId} {cb : List Value} (hE : enters P g = true) (hO : Sort.SWO (ltOf cf)) {A : Option Addr} {c : Nat} {ts : List (Tg α)} {o s : List Nat}
    (hst : St (nul w) w [dat (Kd.row e db.tag) [.slice A ts.length c] ts o s]) (hu : ∀ x ∈ ts, ∀ y ∈ ts, ltOf cf x.1 y.1 = false → ltOf cf y.1 x.1 = false → x = y) (hsm : ts.length < 1000000)
    (hf : ∀ (w1 : World) (x0 x1 : Tg α), x0 ∈ ts → x1 ∈ ts → Mod w w1 o → ∀ s0 s1, db.Rel w1 x0.2.1 x0.1 [] s0 → db.Rel w1 x1.2.1 x1.1 [] s1 → Calls P g (([.agg x0.2.1.toArray, .agg x1.2.1.toArray] : List Value) ++ cb).toArray w1 (fun e w2 => e = .returned (.int .i64 (cf x0.1 x1.1)) ∧ Below w1.heap.size w1 w2)) :
    Calls P (ρ.f 6) #[.slice A ts.length c, .func (.func g) #[] cb.toArray] w (TurnO (Kd.row e db.tag) [.slice A ts.length c] (.tuple #[]) w o (ts.mergeSort (fun x y => !ltOf cf y.1 x.1)) s) := by
  have hr : (Kd.row e db.tag).Rel w [.slice A ts.length c] ts o s := hst.at 0 rfl
  have hu0 : o.Nodup ∧ ∀ b ∈ o, b ∉ s := hst.uniq _ (List.mem_cons_self ..)
  have hl : ∀ b, b ∈ o ∨ b ∈ s → b < w.heap.size := fun b hb => (Kd.row e db.tag).lt hr b hb
  rcases hr with ⟨rfl, rfl, rfl, hc⟩ | ⟨b, c', cur, o', hc, rfl, hb, h1, h2, h3, he⟩
  · refine (AnyF.slices_SortFunc_none L A c _ w).mono ?_
    rintro en w' ⟨rfl, rfl⟩
    refine ⟨rfl, [], [], .refl _ _, fun B hB => ?_, fun B hB b hb => ?_, fun B hB b hb => ?_, fun B hB => ?_, by simp⟩
    · simp at hB; subst hB; exact .inl ⟨by simp, rfl, rfl, hc⟩
    · simp at hB; subst hB; simp [dat] at hb
    · simp at hB; subst hB; simp [dat] at hb
    · simp at hB; subst hB; exact ⟨by simp [dat], by simp [dat]⟩
  · have ho' : o' = [] := Kd.Elems.pure hpu.tag he
    subst ho'
    by_cases hnil : ts = []
    · subst hnil
      refine (AnyF.slices_SortFunc_none L A c _ w).mono ?_
      rintro en w' ⟨rfl, rfl⟩
      have hP : (Kd.row e db.tag).Rel w' [.slice A (([] : List (Tg α)).length) c] [] [b] s := .inr ⟨b, c', cur, [], hc, rfl, hb, h1, h2, h3, he⟩
      refine ⟨rfl, [b], s, .refl _ _, fun B hB => ?_, fun B hB q hq => ?_, fun B hB q hq => ?_, fun B hB => ?_, by simp⟩
      · simp at hB; subst hB; simpa [dat] using hP
      · simp at hB; subst hB; exact .inl hq
      · simp at hB; subst hB; exact .inl hq
      · simp at hB; subst hB; exact hu0
    · obtain ⟨t0, ht0⟩ : ∃ t, t ∈ ts := by cases ts with | nil => exact absurd rfl hnil | cons t r => exact ⟨t, by simp⟩
      haveI : Inhabited {t // t ∈ ts} := ⟨⟨t0, ht0⟩⟩
      obtain ⟨rfl, rfl⟩ : A = some ⟨b, 0, none⟩ ∧ c = c' := by simpa using hc
      have hsz : db.tag.sz = db.sz := rfl
      have hR := he.each hpu
      have hflat := he.flat
      let enc : {t // t ∈ ts} → List Value := fun x => x.1.2.1
      have hk : ∀ x, (enc x).length = db.sz := fun x => by obtain ⟨s1, h, -⟩ := hR x.1 x.2; exact db.len h
      have hone : ∀ x, ∀ v ∈ enc x, v.oneCell' = true := fun x => by obtain ⟨s1, h, -⟩ := hR x.1 x.2; exact db.one h
      have hfl : ts.attach.flatMap enc = ts.flatMap (·.2.1) := by
        rw [List.flatMap_def, List.flatMap_def]; congr 1; exact List.attach_map_val (l := ts) (f := fun t => t.2.1)
      have hF : Sort.flatK enc db.sz ts.attach.toArray = (ts.flatMap (·.2.1)).toArray := by rw [flatK_list hz hk, hfl]
      have hH : Sort.HoldsK enc db.sz w b 0 ts.attach.toArray := by
        intro j hj
        rw [hF] at hj ⊢
        have hj' : j < (ts.flatMap (·.2.1)).length := by simpa using hj
        have e1 : (ts.flatMap (·.2.1))[j]? = cur[j]? := by
          rw [← hflat, List.getElem?_take, if_pos]
          · simp
          · rw [← hflat] at hj'; simp at hj'; omega
        refine ⟨?_, by simp [World.frozen?, hb]⟩
        simp only [World.cell?, hb, Nat.zero_add]
        rw [← e1, List.getElem?_eq_getElem hj']
        simp [hj', List.getElem?_eq_getElem hj']
      have hcmp : CmpLays P g cb.toArray enc db.sz (fun x y => cf x.1.1 y.1.1) b 0 ts.attach.toArray.size w := by
        intro m os dk hdk x y
        have hm := sortWorld_mod enc db.sz w b m dk os
        have keepR : ∀ t ∈ ts, ∃ s1, db.Rel (sortWorldK enc db.sz w b 0 m dk os) t.2.1 t.1 [] s1 := fun t ht => by
          obtain ⟨s1, h, hs1⟩ := hR t ht
          exact ⟨s1, db.keep (fun q hq => by cases hq) (fun q hq => hm.block q (hl q (.inr (hs1 q hq))) (fun hx => hu0.2 q (by simpa using hx) (hs1 q hq))) h⟩
        obtain ⟨s0, hs0⟩ := keepR x.1 x.2
        obtain ⟨s1, hs1⟩ := keepR y.1 y.2
        have hcall := hf _ x.1 y.1 x.2 y.2 hm s0 s1 hs0 hs1
        have ea : ((#[.agg (enc x).toArray, .agg (enc y).toArray] : Array Value) ++ cb.toArray) = (([.agg x.1.2.1.toArray, .agg y.1.2.1.toArray] : List Value) ++ cb).toArray := by simp [enc]
        rw [ea]
        exact hcall.mono fun _ _ ⟨he1, hb1⟩ => ⟨he1, grown_of hb1⟩
      have hO' : Sort.SWO (ltOf (fun x y : {t // t ∈ ts} => cf x.1.1 y.1.1)) := ⟨fun x => hO.irrefl x.1.1, fun x y z => hO.trans x.1.1 y.1.1 z.1.1, fun x y z => hO.ntrans x.1.1 y.1.1 z.1.1⟩
      have hblk : b < w.heap.size := hl b (.inl (by simp))
      have hsort := AnyQ.slices_SortFunc_total L db.sz aE zE enc hk hone (fun x y => cf x.1.1 y.1.1) hO' g cb.toArray b 0 c ts.attach.toArray w (enters_kit hE) hcmp hH hblk (by simp; omega) (fun x y hxy hyx => Subtype.ext (hu x.1 x.2 y.1 y.2 hxy hyx))
      have esz : ts.attach.toArray.size = ts.length := by simp
      rw [esz] at hsort
      refine hsort.mono ?_
      rintro en w' ⟨rfl, n, os, rfl⟩
      generalize hd : (ts.attach.toArray.toList.mergeSort fun x y => !(ltOf (fun x y : {t // t ∈ ts} => cf x.1.1 y.1.1)) y x) = d'
      have hperm : d'.Perm ts.attach := by rw [← hd]; simpa using List.mergeSort_perm _ _
      have hlen : d'.length = ts.length := by rw [hperm.length_eq, List.length_attach]
      have hval : d'.map (·.1) = ts.mergeSort (fun x y => !ltOf cf y.1 x.1) := by
        rw [← hd]
        have := List.map_mergeSort (r := fun x y => !(ltOf (fun x y : {t // t ∈ ts} => cf x.1.1 y.1.1)) y x) (s := fun x y => !ltOf cf y.1 x.1) (f := fun x : {t // t ∈ ts} => x.1) (l := ts.attach) (fun a _ b _ => rfl)
        rw [this, show ts.attach.map (fun x => x.1) = ts from by simpa using List.attach_map_val (l := ts) (f := fun t => t)]
      have hm := sortWorld_mod enc db.sz w b n d'.toArray os
      have hrow := sortWorld_row enc db.sz w b n d'.toArray os hb
      have hF2 : Sort.flatK enc db.sz d'.toArray = ((d'.map (·.1)).flatMap (·.2.1)).toArray := by rw [flatK_list hz hk]; congr 1; simp [List.flatMap_map, enc]
      obtain ⟨ss, hss, hel⟩ := Kd.Elems.ofEach (db := db) (w := sortWorldK enc db.sz w b 0 n d'.toArray os) (S := s) (d'.map (·.1)) (fun t ht => by
        obtain ⟨x, -, rfl⟩ := List.mem_map.1 ht
        obtain ⟨s1, h, hs1⟩ := hR x.1 x.2
        exact ⟨s1, db.keep (fun q hq => by cases hq) (fun q hq => hm.block q (hl q (.inr (hs1 q hq))) (fun hx => hu0.2 q (by simpa using hx) (hs1 q hq))) h, hs1⟩)
      have hFs : (Sort.flatK enc db.sz d'.toArray).size = ts.length * db.sz := by rw [Sort.size_flatK]; simp [hlen]
      have hP : (Kd.row e db.tag).Rel (sortWorldK enc db.sz w b 0 n d'.toArray os) [.slice (some ⟨b, 0, none⟩) ts.length c] (d'.map (·.1)) [b] ss := by
        refine .inr ⟨b, c, _, [], by rw [List.length_map, hlen], rfl, hrow, by rw [List.length_map, hlen]; exact h1, ⟨h2.1, by rw [List.length_map, hlen]; exact h2.2⟩, ?_, ?_⟩
        · rw [← h3]; simp [Sort.putCells]
        · rw [List.length_map, hlen]
          have h4 := put_take (F := Sort.flatK enc db.sz d'.toArray) (cur := cur) (by rw [hFs, h3]; exact Nat.mul_le_mul_right _ h1)
          rw [hFs] at h4
          show Kd.Elems db.tag _ (List.take (ts.length * db.sz) _) _ _ _
          rw [h4, hF2]
          exact hel
      rw [← hval]
      refine ⟨rfl, [b], ss, hm, fun B hB => ?_, fun B hB q hq => ?_, fun B hB q hq => ?_, fun B hB => ?_, by simp⟩
      · simp at hB; subst hB; exact hP
      · simp at hB; subst hB; exact .inl hq
      · simp at hB; subst hB; exact .inl (hss q hq)
      · simp at hB; subst hB; exact ⟨by simp [dat], fun q hq hq' => hu0.2 q hq (hss q hq')⟩
end
/-! the elements of a row of pairs, noted -/
def kPairT : Kd (Tg Pair) := kPairS.tag
theorem kPairT_sh {w : World} {cs : List Value} {x : Tg Pair} {o s : List Nat} (h : kPairT.Rel w cs x o s) : ∃ (A1 : Option Addr) (c1 : Nat) (A2 : Option Addr) (c2 : Nat), cs = [.int .i64 x.1.id, .slice A1 x.1.rect.low.length c1, .slice A2 x.1.rect.high.length c2] := kPairS_sh h.2
theorem kPairT_self : Kd.Seals kPairT kPairT := kPairS_self.tag
theorem kPairT_pure : Kd.Pure kPairT := kPairS_pure.tag
theorem kPairT_p1_2 : Kd.Sub kPairT 1 kRectS (fun x => x.1.rect) := fun w cs x s h => kPairS_p1_2 w cs x.1 s h.2
def hitT (q : Query) (t : Tg Pair) : Bool := matchQ q t.1.rect
theorem tag_y {ts out : List (Tg Pair)} {k : Nat} {q : Query} {y : Tg Pair} (h : out = (ts.take k).filter (hitT q)) (hy : ts[k]? = some y) (hq : matchQ q y.1.rect = true) : out ++ [y] = (ts.take (k + 1)).filter (hitT q) := by
  have hq' : hitT q y = true := hq
  rw [take_snoc hy, List.filter_append, ← h]; simp [hq']
theorem tag_n {ts out : List (Tg Pair)} {k : Nat} {q : Query} {y : Tg Pair} (h : out = (ts.take k).filter (hitT q)) (hy : ts[k]? = some y) (hq : ¬ matchQ q y.1.rect = true) : out = (ts.take (k + 1)).filter (hitT q) := by
  have hq' : ¬ hitT q y = true := hq
  rw [take_snoc hy, List.filter_append, ← h]; simp [hq']
theorem tag_all {ts out : List (Tg Pair)} {list : List Pair} {k : Nat} {q : Query} (h : out = (ts.take k).filter (hitT q)) (et : ts.map (·.1) = list) (hk : list.length ≤ k) : out = ts.filter (hitT q) := by
  have hl : ts.length = list.length := by rw [← et, List.length_map]
  rw [h, List.take_of_length_le (by omega)]
theorem tag_hits {ts out : List (Tg Pair)} {list : List Pair} {q : Query} (h : out = ts.filter (hitT q)) (et : ts.map (·.1) = list) : out.map (·.1) = hits list q := by
  rw [h, ← et]; unfold hits; rw [List.filter_map]; rfl
theorem tag_in {ts out : List (Tg Pair)} {q : Query} (h : out = ts.filter (hitT q)) : out.Sublist ts := by rw [h]; exact List.filter_sublist
abbrev farT (p : List Int) (a b : Tg Pair) : Bool := !ltOf (nearC p) b.1 a.1
theorem ltOf_nearP (p : List Int) (a b : Pair) : ltOf (nearC p) a b = nearerP p a b := ltOf_near p a b
theorem near_swo (p : List Int) : Go.Sort.SWO (ltOf (nearC p)) where
  irrefl x := by rw [ltOf_nearP, Bool.eq_false_iff]; intro h; have := near_asym h; rw [h] at this; cases this
  trans x y z h1 h2 := by rw [ltOf_nearP] at *; exact near_tri h1 h2
  ntrans x y z h1 h2 := by rw [ltOf_nearP] at *; exact near_le h2 h1
theorem tag_one {p : List Int} {ts out : List (Tg Pair)} {list : List Pair} {q : Query} (h : out = ts.filter (hitT q)) (et : ts.map (·.1) = list) (hu : ∀ x ∈ list, ∀ y ∈ list, x.id = y.id → x = y) (hnd : list.Nodup) : ∀ x ∈ out, ∀ y ∈ out, ltOf (nearC p) x.1 y.1 = false → ltOf (nearC p) y.1 x.1 = false → x = y := fun x hx y hy h1 h2 => by
  rw [ltOf_nearP] at h1 h2
  have hid := near_one h1 h2
  have hx' : x ∈ ts := (tag_in h).subset hx
  have hy' : y ∈ ts := (tag_in h).subset hy
  have e1 : x.1 = y.1 := hu _ (by rw [← et]; exact List.mem_map_of_mem hx') _ (by rw [← et]; exact List.mem_map_of_mem hy') hid
  rw [← et] at hnd
  obtain ⟨i, hi, rfl⟩ := List.getElem_of_mem hx'
  obtain ⟨j, hj, rfl⟩ := List.getElem_of_mem hy'
  have hp := List.pairwise_iff_getElem.1 hnd
  rcases Nat.lt_trichotomy i j with hij | rfl | hij
  · exact (hp i j (by simpa using hi) (by simpa using hj) hij (by simp only [List.getElem_map]; exact e1)).elim
  · rfl
  · exact (hp j i (by simpa using hj) (by simpa using hi) hij (by simp only [List.getElem_map]; exact e1.symm)).elim
theorem tag_sort {p : List Int} {out : List (Tg Pair)} (hu : ∀ x ∈ out.map (·.1), ∀ y ∈ out.map (·.1), x.id = y.id → x = y) : (out.mergeSort (farT p)).map (·.1) = nearList p (out.map (·.1)) := by
  have h := List.map_mergeSort (r := farT p) (s := fun a b : Pair => !nearerP p b a) (f := fun t : Tg Pair => t.1) (l := out) (fun a _ b _ => by show (!ltOf (nearC p) b.1 a.1) = _; rw [ltOf_nearP])
  rw [h, sort_near hu]
theorem tag_near {ts out : List (Tg Pair)} {list : List Pair} {q : Query} {n : Nat} (h : out = ts.filter (hitT q)) (et : ts.map (·.1) = list) (hu : ∀ x ∈ list, ∀ y ∈ list, x.id = y.id → x = y) (h4 : q.kind = 4) (hn : ((n : Nat) : Int) = min q.k ((out.length : Nat) : Int)) : ((out.mergeSort (farT q.point)).take n).map (·.1) = answerL list q := by
  have hh := tag_hits h et
  have hm : ∀ x ∈ out.map (·.1), x ∈ list := fun x hx => by rw [hh] at hx; exact (List.mem_filter.1 hx).1
  rw [List.map_take, tag_sort (fun x hx y hy => hu x (hm x hx) y (hm y hy)), hh]
  unfold answerL; rw [if_pos h4]
  have hl : (nearList q.point (hits list q)).length = out.length := by rw [nearList_len, ← hh, List.length_map]
  by_cases hk : q.k ≤ (out.length : Int)
  · rw [show n = q.k.toNat by omega]
  · rw [List.take_of_length_le (by omega), List.take_of_length_le (by omega)]
theorem tag_far {ts out : List (Tg Pair)} {list : List Pair} {q : Query} (h : out = ts.filter (hitT q)) (et : ts.map (·.1) = list) (h4 : ¬ q.kind = 4) : out.map (·.1) = answerL list q := by
  rw [tag_hits h et]; unfold answerL; rw [if_neg h4]
theorem tag_nd {ts out : List (Tg Pair)} {q : Query} (h : out = ts.filter (hitT q)) (hn : (ts.flatMap (·.2.2.1)).Nodup) : (out.flatMap (·.2.2.1)).Nodup := hn.sublist (sub_flatMap (tag_in h))
theorem perm_flat {α β : Type} {f : α → List β} {l1 l2 : List α} (h : l1.Perm l2) : (l1.flatMap f).Perm (l2.flatMap f) := by rw [List.flatMap_def, List.flatMap_def]; exact (h.map f).flatten
theorem tag_nd2 {ts out : List (Tg Pair)} {q : Query} {p : List Int} {n : Nat} (h : out = ts.filter (hitT q)) (hn : (ts.flatMap (·.2.2.1)).Nodup) : (((out.mergeSort (farT p)).take n).flatMap (·.2.2.1)).Nodup :=
  (((perm_flat (f := fun t : Tg Pair => t.2.2.1) (List.mergeSort_perm out (farT p))).nodup_iff).2 (tag_nd h hn)).sublist (sub_flatMap (List.take_sublist _ _))
theorem tag_mem2 {ts out : List (Tg Pair)} {q : Query} {p : List Int} {n : Nat} (h : out = ts.filter (hitT q)) : ∀ t ∈ (out.mergeSort (farT p)).take n, t ∈ ts := fun t ht =>
  (tag_in h).subset ((List.mergeSort_perm out (farT p)).mem_iff.1 (List.mem_of_mem_take ht))
theorem see_tag {α : Type} {ts tx : List (Tg α)} {s : List Nat} {n : Nat} (hs : s = ts.flatMap (·.2.2.2)) (hn : ∀ b ∈ s, b ∈ ([] : List Nat) ∨ n ≤ b) (hm : ∀ t ∈ tx, t ∈ ts) : ∀ b ∈ tx.flatMap (·.2.2.2), n ≤ b := fun b hb => by
  obtain ⟨t, ht, hb⟩ := List.mem_flatMap.1 hb
  rcases hn b (by rw [hs]; exact List.mem_flatMap.2 ⟨t, hm t ht, hb⟩) with h | h
  · cases h
  · exact h
theorem tag_fit {ts out : List (Tg Pair)} {list : List Pair} {k d : Nat} {q : Query} (h : out = (ts.take k).filter (hitT q)) (et : ts.map (·.1) = list) (hf : ∀ x ∈ list, FitR d x.rect) : ∀ x ∈ out.map (·.1), FitR d x.rect := fun x hx => by
  obtain ⟨t, ht, rfl⟩ := List.mem_map.1 hx
  rw [h] at ht
  exact hf _ (by rw [← et]; exact List.mem_map_of_mem (List.mem_of_mem_take (List.mem_filter.1 ht).1))

def zPairT : Tg Pair := (zPair, [.int .i64 0, .slice none 0 0, .slice none 0 0], [], [])
def sortRen : Go.Shelf.Ren := ⟨fun | 6 => 65 | 14 => 85 | 15 => 86 | 20 => 94 | 21 => 95 | 22 => 96 | 23 => 97 | 24 => 98 | 25 => 99 | 26 => 100 | 27 => 101 | 28 => 102 | 29 => 103 | 46 => 106 | 47 => 107 | 48 => 108 | 49 => 109 | 50 => 110 | 57 => 111 | n => n, fun | 0 => 0 | 3 => 3 | 4 => 4 | 5 => 5 | 9 => 9 | 22 => 30 | 24 => 68 | 25 => 98 | 39 => 114 | 45 => 121 | 46 => 122 | 50 => 126 | 53 => 129 | 55 => 131 | 66 => 133 | 70 => 137 | 76 => 139 | 77 => 140 | n => n, fun n => n⟩
theorem sortLaid : SlLaysF0.n6 Try.prog sortRen := {
  mixed := by kernel_rfl
  f6 := ⟨Try.f65.name, by decide, Try.func65.trans (congrArg some (by kernel_rfl))⟩
  f14 := ⟨Try.f85.name, by decide, Try.func85.trans (congrArg some (by kernel_rfl))⟩
  f15 := Try.func86.trans (congrArg some (by kernel_rfl))
  f20 := ⟨Try.f94.name, by decide, Try.func94.trans (congrArg some (by kernel_rfl))⟩
  f21 := ⟨Try.f95.name, by decide, Try.func95.trans (congrArg some (by kernel_rfl))⟩
  f22 := ⟨Try.f96.name, by decide, Try.func96.trans (congrArg some (by kernel_rfl))⟩
  f23 := ⟨Try.f97.name, by decide, Try.func97.trans (congrArg some (by kernel_rfl))⟩
  f24 := ⟨Try.f98.name, by decide, Try.func98.trans (congrArg some (by kernel_rfl))⟩
  f25 := ⟨Try.f99.name, by decide, Try.func99.trans (congrArg some (by kernel_rfl))⟩
  f26 := ⟨Try.f100.name, by decide, Try.func100.trans (congrArg some (by kernel_rfl))⟩
  f27 := ⟨Try.f101.name, by decide, Try.func101.trans (congrArg some (by kernel_rfl))⟩
  f28 := Try.func102.trans (congrArg some (by kernel_rfl))
  f29 := Try.func103.trans (congrArg some (by kernel_rfl))
  f46 := ⟨Try.f106.name, by decide, Try.func106.trans (congrArg some (by kernel_rfl))⟩
  f47 := Try.func107.trans (congrArg some (by kernel_rfl))
  f48 := Try.func108.trans (congrArg some (by kernel_rfl))
  f49 := ⟨Try.f109.name, by decide, Try.func109.trans (congrArg some (by kernel_rfl))⟩
  f50 := ⟨Try.f110.name, by decide, Try.func110.trans (congrArg some (by kernel_rfl))⟩
  f57 := ⟨Try.f111.name, by decide, Try.func111.trans (congrArg some (by kernel_rfl))⟩
  t0 := Try.underlying0
  a0 := Try.isAgg0
  z0 := Try.sizeOf0
  v0 := Try.zeroValue0
  t3 := Try.underlying3
  a3 := Try.isAgg3
  z3 := Try.sizeOf3
  v3 := Try.zeroValue3
  t4 := Try.underlying4
  a4 := Try.isAgg4
  z4 := Try.sizeOf4
  v4 := Try.zeroValue4
  t5 := Try.underlying5
  a5 := Try.isAgg5
  z5 := Try.sizeOf5
  v5 := Try.zeroValue5
  t9 := Try.underlying9
  a9 := Try.isAgg9
  z9 := Try.sizeOf9
  v9 := Try.zeroValue9
  t22 := Try.underlying30
  a22 := Try.isAgg30
  z22 := Try.sizeOf30
  v22 := Try.zeroValue30
  t25 := Try.underlying98
  a25 := Try.isAgg98
  z25 := Try.sizeOf98
  v25 := Try.zeroValue98
  t39 := Try.underlying114
  a39 := Try.isAgg114
  z39 := Try.sizeOf114
  v39 := Try.zeroValue114
  t45 := Try.underlying121
  a45 := Try.isAgg121
  z45 := Try.sizeOf121
  v45 := Try.zeroValue121
  t46 := Try.underlying122
  a46 := Try.isAgg122
  z46 := Try.sizeOf122
  v46 := Try.zeroValue122
  t50 := Try.underlying126
  a50 := Try.isAgg126
  z50 := Try.sizeOf126
  v50 := Try.zeroValue126
  t53 := Try.underlying129
  a53 := Try.isAgg129
  z53 := Try.sizeOf129
  v53 := Try.zeroValue129
  t55 := Try.underlying131
  a55 := Try.isAgg131
  z55 := Try.sizeOf131
  v55 := Try.zeroValue131
  t66 := Try.underlying133
  a66 := Try.isAgg133
  z66 := Try.sizeOf133
  v66 := Try.zeroValue133
  t70 := Try.underlying137
  a70 := Try.isAgg137
  z70 := Try.sizeOf137
  v70 := Try.zeroValue137
  t76 := Try.underlying139
  a76 := Try.isAgg139
  z76 := Try.sizeOf139
  v76 := Try.zeroValue139
  t77 := Try.underlying140
  a77 := Try.isAgg140
  z77 := Try.sizeOf140
  v77 := Try.zeroValue140 }
theorem sort_pairs (w : World) (cmp : Pair → Pair → Int) {fcmp : FuncId} {cfcmp : List Value} (hEcmp : enters Try.prog fcmp = true) {Asrc : Option Addr} {csrc : Nat} {src : List (Tg Pair)} {nsrc : Nat} {osrc_ ssrc_ : List Nat} (hst : St (nul w) w [dat (Kd.row 68 kPairT) [.slice Asrc nsrc csrc] src osrc_ ssrc_])
    (hfcmp : ∀ (w1 : World) (x0 x1 : Pair), x0 ∈ src.map (·.1) → x1 ∈ src.map (·.1) → Mod w w1 osrc_ → ∀ (A0_1 : Option Addr) (c0_1 : Nat) (A0_2 : Option Addr) (c0_2 : Nat) (A1_1 : Option Addr) (c1_1 : Nat) (A1_2 : Option Addr) (c1_2 : Nat), ∀ s0_ : List Nat, kPairS.Rel w1 [.int .i64 x0.id, .slice A0_1 x0.rect.low.length c0_1, .slice A0_2 x0.rect.high.length c0_2] x0 [] s0_ → ∀ s1_ : List Nat, kPairS.Rel w1 [.int .i64 x1.id, .slice A1_1 x1.rect.low.length c1_1, .slice A1_2 x1.rect.high.length c1_2] x1 [] s1_ → Calls Try.prog fcmp (([.agg #[.int .i64 x0.id, .slice A0_1 x0.rect.low.length c0_1, .slice A0_2 x0.rect.high.length c0_2], .agg #[.int .i64 x1.id, .slice A1_1 x1.rect.low.length c1_1, .slice A1_2 x1.rect.high.length c1_2]] : List Value) ++ cfcmp).toArray w1 (fun e_ w2_ => e_ = .returned (.int .i64 (cmp x0 x1)) ∧ Below w1.heap.size w1 w2_))
    (hO : Go.Sort.SWO (ltOf cmp)) (hu : ∀ x ∈ src, ∀ y ∈ src, ltOf cmp x.1 y.1 = false → ltOf cmp y.1 x.1 = false → x = y) (hsm : src.length < 1000000) (hnsrc : nsrc = src.length) :
    Calls Try.prog 65 #[.slice Asrc nsrc csrc, .func (.func fcmp) #[] cfcmp.toArray] w (TurnO (Kd.row 68 kPairT) [.slice Asrc nsrc csrc] (.tuple #[]) w osrc_ (src.mergeSort (fun x y => !ltOf cmp y.1 x.1)) ssrc_) := by
  subst hnsrc
  refine sort_tag (ρ := sortRen) sortLaid kPairS kPairS_pure (fun w => Try.isAgg68 w) (fun w => Try.sizeOf68 w) (by decide) w cmp hEcmp hO hst hu hsm (fun w1 x0 x1 m0 m1 b s0 s1 r0 r1 => ?_)
  obtain ⟨A1, c1, A2, c2, e0⟩ := kPairS_sh r0
  obtain ⟨A3, c3, A4, c4, e1⟩ := kPairS_sh r1
  rw [e0] at r0 ⊢; rw [e1] at r1 ⊢
  exact hfcmp w1 x0.1 x1.1 (List.mem_map_of_mem m0) (List.mem_map_of_mem m1) b _ _ _ _ _ _ _ _ _ r0 _ r1
/-! slices.Clone[[]impl.Pair,impl.Pair] -/
set_option maxRecDepth 20000 in
set_option maxHeartbeats 2000000 in
theorem clone_T (w : World) {As : Option Addr} {cs : Nat} {s : List (Tg Pair)} {ss_ : List Nat} (hs : (Kd.sl kPairT).Rel w [.slice As s.length cs] s [] ss_) (hz : s.length ≤ 1048576) : Calls Try.prog 67 #[.slice As s.length cs] w (Made (Kd.row 68 kPairT) w s (ss_)) := by
  have Ls := Kd.sl_len hs; have Cs := Kd.sl_cap hs
  refine fnc (X := X5 8 w) (args := [.slice As s.length cs]) (l := [(0, .slice As s.length cs)]) (G := [dat (Kd.sl kPairT) [.slice As s.length cs] s ([]) ss_]) Try.func67 rfl rfl rfl ⟨rfl, trivial⟩ (s0d hs (s0n w)).1 ?_
  refine sq (rg (a_ rfl rfl (en (nx (sq (sq (rg (m_ rfl rfl (vl (cmN rfl rfl rfl rfl) rfl (en (nx ?_)))))))))))
  by_cases h1 : As.isNone = true
  · exact ct rfl h1 (sq (rg (a_ rfl rfl (en (nx (rt (xr (gs (Kd.row 68 kPairT) [.slice none 0 0] [] (fun _ => .inl ⟨rfl, rfl, rfl, rfl⟩) (gr s (by rw [Option.isNone_iff_eq_none] at h1; subst h1; exact (Kd.sl_nil hs).symm)  (ret1 rfl rfl (fun w_ hs_ => made hs_ rfl (by grind))))))))))))
  · refine cf rfl (Bool.eq_false_iff.2 h1) (sk (nx (sq (rg (bs0 (dk := kPairT) rfl info68 rfl rfl ?_)))))
    intro b2
    refine m_ rfl rfl ?_
    refine f1 (f1 (aps s rfl info68 rfl rfl (by decide) rfl rfl rfl rfl (by omega) (by omega) rfl (fun A3 c4 o5 s6 t7 => ?_)))
    exact a_ rfl rfl (en (nx (rt (gr s rfl (ret1 rfl rfl (fun w_ hs_ => made hs_ rfl (by grind)))))))
end Go.Proofs.Ytkilionclpeonaa.Sx
