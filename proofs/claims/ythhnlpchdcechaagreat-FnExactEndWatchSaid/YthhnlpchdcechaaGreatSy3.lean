/- What functions of the program answer, each at every input that its row names; walked through their code. -/
import Derived.Test.YthhnlpchdcechaaGreatSy2
import Derived.Shelf.SortG.Plain
namespace Go.Proofs.YthhnlpchdcechaaGreat.Sx
open Go Go.RowKit Go.Proofs
set_option linter.unusedVariables false
set_option linter.unusedSimpArgs false
def tab3 : Tab := { size := [(2, 1, false), (22, 1, false), (36, 2, true), (47, 1, false), (63, 1, false), (64, 1, false), (66, 4, true), (105, 4, true), (200, 4, true), (202, 2, true)], off := [((66, 0), 0), ((66, 1), 1), ((66, 2), 2), ((66, 3), 3), ((105, 0), 0), ((105, 1), 2), ((105, 2), 3), ((200, 3), 3), ((202, 0), 0), ((202, 1), 1)], elem := [(47, 105), (63, 200), (64, 202)] }
theorem tab_ok3 : tab3.check Tryz.prog = true := by kernel_rfl
noncomputable abbrev X3 (N : Nat) (w : World) : Cx := ⟨Tryz.prog, tab3, tab_ok3, wide, N, w, none, []⟩
theorem bld66 : bld Tryz.prog 66 = some ([(0, 1), (1, 1), (2, 1), (3, 1)], [.int .i64 0, .slice none 0 0, .slice none 0 0, .slice none 0 0]) := by kernel_rfl
theorem bld105 : bld Tryz.prog 105 = some ([(0, 2), (2, 1), (3, 1)], [.slice none 0 0, .slice none 0 0, .int .i64 0, .int .i64 0]) := by kernel_rfl
theorem bld202 : bld Tryz.prog 202 = some ([(0, 1), (1, 1)], [.int .i64 0, .slice none 0 0]) := by kernel_rfl

section
/-! ### 38. a cell that is told by its value alone; slices.Sort of whole numbers -/
section
variable {α : Type} {dk : Kd α} {X : Cx} {o : Oper} {l : List (Nat × Value)} {G : List Asn} {ops : Array Oper} {Q : Exit → Act → World → Prop} {r : List Oper} {d : Nat}
/-- A call that takes over what stands first, in a function that turns what was handed over. -/
theorem com {x : α} {S : List Nat} {A0 : Asn} {f : FuncId} {args : List Operand} {ts : Array TypeId} {vs : List Value} (hE : enters X.P f = true)
    (ho : o.op = .call { callee := .value (.func f), args := args.toArray, argTypes := ts }) (hv : evs l args = some vs) (hp : pl X.N o = some d)
    (hS : ∀ b ∈ S, ∃ A ∈ A0 :: G, b ∈ A.see) (m : Nat) (hm : ∀ w, St X.w0 w (A0 :: G) → m ≤ w.heap.size)
    (hc : ∀ w, St X.w0 w (A0 :: G) → Calls X.P f vs.toArray w (MadeO dk w A0.own x S))
    (h : ∀ cs oo ss w, dk.Rel w cs x oo ss → (∀ b ∈ ss, b ∈ S ∨ m ≤ b) → SL X ops Q r ((d, valof cs) :: l) (dat dk cs x oo ss :: G)) : SL X ops Q (o :: r) l (A0 :: G) := by
  obtain ⟨fn, h1, h2, h3⟩ := enters_spec hE
  refine clx ho h1 h2 h3 hv hp fun a w hk hs => (hc w hs).mono ?_
  rintro e w' ⟨cs, oo, ss, rfl, hmo, hP, hoo, hss, hu, hpw⟩
  refine ⟨_, rfl, fun a' ha' => h cs oo ss w' (hP (dat dk cs x oo ss) (by simp)) (fun b hb => (hss (dat dk cs x oo ss) (by simp) b hb).imp_right (Nat.le_trans (hm w hs))) a' w' ha' ?_⟩
  exact hs.swap' (As := [A0]) (Bs := [dat dk cs x oo ss]) (hmo.mono (fun b h => by simpa [owns] using h)) hP (fun B hB b hb => (hoo B hB b hb).imp_left (fun h => by simpa [owns] using h)) (fun B hB b hb => (hss B hB b hb).imp_left (hS b)) hu hpw
end
section
theorem Kd.Elems.ints {w : World} {cs : List Value} {zs : List Int} {o s : List Nat} (h : Kd.Elems Kd.i64 w cs zs o s) : cs = zs.map (.int .i64) ∧ o = [] ∧ s = [] := by
  induction h with
  | nil => exact ⟨rfl, rfl, rfl⟩
  | cons hr he ih =>
    obtain ⟨rfl, rfl, rfl⟩ := hr
    obtain ⟨rfl, rfl, rfl⟩ := ih
    exact ⟨rfl, rfl, rfl⟩
theorem Kd.Elems.ofInts {w : World} : ∀ (zs : List Int), Kd.Elems Kd.i64 w (zs.map (.int .i64)) zs [] []
  | [] => .nil
  | z :: zs => Kd.Elems.cons (d := Kd.i64) (c := [.int .i64 z]) (o := []) (s := []) (o' := []) (s' := []) ⟨rfl, rfl, rfl⟩ (Kd.Elems.ofInts zs)
end
open Go.Shelf Go.Sort Go.Proofs
theorem sortI_heap (w : World) (b m : Nat) (d : Array Int) (os : Array Obj) (q : Nat) (hq : q < w.heap.size) (hne : q ≠ b) : (Sort.grow (Sort.putRow (Value.int .i64) (Sort.ahead w m) b 0 d) os).heap[q]? = w.heap[q]? := by
  unfold Sort.grow Sort.putRow Sort.mapBlock Sort.ahead
  simp only
  rw [Array.getElem?_append_left (by simpa using hq), Array.getElem?_modify, if_neg (fun e => hne e.symm)]
theorem sortI_row (w : World) (b m : Nat) (d : Array Int) (os : Array Obj) {cur : Array Value} {e : TypeId} (hb : w.heap[b]? = some (.cells cur e (0, 0))) : (Sort.grow (Sort.putRow (Value.int .i64) (Sort.ahead w m) b 0 d) os).heap[b]? = some (.cells (Sort.putCells (Value.int .i64) 0 d cur) e (0, 0)) := by
  have hlt : b < w.heap.size := (Array.getElem?_eq_some_iff.1 hb).1
  unfold Sort.grow Sort.putRow Sort.mapBlock Sort.ahead
  simp only
  rw [Array.getElem?_append_left (by simpa using hlt), Array.getElem?_modify, if_pos rfl, hb]
  rfl
theorem sortI_mod (w : World) (b m : Nat) (d : Array Int) (os : Array Obj) : Mod w (Sort.grow (Sort.putRow (Value.int .i64) (Sort.ahead w m) b 0 d) os) [b] :=
  ⟨rfl, rfl, rfl, by simp [Sort.grow, Sort.putRow, Sort.mapBlock, Sort.ahead], fun q hq hn => sortI_heap w b m d os q hq (by simpa using hn), by simp [Sort.grow, Sort.putRow, Sort.mapBlock, Sort.ahead]⟩
theorem putI_take {d : Array Int} {cur : Array Value} (h : d.size ≤ cur.size) : (Sort.putCells (Value.int .i64) 0 d cur).toList.take d.size = d.toList.map (Value.int .i64) := by
  refine List.ext_getElem? fun t => ?_
  rw [List.getElem?_take]
  by_cases ht : t < d.size
  · rw [if_pos ht]
    have h1 : t < cur.size := by omega
    simp [Sort.putCells, h1, ht]
  · rw [if_neg ht]
    have h2 : d.size ≤ t := Nat.le_of_not_lt ht
    simp [h2]
theorem sort_int {P : Program} {ρ : Ren} (L : SlLaysN.n53 P ρ) {e : TypeId} (w : World) {A : Option Addr} {c : Nat} {zs : List Int} {o s : List Nat}
    (hst : St (nul w) w [dat (Kd.row e Kd.i64) [.slice A zs.length c] zs o s]) (hne : 0 < zs.length) (hsm : zs.length < 4611686018427387904) :
    Calls P (ρ.f 53) #[.slice A zs.length c] w (TurnO (Kd.row e Kd.i64) [.slice A zs.length c] (.tuple #[]) w o (zs.mergeSort (fun x y => decide (x ≤ y))) []) := by
  have hr : (Kd.row e Kd.i64).Rel w [.slice A zs.length c] zs o s := hst.at 0 rfl
  have hu0 : o.Nodup ∧ ∀ b ∈ o, b ∉ s := hst.uniq _ (List.mem_cons_self ..)
  have hl : ∀ b, b ∈ o ∨ b ∈ s → b < w.heap.size := fun b hb => (Kd.row e Kd.i64).lt hr b hb
  rcases hr with ⟨rfl, rfl, rfl, hc⟩ | ⟨b, c', cur, o', hc, rfl, hb, h1, h2, h3, he⟩
  · exact absurd hne (by simp)
  · obtain ⟨hflat, rfl, rfl⟩ := he.ints
    obtain ⟨rfl, rfl⟩ : A = some ⟨b, 0, none⟩ ∧ c = c' := by simpa using hc
    have hsz : Kd.i64.sz = 1 := rfl
    rw [hsz, Nat.mul_one] at hflat h3
    have hH : Holds (Value.int .i64) w b 0 zs.toArray := by
      intro j hj
      have hj' : j < zs.length := by simpa using hj
      have e1 : (zs.map (Value.int .i64))[j]? = cur[j]? := by
        rw [← hflat, List.getElem?_take, if_pos hj']
        simp
      refine ⟨?_, by simp [World.frozen?, hb]⟩
      simp only [World.cell?, hb, Nat.zero_add]
      rw [← e1]
      simp [hj']
    have hblk : b < w.heap.size := hl b (.inl (by simp))
    refine (AnyG.slices_Sort_int L b 0 c zs w hH hblk hsm).mono ?_
    rintro en w' ⟨rfl, n, os, rfl⟩
    generalize hd : (zs.mergeSort fun x y => decide (x ≤ y)) = d
    have hlen : d.length = zs.length := by rw [← hd, List.length_mergeSort]
    have hm := sortI_mod w b n d.toArray os
    have hrow := sortI_row w b n d.toArray os hb
    have hP : (Kd.row e Kd.i64).Rel (Sort.grow (Sort.putRow (Value.int .i64) (Sort.ahead w n) b 0 d.toArray) os) [.slice (some ⟨b, 0, none⟩) zs.length c] d [b] [] := by
      refine .inr ⟨b, c, _, [], by rw [hlen], rfl, hrow, by rw [hlen]; exact h1, ⟨h2.1, by rw [hlen]; exact h2.2⟩, ?_, ?_⟩
      · rw [hsz, Nat.mul_one, ← h3]; simp [Sort.putCells]
      · rw [hsz, Nat.mul_one]
        have h4 := putI_take (d := d.toArray) (cur := cur) (by rw [h3]; simpa [hlen] using h1)
        rw [show d.toArray.size = d.length from by simp] at h4
        rw [h4]
        exact Kd.Elems.ofInts d
    refine ⟨rfl, [b], [], hm, fun B hB => ?_, fun B hB q hq => ?_, fun B hB q hq => ?_, fun B hB => ?_, by simp⟩
    · simp at hB; subst hB; exact hP
    · simp at hB; subst hB; exact .inl hq
    · simp at hB; subst hB; cases hq
    · simp at hB; subst hB; exact ⟨by simp [dat], fun q hq hq' => by cases hq'⟩
end
def sortRen : Go.Shelf.Ren := ⟨fun | 53 => 209 | 59 => 260 | 63 => 235 | 64 => 219 | 68 => 220 | 70 => 254 | 71 => 255 | 72 => 256 | 73 => 257 | 74 => 258 | 75 => 259 | 76 => 261 | 77 => 262 | 78 => 249 | 79 => 250 | 88 => 272 | 89 => 267 | 90 => 268 | 91 => 273 | 92 => 274 | 96 => 278 | n => n, fun | 0 => 0 | 3 => 3 | 4 => 4 | 5 => 5 | 9 => 9 | 22 => 22 | 23 => 2 | 44 => 265 | 51 => 248 | 60 => 260 | 61 => 261 | 67 => 268 | 69 => 270 | 75 => 280 | 79 => 284 | 83 => 288 | 84 => 289 | n => n, fun n => n⟩
theorem sortLaid : SlLaysN.n53 Tryz.prog sortRen := {
  mixed := by kernel_rfl
  f53 := ⟨Tryz.f209.name, by decide, Tryz.func209.trans (congrArg some (by kernel_rfl))⟩
  f59 := ⟨Tryz.f260.name, by decide, Tryz.func260.trans (congrArg some (by kernel_rfl))⟩
  f63 := ⟨Tryz.f235.name, by decide, Tryz.func235.trans (congrArg some (by kernel_rfl))⟩
  f64 := Tryz.func219.trans (congrArg some (by kernel_rfl))
  f68 := ⟨Tryz.f220.name, by decide, Tryz.func220.trans (congrArg some (by kernel_rfl))⟩
  f70 := ⟨Tryz.f254.name, by decide, Tryz.func254.trans (congrArg some (by kernel_rfl))⟩
  f71 := ⟨Tryz.f255.name, by decide, Tryz.func255.trans (congrArg some (by kernel_rfl))⟩
  f72 := ⟨Tryz.f256.name, by decide, Tryz.func256.trans (congrArg some (by kernel_rfl))⟩
  f73 := ⟨Tryz.f257.name, by decide, Tryz.func257.trans (congrArg some (by kernel_rfl))⟩
  f74 := ⟨Tryz.f258.name, by decide, Tryz.func258.trans (congrArg some (by kernel_rfl))⟩
  f75 := ⟨Tryz.f259.name, by decide, Tryz.func259.trans (congrArg some (by kernel_rfl))⟩
  f76 := ⟨Tryz.f261.name, by decide, Tryz.func261.trans (congrArg some (by kernel_rfl))⟩
  f77 := ⟨Tryz.f262.name, by decide, Tryz.func262.trans (congrArg some (by kernel_rfl))⟩
  f78 := Tryz.func249.trans (congrArg some (by kernel_rfl))
  f79 := Tryz.func250.trans (congrArg some (by kernel_rfl))
  f88 := ⟨Tryz.f272.name, by decide, Tryz.func272.trans (congrArg some (by kernel_rfl))⟩
  f89 := Tryz.func267.trans (congrArg some (by kernel_rfl))
  f90 := Tryz.func268.trans (congrArg some (by kernel_rfl))
  f91 := ⟨Tryz.f273.name, by decide, Tryz.func273.trans (congrArg some (by kernel_rfl))⟩
  f92 := ⟨Tryz.f274.name, by decide, Tryz.func274.trans (congrArg some (by kernel_rfl))⟩
  f96 := ⟨Tryz.f278.name, by decide, Tryz.func278.trans (congrArg some (by kernel_rfl))⟩
  t0 := Tryz.underlying0
  a0 := Tryz.isAgg0
  z0 := Tryz.sizeOf0
  v0 := Tryz.zeroValue0
  t3 := Tryz.underlying3
  a3 := Tryz.isAgg3
  z3 := Tryz.sizeOf3
  v3 := Tryz.zeroValue3
  t4 := Tryz.underlying4
  a4 := Tryz.isAgg4
  z4 := Tryz.sizeOf4
  v4 := Tryz.zeroValue4
  t5 := Tryz.underlying5
  a5 := Tryz.isAgg5
  z5 := Tryz.sizeOf5
  v5 := Tryz.zeroValue5
  t9 := Tryz.underlying9
  a9 := Tryz.isAgg9
  z9 := Tryz.sizeOf9
  v9 := Tryz.zeroValue9
  t22 := Tryz.underlying22
  a22 := Tryz.isAgg22
  z22 := Tryz.sizeOf22
  v22 := Tryz.zeroValue22
  t23 := Tryz.underlying2
  a23 := Tryz.isAgg2
  z23 := Tryz.sizeOf2
  v23 := Tryz.zeroValue2
  t44 := Tryz.underlying265
  a44 := Tryz.isAgg265
  z44 := Tryz.sizeOf265
  v44 := Tryz.zeroValue265
  t51 := Tryz.underlying248
  a51 := Tryz.isAgg248
  z51 := Tryz.sizeOf248
  v51 := Tryz.zeroValue248
  t60 := Tryz.underlying260
  a60 := Tryz.isAgg260
  z60 := Tryz.sizeOf260
  v60 := Tryz.zeroValue260
  t61 := Tryz.underlying261
  a61 := Tryz.isAgg261
  z61 := Tryz.sizeOf261
  v61 := Tryz.zeroValue261
  t67 := Tryz.underlying268
  a67 := Tryz.isAgg268
  z67 := Tryz.sizeOf268
  v67 := Tryz.zeroValue268
  t69 := Tryz.underlying270
  a69 := Tryz.isAgg270
  z69 := Tryz.sizeOf270
  v69 := Tryz.zeroValue270
  t75 := Tryz.underlying280
  a75 := Tryz.isAgg280
  z75 := Tryz.sizeOf280
  v75 := Tryz.zeroValue280
  t79 := Tryz.underlying284
  a79 := Tryz.isAgg284
  z79 := Tryz.sizeOf284
  v79 := Tryz.zeroValue284
  t83 := Tryz.underlying288
  a83 := Tryz.isAgg288
  z83 := Tryz.sizeOf288
  v83 := Tryz.zeroValue288
  t84 := Tryz.underlying289
  a84 := Tryz.isAgg289
  z84 := Tryz.sizeOf289
  v84 := Tryz.zeroValue289 }
def insI (id : Int) : List Int → List Int
  | [] => [id]
  | x :: l => if id < x then id :: x :: l else x :: insI id l
def UpTo (l : List Int) : Prop := l.Pairwise (· ≤ ·)
theorem insI_perm (id : Int) : ∀ l : List Int, (insI id l).Perm (l ++ [id])
  | [] => .refl _
  | x :: l => by
    unfold insI
    split
    · exact (List.perm_append_comm (l₁ := [id]) (l₂ := x :: l))
    · exact (insI_perm id l).cons x
theorem insI_len (id : Int) (l : List Int) : (insI id l).length = l.length + 1 := by rw [(insI_perm id l).length_eq]; simp
theorem insI_up {id : Int} : ∀ {l : List Int}, UpTo l → UpTo (insI id l)
  | [], _ => by simp [insI, UpTo]
  | x :: l, h => by
    have h1 := List.pairwise_cons.1 h
    unfold insI
    split
    · rename_i hx
      refine List.pairwise_cons.2 ⟨fun y hy => ?_, h⟩
      rcases List.mem_cons.1 hy with rfl | hy
      · omega
      · have := h1.1 y hy; omega
    · rename_i hx
      refine List.pairwise_cons.2 ⟨fun y hy => ?_, insI_up h1.2⟩
      rcases List.mem_append.1 ((insI_perm id l).subset hy) with hy | hy
      · exact h1.1 y hy
      · simp at hy; omega
theorem sort_ins {id : Int} {l : List Int} (h : UpTo l) : (l ++ [id]).mergeSort (fun x y => decide (x ≤ y)) = insI id l := by
  have hp : ((l ++ [id]).mergeSort (fun x y => decide (x ≤ y))).Perm (insI id l) := (List.mergeSort_perm _ _).trans (insI_perm id l).symm
  have h1 : ((l ++ [id]).mergeSort (fun x y => decide (x ≤ y))).Pairwise (fun a b => a ≤ b) := by
    have := List.pairwise_mergeSort (le := fun x y : Int => decide (x ≤ y)) (by simp; omega) (by simp; omega) (l ++ [id])
    exact this.imp (fun hab => by simpa using hab)
  exact hp.eq_of_pairwise (fun a b _ _ h k => Int.le_antisymm h k) h1 (insI_up h)
theorem insI_gt {id : Int} : ∀ {l m : List Int}, (∃ x ∈ l, id < x) → insI id (l ++ m) = insI id l ++ m
  | [], _, h => by obtain ⟨x, hx, _⟩ := h; cases hx
  | y :: l, m, h => by
    simp only [List.cons_append, insI]
    split
    · rfl
    · rename_i hy
      rw [insI_gt (l := l)]
      · rfl
      · obtain ⟨x, hx, hl⟩ := h
        rcases List.mem_cons.1 hx with rfl | hx
        · exact absurd hl hy
        · exact ⟨x, hx, hl⟩
theorem insI_le {id : Int} : ∀ {l m : List Int}, (∀ x ∈ l, ¬ id < x) → insI id (l ++ m) = l ++ insI id m
  | [], _, _ => rfl
  | y :: l, m, h => by
    simp only [List.cons_append, insI]
    rw [if_neg (h y (List.mem_cons_self ..)), insI_le (fun x hx => h x (List.mem_cons_of_mem _ hx))]
/-- The spec's round over the free places: what is written so far. -/
def giveInv (id : Int) (l : List Int) (k : Nat) (out : List Int) (done : Bool) : Prop :=
  (done = true ∧ out = insI id (l.take k) ∧ ∃ x ∈ l.take k, id < x) ∨ (done = false ∧ out = l.take k ∧ ∀ x ∈ l.take k, ¬ id < x)
theorem give_0 {id : Int} {l : List Int} : giveInv id l 0 [] false := .inr ⟨rfl, by simp, by simp⟩
theorem give_len {id : Int} {l out : List Int} {k : Nat} {done : Bool} (h : giveInv id l k out done) : out.length ≤ k + 1 := by
  rcases h with ⟨-, rfl, -⟩ | ⟨-, rfl, -⟩
  · rw [insI_len, List.length_take]; omega
  · rw [List.length_take]; omega
theorem give_put {id : Int} {l out : List Int} {k : Nat} {done : Bool} {x : Int} (h : giveInv id l k out done) (hx : l[k]? = some x) (hd : done = false) (hg : id < x) : giveInv id l (k + 1) (out ++ [id] ++ [x]) true := by
  rcases h with ⟨h, -⟩ | ⟨-, rfl, h⟩
  · rw [hd] at h; cases h
  · rw [giveInv, take_snoc hx]
    refine .inl ⟨rfl, ?_, x, by simp, hg⟩
    rw [insI_le h, insI, if_pos hg, List.append_assoc]; rfl
theorem give_past {id : Int} {l out : List Int} {k : Nat} {done : Bool} {x : Int} (h : giveInv id l k out done) (hx : l[k]? = some x) (hd : done = true) : giveInv id l (k + 1) (out ++ [x]) done := by
  rcases h with ⟨-, rfl, h⟩ | ⟨h, -⟩
  · rw [giveInv, take_snoc hx]
    obtain ⟨y, hy, hl⟩ := h
    exact .inl ⟨hd, (insI_gt ⟨y, hy, hl⟩).symm, y, List.mem_append_left _ hy, hl⟩
  · rw [hd] at h; cases h
theorem give_keep {id : Int} {l out : List Int} {k : Nat} {done : Bool} {x : Int} (h : giveInv id l k out done) (hx : l[k]? = some x) (hg : ¬ id < x) : giveInv id l (k + 1) (out ++ [x]) done := by
  rcases h with ⟨hd, rfl, h⟩ | ⟨hd, rfl, h⟩
  · rw [giveInv, take_snoc hx]
    obtain ⟨y, hy, hl⟩ := h
    exact .inl ⟨hd, (insI_gt ⟨y, hy, hl⟩).symm, y, List.mem_append_left _ hy, hl⟩
  · rw [giveInv, take_snoc hx]
    refine .inr ⟨hd, rfl, fun y hy => ?_⟩
    rcases List.mem_append.1 hy with hy | hy
    · exact h y hy
    · simp at hy; subst hy; exact hg
theorem give_t {id : Int} {l out : List Int} {k : Nat} {done : Bool} (h : giveInv id l k out done) (hk : l.length ≤ k) (hd : done = true) : out = insI id l := by
  rcases h with ⟨-, rfl, -⟩ | ⟨h, -⟩
  · rw [List.take_of_length_le hk]
  · rw [hd] at h; cases h
theorem give_f {id : Int} {l out : List Int} {k : Nat} {done : Bool} (h : giveInv id l k out done) (hk : l.length ≤ k) (hd : done = false) : out ++ [id] = insI id l := by
  rcases h with ⟨h, -⟩ | ⟨-, rfl, h⟩
  · rw [hd] at h; cases h
  · rw [List.take_of_length_le hk] at h ⊢
    have := insI_le (m := []) h
    rw [List.append_nil] at this; rw [this]; rfl
structure ArenaV where
  dims : Int
  nodes : List Node
  free : List Int
  retired : Value
def relV (a : ArenaV) (id : Int) : ArenaV := ⟨a.dims, a.nodes.set id.toNat emptyNode, insI id a.free, a.retired⟩
def relA (a : Arena) (id : Int) : Arena := ⟨a.dims, a.nodes.set id.toNat emptyNode, insI id a.free, a.retired⟩
def retireA (a : Arena) (id : Int) (watch : List Int) : Arena := if watch = [] then relA a id else ⟨a.dims, a.nodes, a.free, a.retired ++ [⟨id, watch⟩]⟩
def restOf (c : Int) (l : List Int) : List Int := l.filter (fun x => !(x == c))
def endStep (c : Int) (a : Arena) (r : Retired) : Arena := retireA a r.id (restOf c r.watch)
def endTo (c : Int) (a : Arena) (k : Nat) : Arena := (a.retired.take k).foldl (endStep c) ⟨a.dims, a.nodes, a.free, []⟩
def endA (a : Arena) (c : Int) : Arena := endTo c a a.retired.length
theorem endTo_0 {c : Int} {a : Arena} : endTo c a 0 = ⟨a.dims, a.nodes, a.free, []⟩ := by simp [endTo]
theorem endTo_snoc {c : Int} {a : Arena} {k : Nat} {r : Retired} (h : a.retired[k]? = some r) : endTo c a (k + 1) = retireA (endTo c a k) r.id (restOf c r.watch) := by
  unfold endTo; rw [take_snoc h, List.foldl_append]; rfl
theorem endTo_off {c : Int} {a : Arena} {k : Nat} {r : Retired} (h : a.retired[k]? = some r) (hw : restOf c r.watch = []) : endTo c a (k + 1) = relA (endTo c a k) r.id := by
  rw [endTo_snoc h, retireA, if_pos hw]
theorem endTo_on {c : Int} {a : Arena} {k : Nat} {r : Retired} (h : a.retired[k]? = some r) (hw : ¬ restOf c r.watch = []) : endTo c a (k + 1) = ⟨(endTo c a k).dims, (endTo c a k).nodes, (endTo c a k).free, (endTo c a k).retired ++ [⟨r.id, restOf c r.watch⟩]⟩ := by
  rw [endTo_snoc h, retireA, if_neg hw]
theorem endTo_dims {c : Int} {a : Arena} : ∀ k, (endTo c a k).dims = a.dims
  | 0 => by rw [endTo_0]
  | k + 1 => by
    rcases h : a.retired[k]? with _ | r
    · have h1 : a.retired.length ≤ k := by simpa using h
      have := endTo_dims (c := c) (a := a) k
      have h2 : a.retired.take (k + 1) = a.retired.take k := by rw [List.take_of_length_le (by omega), List.take_of_length_le h1]
      unfold endTo at this ⊢
      rw [h2]; exact this
    · rw [endTo_snoc h, retireA]
      split
      · exact endTo_dims k
      · exact endTo_dims k
theorem endTo_facts {c : Int} {a : Arena} (hf : UpTo a.free) : ∀ k, k ≤ a.retired.length → (endTo c a k).nodes.length = a.nodes.length ∧ UpTo (endTo c a k).free ∧ (endTo c a k).free.length ≤ a.free.length + k ∧ (endTo c a k).retired.length ≤ k
  | 0, _ => by rw [endTo_0]; exact ⟨rfl, hf, by simp, by simp⟩
  | k + 1, hk => by
    obtain ⟨h1, h2, h3, h4⟩ := endTo_facts (c := c) hf k (by omega)
    have h : a.retired[k]? = some a.retired[k] := List.getElem?_eq_getElem (by omega)
    rw [endTo_snoc h, retireA]
    split
    · refine ⟨?_, insI_up h2, ?_, ?_⟩
      · show (List.set _ _ _).length = _; rw [List.length_set, h1]
      · show (insI _ _).length ≤ _; rw [insI_len]; omega
      · show (endTo c a k).retired.length ≤ _; omega
    · refine ⟨h1, h2, ?_, ?_⟩
      · show (endTo c a k).free.length ≤ _; omega
      · show (_ ++ _ : List Retired).length ≤ _; rw [List.length_append]; simp; omega
theorem adj_up : ∀ {l : List Int}, adj (fun a b => decide (b ≤ a)) l = false → UpTo l
  | [], _ => .nil
  | [x], _ => by simp [UpTo]
  | x :: y :: l, h => by
    simp only [adj, Bool.or_eq_false_iff, decide_eq_false_iff_not] at h
    have ih := adj_up h.2
    refine List.pairwise_cons.2 ⟨fun z hz => ?_, ih⟩
    rcases List.mem_cons.1 hz with rfl | hz
    · omega
    · have := (List.pairwise_cons.1 ih).1 z hz; omega
theorem end_off {c : Int} {a : Arena} {k : Nat} {r : Retired} {N : List Node} {F : List Int} {L : List Retired} (h : N = (endTo c a k).nodes ∧ F = (endTo c a k).free ∧ L = (endTo c a k).retired) (hr : a.retired[k]? = some r) (hw : ((restOf c r.watch).length : Int) = 0) : N.set r.id.toNat emptyNode = (endTo c a (k + 1)).nodes ∧ insI r.id F = (endTo c a (k + 1)).free ∧ L = (endTo c a (k + 1)).retired := by
  obtain ⟨rfl, rfl, rfl⟩ := h
  rw [endTo_off hr (List.length_eq_zero_iff.1 (by omega))]
  exact ⟨rfl, rfl, rfl⟩
theorem end_on {c : Int} {a : Arena} {k : Nat} {r : Retired} {N : List Node} {F : List Int} {L : List Retired} (h : N = (endTo c a k).nodes ∧ F = (endTo c a k).free ∧ L = (endTo c a k).retired) (hr : a.retired[k]? = some r) (hw : ¬ ((restOf c r.watch).length : Int) = 0) : N = (endTo c a (k + 1)).nodes ∧ F = (endTo c a (k + 1)).free ∧ L ++ [⟨r.id, restOf c r.watch⟩] = (endTo c a (k + 1)).retired := by
  obtain ⟨rfl, rfl, rfl⟩ := h
  rw [endTo_on hr (fun e => hw (by rw [e]; rfl))]
  exact ⟨rfl, rfl, rfl⟩
theorem end_all {c : Int} {a : Arena} {k : Nat} {N : List Node} {F : List Int} {L : List Retired} (h : N = (endTo c a k).nodes ∧ F = (endTo c a k).free ∧ L = (endTo c a k).retired) (hk : a.retired.length ≤ k) (hk2 : k ≤ a.retired.length) : (⟨a.dims, N, F, L⟩ : Arena) = endA a c := by
  obtain rfl : k = a.retired.length := by omega
  obtain ⟨rfl, rfl, rfl⟩ := h
  unfold endA
  rw [← endTo_dims (c := c) (a := a) a.retired.length]
theorem rest_on {c : Int} {l out : List Int} {k : Nat} {y : Int} (h : out = restOf c (l.take k)) (hy : l[k]? = some y) (hn : ¬ y = c) : out ++ [y] = restOf c (l.take (k + 1)) := by
  rw [h, take_snoc hy]; unfold restOf; rw [List.filter_append]; simp [hn]
theorem rest_off {c : Int} {l out : List Int} {k : Nat} {y : Int} (h : out = restOf c (l.take k)) (hy : l[k]? = some y) (hn : y = c) : out = restOf c (l.take (k + 1)) := by
  rw [h, take_snoc hy]; unfold restOf; rw [List.filter_append]; simp [hn]

def placeFault (a : Arena) (id : Int) : Int := if isPlace a id = true then if id ∈ a.free then 4 else 0 else 3
theorem place_0 {a : Arena} {id : Int} (h : placeFault a id = 0) : 0 ≤ id ∧ id.toNat < a.nodes.length := by
  unfold placeFault at h
  split at h
  · rename_i hp
    have := nodeAt_mem hp
    have := within_t hp
    exact ⟨by omega, by omega⟩
  · cases h
theorem placed {a : Arena} {id : Int} (hp : isPlace a id = true) : 0 ≤ id ∧ id.toNat < a.nodes.length := by
  have := nodeAt_mem hp
  have := within_t hp
  exact ⟨by omega, by omega⟩
theorem sz_in {α : Type} {f : α → Int} (hf : ∀ x, 0 ≤ f x) {l : List α} {x : α} (h : x ∈ l) : f x ≤ szList f l := by
  obtain ⟨k, hk⟩ := List.getElem?_of_mem h
  exact szList_mem hf hk
theorem arena_len {a : Arena} (h : szArena a ≤ 1048576) : (a.nodes.length : Int) ≤ 1048576 ∧ (a.free.length : Int) ≤ 1048576 ∧ (a.retired.length : Int) ≤ 1048576 ∧ (∀ r ∈ a.retired, (r.watch.length : Int) ≤ 1048576) ∧ ∀ n ∈ a.nodes, szNode n ≤ 1048576 := by
  have h1 := szList_len szNode_nn a.nodes
  have h2 := szList_len szRetired_nn a.retired
  have h3 := szList_nn szNode_nn a.nodes
  have h4 := szList_nn szRetired_nn a.retired
  unfold szArena at h
  refine ⟨by omega, by omega, by omega, fun r hr => ?_, fun n hn => ?_⟩
  · have := sz_in szRetired_nn hr
    have e : szRetired r = (r.watch.length : Int) := rfl
    omega
  · have := sz_in szNode_nn hn
    omega
theorem node_len {n : Node} (h : szNode n ≤ 1048576) : n.entries.length ≤ 1048576 ∧ ∀ e ∈ n.entries, szRect e.rect ≤ 1048576 := by
  have h1 := szList_len szEntry_nn n.entries
  unfold szNode at h
  refine ⟨by omega, fun e he => ?_⟩
  have := sz_in szEntry_nn he
  have e1 : szEntry e = szRect e.rect := rfl
  omega
def retireRes (a : Arena) (id : Int) (w : List Int) : ArenaResult :=
  if arenaFault a = 0 then if placeFault a id = 0 then if a.retired.any (fun r => r.id == id) = true then ⟨6, zArena, 0⟩ else if watchFault w 0 = 0 then ⟨0, retireA a id w, 0⟩ else ⟨watchFault w 0, zArena, 0⟩ else ⟨placeFault a id, zArena, 0⟩ else ⟨arenaFault a, zArena, 0⟩
def endRes (a : Arena) (c : Int) : ArenaResult := if arenaFault a = 0 then if within c 0 3 = true then ⟨0, endA a c, 0⟩ else ⟨3, zArena, 0⟩ else ⟨arenaFault a, zArena, 0⟩
theorem sum_set {α : Type} {f : α → Int} (hf : ∀ x, 0 ≤ f x) {x : α} : ∀ (l : List α) (i : Nat), ((l.set i x).map f).sum ≤ (l.map f).sum + f x
  | [], i => by have := hf x; simp; omega
  | a :: l, 0 => by have := hf a; simp only [List.set_cons_zero, List.map_cons, List.sum_cons]; omega
  | a :: l, i + 1 => by have := sum_set hf l i (x := x); simp only [List.set_cons_succ, List.map_cons, List.sum_cons]; omega
/-- What the marks of an arena count. -/
def cntA (a : Arena) : Int := (a.nodes.map cntE_Node).sum + (a.free.length : Int) + (a.retired.map cntE_Retired).sum
theorem cntE_empty : cntE_Node emptyNode = 3 := by decide
theorem rel_cnt (a : Arena) (id : Int) : cntA (relA a id) ≤ cntA a + 4 := by
  have h1 := sum_set cntE_Node_nn (x := emptyNode) a.nodes id.toNat
  rw [cntE_empty] at h1
  show ((a.nodes.set id.toNat emptyNode).map cntE_Node).sum + ((insI id a.free).length : Int) + (a.retired.map cntE_Retired).sum ≤ _
  rw [insI_len]
  unfold cntA; omega
theorem retire_cnt (a : Arena) (id : Int) (w : List Int) : cntA (retireA a id w) ≤ cntA a + 4 + (w.length : Int) := by
  unfold retireA
  split
  · have := rel_cnt a id; omega
  · show (a.nodes.map cntE_Node).sum + (a.free.length : Int) + ((a.retired ++ ([⟨id, w⟩] : List Retired)).map cntE_Retired).sum ≤ _
    rw [List.map_append, List.sum_append]
    have : (([⟨id, w⟩] : List Retired).map cntE_Retired).sum = 1 + (w.length : Int) := by simp [cntE_Retired]
    rw [this]
    unfold cntA; omega
theorem rest_len (c : Int) (l : List Int) : ((restOf c l).length : Int) ≤ (l.length : Int) := by
  have := List.length_filter_le (fun x => !(x == c)) l
  unfold restOf; omega
theorem endTo_cnt {c : Int} {a : Arena} : ∀ k, k ≤ a.retired.length → cntA (endTo c a k) ≤ (a.nodes.map cntE_Node).sum + (a.free.length : Int) + 4 * (k : Int) + ((a.retired.take k).map cntE_Retired).sum
  | 0, _ => by rw [endTo_0]; unfold cntA; simp
  | k + 1, hk => by
    have ih := endTo_cnt (c := c) (a := a) k (by omega)
    have h : a.retired[k]? = some a.retired[k] := List.getElem?_eq_getElem (by omega)
    have h1 := retire_cnt (endTo c a k) a.retired[k].id (restOf c a.retired[k].watch)
    have h2 := rest_len c a.retired[k].watch
    rw [endTo_snoc h, take_snoc h, List.map_append, List.sum_append]
    have h3 : ([a.retired[k]].map cntE_Retired).sum = 1 + (a.retired[k].watch.length : Int) := by simp [cntE_Retired]
    rw [h3]
    omega
theorem end_cnt (a : Arena) (c : Int) : cntA (endA a c) ≤ cntA a + 4 * (a.retired.length : Int) := by
  have := endTo_cnt (c := c) (a := a) a.retired.length (Nat.le_refl _)
  rw [List.take_of_length_le (Nat.le_refl _)] at this
  unfold endA cntA at *; omega
theorem cntA_nn (a : Arena) : 0 ≤ cntA a ∧ 0 ≤ (a.nodes.map cntE_Node).sum ∧ 0 ≤ (a.retired.map cntE_Retired).sum := by
  have h1 := sum_nn cntE_Node_nn a.nodes
  have h2 := sum_nn cntE_Retired_nn a.retired
  unfold cntA; exact ⟨by omega, h1, h2⟩
theorem cntE_Entry_sz (e : Entry) : cntE_Entry e ≤ 32 * (1 + szEntry e) := by unfold cntE_Entry szEntry szRect; omega
theorem cntE_Retired_sz (e : Retired) : cntE_Retired e ≤ 32 * (1 + szRetired e) := by unfold cntE_Retired szRetired; omega
theorem cntE_Node_sz (n : Node) : cntE_Node n ≤ 32 * (1 + szNode n) := by
  have h1 := cnt_list cntE_Entry_sz n.entries
  unfold cntE_Node szNode; omega
theorem cntA_sz (a : Arena) : cntA a ≤ 32 * szArena a := by
  have h1 := cnt_list cntE_Node_sz a.nodes
  have h2 := cnt_list cntE_Retired_sz a.retired
  unfold cntA szArena; omega
theorem cntA_0 : cntA zArena = 0 := by decide
theorem retireRes_cnt (a : Arena) (id : Int) (w : List Int) : cntA (retireRes a id w).arena ≤ 32 * szArena a + 4 + (w.length : Int) := by
  have h1 := retire_cnt a id w
  have h2 := cntA_sz a
  have h3 := szArena_nn a
  unfold retireRes
  split
  · split
    · split
      · rw [cntA_0]; omega
      · split
        · show cntA (retireA a id w) ≤ _; omega
        · rw [cntA_0]; omega
    · rw [cntA_0]; omega
  · rw [cntA_0]; omega
theorem endRes_cnt (a : Arena) (c : Int) : cntA (endRes a c).arena ≤ 32 * szArena a + 4 * (a.retired.length : Int) := by
  have h1 := end_cnt a c
  have h2 := cntA_sz a
  have h3 := szArena_nn a
  unfold endRes
  split
  · split
    · show cntA (endA a c) ≤ _; omega
    · rw [cntA_0]; omega
  · rw [cntA_0]; omega

def kArenaVS : Kd ArenaV := ((Kd.i64.via ArenaV.dims).cat (((Kd.sl kNodeS).via ArenaV.nodes).cat (((Kd.sl Kd.i64).via ArenaV.free).cat (Kd.val.via ArenaV.retired))))
theorem kArenaVS_sh {w : World} {cs : List Value} {x : ArenaV} {o s : List Nat} (h : kArenaVS.Rel w cs x o s) : ∃ (A1 : Option Addr) (c1 : Nat) (A2 : Option Addr) (c2 : Nat), cs = [.int .i64 x.dims, .slice A1 x.nodes.length c1, .slice A2 x.free.length c2, x.retired] := by
  obtain ⟨c10, c20, o10, o20, s10, s20, rfl, rfl, rfl, h0, k0⟩ := h
  obtain ⟨rfl, -, -⟩ := h0
  obtain ⟨c11, c21, o11, o21, s11, s21, rfl, rfl, rfl, h1, k1⟩ := k0
  obtain ⟨-, A1_, c1_, rfl, -⟩ := h1
  obtain ⟨c12, c22, o12, o22, s12, s22, rfl, rfl, rfl, h2, k2⟩ := k1
  obtain ⟨-, A2_, c2_, rfl, -⟩ := h2
  obtain ⟨rfl, -, -⟩ := k2
  exact ⟨_, _, _, _, rfl⟩
theorem kArenaVS_p1_1 : Kd.Sub kArenaVS 1 (Kd.sl kNodeS) (fun x => x.nodes) := (Kd.Sub.right (Kd.Sub.left (Kd.Sub.rfl.via ArenaV.nodes) _ (by decide)) _)
theorem kArenaVS_p2_1 : Kd.Sub kArenaVS 2 (Kd.sl Kd.i64) (fun x => x.free) := (Kd.Sub.right (Kd.Sub.right (Kd.Sub.left (Kd.Sub.rfl.via ArenaV.free) _ (by decide)) _) _)
theorem kArenaVS_self : Kd.Seals kArenaVS kArenaVS := (Kd.Seals.cat (Kd.Seals.via Kd.Seals.i64 _) (Kd.Seals.cat (Kd.Seals.via Kd.Seals.refl_sl _) (Kd.Seals.cat (Kd.Seals.via Kd.Seals.refl_sl _) (Kd.Seals.via Kd.Seals.val _))))
theorem kArenaVS_pure : Kd.Pure kArenaVS := (Kd.Pure.cat (Kd.Pure.via Kd.Pure.i64 _) (Kd.Pure.cat (Kd.Pure.via (Kd.Pure.sl _) _) (Kd.Pure.cat (Kd.Pure.via (Kd.Pure.sl _) _) (Kd.Pure.via Kd.Pure.val _))))
def kArenaVO : Kd ArenaV := ((Kd.i64.via ArenaV.dims).cat (((Kd.row 200 kNodeO).via ArenaV.nodes).cat (((Kd.row 2 Kd.i64).via ArenaV.free).cat (Kd.val.via ArenaV.retired))))
theorem kArenaVO_sh {w : World} {cs : List Value} {x : ArenaV} {o s : List Nat} (h : kArenaVO.Rel w cs x o s) : ∃ (A1 : Option Addr) (c1 : Nat) (A2 : Option Addr) (c2 : Nat), cs = [.int .i64 x.dims, .slice A1 x.nodes.length c1, .slice A2 x.free.length c2, x.retired] := by
  obtain ⟨c10, c20, o10, o20, s10, s20, rfl, rfl, rfl, h0, k0⟩ := h
  obtain ⟨rfl, -, -⟩ := h0
  obtain ⟨c11, c21, o11, o21, s11, s21, rfl, rfl, rfl, h1, k1⟩ := k0
  obtain ⟨A1_, c1_, rfl⟩ := Kd.row_sh h1
  obtain ⟨c12, c22, o12, o22, s12, s22, rfl, rfl, rfl, h2, k2⟩ := k1
  obtain ⟨A2_, c2_, rfl⟩ := Kd.row_sh h2
  obtain ⟨rfl, -, -⟩ := k2
  exact ⟨_, _, _, _, rfl⟩
theorem kArenaVO_seal : Kd.Seals kArenaVO kArenaVS := (Kd.Seals.cat (Kd.Seals.via Kd.Seals.i64 _) (Kd.Seals.cat (Kd.Seals.via (Kd.Seals.row kNodeO_seal _) _) (Kd.Seals.cat (Kd.Seals.via (Kd.Seals.row Kd.Seals.i64 _) _) (Kd.Seals.via Kd.Seals.val _))))
theorem sortC (w : World) {A : Option Addr} {c : Nat} {zs : List Int} {o s : List Nat} (hst : St (nul w) w [dat (Kd.row 2 Kd.i64) [.slice A zs.length c] zs o s]) (hne : 0 < zs.length) (hsm : zs.length < 4611686018427387904) : Calls Tryz.prog 209 #[.slice A zs.length c] w (TurnO (Kd.row 2 Kd.i64) [.slice A zs.length c] (.tuple #[]) w o (zs.mergeSort (fun x y => decide (x ≤ y))) []) := sort_int sortLaid w hst hne hsm
/-! (impl.Arena).placeFault -/
set_option maxRecDepth 20000 in
set_option maxHeartbeats 2000000 in
theorem impl_Arena_placeFault (w : World) (id : Int) {Aa1 : Option Addr} {ca1 : Nat} {Aa2 : Option Addr} {ca2 : Nat} {Aa3 : Option Addr} {ca3 : Nat} {a : Arena} {sa_ : List Nat} (ha : kArenaS.Rel w [.int .i64 a.dims, .slice Aa1 a.nodes.length ca1, .slice Aa2 a.free.length ca2, .slice Aa3 a.retired.length ca3] a [] sa_)  : Calls Tryz.prog 95 #[.agg #[.int .i64 a.dims, .slice Aa1 a.nodes.length ca1, .slice Aa2 a.free.length ca2, .slice Aa3 a.retired.length ca3], .int .i64 id] w (fun e_ w2_ => e_ = .returned (.int .i64 (placeFault a id)) ∧ Below w.heap.size w w2_) := by
  refine fnc (X := X3 14 w) (args := [.agg #[.int .i64 a.dims, .slice Aa1 a.nodes.length ca1, .slice Aa2 a.free.length ca2, .slice Aa3 a.retired.length ca3], .int .i64 id]) (l := [(0, .agg #[.int .i64 a.dims, .slice Aa1 a.nodes.length ca1, .slice Aa2 a.free.length ca2, .slice Aa3 a.retired.length ca3]), (1, .int .i64 id)]) (G := [dat kArenaS [.int .i64 a.dims, .slice Aa1 a.nodes.length ca1, .slice Aa2 a.free.length ca2, .slice Aa3 a.retired.length ca3] a ([]) sa_]) Tryz.func95 rfl rfl rfl ⟨rfl, rfl, trivial⟩ (s0d ha (s0n w)).1 ?_
  refine sq (rg (bx rfl rfl rfl rfl ?_))
  intro b1
  refine a_ rfl rfl (en (nx (sq (bk (sq (rg (vl (ldb 0 rfl rfl rfl rfl rfl rfl rfl) rfl (m_ rfl rfl (cs_ (v := .bool (isPlace a id)) (by kernel_rfl) rfl rfl rfl (fun w_ hs_ => impl_Arena_isPlace w_ _ (hs_.at 1 rfl)) (vl (nt rfl rfl) rfl (a_ rfl rfl (en (nx ?_)))))))))))))
  by_cases h2 : isPlace a id = true
  · refine cf rfl (not_f h2) (sq (rg (vl (ldb 0 rfl rfl rfl rfl rfl rfl rfl) rfl (m_ rfl rfl (cs_ (v := .bool (decide (id ∈ a.free))) (by kernel_rfl) rfl rfl rfl (fun w_ hs_ => impl_Arena_isFree w_ _ (hs_.at 1 rfl)) (a_ rfl rfl (en (nx ?_))))))))
    by_cases h3 : decide (id ∈ a.free) = true
    · refine ct rfl h3 (sq (rg (a_ rfl rfl (en (nx (rt (xrb (xr (ret1 rfl rfl (fun w_ hs_ => ⟨?_, hs_.below⟩))))))))))
      exact ri (by grind [placeFault])
    · refine cf rfl (Bool.eq_false_iff.2 h3) (sk (xn (nx (sq (rg (a_ rfl rfl (en (nx (rt (ret1 rfl rfl (fun w_ hs_ => ⟨?_, hs_.below⟩)))))))))))
      exact ri (by grind [placeFault])
  · refine ct rfl (not_t (Bool.eq_false_iff.2 h2)) (sq (rg (a_ rfl rfl (en (nx (rt (xrb (xr (ret1 rfl rfl (fun w_ hs_ => ⟨?_, hs_.below⟩))))))))))
    exact ri (by grind [placeFault])
/-! spec.l4Read -/
set_option maxRecDepth 20000 in
set_option maxHeartbeats 2000000 in
theorem spec_l4Read (w : World) (id : Int) {Aa1 : Option Addr} {ca1 : Nat} {Aa2 : Option Addr} {ca2 : Nat} {Aa3 : Option Addr} {ca3 : Nat} {a : Arena} {sa_ : List Nat} {pa : Addr} (ha : (ptr kArenaS pa [.int .i64 a.dims, .slice Aa1 a.nodes.length ca1, .slice Aa2 a.free.length ca2, .slice Aa3 a.retired.length ca3] a sa_).P w)  : Calls Tryz.prog 91 #[.pointer (some pa), .int .i64 id] w (fun e_ w2_ => e_ = .returned (.int .i64 (placeFault a id)) ∧ Below w.heap.size w w2_) := by
  refine fnc (X := X3 15 w) (args := [.pointer (some pa), .int .i64 id]) (l := [(0, .pointer (some pa)), (1, .int .i64 id)]) (G := [ptr kArenaS pa [.int .i64 a.dims, .slice Aa1 a.nodes.length ca1, .slice Aa2 a.free.length ca2, .slice Aa3 a.retired.length ca3] a sa_]) Tryz.func91 rfl rfl rfl ⟨rfl, rfl, trivial⟩ (s0p ha (s0n w)).1 ?_
  refine sq (rg (a_ rfl rfl (en (nx (sq (sq (rg (m_ rfl rfl (m_ rfl rfl (cs_ (v := .bool (isPlace a id)) (by kernel_rfl) rfl rfl rfl (fun w_ hs_ => spec_l4Place w_ _ (hs_.at 0 rfl)) (vl (nt rfl rfl) rfl (en (nx ?_)))))))))))))
  by_cases h1 : isPlace a id = true
  · refine cf rfl (not_f h1) (sk (nx (sq (sq (rg (m_ rfl rfl (vl (nc rfl rfl) rfl (vl (fa rfl rfl rfl) rfl (vl (ldp (u := .slice Aa2 a.free.length ca2) 0 rfl rfl rfl rfl rfl rfl rfl) rfl (m_ rfl rfl ?_))))))))))
    refine gp 0 kArenaS_p2_1 rfl (cs' := [.slice Aa2 a.free.length ca2]) rfl fun s2 w_ rs2 us2 => ?_
    have Ls2 := Kd.sl_len rs2; have Cs2 := Kd.sl_cap rs2
    refine cs_ (v := .bool (decide (id ∈ a.free))) (by kernel_rfl) rfl rfl rfl (fun w_ hs_ => spec_l1Has w_ _ (hs_.at 0 rfl)) (en (nx ?_))
    by_cases h3 : decide (id ∈ a.free) = true
    · refine ct rfl h3 (sq (rg (a_ rfl rfl (en (nx (rt (xr (ret1 rfl rfl (fun w_ hs_ => ⟨?_, hs_.below⟩)))))))))
      exact ri (by grind [placeFault])
    · refine cf rfl (Bool.eq_false_iff.2 h3) (sk (nx (sq (rg (a_ rfl rfl (en (nx (rt (ret1 rfl rfl (fun w_ hs_ => ⟨?_, hs_.below⟩))))))))))
      exact ri (by grind [placeFault])
  · refine ct rfl (not_t (Bool.eq_false_iff.2 h1)) (sq (rg (a_ rfl rfl (en (nx (rt (xr (ret1 rfl rfl (fun w_ hs_ => ⟨?_, hs_.below⟩)))))))))
    exact ri (by grind [placeFault])
/-! impl.clonedEntries -/
set_option maxRecDepth 20000 in
set_option maxHeartbeats 2000000 in
theorem impl_clonedEntries (w : World) {Alist : Option Addr} {clist : Nat} {list : List Entry} {slist_ : List Nat} (hlist : (Kd.sl kEntryS).Rel w [.slice Alist list.length clist] list [] slist_) (hz : list.length ≤ 1048576) (hz2 : ∀ e ∈ list, szRect e.rect ≤ 1048576) : Calls Tryz.prog 207 #[.slice Alist list.length clist] w (Made (Kd.row 105 kEntryO) w list []) := by
  have Llist := Kd.sl_len hlist; have Clist := Kd.sl_cap hlist
  refine fnc (X := X3 26 w) (args := [.slice Alist list.length clist]) (l := [(0, .slice Alist list.length clist)]) (G := [dat (Kd.sl kEntryS) [.slice Alist list.length clist] list ([]) slist_]) Tryz.func207 rfl rfl rfl ⟨rfl, trivial⟩ (s0d hlist (s0n w)).1 ?_
  refine sq (rg (a_ rfl rfl (en (nx (sq (rg (bs0 (dk := kEntryO) rfl info105 rfl rfl ?_)))))))
  intro b1
  refine a_ rfl rfl (en (nx (sq (sq (rg (m_ rfl rfl (vl (ln rfl rfl rfl) rfl (m_ rfl rfl (en (nx (bk ?_)))))))))))
  refine lp (σ := Nat × List Entry × Option Addr × Nat × List Nat × List Nat) (fun z_ : Nat × List Entry × Option Addr × Nat × List Nat × List Nat => match z_ with | (k, out, A_, c_, o_, s_) => [(3, .slice A_ out.length c_), (7, .slice Alist list.length clist), (8, .int .i64 ((list.length : Nat) : Int)), (9, .int .i64 ((k : Nat) : Int))])
      (fun z_ : Nat × List Entry × Option Addr × Nat × List Nat × List Nat => match z_ with | (k, out, A_, c_, o_, s_) => [dat (Kd.row 105 kEntryO) [.slice A_ out.length c_] out o_ s_, dat (Kd.sl kEntryS) [.slice Alist list.length clist] list ([]) slist_])
      (fun z_ : Nat × List Entry × Option Addr × Nat × List Nat × List Nat => match z_ with | (k, out, A_, c_, o_, s_) => k ≤ list.length ∧ (out = list.take k) ∧ (∀ q ∈ s_, w.heap.size ≤ q) ∧ out.length ≤ k) (fun z_ : Nat × List Entry × Option Addr × Nat × List Nat × List Nat => match z_ with | (k, out, A_, c_, o_, s_) => list.length - k) (0, [], (some ⟨b1, 0, none⟩), 0, [b1], []) [0, 0] ⟨Nat.zero_le _, by simp, by simp, by simp⟩ ⟨rfl, rfl, rfl, rfl, trivial⟩ rfl ?_
  rintro ⟨k, out, A_, c_, o_, s_⟩ hp_
  obtain ⟨hk, hinv, hsee, hlen⟩ := hp_
  refine sq (rg (vl (cm rfl rfl rfl rfl) rfl (en (nx (sq ?_)))))
  by_cases h2 : ((k : Nat) : Int) < ((list.length : Nat) : Int)
  · refine ct rfl (decide_eq_true h2) (sk (nx (sq (bk (sq (rg ?_))))))
    refine gx 1 k rfl (by omega) fun y8 p3 cs_ s4 w7 m9 e5 r6 us4 => ?_
    obtain ⟨A10, c11, A12, c13, rfl⟩ := kEntryS_sh r6
    refine vl (ix k e5 rfl rfl rfl rfl rfl (by omega)) rfl (vl (ldq 0 rfl rfl rfl rfl rfl rfl rfl) rfl (al zero105 rfl rfl rfl ?_))
    intro b14
    refine sto rfl rfl rfl rfl rfl rfl rfl (cs' := [.slice A10 y8.rect.low.length c11, .slice A12 y8.rect.high.length c13, .int .i64 y8.ref, .int .i64 y8.nsn]) rfl (en (nx ?_))
    refine gp 1 kEntryS_p0_2 rfl (cs' := [.slice A10 y8.rect.low.length c11, .slice A12 y8.rect.high.length c13]) rfl fun s15 w_ rs15 us15 => ?_
    refine rd (Gq := [dat kRectS [.slice A10 y8.rect.low.length c11, .slice A12 y8.rect.high.length c13] y8.rect ([]) s15, blk b14 [.slice A10 y8.rect.low.length c11, .slice A12 y8.rect.high.length c13, .int .i64 y8.ref, .int .i64 y8.nsn] 105, ptr kEntryS p3 [.slice A10 y8.rect.low.length c11, .slice A12 y8.rect.high.length c13, .int .i64 y8.ref, .int .i64 y8.nsn] y8 s4, dat (Kd.sl kEntryS) [.slice Alist list.length clist] list ([]) slist_]) [0, 0, 0, 1] rfl (qv 0 rfl (mv rfl rfl) rfl (by kernel_rfl) (qv 1 rfl (fa rfl rfl rfl) rfl (by kernel_rfl) (qv 2 rfl (ldb 1 rfl rfl rfl rfl rfl rfl rfl) rfl (by kernel_rfl) (qv 4 rfl (fa rfl rfl rfl) rfl (by kernel_rfl) (qv 5 rfl (ldb (u := .int .i64 y8.ref) 1 rfl rfl rfl rfl rfl rfl rfl) rfl (by kernel_rfl) (qv 6 rfl (fa rfl rfl rfl) rfl (by kernel_rfl) (qv 7 rfl (ldb (u := .int .i64 y8.nsn) 1 rfl rfl rfl rfl rfl rfl rfl) rfl (by kernel_rfl) (q1 3 [0, 0, 0, 1] rfl (by kernel_rfl) rfl (cm_ (dk := kRectO) (x := y8.rect) (S := []) (by kernel_rfl) rfl rfl rfl sn0 (fun w_ hs_ => by exact impl_Rect_cloned w_ (hs_.at 0 rfl) (by have z := hz2 _ (List.mem_of_getElem? m9); omega)) (fun cs_ o24 s25 w_ r26 t27 => ?_))))))))))
    obtain ⟨A20, c21, A22, c23, rfl⟩ := kRectO_sh r26
    refine qn (qv 8 rfl (bd bld105 rfl rfl rfl) rfl (by kernel_rfl) (q1 9 [1, 1, 1, 2] rfl (by kernel_rfl) rfl (gs Kd.i64 [.int .i64 y8.nsn] y8.nsn (fun _ => ⟨rfl, rfl, rfl⟩) (gs Kd.i64 [.int .i64 y8.ref] y8.ref (fun _ => ⟨rfl, rfl, rfl⟩) (gj (da := (Kd.via Kd.i64 Entry.ref)) (db := (Kd.via Kd.i64 Entry.nsn)) (x := y8) (cs := [.int .i64 y8.ref, .int .i64 y8.nsn]) rfl (f1 (gj (da := (Kd.via kRectO Entry.rect)) (db := ((Kd.via Kd.i64 Entry.ref).cat (Kd.via Kd.i64 Entry.nsn))) (x := y8) (cs := [.slice A20 y8.rect.low.length c21, .slice A22 y8.rect.high.length c23, .int .i64 y8.ref, .int .i64 y8.nsn]) rfl (bs1 (dk := kEntryO) rfl info105 (by decide) rfl rfl rfl rfl ?_))))))))
    intro b29
    refine qn (q1 10 [1, 1, 1, 2] rfl (by kernel_rfl) rfl ?_)
    refine f4 (ap (out ++ [y8]) rfl info105 rfl rfl (by decide) rfl rfl rfl rfl (by simp only [List.length_append, List.length_cons, List.length_nil]; omega) (by simp only [List.length_append, List.length_cons, List.length_nil]; omega) rfl (fun A30 c31 o32 s33 t34 => ?_))
    exact qn (qv 11 rfl (as_ rfl rfl) rfl (by kernel_rfl) (qe [1, 1, 1, 1] (by kernel_rfl) rfl (xn (nx (rg (vl (ra (c := ((k + 1 : Nat) : Int)) rfl rfl rfl (by omega) (by omega) (by omega)) rfl (m_ rfl rfl (en (lpe (s := (k, out, A_, c_, o_, s_)) (k + 1, (out ++ [y8]), A30, c31, o32, s33) [0, 3] ⟨by omega, (by rw [take_snoc m9, ← hinv]), by grind, by first | omega | (simp only [List.length_append, List.length_cons, List.length_nil]; omega)⟩ (by show list.length - (k + 1) < list.length - k; omega) ⟨rfl, rfl, rfl, rfl, trivial⟩ rfl)))))))))
  · exact cf rfl (decide_eq_false h2) (xt (xq (xq (xb (nx (sq (rg (m_ rfl rfl (a_ rfl rfl (en (nx (rt (gr list (by rw [hinv, List.take_of_length_le (by omega)]) (ret1 rfl rfl (fun w_ hs_ => made hs_ rfl (by grind))))))))))))))))
/-! spec.l3Entries -/
set_option maxRecDepth 20000 in
set_option maxHeartbeats 2000000 in
theorem spec_l3Entries (w : World) {Alist : Option Addr} {clist : Nat} {list : List Entry} {slist_ : List Nat} (hlist : (Kd.sl kEntryS).Rel w [.slice Alist list.length clist] list [] slist_) (hz : list.length ≤ 1048576) (hz2 : ∀ e ∈ list, szRect e.rect ≤ 1048576) : Calls Tryz.prog 230 #[.slice Alist list.length clist] w (Made (Kd.row 105 kEntryO) w list []) := by
  have Llist := Kd.sl_len hlist; have Clist := Kd.sl_cap hlist
  refine fnc (X := X3 28 w) (args := [.slice Alist list.length clist]) (l := [(0, .slice Alist list.length clist)]) (G := [dat (Kd.sl kEntryS) [.slice Alist list.length clist] list ([]) slist_]) Tryz.func230 rfl rfl rfl ⟨rfl, trivial⟩ (s0d hlist (s0n w)).1 ?_
  refine sq (rg (a_ rfl rfl (en (nx (sq (rg (bs0 (dk := kEntryO) rfl info105 rfl rfl ?_)))))))
  intro b1
  refine a_ rfl rfl (en (nx (sq (sq (rg (a_ rfl rfl (en (nx (bk ?_)))))))))
  refine lp (σ := Nat × List Entry × Option Addr × Nat × List Nat × List Nat) (fun z_ : Nat × List Entry × Option Addr × Nat × List Nat × List Nat => match z_ with | (k, out, A_, c_, o_, s_) => [(0, .slice Alist list.length clist), (3, .slice A_ out.length c_), (4, .int .i64 ((k : Nat) : Int))])
      (fun z_ : Nat × List Entry × Option Addr × Nat × List Nat × List Nat => match z_ with | (k, out, A_, c_, o_, s_) => [dat (Kd.row 105 kEntryO) [.slice A_ out.length c_] out o_ s_, dat (Kd.sl kEntryS) [.slice Alist list.length clist] list ([]) slist_])
      (fun z_ : Nat × List Entry × Option Addr × Nat × List Nat × List Nat => match z_ with | (k, out, A_, c_, o_, s_) => k ≤ list.length ∧ (out = list.take k) ∧ (∀ q ∈ s_, w.heap.size ≤ q) ∧ out.length ≤ k) (fun z_ : Nat × List Entry × Option Addr × Nat × List Nat × List Nat => match z_ with | (k, out, A_, c_, o_, s_) => list.length - k) (0, [], (some ⟨b1, 0, none⟩), 0, [b1], []) [0, 0] ⟨Nat.zero_le _, by simp, by simp, by simp⟩ ⟨rfl, rfl, rfl, trivial⟩ rfl ?_
  rintro ⟨k, out, A_, c_, o_, s_⟩ hp_
  obtain ⟨hk, hinv, hsee, hlen⟩ := hp_
  refine sq (sq (rg (m_ rfl rfl (m_ rfl rfl (vl (ln rfl rfl rfl) rfl (vl (cm rfl rfl rfl rfl) rfl (en (nx ?_))))))))
  by_cases h2 : ((k : Nat) : Int) < ((list.length : Nat) : Int)
  · refine ct rfl (decide_eq_true h2) (sk (nx (sq (bk (sq (rg (m_ rfl rfl (m_ rfl rfl ?_))))))))
    refine gx 1 k rfl (by omega) fun y8 p3 cs_ s4 w7 m9 e5 r6 us4 => ?_
    obtain ⟨A10, c11, A12, c13, rfl⟩ := kEntryS_sh r6
    refine vl (ix k e5 rfl rfl rfl rfl rfl (by omega)) rfl (vl (ldq 0 rfl rfl rfl rfl rfl rfl rfl) rfl (al zero105 rfl rfl rfl ?_))
    intro b14
    refine sto rfl rfl rfl rfl rfl rfl rfl (cs' := [.slice A10 y8.rect.low.length c11, .slice A12 y8.rect.high.length c13, .int .i64 y8.ref, .int .i64 y8.nsn]) rfl (en (nx (sq (rg (m_ rfl rfl (m_ rfl rfl (vl (ix k e5 rfl rfl rfl rfl rfl (by omega)) rfl (vl (fa rfl rfl rfl) rfl ?_))))))))
    refine gq 1 kEntryS_p0_2 rfl (cs' := [.slice A10 y8.rect.low.length c11, .slice A12 y8.rect.high.length c13]) rfl fun s15 w_ rs15 us15 => ?_
    refine cm_ (dk := kRectO) (x := y8.rect) (S := []) (by kernel_rfl) rfl rfl rfl sn0 (fun w_ hs_ => spec_l1Copy w_ (hs_.at 0 rfl) (by have z := hz2 _ (List.mem_of_getElem? m9); omega)) (fun cs_ o20 s21 w_ r22 t23 => ?_)
    obtain ⟨A16, c17, A18, c19, rfl⟩ := kRectO_sh r22
    refine vl (fa rfl rfl rfl) rfl (f2 (sto rfl rfl rfl rfl rfl rfl rfl (cs' := [.slice A16 y8.rect.low.length c17, .slice A18 y8.rect.high.length c19, .int .i64 y8.ref, .int .i64 y8.nsn]) rfl (en (nx (rg (m_ rfl rfl (vl (ldb 0 rfl rfl rfl rfl rfl rfl rfl) rfl (gs Kd.i64 [.int .i64 y8.nsn] y8.nsn (fun _ => ⟨rfl, rfl, rfl⟩) (gs Kd.i64 [.int .i64 y8.ref] y8.ref (fun _ => ⟨rfl, rfl, rfl⟩) (gj (da := (Kd.via Kd.i64 Entry.ref)) (db := (Kd.via Kd.i64 Entry.nsn)) (x := y8) (cs := [.int .i64 y8.ref, .int .i64 y8.nsn]) rfl (f2 (gj (da := (Kd.via kRectO Entry.rect)) (db := ((Kd.via Kd.i64 Entry.ref).cat (Kd.via Kd.i64 Entry.nsn))) (x := y8) (cs := [.slice A16 y8.rect.low.length c17, .slice A18 y8.rect.high.length c19, .int .i64 y8.ref, .int .i64 y8.nsn]) rfl (bs1 (dk := kEntryO) rfl info105 (by decide) rfl rfl rfl rfl ?_)))))))))))))
    intro b25
    refine f4 (ap (out ++ [y8]) rfl info105 rfl rfl (by decide) rfl rfl rfl rfl (by simp only [List.length_append, List.length_cons, List.length_nil]; omega) (by simp only [List.length_append, List.length_cons, List.length_nil]; omega) rfl (fun A26 c27 o28 s29 t30 => ?_))
    exact a_ rfl rfl (en (xn (nx (rg (m_ rfl rfl (vl (ra (c := ((k + 1 : Nat) : Int)) rfl rfl rfl (by omega) (by omega) (by omega)) rfl (a_ rfl rfl (en (lpe (s := (k, out, A_, c_, o_, s_)) (k + 1, (out ++ [y8]), A26, c27, o28, s29) [0, 3] ⟨by omega, (by rw [take_snoc m9, ← hinv]), by grind, by first | omega | (simp only [List.length_append, List.length_cons, List.length_nil]; omega)⟩ (by show list.length - (k + 1) < list.length - k; omega) ⟨rfl, rfl, rfl, trivial⟩ rfl)))))))))
  · exact cf rfl (decide_eq_false h2) (xt (xq (xq (xb (nx (sq (rg (m_ rfl rfl (a_ rfl rfl (en (nx (rt (gr list (by rw [hinv, List.take_of_length_le (by omega)]) (ret1 rfl rfl (fun w_ hs_ => made hs_ rfl (by grind))))))))))))))))
/-! (impl.Node).cloned -/
set_option maxRecDepth 20000 in
set_option maxHeartbeats 2000000 in
theorem impl_Node_cloned (w : World) {An3 : Option Addr} {cn3 : Nat} {n : Node} {sn_ : List Nat} (hn : kNodeS.Rel w [.int .i64 n.level, .int .i64 n.nsn, .int .i64 n.right, .slice An3 n.entries.length cn3] n [] sn_) (hz : szNode n ≤ 1048576) : Calls Tryz.prog 157 #[.agg #[.int .i64 n.level, .int .i64 n.nsn, .int .i64 n.right, .slice An3 n.entries.length cn3]] w (Made kNodeO w n []) := by
  have hnl := node_len hz
  refine fnc (X := X3 8 w) (args := [.agg #[.int .i64 n.level, .int .i64 n.nsn, .int .i64 n.right, .slice An3 n.entries.length cn3]]) (l := [(0, .agg #[.int .i64 n.level, .int .i64 n.nsn, .int .i64 n.right, .slice An3 n.entries.length cn3])]) (G := [dat kNodeS [.int .i64 n.level, .int .i64 n.nsn, .int .i64 n.right, .slice An3 n.entries.length cn3] n ([]) sn_]) Tryz.func157 rfl rfl rfl ⟨rfl, trivial⟩ (s0d hn (s0n w)).1 ?_
  refine sq (rg (bx rfl rfl rfl rfl ?_))
  intro b1
  refine al zero200 rfl rfl rfl ?_
  intro b2
  refine en (nx (sq (rg (vl (fa rfl rfl rfl) rfl (vl (ldb (u := .slice An3 n.entries.length cn3) 1 rfl rfl rfl rfl rfl rfl rfl) rfl ?_)))))
  refine gd 2 kNodeS_p3_1 rfl (cs' := [.slice An3 n.entries.length cn3]) rfl fun s3 w_ rs3 us3 => ?_
  have Ls3 := Kd.sl_len rs3; have Cs3 := Kd.sl_cap rs3
  refine cm_ (dk := (Kd.row 105 kEntryO)) (x := n.entries) (S := []) (by kernel_rfl) rfl rfl rfl sn0 (fun w_ hs_ => impl_clonedEntries w_ (hs_.at 0 rfl) hnl.1 hnl.2) (fun cs_ o6 s7 w_ r8 t9 => ?_)
  obtain ⟨A4, c5, rfl⟩ := Kd.row_sh r8
  exact vl (fa rfl rfl rfl) rfl (f3 (sto rfl rfl rfl rfl rfl rfl rfl (cs' := [.int .i64 n.level, .int .i64 n.nsn, .int .i64 n.right, .slice A4 n.entries.length c5]) rfl (en (nx (sq (rg (vl (ldb 0 rfl rfl rfl rfl rfl rfl rfl) rfl (f3 (sto rfl rfl rfl rfl rfl rfl rfl (cs' := [.int .i64 n.level, .int .i64 n.nsn, .int .i64 n.right, .slice A4 n.entries.length c5]) rfl (en (nx (rt (f2 (gs Kd.i64 [.int .i64 n.right] n.right (fun _ => ⟨rfl, rfl, rfl⟩) (gj (da := (Kd.via Kd.i64 Node.right)) (db := (Kd.via (Kd.row 105 kEntryO) Node.entries)) (x := n) (cs := [.int .i64 n.right, .slice A4 n.entries.length c5]) rfl (gs Kd.i64 [.int .i64 n.nsn] n.nsn (fun _ => ⟨rfl, rfl, rfl⟩) (gj (da := (Kd.via Kd.i64 Node.nsn)) (db := ((Kd.via Kd.i64 Node.right).cat (Kd.via (Kd.row 105 kEntryO) Node.entries))) (x := n) (cs := [.int .i64 n.nsn, .int .i64 n.right, .slice A4 n.entries.length c5]) rfl (gs Kd.i64 [.int .i64 n.level] n.level (fun _ => ⟨rfl, rfl, rfl⟩) (gj (da := (Kd.via Kd.i64 Node.level)) (db := ((Kd.via Kd.i64 Node.nsn).cat ((Kd.via Kd.i64 Node.right).cat (Kd.via (Kd.row 105 kEntryO) Node.entries)))) (x := n) (cs := [.int .i64 n.level, .int .i64 n.nsn, .int .i64 n.right, .slice A4 n.entries.length c5]) rfl (retc 1 rfl rfl rfl rfl rfl rfl (fun w_ hs_ => made hs_ rfl (see_app see_nil (see_app see_nil (see_app see_nil t9))))))))))))))))))))))))
/-! spec.l3Copy -/
set_option maxRecDepth 20000 in
set_option maxHeartbeats 2000000 in
theorem spec_l3Copy (w : World) {An3 : Option Addr} {cn3 : Nat} {n : Node} {sn_ : List Nat} {pn : Addr} (hn : (ptr kNodeS pn [.int .i64 n.level, .int .i64 n.nsn, .int .i64 n.right, .slice An3 n.entries.length cn3] n sn_).P w) (hz : szNode n ≤ 1048576) : Calls Tryz.prog 201 #[.pointer (some pn)] w (Made kNodeO w n []) := by
  have hnl := node_len hz
  refine fnc (X := X3 14 w) (args := [.pointer (some pn)]) (l := [(0, .pointer (some pn))]) (G := [ptr kNodeS pn [.int .i64 n.level, .int .i64 n.nsn, .int .i64 n.right, .slice An3 n.entries.length cn3] n sn_]) Tryz.func201 rfl rfl rfl ⟨rfl, trivial⟩ (s0p hn (s0n w)).1 ?_
  refine sq (rg (al zero200 rfl rfl rfl ?_))
  intro b1
  refine en (nx (sq (rg (m_ rfl rfl (vl (nc rfl rfl) rfl (vl (ldq 1 rfl rfl rfl rfl rfl rfl rfl) rfl (al zero200 rfl rfl rfl ?_)))))))
  intro b2
  refine sto rfl rfl rfl rfl rfl rfl rfl (cs' := [.int .i64 n.level, .int .i64 n.nsn, .int .i64 n.right, .slice An3 n.entries.length cn3]) rfl (en (nx (sq (rg (m_ rfl rfl (vl (nc rfl rfl) rfl (vl (fa rfl rfl rfl) rfl (vl (ldp (u := .slice An3 n.entries.length cn3) 2 rfl rfl rfl rfl rfl rfl rfl) rfl ?_))))))))
  refine gp 2 kNodeS_p3_1 rfl (cs' := [.slice An3 n.entries.length cn3]) rfl fun s3 w_ rs3 us3 => ?_
  have Ls3 := Kd.sl_len rs3; have Cs3 := Kd.sl_cap rs3
  refine cm_ (dk := (Kd.row 105 kEntryO)) (x := n.entries) (S := []) (by kernel_rfl) rfl rfl rfl sn0 (fun w_ hs_ => spec_l3Entries w_ (hs_.at 0 rfl) hnl.1 hnl.2) (fun cs_ o6 s7 w_ r8 t9 => ?_)
  obtain ⟨A4, c5, rfl⟩ := Kd.row_sh r8
  exact vl (fa rfl rfl rfl) rfl (f2 (sto rfl rfl rfl rfl rfl rfl rfl (cs' := [.int .i64 n.level, .int .i64 n.nsn, .int .i64 n.right, .slice A4 n.entries.length c5]) rfl (en (nx (sq (rg (vl (ldb 0 rfl rfl rfl rfl rfl rfl rfl) rfl (f3 (sto rfl rfl rfl rfl rfl rfl rfl (cs' := [.int .i64 n.level, .int .i64 n.nsn, .int .i64 n.right, .slice A4 n.entries.length c5]) rfl (en (nx (rt (f2 (gs Kd.i64 [.int .i64 n.right] n.right (fun _ => ⟨rfl, rfl, rfl⟩) (gj (da := (Kd.via Kd.i64 Node.right)) (db := (Kd.via (Kd.row 105 kEntryO) Node.entries)) (x := n) (cs := [.int .i64 n.right, .slice A4 n.entries.length c5]) rfl (gs Kd.i64 [.int .i64 n.nsn] n.nsn (fun _ => ⟨rfl, rfl, rfl⟩) (gj (da := (Kd.via Kd.i64 Node.nsn)) (db := ((Kd.via Kd.i64 Node.right).cat (Kd.via (Kd.row 105 kEntryO) Node.entries))) (x := n) (cs := [.int .i64 n.nsn, .int .i64 n.right, .slice A4 n.entries.length c5]) rfl (gs Kd.i64 [.int .i64 n.level] n.level (fun _ => ⟨rfl, rfl, rfl⟩) (gj (da := (Kd.via Kd.i64 Node.level)) (db := ((Kd.via Kd.i64 Node.nsn).cat ((Kd.via Kd.i64 Node.right).cat (Kd.via (Kd.row 105 kEntryO) Node.entries)))) (x := n) (cs := [.int .i64 n.level, .int .i64 n.nsn, .int .i64 n.right, .slice A4 n.entries.length c5]) rfl (retc 1 rfl rfl rfl rfl rfl rfl (fun w_ hs_ => made hs_ rfl (see_app see_nil (see_app see_nil (see_app see_nil t9))))))))))))))))))))))))
/-! spec.l3Copies -/
set_option maxRecDepth 20000 in
set_option maxHeartbeats 2000000 in
theorem spec_l3Copies (w : World) {Alist : Option Addr} {clist : Nat} {list : List Node} {slist_ : List Nat} (hlist : (Kd.sl kNodeS).Rel w [.slice Alist list.length clist] list [] slist_) (hz : list.length ≤ 1048576) (hz2 : ∀ n ∈ list, szNode n ≤ 1048576) : Calls Tryz.prog 146 #[.slice Alist list.length clist] w (Made (Kd.row 200 kNodeO) w list []) := by
  have Llist := Kd.sl_len hlist; have Clist := Kd.sl_cap hlist
  refine fnc (X := X3 20 w) (args := [.slice Alist list.length clist]) (l := [(0, .slice Alist list.length clist)]) (G := [dat (Kd.sl kNodeS) [.slice Alist list.length clist] list ([]) slist_]) Tryz.func146 rfl rfl rfl ⟨rfl, trivial⟩ (s0d hlist (s0n w)).1 ?_
  refine sq (rg (a_ rfl rfl (en (nx (sq (rg (bs0 (dk := kNodeO) rfl info200 rfl rfl ?_)))))))
  intro b1
  refine a_ rfl rfl (en (nx (sq (sq (rg (a_ rfl rfl (en (nx (bk ?_)))))))))
  refine lp (σ := Nat × List Node × Option Addr × Nat × List Nat × List Nat) (fun z_ : Nat × List Node × Option Addr × Nat × List Nat × List Nat => match z_ with | (k, out, A_, c_, o_, s_) => [(0, .slice Alist list.length clist), (3, .slice A_ out.length c_), (4, .int .i64 ((k : Nat) : Int))])
      (fun z_ : Nat × List Node × Option Addr × Nat × List Nat × List Nat => match z_ with | (k, out, A_, c_, o_, s_) => [dat (Kd.row 200 kNodeO) [.slice A_ out.length c_] out o_ s_, dat (Kd.sl kNodeS) [.slice Alist list.length clist] list ([]) slist_])
      (fun z_ : Nat × List Node × Option Addr × Nat × List Nat × List Nat => match z_ with | (k, out, A_, c_, o_, s_) => k ≤ list.length ∧ (out = list.take k) ∧ (∀ q ∈ s_, w.heap.size ≤ q) ∧ out.length ≤ k) (fun z_ : Nat × List Node × Option Addr × Nat × List Nat × List Nat => match z_ with | (k, out, A_, c_, o_, s_) => list.length - k) (0, [], (some ⟨b1, 0, none⟩), 0, [b1], []) [0, 0] ⟨Nat.zero_le _, by simp, by simp, by simp⟩ ⟨rfl, rfl, rfl, trivial⟩ rfl ?_
  rintro ⟨k, out, A_, c_, o_, s_⟩ hp_
  obtain ⟨hk, hinv, hsee, hlen⟩ := hp_
  refine sq (sq (rg (m_ rfl rfl (m_ rfl rfl (vl (ln rfl rfl rfl) rfl (vl (cm rfl rfl rfl rfl) rfl (en (nx ?_))))))))
  by_cases h2 : ((k : Nat) : Int) < ((list.length : Nat) : Int)
  · refine ct rfl (decide_eq_true h2) (sk (nx (sq (bk (rg (m_ rfl rfl (m_ rfl rfl (m_ rfl rfl ?_))))))))
    refine gx 1 k rfl (by omega) fun y8 p3 cs_ s4 w7 m9 e5 r6 us4 => ?_
    obtain ⟨A10, c11, rfl⟩ := kNodeS_sh r6
    refine vl (ix k e5 rfl rfl rfl rfl rfl (by omega)) rfl (cm_ (dk := kNodeO) (x := y8) (S := []) (by kernel_rfl) rfl rfl rfl sn0 (fun w_ hs_ => spec_l3Copy w_ (hs_.at 0 rfl) (by have z := hz2 _ (List.mem_of_getElem? m9); omega)) (fun cs_ o14 s15 w_ r16 t17 => ?_))
    obtain ⟨A12, c13, rfl⟩ := kNodeO_sh r16
    refine bs1 (dk := kNodeO) rfl info200 (by decide) rfl rfl rfl rfl ?_
    intro b19
    refine f2 (ap (out ++ [y8]) rfl info200 rfl rfl (by decide) rfl rfl rfl rfl (by simp only [List.length_append, List.length_cons, List.length_nil]; omega) (by simp only [List.length_append, List.length_cons, List.length_nil]; omega) rfl (fun A20 c21 o22 s23 t24 => ?_))
    exact a_ rfl rfl (en (xn (nx (rg (m_ rfl rfl (vl (ra (c := ((k + 1 : Nat) : Int)) rfl rfl rfl (by omega) (by omega) (by omega)) rfl (a_ rfl rfl (en (lpe (s := (k, out, A_, c_, o_, s_)) (k + 1, (out ++ [y8]), A20, c21, o22, s23) [0, 1] ⟨by omega, (by rw [take_snoc m9, ← hinv]), by grind, by first | omega | (simp only [List.length_append, List.length_cons, List.length_nil]; omega)⟩ (by show list.length - (k + 1) < list.length - k; omega) ⟨rfl, rfl, rfl, trivial⟩ rfl)))))))))
  · exact cf rfl (decide_eq_false h2) (xt (xq (xq (xb (nx (sq (rg (m_ rfl rfl (a_ rfl rfl (en (nx (rt (gr list (by rw [hinv, List.take_of_length_le (by omega)]) (ret1 rfl rfl (fun w_ hs_ => made hs_ rfl (by grind))))))))))))))))
/-! (impl.Arena).cloned -/
set_option maxRecDepth 20000 in
set_option maxHeartbeats 2000000 in
theorem impl_Arena_cloned (w : World) {Aa1 : Option Addr} {ca1 : Nat} {Aa2 : Option Addr} {ca2 : Nat} {Aa3 : Option Addr} {ca3 : Nat} {a : Arena} {sa_ : List Nat} (ha : kArenaS.Rel w [.int .i64 a.dims, .slice Aa1 a.nodes.length ca1, .slice Aa2 a.free.length ca2, .slice Aa3 a.retired.length ca3] a [] sa_) (hz : szArena a ≤ 1048576) : Calls Tryz.prog 84 #[.agg #[.int .i64 a.dims, .slice Aa1 a.nodes.length ca1, .slice Aa2 a.free.length ca2, .slice Aa3 a.retired.length ca3]] w (Made kArenaO w a []) := by
  have La1 := Kd.sub_len kArenaS_p1_1 ha; have Ca1 := Kd.sub_cap kArenaS_p1_1 ha rfl
  have La2 := Kd.sub_len kArenaS_p2_1 ha; have Ca2 := Kd.sub_cap kArenaS_p2_1 ha rfl
  have La3 := Kd.sub_len kArenaS_p3_1 ha; have Ca3 := Kd.sub_cap kArenaS_p3_1 ha rfl
  have hal := arena_len hz
  refine fnc (X := X3 49 w) (args := [.agg #[.int .i64 a.dims, .slice Aa1 a.nodes.length ca1, .slice Aa2 a.free.length ca2, .slice Aa3 a.retired.length ca3]]) (l := [(0, .agg #[.int .i64 a.dims, .slice Aa1 a.nodes.length ca1, .slice Aa2 a.free.length ca2, .slice Aa3 a.retired.length ca3])]) (G := [dat kArenaS [.int .i64 a.dims, .slice Aa1 a.nodes.length ca1, .slice Aa2 a.free.length ca2, .slice Aa3 a.retired.length ca3] a ([]) sa_]) Tryz.func84 rfl rfl rfl ⟨rfl, trivial⟩ (s0d ha (s0n w)).1 ?_
  refine sq (rg (bx rfl rfl rfl rfl ?_))
  intro b1
  refine al zero66 rfl rfl rfl ?_
  intro b2
  refine en (nx (sq ?_))
  refine gd 2 kArenaS_p2_1 rfl (cs' := [.slice Aa2 a.free.length ca2]) rfl fun s3 w_ rs3 us3 => ?_
  have Ls3 := Kd.sl_len rs3; have Cs3 := Kd.sl_cap rs3
  refine rx (σ := Nat × Option Addr × Nat × List Nat × List Nat) (fun z_ : Nat × Option Addr × Nat × List Nat × List Nat => match z_ with | (b15, A8, c9, o10, s11) => [(1, .pointer (some ⟨b1, 0, none⟩)), (2, .pointer (some ⟨b2, 0, none⟩)), (3, .pointer (some ⟨b15, 0, none⟩))])
      (fun z_ : Nat × Option Addr × Nat × List Nat × List Nat => match z_ with | (b15, A8, c9, o10, s11) => [blk b15 [.int .i64 a.dims, .slice none 0 0, .slice A8 a.free.length c9, .slice none 0 0] 66, dat (Kd.row 2 Kd.i64) [.slice A8 a.free.length c9] a.free o10 s11, dat (Kd.sl Kd.i64) [.slice Aa2 a.free.length ca2] a.free ([]) s3, blk b2 [.int .i64 0, .slice none 0 0, .slice none 0 0, .slice none 0 0] 66, blk b1 [.int .i64 a.dims, .slice Aa1 a.nodes.length ca1, .slice Aa2 a.free.length ca2, .slice Aa3 a.retired.length ca3] 66, dat kArenaS [.int .i64 a.dims, .slice Aa1 a.nodes.length ca1, .slice Aa2 a.free.length ca2, .slice Aa3 a.retired.length ca3] a ([]) sa_])
      (fun z_ : Nat × Option Addr × Nat × List Nat × List Nat => match z_ with | (b15, A8, c9, o10, s11) => (∀ q ∈ s11, q ∈ ([] : List Nat) ∨ w.heap.size ≤ q) ∧ True) ?_ ?_
  · rintro ⟨b15, A8, c9, o10, s11⟩ ⟨t24, -⟩
    refine nx (sq (sq (rg (vl (fa rfl rfl rfl) rfl (vl (ldb (u := .slice Aa1 a.nodes.length ca1) 4 rfl rfl rfl rfl rfl rfl rfl) rfl (vl (ln rfl rfl rfl) rfl (m_ rfl rfl (en (nx (bk (gs (Kd.row 200 kNodeO) [.slice none 0 0] [] (fun _ => .inl ⟨rfl, rfl, rfl, rfl⟩) ?_)))))))))))
    refine lp (σ := Nat × List Node × Option Addr × Nat × List Nat × List Nat) (fun z_ : Nat × List Node × Option Addr × Nat × List Nat × List Nat => match z_ with | (k, N, AN, cN, oN, sN) => [(1, .pointer (some ⟨b1, 0, none⟩)), (2, .pointer (some ⟨b2, 0, none⟩)), (3, .pointer (some ⟨b15, 0, none⟩)), (15, .slice Aa1 a.nodes.length ca1), (16, .int .i64 ((a.nodes.length : Nat) : Int)), (17, .int .i64 ((k : Nat) : Int))])
        (fun z_ : Nat × List Node × Option Addr × Nat × List Nat × List Nat => match z_ with | (k, N, AN, cN, oN, sN) => [dat (Kd.row 200 kNodeO) [.slice AN N.length cN] N oN sN, blk b15 [.int .i64 a.dims, .slice AN N.length cN, .slice A8 a.free.length c9, .slice none 0 0] 66, dat (Kd.row 2 Kd.i64) [.slice A8 a.free.length c9] a.free o10 s11, dat (Kd.sl Kd.i64) [.slice Aa2 a.free.length ca2] a.free ([]) s3, blk b2 [.int .i64 0, .slice none 0 0, .slice none 0 0, .slice none 0 0] 66, blk b1 [.int .i64 a.dims, .slice Aa1 a.nodes.length ca1, .slice Aa2 a.free.length ca2, .slice Aa3 a.retired.length ca3] 66, dat kArenaS [.int .i64 a.dims, .slice Aa1 a.nodes.length ca1, .slice Aa2 a.free.length ca2, .slice Aa3 a.retired.length ca3] a ([]) sa_])
        (fun z_ : Nat × List Node × Option Addr × Nat × List Nat × List Nat => match z_ with | (k, N, AN, cN, oN, sN) => k ≤ a.nodes.length ∧ (N = a.nodes.take k ∧ N.length ≤ k) ∧ (∀ q ∈ sN, w.heap.size ≤ q)) (fun z_ : Nat × List Node × Option Addr × Nat × List Nat × List Nat => match z_ with | (k, N, AN, cN, oN, sN) => a.nodes.length - k) (0, [], none, 0, [], []) [0, 0, 0, 0, 0, 0, 0] ⟨Nat.zero_le _, ⟨by simp, by simp⟩, by grind⟩ ⟨rfl, rfl, rfl, rfl, rfl, rfl, trivial⟩ rfl ?_
    rintro ⟨k, N, AN, cN, oN, sN⟩ hp_
    obtain ⟨hk1, hinv1, hseeN⟩ := hp_
    refine sq (rg (vl (cm rfl rfl rfl rfl) rfl (en (nx (sq ?_)))))
    by_cases h25 : ((k : Nat) : Int) < ((a.nodes.length : Nat) : Int)
    · refine ct rfl (decide_eq_true h25) (sk (nx (sq (bk (sq (rg ?_))))))
      refine gd 6 kArenaS_p1_1 rfl (cs' := [.slice Aa1 a.nodes.length ca1]) rfl fun s26 w_ rs26 us26 => ?_
      have Ls26 := Kd.sl_len rs26; have Cs26 := Kd.sl_cap rs26
      refine gx 0 k rfl (by omega) fun y32 p27 cs_ s28 w31 m33 e29 r30 us28 => ?_
      obtain ⟨A34, c35, rfl⟩ := kNodeS_sh r30
      refine vl (ix k e29 rfl rfl rfl rfl rfl (by omega)) rfl (vl (ldq 0 rfl rfl rfl rfl rfl rfl rfl) rfl (al zero200 rfl rfl rfl ?_))
      intro b36
      refine sto rfl rfl rfl rfl rfl rfl rfl (cs' := [.int .i64 y32.level, .int .i64 y32.nsn, .int .i64 y32.right, .slice A34 y32.entries.length c35]) rfl (en (nx ?_))
      refine gp 1 Kd.Sub.rfl rfl (cs' := [.int .i64 y32.level, .int .i64 y32.nsn, .int .i64 y32.right, .slice A34 y32.entries.length c35]) rfl fun s37 w_ rs37 us37 => ?_
      refine rdz (Gq := [dat kNodeS [.int .i64 y32.level, .int .i64 y32.nsn, .int .i64 y32.right, .slice A34 y32.entries.length c35] y32 ([]) s37, blk b36 [.int .i64 y32.level, .int .i64 y32.nsn, .int .i64 y32.right, .slice A34 y32.entries.length c35] 200, ptr kNodeS p27 [.int .i64 y32.level, .int .i64 y32.nsn, .int .i64 y32.right, .slice A34 y32.entries.length c35] y32 s28, dat (Kd.sl kNodeS) [.slice Aa1 a.nodes.length ca1] a.nodes ([]) s26, blk b15 [.int .i64 a.dims, .slice AN N.length cN, .slice A8 a.free.length c9, .slice none 0 0] 66, dat (Kd.row 2 Kd.i64) [.slice A8 a.free.length c9] a.free o10 s11, dat (Kd.sl Kd.i64) [.slice Aa2 a.free.length ca2] a.free ([]) s3, blk b2 [.int .i64 0, .slice none 0 0, .slice none 0 0, .slice none 0 0] 66, blk b1 [.int .i64 a.dims, .slice Aa1 a.nodes.length ca1, .slice Aa2 a.free.length ca2, .slice Aa3 a.retired.length ca3] 66, dat kArenaS [.int .i64 a.dims, .slice Aa1 a.nodes.length ca1, .slice Aa2 a.free.length ca2, .slice Aa3 a.retired.length ca3] a ([]) sa_]) 7 [0, 0, 0, 0, 1, 1, 1, 1, 1, 1] rfl (zv 0 rfl (fa rfl rfl rfl) rfl (by kernel_rfl) (by kernel_rfl) (zv 1 rfl (ldb (u := .slice AN N.length cN) 4 rfl rfl rfl rfl rfl rfl rfl) rfl (by kernel_rfl) (by kernel_rfl) (zv 2 rfl (ldb 1 rfl rfl rfl rfl rfl rfl rfl) rfl (by kernel_rfl) (by kernel_rfl) (z1 3 [0, 0, 0, 0, 1, 1, 1, 1, 1, 1] rfl (by kernel_rfl) rfl (cm_ (dk := kNodeO) (x := y32) (S := []) (by kernel_rfl) rfl rfl rfl sn0 (fun w_ hs_ => by exact impl_Node_cloned w_ (hs_.at 0 rfl) (hal.2.2.2.2 _ (List.mem_of_getElem? m33))) (fun cs_ o42 s43 w_ r44 t45 => ?_))))))
      obtain ⟨A40, c41, rfl⟩ := kNodeO_sh r44
      refine qn (z1 4 [1, 1, 1, 1, 2, 2, 2, 2, 2, 2] rfl (by kernel_rfl) rfl (bs1 (dk := kNodeO) rfl info200 (by decide) rfl rfl rfl rfl ?_))
      intro b47
      refine qn (z1 5 [1, 1, 1, 1, 2, 2, 2, 2, 2, 2] rfl (by kernel_rfl) rfl ?_)
      refine f5 (ap (N ++ [y32]) rfl info200 rfl rfl (by decide) rfl rfl rfl rfl (by rw [List.length_append, List.length_cons, List.length_nil]; omega) (by rw [List.length_append, List.length_cons, List.length_nil]; omega) rfl (fun A48 c49 o50 s51 t52 => ?_))
      exact qn (zv 6 rfl (fa rfl rfl rfl) rfl (by kernel_rfl) (by kernel_rfl) (z1 7 [1, 1, 1, 1, 1, 1, 1, 1, 1, 1] rfl (by kernel_rfl) rfl (f5 (sto rfl rfl rfl rfl rfl rfl rfl (cs' := [.int .i64 a.dims, .slice A48 ((N ++ [y32]).length) c49, .slice A8 a.free.length c9, .slice none 0 0]) rfl (qn (ze (by kernel_rfl) rfl (xn (nx (rg (vl (ra (c := ((k + 1 : Nat) : Int)) rfl rfl rfl (by omega) (by omega) (by omega)) rfl (m_ rfl rfl (en (lpe (s := (k, N, AN, cN, oN, sN)) (k + 1, (N ++ [y32]), A48, c49, o50, s51) [1, 0, 4, 4, 4, 4, 4] ⟨by omega, ⟨by rw [take_snoc m33, ← hinv1.1], by rw [List.length_append, List.length_cons, List.length_nil]; omega⟩, by grind⟩ (by show a.nodes.length - (k + 1) < a.nodes.length - k; omega) ⟨rfl, rfl, rfl, rfl, rfl, rfl, trivial⟩ rfl)))))))))))))
    · refine cf rfl (decide_eq_false h25) (xt (xq (xq (xb (nx (sq (sq (rg (vl (fa rfl rfl rfl) rfl (vl (ldb (u := .slice Aa3 a.retired.length ca3) 5 rfl rfl rfl rfl rfl rfl rfl) rfl (vl (ln rfl rfl rfl) rfl (m_ rfl rfl (en (nx (bk (gs (Kd.row 202 kRetiredO) [.slice none 0 0] [] (fun _ => .inl ⟨rfl, rfl, rfl, rfl⟩) ?_))))))))))))))))
      refine lp (σ := Nat × List Retired × Option Addr × Nat × List Nat × List Nat) (fun z_ : Nat × List Retired × Option Addr × Nat × List Nat × List Nat => match z_ with | (k2, L, AL, cL, oL, sL) => [(2, .pointer (some ⟨b2, 0, none⟩)), (3, .pointer (some ⟨b15, 0, none⟩)), (30, .slice Aa3 a.retired.length ca3), (31, .int .i64 ((a.retired.length : Nat) : Int)), (32, .int .i64 ((k2 : Nat) : Int))])
          (fun z_ : Nat × List Retired × Option Addr × Nat × List Nat × List Nat => match z_ with | (k2, L, AL, cL, oL, sL) => [dat (Kd.row 202 kRetiredO) [.slice AL L.length cL] L oL sL, blk b15 [.int .i64 a.dims, .slice AN N.length cN, .slice A8 a.free.length c9, .slice AL L.length cL] 66, dat (Kd.row 200 kNodeO) [.slice AN N.length cN] N oN sN, dat (Kd.row 2 Kd.i64) [.slice A8 a.free.length c9] a.free o10 s11, dat (Kd.sl Kd.i64) [.slice Aa2 a.free.length ca2] a.free ([]) s3, blk b2 [.int .i64 0, .slice none 0 0, .slice none 0 0, .slice none 0 0] 66, dat kArenaS [.int .i64 a.dims, .slice Aa1 a.nodes.length ca1, .slice Aa2 a.free.length ca2, .slice Aa3 a.retired.length ca3] a ([]) sa_])
          (fun z_ : Nat × List Retired × Option Addr × Nat × List Nat × List Nat => match z_ with | (k2, L, AL, cL, oL, sL) => k2 ≤ a.retired.length ∧ (L = a.retired.take k2 ∧ L.length ≤ k2) ∧ (∀ q ∈ sL, w.heap.size ≤ q)) (fun z_ : Nat × List Retired × Option Addr × Nat × List Nat × List Nat => match z_ with | (k2, L, AL, cL, oL, sL) => a.retired.length - k2) (0, [], none, 0, [], []) [0, 1, 0, 0, 0, 0, 1] ⟨Nat.zero_le _, ⟨by simp, by simp⟩, by grind⟩ ⟨rfl, rfl, rfl, rfl, rfl, trivial⟩ rfl ?_
      rintro ⟨k2, L, AL, cL, oL, sL⟩ hp_
      obtain ⟨hk2, hinv2, hseeL⟩ := hp_
      refine sq (rg (vl (cm rfl rfl rfl rfl) rfl (en (nx (sq ?_)))))
      by_cases h53 : ((k2 : Nat) : Int) < ((a.retired.length : Nat) : Int)
      · refine ct rfl (decide_eq_true h53) (sk (nx (sq (bk (sq (rg ?_))))))
        refine gd 6 kArenaS_p3_1 rfl (cs' := [.slice Aa3 a.retired.length ca3]) rfl fun s54 w_ rs54 us54 => ?_
        have Ls54 := Kd.sl_len rs54; have Cs54 := Kd.sl_cap rs54
        refine gx 0 k2 rfl (by omega) fun y60 p55 cs_ s56 w59 m61 e57 r58 us56 => ?_
        obtain ⟨A62, c63, rfl⟩ := kRetiredS_sh r58
        refine vl (ix k2 e57 rfl rfl rfl rfl rfl (by omega)) rfl (vl (ldq 0 rfl rfl rfl rfl rfl rfl rfl) rfl (al zero202 rfl rfl rfl ?_))
        intro b64
        refine sto rfl rfl rfl rfl rfl rfl rfl (cs' := [.int .i64 y60.id, .slice A62 y60.watch.length c63]) rfl (en (nx ?_))
        refine gp 1 kRetiredS_p1_1 rfl (cs' := [.slice A62 y60.watch.length c63]) rfl fun s65 w_ rs65 us65 => ?_
        have Ls65 := Kd.sl_len rs65; have Cs65 := Kd.sl_cap rs65
        refine rdz (Gq := [dat (Kd.sl Kd.i64) [.slice A62 y60.watch.length c63] y60.watch ([]) s65, blk b64 [.int .i64 y60.id, .slice A62 y60.watch.length c63] 202, ptr kRetiredS p55 [.int .i64 y60.id, .slice A62 y60.watch.length c63] y60 s56, dat (Kd.sl kRetiredS) [.slice Aa3 a.retired.length ca3] a.retired ([]) s54, blk b15 [.int .i64 a.dims, .slice AN N.length cN, .slice A8 a.free.length c9, .slice AL L.length cL] 66, dat (Kd.row 200 kNodeO) [.slice AN N.length cN] N oN sN, dat (Kd.row 2 Kd.i64) [.slice A8 a.free.length c9] a.free o10 s11, dat (Kd.sl Kd.i64) [.slice Aa2 a.free.length ca2] a.free ([]) s3, blk b2 [.int .i64 0, .slice none 0 0, .slice none 0 0, .slice none 0 0] 66, dat kArenaS [.int .i64 a.dims, .slice Aa1 a.nodes.length ca1, .slice Aa2 a.free.length ca2, .slice Aa3 a.retired.length ca3] a ([]) sa_]) 11 [0, 0, 0, 0, 1, 1, 1, 1, 1, 1] rfl (zv 0 rfl (fa rfl rfl rfl) rfl (by kernel_rfl) (by kernel_rfl) (zv 1 rfl (ldb (u := .slice AL L.length cL) 4 rfl rfl rfl rfl rfl rfl rfl) rfl (by kernel_rfl) (by kernel_rfl) (zv 2 rfl (fa rfl rfl rfl) rfl (by kernel_rfl) (by kernel_rfl) (zv 3 rfl (ldb (u := .int .i64 y60.id) 1 rfl rfl rfl rfl rfl rfl rfl) rfl (by kernel_rfl) (by kernel_rfl) (zv 4 rfl (fa rfl rfl rfl) rfl (by kernel_rfl) (by kernel_rfl) (zv 5 rfl (ldb (u := .slice A62 y60.watch.length c63) 1 rfl rfl rfl rfl rfl rfl rfl) rfl (by kernel_rfl) (by kernel_rfl) (z1 6 [0, 0, 0, 0, 1, 1, 1, 1, 1, 1] rfl (by kernel_rfl) rfl (cm_ (dk := (Kd.row 2 Kd.i64)) (x := y60.watch) (S := []) (by kernel_rfl) rfl rfl rfl sn0 (fun w_ hs_ => by exact slices_Clone_int64_int64 w_ (hs_.at 0 rfl) (by have z := hal.2.2.2.1 _ (List.mem_of_getElem? m61); omega)) (fun cs_ o70 s71 w_ r72 t73 => ?_)))))))))
        obtain ⟨A68, c69, rfl⟩ := Kd.row_sh r72
        refine qn (zv 7 rfl (bd bld202 rfl rfl rfl) rfl (by kernel_rfl) (by kernel_rfl) (z1 8 [1, 1, 1, 1, 2, 2, 2, 2, 2, 2] rfl (by kernel_rfl) rfl (gs Kd.i64 [.int .i64 y60.id] ((⟨y60.id, y60.watch⟩ : Retired).id) (fun _ => ⟨rfl, rfl, rfl⟩) (gj (da := (Kd.via Kd.i64 Retired.id)) (db := (Kd.via (Kd.row 2 Kd.i64) Retired.watch)) (x := (⟨y60.id, y60.watch⟩ : Retired)) (cs := [.int .i64 y60.id, .slice A68 y60.watch.length c69]) rfl (bs1 (dk := kRetiredO) rfl info202 (by decide) rfl rfl rfl rfl ?_)))))
        intro b75
        refine qn (z1 9 [1, 1, 1, 1, 2, 2, 2, 2, 2, 2] rfl (by kernel_rfl) rfl ?_)
        refine f5 (ap (L ++ [(⟨y60.id, y60.watch⟩ : Retired)]) rfl info202 rfl rfl (by decide) rfl rfl rfl rfl (by rw [List.length_append, List.length_cons, List.length_nil]; omega) (by rw [List.length_append, List.length_cons, List.length_nil]; omega) rfl (fun A76 c77 o78 s79 t80 => ?_))
        exact qn (zv 10 rfl (fa rfl rfl rfl) rfl (by kernel_rfl) (by kernel_rfl) (z1 11 [1, 1, 1, 1, 1, 1, 1, 1, 1, 1] rfl (by kernel_rfl) rfl (f5 (sto rfl rfl rfl rfl rfl rfl rfl (cs' := [.int .i64 a.dims, .slice AN N.length cN, .slice A8 a.free.length c9, .slice A76 ((L ++ [(⟨y60.id, y60.watch⟩ : Retired)]).length) c77]) rfl (qn (ze (by kernel_rfl) rfl (xn (nx (rg (vl (ra (c := ((k2 + 1 : Nat) : Int)) rfl rfl rfl (by omega) (by omega) (by omega)) rfl (m_ rfl rfl (en (lpe (s := (k2, L, AL, cL, oL, sL)) (k2 + 1, (L ++ [(⟨y60.id, y60.watch⟩ : Retired)]), A76, c77, o78, s79) [1, 0, 4, 4, 4, 4, 4] ⟨by omega, ⟨by rw [take_snoc m61, ← hinv2.1], by rw [List.length_append, List.length_cons, List.length_nil]; omega⟩, by grind⟩ (by show a.retired.length - (k2 + 1) < a.retired.length - k2; omega) ⟨rfl, rfl, rfl, rfl, rfl, trivial⟩ rfl)))))))))))))
      · exact cf rfl (decide_eq_false h53) (xt (xq (xq (xb (nx (sq (rg (vl (ldb 1 rfl rfl rfl rfl rfl rfl rfl) rfl (f5 (sto rfl rfl rfl rfl rfl rfl rfl (cs' := [.int .i64 a.dims, .slice AN N.length cN, .slice A8 a.free.length c9, .slice AL L.length cL]) rfl (en (nx (rt (f1 (f4 (gj (da := (Kd.via (Kd.row 2 Kd.i64) Arena.free)) (db := (Kd.via (Kd.row 202 kRetiredO) Arena.retired)) (x := (⟨a.dims, N, a.free, L⟩ : Arena)) (cs := [.slice A8 a.free.length c9, .slice AL L.length cL]) rfl (f3 (gj (da := (Kd.via (Kd.row 200 kNodeO) Arena.nodes)) (db := ((Kd.via (Kd.row 2 Kd.i64) Arena.free).cat (Kd.via (Kd.row 202 kRetiredO) Arena.retired))) (x := (⟨a.dims, N, a.free, L⟩ : Arena)) (cs := [.slice AN N.length cN, .slice A8 a.free.length c9, .slice AL L.length cL]) rfl (gs Kd.i64 [.int .i64 a.dims] ((⟨a.dims, N, a.free, L⟩ : Arena).dims) (fun _ => ⟨rfl, rfl, rfl⟩) (gj (da := (Kd.via Kd.i64 Arena.dims)) (db := ((Kd.via (Kd.row 200 kNodeO) Arena.nodes).cat ((Kd.via (Kd.row 2 Kd.i64) Arena.free).cat (Kd.via (Kd.row 202 kRetiredO) Arena.retired)))) (x := (⟨a.dims, N, a.free, L⟩ : Arena)) (cs := [.int .i64 a.dims, .slice AN N.length cN, .slice A8 a.free.length c9, .slice AL L.length cL]) rfl (gr a (by rw [hinv1.1, hinv2.1, List.take_of_length_le (by omega), List.take_of_length_le (by omega)]) (retc 1 rfl rfl rfl rfl rfl rfl (fun w_ hs_ => made hs_ rfl (see_app see_nil (see_app (by grind) (see_app t24 (by grind)))))))))))))))))))))))))))
  · refine r0 (qv 0 rfl (fa rfl rfl rfl) rfl (by kernel_rfl) (qv 1 rfl (ldb (u := .int .i64 a.dims) 2 rfl rfl rfl rfl rfl rfl rfl) rfl (by kernel_rfl) (qv 2 rfl (fa rfl rfl rfl) rfl (by kernel_rfl) (qv 3 rfl (ldb (u := .slice Aa2 a.free.length ca2) 2 rfl rfl rfl rfl rfl rfl rfl) rfl (by kernel_rfl) ?_))))
    refine qo 4 6 [0, 0, 0, 0] rfl rfl (by kernel_rfl) rfl ?_ ?_
    · refine cm_ (dk := (Kd.row 2 Kd.i64)) (x := a.free) (S := []) (by kernel_rfl) rfl rfl rfl sn0 (fun w_ hs_ => by exact slices_Clone_int64_int64 w_ (hs_.at 0 rfl) (by omega)) (fun cs_ o83 s84 w_ r85 t86 => ?_)
      obtain ⟨A81, c82, rfl⟩ := Kd.row_sh r85
      refine qn (qv 5 rfl (bd bld66 rfl rfl rfl) rfl (by kernel_rfl) (q1 6 [1, 1, 1, 1] rfl (by kernel_rfl) rfl (al zero66 rfl rfl rfl ?_)))
      intro b88
      exact qn (q1 7 [2, 2, 2, 2] rfl (by kernel_rfl) rfl (sto rfl rfl rfl rfl rfl rfl rfl (cs' := [.int .i64 a.dims, .slice none 0 0, .slice A81 a.free.length c82, .slice none 0 0]) rfl (qn (qe [2, 2, 2, 2] (by kernel_rfl) rfl (cx (b88, A81, c82, o83, s84) [0, 0, 0, 0, 0, 0] ⟨t86, trivial⟩ ⟨rfl, rfl, rfl, trivial⟩ rfl)))))
    · refine al zero66 rfl rfl rfl ?_
      intro b89
      refine qn (q1 4 [1, 1, 1, 1] rfl (by kernel_rfl) rfl (cm_ (dk := (Kd.row 2 Kd.i64)) (x := a.free) (S := []) (by kernel_rfl) rfl rfl rfl sn0 (fun w_ hs_ => by exact slices_Clone_int64_int64 w_ (hs_.at 1 rfl) (by omega)) (fun cs_ o92 s93 w_ r94 t95 => ?_)))
      obtain ⟨A90, c91, rfl⟩ := Kd.row_sh r94
      exact qn (qv 5 rfl (bd bld66 rfl rfl rfl) rfl (by kernel_rfl) (q1 7 [2, 2, 2, 2] rfl (by kernel_rfl) rfl (f1 (sto rfl rfl rfl rfl rfl rfl rfl (cs' := [.int .i64 a.dims, .slice none 0 0, .slice A90 a.free.length c91, .slice none 0 0]) rfl (qn (qe [2, 2, 2, 2] (by kernel_rfl) rfl (cx (b89, A90, c91, o92, s93) [0, 0, 0, 0, 0, 0] ⟨t95, trivial⟩ ⟨rfl, rfl, rfl, trivial⟩ rfl)))))))
/-! spec.l4Copy -/
set_option maxRecDepth 20000 in
set_option maxHeartbeats 2000000 in
theorem spec_l4Copy (w : World) {Aa1 : Option Addr} {ca1 : Nat} {Aa2 : Option Addr} {ca2 : Nat} {Aa3 : Option Addr} {ca3 : Nat} {a : Arena} {sa_ : List Nat} {pa : Addr} (ha : (ptr kArenaS pa [.int .i64 a.dims, .slice Aa1 a.nodes.length ca1, .slice Aa2 a.free.length ca2, .slice Aa3 a.retired.length ca3] a sa_).P w) (hz : szArena a ≤ 1048576) : Calls Tryz.prog 78 #[.pointer (some pa)] w (Made kArenaO w a []) := by
  have La1 := Kd.sub_len kArenaS_p1_1 ha.2.2.2; have Ca1 := Kd.sub_cap kArenaS_p1_1 ha.2.2.2 rfl
  have La2 := Kd.sub_len kArenaS_p2_1 ha.2.2.2; have Ca2 := Kd.sub_cap kArenaS_p2_1 ha.2.2.2 rfl
  have La3 := Kd.sub_len kArenaS_p3_1 ha.2.2.2; have Ca3 := Kd.sub_cap kArenaS_p3_1 ha.2.2.2 rfl
  have hal := arena_len hz
  refine fnc (X := X3 53 w) (args := [.pointer (some pa)]) (l := [(0, .pointer (some pa))]) (G := [ptr kArenaS pa [.int .i64 a.dims, .slice Aa1 a.nodes.length ca1, .slice Aa2 a.free.length ca2, .slice Aa3 a.retired.length ca3] a sa_]) Tryz.func78 rfl rfl rfl ⟨rfl, trivial⟩ (s0p ha (s0n w)).1 ?_
  refine sq (rg (al zero66 rfl rfl rfl ?_))
  intro b1
  refine en (nx (sq ?_))
  refine gp 1 kArenaS_p1_1 rfl (cs' := [.slice Aa1 a.nodes.length ca1]) rfl fun s2 w_ rs2 us2 => ?_
  have Ls2 := Kd.sl_len rs2; have Cs2 := Kd.sl_cap rs2
  refine gp 2 kArenaS_p2_1 rfl (cs' := [.slice Aa2 a.free.length ca2]) rfl fun s5 w_ rs5 us5 => ?_
  have Ls5 := Kd.sl_len rs5; have Cs5 := Kd.sl_cap rs5
  refine rx (σ := Nat × Option Addr × Nat × Option Addr × Nat × List Nat × List Nat × List Nat × List Nat) (fun z_ : Nat × Option Addr × Nat × Option Addr × Nat × List Nat × List Nat × List Nat × List Nat => match z_ with | (b30, A16, c17, A23, c24, o25, s26, o18, s19) => [(0, .pointer (some pa)), (2, .pointer (some ⟨b1, 0, none⟩)), (3, .pointer (some ⟨b30, 0, none⟩))])
      (fun z_ : Nat × Option Addr × Nat × Option Addr × Nat × List Nat × List Nat × List Nat × List Nat => match z_ with | (b30, A16, c17, A23, c24, o25, s26, o18, s19) => [blk b30 [.int .i64 a.dims, .slice A16 a.nodes.length c17, .slice A23 a.free.length c24, .slice none 0 0] 66, dat (Kd.row 2 Kd.i64) [.slice A23 a.free.length c24] a.free o25 s26, dat (Kd.row 200 kNodeO) [.slice A16 a.nodes.length c17] a.nodes o18 s19, dat (Kd.sl Kd.i64) [.slice Aa2 a.free.length ca2] a.free ([]) s5, dat (Kd.sl kNodeS) [.slice Aa1 a.nodes.length ca1] a.nodes ([]) s2, blk b1 [.int .i64 0, .slice none 0 0, .slice none 0 0, .slice none 0 0] 66, ptr kArenaS pa [.int .i64 a.dims, .slice Aa1 a.nodes.length ca1, .slice Aa2 a.free.length ca2, .slice Aa3 a.retired.length ca3] a sa_])
      (fun z_ : Nat × Option Addr × Nat × Option Addr × Nat × List Nat × List Nat × List Nat × List Nat => match z_ with | (b30, A16, c17, A23, c24, o25, s26, o18, s19) => (∀ q ∈ s26, q ∈ ([] : List Nat) ∨ w.heap.size ≤ q) ∧ (∀ q ∈ s19, q ∈ ([] : List Nat) ∨ w.heap.size ≤ q) ∧ True) ?_ ?_
  · rintro ⟨b30, A16, c17, A23, c24, o25, s26, o18, s19⟩ ⟨t54, t55, -⟩
    refine nx (sq (sq (rg (a_ rfl rfl (en (nx (bk (gs (Kd.row 202 kRetiredO) [.slice none 0 0] [] (fun _ => .inl ⟨rfl, rfl, rfl, rfl⟩) ?_))))))))
    refine lp (σ := Nat × List Retired × Option Addr × Nat × List Nat × List Nat) (fun z_ : Nat × List Retired × Option Addr × Nat × List Nat × List Nat => match z_ with | (k2, L, AL, cL, oL, sL) => [(0, .pointer (some pa)), (2, .pointer (some ⟨b1, 0, none⟩)), (3, .pointer (some ⟨b30, 0, none⟩)), (4, .int .i64 ((k2 : Nat) : Int))])
        (fun z_ : Nat × List Retired × Option Addr × Nat × List Nat × List Nat => match z_ with | (k2, L, AL, cL, oL, sL) => [dat (Kd.row 202 kRetiredO) [.slice AL L.length cL] L oL sL, blk b30 [.int .i64 a.dims, .slice A16 a.nodes.length c17, .slice A23 a.free.length c24, .slice AL L.length cL] 66, dat (Kd.row 2 Kd.i64) [.slice A23 a.free.length c24] a.free o25 s26, dat (Kd.row 200 kNodeO) [.slice A16 a.nodes.length c17] a.nodes o18 s19, dat (Kd.sl Kd.i64) [.slice Aa2 a.free.length ca2] a.free ([]) s5, dat (Kd.sl kNodeS) [.slice Aa1 a.nodes.length ca1] a.nodes ([]) s2, blk b1 [.int .i64 0, .slice none 0 0, .slice none 0 0, .slice none 0 0] 66, ptr kArenaS pa [.int .i64 a.dims, .slice Aa1 a.nodes.length ca1, .slice Aa2 a.free.length ca2, .slice Aa3 a.retired.length ca3] a sa_])
        (fun z_ : Nat × List Retired × Option Addr × Nat × List Nat × List Nat => match z_ with | (k2, L, AL, cL, oL, sL) => k2 ≤ a.retired.length ∧ (L = a.retired.take k2 ∧ L.length ≤ k2) ∧ (∀ q ∈ sL, w.heap.size ≤ q)) (fun z_ : Nat × List Retired × Option Addr × Nat × List Nat × List Nat => match z_ with | (k2, L, AL, cL, oL, sL) => a.retired.length - k2) (0, [], none, 0, [], []) [0, 0, 0, 0, 0, 0, 0, 0] ⟨Nat.zero_le _, ⟨by simp, by simp⟩, by grind⟩ ⟨rfl, rfl, rfl, rfl, trivial⟩ rfl ?_
    rintro ⟨k2, L, AL, cL, oL, sL⟩ hp_
    obtain ⟨hk2, hinv2, hseeL⟩ := hp_
    refine sq (sq (rg (m_ rfl rfl (m_ rfl rfl (vl (nc rfl rfl) rfl (vl (fa rfl rfl rfl) rfl (vl (ldp (u := .slice Aa3 a.retired.length ca3) 7 rfl rfl rfl rfl rfl rfl rfl) rfl (vl (ln rfl rfl rfl) rfl (vl (cm rfl rfl rfl rfl) rfl (en (nx ?_)))))))))))
    by_cases h56 : ((k2 : Nat) : Int) < ((a.retired.length : Nat) : Int)
    · refine ct rfl (decide_eq_true h56) (sk (nx (sq (bk ?_))))
      refine gp 7 kArenaS_p3_1 rfl (cs' := [.slice Aa3 a.retired.length ca3]) rfl fun s57 w_ rs57 us57 => ?_
      have Ls57 := Kd.sl_len rs57; have Cs57 := Kd.sl_cap rs57
      refine gx 0 k2 rfl (by omega) fun y63 p58 cs_ s59 w62 m64 e60 r61 us59 => ?_
      obtain ⟨A65, c66, rfl⟩ := kRetiredS_sh r61
      refine gp 0 kRetiredS_p1_1 rfl (cs' := [.slice A65 y63.watch.length c66]) rfl fun s67 w_ rs67 us67 => ?_
      have Ls67 := Kd.sl_len rs67; have Cs67 := Kd.sl_cap rs67
      refine rdz (Gq := [dat (Kd.sl Kd.i64) [.slice A65 y63.watch.length c66] y63.watch ([]) s67, ptr kRetiredS p58 [.int .i64 y63.id, .slice A65 y63.watch.length c66] y63 s59, dat (Kd.sl kRetiredS) [.slice Aa3 a.retired.length ca3] a.retired ([]) s57, blk b30 [.int .i64 a.dims, .slice A16 a.nodes.length c17, .slice A23 a.free.length c24, .slice AL L.length cL] 66, dat (Kd.row 2 Kd.i64) [.slice A23 a.free.length c24] a.free o25 s26, dat (Kd.row 200 kNodeO) [.slice A16 a.nodes.length c17] a.nodes o18 s19, dat (Kd.sl Kd.i64) [.slice Aa2 a.free.length ca2] a.free ([]) s5, dat (Kd.sl kNodeS) [.slice Aa1 a.nodes.length ca1] a.nodes ([]) s2, blk b1 [.int .i64 0, .slice none 0 0, .slice none 0 0, .slice none 0 0] 66, ptr kArenaS pa [.int .i64 a.dims, .slice Aa1 a.nodes.length ca1, .slice Aa2 a.free.length ca2, .slice Aa3 a.retired.length ca3] a sa_]) 23 [0, 0, 0, 1, 1, 1, 1, 1, 1, 1] rfl (zv 0 rfl (fa rfl rfl rfl) rfl (by kernel_rfl) (by kernel_rfl) (zv 1 rfl (ldb (u := .slice AL L.length cL) 3 rfl rfl rfl rfl rfl rfl rfl) rfl (by kernel_rfl) (by kernel_rfl) (zv 2 rfl (mv rfl rfl) rfl (by kernel_rfl) (by kernel_rfl) (zv 3 rfl (nc rfl rfl) rfl (by kernel_rfl) (by kernel_rfl) (zv 4 rfl (fa rfl rfl rfl) rfl (by kernel_rfl) (by kernel_rfl) (zv 5 rfl (ldp (u := .slice Aa3 a.retired.length ca3) 9 rfl rfl rfl rfl rfl rfl rfl) rfl (by kernel_rfl) (by kernel_rfl) (zv 6 rfl (mv rfl rfl) rfl (by kernel_rfl) (by kernel_rfl) (zv 7 rfl (ix k2 e60 rfl rfl rfl rfl rfl (by omega)) rfl (by kernel_rfl) (by kernel_rfl) (zv 8 rfl (fa rfl rfl rfl) rfl (by kernel_rfl) (by kernel_rfl) (zv 9 rfl (ldp (u := .int .i64 y63.id) 1 rfl rfl rfl rfl rfl rfl rfl) rfl (by kernel_rfl) (by kernel_rfl) (zv 10 rfl (mv rfl rfl) rfl (by kernel_rfl) (by kernel_rfl) (zv 11 rfl (nc rfl rfl) rfl (by kernel_rfl) (by kernel_rfl) (zv 12 rfl (fa rfl rfl rfl) rfl (by kernel_rfl) (by kernel_rfl) (zv 13 rfl (ldp (u := .slice Aa3 a.retired.length ca3) 9 rfl rfl rfl rfl rfl rfl rfl) rfl (by kernel_rfl) (by kernel_rfl) (zv 14 rfl (mv rfl rfl) rfl (by kernel_rfl) (by kernel_rfl) (zv 15 rfl (ix k2 e60 rfl rfl rfl rfl rfl (by omega)) rfl (by kernel_rfl) (by kernel_rfl) (zv 16 rfl (fa rfl rfl rfl) rfl (by kernel_rfl) (by kernel_rfl) (zv 17 rfl (ldp (u := .slice A65 y63.watch.length c66) 1 rfl rfl rfl rfl rfl rfl rfl) rfl (by kernel_rfl) (by kernel_rfl) (z1 18 [0, 0, 0, 1, 1, 1, 1, 1, 1, 1] rfl (by kernel_rfl) rfl (cm_ (dk := (Kd.row 2 Kd.i64)) (x := y63.watch) (S := []) (by kernel_rfl) rfl rfl rfl sn0 (fun w_ hs_ => by exact spec_l1Ints w_ (hs_.at 0 rfl) (by have z := hal.2.2.2.1 _ (List.mem_of_getElem? m64); omega)) (fun cs_ o72 s73 w_ r74 t75 => ?_)))))))))))))))))))))
      obtain ⟨A70, c71, rfl⟩ := Kd.row_sh r74
      refine qn (zv 19 rfl (bd bld202 rfl rfl rfl) rfl (by kernel_rfl) (by kernel_rfl) (z1 20 [1, 1, 1, 2, 2, 2, 2, 2, 2, 2] rfl (by kernel_rfl) rfl (gs Kd.i64 [.int .i64 y63.id] ((⟨y63.id, y63.watch⟩ : Retired).id) (fun _ => ⟨rfl, rfl, rfl⟩) (gj (da := (Kd.via Kd.i64 Retired.id)) (db := (Kd.via (Kd.row 2 Kd.i64) Retired.watch)) (x := (⟨y63.id, y63.watch⟩ : Retired)) (cs := [.int .i64 y63.id, .slice A70 y63.watch.length c71]) rfl (bs1 (dk := kRetiredO) rfl info202 (by decide) rfl rfl rfl rfl ?_)))))
      intro b77
      refine qn (z1 21 [1, 1, 1, 2, 2, 2, 2, 2, 2, 2] rfl (by kernel_rfl) rfl ?_)
      refine f4 (ap (L ++ [(⟨y63.id, y63.watch⟩ : Retired)]) rfl info202 rfl rfl (by decide) rfl rfl rfl rfl (by rw [List.length_append, List.length_cons, List.length_nil]; omega) (by rw [List.length_append, List.length_cons, List.length_nil]; omega) rfl (fun A78 c79 o80 s81 t82 => ?_))
      exact qn (zv 22 rfl (fa rfl rfl rfl) rfl (by kernel_rfl) (by kernel_rfl) (z1 23 [1, 1, 1, 1, 1, 1, 1, 1, 1, 1] rfl (by kernel_rfl) rfl (f4 (sto rfl rfl rfl rfl rfl rfl rfl (cs' := [.int .i64 a.dims, .slice A16 a.nodes.length c17, .slice A23 a.free.length c24, .slice A78 ((L ++ [(⟨y63.id, y63.watch⟩ : Retired)]).length) c79]) rfl (qn (ze (by kernel_rfl) rfl (xn (nx (rg (m_ rfl rfl (vl (ra (c := ((k2 + 1 : Nat) : Int)) rfl rfl rfl (by omega) (by omega) (by omega)) rfl (a_ rfl rfl (en (lpe (s := (k2, L, AL, cL, oL, sL)) (k2 + 1, (L ++ [(⟨y63.id, y63.watch⟩ : Retired)]), A78, c79, o80, s81) [1, 0, 3, 3, 3, 3, 3, 3] ⟨by omega, ⟨by rw [take_snoc m64, ← hinv2.1], by rw [List.length_append, List.length_cons, List.length_nil]; omega⟩, by grind⟩ (by show a.retired.length - (k2 + 1) < a.retired.length - k2; omega) ⟨rfl, rfl, rfl, rfl, trivial⟩ rfl))))))))))))))
    · exact cf rfl (decide_eq_false h56) (xt (xq (xq (xb (nx (sq (rg (vl (ldb 1 rfl rfl rfl rfl rfl rfl rfl) rfl (f6 (sto rfl rfl rfl rfl rfl rfl rfl (cs' := [.int .i64 a.dims, .slice A16 a.nodes.length c17, .slice A23 a.free.length c24, .slice AL L.length cL]) rfl (en (nx (rt (f1 (f3 (gj (da := (Kd.via (Kd.row 2 Kd.i64) Arena.free)) (db := (Kd.via (Kd.row 202 kRetiredO) Arena.retired)) (x := (⟨a.dims, a.nodes, a.free, L⟩ : Arena)) (cs := [.slice A23 a.free.length c24, .slice AL L.length cL]) rfl (f3 (gj (da := (Kd.via (Kd.row 200 kNodeO) Arena.nodes)) (db := ((Kd.via (Kd.row 2 Kd.i64) Arena.free).cat (Kd.via (Kd.row 202 kRetiredO) Arena.retired))) (x := (⟨a.dims, a.nodes, a.free, L⟩ : Arena)) (cs := [.slice A16 a.nodes.length c17, .slice A23 a.free.length c24, .slice AL L.length cL]) rfl (gs Kd.i64 [.int .i64 a.dims] ((⟨a.dims, a.nodes, a.free, L⟩ : Arena).dims) (fun _ => ⟨rfl, rfl, rfl⟩) (gj (da := (Kd.via Kd.i64 Arena.dims)) (db := ((Kd.via (Kd.row 200 kNodeO) Arena.nodes).cat ((Kd.via (Kd.row 2 Kd.i64) Arena.free).cat (Kd.via (Kd.row 202 kRetiredO) Arena.retired)))) (x := (⟨a.dims, a.nodes, a.free, L⟩ : Arena)) (cs := [.int .i64 a.dims, .slice A16 a.nodes.length c17, .slice A23 a.free.length c24, .slice AL L.length cL]) rfl (gr a (by rw [hinv2.1, List.take_of_length_le (by omega)]) (retc 1 rfl rfl rfl rfl rfl rfl (fun w_ hs_ => made hs_ rfl (see_app see_nil (see_app t55 (see_app t54 (by grind)))))))))))))))))))))))))))
  · refine r0 (qv 0 rfl (mv rfl rfl) rfl (by kernel_rfl) (qv 1 rfl (nc rfl rfl) rfl (by kernel_rfl) (qv 2 rfl (fa rfl rfl rfl) rfl (by kernel_rfl) (qv 3 rfl (ldp (u := .int .i64 a.dims) 3 rfl rfl rfl rfl rfl rfl rfl) rfl (by kernel_rfl) (qv 4 rfl (mv rfl rfl) rfl (by kernel_rfl) (qv 5 rfl (nc rfl rfl) rfl (by kernel_rfl) (qv 6 rfl (fa rfl rfl rfl) rfl (by kernel_rfl) (qv 7 rfl (ldp (u := .slice Aa1 a.nodes.length ca1) 3 rfl rfl rfl rfl rfl rfl rfl) rfl (by kernel_rfl) (qv 9 rfl (mv rfl rfl) rfl (by kernel_rfl) (qv 10 rfl (nc rfl rfl) rfl (by kernel_rfl) (qv 11 rfl (fa rfl rfl rfl) rfl (by kernel_rfl) (qv 12 rfl (ldp (u := .slice Aa2 a.free.length ca2) 3 rfl rfl rfl rfl rfl rfl rfl) rfl (by kernel_rfl) ?_))))))))))))
    refine qo 8 15 [0, 0, 0, 0] rfl rfl (by kernel_rfl) rfl ?_ ?_
    · refine cm_ (dk := (Kd.row 200 kNodeO)) (x := a.nodes) (S := []) (by kernel_rfl) rfl rfl rfl sn0 (fun w_ hs_ => by exact spec_l3Copies w_ (hs_.at 1 rfl) (by omega) hal.2.2.2.2) (fun cs_ o85 s86 w_ r87 t88 => ?_)
      obtain ⟨A83, c84, rfl⟩ := Kd.row_sh r87
      refine qn ?_
      refine qo 13 15 [1, 1, 1, 1] rfl rfl (by kernel_rfl) rfl ?_ ?_
      · refine cm_ (dk := (Kd.row 2 Kd.i64)) (x := a.free) (S := []) (by kernel_rfl) rfl rfl rfl sn0 (fun w_ hs_ => by exact spec_l1Ints w_ (hs_.at 1 rfl) (by omega)) (fun cs_ o92 s93 w_ r94 t95 => ?_)
        obtain ⟨A90, c91, rfl⟩ := Kd.row_sh r94
        refine qn (qv 14 rfl (bd bld66 rfl rfl rfl) rfl (by kernel_rfl) (q1 15 [2, 2, 2, 2] rfl (by kernel_rfl) rfl (al zero66 rfl rfl rfl ?_)))
        intro b97
        exact qn (q1 16 [3, 3, 3, 3] rfl (by kernel_rfl) rfl (sto rfl rfl rfl rfl rfl rfl rfl (cs' := [.int .i64 a.dims, .slice A83 a.nodes.length c84, .slice A90 a.free.length c91, .slice none 0 0]) rfl (qn (qe [3, 3, 3, 3] (by kernel_rfl) rfl (cx (b97, A83, c84, A90, c91, o92, s93, o85, s86) [0, 0, 0, 0, 0, 0, 0] ⟨t95, t88, trivial⟩ ⟨rfl, rfl, rfl, trivial⟩ rfl)))))
      · refine al zero66 rfl rfl rfl ?_
        intro b98
        refine qn (q1 13 [2, 2, 2, 2] rfl (by kernel_rfl) rfl (cm_ (dk := (Kd.row 2 Kd.i64)) (x := a.free) (S := []) (by kernel_rfl) rfl rfl rfl sn0 (fun w_ hs_ => by exact spec_l1Ints w_ (hs_.at 2 rfl) (by omega)) (fun cs_ o101 s102 w_ r103 t104 => ?_)))
        obtain ⟨A99, c100, rfl⟩ := Kd.row_sh r103
        exact qn (qv 14 rfl (bd bld66 rfl rfl rfl) rfl (by kernel_rfl) (q1 16 [3, 3, 3, 3] rfl (by kernel_rfl) rfl (f1 (sto rfl rfl rfl rfl rfl rfl rfl (cs' := [.int .i64 a.dims, .slice A83 a.nodes.length c84, .slice A99 a.free.length c100, .slice none 0 0]) rfl (qn (qe [3, 3, 3, 3] (by kernel_rfl) rfl (cx (b98, A83, c84, A99, c100, o101, s102, o85, s86) [0, 0, 0, 0, 0, 0, 0] ⟨t104, t88, trivial⟩ ⟨rfl, rfl, rfl, trivial⟩ rfl)))))))
    · refine al zero66 rfl rfl rfl ?_
      intro b106
      refine qn (q1 8 [1, 1, 1, 1] rfl (by kernel_rfl) rfl (cm_ (dk := (Kd.row 200 kNodeO)) (x := a.nodes) (S := []) (by kernel_rfl) rfl rfl rfl sn0 (fun w_ hs_ => by exact spec_l3Copies w_ (hs_.at 2 rfl) (by omega) hal.2.2.2.2) (fun cs_ o109 s110 w_ r111 t112 => ?_)))
      obtain ⟨A107, c108, rfl⟩ := Kd.row_sh r111
      refine qn (q1 13 [2, 2, 2, 2] rfl (by kernel_rfl) rfl (cm_ (dk := (Kd.row 2 Kd.i64)) (x := a.free) (S := []) (by kernel_rfl) rfl rfl rfl sn0 (fun w_ hs_ => by exact spec_l1Ints w_ (hs_.at 2 rfl) (by omega)) (fun cs_ o116 s117 w_ r118 t119 => ?_)))
      obtain ⟨A114, c115, rfl⟩ := Kd.row_sh r118
      exact qn (qv 14 rfl (bd bld66 rfl rfl rfl) rfl (by kernel_rfl) (q1 16 [3, 3, 3, 3] rfl (by kernel_rfl) rfl (f2 (sto rfl rfl rfl rfl rfl rfl rfl (cs' := [.int .i64 a.dims, .slice A107 a.nodes.length c108, .slice A114 a.free.length c115, .slice none 0 0]) rfl (qn (qe [3, 3, 3, 3] (by kernel_rfl) rfl (cx (b106, A107, c108, A114, c115, o116, s117, o109, s110) [0, 0, 0, 0, 0, 0, 0] ⟨t119, t112, trivial⟩ ⟨rfl, rfl, rfl, trivial⟩ rfl)))))))
end Go.Proofs.YthhnlpchdcechaaGreat.Sx
