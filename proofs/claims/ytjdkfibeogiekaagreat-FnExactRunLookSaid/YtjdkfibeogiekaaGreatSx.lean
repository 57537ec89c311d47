/- Words for walks over the program's code: what is said of memory, and how each step of the code turns it. No law is proved here; nothing is assumed. -/
import Derived.Below
import Derived.Orders
import Derived.Deep.LoopGhost
import Derived.Deep.Quiet
import Derived.ChangeKeysEq
import Derived.Laws.CopyRow
import Derived.Laws.Cells
import Derived.Laws.Entries
import Derived.WalkKit
import Derived.TacticsIn
import Derived.RangeFuncCalls
import Derived.WideLaws
import Derived.Laws.Rows
import Derived.Laws.Tables
import Derived.Deep.OwnRows
import Derived.Deep.Slices
import Derived.ChangeArms
import Derived.SizedLaws
import Derived.OpenShut
import Derived.WideShapes
import Derived.Carry
namespace Go.Proofs.YtjdkfibeogiekaaGreat.Sx
open Go Go.RowKit
set_option linter.unusedVariables false
set_option linter.unusedSimpArgs false
section

structure Below (B : Nat) (w w' : World) : Prop where
  os : w'.os = w.os
  tape : w'.tape = w.tape
  output : w'.output = w.output
  size : w.heap.size ≤ w'.heap.size
  block : ∀ k, k < B → w'.heap[k]? = w.heap[k]?
  dn : w.drawn ≤ w'.drawn
theorem Below.refl (B : Nat) (w : World) : Below B w w := ⟨rfl, rfl, rfl, Nat.le_refl _, fun _ _ => rfl, Nat.le_refl _⟩
theorem Below.trans {B : Nat} {a b c : World} (h : Below B a b) (k : Below B b c) : Below B a c :=
  ⟨k.os.trans h.os, k.tape.trans h.tape, k.output.trans h.output, Nat.le_trans h.size k.size, fun i hi => (k.block i hi).trans (h.block i hi), Nat.le_trans h.dn k.dn⟩
theorem Below.mono {B B' : Nat} {w w' : World} (h : Below B w w') (hB : B' ≤ B) : Below B' w w' := ⟨h.os, h.tape, h.output, h.size, fun k hk => h.block k (Nat.lt_of_lt_of_le hk hB), h.dn⟩
theorem Below.old {B : Nat} {w w' : World} (h : Below B w w') : Go.RowKit.Below B w w' := ⟨h.os, h.tape, h.output, h.size, h.block⟩
theorem Below.of {B : Nat} {w w' : World} (h : Go.RowKit.Below B w w') (hd : w.drawn ≤ w'.drawn) : Below B w w' := ⟨h.os, h.tape, h.output, h.size, h.block, hd⟩
theorem Below.drew {B : Nat} {a w : World} (h : Below B a w) : Below B a w.drew := .of h.old.drew (Nat.le_succ_of_le h.dn)
theorem Below.alloc {B : Nat} {a w : World} (h : Below B a w) (hB : B ≤ w.heap.size) (o : Obj) : Below B a (w.alloc o) := .of (h.old.alloc hB o) h.dn
theorem Below.grown {B : Nat} {a w w' : World} {row : Option Nat} (h : Below B a w) (hg : w.grownBy w' row) (hB : B ≤ w.heap.size) (hr : ∀ k, row = some k → B ≤ k) (hd : w.drawn ≤ w'.drawn) : Below B a w' := .of (h.old.grown hg hB hr) (Nat.le_trans h.dn hd)

def Same (w w' : World) (bs : List Nat) : Prop := ∀ b ∈ bs, w'.heap[b]? = w.heap[b]?
theorem Same.app {w w' : World} {a b : List Nat} (h : Same w w' (a ++ b)) : Same w w' a ∧ Same w w' b :=
  ⟨fun x hx => h x (List.mem_append_left _ hx), fun x hx => h x (List.mem_append_right _ hx)⟩
theorem Same.cons {w w' : World} {a : Nat} {b : List Nat} (h : Same w w' (a :: b)) : w'.heap[a]? = w.heap[a]? ∧ Same w w' b :=
  ⟨h a (List.mem_cons_self ..), fun x hx => h x (List.mem_cons_of_mem _ hx)⟩
theorem Same.refl {w : World} {a : List Nat} : Same w w a := fun _ _ => rfl

theorem lt_same {w w' : World} {b : Nat} (h : w'.heap[b]? = w.heap[b]?) (hb : b < w.heap.size) : b < w'.heap.size := by
  rw [Array.getElem?_eq_getElem hb] at h
  exact (Array.getElem?_eq_some_iff.1 h).1

inductive Shp where
  | n
  | p (a : Addr) (cs : List Value)
  | b (g : Nat) (cs : List Value)
def Shp.holds : Shp → World → Prop
  | .n, _ => True
  | .p a cs, w => a.spot = none ∧ ∀ (j : Nat) (v : Value), cs[j]? = some v → w.cell? ⟨a.block, a.off + j, none⟩ = some v
  | .b g cs, w => ∃ t, w.heap[g]? = some (.cells cs.toArray t (0, 0))
structure Asn where
  own : List Nat
  see : List Nat
  P : World → Prop
  keep : ∀ w w', w.heap.size ≤ w'.heap.size → Same w w' own → Same w w' see → P w → P w'
  lt : ∀ w, P w → ∀ b, b ∈ own ∨ b ∈ see → b < w.heap.size
  sh : Shp := .n
  shp : ∀ w, P w → sh.holds w := by exact fun _ _ => trivial

def Apart (A B : Asn) : Prop := (∀ b ∈ A.own, b ∉ B.own ∧ b ∉ B.see) ∧ (∀ b ∈ B.own, b ∉ A.see)
theorem Apart.symm {A B : Asn} (h : Apart A B) : Apart B A :=
  ⟨fun b hb => ⟨fun h' => (h.1 b h').1 hb, fun h' => h.2 b hb h'⟩, fun b hb h' => (h.1 b hb).2 h'⟩

structure St (w0 w : World) (G : List Asn) : Prop where
  below : Below w0.heap.size w0 w
  holds : ∀ A ∈ G, A.P w
  new : ∀ A ∈ G, ∀ b ∈ A.own, w0.heap.size ≤ b
  uniq : ∀ A ∈ G, A.own.Nodup ∧ ∀ b ∈ A.own, b ∉ A.see
  sep : G.Pairwise Apart

theorem St.lt {w0 w : World} {G : List Asn} (h : St w0 w G) {A : Asn} (hA : A ∈ G) {b : Nat} (hb : b ∈ A.own ∨ b ∈ A.see) : b < w.heap.size := A.lt w (h.holds A hA) b hb
theorem St.nil {w0 w : World} (h : Below w0.heap.size w0 w) : St w0 w [] := ⟨h, by simp, by simp, by simp, .nil⟩
theorem St.at {w0 w : World} {G : List Asn} {A : Asn} (h : St w0 w G) (k : Nat) (hk : G[k]? = some A) : A.P w := h.holds A (List.mem_of_getElem? hk)
theorem St.cons {w0 w : World} {G : List Asn} {A : Asn} (h : St w0 w G) (hP : A.P w) (hn : ∀ b ∈ A.own, w0.heap.size ≤ b) (hu : A.own.Nodup ∧ ∀ b ∈ A.own, b ∉ A.see) (hs : ∀ B ∈ G, Apart A B) : St w0 w (A :: G) :=
  ⟨h.below, by simpa using ⟨hP, h.holds⟩, by simpa using ⟨hn, h.new⟩, by simpa using ⟨hu, h.uniq⟩, List.pairwise_cons.2 ⟨hs, h.sep⟩⟩
theorem St.tail {w0 w : World} {G : List Asn} {A : Asn} (h : St w0 w (A :: G)) : St w0 w G :=
  ⟨h.below, fun B hB => h.holds B (List.mem_cons_of_mem _ hB), fun B hB => h.new B (List.mem_cons_of_mem _ hB), fun B hB => h.uniq B (List.mem_cons_of_mem _ hB), (List.pairwise_cons.1 h.sep).2⟩
theorem St.step {w0 w w' : World} {G : List Asn} (h : St w0 w G) (hb : Below w.heap.size w w') : St w0 w' G := by
  have hs : w0.heap.size ≤ w.heap.size := h.below.size
  refine ⟨h.below.trans (hb.mono hs), fun A hA => ?_, h.new, h.uniq, h.sep⟩
  exact A.keep w w' hb.size (fun b hb' => hb.block b (h.lt hA (.inl hb'))) (fun b hb' => hb.block b (h.lt hA (.inr hb'))) (h.holds A hA)
theorem St.perm {w0 w : World} {G G' : List Asn} (h : St w0 w G) (hp : G.Perm G') : St w0 w G' :=
  ⟨h.below, fun A hA => h.holds A (hp.mem_iff.2 hA), fun A hA => h.new A (hp.mem_iff.2 hA), fun A hA => h.uniq A (hp.mem_iff.2 hA), hp.pairwise h.sep (fun h => h.symm)⟩
theorem St.sub {w0 w : World} {G G' : List Asn} (h : St w0 w G) (hp : G'.Sublist G) : St w0 w G' :=
  ⟨h.below, fun A hA => h.holds A (hp.subset hA), fun A hA => h.new A (hp.subset hA), fun A hA => h.uniq A (hp.subset hA), h.sep.sublist hp⟩

def front (k : Nat) (G : List Asn) : List Asn := match G[k]? with
  | some A => A :: G.eraseIdx k
  | none => G
theorem perm_erase : ∀ (G : List Asn) (k : Nat) (hk : k < G.length), G.Perm (G[k] :: G.eraseIdx k)
  | A :: G, 0, _ => .refl _
  | A :: G, k + 1, hk => by
    simp only [List.getElem_cons_succ, List.eraseIdx_cons_succ]
    exact ((perm_erase G k (by simpa using hk)).cons A).trans (.swap _ _ _)
theorem front_perm (k : Nat) (G : List Asn) : G.Perm (front k G) := by
  unfold front
  split
  · rename_i A hA
    obtain ⟨hk, rfl⟩ := List.getElem?_eq_some_iff.1 hA
    exact perm_erase G k hk
  · exact .refl _
def tk : Nat → List Asn → (List Asn → List Asn) → (Asn → List Asn → List Asn) → List Asn
  | _, [], _, _ => []
  | 0, A :: G, acc, f => f A (acc G)
  | k + 1, A :: G, acc, f => tk k G (fun R => acc (A :: R)) f
def pickAll : List Nat → List Asn → List Asn
  | [], _ => []
  | k :: ks, G => tk k G (fun R => R) (fun A R => A :: pickAll ks R)
theorem tk_eq (f : Asn → List Asn → List Asn) : ∀ (G : List Asn) (k : Nat) (acc : List Asn → List Asn), tk k G acc f = match G[k]? with
    | some A => f A (acc (G.eraseIdx k))
    | none => []
  | [], k, acc => by cases k <;> rfl
  | A :: G, 0, acc => rfl
  | A :: G, k + 1, acc => by
    show tk k G (fun R => acc (A :: R)) f = _
    rw [tk_eq f G k]
    simp only [List.getElem?_cons_succ, List.eraseIdx_cons_succ]
theorem pickAll_cons (k : Nat) (ks : List Nat) (G : List Asn) : pickAll (k :: ks) G = match G[k]? with
    | some A => A :: pickAll ks (G.eraseIdx k)
    | none => [] := tk_eq _ G k _
theorem St.pick {w0 w : World} : ∀ (ks : List Nat) {G : List Asn}, St w0 w G → St w0 w (pickAll ks G)
  | [], _, h => .nil h.below
  | k :: ks, G, h => by
    rw [pickAll_cons]
    split
    · rename_i A hA
      have h1 : St w0 w (A :: G.eraseIdx k) := by have := h.perm (front_perm k G); simpa [front, hA] using this
      have h2 := St.pick ks h1.tail
      refine St.cons h2 (h1.holds A (by simp)) (h1.new A (by simp)) (h1.uniq A (by simp)) (fun B hB => ?_)
      have hsub : ∀ (ks : List Nat) (G : List Asn), ∀ B ∈ pickAll ks G, B ∈ G := by
        intro ks
        induction ks with
        | nil => intro G B hB; simp [pickAll] at hB
        | cons k ks ih =>
          intro G B hB
          rw [pickAll_cons] at hB
          split at hB
          · rename_i A' hA'
            rcases List.mem_cons.1 hB with rfl | hB
            · exact List.mem_of_getElem? hA'
            · exact List.mem_of_mem_eraseIdx (ih _ _ hB)
          · cases hB
      exact (List.pairwise_cons.1 h1.sep).1 B (hsub ks _ B hB)
    · exact .nil h.below

structure Kd (α : Type) where
  sz : Nat
  Rel : World → List Value → α → List Nat → List Nat → Prop
  len : ∀ {w cs x o s}, Rel w cs x o s → cs.length = sz
  one : ∀ {w cs x o s}, Rel w cs x o s → ∀ c ∈ cs, c.oneCell' = true
  keep : ∀ {w w' cs x o s}, Same w w' o → Same w w' s → Rel w cs x o s → Rel w' cs x o s
  lt : ∀ {w cs x o s}, Rel w cs x o s → ∀ b, b ∈ o ∨ b ∈ s → b < w.heap.size

namespace Kd
def scal {α : Type} (enc : α → Value) (h1 : ∀ x, (enc x).oneCell' = true) : Kd α where
  sz := 1
  Rel _ cs x o s := cs = [enc x] ∧ o = [] ∧ s = []
  len := by rintro w cs x o s ⟨rfl, -, -⟩; rfl
  one := by rintro w cs x o s ⟨rfl, -, -⟩ c hc; simp at hc; subst hc; exact h1 x
  keep := by rintro w w' cs x o s - - h; exact h
  lt := by rintro w cs x o s ⟨-, rfl, rfl⟩ b hb; simp at hb
def int (k : IntKind) : Kd Int := scal (.int k) (fun _ => rfl)
def i64 : Kd Int := int .i64
def bool : Kd Bool := scal .bool (fun _ => rfl)
inductive Elems {α : Type} (d : Kd α) (w : World) : List Value → List α → List Nat → List Nat → Prop where
  | nil : Elems d w [] [] [] []
  | cons {c cs x xs o o' s s'} : d.Rel w c x o s → Elems d w cs xs o' s' → Elems d w (c ++ cs) (x :: xs) (o ++ o') (s ++ s')

theorem Elems.len {α : Type} {d : Kd α} {w : World} {cs xs o s} (h : Elems d w cs xs o s) : cs.length = xs.length * d.sz := by
  induction h with
  | nil => simp
  | cons h _ ih => rw [List.length_append, ih, d.len h, List.length_cons, Nat.add_mul]; omega
theorem Elems.one {α : Type} {d : Kd α} {w : World} {cs xs o s} (h : Elems d w cs xs o s) : ∀ c ∈ cs, c.oneCell' = true := by
  induction h with
  | nil => simp
  | cons h _ ih => intro c hc; exact (List.mem_append.1 hc).elim (d.one h c) (ih c)
theorem Elems.keep {α : Type} {d : Kd α} {w w' : World} {cs xs o s} (h : Elems d w cs xs o s) : Same w w' o → Same w w' s → Elems d w' cs xs o s := by
  induction h with
  | nil => intro _ _; exact .nil
  | cons h _ ih => intro ho hs; exact .cons (d.keep ho.app.1 hs.app.1 h) (ih ho.app.2 hs.app.2)
theorem Elems.lt {α : Type} {d : Kd α} {w : World} {cs xs o s} (h : Elems d w cs xs o s) : ∀ b, b ∈ o ∨ b ∈ s → b < w.heap.size := by
  induction h with
  | nil => intro b hb; simp at hb
  | cons h _ ih =>
    intro b hb
    simp only [List.mem_append] at hb
    rcases hb with (hb | hb) | (hb | hb)
    · exact d.lt h b (.inl hb)
    · exact ih b (.inl hb)
    · exact d.lt h b (.inr hb)
    · exact ih b (.inr hb)

def sl {α : Type} (d : Kd α) : Kd (List α) where
  sz := 1
  Rel w cs xs o s := o = [] ∧ ∃ A c, cs = [.slice A xs.length c] ∧ xs.length ≤ c ∧ xs.length ≤ 281474976710656 ∧
    ((xs = [] ∧ s = []) ∨ ∃ b off el s', A = some ⟨b, off, none⟩ ∧ s = b :: s' ∧ b < w.heap.size ∧ Elems d w el xs [] s' ∧ ∀ (j : Nat) (v : Value), el[j]? = some v → w.cell? ⟨b, off + j, none⟩ = some v)
  len := by rintro w cs x o s ⟨-, A, c, rfl, -⟩; rfl
  one := by rintro w cs x o s ⟨-, A, c, rfl, -⟩ v hv; simp at hv; subst hv; rfl
  keep := by
    rintro w w' cs x o s - hs ⟨rfl, A, c, rfl, hc, hm, h⟩
    refine ⟨rfl, A, c, rfl, hc, hm, ?_⟩
    rcases h with h | ⟨b, off, el, s', rfl, rfl, hb, he, hcell⟩
    · exact .inl h
    · exact .inr ⟨b, off, el, s', rfl, rfl, lt_same hs.cons.1 hb, he.keep (fun _ h => by cases h) hs.cons.2, fun j v hj => (World.cell?_of_block (w := w) (a := ⟨b, off + j, none⟩) hs.cons.1).trans (hcell j v hj)⟩
  lt := by
    rintro w cs x o s ⟨rfl, A, c, rfl, hc, hm, h⟩ b hb
    rcases h with ⟨rfl, rfl⟩ | ⟨b', off, el, s', rfl, rfl, hb', he, hcell⟩
    · simp at hb
    · rcases hb with hb | hb
      · cases hb
      · rcases List.mem_cons.1 hb with rfl | hb
        · exact hb'
        · exact he.lt b (.inr hb)

theorem sl_len {α : Type} {d : Kd α} {w cs xs o s} (h : (sl d).Rel w cs xs o s) : xs.length ≤ 281474976710656 := by
  obtain ⟨-, A, c, -, -, hm, -⟩ := h
  exact hm
def row {α : Type} (e : TypeId) (d : Kd α) : Kd (List α) where
  sz := 1
  Rel w cs xs o s := (xs = [] ∧ o = [] ∧ s = [] ∧ cs = [.slice none 0 0]) ∨
    ∃ b c cur o', cs = [.slice (some ⟨b, 0, none⟩) xs.length c] ∧ o = b :: o' ∧ w.heap[b]? = some (.cells cur e (0, 0)) ∧ xs.length ≤ c ∧ (c ≤ maxLen ∧ xs.length ≤ 281474976710656) ∧ cur.size = c * d.sz ∧
      Elems d w (cur.toList.take (xs.length * d.sz)) xs o' s
  len := by
    rintro w cs x o s (⟨rfl, rfl, rfl, rfl⟩ | ⟨b, c, cur, o', rfl, -⟩) <;> rfl
  one := by
    rintro w cs x o s (⟨rfl, rfl, rfl, rfl⟩ | ⟨b, c, cur, o', rfl, -⟩) v hv <;> (simp at hv; subst hv; rfl)
  keep := by
    rintro w w' cs x o s ho hs (h | ⟨b, c, cur, o', rfl, rfl, hb, hc, hm, hz, he⟩)
    · exact .inl h
    · exact .inr ⟨b, c, cur, o', rfl, rfl, ho.cons.1.trans hb, hc, hm, hz, he.keep ho.cons.2 hs⟩
  lt := by
    rintro w cs x o s (⟨rfl, rfl, rfl, rfl⟩ | ⟨b, c, cur, o', rfl, rfl, hb, hc, hm, hz, he⟩) b' hb'
    · simp at hb'
    · rcases hb' with hb' | hb'
      · rcases List.mem_cons.1 hb' with rfl | hb'
        · exact (Array.getElem?_eq_some_iff.1 hb).1
        · exact he.lt b' (.inl hb')
      · exact he.lt b' (.inr hb')

def via {α β : Type} (d : Kd β) (g : α → β) : Kd α where
  sz := d.sz
  Rel w cs x o s := d.Rel w cs (g x) o s
  len := d.len
  one := d.one
  keep := d.keep
  lt := d.lt

def cat {α : Type} (a b : Kd α) : Kd α where
  sz := a.sz + b.sz
  Rel w cs x o s := ∃ c1 c2 o1 o2 s1 s2, cs = c1 ++ c2 ∧ o = o1 ++ o2 ∧ s = s1 ++ s2 ∧ a.Rel w c1 x o1 s1 ∧ b.Rel w c2 x o2 s2
  len := by rintro w cs x o s ⟨c1, c2, o1, o2, s1, s2, rfl, rfl, rfl, h1, h2⟩; rw [List.length_append, a.len h1, b.len h2]
  one := by
    rintro w cs x o s ⟨c1, c2, o1, o2, s1, s2, rfl, rfl, rfl, h1, h2⟩ c hc
    exact (List.mem_append.1 hc).elim (a.one h1 c) (b.one h2 c)
  keep := by
    rintro w w' cs x o s ho hs ⟨c1, c2, o1, o2, s1, s2, rfl, rfl, rfl, h1, h2⟩
    exact ⟨c1, c2, o1, o2, s1, s2, rfl, rfl, rfl, a.keep ho.app.1 hs.app.1 h1, b.keep ho.app.2 hs.app.2 h2⟩
  lt := by
    rintro w cs x o s ⟨c1, c2, o1, o2, s1, s2, rfl, rfl, rfl, h1, h2⟩ b' hb
    simp only [List.mem_append] at hb
    rcases hb with (hb | hb) | (hb | hb)
    · exact a.lt h1 b' (.inl hb)
    · exact b.lt h2 b' (.inl hb)
    · exact a.lt h1 b' (.inr hb)
    · exact b.lt h2 b' (.inr hb)

def Sub {α β : Type} (d : Kd α) (off : Nat) (d' : Kd β) (g : α → β) : Prop :=
  ∀ w cs x s, d.Rel w cs x [] s → ∃ s', (∀ b ∈ s', b ∈ s) ∧ d'.Rel w ((cs.drop off).take d'.sz) (g x) [] s'
theorem sub_len {α β : Type} {d : Kd α} {off : Nat} {d' : Kd β} {g : α → List β} (hs : Sub d off (sl d') g) {w cs x s} (h : d.Rel w cs x [] s) : (g x).length ≤ 281474976710656 := by
  obtain ⟨s', -, hr⟩ := hs w cs x s h
  exact sl_len hr
theorem Sub.rfl {α : Type} {d : Kd α} : Sub d 0 d (fun x => x) := fun w cs x s h => ⟨s, fun _ h => h, by
  have := d.len h
  rw [List.drop_zero, ← this, List.take_length]; exact h⟩
theorem Sub.via {α β γ : Type} {d : Kd β} {off : Nat} {d' : Kd γ} {g : β → γ} (h : Sub d off d' g) (k : α → β) : Sub (d.via k) off d' (fun x => g (k x)) := fun w cs x s hr => h w cs (k x) s hr
theorem Sub.left {α β : Type} {a : Kd α} {off : Nat} {d' : Kd β} {g : α → β} (h : Sub a off d' g) (b : Kd α) (hsz : off + d'.sz ≤ a.sz) : Sub (a.cat b) off d' g := by
  rintro w cs x s ⟨c1, c2, o1, o2, s1, s2, rfl, ho, rfl, h1, h2⟩
  obtain ⟨rfl, rfl⟩ := List.append_eq_nil_iff.1 ho.symm
  obtain ⟨s', hs, hr⟩ := h w c1 x s1 h1
  refine ⟨s', fun b hb => List.mem_append_left _ (hs b hb), ?_⟩
  have hl := a.len h1
  rw [List.drop_append_of_le_length (by omega), List.take_append_of_le_length (by simp; omega)]
  exact hr
theorem Sub.right {α β : Type} {b : Kd α} {off : Nat} {d' : Kd β} {g : α → β} (h : Sub b off d' g) (a : Kd α) : Sub (a.cat b) (a.sz + off) d' g := by
  rintro w cs x s ⟨c1, c2, o1, o2, s1, s2, rfl, ho, rfl, h1, h2⟩
  obtain ⟨rfl, rfl⟩ := List.append_eq_nil_iff.1 ho.symm
  obtain ⟨s', hs, hr⟩ := h w c2 x s2 h2
  refine ⟨s', fun b hb => List.mem_append_right _ (hs b hb), ?_⟩
  have hl := a.len h1
  rw [← hl, List.drop_length_add_append]
  exact hr
end Kd

def blk (b : Nat) (cs : List Value) (t : TypeId) : Asn where
  own := [b]
  see := []
  P w := w.heap[b]? = some (.cells cs.toArray t (0, 0))
  keep w w' _ h _ hp := (h b (by simp)).trans hp
  lt w hp b' hb := by
    simp at hb
    subst hb
    exact (Array.getElem?_eq_some_iff.1 hp).1
  sh := .b b cs
  shp _ h := ⟨t, h⟩
def dat {α : Type} (d : Kd α) (cs : List Value) (x : α) (o s : List Nat) : Asn where
  own := o
  see := s
  P w := d.Rel w cs x o s
  keep _ _ _ ho hs h := d.keep ho hs h
  lt _ h := d.lt h
def ptr {α : Type} (d : Kd α) (p : Addr) (cs : List Value) (x : α) (s : List Nat) : Asn where
  own := []
  see := p.block :: s
  P w := p.spot = none ∧ p.block < w.heap.size ∧ (∀ (j : Nat) (v : Value), cs[j]? = some v → w.cell? ⟨p.block, p.off + j, none⟩ = some v) ∧ d.Rel w cs x [] s
  keep w w' _ _ hs h := by
    obtain ⟨h1, h2, hc, hr⟩ := h
    exact ⟨h1, lt_same hs.cons.1 h2, fun j v hj => (World.cell?_of_block (w := w) (a := ⟨p.block, p.off + j, none⟩) hs.cons.1).trans (hc j v hj), d.keep (fun _ h => by cases h) hs.cons.2 hr⟩
  lt w h b hb := by
    obtain ⟨h1, h2, hc, hr⟩ := h
    rcases hb with hb | hb
    · cases hb
    · rcases List.mem_cons.1 hb with rfl | hb
      · exact h2
      · exact d.lt hr b (.inr hb)
  sh := .p p cs
  shp _ h := ⟨h.1, h.2.2.1⟩
end
section

structure Tab where
  size : List (Nat × (Nat × Bool))
  off : List ((Nat × Nat) × Nat)
  elem : List (Nat × Nat)
def look {α : Type} : List (Nat × α) → Nat → Option α
  | [], _ => none
  | (j, v) :: l, i => bif Nat.beq j i then some v else look l i
def look2 {α : Type} : List ((Nat × Nat) × α) → Nat → Nat → Option α
  | [], _, _ => none
  | ((j, k), v) :: l, i, m => bif Nat.beq j i && Nat.beq k m then some v else look2 l i m
def aggB : TypeDesc → Bool
  | .struct _ | .array _ _ => true
  | _ => false
def Tab.check (P : Program) (T : Tab) : Bool :=
  (T.size.all fun (t, n, b) => match P.underlying t, P.info? t with
    | some d, some i => aggB d == b && i.size == n
    | _, _ => false) &&
  (T.off.all fun ((s, i), o) => match P.underlying s with
    | some (.struct fs) => match fs[i]? with
      | some f => f.offset == o && (match P.info? f.type with | some j => j.size != 0 | none => false)
      | none => false
    | _ => false) &&
  (T.elem.all fun (t, e) => match P.underlying t with
    | some (.slice e') => e' == e
    | _ => false)
theorem mem_look {α : Type} {l : List (Nat × α)} {i : Nat} {v : α} (h : look l i = some v) : (i, v) ∈ l := by
  induction l with
  | nil => simp [look] at h
  | cons p l ih =>
    obtain ⟨j, u⟩ := p
    simp only [look] at h
    cases hb : Nat.beq j i with
    | true => rw [hb] at h; simp at h; obtain rfl := Nat.eq_of_beq_eq_true hb; subst h; simp
    | false => rw [hb] at h; simp at h; exact List.mem_cons_of_mem _ (ih h)
theorem mem_look2 {α : Type} {l : List ((Nat × Nat) × α)} {i m : Nat} {v : α} (h : look2 l i m = some v) : ((i, m), v) ∈ l := by
  induction l with
  | nil => simp [look2] at h
  | cons p l ih =>
    obtain ⟨⟨j, k⟩, u⟩ := p
    simp only [look2] at h
    cases hb : Nat.beq j i && Nat.beq k m with
    | true =>
      rw [hb] at h
      simp at h
      simp only [Bool.and_eq_true] at hb
      obtain rfl := Nat.eq_of_beq_eq_true hb.1
      obtain rfl := Nat.eq_of_beq_eq_true hb.2
      subst h; simp
    | false => rw [hb] at h; simp at h; exact List.mem_cons_of_mem _ (ih h)
section
variable {P : Program} {T : Tab}
theorem Tab.sizeOk (h : T.check P = true) {t n : Nat} {b : Bool} (hl : look T.size t = some (n, b)) : ∃ d i, P.underlying t = some d ∧ aggB d = b ∧ P.info? t = some i ∧ i.size = n := by
  simp only [Tab.check, Bool.and_eq_true, List.all_eq_true] at h
  have := h.1.1 _ (mem_look hl)
  simp only at this
  split at this
  · rename_i d i hd hi
    simp at this
    exact ⟨d, i, hd, this.1, hi, this.2⟩
  · cases this
theorem Tab.offOk (h : T.check P = true) {s i o : Nat} (hl : look2 T.off s i = some o) : ∃ fs f j, P.underlying s = some (.struct fs) ∧ fs[i]? = some f ∧ f.offset = o ∧ P.info? f.type = some j ∧ j.size ≠ 0 := by
  simp only [Tab.check, Bool.and_eq_true, List.all_eq_true] at h
  have := h.1.2 _ (mem_look2 hl)
  simp only at this
  split at this
  · rename_i fs hd
    split at this
    · rename_i f hf
      split at this
      · rename_i j hj
        simp at this
        exact ⟨fs, f, j, hd, hf, this.1, hj, this.2⟩
      · simp at this
    · cases this
  · cases this
theorem Tab.elemOk (h : T.check P = true) {t e : Nat} (hl : look T.elem t = some e) : P.underlying t = some (.slice e) := by
  simp only [Tab.check, Bool.and_eq_true, List.all_eq_true] at h
  have := h.2 _ (mem_look hl)
  simp only at this
  split at this
  · rename_i e' hd
    simp at this
    rw [hd, this]
  · cases this
end

structure Cx where
  P : Program
  T : Tab
  ok : T.check P = true
  wide : P.follows .mixedOrders = true
  N : Nat
  w0 : World
  rd : Option (Option Nat) := none
  df : List Deferred := []
structure NN where
  n : Nat
  df : List Deferred
abbrev Cx.K (X : Cx) : NN := ⟨X.N, X.df⟩
def Knows (N : NN) (l : List (Nat × Value)) (a : Act) : Prop := a.defers = N.df ∧ a.tmps.size = N.n ∧ ∀ i v, look l i = some v → a.tmps[i]? = some v
def ev (l : List (Nat × Value)) : Operand → Option Value
  | .tmp t => look l t
  | .const v => some v
  | .global g => some (.pointer (some ⟨g, 0, none⟩))
  | .func f => some (.func (.func f) #[] #[])
def evs (l : List (Nat × Value)) : List Operand → Option (List Value)
  | [] => some []
  | x :: xs => match ev l x with
    | some v => match evs l xs with
      | some vs => some (v :: vs)
      | none => none
    | none => none
theorem Knows.ev {N : NN} {l : List (Nat × Value)} {a : Act} (h : Knows N l a) {x : Operand} {v : Value} (hx : Sx.ev l x = some v) : a.eval x = v := by
  cases x with
  | tmp t => have := h.2.2 t v hx; simp [Act.eval, Array.getD_eq_getD_getElem?, this]
  | const u => simp [Sx.ev] at hx; exact hx
  | global g => simp [Sx.ev] at hx; exact hx
  | func f => simp [Sx.ev] at hx; exact hx
theorem Knows.evs {N : NN} {l : List (Nat × Value)} {a : Act} (h : Knows N l a) : ∀ {xs : List Operand} {vs : List Value}, Sx.evs l xs = some vs → xs.map a.eval = vs
  | [], vs, hx => by simp [Sx.evs] at hx; simp [← hx]
  | x :: xs, vs, hx => by
    simp only [Sx.evs] at hx
    cases h1 : Sx.ev l x with
    | none => simp [h1] at hx
    | some v =>
      cases h2 : Sx.evs l xs with
      | none => simp [h1, h2] at hx
      | some vs' =>
        simp [h1, h2] at hx
        subst hx
        simp [h.ev h1, h.evs h2]
theorem Knows.put {N : NN} {l : List (Nat × Value)} {a : Act} (h : Knows N l a) {d : Nat} (v : Value) (hd : d < N.n) : Knows N ((d, v) :: l) (a.put (some d) v) := by
  obtain ⟨h1, h2, h3⟩ := h
  refine ⟨h1, by simp [Act.put, h2], fun i u hi => ?_⟩
  simp only [look] at hi
  simp only [Act.put]
  cases hb : Nat.beq d i with
  | true =>
    obtain rfl := Nat.eq_of_beq_eq_true hb
    rw [hb] at hi
    simp at hi
    subst hi
    simp [h2, hd]
  | false =>
    rw [hb] at hi
    simp at hi
    have hne : d ≠ i := fun e => by subst e; simp at hb
    rw [Array.getElem?_setIfInBounds_ne hne]
    exact h3 i u hi
def lessB (l : List (Nat × Value)) : List (Nat × Value) → Prop
  | [] => True
  | (i, v) :: l' => look l i = some v ∧ lessB l l'
theorem Knows.less {N : NN} {l : List (Nat × Value)} {a : Act} (h : Knows N l a) : ∀ {l' : List (Nat × Value)}, lessB l l' → Knows N l' a
  | [], _ => ⟨h.1, h.2.1, fun i v hi => by simp [look] at hi⟩
  | (i, u) :: l', hl => by
    have ih := h.less hl.2
    refine ⟨h.1, h.2.1, fun j v hj => ?_⟩
    simp only [look] at hj
    cases hb : Nat.beq i j with
    | true =>
      obtain rfl := Nat.eq_of_beq_eq_true hb
      rw [hb] at hj
      simp at hj
      subst hj
      exact h.2.2 _ _ hl.1
    | false => rw [hb] at hj; simp at hj; exact ih.2.2 _ _ hj

theorem nd_of_value {P : Program} {ρ : Operand → Value} {o : Oper} {v : Value} {w w' : World} (h : (execOp ρ o).run P w = .ok (.value v) w') : ∀ c, o.op ≠ .defer c := fun c hc => by
  unfold execOp at h
  simp only [hc] at h
  rw [Sem.run_bind] at h
  cases hr : (resolve ρ c o.type).run P w with
  | ok d w1 => rw [hr] at h; simp at h
  | halt x w1 => rw [hr] at h; simp at h
theorem rowsIn_wide {n : Nat} {P : Program} {row : String} {args : Array Value} {w : World} {R : Value → World → Prop} (h : Rows P row args w R) : RowsIn Fence.wide n P row args w R := by
  intro c cs hr
  obtain ⟨v, w', r, s⟩ := h c cs
  exact ⟨v, w', r, stepsIn_wide.2 s⟩
def fof : Option Nat → Fence
  | none => Fence.wide
  | some l => Fence.wide.inRound l
theorem fof_fn (l : Option Nat) (f : FuncId) : (fof l).fn f := by cases l <;> exact trivial
theorem fof_calls {r : Option Nat} {n : Nat} {P : Program} {f : FuncId} {args : Array Value} {w : World} {R : Ending → World → Prop} (h : Calls P f args w R) : CallsIn (fof r) n P f args w R := by
  cases r with
  | none => exact callsIn_wide.2 h
  | some l => exact (callsIn_wide.2 h).inRound l
theorem wpIn_of_wp {P : Program} {o : Oper} {a : Act} {w : World} {K : Act → World → Prop} {Q : Exit → Act → World → Prop} (l : Option Nat) (n : Nat) (hd : ∀ c, o.op ≠ .defer c) (h : o.wp P a w K Q) : o.wpIn (fof l) n P a w K Q := by
  have hs : o.semAt (fof l).round a.eval = execOp a.eval o := by
    cases l with
    | none => rfl
    | some l => exact Oper.semAt_some l a.eval o hd
  have hdp : (fof l).depth.isSome = true → 1 ≤ n := by cases l <;> (intro h; cases h)
  have hfn : ∀ f, (fof l).fn f := by cases l <;> exact fun _ => trivial
  refine ⟨fun f _ => hfn f, ?_⟩
  rw [hs]
  unfold Oper.wp at h
  generalize (execOp a.eval o).run P w = r at *
  cases r with
  | ok nx w' =>
    cases nx <;> simp only [Oper.upon] at h
    case value => exact h
    case skip => exact h
    case defer => exact h
    case enter f args => exact ⟨hdp, fof_calls h⟩
    case row row args => exact ⟨hdp, by cases l <;> exact rowsIn_wide h⟩
  | halt x w' =>
    cases x <;> simp only [Oper.upon] at h
    case panic => exact h
theorem opwp_mono {P : Program} {o : Oper} {a : Act} {w : World} {K K' : Act → World → Prop} {Q : Exit → Act → World → Prop} (h : o.wp P a w K Q) (hk : ∀ a w, K a w → K' a w) : o.wp P a w K' Q := by
  unfold Oper.wp at *
  generalize (execOp a.eval o).run P w = r at *
  cases r with
  | ok nx w' =>
    cases nx <;> simp only [Oper.upon] at h ⊢
    case value => exact hk _ _ h
    case skip => exact hk _ _ h
    case defer => exact hk _ _ h
    case enter f args => exact h.mono (fun e w'' he => by cases e <;> first | exact hk _ _ he | exact he)
    case row row args => exact h.mono (fun v w'' he => hk _ _ he)
  | halt x w' => cases x <;> simp only [Oper.upon] at h ⊢; exact h
def Cx.wp (X : Cx) (c : Code) (Q : Exit → Act → World → Prop) (a : Act) (w : World) : Prop := match X.rd with
  | none => c.wp X.P Q a w
  | some l => ∀ n, c.wpIn (fof l) n X.P Q a w
def Cx.wl (X : Cx) (ops : Array Oper) (Q : Exit → Act → World → Prop) (r : List Oper) (a : Act) (w : World) : Prop := match X.rd with
  | none => wpList X.P ops Q r a w
  | some l => ∀ n, wpListIn (fof l) n X.P ops Q r a w
section
variable {X : Cx} {c x y : Code} {Q : Exit → Act → World → Prop} {a : Act} {w : World} {ops : Array Oper} {o : Oper} {r : List Oper}
theorem Cx.wp_none (h : X.rd = none) : X.wp c Q a w = c.wp X.P Q a w := by unfold Cx.wp; rw [h]
theorem Cx.wl_none (h : X.rd = none) : X.wl ops Q r a w = wpList X.P ops Q r a w := by unfold Cx.wl; rw [h]
theorem cwp_seq (h : X.wp x (Exit.then (X.wp y Q) Q) a w) : X.wp (.seq x y) Q a w := by
  obtain ⟨P, T, ok, wide, N, w0, rd, df⟩ := X
  cases rd with
  | none => exact wp_seq h
  | some l => exact fun n => wpIn_seq (wpIn_mono (h n) (fun e a w q => by cases e <;> first | exact q n | exact q))
theorem cwp_skip (h : Q .normal a w) : X.wp .skip Q a w := by
  obtain ⟨P, T, ok, wide, N, w0, rd, df⟩ := X
  cases rd with
  | none => exact wp_skip h
  | some l => exact fun n => wpIn_skip h
theorem cwp_block {id : Nat} (h : X.wp c (Exit.inBlock id Q) a w) : X.wp (.block id c) Q a w := by
  obtain ⟨P, T, ok, wide, N, w0, rd, df⟩ := X
  cases rd with
  | none => exact wp_block h
  | some l => exact fun n => wpIn_block (h n)
theorem cwp_exit {id : Nat} (h : Q (.exit id) a w) : X.wp (.exit id) Q a w := by
  obtain ⟨P, T, ok, wide, N, w0, rd, df⟩ := X
  cases rd with
  | none => exact wp_exit h
  | some l => exact fun n => wpIn_exit h
theorem cwp_ret (h : Q .ret a w) : X.wp .ret Q a w := by
  obtain ⟨P, T, ok, wide, N, w0, rd, df⟩ := X
  cases rd with
  | none => exact wp_ret h
  | some l => exact fun n => wpIn_ret h
theorem cwp_cond_true {c : Operand} (hc : a.eval c = .bool true) (h : X.wp x Q a w) : X.wp (.cond c x y) Q a w := by
  obtain ⟨P, T, ok, wide, N, w0, rd, df⟩ := X
  cases rd with
  | none => exact wp_cond_true hc h
  | some l => exact fun n => wpIn_cond_true hc (h n)
theorem cwp_cond_false {c : Operand} (hc : a.eval c = .bool false) (h : X.wp y Q a w) : X.wp (.cond c x y) Q a w := by
  obtain ⟨P, T, ok, wide, N, w0, rd, df⟩ := X
  cases rd with
  | none => exact wp_cond_false hc h
  | some l => exact fun n => wpIn_cond_false hc (h n)
theorem cwp_region_lit {id : Nat} {l : List Oper} (h : X.wl l.toArray Q l a w) : X.wp (.region id l.toArray false) Q a w := by
  obtain ⟨P, T, ok, wide, N, w0, rd, df⟩ := X
  cases rd with
  | none => exact wp_region_lit h
  | some l => exact fun n => wpIn_region_lit (h n)
theorem wl_nil (h : Q .normal a w) : X.wl ops Q [] a w := by
  obtain ⟨P, T, ok, wide, N, w0, rd, df⟩ := X
  cases rd with
  | none => exact h
  | some l => exact fun n => h
theorem wl_wanted (hw : Region.wanted o (yielded ops a.tmps) = true) (hd : ∀ c, o.op ≠ .defer c) (h : ∀ K : Act → World → Prop, (∀ a w, X.wl ops Q r a w → K a w) → o.wp X.P a w K Q) : X.wl ops Q (o :: r) a w := by
  obtain ⟨P, T, ok, wide, N, w0, rd, df⟩ := X
  cases rd with
  | none => exact wpList_step fun K hK => by rw [if_pos hw]; exact h K hK
  | some l =>
    intro n
    have h1 := h _ (fun _ _ h => h)
    show wpListIn _ _ _ _ _ _ _ _
    unfold wpListIn
    rw [if_pos hw]
    exact wpIn_of_wp l n hd (opwp_mono h1 (fun a w k => k n))
theorem wl_unwanted (hw : Region.wanted o (yielded ops a.tmps) = false) (h : X.wl ops Q r (a.put o.dst undef) w) : X.wl ops Q (o :: r) a w := by
  obtain ⟨P, T, ok, wide, N, w0, rd, df⟩ := X
  cases rd with
  | none => exact wpList_step fun K hK => by rw [hw, if_neg (by simp)]; exact hK _ _ h
  | some l =>
    intro n
    show wpListIn _ _ _ _ _ _ _ _
    unfold wpListIn
    rw [hw, if_neg (by simp)]
    exact ⟨fun f _ => fof_fn _ f, h n⟩
theorem wl_plain (hg : o.guard = none) (h : ∀ K : Act → World → Prop, (∀ a w, X.wl ops Q r a w → K a w) → o.wp X.P a w K Q)
    (hd : ∀ c, o.op ≠ .defer c := by first | (intro c h_; cases h_; done) | (intro c h_; simp_all; done)) : X.wl ops Q (o :: r) a w :=
  wl_wanted (by simp [Region.wanted, hg]) hd h
theorem wl_ungu (hw : Region.wanted o (yielded ops a.tmps) = true) (h : X.wl ops Q ({ o with guard := none } :: r) a w) : X.wl ops Q (o :: r) a w := by
  obtain ⟨P, T, ok, wide, N, w0, rd, df⟩ := X
  have hw' : Region.wanted { o with guard := none } (yielded ops a.tmps) = true := by simp [Region.wanted]
  cases rd with
  | none =>
    have h1 : wpList P ops Q ({ o with guard := none } :: r) a w := h
    show wpList P ops Q (o :: r) a w
    unfold wpList at h1 ⊢
    rw [if_pos hw'] at h1
    rw [if_pos hw]
    exact h1
  | some l =>
    intro n
    have h1 := h n
    show wpListIn _ _ _ _ _ _ _ _
    unfold wpListIn at h1 ⊢
    rw [if_pos hw'] at h1
    rw [if_pos hw]
    exact h1
end
variable {X : Cx}
def SK (X : Cx) (K : Act → World → Prop) (l : List (Nat × Value)) (G : List Asn) : Prop := ∀ a w, Knows X.K l a → St X.w0 w G → K a w
abbrev SX (X : Cx) (c : Code) (Q : Exit → Act → World → Prop) (l : List (Nat × Value)) (G : List Asn) : Prop := SK X (X.wp c Q) l G
abbrev SL (X : Cx) (ops : Array Oper) (Q : Exit → Act → World → Prop) (r : List Oper) (l : List (Nat × Value)) (G : List Asn) : Prop := SK X (X.wl ops Q r) l G
def Ev (X : Cx) (o : Oper) (l : List (Nat × Value)) (G : List Asn) (v : Value) : Prop := ∀ a w, Knows X.K l a → St X.w0 w G → (execOp a.eval o).run X.P w = .ok (.value v) w

section
variable {c x y : Code} {Q : Exit → Act → World → Prop} {l : List (Nat × Value)} {G : List Asn}
theorem sq (h : SX X x (Exit.then (X.wp y Q) Q) l G) : SX X (.seq x y) Q l G := fun a w hk hs => cwp_seq (h a w hk hs)
theorem sk (h : SK X (Q .normal) l G) : SX X .skip Q l G := fun a w hk hs => cwp_skip (h a w hk hs)
theorem nx (h : SX X y Q l G) : SK X (Exit.then (X.wp y Q) Q .normal) l G := h
theorem xn {id : Nat} (h : SK X (Q .normal) l G) : SK X (Exit.inBlock id Q .normal) l G := h
theorem xb {id : Nat} (h : SK X (Q .normal) l G) : SK X (Exit.inBlock id Q (.exit id)) l G := fun a w hk hs => by simpa [Exit.inBlock] using h a w hk hs
theorem xo {id id' : Nat} (hne : id' ≠ id) (h : SK X (Q (.exit id')) l G) : SK X (Exit.inBlock id Q (.exit id')) l G := fun a w hk hs => by simpa [Exit.inBlock, hne] using h a w hk hs
theorem not_t {b : Bool} (h : b = false) : (!b) = true := by simp [h]
theorem not_f {b : Bool} (h : b = true) : (!b) = false := by simp [h]
theorem bk {id : Nat} (h : SX X c (Exit.inBlock id Q) l G) : SX X (.block id c) Q l G := fun a w hk hs => cwp_block (h a w hk hs)
theorem xt {id : Nat} (h : SK X (Q (.exit id)) l G) : SX X (.exit id) Q l G := fun a w hk hs => cwp_exit (h a w hk hs)
theorem rt (h : SK X (Q .ret) l G) : SX X .ret Q l G := fun a w hk hs => cwp_ret (h a w hk hs)
theorem ct {c : Operand} {b : Bool} (hc : ev l c = some (.bool b)) (hb : b = true) (h : SX X x Q l G) : SX X (.cond c x y) Q l G := fun a w hk hs => cwp_cond_true (hk.ev (hb ▸ hc)) (h a w hk hs)
theorem cf {c : Operand} {b : Bool} (hc : ev l c = some (.bool b)) (hb : b = false) (h : SX X y Q l G) : SX X (.cond c x y) Q l G := fun a w hk hs => cwp_cond_false (hk.ev (hb ▸ hc)) (h a w hk hs)
theorem rg {id : Nat} {ops : List Oper} (h : SL X ops.toArray Q ops l G) : SX X (.region id ops.toArray false) Q l G := fun a w hk hs => cwp_region_lit (h a w hk hs)
theorem en {ops : Array Oper} (h : SK X (Q .normal) l G) : SL X ops Q [] l G := fun a w hk hs => wl_nil (h a w hk hs)
theorem less {l' : List (Nat × Value)} (ks : List Nat) {G' : List Asn} (hl : lessB l l') (hG : pickAll ks G = G') (h : SX X c Q l' G') : SX X c Q l G := fun a w hk hs => h a w (hk.less hl) (hG ▸ hs.pick ks)
theorem St.pk {w0 w : World} {G : List Asn} (h : St w0 w G) (ks : List Nat) {G' : List Asn} (hG : pickAll ks G = G') : St w0 w G' := hG ▸ h.pick ks

theorem lp {σ : Type} (l' : σ → List (Nat × Value)) (G' : σ → List Asn) (pre : σ → Prop) (μ : σ → Nat) (s0 : σ) (ks : List Nat)
    (h0 : pre s0) (hl : lessB l (l' s0)) (hG : pickAll ks G = G' s0)
    (h : ∀ s, pre s → SX X c (Exit.then (fun a w => ∃ s', pre s' ∧ μ s' < μ s ∧ Knows X.K (l' s') a ∧ St X.w0 w (G' s')) Q) (l' s) (G' s)) (hrd : X.rd = none := by rfl) : SX X (.loop c) Q l G := fun a w hk hs => by
  rw [Cx.wp_none hrd]
  refine wp_loop_ghost (fun n a w => ∃ s, pre s ∧ μ s = n ∧ Knows X.K (l' s) a ∧ St X.w0 w (G' s)) (μ s0) ⟨s0, h0, rfl, hk.less hl, hG ▸ hs.pick ks⟩ ?_
  rintro n a w ⟨s, hp, rfl, hk, hs⟩
  have h1 := h s hp a w hk hs
  rw [Cx.wp_none hrd] at h1
  refine wp_mono h1 ?_
  intro e a w hq
  cases e with
  | normal => obtain ⟨s', h1, h2, h3, h4⟩ := hq; exact ⟨_, h2, s', h1, rfl, h3, h4⟩
  | exit id => exact hq
  | goto l => exact hq
  | ret => exact hq
  | panic ch => exact hq
  | outgrown => exact hq
theorem lpe {σ : Type} {l' : σ → List (Nat × Value)} {G' : σ → List Asn} {pre : σ → Prop} {μ : σ → Nat} {s : σ} (s' : σ) (ks : List Nat)
    (h0 : pre s') (hm : μ s' < μ s) (hl : lessB l (l' s')) (hG : pickAll ks G = G' s') :
    SK X (Exit.then (fun a w => ∃ s', pre s' ∧ μ s' < μ s ∧ Knows X.K (l' s') a ∧ St X.w0 w (G' s')) Q .normal) l G :=
  fun a w hk hs => ⟨s', h0, hm, hk.less hl, hG ▸ hs.pick ks⟩

theorem fnc {f : FuncId} {fn : Func} {c : Code} {args : List Value} {w : World} {R : Ending → World → Prop} {l : List (Nat × Value)} {G : List Asn}
    (hf : X.P.funcs[f]? = some fn) (hb : fn.body = some c) (hN : fn.ntmps = X.N) (hle : Nat.ble args.length X.N = true)
    (hl : lessB (args.zipIdx.map fun p => (p.2, p.1)) l)
    (hG : St X.w0 w G) (h : SX X c (bodyPost X.P fn R) l G) (hrd : X.rd = none := by rfl) (hdf : X.df = [] := by rfl) : Calls X.P f args.toArray w R := by
  suffices hk : Knows X.K l { tmps := args.toArray ++ Array.replicate (fn.ntmps - args.toArray.size) undef, defers := [] } from
    calls_of_wp hf hb (by rw [← Cx.wp_none hrd]; exact h _ _ hk hG)
  refine Knows.less (l := args.zipIdx.map fun p => (p.2, p.1)) ⟨hdf.symm, ?_, fun i v hi => ?_⟩ hl
  · have := Nat.le_of_ble_eq_true hle; simp [hN]; omega
  · have hm := mem_look hi
    obtain ⟨p, hp, he⟩ := List.mem_map.1 hm
    obtain ⟨rfl, rfl⟩ := Prod.mk.injEq .. ▸ he
    have h1 := List.mk_mem_zipIdx_iff_getElem?.1 (show (p.1, p.2) ∈ args.zipIdx from hp)
    have hlt := (List.getElem?_eq_some_iff.1 h1).1
    simp only [List.size_toArray]
    rw [Array.getElem?_append_left (by simpa using hlt)]
    simpa using h1
theorem ret1 {fn : Func} {t : Nat} {v : Value} {R : Ending → World → Prop} (hr : fn.results = #[.tmp t]) (hv : look l t = some v) (h : ∀ w, St X.w0 w G → R (.returned v) w) (hdf : X.df = [] := by rfl) :
    SK X (bodyPost X.P fn R .ret) l G := fun a w hk hs =>
  bodyPost_ret (by rw [results_tmp hr]; simp [Array.getD_eq_getD_getElem?, hk.2.2 t v hv]) (hk.1.trans hdf) (h w hs)
theorem ret2 {fn : Func} {t u : Nat} {v v' : Value} {R : Ending → World → Prop} (hr : fn.results = #[.tmp t, .tmp u]) (hv : look l t = some v) (hv' : look l u = some v') (h : ∀ w, St X.w0 w G → R (.returned (.tuple #[v, v'])) w) (hdf : X.df = [] := by rfl) :
    SK X (bodyPost X.P fn R .ret) l G := fun a w hk hs =>
  bodyPost_ret (by rw [results_tmp2 hr]; simp [Array.getD_eq_getD_getElem?, hk.2.2 t v hv, hk.2.2 u v' hv']) (hk.1.trans hdf) (h w hs)
end

def pl (N : Nat) (o : Oper) : Option Nat := match o.guard, o.dst with
  | none, some d => bif Nat.blt d N then some d else none
  | _, _ => none
theorem pl_spec {N d : Nat} {o : Oper} (h : pl N o = some d) : o.dst = some d ∧ d < N ∧ o.guard = none := by
  unfold pl at h
  split at h
  · rename_i d' hg hd
    cases hb : Nat.blt d' N with
    | true => rw [hb] at h; simp at h; subst h; exact ⟨hd, Nat.lt_of_lt_of_le (Nat.lt_succ_self _) (Nat.le_of_ble_eq_true hb), hg⟩
    | false => rw [hb] at h; simp at h
  · cases h
def plg (N : Nat) (ops : Array Oper) (o : Oper) : Option (Nat × Bool × Nat) := match o.guard, o.dst with
  | some (g, b), some d => match (ops[g]?).bind (·.dst) with
    | some gd => bif Nat.blt d N then some (d, b, gd) else none
    | none => none
  | _, _ => none
theorem plg_spec {N d gd : Nat} {b : Bool} {ops : Array Oper} {o : Oper} (h : plg N ops o = some (d, b, gd)) : o.dst = some d ∧ d < N ∧ ∃ g, o.guard = some (g, b) ∧ (ops[g]?).bind (·.dst) = some gd := by
  unfold plg at h
  split at h
  · rename_i g b' d' hg hd
    split at h
    · rename_i gd' hgd
      cases hb : Nat.blt d' N with
      | true => rw [hb] at h; simp at h; obtain ⟨rfl, rfl, rfl⟩ := h; exact ⟨hd, Nat.lt_of_lt_of_le (Nat.lt_succ_self _) (Nat.le_of_ble_eq_true hb), g, hg, hgd⟩
      | false => rw [hb] at h; simp at h
    · cases h
  · cases h

section
variable {ops : Array Oper} {Q : Exit → Act → World → Prop} {r : List Oper} {o : Oper} {l : List (Nat × Value)} {G : List Asn} {v : Value} {d : Nat}
theorem vl (he : Ev X o l G v) (hp : pl X.N o = some d) (h : SL X ops Q r ((d, v) :: l) G) : SL X ops Q (o :: r) l G := by
  intro a w hk hs
  obtain ⟨hd, hN, hg⟩ := pl_spec hp
  refine wl_plain hg (fun K hK => ?_) (nd_of_value (he a w hk hs))
  unfold Oper.wp
  rw [he a w hk hs, Oper.upon_value, hd]
  exact hK _ _ (h _ _ (hk.put v hN) hs)
theorem vg {gd : Nat} {b c : Bool} (he : Ev X o l G v) (hp : plg X.N ops o = some (d, b, gd)) (hb : look l gd = some (.bool c)) (hc : c = b) (h : SL X ops Q r ((d, v) :: l) G) : SL X ops Q (o :: r) l G := by
  intro a w hk hs
  subst hc
  obtain ⟨hd, hN, g, hg, hgd⟩ := plg_spec hp
  have hy : yielded ops a.tmps g = some c := by unfold yielded; rw [hgd]; simp [hk.2.2 gd _ hb]
  have hw : Region.wanted o (yielded ops a.tmps) = true := by simp [Region.wanted, hg, hy]
  refine wl_wanted hw (nd_of_value (he a w hk hs)) fun K hK => ?_
  unfold Oper.wp
  rw [he a w hk hs, Oper.upon_value, hd]
  exact hK _ _ (h _ _ (hk.put v hN) hs)
def gof (ops : Array Oper) (o : Oper) : Option (Bool × Nat) := match o.guard with
  | some (g, b) => match (ops[g]?).bind (·.dst) with
    | some gd => some (b, gd)
    | none => none
  | none => none
theorem gof_spec {ops : Array Oper} {o : Oper} {b : Bool} {gd : Nat} (h : gof ops o = some (b, gd)) : ∃ g, o.guard = some (g, b) ∧ (ops[g]?).bind (·.dst) = some gd := by
  unfold gof at h
  split at h
  · rename_i g b' hg
    split at h
    · rename_i gd' hgd
      simp at h
      obtain ⟨rfl, rfl⟩ := h
      exact ⟨g, hg, hgd⟩
    · cases h
  · cases h
theorem gw {gd : Nat} {b c : Bool} (hp : gof ops o = some (b, gd)) (hb : look l gd = some (.bool c)) (hc : c = b) (h : SL X ops Q ({ o with guard := none } :: r) l G) : SL X ops Q (o :: r) l G := by
  intro a w hk hs
  subst hc
  obtain ⟨g, hg, hgd⟩ := gof_spec hp
  have hy : yielded ops a.tmps g = some c := by unfold yielded; rw [hgd]; simp [hk.2.2 gd _ hb]
  have hw : Region.wanted o (yielded ops a.tmps) = true := by simp [Region.wanted, hg, hy]
  exact wl_ungu hw (h a w hk hs)
theorem m_ {d : Nat} {x : Operand} {ty : TypeId} {ps : String} {af : Array Edge} (hx : ev l x = some v) (hN : Nat.blt d X.N = true) (h : SL X ops Q r ((d, v) :: l) G) : SL X ops Q (⟨some d, .move x, ty, ps, af, none⟩ :: r) l G :=
  vl (fun a w hk _ => by unfold execOp; simp only [hk.ev hx]; rfl) (by simp only [pl, hN]; rfl) h
theorem a_ {d : Nat} {x : Operand} {ty : TypeId} {ps : String} {af : Array Edge} (hx : ev l x = some v) (hN : Nat.blt d X.N = true) (h : SL X ops Q r ((d, v) :: l) G) : SL X ops Q (⟨some d, .assign x, ty, ps, af, none⟩ :: r) l G :=
  vl (fun a w hk _ => by unfold execOp; simp only [hk.ev hx]; rfl) (by simp only [pl, hN]; rfl) h
theorem mv {x : Operand} (ho : o.op = .move x) (hx : ev l x = some v) : Ev X o l G v := fun a w hk _ => by
  unfold execOp; simp only [ho, hk.ev hx]; rfl
theorem as_ {x : Operand} (ho : o.op = .assign x) (hx : ev l x = some v) : Ev X o l G v := fun a w hk _ => by
  unfold execOp; simp only [ho, hk.ev hx]; rfl
end
end
section
variable {X : Cx} {o : Oper} {l : List (Nat × Value)} {G : List Asn} {v : Value}

theorem pk {c x y : Operand} {b b' : Bool} {u : Value} (ho : o.op = .pick c x y) (hc : ev l c = some (.bool b')) (hb : b' = b) (hx : ev l (if b then x else y) = some u) : Ev X o l G u := fun a w hk _ => by
  subst hb
  unfold execOp; simp only [ho, hk.ev hc, asBool]
  cases b'
  · simpa using hk.ev hx
  · simpa using hk.ev hx
theorem nt {t : TypeId} {x : Operand} {b : Bool} (ho : o.op = .unOp .not t x) (hx : ev l x = some (.bool b)) : Ev X o l G (.bool (!b)) := fun a w hk _ => by
  unfold execOp; simp only [ho, hk.ev hx, Op.unary]; simp
theorem nc {x : Operand} {p : Addr} (ho : o.op = .nilCheck x) (hx : ev l x = some (.pointer (some p))) : Ev X o l G (.pointer (some p)) := fun a w hk _ => by
  unfold execOp; simp only [ho, hk.ev hx]; simp

def cmp : BinOp → Int → Int → Option Bool
  | .eql, x, y => some (x == y)
  | .neq, x, y => some (x != y)
  | .lss, x, y => some (decide (x < y))
  | .leq, x, y => some (decide (x ≤ y))
  | .gtr, x, y => some (decide (x > y))
  | .geq, x, y => some (decide (x ≥ y))
  | _, _, _ => none
theorem cm {b : BinOp} {t t' : TypeId} {x y : Operand} {k : IntKind} {m n : Int} {c : Bool} (ho : o.op = .binOp b t x y t') (hx : ev l x = some (.int k m)) (hy : ev l y = some (.int k n)) (hc : cmp b m n = some c) : Ev X o l G (.bool c) := fun a w hk _ => by
  unfold execOp
  cases b <;> simp only [cmp, Option.some.injEq, reduceCtorEq] at hc <;> subst hc <;> simp [ho, hk.ev hx, hk.ev hy, eqGuard, binOp, Op.intCmp]
def ar : BinOp → Int → Int → Option Int
  | .add, x, y => some (x + y)
  | .sub, x, y => some (x - y)
  | .mul, x, y => some (x * y)
  | _, _, _ => none
theorem rk {b : BinOp} {t t' : TypeId} {x y : Operand} {k : IntKind} {m n c : Int} (ho : o.op = .binOp b t x y t') (hx : ev l x = some (.int k m)) (hy : ev l y = some (.int k n)) (hc : (ar b m n).map k.wrap = some c) : Ev X o l G (.int k c) := fun a w hk _ => by
  unfold execOp
  cases b <;> simp only [ar, Option.map_some, Option.map_none, Option.some.injEq, reduceCtorEq] at hc <;> subst hc <;> simp [ho, hk.ev hx, hk.ev hy, eqGuard, binOp, Op.intArith]
theorem ra {t t' : TypeId} {x y : Operand} {m n c : Int} (ho : o.op = .binOp .add t x y t') (hx : ev l x = some (.int .i64 m)) (hy : ev l y = some (.int .i64 n)) (hc : m + n = c) (h1 : -9223372036854775808 ≤ c) (h2 : c ≤ 9223372036854775807) : Ev X o l G (.int .i64 c) :=
  rk ho hx hy (by subst hc; simp only [ar, Option.map_some]; rw [IntWalk.i64_in _ ⟨h1, h2⟩])
theorem rs {t t' : TypeId} {x y : Operand} {m n c : Int} (ho : o.op = .binOp .sub t x y t') (hx : ev l x = some (.int .i64 m)) (hy : ev l y = some (.int .i64 n)) (hc : m - n = c) (h1 : -9223372036854775808 ≤ c) (h2 : c ≤ 9223372036854775807) : Ev X o l G (.int .i64 c) :=
  rk ho hx hy (by subst hc; simp only [ar, Option.map_some]; rw [IntWalk.i64_in _ ⟨h1, h2⟩])
theorem wr {n : Int} (h1 : -9223372036854775808 ≤ n) (h2 : n ≤ 9223372036854775807) : IntKind.i64.wrap n = n := IntWalk.i64_in _ ⟨h1, h2⟩
theorem cv {t t' : TypeId} {x : Operand} {k k' : IntKind} {n m : Int} (hs : X.P.underlying t = some (.int k)) (hd : X.P.underlying t' = some (.int k')) (ho : o.op = .convert t t' x) (hx : ev l x = some (.int k n)) (hm : k'.wrap n = m) : Ev X o l G (.int k' m) := fun a w hk _ => by
  unfold execOp
  have h1 := run_underlying hs w
  have h2 := run_underlying hd w
  simp [ho, hk.ev hx, convert, h1, h2, Conv.intToInt, hm]

theorem ln {t e : TypeId} {x : Operand} {A : Option Addr} {n c : Nat} (he : look X.T.elem t = some e) (ho : o.op = .call { callee := .builtin .len, args := #[x], argTypes := #[t] }) (hx : ev l x = some (.slice A n c)) : Ev X o l G (.int .i64 n) := fun a w hk _ => by
  unfold execOp
  have h1 := run_underlying (Tab.elemOk X.ok he) w
  simp [ho, resolve, hk.ev hx, invoke, builtin, Builtin.len_, h1, goInt]
theorem fa {s : TypeId} {i n : Nat} {x : Operand} {p : Addr} (hf : look2 X.T.off s i = some n) (ho : o.op = .fieldAddr s x i) (hx : ev l x = some (.pointer (some p))) : Ev X o l G (.pointer (some (p.add n))) := fun a w hk _ => by
  obtain ⟨fs, f, j, h1, h2, h3, h4, h5⟩ := Tab.offOk X.ok hf
  unfold execOp
  have hu := run_underlying h1 w
  simp [ho, hk.ev hx, Instr.fieldAt, hu, h2, Instr.sureAddr, fieldPlace, sizeOf, typeInfo, h4, h5, h3]
theorem addr_add (p : Addr) (m n : Nat) : (p.add m).add n = p.add (m + n) := by
  obtain ⟨b, o, s⟩ := p
  unfold Addr.add
  by_cases hm : m = 0
  · subst hm; simp
  · by_cases hn : n = 0
    · subst hn; simp
    · simp [hm, hn, Nat.add_assoc]
theorem fb {s : TypeId} {i n m : Nat} {x : Operand} {p : Addr} (hf : look2 X.T.off s i = some n) (ho : o.op = .fieldAddr s x i) (hx : ev l x = some (.pointer (some (p.add m)))) : Ev X o l G (.pointer (some (p.add (m + n)))) := by
  rw [← addr_add]
  exact fa hf ho hx
end
section
variable {X : Cx} {o : Oper} {l : List (Nat × Value)} {G : List Asn} {v : Value} {ops : Array Oper} {Q : Exit → Act → World → Prop} {r : List Oper}

theorem run_loadVar_at {P : Program} {T : Tab} (ok : T.check P = true) {t n : Nat} {b : Bool} (ht : look T.size t = some (n, b)) (w : World) (p : Addr) (cs : List Value) (hl : cs.length = n)
    (hc : ∀ (j : Nat) (v : Value), cs[j]? = some v → w.cell? (p.add j) = some v) (hb : b = true ∨ n = 1) :
    (loadVar t p).run P w = .ok (if b then .agg cs.toArray else cs.headD undef) w := by
  obtain ⟨d, i, hd, hag, hi, hn⟩ := Tab.sizeOk ok ht
  have hagg : (isAgg t).run P w = .ok b w := by
    unfold isAgg
    rw [Sem.run_bind, run_underlying hd w]
    cases d <;> simp_all [aggB]
  cases b with
  | true =>
    have h1 := run_loadCells_list (P := P) w p cs hc
    simp [loadVar, Sem.run_bind, hagg, sizeOf, typeInfo, hi, hn, ← hl, h1]
  | false =>
    obtain ⟨c, rfl⟩ : ∃ c, cs = [c] := by
      have : cs.length = 1 := by rw [hl]; simpa using hb
      match cs, this with
      | [c], _ => exact ⟨c, rfl⟩
    have h0 := hc 0 c rfl
    simp only [Addr.add, if_true] at h0
    simp [loadVar, Sem.run_bind, hagg, load, Sem.run, h0]

theorem ldv {t n : Nat} {b : Bool} {x : Operand} {p : Addr} (cs : List Value) (ho : o.op = .load t x) (ht : look X.T.size t = some (n, b)) (hx : ev l x = some (.pointer (some p))) (hl : cs.length = n) (hb : b = true ∨ n = 1)
    (hc : ∀ w, St X.w0 w G → ∀ (j : Nat) (v : Value), cs[j]? = some v → w.cell? (p.add j) = some v) : Ev X o l G (if b then .agg cs.toArray else cs.headD undef) := fun a w hk hs => by
  unfold execOp
  have h1 := run_loadVar_at X.ok ht w p cs hl (hc w hs) hb
  simp [ho, Instr.loadAt, Instr.sureAddr, hk.ev hx, h1]

theorem add_at {p : Addr} {n j : Nat} (h : p.spot = none) : (p.add n).add j = ⟨p.block, p.off + (n + j), none⟩ := by
  obtain ⟨b, o, s⟩ := p
  simp only at h
  subst h
  unfold Addr.add
  split <;> split <;> simp <;> omega
theorem cell_blk {w : World} {b off : Nat} {cs : List Value} {t : TypeId} (h : w.heap[b]? = some (.cells cs.toArray t (0, 0))) {v : Value} (hv : cs[off]? = some v) : w.cell? ⟨b, off, none⟩ = some v := by
  simp [World.cell?, h, hv]

theorem head_drop {cs : List Value} {off : Nat} (h : off < cs.length) : ((cs.drop off).take 1).headD undef = cs.getD off undef := by
  rw [List.drop_eq_getElem_cons h, List.take_succ_cons]
  simp [List.getD_eq_getElem?_getD, h]
theorem ldb (k : Nat) {t n off : Nat} {b : Bool} {x : Operand} {g : Nat} {cs : List Value} {e : TypeId} {u : Value} (hk : G[k]? = some (blk g cs e)) (ho : o.op = .load t x) (ht : look X.T.size t = some (n, b)) (hx : ev l x = some (.pointer (some ⟨g, off, none⟩)))
    (hl' : Nat.ble (off + n) cs.length = true) (hb' : (b || Nat.beq n 1) = true) (hu : (if b then Value.agg ((cs.drop off).take n).toArray else cs.getD off undef) = u) : Ev X o l G u := by
  have hl := Nat.le_of_ble_eq_true hl'
  have hb : b = true ∨ n = 1 := by cases b <;> simp_all
  have h := ldv (X := X) (G := G) ((cs.drop off).take n) ho ht hx (by simp; omega) hb (fun w hs j v hv => by
    have h1 : w.heap[g]? = some (.cells cs.toArray e (0, 0)) := hs.at k hk
    have h2 : (⟨g, off, none⟩ : Addr).add j = ⟨g, off + j, none⟩ := by have := add_at (p := ⟨g, off, none⟩) (n := 0) (j := j) rfl; simp only [Nat.zero_add] at this; exact this
    rw [h2]
    refine cell_blk h1 ?_
    rw [List.getElem?_take] at hv
    split at hv
    · rwa [List.getElem?_drop] at hv
    · cases hv)
  subst hu
  cases b with
  | true => exact h
  | false =>
    have hn : n = 1 := by simpa using hb
    subst hn
    have e1 : ((cs.drop off).take 1).headD undef = cs.getD off undef := head_drop (by omega)
    rw [e1] at h
    exact h
theorem ldp (k : Nat) {α : Type} {d : Kd α} {t n off : Nat} {b : Bool} {x : Operand} {p : Addr} {cs : List Value} {y : α} {s : List Nat} {u : Value} (hk : G[k]? = some (ptr d p cs y s)) (ho : o.op = .load t x) (ht : look X.T.size t = some (n, b)) (hx : ev l x = some (.pointer (some (p.add off))))
    (hl' : Nat.ble (off + n) cs.length = true) (hb' : (b || Nat.beq n 1) = true) (hu : (if b then Value.agg ((cs.drop off).take n).toArray else cs.getD off undef) = u) : Ev X o l G u := by
  have hl := Nat.le_of_ble_eq_true hl'
  have hb : b = true ∨ n = 1 := by cases b <;> simp_all
  have h := ldv (X := X) (G := G) ((cs.drop off).take n) ho ht hx (by simp; omega) hb (fun w hs j v hv => by
    have h1 := hs.at k hk
    rw [add_at h1.1]
    rw [List.getElem?_take] at hv
    split at hv
    · rw [List.getElem?_drop] at hv; exact h1.2.2.1 _ _ hv
    · cases hv)
  subst hu
  cases b with
  | true => exact h
  | false =>
    have hn : n = 1 := by simpa using hb
    subst hn
    have e1 : ((cs.drop off).take 1).headD undef = cs.getD off undef := head_drop (by omega)
    rw [e1] at h
    exact h

theorem ldq (k : Nat) {α : Type} {d : Kd α} {t n : Nat} {b : Bool} {x : Operand} {p : Addr} {cs : List Value} {y : α} {s : List Nat} {u : Value} (hk : G[k]? = some (ptr d p cs y s)) (ho : o.op = .load t x) (ht : look X.T.size t = some (n, b)) (hx : ev l x = some (.pointer (some p)))
    (hl' : Nat.ble n cs.length = true) (hb' : (b || Nat.beq n 1) = true) (hu : (if b then Value.agg (cs.take n).toArray else cs.getD 0 undef) = u) : Ev X o l G u :=
  ldp (off := 0) k hk ho ht (by simpa [Addr.add] using hx) (by simpa using hl') hb' (by simpa using hu)
theorem Kd.Elems.at {α : Type} {d : Kd α} {w : World} : ∀ {cs xs s} (h : Kd.Elems d w cs xs [] s) (i : Nat) (hi : i < xs.length),
    ∃ s', (∀ b ∈ s', b ∈ s) ∧ d.Rel w ((cs.drop (i * d.sz)).take d.sz) xs[i] [] s' := by
  intro cs xs s h
  generalize ho : ([] : List Nat) = o at h
  induction h with
  | nil => intro i hi; simp at hi
  | cons h hh ih =>
    rename_i c cs x xs o o' s s'
    intro i hi
    obtain ⟨rfl, rfl⟩ := List.append_eq_nil_iff.1 ho.symm
    have hl := d.len h
    cases i with
    | zero => exact ⟨s, fun b hb => List.mem_append_left _ hb, by simpa [← hl] using h⟩
    | succ i =>
      obtain ⟨s2, h1, h2⟩ := ih rfl i (by simpa using hi)
      refine ⟨s2, fun b hb => List.mem_append_right _ (h1 b hb), ?_⟩
      have e : (i + 1) * d.sz = c.length + i * d.sz := by rw [Nat.add_mul, hl]; omega
      rw [e, List.drop_length_add_append]
      exact h2

theorem St.see {w0 w : World} {G : List Asn} (h : St w0 w G) (k : Nat) {A B : Asn} (hk : G[k]? = some A) (hB : B.P w) (ho : B.own = []) (hs : ∀ b ∈ B.see, b ∈ A.see) (hA : A.own = []) : St w0 w (B :: G) := by
  have hm := List.mem_of_getElem? hk
  refine h.cons hB (by rw [ho]; simp) (by rw [ho]; simp) (fun C hC => ⟨by rw [ho]; simp, fun b hb h' => ?_⟩)
  have h1 := hs b h'
  by_cases hCA : C = A
  · subst hCA; rw [hA] at hb; cases hb
  · obtain ⟨i, hi, rfl⟩ := List.getElem_of_mem hC
    obtain ⟨j, hj, rfl⟩ := List.getElem_of_mem hm
    have hne : i ≠ j := fun e => hCA (by subst e; rfl)
    have hp := List.pairwise_iff_getElem.1 h.sep
    rcases Nat.lt_or_gt_of_ne hne with hlt | hlt
    · exact ((hp i j hi hj hlt).1 b hb).2 h1
    · exact (hp j i hj hi hlt).2 b hb h1

theorem run_indexAt {P : Program} {T : Tab} (ok : T.check P = true) {t e n : Nat} {b : Bool} (he : look T.elem t = some e) (hn : look T.size e = some (n, b)) (w : World) (p : Addr) (len cap : Nat) (i : Nat) (hi : i < len) :
    (Instr.indexAt t (.slice (some p) len cap) (.int .i64 (i : Int))).run P w = .ok (.pointer (some (p.add (i * n)))) w := by
  obtain ⟨d, j, hd, hag, hj, hs⟩ := Tab.sizeOk ok hn
  have h1 := run_underlying (Tab.elemOk ok he) w
  simp [Instr.indexAt, asIntOf, h1, sizeOf, typeInfo, hj, hs]
  intro h; omega


variable {K : Act → World → Prop}
theorem gx (k i : Nat) {α : Type} {d : Kd α} {A : Option Addr} {m c : Nat} {xs : List α} {s : List Nat} (hk : G[k]? = some (dat (Kd.sl d) [.slice A m c] xs [] s)) (hi : i < xs.length)
    (h : ∀ y p cs s' w, xs[i]? = some y → A.map (·.add (i * d.sz)) = some p → d.Rel w cs y [] s' → (∀ b ∈ s', b ∈ s) → SK X K l (ptr d p cs y s' :: G)) : SK X K l G := fun a w hl hs => by
  have h1 : (Kd.sl d).Rel w [.slice A m c] xs [] s := hs.at k hk
  obtain ⟨-, A', c', he, hc, hm, h2⟩ := h1
  simp only [List.cons.injEq, Value.slice.injEq, and_true] at he
  obtain ⟨rfl, rfl, rfl⟩ := he
  rcases h2 with ⟨rfl, -⟩ | ⟨b, off, el, s2, rfl, rfl, hb, hel, hcell⟩
  · simp at hi
  · obtain ⟨s3, h3, h4⟩ := hel.at i hi
    have hp : (⟨b, off, none⟩ : Addr).add (i * d.sz) = ⟨b, off + i * d.sz, none⟩ := by unfold Addr.add; split <;> simp_all
    refine h xs[i] ⟨b, off + i * d.sz, none⟩ _ s3 w (by simp [hi]) (by simp [hp]) h4 (fun b hb => List.mem_cons_of_mem _ (h3 b hb)) a w hl (hs.see k hk (B := ptr d ⟨b, off + i * d.sz, none⟩ _ xs[i] s3) ⟨rfl, hb, fun j v hj => ?_, h4⟩ rfl (fun x hx => ?_) rfl)
    · rw [List.getElem?_take] at hj
      split at hj
      · rw [List.getElem?_drop] at hj
        have := hcell _ _ hj
        simpa [Nat.add_assoc] using this
      · cases hj
    · rcases List.mem_cons.1 hx with rfl | hx
      · exact List.mem_cons_self ..
      · exact List.mem_cons_of_mem _ (h3 x hx)
theorem gp (k : Nat) {α β : Type} {d : Kd α} {d' : Kd β} {off : Nat} {g : α → β} (hsub : Kd.Sub d off d' g) {p : Addr} {cs cs' : List Value} {x : α} {s : List Nat} (hk : G[k]? = some (ptr d p cs x s)) (hc : (cs.drop off).take d'.sz = cs')
    (h : ∀ s' w, d'.Rel w cs' (g x) [] s' → (∀ b ∈ s', b ∈ s) → SK X K l (dat d' cs' (g x) [] s' :: G)) : SK X K l G := fun a w hl hs => by
  have h1 : (ptr d p cs x s).P w := hs.at k hk
  obtain ⟨s', h2, h3⟩ := hsub w cs x s h1.2.2.2
  subst hc
  exact h s' w h3 h2 a w hl (hs.see k hk (B := dat d' _ (g x) [] s') h3 rfl (fun b hb => List.mem_cons_of_mem _ (h2 b hb)) rfl)
theorem gq (k : Nat) {α β : Type} {d : Kd α} {d' : Kd β} {off : Nat} {g : α → β} (hsub : Kd.Sub d off d' g) {p : Addr} {cs cs' : List Value} {x : α} {s : List Nat} (hk : G[k]? = some (ptr d p cs x s)) (hc : (cs.drop off).take d'.sz = cs')
    (h : ∀ s' w, d'.Rel w cs' (g x) [] s' → (∀ b ∈ s', b ∈ s) → SK X K l (ptr d' (p.add off) cs' (g x) s' :: G)) : SK X K l G := fun a w hl hs => by
  have h1 : (ptr d p cs x s).P w := hs.at k hk
  obtain ⟨s', h2, h3⟩ := hsub w cs x s h1.2.2.2
  subst hc
  have hb : (p.add off).block = p.block ∧ (p.add off).spot = none := by
    unfold Addr.add
    split
    · exact ⟨rfl, h1.1⟩
    · exact ⟨rfl, rfl⟩
  have ho : (p.add off).off = p.off + off := by
    unfold Addr.add
    split <;> simp_all
  refine h s' w h3 h2 a w hl (hs.see k hk (B := ptr d' (p.add off) _ (g x) s') ⟨hb.2, by rw [hb.1]; exact h1.2.1, fun j v hj => ?_, h3⟩ rfl (fun b hx => ?_) rfl)
  · rw [List.getElem?_take] at hj
    split at hj
    · rw [List.getElem?_drop] at hj
      have := h1.2.2.1 _ _ hj
      rw [hb.1, ho, Nat.add_assoc]
      exact this
    · cases hj
  · have hx' : b ∈ (p.add off).block :: s' := hx
    rw [hb.1] at hx'
    rcases List.mem_cons.1 hx' with rfl | hx'
    · exact List.mem_cons_self ..
    · exact List.mem_cons_of_mem _ (h2 b hx')
theorem ptr_blk {α : Type} {d : Kd α} {b off : Nat} {t : TypeId} {cs cs' : List Value} {x : α} {s : List Nat} {w : World} (hb : (blk b cs t).P w) (hd : d.Rel w cs' x [] s) (hc : (cs.drop off).take cs'.length = cs') : (ptr d ⟨b, off, none⟩ cs' x s).P w := by
  have hb' : w.heap[b]? = some (.cells cs.toArray t (0, 0)) := hb
  refine ⟨rfl, (Array.getElem?_eq_some_iff.1 hb').1, fun j v hj => cell_blk hb' ?_, hd⟩
  rw [← hc, List.getElem?_take] at hj
  split at hj
  · rwa [List.getElem?_drop] at hj
  · cases hj
theorem gd (k : Nat) {α β : Type} {d : Kd α} {d' : Kd β} {off : Nat} {g : α → β} (hsub : Kd.Sub d off d' g) {cs cs' : List Value} {x : α} {s : List Nat} (hk : G[k]? = some (dat d cs x [] s)) (hc : (cs.drop off).take d'.sz = cs')
    (h : ∀ s' w, d'.Rel w cs' (g x) [] s' → (∀ b ∈ s', b ∈ s) → SK X K l (dat d' cs' (g x) [] s' :: G)) : SK X K l G := fun a w hl hs => by
  obtain ⟨s', h2, h3⟩ := hsub w cs x s (hs.at k hk)
  subst hc
  exact h s' w h3 h2 a w hl (hs.see k hk (B := dat d' _ (g x) [] s') h3 rfl h2 rfl)
theorem ix {t e n : Nat} {b : Bool} {x y : Operand} {A : Option Addr} {c m : Nat} {p : Addr} (i : Nat) (hp : A.map (·.add (i * n)) = some p) (ho : o.op = .indexAddr t x y) (he : look X.T.elem t = some e) (hn : look X.T.size e = some (n, b))
    (hx : ev l x = some (.slice A m c)) (hy : ev l y = some (.int .i64 (i : Int))) (hi : i < m) : Ev X o l G (.pointer (some p)) := fun a w hk _ => by
  unfold execOp
  cases A with
  | none => simp at hp
  | some q =>
    simp only [Option.map_some, Option.some.injEq] at hp
    subst hp
    have h1 := run_indexAt X.ok he hn w q m c i hi
    simp [ho, hk.ev hx, hk.ev hy, h1]

theorem ex {x : Operand} {i : Nat} {vs : List Value} (ho : o.op = .extract x i) (hx : ev l x = some (.tuple vs.toArray)) (hi : vs[i]? = some v) : Ev X o l G v := fun a w hk _ => by
  unfold execOp; simp only [ho, hk.ev hx, Instr.extract]; simp [hi]

variable {d : Nat}
theorem St.alloc {w0 w : World} (h : St w0 w G) (cs : List Value) (t : TypeId) : St w0 (w.alloc (.cells cs.toArray t)) (blk w.heap.size cs t :: G) := by
  have h1 := h.step (w' := w.alloc (.cells cs.toArray t)) ((Below.refl _ _).alloc (Nat.le_refl _) _)
  refine h1.cons (heap_alloc_new w _) (fun b hb => by simp [blk] at hb; subst hb; exact h.below.size) ⟨by simp [blk], by simp [blk]⟩ (fun B hB => ⟨fun b hb => ?_, fun b _ => by simp [blk]⟩)
  simp [blk] at hb
  subst hb
  exact ⟨fun hx => Nat.lt_irrefl _ (h.lt hB (.inl hx)), fun hx => Nat.lt_irrefl _ (h.lt hB (.inr hx))⟩
theorem bx {t : TypeId} {x : Operand} {v : Value} {cs : List Value} (ho : o.op = .box t x) (hx : ev l x = some v) (hc : v.cells = cs.toArray) (hp : pl X.N o = some d)
    (h : ∀ b, SL X ops Q r ((d, .pointer (some ⟨b, 0, none⟩)) :: l) (blk b cs t :: G)) : SL X ops Q (o :: r) l G := fun a w hk hs => by
  obtain ⟨hd, hN, hg⟩ := pl_spec hp
  refine wl_plain hg fun K hK => ?_
  unfold Oper.wp execOp
  simp only [ho, hk.ev hx, Instr.box, newVar, newRow, newObj, hc]
  exact hK _ _ (by rw [hd]; exact h w.heap.size _ _ (hk.put _ hN) (hs.alloc cs t))

theorem run_call {P : Program} {ρ : Operand → Value} {o : Oper} {f : FuncId} {args : List Operand} {ts : Array TypeId} {fn : Func} {w : World}
    (ho : o.op = .call { callee := .value (.func f), args := args.toArray, argTypes := ts }) (hρ : ρ (.func f) = .func (.func f) #[] #[]) (hf : P.funcs[f]? = some fn) (hb : fn.body.isSome = true) (hn : (fn.name == "runtime.NumGoroutine") = false) :
    (execOp ρ o).run P w = .ok (.enter f (args.map ρ).toArray) w := by
  unfold execOp
  have hb' : fn.body ≠ none := by intro h; simp [h] at hb
  have hn' : ¬ fn.name = "runtime.NumGoroutine" := by simpa using hn
  simp [ho, resolve, hρ, Deferred.ofValue, invoke, callFunc, program, hf, hn', Sem.run]
  intro h
  exact absurd h hb'
theorem clx {f : FuncId} {args : List Operand} {ts : Array TypeId} {fn : Func} {vs : List Value} (ho : o.op = .call { callee := .value (.func f), args := args.toArray, argTypes := ts }) (hf : X.P.funcs[f]? = some fn) (hb : fn.body.isSome = true) (hn : (fn.name == "runtime.NumGoroutine") = false)
    (hv : evs l args = some vs) (hp : pl X.N o = some d)
    (h : ∀ a w, Knows X.K l a → St X.w0 w G → Calls X.P f vs.toArray w (fun e w' => ∃ v, e = .returned v ∧ (∀ a', Knows X.K ((d, v) :: l) a' → X.wl ops Q r a' w'))) : SL X ops Q (o :: r) l G := fun a w hk hs => by
  obtain ⟨hd, hN, hg⟩ := pl_spec hp
  refine wl_plain hg fun K hK => ?_
  unfold Oper.wp
  rw [run_call ho rfl hf hb hn, hk.evs hv, Oper.upon_enter]
  refine (h a w hk hs).mono ?_
  rintro e w' ⟨v, rfl, h2⟩
  exact hK _ _ (by rw [hd]; exact h2 _ (hk.put v hN))
theorem cl {f : FuncId} {args : List Operand} {ts : Array TypeId} {fn : Func} {vs : List Value} {v : Value} (hf : X.P.funcs[f]? = some fn) (hb : fn.body.isSome = true) (hn : (fn.name == "runtime.NumGoroutine") = false)
    (ho : o.op = .call { callee := .value (.func f), args := args.toArray, argTypes := ts }) (hv : evs l args = some vs) (hp : pl X.N o = some d)
    (hc : ∀ w, St X.w0 w G → Calls X.P f vs.toArray w (fun e w' => e = .returned v ∧ Below w.heap.size w w'))
    (h : SL X ops Q r ((d, v) :: l) G) : SL X ops Q (o :: r) l G :=
  clx ho hf hb hn hv hp fun a w hk hs => (hc w hs).mono fun e w' ⟨he, hw⟩ => ⟨v, he, fun a' ha' => h a' w' ha' (hs.step hw)⟩
end
section

section
variable {P : Program} {ops : Array Oper} {C : World → Prop} {Q : Exit → Act → World → Prop}
def wpAnyC (P : Program) (ops : Array Oper) (C : World → Prop) (Q : Exit → Act → World → Prop) : Nat → Array Bool → Act → World → Prop
  | 0, listed, a, w => C w ∧ Region.ready .any ops listed = [] ∧ Q .normal a w
  | fuel + 1, listed, a, w => C w ∧ (Region.ready .any ops listed = [] → Q .normal a w) ∧
    ∀ i ∈ Region.ready .any ops listed, wpOp P ops Q i (wpAnyC P ops C Q fuel (listed.setIfInBounds i true)) a w
theorem wpAny_of_C : ∀ (fuel : Nat) (listed : Array Bool) (a : Act) (w : World), wpAnyC P ops C Q fuel listed a w → wpAny P .any ops Q fuel listed a w
  | 0, _, _, _, h => h.2
  | fuel + 1, _, _, _, h => ⟨h.2.1, fun i hi => wpOp_mono (fun a w h => wpAny_of_C fuel _ a w h) (h.2.2 i hi)⟩
def YieldsC (P : Program) (ops : Array Oper) (C : World → Prop) (o : Oper) (v : Value) (a : Act) : Prop :=
  (Region.wanted o (yielded ops a.tmps) = true ∧ ∀ w, C w → (execOp a.eval o).run P w = .ok (.value v) w) ∨
  (Region.wanted o (yielded ops a.tmps) = false ∧ v = undef)
theorem YieldsC.wpOp {i : Nat} {o : Oper} {v : Value} {a : Act} (hi : ops[i]? = some o) (hy : YieldsC P ops C o v a) {K : Act → World → Prop} {w : World} (hw : C w) (h : K (a.put o.dst v) w) : wpOp P ops Q i K a w := by
  unfold Go.wpOp
  simp only [hi]
  rcases hy with ⟨hw', hv⟩ | ⟨hw', rfl⟩
  · simp only [hw', if_true, Oper.wp, hv w hw, Oper.upon]; exact .inl h
  · simp only [hw', Bool.false_eq_true, if_false]; exact h
theorem YieldsC.of_same {o : Oper} {v : Value} {a a' : Act} (hy : YieldsC P ops C o v a) (he : execOp a'.eval o = execOp a.eval o)
    (hw : Region.wanted o (yielded ops a'.tmps) = Region.wanted o (yielded ops a.tmps)) : YieldsC P ops C o v a' := by
  unfold YieldsC at *
  rw [he, hw]
  exact hy
theorem wpOp_putC {j : Nat} {oi oj : Oper} {v : Value} (hj : ops[j]? = some oj) (hap : oi.apart ops oj = true)
    (hsi : ∀ cs b, oi.op ≠ .select cs b) (hsj : ∀ cs b, oj.op ≠ .select cs b)
    (hQ : ∀ c a w, Q (.panic c) (a.put oi.dst v) w → Q (.panic c) a w) {K : Act → World → Prop} {a : Act} {w : World}
    (hy : YieldsC P ops C oi v a) (h : Go.wpOp P ops Q j K (a.put oi.dst v) w) :
    Go.wpOp P ops Q j (fun a' w' => YieldsC P ops C oi v a' ∧ K (a'.put oi.dst v) w') a w := by
  obtain ⟨h1, h2, h3⟩ := Oper.apart_spec hap
  have keep : ∀ (a : Act), YieldsC P ops C oi v a → ∀ u, YieldsC P ops C oi v (a.put oj.dst u) := fun a hy u =>
    hy.of_same (execOp_put oi hsi a oj.dst u h3) (wanted_put oi a oj.dst u h3)
  have keepD : ∀ d, YieldsC P ops C oi v { a with defers := d :: a.defers } := fun d => hy.of_same rfl rfl
  unfold Go.wpOp at *
  simp only [hj] at *
  rw [wanted_put oj a oi.dst v h1] at h
  split
  · rename_i hw
    simp only [hw, if_true] at h
    rcases h with h | ⟨hasks, hlets⟩
    case inr => exact .inr ⟨by unfold Oper.asks at *; rw [execOp_put oj hsj a oi.dst v h1] at hasks; exact hasks, hlets⟩
    refine .inl ?_
    unfold Oper.wp at *
    rw [execOp_put oj hsj a oi.dst v h1] at h
    generalize (execOp a.eval oj).run P w = r at *
    cases r with
    | ok n w' =>
      cases n <;> simp only [Oper.upon] at h ⊢
      case value u => exact ⟨keep a hy u, by rw [← Act.put_comm a v u h2]; exact h⟩
      case skip => exact ⟨keep a hy _, by rw [← Act.put_comm a v undef h2]; exact h⟩
      case defer d =>
        refine ⟨keep _ (keepD d) _, ?_⟩
        rw [← Act.put_comm _ v undef h2, ← Act.put_defers]
        exact h
      case enter f args =>
        refine Calls.mono h fun e w'' he => ?_
        cases e with
        | returned u => exact ⟨keep a hy u, by rw [← Act.put_comm a v u h2]; exact he⟩
        | panicked c => exact hQ _ _ _ he
        | outgrown => exact he
      case row row args => exact Rows.mono h fun u w'' he => ⟨keep a hy u, by rw [← Act.put_comm a v u h2]; exact he⟩
    | halt x w' =>
      cases x <;> simp only [Oper.upon] at h ⊢
      case panic u => exact hQ _ _ _ h
  · rename_i hw
    simp only [hw] at h
    exact ⟨keep a hy _, by rw [← Act.put_comm a v undef h2]; exact h⟩
theorem wpAnyC_first {i : Nat} {oi : Oper} {v : Value} (hi : ops[i]? = some oi) (hsel : ∀ (j : Nat) (o : Oper) cs b, ops[j]? = some o → o.op ≠ .select cs b)
    (hQ : ∀ c a w, Q (.panic c) (a.put oi.dst v) w → Q (.panic c) a w) :
    ∀ (fuel : Nat) (listed : Array Bool) (a : Act) (w : World),
      (∀ j oj, ops[j]? = some oj → j ≠ i → listed.getD j true = false → (∀ e ∈ oj.after, Region.binds .any e = true → e.on ≠ i) → oi.apart ops oj = true) →
      i ∈ Region.ready .any ops listed → YieldsC P ops C oi v a →
      wpAnyC P ops C Q fuel (listed.setIfInBounds i true) (a.put oi.dst v) w → wpAnyC P ops C Q (fuel + 1) listed a w := by
  intro fuel
  induction fuel with
  | zero =>
    intro listed a w _ hr hy H
    refine ⟨H.1, fun h => (by rw [h] at hr; cases hr), fun j hj => ?_⟩
    by_cases hji : j = i
    · subst hji; exact hy.wpOp hi H.1 H
    · have := ready_mono hj hji
      rw [H.2.1] at this
      cases this
  | succ fuel ih =>
    intro listed a w hfree hr hy H
    refine ⟨H.1, fun h => (by rw [h] at hr; cases hr), fun j hj => ?_⟩
    by_cases hji : j = i
    · subst hji; exact hy.wpOp hi H.1 H
    · have h1 := H.2.2 j (ready_mono hj hji)
      obtain ⟨hjun, oj, hoj, hall⟩ := mem_ready.1 hj
      have hnot : ∀ e ∈ oj.after, Region.binds .any e = true → e.on ≠ i := fun e he hb heq => by
        have h1 := hall e he hb
        have h0 := (mem_ready.1 hr).1
        rw [heq] at h1
        rcases Nat.lt_or_ge i listed.size with h' | h'
        · simp [h'] at h0 h1; rw [h0] at h1; cases h1
        · simp [Array.getElem?_eq_none h'] at h1
      have h2 := wpOp_putC hoj (hfree j oj hoj hji hjun hnot) (fun cs b => hsel i oi cs b hi) (fun cs b => hsel j oj cs b hoj) hQ hy h1
      have hfree' : ∀ k ok, ops[k]? = some ok → k ≠ i → (listed.setIfInBounds j true).getD k true = false →
          (∀ e ∈ ok.after, Region.binds .any e = true → e.on ≠ i) → oi.apart ops ok = true := fun k ok hk hki hun hno => by
        refine hfree k ok hk hki ?_ hno
        by_cases hjk : j = k
        · subst hjk; exact hjun
        · rw [getD_set_ne true hjk] at hun; exact hun
      refine wpOp_mono (fun a' w' h3 => ih (listed.setIfInBounds j true) a' w' hfree' (ready_mono hr (Ne.symm hji)) h3.1 ?_) h2
      rw [Array.setIfInBounds_comm _ _ hji]
      exact h3.2
end

section
variable {X : Cx} {ops : Array Oper} {Q : Exit → Act → World → Prop} {o : Oper} {l : List (Nat × Value)} {G Gq : List Asn} {v : Value} {n d i : Nat} {L : Array Bool}
abbrev SM (X : Cx) (ops : Array Oper) (Gq : List Asn) (Q : Exit → Act → World → Prop) (n : Nat) (L : Array Bool) (l : List (Nat × Value)) (G : List Asn) : Prop :=
  SK X (wpAnyC X.P ops (fun w => St X.w0 w Gq) Q n L) l G
class Calm (Q : Exit → Act → World → Prop) : Prop where
  out : ∀ c a a' w, a'.defers = a.defers → Q (.panic c) a' w → Q (.panic c) a w
theorem put_defers (a : Act) (d : Option Nat) (v : Value) : (a.put d v).defers = a.defers := by cases d <;> rfl
instance Calm.then {Q : Exit → Act → World → Prop} (K : Act → World → Prop) [h : Calm Q] : Calm (Exit.then K Q) := ⟨h.out⟩
instance Calm.block {Q : Exit → Act → World → Prop} {id : Nat} [h : Calm Q] : Calm (Exit.inBlock id Q) := ⟨h.out⟩
instance Calm.post {P : Program} {fn : Func} {R : Ending → World → Prop} : Calm (bodyPost P fn R) := ⟨fun c a a' w he h => ⟨he ▸ h.1, h.2⟩⟩
theorem St.drew {w0 w : World} (h : St w0 w G) : St w0 { w with drawn := w.drawn + 1 } G := h.step ⟨rfl, rfl, rfl, Nat.le_refl _, fun _ _ => rfl, Nat.le_succ _⟩
theorem rd {id : Nat} {os : List Oper} (ks : List Nat) (hG : pickAll ks G = Gq) (h : SM X os.toArray Gq Q os.length (Array.replicate os.length false) l G) (hrd : X.rd = none := by rfl) : SX X (.region id os.toArray true) Q l G := fun a w hk hs => by
  rw [Cx.wp_none hrd]
  exact wp_region_any X.wide (wpAny_of_C _ _ _ _ (by have := h a _ hk hs.drew; simpa using this))
theorem r0 {id : Nat} {os : List Oper} (h : SM X os.toArray G Q os.length (Array.replicate os.length false) l G) (hrd : X.rd = none := by rfl) : SX X (.region id os.toArray true) Q l G := fun a w hk hs => by
  rw [Cx.wp_none hrd]
  exact wp_region_any X.wide (wpAny_of_C _ _ _ _ (by have := h a _ hk hs.drew; simpa using this))
theorem qv (i : Nat) (hi : ops[i]? = some o) (he : Ev X o l Gq v) (hp : pl X.N o = some d) (hq : (Region.noSelect ops && Region.free .any ops L i && (Region.ready .any ops L).contains i) = true) [hQ : Calm Q]
    (h : SM X ops Gq Q n (L.setIfInBounds i true) ((d, v) :: l) G) : SM X ops Gq Q (n + 1) L l G := fun a w hk hst => by
  simp only [Bool.and_eq_true] at hq
  obtain ⟨⟨hs, hf⟩, hr⟩ := hq
  obtain ⟨hd, hN, hg⟩ := pl_spec hp
  exact wpAnyC_first hi (Region.noSelect_spec hs) (fun c a w h => hQ.out c a _ w (put_defers _ _ _) h) n L a w (Region.free_spec hi hf) (by simpa using hr)
    (.inl ⟨by simp [Region.wanted, hg], fun w' hw' => he a w' hk hw'⟩) (by rw [hd]; exact h _ w (hk.put v hN) hst)
theorem qg (i : Nat) {gd : Nat} {b c : Bool} (hi : ops[i]? = some o) (he : Ev X o l Gq v) (hp : plg X.N ops o = some (d, b, gd)) (hb : look l gd = some (.bool c)) (hc : c = b) (hq : (Region.noSelect ops && Region.free .any ops L i && (Region.ready .any ops L).contains i) = true) [hQ : Calm Q]
    (h : SM X ops Gq Q n (L.setIfInBounds i true) ((d, v) :: l) G) : SM X ops Gq Q (n + 1) L l G := fun a w hk hst => by
  simp only [Bool.and_eq_true] at hq
  obtain ⟨⟨hs, hf⟩, hr⟩ := hq
  subst hc
  obtain ⟨hd, hN, g, hg, hgd⟩ := plg_spec hp
  have hy : yielded ops a.tmps g = some c := by unfold yielded; rw [hgd]; simp [hk.2.2 gd _ hb]
  exact wpAnyC_first hi (Region.noSelect_spec hs) (fun c a w h => hQ.out c a _ w (put_defers _ _ _) h) n L a w (Region.free_spec hi hf) (by simpa using hr)
    (.inl ⟨by simp [Region.wanted, hg, hy], fun w' hw' => he a w' hk hw'⟩) (by rw [hd]; exact h _ w (hk.put v hN) hst)
theorem q1 (i : Nat) (ks : List Nat) (hi : ops[i]? = some o) (hr : Region.ready .any ops L = [i]) (hG : pickAll ks G = Gq)
    (h : SL X ops (fun e a w => match e with | .normal => wpAnyC X.P ops (fun w => St X.w0 w Gq) Q n (L.setIfInBounds i true) a w | e => Q e a w) [o] l G) (hrd : X.rd = none := by rfl) : SM X ops Gq Q (n + 1) L l G := fun a w hk hst => by
  refine ⟨hst.pk ks hG, fun h0 => (by rw [hr] at h0; cases h0), fun j hj => ?_⟩
  rw [hr] at hj
  simp only [List.mem_singleton] at hj
  subst hj
  have h1 := h a w hk hst
  rw [Cx.wl_none hrd] at h1
  unfold wpOp
  simp only [hi]
  unfold wpList at h1
  split
  · rename_i hw
    rw [if_pos hw] at h1
    rcases h1 with h1 | ⟨ha, a', w', hl⟩
    · refine .inl ?_
      unfold Oper.wp at *
      generalize (execOp a.eval o).run X.P w = rr at *
      cases rr with
      | ok nx w' =>
        cases nx <;> simp only [Oper.upon] at h1 ⊢ <;> exact h1
      | halt x w' => cases x <;> simp only [Oper.upon] at h1 ⊢ <;> exact h1
    · exact .inr ⟨ha, a', w', hl⟩
  · rename_i hw
    rw [if_neg hw] at h1
    exact h1
theorem qn {K : Act → World → Prop} (h : SK X K l G) : SL X ops (fun e a w => match e with | .normal => K a w | e => Q e a w) [] l G := fun a w hk hs => wl_nil (h a w hk hs)
theorem qe (ks : List Nat) (hr : Region.ready .any ops L = []) (hG : pickAll ks G = Gq) (h : SK X (Q .normal) l G) : SM X ops Gq Q n L l G := fun a w hk hst => by
  cases n with
  | zero => exact ⟨hst.pk ks hG, hr, h a w hk hst⟩
  | succ n => exact ⟨hst.pk ks hG, fun _ => h a w hk hst, by rw [hr]; simp⟩
end

abbrev Cont := Exit → Act → World → Prop
inductive Fr where
  | s (y : Code) (Q : Cont)
  | b (id : Nat) (Q : Cont)
  | k (K : Act → World → Prop) (Q : Cont)
inductive Md where
  | c (c : Code)
  | o (ops : Array Oper) (r : List Oper)
  | e (e : Exit)
  | q (ops : Array Oper) (Gq : List Asn) (n : Nat) (L : Array Bool)
inductive Coh (X : Cx) (Q0 : Cont) : Cont → List Fr → Prop where
  | n : Coh X Q0 Q0 []
  | s {Q : Cont} {S : List Fr} (y : Code) : Coh X Q0 Q S → Coh X Q0 (Exit.then (X.wp y Q) Q) (.s y Q :: S)
  | b {Q : Cont} {S : List Fr} (id : Nat) : Coh X Q0 Q S → Coh X Q0 (Exit.inBlock id Q) (.b id Q :: S)
  | k {Q : Cont} {S : List Fr} (K : Act → World → Prop) : Coh X Q0 Q S → Coh X Q0 (Exit.then K Q) (.k K Q :: S)
theorem Coh.calm {X : Cx} {Q0 Q : Cont} {S : List Fr} (h : Coh X Q0 Q S) (h0 : Calm Q0) : Calm Q := by
  induction h with
  | n => exact h0
  | s y h ih => exact @Calm.then _ _ ih
  | b id h ih => exact @Calm.block _ _ ih
  | k K h ih => exact @Calm.then _ _ ih
def dm (X : Cx) (Q : Cont) : Md → Act → World → Prop
  | .c c => X.wp c Q
  | .o ops r => X.wl ops Q r
  | .e e => Q e
  | .q ops Gq n L => wpAnyC X.P ops (fun w => St X.w0 w Gq) Q n L
def nth {α : Type} : List α → Nat → Option α
  | [], _ => none
  | a :: _, 0 => some a
  | _ :: l, n + 1 => nth l n
theorem nth_eq {α : Type} : ∀ (l : List α) (n : Nat), nth l n = l[n]?
  | [], n => by simp [nth]
  | a :: l, 0 => rfl
  | a :: l, n + 1 => by simpa [nth] using nth_eq l n
def cutl {α : Type} : List α → Nat → Nat → Option (List α)
  | _, 0, 0 => some []
  | [], _, _ => none
  | a :: l, 0, n + 1 => match cutl l 0 n with
    | some r => some (a :: r)
    | none => none
  | _ :: l, k + 1, n => cutl l k n
theorem cutl_eq {α : Type} : ∀ (l : List α) (k n : Nat) (r : List α), cutl l k n = some r → (l.drop k).take n = r ∧ r.length = n
  | [], 0, 0, r, h => by simp [cutl] at h; subst h; simp
  | [], 0, n + 1, r, h => by simp [cutl] at h
  | [], k + 1, n, r, h => by simp [cutl] at h
  | a :: l, 0, 0, r, h => by simp [cutl] at h; subst h; simp
  | a :: l, 0, n + 1, r, h => by
    simp only [cutl] at h
    split at h
    · rename_i r' h'
      simp at h
      subst h
      have := cutl_eq l 0 n r' h'
      simp at this ⊢
      exact this
    · cases h
  | a :: l, k + 1, n, r, h => by
    simp only [cutl] at h
    have := cutl_eq l k n r h
    simpa using this
def kb : IntKind → IntKind → Bool
  | .i8, .i8 => true
  | .i16, .i16 => true
  | .i32, .i32 => true
  | .i64, .i64 => true
  | .u8, .u8 => true
  | .u16, .u16 => true
  | .u32, .u32 => true
  | .u64, .u64 => true
  | _, _ => false
theorem kb_eq {a b : IntKind} (h : kb a b = true) : a = b := by cases a <;> cases b <;> first | rfl | cases h
def ldk (cs : List Value) (n : Nat) (b : Bool) (j : Nat) : Option Value := match b with
  | true => match cutl cs j n with
    | some r => some (.agg r.toArray)
    | none => none
  | false => match Nat.beq n 1 with
    | true => nth cs j
    | false => none
abbrev Er := Option (Value × List Nat × List Addr × List Addr × Prop)
def evo (X : Cx) (G : List Asn) (l : List (Nat × Value)) (t : List Nat) (a b : List Addr) (p : Prop) (op : Op) : Er := match op with
  | .move x => match ev l x with
    | some v => some (v, t, a, b, p)
    | none => none
  | .assign x => match ev l x with
    | some v => some (v, t, a, b, p)
    | none => none
  | .unOp .not _ x => match ev l x with
    | some (.bool c) => some (.bool (!c), t, a, b, p)
    | _ => none
  | .nilCheck x => match ev l x with
    | some (.pointer (some q)) => some (.pointer (some q), t, a, b, p)
    | _ => none
  | .binOp z _ x y _ => match ev l x with
    | some (.int k m) => match ev l y with
      | some (.int k' n) => match kb k k' with
        | true => match cmp z m n with
          | some c => some (.bool c, t, a, b, p)
          | none => none
        | false => none
      | _ => none
    | _ => none
  | .call c => match c.callee with
    | .builtin .len => match c.args.toList with
      | [x] => match c.argTypes.toList with
        | [ty] => match look X.T.elem ty with
          | some _ => match ev l x with
            | some (.slice _ n _) => some (.int .i64 n, t, a, b, p)
            | _ => none
          | none => none
        | _ => none
      | _ => none
    | _ => none
  | .fieldAddr s x i => match look2 X.T.off s i with
    | some n => match ev l x with
      | some (.pointer (some q)) => some (.pointer (some (q.add n)), t, a, b, p)
      | _ => none
    | none => none
  | .extract x i => match ev l x with
    | some (.tuple vs) => match nth vs.toList i with
      | some v => some (v, t, a, b, p)
      | none => none
    | _ => none
  | .load ty x => match look X.T.size ty with
    | some (n, g) => match ev l x with
      | some (.pointer (some q)) => match t with
        | k :: j :: t => match nth G k with
          | some A => match A.sh with
            | .p r cs => match j with
              | 0 => match ldk cs n g 0 with
                | some v => some (v, t, q :: a, r :: b, p)
                | none => none
              | j + 1 => match ldk cs n g j with
                | some v => some (v, t, q :: a, r.add j :: b, p)
                | none => none
            | .b r cs => match q with
              | ⟨r', j, none⟩ => match ldk cs n g j with
                | some v => some (v, t, ⟨r', 0, none⟩ :: a, ⟨r, 0, none⟩ :: b, p)
                | none => none
              | _ => none
            | .n => none
          | none => none
        | _ => none
      | _ => none
    | none => none
  | .pick c x y => match ev l c with
    | some (.bool d) => match t with
      | 0 :: t => match ev l y with
        | some v => some (v, t, a, b, d = false ∧ p)
        | none => none
      | _ :: t => match ev l x with
        | some v => some (v, t, a, b, d = true ∧ p)
        | none => none
      | [] => none
    | _ => none
  | _ => none
inductive Gd where
  | y (P : Prop)
  | n (P : Prop)
  | u
  | x
def gdo (ops : Array Oper) (l : List (Nat × Value)) (g : Nat) (w : Bool) (e : Nat) : Gd := match nth ops.toList g with
  | some og => match og.dst with
    | some gd => match look l gd with
      | some (.bool c) => match e with
        | 0 => .n (c = !w)
        | _ => .y (c = w)
      | some (.tuple vs) => match vs.toList with
        | [] => .u
        | _ => .x
      | _ => .x
    | none => .x
  | none => .x
def evg (X : Cx) (G : List Asn) (ops : Array Oper) (l : List (Nat × Value)) (t : List Nat) (a b : List Addr) (p : Prop) (o : Oper) : Er := match o.guard with
  | none => evo X G l t a b p o.op
  | some (g, w) => match t with
    | e :: t => match gdo ops l g w e with
      | .n P => some (undef, t, a, b, P ∧ p)
      | .u => some (undef, t, a, b, p)
      | .y P => evo X G l t a b (P ∧ p) o.op
      | .x => none
    | [] => none
structure Rs where
  K : Act → World → Prop
  l : List (Nat × Value)
  a : List Addr
  b : List Addr
  c : Bool
  p : Prop
abbrev Rf := Md → Cont → List Fr → List (Nat × Value) → List Nat → List Addr → List Addr → Bool → Prop → Option Rs
def rn0 (X : Cx) : Rf := fun m Q S l t a b c p => match t with
  | [] => match m with
    | .c k => some ⟨X.wp k Q, l, a, b, c, p⟩
    | .o ops r => some ⟨X.wl ops Q r, l, a, b, c, p⟩
    | .e e => some ⟨Q e, l, a, b, c, p⟩
    | .q ops Gq n L => some ⟨wpAnyC X.P ops (fun w => St X.w0 w Gq) Q n L, l, a, b, c, p⟩
  | _ => none
def rnc (X : Cx) (G : List Asn) (ih : Rf) (k : Code) (Q : Cont) (S : List Fr) (l : List (Nat × Value)) (t : List Nat) (a b : List Addr) (c : Bool) (p : Prop) : Option Rs := match k with
  | .seq x y => ih (.c x) (Exit.then (X.wp y Q) Q) (.s y Q :: S) l t a b c p
  | .skip => ih (.e .normal) Q S l t a b c p
  | .block id x => ih (.c x) (Exit.inBlock id Q) (.b id Q :: S) l t a b c p
  | .exit id => ih (.e (.exit id)) Q S l t a b c p
  | .ret => ih (.e .ret) Q S l t a b c p
  | .cond x y z => match ev l x with
    | some (.bool v) => match t with
      | 0 :: t => ih (.c z) Q S l t a b c (v = false ∧ p)
      | _ :: t => ih (.c y) Q S l t a b c (v = true ∧ p)
      | [] => none
    | _ => none
  | .region _ ops d => match d with
    | false => ih (.o ops ops.toList) Q S l t a b c p
    | true => match X.rd with
      | none => ih (.q ops G ops.toList.length (Array.replicate ops.toList.length false)) Q S l t a b c p
      | some _ => none
  | _ => none
def rno (X : Cx) (G : List Asn) (ih : Rf) (ops : Array Oper) (r : List Oper) (Q : Cont) (S : List Fr) (l : List (Nat × Value)) (t : List Nat) (a b : List Addr) (c : Bool) (p : Prop) : Option Rs := match r with
  | [] => ih (.e .normal) Q S l t a b c p
  | o :: r => match o.dst with
    | some d => match Nat.blt d X.N with
      | true => match evg X G ops l t a b p o with
        | some (v, t, a, b, p) => ih (.o ops r) Q S ((d, v) :: l) t a b c p
        | none => none
      | false => none
    | none => none
def rne (ih : Rf) (e : Exit) (S : List Fr) (l : List (Nat × Value)) (t : List Nat) (a b : List Addr) (c : Bool) (p : Prop) : Option Rs := match S with
  | .s y Q :: S => match e with
    | .normal => ih (.c y) Q S l t a b c p
    | .exit id => ih (.e (.exit id)) Q S l t a b c p
    | .ret => ih (.e .ret) Q S l t a b c p
    | _ => none
  | .b id Q :: S => match e with
    | .normal => ih (.e .normal) Q S l t a b c p
    | .exit id' => match Nat.beq id' id with
      | true => ih (.e .normal) Q S l t a b c p
      | false => ih (.e (.exit id')) Q S l t a b c p
    | .ret => ih (.e .ret) Q S l t a b c p
    | _ => none
  | .k _ Q :: S => match e with
    | .exit id => ih (.e (.exit id)) Q S l t a b c p
    | .ret => ih (.e .ret) Q S l t a b c p
    | _ => none
  | [] => none
def rnq (X : Cx) (G : List Asn) (ih : Rf) (ops : Array Oper) (Gq : List Asn) (n : Nat) (L : Array Bool) (Q : Cont) (S : List Fr) (l : List (Nat × Value)) (t : List Nat) (a b : List Addr) (c : Bool) (p : Prop) : Option Rs := match t with
  | 0 :: t => ih (.e .normal) Q S l t a b (c && List.isEmpty (Region.ready .any ops L)) ((∃ ks, pickAll ks G = Gq) ∧ p)
  | (i + 1) :: t => match n with
    | n + 1 => match nth ops.toList i with
      | some o => match o.dst with
        | some d => match Nat.blt d X.N with
          | true => match evg X Gq ops l t a b p o with
            | some (v, t, a, b, p) => ih (.q ops Gq n (L.setIfInBounds i true)) Q S ((d, v) :: l) t a b (c && (Region.noSelect ops && Region.free .any ops L i && (Region.ready .any ops L).contains i)) p
            | none => none
          | false => none
        | none => none
      | none => none
    | 0 => none
  | [] => none
noncomputable def rnf (X : Cx) (z : Bool) (G : List Asn) (n : Nat) : Rf :=
  Nat.rec (motive := fun _ => Rf) (rn0 X)
    (fun _ ih m Q S l t a b c p => match m with
      | .c k => rnc X G ih k Q S l t a b c p
      | .o ops r => rno X G ih ops r Q S l t a b c p
      | .e e => rne ih e S l t a b c p
      | .q ops Gq n L => match z with
        | true => rnq X G ih ops Gq n L Q S l t a b c p
        | false => none) n

section
variable {X : Cx} {G : List Asn} {l : List (Nat × Value)}
theorem ldk_at {cs : List Value} {n : Nat} {g : Bool} {j : Nat} {v : Value} (h : ldk cs n g j = some v) : ∃ cs', (cs.drop j).take n = cs' ∧ cs'.length = n ∧ (g = true ∨ n = 1) ∧ v = (if g then .agg cs'.toArray else cs'.headD undef) := by
  unfold ldk at h
  split at h
  · split at h
    · rename_i r hr
      simp at h
      obtain ⟨h1, h2⟩ := cutl_eq _ _ _ _ hr
      exact ⟨r, h1, h2, .inl rfl, by simp [h]⟩
    · cases h
  · split at h
    · rename_i hn
      have hn := Nat.eq_of_beq_eq_true hn
      subst hn
      rw [nth_eq] at h
      obtain ⟨hj, hv⟩ := List.getElem?_eq_some_iff.1 h
      refine ⟨[v], ?_, rfl, .inr rfl, by simp⟩
      rw [List.drop_eq_getElem_cons hj, hv]; rfl
    · cases h
theorem evo_ok {t t' : List Nat} {a b a' b' : List Addr} {p p' : Prop} {op : Op} {v : Value} (h : evo X G l t a b p op = some (v, t', a', b', p')) (hp : p') (hab : a' = b') :
    p ∧ a = b ∧ ∀ o : Oper, o.op = op → Ev X o l G v := by
  unfold evo at h
  split at h
  case h_1 x =>
    split at h
    · rename_i v' hv; simp only [Option.some.injEq, Prod.mk.injEq] at h; obtain ⟨rfl, rfl, rfl, rfl, rfl⟩ := h; exact ⟨hp, hab, fun o ho => mv ho hv⟩
    · cases h
  case h_2 x =>
    split at h
    · rename_i v' hv; simp only [Option.some.injEq, Prod.mk.injEq] at h; obtain ⟨rfl, rfl, rfl, rfl, rfl⟩ := h; exact ⟨hp, hab, fun o ho => as_ ho hv⟩
    · cases h
  case h_3 ty x =>
    split at h
    · rename_i c hv; simp only [Option.some.injEq, Prod.mk.injEq] at h; obtain ⟨rfl, rfl, rfl, rfl, rfl⟩ := h; exact ⟨hp, hab, fun o ho => nt ho hv⟩
    · cases h
  case h_4 x =>
    split at h
    · rename_i q hv; simp only [Option.some.injEq, Prod.mk.injEq] at h; obtain ⟨rfl, rfl, rfl, rfl, rfl⟩ := h; exact ⟨hp, hab, fun o ho => nc ho hv⟩
    · cases h
  case h_5 z ty x y ty' =>
    split at h
    · rename_i k m hx
      split at h
      · rename_i k' n hy
        split at h
        · rename_i hk
          obtain rfl := kb_eq hk
          split at h
          · rename_i c hc; simp only [Option.some.injEq, Prod.mk.injEq] at h; obtain ⟨rfl, rfl, rfl, rfl, rfl⟩ := h; exact ⟨hp, hab, fun o ho => cm ho hx hy hc⟩
          · cases h
        · cases h
      · cases h
    · cases h
  case h_6 c =>
    obtain ⟨cal, args, tys⟩ := c
    simp only at h
    split at h
    · split at h
      · rename_i x hx
        split at h
        · rename_i ty hty
          split at h
          · rename_i e he
            split at h
            · rename_i A n cc hv
              simp only [Option.some.injEq, Prod.mk.injEq] at h; obtain ⟨rfl, rfl, rfl, rfl, rfl⟩ := h
              have e1 : args = #[x] := by rw [← Array.toArray_toList (xs := args), hx]
              have e2 : tys = #[ty] := by rw [← Array.toArray_toList (xs := tys), hty]
              subst e1; subst e2
              exact ⟨hp, hab, fun o ho => ln he ho hv⟩
            · cases h
          · cases h
        · cases h
      · cases h
    · cases h
  case h_7 s x i =>
    split at h
    · rename_i n hn
      split at h
      · rename_i q hv; simp only [Option.some.injEq, Prod.mk.injEq] at h; obtain ⟨rfl, rfl, rfl, rfl, rfl⟩ := h; exact ⟨hp, hab, fun o ho => fa hn ho hv⟩
      · cases h
    · cases h
  case h_8 x i =>
    split at h
    · rename_i vs hv
      split at h
      · rename_i u hu; simp only [Option.some.injEq, Prod.mk.injEq] at h; obtain ⟨rfl, rfl, rfl, rfl, rfl⟩ := h
        rw [nth_eq] at hu
        exact ⟨hp, hab, fun o ho => ex (vs := vs.toList) ho (by simpa using hv) hu⟩
      · cases h
    · cases h
  case h_9 ty x =>
    split at h
    · rename_i n g hs
      split at h
      · rename_i q hv
        split at h
        · rename_i k j t''
          split at h
          · rename_i A hA
            rw [nth_eq] at hA
            split at h
            · rename_i r cs hsh
              have hhold : ∀ w, St X.w0 w G → r.spot = none ∧ ∀ (j : Nat) (v : Value), cs[j]? = some v → w.cell? ⟨r.block, r.off + j, none⟩ = some v := fun w hw => by
                have := A.shp w (hw.at k hA); rw [hsh] at this; exact this
              split at h
              · split at h
                · rename_i u hu
                  simp only [Option.some.injEq, Prod.mk.injEq] at h; obtain ⟨rfl, rfl, rfl, rfl, rfl⟩ := h
                  simp at hab
                  obtain ⟨rfl, rfl⟩ := hab
                  obtain ⟨cs', h1, h2, h3, rfl⟩ := ldk_at hu
                  refine ⟨hp, rfl, fun o ho => ldv cs' ho hs hv h2 h3 fun w hw i u hi => ?_⟩
                  obtain ⟨hs0, hc⟩ := hhold w hw
                  have h4 := add_at (p := q) (n := 0) (j := i) hs0
                  have h5 : q.add 0 = q := rfl
                  rw [h5] at h4
                  rw [h4, Nat.zero_add]
                  subst h1
                  rw [List.getElem?_take] at hi
                  split at hi
                  · exact hc _ _ (by simpa using hi)
                  · cases hi
                · cases h
              · rename_i j
                split at h
                · rename_i u hu
                  simp only [Option.some.injEq, Prod.mk.injEq] at h; obtain ⟨rfl, rfl, rfl, rfl, rfl⟩ := h
                  simp at hab
                  obtain ⟨rfl, rfl⟩ := hab
                  obtain ⟨cs', h1, h2, h3, rfl⟩ := ldk_at hu
                  refine ⟨hp, rfl, fun o ho => ldv cs' ho hs hv h2 h3 fun w hw i u hi => ?_⟩
                  obtain ⟨hs0, hc⟩ := hhold w hw
                  rw [add_at (p := r) (n := j) (j := i) hs0]
                  subst h1
                  rw [List.getElem?_take] at hi
                  split at hi
                  · rw [List.getElem?_drop] at hi; exact hc _ _ hi
                  · cases hi
                · cases h
            · rename_i r cs hsh
              split at h
              · rename_i r' j
                split at h
                · rename_i u hu
                  simp only [Option.some.injEq, Prod.mk.injEq] at h; obtain ⟨rfl, rfl, rfl, rfl, rfl⟩ := h
                  simp at hab
                  obtain ⟨rfl, rfl⟩ := hab
                  obtain ⟨cs', h1, h2, h3, rfl⟩ := ldk_at hu
                  refine ⟨hp, rfl, fun o ho => ldv cs' ho hs hv h2 h3 fun w hw i u hi => ?_⟩
                  obtain ⟨e, he⟩ : ∃ e, w.heap[r']? = some (.cells cs.toArray e (0, 0)) := by
                    have := A.shp w (hw.at k hA); rw [hsh] at this; exact this
                  have h4 := add_at (p := ⟨r', j, none⟩) (n := 0) (j := i) rfl
                  have h5 : (⟨r', j, none⟩ : Addr).add 0 = ⟨r', j, none⟩ := rfl
                  rw [h5] at h4
                  rw [h4, Nat.zero_add]
                  refine cell_blk he ?_
                  subst h1
                  rw [List.getElem?_take] at hi
                  split at hi
                  · rwa [List.getElem?_drop] at hi
                  · cases hi
                · cases h
              · cases h
            · cases h
          · cases h
        · cases h
      · cases h
    · cases h
  case h_10 c x y =>
    split at h
    · rename_i d hc
      split at h
      · split at h
        · rename_i u hu; simp only [Option.some.injEq, Prod.mk.injEq] at h; obtain ⟨rfl, rfl, rfl, rfl, rfl⟩ := h
          exact ⟨hp.2, hab, fun o ho => pk (b := false) ho hc hp.1 (by simpa using hu)⟩
        · cases h
      · split at h
        · rename_i u hu; simp only [Option.some.injEq, Prod.mk.injEq] at h; obtain ⟨rfl, rfl, rfl, rfl, rfl⟩ := h
          exact ⟨hp.2, hab, fun o ho => pk (b := true) ho hc hp.1 (by simpa using hu)⟩
        · cases h
      · cases h
    · cases h
  case h_11 => cases h
theorem gdo_ok {ops : Array Oper} {g : Nat} {w : Bool} {e : Nat} {a : Act} (hk : Knows X.K l a) {o : Oper} (ho : o.guard = some (g, w)) :
    (∀ P, gdo ops l g w e = .y P → P → Region.wanted o (yielded ops a.tmps) = true) ∧ (∀ P, gdo ops l g w e = .n P → P → Region.wanted o (yielded ops a.tmps) = false) ∧ (gdo ops l g w e = .u → Region.wanted o (yielded ops a.tmps) = false) := by
  unfold gdo
  split
  · rename_i og hg
    rw [nth_eq, Array.getElem?_toList] at hg
    split
    · rename_i gd hd
      have hgd : (ops[g]?).bind (·.dst) = some gd := by rw [hg]; exact hd
      split
      · rename_i c hl
        have hv := hk.2.2 gd _ hl
        have hy : yielded ops a.tmps g = some c := by unfold yielded; rw [hgd]; simp [hv]
        split
        · exact ⟨fun P h => (by cases h), fun P h hP => by
            simp only [Gd.n.injEq] at h
            subst h; subst hP; cases w <;> simp [Region.wanted, ho, hy], fun h => by cases h⟩
        · exact ⟨fun P h hP => (by
            simp only [Gd.y.injEq] at h
            subst h; subst hP; simp [Region.wanted, ho, hy]), fun P h => (by cases h), fun h => by cases h⟩
      · rename_i vs hl
        have hv := hk.2.2 gd _ hl
        have hy : yielded ops a.tmps g = none := by unfold yielded; rw [hgd]; simp [hv]
        split
        · exact ⟨fun P h => (by cases h), fun P h => (by cases h), fun h => by simp [Region.wanted, ho, hy]⟩
        · exact ⟨fun P h => (by cases h), fun P h => (by cases h), fun h => by cases h⟩
      · exact ⟨fun P h => (by cases h), fun P h => (by cases h), fun h => by cases h⟩
    · exact ⟨fun P h => (by cases h), fun P h => (by cases h), fun h => by cases h⟩
  · exact ⟨fun P h => (by cases h), fun P h => (by cases h), fun h => by cases h⟩
theorem evg_ok {ops : Array Oper} {t t' : List Nat} {a b a' b' : List Addr} {p p' : Prop} {o : Oper} {v : Value} (h : evg X G ops l t a b p o = some (v, t', a', b', p')) (hp : p') (hab : a' = b') :
    p ∧ a = b ∧ ((∀ c, o.op ≠ .defer c) ∨ v = undef) ∧ ∀ a, Knows X.K l a → YieldsC X.P ops (fun w => St X.w0 w G) o v a := by
  unfold evg at h
  split at h
  · rename_i hg
    obtain ⟨h1, h2, h3⟩ := evo_ok h hp hab
    refine ⟨h1, h2, .inl (fun c hc => ?_), fun a hk => .inl ⟨by simp [Region.wanted, hg], fun w hw => h3 o rfl a w hk hw⟩⟩
    unfold evo at h
    rw [hc] at h
    simp at h
  · rename_i g w hg
    split at h
    · rename_i e t''
      split at h
      · rename_i P hgd
        simp only [Option.some.injEq, Prod.mk.injEq] at h; obtain ⟨rfl, rfl, rfl, rfl, rfl⟩ := h
        exact ⟨hp.2, hab, .inr rfl, fun a hk => .inr ⟨(gdo_ok hk hg).2.1 P hgd hp.1, rfl⟩⟩
      · rename_i hgd
        simp only [Option.some.injEq, Prod.mk.injEq] at h; obtain ⟨rfl, rfl, rfl, rfl, rfl⟩ := h
        exact ⟨hp, hab, .inr rfl, fun a hk => .inr ⟨(gdo_ok hk hg).2.2 hgd, rfl⟩⟩
      · rename_i P hgd
        obtain ⟨h1, h2, h3⟩ := evo_ok h hp hab
        refine ⟨h1.2, h2, .inl (fun c hc => ?_), fun a hk => .inl ⟨(gdo_ok hk hg).1 P hgd h1.1, fun w hw => h3 o rfl a w hk hw⟩⟩
        unfold evo at h
        rw [hc] at h
        simp at h
      · cases h
    · cases h
end

section
variable {X : Cx} {G : List Asn} {Q0 : Cont}
def Rs.ok (X : Cx) (G : List Asn) (R : Rs) : Prop := R.p ∧ R.a = R.b ∧ R.c = true ∧ SK X R.K R.l G
def Rk (X : Cx) (G : List Asn) (Q0 : Cont) (f : Rf) : Prop := ∀ m Q S l t a b c p R, Coh X Q0 Q S → f m Q S l t a b c p = some R → R.ok X G → p ∧ a = b ∧ c = true ∧ SK X (dm X Q m) l G
theorem rn0_ok : Rk X G Q0 (rn0 X) := by
  intro m Q S l t a b c p R hS h hR
  unfold rn0 at h
  split at h
  · split at h <;> (simp only [Option.some.injEq] at h; subst h; exact hR)
  · cases h
variable {ih : Rf} {Q : Cont} {S : List Fr} {l : List (Nat × Value)} {t : List Nat} {a b : List Addr} {c : Bool} {p : Prop} {R : Rs}
theorem rnc_ok (hi : Rk X G Q0 ih) (hS : Coh X Q0 Q S) {k : Code} (h : rnc X G ih k Q S l t a b c p = some R) (hR : R.ok X G) : p ∧ a = b ∧ c = true ∧ SK X (dm X Q (.c k)) l G := by
  unfold rnc at h
  split at h
  · obtain ⟨h1, h2, h3, h4⟩ := hi _ _ _ _ _ _ _ _ _ _ (hS.s _) h hR; exact ⟨h1, h2, h3, sq h4⟩
  · obtain ⟨h1, h2, h3, h4⟩ := hi _ _ _ _ _ _ _ _ _ _ hS h hR; exact ⟨h1, h2, h3, sk h4⟩
  · obtain ⟨h1, h2, h3, h4⟩ := hi _ _ _ _ _ _ _ _ _ _ (hS.b _) h hR; exact ⟨h1, h2, h3, bk h4⟩
  · obtain ⟨h1, h2, h3, h4⟩ := hi _ _ _ _ _ _ _ _ _ _ hS h hR; exact ⟨h1, h2, h3, xt h4⟩
  · obtain ⟨h1, h2, h3, h4⟩ := hi _ _ _ _ _ _ _ _ _ _ hS h hR; exact ⟨h1, h2, h3, rt h4⟩
  · split at h
    · rename_i v hv
      split at h
      · obtain ⟨h1, h2, h3, h4⟩ := hi _ _ _ _ _ _ _ _ _ _ hS h hR; exact ⟨h1.2, h2, h3, cf hv h1.1 h4⟩
      · obtain ⟨h1, h2, h3, h4⟩ := hi _ _ _ _ _ _ _ _ _ _ hS h hR; exact ⟨h1.2, h2, h3, ct hv h1.1 h4⟩
      · cases h
    · cases h
  · rename_i ops d
    split at h
    · obtain ⟨h1, h2, h3, h4⟩ := hi _ _ _ _ _ _ _ _ _ _ hS h hR; exact ⟨h1, h2, h3, rg (ops := ops.toList) h4⟩
    · split at h
      · rename_i hrd
        obtain ⟨h1, h2, h3, h4⟩ := hi _ _ _ _ _ _ _ _ _ _ hS h hR; exact ⟨h1, h2, h3, r0 (os := ops.toList) h4 hrd⟩
      · cases h
  · cases h
theorem wl_val {ops : Array Oper} {o : Oper} {r : List Oper} {v : Value} {d : Nat} (hd : o.dst = some d) (hN : d < X.N) (hn : (∀ c, o.op ≠ .defer c) ∨ v = undef)
    (hy : ∀ a, Knows X.K l a → YieldsC X.P ops (fun w => St X.w0 w G) o v a) (h : SL X ops Q r ((d, v) :: l) G) : SL X ops Q (o :: r) l G := by
  intro a w hk hs
  rcases hy a hk with ⟨hw, hv⟩ | ⟨hw, rfl⟩
  · refine wl_wanted hw (nd_of_value (hv w hs)) fun K hK => ?_
    unfold Oper.wp
    rw [hv w hs, Oper.upon_value, hd]
    exact hK _ _ (h _ _ (hk.put v hN) hs)
  · refine wl_unwanted hw ?_
    rw [hd]
    exact h _ _ (hk.put undef hN) hs
theorem rno_ok (hi : Rk X G Q0 ih) (hS : Coh X Q0 Q S) {ops : Array Oper} {r : List Oper} (h : rno X G ih ops r Q S l t a b c p = some R) (hR : R.ok X G) : p ∧ a = b ∧ c = true ∧ SK X (dm X Q (.o ops r)) l G := by
  unfold rno at h
  split at h
  · obtain ⟨h1, h2, h3, h4⟩ := hi _ _ _ _ _ _ _ _ _ _ hS h hR; exact ⟨h1, h2, h3, en h4⟩
  · rename_i o r
    split at h
    · rename_i d hd
      split at h
      · rename_i hN
        split at h
        · rename_i v t' a' b' p' he
          obtain ⟨h1, h2, h3, h4⟩ := hi _ _ _ _ _ _ _ _ _ _ hS h hR
          obtain ⟨k1, k2, k3, k4⟩ := evg_ok he h1 h2
          exact ⟨k1, k2, h3, wl_val hd (Nat.lt_of_lt_of_le (Nat.lt_succ_self _) (Nat.le_of_ble_eq_true hN)) k3 k4 h4⟩
        · cases h
      · cases h
    · cases h
theorem rne_ok (hi : Rk X G Q0 ih) (hS : Coh X Q0 Q S) {e : Exit} (h : rne ih e S l t a b c p = some R) (hR : R.ok X G) : p ∧ a = b ∧ c = true ∧ SK X (dm X Q (.e e)) l G := by
  cases hS with
  | n => cases h
  | s y hS =>
    simp only [rne] at h
    split at h
    · obtain ⟨h1, h2, h3, h4⟩ := hi _ _ _ _ _ _ _ _ _ _ hS h hR; exact ⟨h1, h2, h3, h4⟩
    · obtain ⟨h1, h2, h3, h4⟩ := hi _ _ _ _ _ _ _ _ _ _ hS h hR; exact ⟨h1, h2, h3, h4⟩
    · obtain ⟨h1, h2, h3, h4⟩ := hi _ _ _ _ _ _ _ _ _ _ hS h hR; exact ⟨h1, h2, h3, h4⟩
    · cases h
  | b id hS =>
    simp only [rne] at h
    split at h
    · obtain ⟨h1, h2, h3, h4⟩ := hi _ _ _ _ _ _ _ _ _ _ hS h hR; exact ⟨h1, h2, h3, h4⟩
    · split at h
      · rename_i hb
        obtain rfl := Nat.eq_of_beq_eq_true hb
        obtain ⟨h1, h2, h3, h4⟩ := hi _ _ _ _ _ _ _ _ _ _ hS h hR; exact ⟨h1, h2, h3, xb h4⟩
      · rename_i hb
        obtain ⟨h1, h2, h3, h4⟩ := hi _ _ _ _ _ _ _ _ _ _ hS h hR; exact ⟨h1, h2, h3, xo (Nat.ne_of_beq_eq_false hb) h4⟩
    · obtain ⟨h1, h2, h3, h4⟩ := hi _ _ _ _ _ _ _ _ _ _ hS h hR; exact ⟨h1, h2, h3, h4⟩
    · cases h
  | k K hS =>
    simp only [rne] at h
    split at h
    · obtain ⟨h1, h2, h3, h4⟩ := hi _ _ _ _ _ _ _ _ _ _ hS h hR; exact ⟨h1, h2, h3, h4⟩
    · obtain ⟨h1, h2, h3, h4⟩ := hi _ _ _ _ _ _ _ _ _ _ hS h hR; exact ⟨h1, h2, h3, h4⟩
    · cases h
theorem rnq_ok (hQ : Calm Q) (hi : Rk X G Q0 ih) (hS : Coh X Q0 Q S) {ops : Array Oper} {Gq : List Asn} {n : Nat} {L : Array Bool} (h : rnq X G ih ops Gq n L Q S l t a b c p = some R) (hR : R.ok X G) : p ∧ a = b ∧ c = true ∧ SK X (dm X Q (.q ops Gq n L)) l G := by
  unfold rnq at h
  split at h
  · obtain ⟨h1, h2, h3, h4⟩ := hi _ _ _ _ _ _ _ _ _ _ hS h hR
    simp only [Bool.and_eq_true] at h3
    obtain ⟨⟨ks, hG⟩, h1⟩ := h1
    exact ⟨h1, h2, h3.1, qe ks (List.isEmpty_iff.1 h3.2) hG h4⟩
  · rename_i i t
    split at h
    · rename_i n
      split at h
      · rename_i o ho
        rw [nth_eq, Array.getElem?_toList] at ho
        split at h
        · rename_i d hd
          split at h
          · rename_i hN
            split at h
            · rename_i v t' a' b' p' he
              obtain ⟨h1, h2, h3, h4⟩ := hi _ _ _ _ _ _ _ _ _ _ hS h hR
              obtain ⟨k1, k2, k3, k4⟩ := evg_ok he h1 h2
              simp only [Bool.and_eq_true] at h3
              obtain ⟨h3, ⟨hs, hf⟩, hr⟩ := h3
              refine ⟨k1, k2, h3, fun a w hk hst => ?_⟩
              exact wpAnyC_first ho (Region.noSelect_spec hs) (fun c a w h => hQ.out c a _ w (put_defers _ _ _) h) n L a w (Region.free_spec ho hf) (by simpa using hr)
                (k4 a hk) (by rw [hd]; exact h4 _ w (hk.put v (Nat.lt_of_lt_of_le (Nat.lt_succ_self _) (Nat.le_of_ble_eq_true hN))) hst)
            · cases h
          · cases h
        · cases h
      · cases h
    · cases h
  · cases h
theorem rnf_ok {z : Bool} (hz : z = true → Calm Q0) (n : Nat) : Rk X G Q0 (rnf X z G n) := by
  induction n with
  | zero => exact rn0_ok
  | succ n ih =>
    intro m Q S l t a b c p R hS h hR
    cases m with
    | c k => exact rnc_ok ih hS h hR
    | o ops r => exact rno_ok ih hS h hR
    | e e => exact rne_ok ih hS h hR
    | q ops Gq n L =>
      cases z with
      | true => exact rnq_ok (hS.calm (hz rfl)) ih hS h hR
      | false => cases h
end
class IsQ (X : Cx) (Q : Cont) (S : outParam (List Fr)) (Q0 : outParam Cont) : Prop where
  ok : Coh X Q0 Q S
instance (priority := 10) IsQ.n {X : Cx} {Q : Cont} : IsQ X Q [] Q := ⟨.n⟩
instance (priority := 500) IsQ.k {X : Cx} {Q Q0 : Cont} {K : Act → World → Prop} {S : List Fr} [h : IsQ X Q S Q0] : IsQ X (Exit.then K Q) (.k K Q :: S) Q0 := ⟨h.ok.k _⟩
instance IsQ.s {X : Cx} {Q Q0 : Cont} {y : Code} {S : List Fr} [h : IsQ X Q S Q0] : IsQ X (Exit.then (X.wp y Q) Q) (.s y Q :: S) Q0 := ⟨h.ok.s _⟩
instance IsQ.b {X : Cx} {Q Q0 : Cont} {id : Nat} {S : List Fr} [h : IsQ X Q S Q0] : IsQ X (Exit.inBlock id Q) (.b id Q :: S) Q0 := ⟨h.ok.b _⟩
class EqP (a b : Program) : Prop where
  eq : a = b
instance {a : Program} : EqP a a := ⟨rfl⟩
class IsK (X : Cx) (K : Act → World → Prop) (m : outParam Md) (Q : outParam Cont) (S : outParam (List Fr)) (Q0 : outParam Cont) : Prop where
  eq : K = dm X Q m
  ok : Coh X Q0 Q S
section
variable {X : Cx} {Q Q0 : Cont} {S : List Fr}
instance IsK.c {c : Code} [h : IsQ X Q S Q0] : IsK X (X.wp c Q) (.c c) Q S Q0 := ⟨rfl, h.ok⟩
instance IsK.o {ops : Array Oper} {r : List Oper} [h : IsQ X Q S Q0] : IsK X (X.wl ops Q r) (.o ops r) Q S Q0 := ⟨rfl, h.ok⟩
instance IsK.q {P : Program} {ops : Array Oper} {Gq : List Asn} {n : Nat} {L : Array Bool} [hP : EqP P X.P] [h : IsQ X Q S Q0] : IsK X (wpAnyC P ops (fun w => St X.w0 w Gq) Q n L) (.q ops Gq n L) Q S Q0 := ⟨by obtain ⟨rfl⟩ := hP; rfl, h.ok⟩
instance (priority := 500) IsK.ek {K : Act → World → Prop} {e : Exit} [h : IsQ X Q S Q0] : IsK X (Exit.then K Q e) (.e e) (Exit.then K Q) (.k K Q :: S) Q0 := ⟨rfl, h.ok.k _⟩
instance IsK.es {y : Code} {e : Exit} [h : IsQ X Q S Q0] : IsK X (Exit.then (X.wp y Q) Q e) (.e e) (Exit.then (X.wp y Q) Q) (.s y Q :: S) Q0 := ⟨rfl, h.ok.s _⟩
instance IsK.eb {id : Nat} {e : Exit} [h : IsQ X Q S Q0] : IsK X (Exit.inBlock id Q e) (.e e) (Exit.inBlock id Q) (.b id Q :: S) Q0 := ⟨rfl, h.ok.b _⟩
end
class IsC (Q : Cont) (z : outParam Bool) : Prop where
  ok : z = true → Calm Q
instance (priority := 10) IsC.n {Q : Cont} : IsC Q false := ⟨fun h => by cases h⟩
instance IsC.y {Q : Cont} [h : Calm Q] : IsC Q true := ⟨fun _ => h⟩
class IsR (X : Cx) (K : Act → World → Prop) (m : outParam Md) (Q : outParam Cont) (S : outParam (List Fr)) (z : outParam Bool) : Prop where
  eq : K = dm X Q m
  ok : ∃ Q0, Coh X Q0 Q S ∧ (z = true → Calm Q0)
instance {X : Cx} {K : Act → World → Prop} {m : Md} {Q : Cont} {S : List Fr} {Q0 : Cont} {z : Bool} [h : IsK X K m Q S Q0] [k : IsC Q0 z] : IsR X K m Q S z := ⟨h.eq, Q0, h.ok, k.ok⟩
theorem ik {X : Cx} {K : Act → World → Prop} {m : Md} {Q : Cont} {S : List Fr} {z : Bool} [i : IsR X K m Q S z] : IsR X K m Q S z := i
theorem sid {G : List Asn} : ∃ ks, pickAll ks G = G := ⟨List.replicate G.length 0, by
  induction G with
  | nil => rfl
  | cons A G ih => rw [List.length_cons, List.replicate_succ, pickAll_cons]; simpa using ih⟩
section
variable {X : Cx} {G : List Asn} {K K' : Act → World → Prop} {m : Md} {Q : Cont} {S : List Fr} {l l' : List (Nat × Value)} {a b : List Addr} {c z : Bool} {p : Prop}
theorem rp (hK : IsR X K m Q S z) (n : Nat) (t : List Nat) (h : rnf X z G n m Q S l t [] [] true True = some ⟨K', l', a, b, c, p⟩) (hp : p) (k : SK X K' l' G)
    (ha : a = b := by exact rfl) (hc : c = true := by kernel_rfl) : SK X K l G := by
  obtain ⟨he, Q0, hS, hz⟩ := hK
  rw [he]
  exact (rnf_ok hz n m Q S l t [] [] true True _ hS h ⟨hp, ha, hc, k⟩).2.2.2
theorem rn (hK : IsR X K m Q S z) (n : Nat) (t : List Nat) (h : rnf X z G n m Q S l t [] [] true True = some ⟨K', l', a, b, c, True⟩)  (k : SK X K' l' G)
    (ha : a = b := by exact rfl) (hc : c = true := by kernel_rfl) : SK X K l G := rp hK n t h trivial k ha hc
theorem r1_ {P1 : Prop} (hK : IsR X K m Q S z) (n : Nat) (t : List Nat) (h : rnf X z G n m Q S l t [] [] true True = some ⟨K', l', a, b, c, P1 ∧ True⟩) (h1 : P1) (k : SK X K' l' G)
    (ha : a = b := by exact rfl) (hc : c = true := by kernel_rfl) : SK X K l G := rp hK n t h ⟨h1, trivial⟩ k ha hc
theorem r2_ {P1 P2 : Prop} (hK : IsR X K m Q S z) (n : Nat) (t : List Nat) (h : rnf X z G n m Q S l t [] [] true True = some ⟨K', l', a, b, c, P2 ∧ P1 ∧ True⟩) (h1 : P1) (h2 : P2) (k : SK X K' l' G)
    (ha : a = b := by exact rfl) (hc : c = true := by kernel_rfl) : SK X K l G := rp hK n t h ⟨h2, h1, trivial⟩ k ha hc
theorem r3_ {P1 P2 P3 : Prop} (hK : IsR X K m Q S z) (n : Nat) (t : List Nat) (h : rnf X z G n m Q S l t [] [] true True = some ⟨K', l', a, b, c, P3 ∧ P2 ∧ P1 ∧ True⟩) (h1 : P1) (h2 : P2) (h3 : P3) (k : SK X K' l' G)
    (ha : a = b := by exact rfl) (hc : c = true := by kernel_rfl) : SK X K l G := rp hK n t h ⟨h3, h2, h1, trivial⟩ k ha hc
theorem r4_ {P1 P2 P3 P4 : Prop} (hK : IsR X K m Q S z) (n : Nat) (t : List Nat) (h : rnf X z G n m Q S l t [] [] true True = some ⟨K', l', a, b, c, P4 ∧ P3 ∧ P2 ∧ P1 ∧ True⟩) (h1 : P1) (h2 : P2) (h3 : P3) (h4 : P4) (k : SK X K' l' G)
    (ha : a = b := by exact rfl) (hc : c = true := by kernel_rfl) : SK X K l G := rp hK n t h ⟨h4, h3, h2, h1, trivial⟩ k ha hc
end
end
section

namespace Kd
variable {α β : Type}
def Seals (da db : Kd α) : Prop := da.sz = db.sz ∧ ∀ w cs x o s, da.Rel w cs x o s → ∃ s', (∀ b ∈ s', b ∈ o ∨ b ∈ s) ∧ db.Rel w cs x [] s'
theorem Seals.scal (enc : α → Value) (h1) : Seals (scal enc h1) (scal enc h1) := ⟨rfl, by rintro w cs x o s ⟨rfl, rfl, rfl⟩; exact ⟨[], by simp, rfl, rfl, rfl⟩⟩
theorem Seals.i64 : Seals Kd.i64 Kd.i64 := .scal _ (fun _ => rfl)
theorem Seals.bool : Seals Kd.bool Kd.bool := .scal _ (fun _ => rfl)
theorem Seals.via {da db : Kd β} (h : Seals da db) (g : α → β) : Seals (da.via g) (db.via g) := ⟨h.1, fun w cs x o s hr => h.2 w cs (g x) o s hr⟩
theorem Seals.cat {da db ea eb : Kd α} (h : Seals da db) (k : Seals ea eb) : Seals (da.cat ea) (db.cat eb) := by
  refine ⟨by show da.sz + ea.sz = db.sz + eb.sz; rw [h.1, k.1], ?_⟩
  rintro w cs x o s ⟨c1, c2, o1, o2, s1, s2, rfl, rfl, rfl, h1, h2⟩
  obtain ⟨t1, m1, r1⟩ := h.2 w c1 x o1 s1 h1
  obtain ⟨t2, m2, r2⟩ := k.2 w c2 x o2 s2 h2
  refine ⟨t1 ++ t2, fun b hb => ?_, c1, c2, [], [], t1, t2, rfl, rfl, rfl, r1, r2⟩
  simp only [List.mem_append]
  rcases List.mem_append.1 hb with hb | hb
  · rcases m1 b hb with h | h
    · exact .inl (.inl h)
    · exact .inr (.inl h)
  · rcases m2 b hb with h | h
    · exact .inl (.inr h)
    · exact .inr (.inr h)
theorem Seals.elems {da db : Kd α} (h : Seals da db) {w : World} {cs xs o s} (he : Elems da w cs xs o s) : ∃ s', (∀ b ∈ s', b ∈ o ∨ b ∈ s) ∧ Elems db w cs xs [] s' := by
  induction he with
  | nil => exact ⟨[], by simp, .nil⟩
  | cons h1 _ ih =>
    obtain ⟨t1, m1, r1⟩ := h.2 _ _ _ _ _ h1
    obtain ⟨t2, m2, r2⟩ := ih
    refine ⟨t1 ++ t2, fun b hb => ?_, by simpa using Elems.cons r1 r2⟩
    simp only [List.mem_append]
    rcases List.mem_append.1 hb with hb | hb
    · rcases m1 b hb with h | h
      · exact .inl (.inl h)
      · exact .inr (.inl h)
    · rcases m2 b hb with h | h
      · exact .inl (.inr h)
      · exact .inr (.inr h)
theorem Seals.row {da db : Kd α} (h : Seals da db) (e : TypeId) : Seals (row e da) (sl db) := by
  refine ⟨rfl, ?_⟩
  rintro w cs xs o s (⟨rfl, rfl, rfl, rfl⟩ | ⟨b, c, cur, o', rfl, rfl, hb, hc, hm, hz, he⟩)
  · exact ⟨[], by simp, rfl, none, 0, rfl, Nat.le_refl _, by simp, .inl ⟨rfl, rfl⟩⟩
  · obtain ⟨t, m, r⟩ := h.elems he
    refine ⟨b :: t, fun x hx => ?_, rfl, some ⟨b, 0, none⟩, c, rfl, hc, hm.2, .inr ⟨b, 0, _, t, rfl, rfl, (Array.getElem?_eq_some_iff.1 hb).1, r, fun j v hj => ?_⟩⟩
    · rcases List.mem_cons.1 hx with rfl | hx
      · exact .inl (List.mem_cons_self ..)
      · rcases m x hx with h | h
        · exact .inl (List.mem_cons_of_mem _ h)
        · exact .inr h
    · rw [List.getElem?_take] at hj
      split at hj
      · simp only [World.cell?, hb, Nat.zero_add]
        simpa using hj
      · cases hj
theorem Seals.refl_sl {d : Kd α} : Seals (sl d) (sl d) := ⟨rfl, by rintro w cs x o s h; obtain ⟨rfl, h2⟩ := h; exact ⟨s, fun b hb => .inr hb, rfl, h2⟩⟩
end Kd

structure Mod (w w' : World) (o : List Nat) : Prop where
  os : w'.os = w.os
  tape : w'.tape = w.tape
  output : w'.output = w.output
  size : w.heap.size ≤ w'.heap.size
  block : ∀ b, b < w.heap.size → b ∉ o → w'.heap[b]? = w.heap[b]?
  dn : w.drawn ≤ w'.drawn
theorem Mod.of_below {w w' : World} (h : Below w.heap.size w w') (o : List Nat) : Mod w w' o := ⟨h.os, h.tape, h.output, h.size, fun b hb _ => h.block b hb, h.dn⟩
theorem Mod.below {w w' : World} (h : Mod w w' []) : Below w.heap.size w w' := ⟨h.os, h.tape, h.output, h.size, fun b hb => h.block b hb (by simp), h.dn⟩
theorem Mod.refl (w : World) (o : List Nat) : Mod w w o := .of_below (.refl _ _) o
theorem Mod.mono {w w' : World} {o o' : List Nat} (h : Mod w w' o) (hs : ∀ b ∈ o, b ∈ o') : Mod w w' o' := ⟨h.os, h.tape, h.output, h.size, fun b hb hn => h.block b hb (fun hx => hn (hs b hx)), h.dn⟩
theorem Mod.trans {w w1 w2 : World} {o : List Nat} (h : Mod w w1 o) (k : Mod w1 w2 o) : Mod w w2 o :=
  ⟨k.os.trans h.os, k.tape.trans h.tape, k.output.trans h.output, Nat.le_trans h.size k.size, fun b hb hn => (k.block b (Nat.lt_of_lt_of_le hb h.size) hn).trans (h.block b hb hn), Nat.le_trans h.dn k.dn⟩
def owns (As : List Asn) : List Nat := As.flatMap (·.own)
theorem St.swap {w0 w w' : World} {As Bs G : List Asn} (h : St w0 w (As ++ G)) (hm : Mod w w' (owns As)) (hP : ∀ B ∈ Bs, B.P w')
    (ho : ∀ B ∈ Bs, ∀ b ∈ B.own, b ∈ owns As ∨ w.heap.size ≤ b) (hs : ∀ B ∈ Bs, ∀ b ∈ B.see, (∃ A ∈ As, b ∈ A.own ∨ b ∈ A.see) ∨ w.heap.size ≤ b)
    (hu : ∀ B ∈ Bs, B.own.Nodup ∧ ∀ b ∈ B.own, b ∉ B.see) (hp : Bs.Pairwise Apart) : St w0 w' (Bs ++ G) := by
  have hsep := List.pairwise_append.1 h.sep
  have hown : ∀ b, b ∈ owns As → w0.heap.size ≤ b := fun b hb => by
    obtain ⟨A, hA, hb⟩ := List.mem_flatMap.1 hb
    exact h.new A (List.mem_append_left _ hA) b hb
  have hfar : ∀ C ∈ G, ∀ b, b ∈ C.own ∨ b ∈ C.see → b ∉ owns As := fun C hC b hb hx => by
    obtain ⟨A, hA, hbA⟩ := List.mem_flatMap.1 hx
    have := (hsep.2.2 A hA C hC).1 b hbA
    rcases hb with hb | hb
    · exact this.1 hb
    · exact this.2 hb
  have hlt : ∀ C ∈ G, ∀ b, b ∈ C.own ∨ b ∈ C.see → b < w.heap.size := fun C hC b hb => h.lt (List.mem_append_right _ hC) hb
  refine ⟨?_, ?_, ?_, ?_, ?_⟩
  · refine ⟨hm.os.trans h.below.os, hm.tape.trans h.below.tape, hm.output.trans h.below.output, Nat.le_trans h.below.size hm.size, fun k hk => ?_, Nat.le_trans h.below.dn hm.dn⟩
    exact (hm.block k (Nat.lt_of_lt_of_le hk h.below.size) (fun hx => by have := hown k hx; omega)).trans (h.below.block k hk)
  · intro A hA
    rcases List.mem_append.1 hA with hA | hA
    · exact hP A hA
    · refine A.keep w w' hm.size (fun b hb => hm.block b (hlt A hA b (.inl hb)) (hfar A hA b (.inl hb))) (fun b hb => hm.block b (hlt A hA b (.inr hb)) (hfar A hA b (.inr hb))) (h.holds A (List.mem_append_right _ hA))
  · intro A hA b hb
    rcases List.mem_append.1 hA with hA | hA
    · rcases ho A hA b hb with h1 | h1
      · exact hown b h1
      · exact Nat.le_trans h.below.size h1
    · exact h.new A (List.mem_append_right _ hA) b hb
  · intro A hA
    rcases List.mem_append.1 hA with hA | hA
    · exact hu A hA
    · exact h.uniq A (List.mem_append_right _ hA)
  · refine List.pairwise_append.2 ⟨hp, hsep.2.1, fun B hB C hC => ⟨fun b hb => ?_, fun b hb hx => ?_⟩⟩
    · rcases ho B hB b hb with h1 | h1
      · exact ⟨fun hx => hfar C hC b (.inl hx) h1, fun hx => hfar C hC b (.inr hx) h1⟩
      · exact ⟨fun hx => by have := hlt C hC b (.inl hx); omega, fun hx => by have := hlt C hC b (.inr hx); omega⟩
    · rcases hs B hB b hx with ⟨A, hA, h1⟩ | h1
      · rcases h1 with h1 | h1
        · exact hfar C hC b (.inl hb) (List.mem_flatMap.2 ⟨A, hA, h1⟩)
        · exact (hsep.2.2 A hA C hC).2 b hb h1
      · have := hlt C hC b (.inl hb); omega

variable {X : Cx} {o : Oper} {l : List (Nat × Value)} {G G1 : List Asn} {v : Value} {ops : Array Oper} {Q : Exit → Act → World → Prop} {r : List Oper} {K : Act → World → Prop} {d : Nat}

theorem f1 {A0 B : Asn} (h : SK X K l (B :: A0 :: G)) : SK X K l (A0 :: B :: G) := fun a w hk hs => h a w hk (hs.perm (List.perm_middle (l₁ := [A0])))
theorem f2 {A0 A1 B : Asn} (h : SK X K l (B :: A0 :: A1 :: G)) : SK X K l (A0 :: A1 :: B :: G) := fun a w hk hs => h a w hk (hs.perm (List.perm_middle (l₁ := [A0, A1])))
theorem f3 {A0 A1 A2 B : Asn} (h : SK X K l (B :: A0 :: A1 :: A2 :: G)) : SK X K l (A0 :: A1 :: A2 :: B :: G) := fun a w hk hs => h a w hk (hs.perm (List.perm_middle (l₁ := [A0, A1, A2])))
theorem f4 {A0 A1 A2 A3 B : Asn} (h : SK X K l (B :: A0 :: A1 :: A2 :: A3 :: G)) : SK X K l (A0 :: A1 :: A2 :: A3 :: B :: G) := fun a w hk hs => h a w hk (hs.perm (List.perm_middle (l₁ := [A0, A1, A2, A3])))
theorem f5 {A0 A1 A2 A3 A4 B : Asn} (h : SK X K l (B :: A0 :: A1 :: A2 :: A3 :: A4 :: G)) : SK X K l (A0 :: A1 :: A2 :: A3 :: A4 :: B :: G) := fun a w hk hs => h a w hk (hs.perm (List.perm_middle (l₁ := [A0, A1, A2, A3, A4])))
theorem f6 {A0 A1 A2 A3 A4 A5 B : Asn} (h : SK X K l (B :: A0 :: A1 :: A2 :: A3 :: A4 :: A5 :: G)) : SK X K l (A0 :: A1 :: A2 :: A3 :: A4 :: A5 :: B :: G) := fun a w hk hs => h a w hk (hs.perm (List.perm_middle (l₁ := [A0, A1, A2, A3, A4, A5])))
theorem f7 {A0 A1 A2 A3 A4 A5 A6 B : Asn} (h : SK X K l (B :: A0 :: A1 :: A2 :: A3 :: A4 :: A5 :: A6 :: G)) : SK X K l (A0 :: A1 :: A2 :: A3 :: A4 :: A5 :: A6 :: B :: G) := fun a w hk hs => h a w hk (hs.perm (List.perm_middle (l₁ := [A0, A1, A2, A3, A4, A5, A6])))
theorem f8 {A0 A1 A2 A3 A4 A5 A6 A7 B : Asn} (h : SK X K l (B :: A0 :: A1 :: A2 :: A3 :: A4 :: A5 :: A6 :: A7 :: G)) : SK X K l (A0 :: A1 :: A2 :: A3 :: A4 :: A5 :: A6 :: A7 :: B :: G) := fun a w hk hs => h a w hk (hs.perm (List.perm_middle (l₁ := [A0, A1, A2, A3, A4, A5, A6, A7])))
theorem f9 {A0 A1 A2 A3 A4 A5 A6 A7 A8 B : Asn} (h : SK X K l (B :: A0 :: A1 :: A2 :: A3 :: A4 :: A5 :: A6 :: A7 :: A8 :: G)) : SK X K l (A0 :: A1 :: A2 :: A3 :: A4 :: A5 :: A6 :: A7 :: A8 :: B :: G) := fun a w hk hs => h a w hk (hs.perm (List.perm_middle (l₁ := [A0, A1, A2, A3, A4, A5, A6, A7, A8])))
theorem f10 {A0 A1 A2 A3 A4 A5 A6 A7 A8 A9 B : Asn} (h : SK X K l (B :: A0 :: A1 :: A2 :: A3 :: A4 :: A5 :: A6 :: A7 :: A8 :: A9 :: G)) : SK X K l (A0 :: A1 :: A2 :: A3 :: A4 :: A5 :: A6 :: A7 :: A8 :: A9 :: B :: G) := fun a w hk hs => h a w hk (hs.perm (List.perm_middle (l₁ := [A0, A1, A2, A3, A4, A5, A6, A7, A8, A9])))
theorem f11 {A0 A1 A2 A3 A4 A5 A6 A7 A8 A9 A10 B : Asn} (h : SK X K l (B :: A0 :: A1 :: A2 :: A3 :: A4 :: A5 :: A6 :: A7 :: A8 :: A9 :: A10 :: G)) : SK X K l (A0 :: A1 :: A2 :: A3 :: A4 :: A5 :: A6 :: A7 :: A8 :: A9 :: A10 :: B :: G) := fun a w hk hs => h a w hk (hs.perm (List.perm_middle (l₁ := [A0, A1, A2, A3, A4, A5, A6, A7, A8, A9, A10])))
theorem f14 {A0 A1 A2 A3 A4 A5 A6 A7 A8 A9 A10 A11 A12 A13 B : Asn} (h : SK X K l (B :: A0 :: A1 :: A2 :: A3 :: A4 :: A5 :: A6 :: A7 :: A8 :: A9 :: A10 :: A11 :: A12 :: A13 :: G)) : SK X K l (A0 :: A1 :: A2 :: A3 :: A4 :: A5 :: A6 :: A7 :: A8 :: A9 :: A10 :: A11 :: A12 :: A13 :: B :: G) := fun a w hk hs => h a w hk (hs.perm (List.perm_middle (l₁ := [A0, A1, A2, A3, A4, A5, A6, A7, A8, A9, A10, A11, A12, A13])))
theorem gl {α : Type} {da db : Kd α} {cs : List Value} {x : α} {o s : List Nat} (hS : Kd.Seals da db) (h : ∀ s', (∀ b ∈ s', b ∈ s ∨ X.w0.heap.size ≤ b) → SK X K l (dat db cs x [] s' :: G)) : SK X K l (dat da cs x o s :: G) := fun a w hk hs => by
  obtain ⟨s', hs', hr⟩ := hS.2 w cs x o s (hs.holds (dat da cs x o s) (by simp))
  refine h s' (fun b hb => (hs' b hb).elim (fun h => .inr (hs.new (dat da cs x o s) (by simp) b h)) .inl) a w hk (hs.swap (As := [dat da cs x o s]) (Bs := [dat db cs x [] s']) (.refl _ _) ?_ ?_ ?_ ?_ (by simp))
  · intro B hB; simp at hB; subst hB; exact hr
  · intro B hB b hb; simp at hB; subst hB; cases hb
  · intro B hB b hb; simp at hB; subst hB; exact .inl ⟨dat da cs x o s, by simp, hs' b hb⟩
  · intro B hB; simp at hB; subst hB; exact ⟨.nil, fun b hb => by cases hb⟩
theorem gj {α : Type} {da db : Kd α} {c1 c2 cs : List Value} {x : α} {o1 o2 s1 s2 : List Nat} (hc : c1 ++ c2 = cs) (h : SK X K l (dat (da.cat db) cs x (o1 ++ o2) (s1 ++ s2) :: G)) : SK X K l (dat da c1 x o1 s1 :: dat db c2 x o2 s2 :: G) := fun a w hk hs => by
  subst hc
  refine h a w hk (hs.swap (As := [dat da c1 x o1 s1, dat db c2 x o2 s2]) (Bs := [dat (da.cat db) (c1 ++ c2) x (o1 ++ o2) (s1 ++ s2)]) (.refl _ _) ?_ ?_ ?_ ?_ (by simp))
  · intro B hB; simp at hB; subst hB; exact ⟨c1, c2, o1, o2, s1, s2, rfl, rfl, rfl, hs.holds (dat da c1 x o1 s1) (by simp), hs.holds (dat db c2 x o2 s2) (by simp)⟩
  · intro B hB b hb; simp at hB; subst hB; exact .inl (by simpa [owns, dat] using hb)
  · intro B hB b hb
    simp at hB; subst hB
    rcases List.mem_append.1 hb with hb | hb
    · exact .inl ⟨dat da c1 x o1 s1, by simp, .inr hb⟩
    · exact .inl ⟨dat db c2 x o2 s2, by simp, .inr hb⟩
  · intro B hB
    simp at hB; subst hB
    have h1 := hs.uniq (dat da c1 x o1 s1) (by simp)
    have h2 := hs.uniq (dat db c2 x o2 s2) (by simp)
    have h3 : Apart (dat da c1 x o1 s1) (dat db c2 x o2 s2) := (List.pairwise_cons.1 hs.sep).1 _ (by simp)
    refine ⟨List.nodup_append.2 ⟨h1.1, h2.1, fun a ha b hb e => (h3.1 a ha).1 (e ▸ hb)⟩, fun b hb => ?_⟩
    show b ∉ s1 ++ s2
    rw [List.mem_append]
    rcases List.mem_append.1 hb with hb | hb
    · rintro (hx | hx)
      · exact h1.2 b hb hx
      · exact (h3.1 b hb).2 hx
    · rintro (hx | hx)
      · exact h3.2 b hb hx
      · exact h2.2 b hb hx
theorem gs {α : Type} (da : Kd α) (cs : List Value) (x : α) (hr : ∀ w, da.Rel w cs x [] []) (h : SK X K l (dat da cs x [] [] :: G)) : SK X K l G := fun a w hk hs =>
  h a w hk (hs.cons (hr w) (by simp [dat]) (by simp [dat]) (fun B _ => ⟨by simp [dat], by simp [dat]⟩))

theorem run_zero {P : Program} {t : TypeId} {z : Value} (h : (P.info? t).bind (·.zero) = some z) (w : World) : (zeroValue t).run P w = .ok z w := by
  cases hi : P.info? t with
  | none => simp [hi] at h
  | some i => simp [hi] at h; simp [zeroValue, typeInfo, hi, h]
theorem al {t : TypeId} {z : Value} {cs : List Value} (hz : (X.P.info? t).bind (·.zero) = some z) (ho : o.op = .alloc t) (hc : z.cells = cs.toArray) (hp : pl X.N o = some d)
    (h : ∀ b, SL X ops Q r ((d, .pointer (some ⟨b, 0, none⟩)) :: l) (blk b cs t :: G)) : SL X ops Q (o :: r) l G := fun a w hk hs => by
  obtain ⟨hd, hN, hg⟩ := pl_spec hp
  refine wl_plain hg fun K hK => ?_
  unfold Oper.wp execOp
  have h1 := run_zero hz w
  simp only [ho, Instr.alloc, newVar, newRow, newObj, Sem.run_bind, h1, Result.andThen_ok]
  simp only [hc]
  exact hK _ _ (by rw [hd]; exact h w.heap.size _ _ (hk.put _ hN) (hs.alloc cs t))
def splice (cs : List Value) (off : Nat) (vs : List Value) : List Value := cs.take off ++ vs ++ cs.drop (off + vs.length)
theorem run_storeAt {P : Program} {T : Tab} (ok : T.check P = true) {t n : Nat} {b : Bool} (ht : look T.size t = some (n, b)) (w : World) (g off : Nat) (e : TypeId) (v : Value) (vs : List Value) (hv : v.cells = vs.toArray) (hl : vs.length = n) (cs : List Value)
    (hg : w.heap[g]? = some (.cells cs.toArray e (0, 0))) (hle : off + n ≤ cs.length) (h1 : ∀ u ∈ vs, u.oneCell' = true) :
    (Instr.storeAt t (.pointer (some ⟨g, off, none⟩)) v).run P w = .ok () (w.setRow g (splice cs off vs).toArray) := by
  obtain ⟨d, i, hd, hag, hi, hn⟩ := Tab.sizeOk ok ht
  have h2 := run_storeCells_at (P := P) g off e vs 0 cs.toArray w hg (by simp; omega) h1
  simp only [Nat.add_zero] at h2
  subst hl
  simp [Instr.storeAt, Instr.sureAddr, storeVar, sizeOf, typeInfo, hi, hv, hn, splice]
  simpa using h2
theorem mod_setRow {w : World} {g : Nat} {cs : Array Value} : Mod w (w.setRow g cs) [g] :=
  ⟨rfl, rfl, rfl, by simp, fun b _ hn => setRow_other w g b cs (by simpa using hn), Nat.le_refl _⟩
theorem sto {t n off g : Nat} {b : Bool} {x y : Operand} {cs cs' vs : List Value} {e : TypeId} {v : Value} {ty : TypeId} {ps : String} {af : Array Edge} (ht : look X.T.size t = some (n, b))
    (hx : ev l x = some (.pointer (some ⟨g, off, none⟩))) (hy : ev l y = some v) (hv : v.cells = vs.toArray) (hl : vs.length = n) (hle' : Nat.ble (off + n) cs.length = true) (h1 : vs.all (·.oneCell') = true) (hc : splice cs off vs = cs')
    (h : SL X ops Q r l (blk g cs' e :: G1)) : SL X ops Q (⟨none, .store t x y, ty, ps, af, none⟩ :: r) l (blk g cs e :: G1) := fun a w hk' hs1 => by
  have hle := Nat.le_of_ble_eq_true hle'
  refine wl_plain rfl fun K hK => ?_
  have hg : w.heap[g]? = some (.cells cs.toArray e (0, 0)) := hs1.holds (blk g cs e) (by simp)
  have h2 := run_storeAt X.ok ht w g off e v vs hv hl cs hg hle (by simpa using h1)
  unfold Oper.wp execOp
  simp only [hk'.ev hx, hk'.ev hy, Sem.run_bind, h2, Result.andThen_ok]
  subst hc
  refine hK _ _ (h _ _ hk' (hs1.swap (As := [blk g cs e]) (Bs := [blk g (splice cs off vs) e]) (by simpa [owns, blk] using mod_setRow) ?_ ?_ ?_ ?_ (by simp)))
  · intro B hB; simp at hB; subst hB; exact setRow_heap w g _ _ e _ hg
  · intro B hB b hb; simp at hB; subst hB; exact .inl (by simpa [owns, blk] using hb)
  · intro B hB b hb; simp at hB; subst hB; cases hb
  · intro B hB; simp at hB; subst hB; exact ⟨by simp [blk], by simp [blk]⟩

def valof : List Value → Value
  | [c] => c
  | cs => .agg cs.toArray
def Made {α : Type} (dk : Kd α) (w : World) (x : α) (S : List Nat) (e : Ending) (w' : World) : Prop :=
  Below w.heap.size w w' ∧ ∃ cs o s, e = .returned (valof cs) ∧ dk.Rel w' cs x o s ∧ (∀ b ∈ o, w.heap.size ≤ b) ∧ o.Nodup ∧ (∀ b ∈ o, b ∉ s) ∧ ∀ b ∈ s, b ∈ S ∨ w.heap.size ≤ b
def enters (P : Program) (f : FuncId) : Bool := match P.funcs[f]? with
  | some fn => fn.body.isSome && !(fn.name == "runtime.NumGoroutine")
  | none => false
theorem enters_spec {P : Program} {f : FuncId} (h : enters P f = true) : ∃ fn, P.funcs[f]? = some fn ∧ fn.body.isSome = true ∧ (fn.name == "runtime.NumGoroutine") = false := by
  unfold enters at h
  split at h
  · rename_i fn hf; simp only [Bool.and_eq_true, Bool.not_eq_true'] at h; exact ⟨fn, hf, h.1, h.2⟩
  · cases h
theorem cs_ {f : FuncId} {args : List Operand} {ts : Array TypeId} {vs : List Value} {v : Value} (hE : enters X.P f = true)
    (ho : o.op = .call { callee := .value (.func f), args := args.toArray, argTypes := ts }) (hv : evs l args = some vs) (hp : pl X.N o = some d)
    (hc : ∀ w, St X.w0 w G → Calls X.P f vs.toArray w (fun e w' => e = .returned v ∧ Below w.heap.size w w'))
    (h : SL X ops Q r ((d, v) :: l) G) : SL X ops Q (o :: r) l G := by
  obtain ⟨fn, h1, h2, h3⟩ := enters_spec hE
  exact cl h1 h2 h3 ho hv hp hc h
theorem cm_ {α : Type} {dk : Kd α} {x : α} {S : List Nat} {f : FuncId} {args : List Operand} {ts : Array TypeId} {vs : List Value} (hE : enters X.P f = true)
    (ho : o.op = .call { callee := .value (.func f), args := args.toArray, argTypes := ts }) (hv : evs l args = some vs) (hp : pl X.N o = some d)
    (hS : ∀ b ∈ S, ∃ A ∈ G, b ∈ A.see)
    (hc : ∀ w, St X.w0 w G → Calls X.P f vs.toArray w (Made dk w x S))
    (h : ∀ cs o s w, dk.Rel w cs x o s → (∀ b ∈ s, b ∈ S ∨ X.w0.heap.size ≤ b) → SL X ops Q r ((d, valof cs) :: l) (dat dk cs x o s :: G)) : SL X ops Q (o :: r) l G := by
  obtain ⟨fn, h1, h2, h3⟩ := enters_spec hE
  refine clx ho h1 h2 h3 hv hp fun a w hk hs => (hc w hs).mono ?_
  rintro e w' ⟨hb, cs, ow, se, rfl, hr, hn, hnd, hdis, hse⟩
  refine ⟨_, rfl, fun a' ha' => h cs ow se w' hr (fun b hb => (hse b hb).imp_right (Nat.le_trans hs.below.size)) a' w' ha' ?_⟩
  refine (hs.step hb).cons hr (fun b hb' => Nat.le_trans hs.below.size (hn b hb')) ⟨hnd, hdis⟩ (fun B hB => ⟨fun b hb' => ?_, fun b hb' hx => ?_⟩)
  · have := hn b hb'
    exact ⟨fun hx => by have := hs.lt hB (.inl hx); omega, fun hx => by have := hs.lt hB (.inr hx); omega⟩
  · rcases hse b hx with h4 | h4
    · obtain ⟨A, hA, h5⟩ := hS b h4
      by_cases hAB : A = B
      · subst hAB; exact (hs.uniq A hA).2 b hb' h5
      · obtain ⟨i, hi, rfl⟩ := List.getElem_of_mem hA
        obtain ⟨j, hj, rfl⟩ := List.getElem_of_mem hB
        have hne : i ≠ j := fun e => hAB (by subst e; rfl)
        have hp := List.pairwise_iff_getElem.1 hs.sep
        rcases Nat.lt_or_gt_of_ne hne with hlt | hlt
        · exact (hp i j hi hj hlt).2 b hb' h5
        · exact ((hp j i hj hi hlt).1 b hb').2 h5
    · have := hs.lt hB (.inl hb'); omega
theorem sn0 : ∀ b ∈ ([] : List Nat), ∃ A ∈ G, b ∈ A.see := fun b hb => by cases hb
theorem sna {a b : List Nat} (h1 : ∀ x ∈ a, ∃ A ∈ G, x ∈ A.see) (h2 : ∀ x ∈ b, ∃ A ∈ G, x ∈ A.see) : ∀ x ∈ a ++ b, ∃ A ∈ G, x ∈ A.see := fun x hx => (List.mem_append.1 hx).elim (h1 x) (h2 x)

theorem see_app {p : Nat → Prop} {a b : List Nat} (h1 : ∀ x ∈ a, p x) (h2 : ∀ x ∈ b, p x) : ∀ x ∈ a ++ b, p x := fun x hx => (List.mem_append.1 hx).elim (h1 x) (h2 x)
theorem see_nil {p : Nat → Prop} : ∀ x ∈ ([] : List Nat), p x := fun x hx => by cases hx
theorem gr {α : Type} {dk : Kd α} {cs : List Value} {x : α} (x' : α) {o s : List Nat} (hx : x = x') (h : SK X K l (dat dk cs x' o s :: G)) : SK X K l (dat dk cs x o s :: G) := hx ▸ h
theorem results_cell {P : Program} {fn : Func} {t : Tmp} {ty : TypeId} (h : fn.results = #[.cell t ty]) (tmps : Array Value) (w : World) {p : Addr} (ht : tmps[t]? = some (.pointer (some p))) {v : Value} (hl : (loadVar ty p).run P w = .ok v w) :
    (results fn tmps).run P w = .ok v w := by
  simp [results, h, ht, hl, asAddr, Array.getD_eq_getD_getElem?]
theorem retc {fn : Func} {t ty n g : Nat} {b : Bool} {cs : List Value} {e : TypeId} {R : Ending → World → Prop} (k : Nat) (hr : fn.results = #[.cell t ty]) (ht : look X.T.size ty = some (n, b)) (hv : look l t = some (.pointer (some ⟨g, 0, none⟩)))
    (hk : G[k]? = some (blk g cs e)) (hl : cs.length = n) (hb : b = true) (h : ∀ w, St X.w0 w G → R (.returned (.agg cs.toArray)) w) (hdf : X.df = [] := by rfl) :
    SK X (bodyPost X.P fn R .ret) l G := fun a w hk' hs => by
  subst hb
  have h1 : w.heap[g]? = some (.cells cs.toArray e (0, 0)) := hs.at k hk
  have h2 := run_loadVar_at X.ok ht w ⟨g, 0, none⟩ cs hl (fun j v hj => by
    have h2 : (⟨g, 0, none⟩ : Addr).add j = ⟨g, j, none⟩ := by unfold Addr.add; split <;> simp_all
    rw [h2]; exact cell_blk h1 hj) (.inl rfl)
  exact bodyPost_ret (results_cell hr a.tmps w (hk'.2.2 t _ hv) (by simpa using h2)) (hk'.1.trans hdf) (h w hs)
theorem made {α : Type} {dk : Kd α} {w0 w : World} {x : α} {S : List Nat} {v : Value} {cs : List Value} {o s : List Nat} (hs : St w0 w (dat dk cs x o s :: G)) (hc : v = valof cs) (hS : ∀ b ∈ s, b ∈ S ∨ w0.heap.size ≤ b) : Made dk w0 x S (.returned v) w :=
  ⟨hs.below, cs, o, s, by rw [hc], hs.holds (dat dk cs x o s) (by simp), hs.new (dat dk cs x o s) (by simp), (hs.uniq (dat dk cs x o s) (by simp)).1, (hs.uniq (dat dk cs x o s) (by simp)).2, hS⟩
def S0 (w : World) (G : List Asn) : Prop := St w w G ∧ ∀ B ∈ G, B.own = []
theorem s0n (w : World) : S0 w [] := ⟨.nil (.refl _ _), by simp⟩
theorem s0d {w : World} {α : Type} {dk : Kd α} {cs : List Value} {x : α} {s : List Nat} (hr : dk.Rel w cs x [] s) (h : S0 w G) : S0 w (dat dk cs x [] s :: G) :=
  ⟨h.1.cons hr (by simp [dat]) (by simp [dat]) (fun B hB => ⟨by simp [dat], by rw [h.2 B hB]; simp⟩), by simpa [dat] using h.2⟩
theorem s0p {w : World} {α : Type} {dk : Kd α} {p : Addr} {cs : List Value} {x : α} {s : List Nat} (hr : (ptr dk p cs x s).P w) (h : S0 w G) : S0 w (ptr dk p cs x s :: G) :=
  ⟨h.1.cons hr (by simp [ptr]) (by simp [ptr]) (fun B hB => ⟨by simp [ptr], by rw [h.2 B hB]; simp⟩), by simpa [ptr] using h.2⟩
end
section

theorem splice_take {cur cs : List Value} {off n : Nat} (h : off + cs.length ≤ n) (hn : n ≤ cur.length) : (splice cur off cs).take n = splice (cur.take n) off cs := by
  simp only [splice]
  have h1 : (cur.take off).length = off := by simp; omega
  rw [List.append_assoc, List.append_assoc, List.take_append, h1, List.take_append, List.take_of_length_le (l := cur.take off) (by rw [h1]; omega), List.take_of_length_le (l := cs) (by omega), List.take_take, List.drop_take, Nat.min_eq_left (by omega : off ≤ n), Nat.sub_sub]
namespace Kd
variable {α : Type} {dk : Kd α} {w : World}
theorem Elems.rep {z : α} {zs : List Value} (hz : dk.Rel w zs z [] []) : ∀ n, Elems dk w (List.replicate n zs).flatten (List.replicate n z) [] []
  | 0 => .nil
  | n + 1 => by
    have := Elems.cons hz (Elems.rep hz n)
    simpa [List.replicate_succ] using this
theorem Elems.app {cs xs o s cs' xs' o' s'} (h : Elems dk w cs xs o s) (h' : Elems dk w cs' xs' o' s') : Elems dk w (cs ++ cs') (xs ++ xs') (o ++ o') (s ++ s') := by
  induction h with
  | nil => exact h'
  | cons h _ ih => simpa [List.append_assoc] using Elems.cons h ih
theorem Elems.one1 {cs x o s} (h : dk.Rel w cs x o s) : Elems dk w cs [x] o s := by
  have := Elems.cons h (Elems.nil (d := dk) (w := w))
  simpa using this
theorem Elems.set {cs xs o s} (h : Elems dk w cs xs o s) : ∀ (i : Nat) (hi : i < xs.length) {c x o' s'}, dk.Rel w c x o' s' →
    ∃ o2 s2, Elems dk w (splice cs (i * dk.sz) c) (xs.set i x) o2 s2 ∧ (∀ b ∈ o2, b ∈ o ∨ b ∈ o') ∧ (∀ b ∈ s2, b ∈ s ∨ b ∈ s') ∧ (o.Nodup → o'.Nodup → (∀ b ∈ o', b ∉ o) → o2.Nodup) := by
  induction h with
  | nil => intro i hi; simp at hi
  | cons h hh ih =>
    rename_i c0 cs x0 xs o0 o1 s0 s1
    intro i hi c x o' s' hr
    have hl0 := dk.len h
    have hl := dk.len hr
    cases i with
    | zero =>
      refine ⟨o' ++ o1, s' ++ s1, ?_, ?_, ?_, ?_⟩
      · have : splice (c0 ++ cs) (0 * dk.sz) c = c ++ cs := by
          have hd : (c0 ++ cs).drop c.length = cs := by rw [hl, ← hl0]; exact List.drop_left
          simp [splice, hd]
        rw [this]
        exact .cons hr hh
      · intro b hb; rcases List.mem_append.1 hb with hb | hb
        · exact .inr hb
        · exact .inl (List.mem_append_right _ hb)
      · intro b hb; rcases List.mem_append.1 hb with hb | hb
        · exact .inr hb
        · exact .inl (List.mem_append_right _ hb)
      · intro h1 h2 h3
        exact List.nodup_append.2 ⟨h2, (List.nodup_append.1 h1).2.1, fun a ha b hb e => h3 a ha (List.mem_append_right _ (e ▸ hb))⟩
    | succ i =>
      obtain ⟨o2, s2, h1, h2, h3, h4⟩ := ih i (by simpa using hi) hr
      refine ⟨o0 ++ o2, s0 ++ s2, ?_, ?_, ?_, ?_⟩
      · have : splice (c0 ++ cs) ((i + 1) * dk.sz) c = c0 ++ splice cs (i * dk.sz) c := by
          have e : (i + 1) * dk.sz = c0.length + i * dk.sz := by rw [Nat.add_mul, hl0]; omega
          simp only [splice, e, List.append_assoc, Nat.add_assoc]
          rw [List.take_length_add_append, List.drop_length_add_append]
          simp [List.append_assoc]
        rw [this]
        simpa using Elems.cons h h1
      · intro b hb; rcases List.mem_append.1 hb with hb | hb
        · exact .inl (List.mem_append_left _ hb)
        · rcases h2 b hb with h | h
          · exact .inl (List.mem_append_right _ h)
          · exact .inr h
      · intro b hb; rcases List.mem_append.1 hb with hb | hb
        · exact .inl (List.mem_append_left _ hb)
        · rcases h3 b hb with h | h
          · exact .inl (List.mem_append_right _ h)
          · exact .inr h
      · intro k1 k2 k3
        have k4 := List.nodup_append.1 k1
        refine List.nodup_append.2 ⟨k4.1, h4 k4.2.1 k2 (fun b hb hx => k3 b hb (List.mem_append_right _ hx)), fun a ha b hb e => ?_⟩
        subst e
        rcases h2 a hb with h | h
        · exact k4.2.2 a ha a h rfl
        · exact k3 a h (List.mem_append_left _ ha)
theorem length_splice {cs c : List Value} {off : Nat} (h : off + c.length ≤ cs.length) : (splice cs off c).length = cs.length := by
  simp [splice]; omega
theorem row_mk {e : TypeId} {b c : Nat} {cur : Array Value} {xs : List α} {o s : List Nat} {n : Nat} (hb : w.heap[b]? = some (.cells cur e (0, 0))) (hn : xs.length = n) (hc : n ≤ c) (hm : c ≤ maxLen) (hm2 : n ≤ 281474976710656) (hz : cur.size = c * dk.sz) (he : Elems dk w (cur.toList.take (n * dk.sz)) xs o s) :
    (row e dk).Rel w [.slice (some ⟨b, 0, none⟩) n c] xs (b :: o) s := by
  subst hn
  exact .inr ⟨b, c, cur, o, rfl, rfl, hb, hc, ⟨hm, hm2⟩, hz, he⟩
theorem row_inv {e : TypeId} {b n c : Nat} {xs : List α} {o s : List Nat} (h : (row e dk).Rel w [.slice (some ⟨b, 0, none⟩) n c] xs o s) :
    ∃ cur o', o = b :: o' ∧ w.heap[b]? = some (.cells cur e (0, 0)) ∧ xs.length = n ∧ n ≤ c ∧ (c ≤ maxLen ∧ n ≤ 281474976710656) ∧ cur.size = c * dk.sz ∧ Elems dk w (cur.toList.take (n * dk.sz)) xs o' s := by
  rcases h with ⟨_, _, _, h⟩ | ⟨b', c', cur, o', h, rfl, hb, hc, hm, hz, he⟩
  · simp at h
  · simp only [List.cons.injEq, Value.slice.injEq, Option.some.injEq, Addr.mk.injEq, and_true] at h
    obtain ⟨rfl, rfl, rfl⟩ := h
    exact ⟨cur, o', rfl, hb, rfl, hc, hm, hz, he⟩
theorem row_sh {e : TypeId} {cs : List Value} {xs : List α} {o s : List Nat} (h : (row e dk).Rel w cs xs o s) : ∃ A c, cs = [.slice A xs.length c] := by
  rcases h with ⟨rfl, _, _, rfl⟩ | ⟨b, c, cur, o', rfl, -⟩
  · exact ⟨none, 0, rfl⟩
  · exact ⟨_, c, rfl⟩
end Kd

variable {X : Cx} {o : Oper} {l : List (Nat × Value)} {G G1 : List Asn} {v : Value} {ops : Array Oper} {Q : Exit → Act → World → Prop} {r : List Oper} {K : Act → World → Prop} {d : Nat}
theorem mk {α : Type} {dk : Kd α} {z : α} {zv : Value} {zs : List Value} {t e by_ n : Nat} {x : Operand} (he : look X.T.elem t = some e) (hi : (X.P.info? e).map (fun i => (i.zero, i.size, i.bytes)) = some (some zv, dk.sz, by_)) (hzc : zv.cells = zs.toArray) (hz : ∀ w, dk.Rel w zs z [] [])
    (ho : o.op = .makeSlice t x x) (hx : ev l x = some (.int .i64 (n : Int))) (hb : by_ * n ≤ 281474976710656) (hn : n ≤ 281474976710656) (hp : pl X.N o = some d)
    (h : ∀ b, SL X ops Q r ((d, .slice (some ⟨b, 0, none⟩) n n) :: l) (dat (Kd.row e dk) [.slice (some ⟨b, 0, none⟩) n n] (List.replicate n z) [b] [] :: G)) : SL X ops Q (o :: r) l G := fun a w hk hs => by
  obtain ⟨hd, hN, hg⟩ := pl_spec hp
  refine wl_plain hg fun K hK => ?_
  obtain ⟨i, hi1, hi2⟩ := Option.map_eq_some_iff.1 hi
  simp only [Prod.mk.injEq] at hi2
  obtain ⟨h1, h2, h3⟩ := hi2
  have hb' : (i.bytes : Int) * (n : Int) ≤ 281474976710656 := by
    have h : ((i.bytes * n : Nat) : Int) ≤ 281474976710656 := by rw [h3]; omega
    rwa [Int.natCast_mul] at h
  have hr := run_make (P := X.P) w t e i zv (Tab.elemOk X.ok he) hi1 h1 .i64 .i64 n n (by omega) (Int.le_refl _) hb' (by omega)
  simp only [Int.toNat_natCast] at hr
  unfold Oper.wp execOp
  simp only [ho, hk.ev hx, Sem.run_bind, hr, Result.andThen_ok]
  suffices hS : St X.w0 (w.alloc (.cells (madeCells zv.cells (n * i.size)) e)) (dat (Kd.row e dk) [.slice (some ⟨w.heap.size, 0, none⟩) n n] (List.replicate n z) [w.heap.size] [] :: G) from
    hK _ _ (by rw [hd]; exact h w.heap.size _ _ (hk.put _ hN) hS)
  have hlen := dk.len (hz w)
  have hcells : (madeCells zv.cells (n * i.size)).toList = (List.replicate n zs).flatten := by
    apply List.ext_getElem
    · simp [madeCells, hlen, h2]
    · intro j k1 k2
      have hj : j < n * dk.sz := by simpa [madeCells, h2] using k1
      have hpos : 0 < dk.sz := by rcases Nat.eq_zero_or_pos dk.sz with h | h; · rw [h] at hj; omega
                                  · exact h
      have hmod : j % zs.length < zs.length := Nat.mod_lt _ (by omega)
      have hg : ∀ (m j : Nat), j < m * zs.length → (List.replicate m zs).flatten[j]? = zs[j % zs.length]? := by
        intro m
        induction m with
        | zero => intro j hj; omega
        | succ m ih =>
          intro j hj
          rw [List.replicate_succ, List.flatten_cons]
          by_cases hjl : j < zs.length
          · rw [List.getElem?_append_left hjl, Nat.mod_eq_of_lt hjl]
          · rw [List.getElem?_append_right (by omega), ih _ (by rw [Nat.add_mul] at hj; omega)]
            congr 1
            exact (Nat.mod_eq_sub_mod (by omega)).symm
      have h4 := hg n j (by rw [hlen]; exact hj)
      rw [List.getElem?_eq_getElem k2] at h4
      have h5 := List.getElem?_eq_getElem hmod
      rw [h5] at h4
      simp only [madeCells, Array.toList_map, Array.toList_range, List.getElem_map, List.getElem_range, hzc]
      simp only [Option.some.injEq] at h4
      rw [h4]
      simp [hmod]
  have hE : Kd.Elems dk (w.alloc (.cells (madeCells zv.cells (n * i.size)) e)) ((madeCells zv.cells (n * i.size)).toList.take (n * dk.sz)) (List.replicate n z) [] [] := by
    rw [List.take_of_length_le (by simp [madeCells, h2]), hcells]
    exact Kd.Elems.rep (hz _) n
  have hR := Kd.row_mk (dk := dk) (e := e) (heap_alloc_new w (.cells (madeCells zv.cells (n * i.size)) e)) (by simp) (Nat.le_refl n) (by simp [maxLen]; omega) hn (by simp [madeCells, h2]) hE
  refine (hs.step (w' := w.alloc _) ((Below.refl _ _).alloc (Nat.le_refl _) _)).cons hR (fun b hb => ?_) ⟨by simp [dat], by simp [dat]⟩ (fun B hB => ⟨fun b hb => ?_, fun b _ => by simp [dat]⟩)
  · simp [dat] at hb; subst hb; exact hs.below.size
  · simp [dat] at hb; subst hb; exact ⟨fun hx => Nat.lt_irrefl _ (hs.lt hB (.inl hx)), fun hx => Nat.lt_irrefl _ (hs.lt hB (.inr hx))⟩
theorem ste (i : Nat) {α : Type} {dk : Kd α} {t e n c b : Nat} {bb : Bool} {x y : Operand} {p : Addr} {cs : List Value} {xs : List α} {u : α} {o1 s1 o2 s2 : List Nat} {v : Value} {ty : TypeId} {ps : String} {af : Array Edge}
    (ht : look X.T.size t = some (dk.sz, bb))
    (hx : ev l x = some (.pointer (some p))) (hpa : p = (⟨b, 0, none⟩ : Addr).add (i * dk.sz)) (hy : ev l y = some v) (hv : v.cells = cs.toArray) (hi : i < xs.length)
    (h : ∀ o3 s3, (∀ q ∈ s3, q ∈ s1 ∨ q ∈ s2) → SL X ops Q r l (dat (Kd.row e dk) [.slice (some ⟨b, 0, none⟩) n c] (xs.set i u) o3 s3 :: G1)) : SL X ops Q (⟨none, .store t x y, ty, ps, af, none⟩ :: r) l (dat (Kd.row e dk) [.slice (some ⟨b, 0, none⟩) n c] xs o1 s1 :: dat dk cs u o2 s2 :: G1) := fun a w hk' hs1 => by
  refine wl_plain rfl fun K hK => ?_
  have hR : (Kd.row e dk).Rel w [.slice (some ⟨b, 0, none⟩) n c] xs o1 s1 := hs1.holds (dat (Kd.row e dk) _ xs o1 s1) (by simp)
  have hD : dk.Rel w cs u o2 s2 := hs1.holds (dat dk cs u o2 s2) (by simp)
  obtain ⟨cur, o', rfl, hg, hln, hnc, hcm, hz, he⟩ := Kd.row_inv hR
  have hl := dk.len hD
  have hpos : (⟨b, 0, none⟩ : Addr).add (i * dk.sz) = ⟨b, i * dk.sz, none⟩ := by unfold Addr.add; split <;> simp_all
  have hle : i * dk.sz + dk.sz ≤ n * dk.sz := by rw [← Nat.succ_mul]; exact Nat.mul_le_mul_right _ (by omega)
  have hle2 : n * dk.sz ≤ c * dk.sz := Nat.mul_le_mul_right _ hnc
  have h2 := run_storeAt X.ok ht w b (i * dk.sz) e v cs hv hl cur.toList (by simpa using hg) (by simp [hz]; omega) (dk.one hD)
  obtain ⟨o3, s3, h3, h4, h5, h6⟩ := he.set i hi hD
  have hA := hs1.uniq (dat (Kd.row e dk) [.slice (some ⟨b, 0, none⟩) n c] xs (b :: o') s1) (by simp)
  have hB := hs1.uniq (dat dk cs u o2 s2) (by simp)
  have hAB : Apart (dat (Kd.row e dk) [.slice (some ⟨b, 0, none⟩) n c] xs (b :: o') s1) (dat dk cs u o2 s2) := (List.pairwise_cons.1 hs1.sep).1 _ (by simp)
  have hnb : b ∉ o3 := fun hx => by
    rcases h4 b hx with h | h
    · exact (List.nodup_cons.1 hA.1).1 h
    · exact (hAB.1 b (by simp [dat])).1 h
  have hns : b ∉ s3 := fun hx => by
    rcases h5 b hx with h | h
    · exact hA.2 b (by simp [dat]) h
    · exact (hAB.1 b (by simp [dat])).2 h
  unfold Oper.wp execOp
  simp only [hk'.ev hx, hk'.ev hy, hpa, hpos, Sem.run_bind, h2, Result.andThen_ok]
  refine hK _ _ (h (b :: o3) s3 h5 _ _ hk' (hs1.swap (As := [dat (Kd.row e dk) [.slice (some ⟨b, 0, none⟩) n c] xs (b :: o') s1, dat dk cs u o2 s2]) (Bs := [dat (Kd.row e dk) [.slice (some ⟨b, 0, none⟩) n c] (xs.set i u) (b :: o3) s3]) (mod_setRow.mono (by simp [owns, dat])) ?_ ?_ ?_ ?_ (by simp)))
  · intro B hB; simp at hB; subst hB
    have hsame : ∀ q, q ≠ b → (w.setRow b (splice cur.toList (i * dk.sz) cs).toArray).heap[q]? = w.heap[q]? := fun q hq => setRow_other w b q _ hq
    refine Kd.row_mk (cur := (splice cur.toList (i * dk.sz) cs).toArray) (setRow_heap w b cur _ e _ hg) (by simp [hln]) hnc hcm.1 hcm.2 (by simp [Kd.length_splice (show i * dk.sz + cs.length ≤ cur.toList.length by simp [hz, hl]; omega), hz]) ?_
    have e1 : (splice cur.toList (i * dk.sz) cs).toArray.toList.take (n * dk.sz) = splice (cur.toList.take (n * dk.sz)) (i * dk.sz) cs := splice_take (by omega) (by simp [hz]; exact hle2)
    rw [e1]
    exact h3.keep (fun q hq => hsame q (fun e => hnb (e ▸ hq))) (fun q hq => hsame q (fun e => hns (e ▸ hq)))
  · intro B hB q hq; simp at hB; subst hB
    rcases List.mem_cons.1 hq with rfl | hq
    · exact .inl (by simp [owns, dat])
    · rcases h4 q hq with h | h
      · exact .inl (by simp [owns, dat, h])
      · exact .inl (by simp [owns, dat, h])
  · intro B hB q hq; simp at hB; subst hB
    rcases h5 q hq with h | h
    · exact .inl ⟨dat (Kd.row e dk) [.slice (some ⟨b, 0, none⟩) n c] xs (b :: o') s1, by simp, .inr h⟩
    · exact .inl ⟨dat dk cs u o2 s2, by simp, .inr h⟩
  · intro B hB; simp at hB; subst hB
    refine ⟨List.nodup_cons.2 ⟨hnb, h6 (List.nodup_cons.1 hA.1).2 hB.1 (fun q hq hx => (hAB.1 q (List.mem_cons_of_mem _ hx)).1 hq)⟩, fun q hq hx => ?_⟩
    have hA' : ∀ q, q ∈ b :: o' → q ∉ s1 := hA.2
    have hB' : ∀ q, q ∈ o2 → q ∉ s2 := hB.2
    rcases List.mem_cons.1 hq with rfl | hq
    · exact hns hx
    · rcases h4 q hq with h | h <;> rcases h5 q hx with h' | h'
      · exact hA' q (List.mem_cons_of_mem _ h) h'
      · exact (hAB.1 q (List.mem_cons_of_mem _ h)).2 h'
      · exact hAB.2 q h h'
      · exact hB' q h h'
end
section
variable {X : Cx} {o : Oper} {l : List (Nat × Value)} {G G1 : List Asn} {v : Value} {ops : Array Oper} {Q : Exit → Act → World → Prop} {r : List Oper} {K : Act → World → Prop} {d : Nat}

theorem mf {fn : Fn} {first captured : List Operand} {fs cs : List Value} (ho : o.op = .makeFunc fn first.toArray captured.toArray) (hf : evs l first = some fs) (hc : evs l captured = some cs) : Ev X o l G (.func fn fs.toArray cs.toArray) := fun a w hk _ => by
  unfold execOp; simp only [ho, Instr.makeFunc, List.map_toArray, hk.evs hf, hk.evs hc]; rfl
theorem run_callv {P : Program} {ρ : Operand → Value} {o : Oper} {x : Operand} {f : FuncId} {args : List Operand} {caps : List Value} {ts : Array TypeId} {fn : Func} {w : World}
    (ho : o.op = .call { callee := .value x, args := args.toArray, argTypes := ts }) (hρ : ρ x = .func (.func f) #[] caps.toArray) (hf : P.funcs[f]? = some fn) (hb : fn.body.isSome = true) (hn : (fn.name == "runtime.NumGoroutine") = false) :
    (execOp ρ o).run P w = .ok (.enter f (args.map ρ ++ caps).toArray) w := by
  unfold execOp
  have hb' : fn.body ≠ none := by intro h; simp [h] at hb
  have hn' : ¬ fn.name = "runtime.NumGoroutine" := by simpa using hn
  simp [ho, resolve, hρ, Deferred.ofValue, invoke, callFunc, program, hf, hn', Sem.run]
  intro h
  exact absurd h hb'
theorem cvx {x : Operand} {f : FuncId} {args : List Operand} {caps : List Value} {ts : Array TypeId} {vs : List Value} (hE : enters X.P f = true) (ho : o.op = .call { callee := .value x, args := args.toArray, argTypes := ts }) (hx : ev l x = some (.func (.func f) #[] caps.toArray))
    (hv : evs l args = some vs) (hp : pl X.N o = some d)
    (h : ∀ a w, Knows X.K l a → St X.w0 w G → Calls X.P f (vs ++ caps).toArray w (fun e w' => ∃ v, e = .returned v ∧ (∀ a', Knows X.K ((d, v) :: l) a' → X.wl ops Q r a' w'))) : SL X ops Q (o :: r) l G := fun a w hk hs => by
  obtain ⟨fn, hf, hb, hn⟩ := enters_spec hE
  obtain ⟨hd, hN, hg⟩ := pl_spec hp
  refine wl_plain hg fun K hK => ?_
  unfold Oper.wp
  rw [run_callv ho (hk.ev hx) hf hb hn, hk.evs hv, Oper.upon_enter]
  refine (h a w hk hs).mono ?_
  rintro e w' ⟨v, rfl, h2⟩
  exact hK _ _ (by rw [hd]; exact h2 _ (hk.put v hN))
theorem cv_ {x : Operand} {f : FuncId} {args : List Operand} {caps : List Value} {ts : Array TypeId} {vs : List Value} {v : Value} (hE : enters X.P f = true) (ho : o.op = .call { callee := .value x, args := args.toArray, argTypes := ts }) (hx : ev l x = some (.func (.func f) #[] caps.toArray))
    (hv : evs l args = some vs) (hp : pl X.N o = some d)
    (hc : ∀ w, St X.w0 w G → Calls X.P f (vs ++ caps).toArray w (fun e w' => e = .returned v ∧ Below w.heap.size w w'))
    (h : SL X ops Q r ((d, v) :: l) G) : SL X ops Q (o :: r) l G :=
  cvx hE ho hx hv hp fun a w hk hs => (hc w hs).mono fun e w' ⟨he, hw⟩ => ⟨v, he, fun a' ha' => h a' w' ha' (hs.step hw)⟩

theorem ri {k : IntKind} {a b : Int} (h : a = b) : Ending.returned (.int k a) = .returned (.int k b) := by rw [h]
theorem rb {a b : Bool} (h : a = b) : Ending.returned (.bool a) = .returned (.bool b) := by rw [h]
def idx {α : Type} (p : α → Bool) (xs : List α) : Int := match xs.findIdx? p with
  | some i => (i : Int)
  | none => -1
theorem idx_none {α : Type} {p : α → Bool} {xs : List α} {k : Nat} (h : ∀ j x, j < k → xs[j]? = some x → p x = false) (hk : xs.length ≤ k) : idx p xs = -1 := by
  have : xs.findIdx? p = none := by
    rw [List.findIdx?_eq_none_iff]
    intro x hx
    obtain ⟨j, hj, rfl⟩ := List.getElem_of_mem hx
    exact h j _ (by omega) (by simp [hj])
  simp [idx, this]
theorem idx_some {α : Type} {p : α → Bool} {xs : List α} {k : Nat} {y : α} (h : ∀ j x, j < k → xs[j]? = some x → p x = false) (hy : xs[k]? = some y) (hp : p y = true) : idx p xs = k := by
  have hk : k < xs.length := (List.getElem?_eq_some_iff.1 hy).1
  have hv : xs[k] = y := (List.getElem?_eq_some_iff.1 hy).2
  have : xs.findIdx? p = some k := by
    rw [List.findIdx?_eq_some_iff_getElem]
    exact ⟨hk, by rw [hv]; exact hp, fun j hj => by rw [h j _ hj (List.getElem?_eq_getElem (by omega))]; simp⟩
  simp [idx, this]
def firstFault {α : Type} (f : α → Int) : List α → Int
  | [] => 0
  | x :: xs => if f x = 0 then firstFault f xs else f x
theorem firstFault_0 {α : Type} {f : α → Int} {xs : List α} {k : Nat} (h : ∀ j x, j < k → xs[j]? = some x → f x = 0) (hk : xs.length ≤ k) : firstFault f xs = 0 := by
  induction xs generalizing k with
  | nil => rfl
  | cons x xs ih =>
    cases k with
    | zero => simp at hk
    | succ k =>
      rw [firstFault, if_pos (h 0 x (by omega) rfl)]
      exact ih (k := k) (fun j y hj hy => h (j + 1) y (by omega) (by simpa using hy)) (by simpa using hk)
theorem firstFault_at {α : Type} {f : α → Int} {xs : List α} {k : Nat} {y : α} (h : ∀ j x, j < k → xs[j]? = some x → f x = 0) (hy : xs[k]? = some y) (hf : ¬ f y = 0) : firstFault f xs = f y := by
  induction xs generalizing k with
  | nil => simp at hy
  | cons x xs ih =>
    cases k with
    | zero => simp at hy; subst hy; rw [firstFault, if_neg hf]
    | succ k =>
      rw [firstFault, if_pos (h 0 x (by omega) rfl)]
      exact ih (k := k) (fun j y hj hy => h (j + 1) y (by omega) (by simpa using hy)) (by simpa using hy)
theorem zero_step {α : Type} {f : α → Int} {xs : List α} {k : Nat} {y : α} (h : ∀ j x, j < k → xs[j]? = some x → f x = 0) (hy : xs[k]? = some y) (hp : f y = 0) : ∀ j x, j < k + 1 → xs[j]? = some x → f x = 0 := fun j x hj hx => by
  rcases Nat.lt_succ_iff_lt_or_eq.1 hj with hlt | rfl
  · exact h j x hlt hx
  · rw [hy] at hx; cases hx; exact hp
def adj {α : Type} (r : α → α → Bool) : List α → Bool
  | a :: b :: l => r a b || adj r (b :: l)
  | _ => false
theorem adj_t {α : Type} {r : α → α → Bool} {xs : List α} {k : Nat} {a b : α} (ha : xs[k]? = some a) (hb : xs[k + 1]? = some b) (h : r a b = true) : adj r xs = true := by
  induction xs generalizing k with
  | nil => simp at ha
  | cons x xs ih =>
    cases xs with
    | nil => simp at hb
    | cons y xs =>
      cases k with
      | zero => simp at ha hb; subst ha; subst hb; simp [adj, h]
      | succ k => simp only [adj, Bool.or_eq_true]; exact .inr (ih (k := k) (by simpa using ha) (by simpa using hb))
theorem adj_f {α : Type} {r : α → α → Bool} {xs : List α} {k : Nat} (h : ∀ j a b, j < k → xs[j]? = some a → xs[j + 1]? = some b → r a b = false) (hk : xs.length ≤ k + 1) : adj r xs = false := by
  induction xs generalizing k with
  | nil => rfl
  | cons x xs ih =>
    cases xs with
    | nil => rfl
    | cons y xs =>
      cases k with
      | zero => simp at hk
      | succ k =>
        simp only [adj, Bool.or_eq_false_iff]
        exact ⟨h 0 x y (by omega) rfl rfl, ih (k := k) (fun j a b hj ha hb => h (j + 1) a b (by omega) (by simpa using ha) (by simpa using hb)) (by simpa using hk)⟩
theorem adj_step {α : Type} {r : α → α → Bool} {xs : List α} {k : Nat} {x y : α} (h : ∀ j a b, j < k → xs[j]? = some a → xs[j + 1]? = some b → r a b = false) (hx : xs[k]? = some x) (hy : xs[k + 1]? = some y) (hr : r x y = false) : ∀ j a b, j < k + 1 → xs[j]? = some a → xs[j + 1]? = some b → r a b = false := fun j a b hj ha hb => by
  rcases Nat.lt_succ_iff_lt_or_eq.1 hj with hlt | rfl
  · exact h j a b hlt ha hb
  · rw [hx] at ha; rw [hy] at hb; cases ha; cases hb; exact hr
theorem idx_step {α : Type} {p : α → Bool} {xs : List α} {k : Nat} {y : α} (h : ∀ j x, j < k → xs[j]? = some x → p x = false) (hy : xs[k]? = some y) (hp : p y = false) : ∀ j x, j < k + 1 → xs[j]? = some x → p x = false := fun j x hj hx => by
  rcases Nat.lt_succ_iff_lt_or_eq.1 hj with hlt | rfl
  · exact h j x hlt hx
  · rw [hy] at hx; cases hx; exact hp
theorem any_none {α : Type} {p : α → Bool} {xs : List α} {k : Nat} (h : ∀ j x, j < k → xs[j]? = some x → p x = false) (hk : xs.length ≤ k) : xs.any p = false := by
  rw [List.any_eq_false]
  intro x hx
  obtain ⟨j, hj, rfl⟩ := List.getElem_of_mem hx
  simp [h j xs[j] (by omega) (by simp [hj])]
theorem any_some {α : Type} {p : α → Bool} {xs : List α} {k : Nat} {y : α} (hy : xs[k]? = some y) (hp : p y = true) : xs.any p = true := List.any_eq_true.2 ⟨y, List.mem_of_getElem? hy, hp⟩
theorem rowStep {α : Type} {l : List α} {k : Nat} {y z : α} (hy : l[k]? = some y) : (l.take k ++ List.replicate (l.length - k) z).set k y = l.take (k + 1) ++ List.replicate (l.length - (k + 1)) z := by
  have hk : k < l.length := (List.getElem?_eq_some_iff.1 hy).1
  have hv : l[k] = y := (List.getElem?_eq_some_iff.1 hy).2
  have h1 : (l.take k).length = k := by simp; omega
  rw [List.set_append_right _ _ (by omega), h1, Nat.sub_self, List.take_succ_eq_append_getElem hk, hv, List.append_assoc]
  congr 1
  rw [show l.length - k = (l.length - (k + 1)) + 1 by omega, List.replicate_succ]
  rfl
theorem rowEnd {α : Type} {l : List α} {k : Nat} {z : α} (hk : l.length ≤ k) : l.take k ++ List.replicate (l.length - k) z = l := by
  rw [List.take_of_length_le hk, show l.length - k = 0 by omega]; simp
def sumTo {α : Type} (f : α → Int) (l : List α) (k : Nat) : Int := ((l.take k).map f).sum
theorem sumTo_step {α : Type} {f : α → Int} {l : List α} {k : Nat} {y : α} (hy : l[k]? = some y) : sumTo f l (k + 1) = sumTo f l k + f y := by
  have hk : k < l.length := (List.getElem?_eq_some_iff.1 hy).1
  have hv : l[k] = y := (List.getElem?_eq_some_iff.1 hy).2
  simp [sumTo, List.take_succ_eq_append_getElem hk, hv]
theorem sumTo_end {α : Type} {f : α → Int} {l : List α} {k : Nat} (hk : l.length ≤ k) : sumTo f l k = (l.map f).sum := by rw [sumTo, List.take_of_length_le hk]
theorem sum_nn {α : Type} {f : α → Int} (hf : ∀ x, 0 ≤ f x) (l : List α) : 0 ≤ (l.map f).sum := by
  induction l with
  | nil => simp
  | cons x l ih => have := hf x; simp; omega
theorem sumTo_le {α : Type} {f : α → Int} (hf : ∀ x, 0 ≤ f x) (l : List α) (k : Nat) : sumTo f l k ≤ (l.map f).sum := by
  have h : (l.map f).sum = sumTo f l k + ((l.drop k).map f).sum := by
    rw [sumTo, ← List.sum_append, ← List.map_append, List.take_append_drop]
  have := sum_nn hf (l.drop k)
  omega
theorem sumTo_nn {α : Type} {f : α → Int} (hf : ∀ x, 0 ≤ f x) (l : List α) (k : Nat) : 0 ≤ sumTo f l k := sum_nn hf _
def szTake (n left : Int) : Int := if left - n < 0 then -1 else left - n
theorem szTake_f {n left : Int} (h : ¬ szTake n left < 0) : szTake n left = left - n ∧ n ≤ left := by unfold szTake at *; split <;> omega
theorem szTake_t {n left : Int} (h : szTake n left < 0) : left < n := by unfold szTake at *; split at h <;> omega
theorem eqS_f {α : Type} [DecidableEq α] {a b : List α} {k : Nat} {x y : α} (hx : a[k]? = some x) (hy : b[k]? = some y) (h : ¬ x = y) : decide (a = b) = false := by
  rw [decide_eq_false_iff_not]; rintro rfl; rw [hx] at hy; cases hy; exact h rfl
theorem eqS_t {α : Type} [DecidableEq α] {a b : List α} {k : Nat} (hl : a.length = b.length) (h : ∀ j x y, j < k → a[j]? = some x → b[j]? = some y → x = y) (hk : a.length ≤ k) : decide (a = b) = true := by
  rw [decide_eq_true_eq]
  refine List.ext_getElem hl fun i h1 h2 => h i _ _ (by omega) (List.getElem?_eq_getElem h1) (List.getElem?_eq_getElem h2)
theorem eq_step {α : Type} {a b : List α} {k : Nat} {u v : α} (h : ∀ j x y, j < k → a[j]? = some x → b[j]? = some y → x = y) (hu : a[k]? = some u) (hv : b[k]? = some v) (he : u = v) : ∀ j x y, j < k + 1 → a[j]? = some x → b[j]? = some y → x = y := fun j x y hj hx hy => by
  rcases Nat.lt_succ_iff_lt_or_eq.1 hj with hlt | rfl
  · exact h j x y hlt hx hy
  · rw [hu] at hx; rw [hv] at hy; cases hx; cases hy; exact he
theorem idx_ge {α : Type} {p : α → Bool} {xs : List α} : decide (idx p xs ≥ 0) = xs.any p := by
  unfold idx
  cases h : xs.findIdx? p with
  | none =>
    have h2 : xs.any p = false := by
      rw [List.any_eq_false]
      exact fun x hx => by have := List.findIdx?_eq_none_iff.1 h x hx; simp [this]
    rw [h2]; decide
  | some i =>
    obtain ⟨hi, hp, _⟩ := List.findIdx?_eq_some_iff_getElem.1 h
    have h2 : xs.any p = true := List.any_eq_true.2 ⟨xs[i], List.getElem_mem hi, hp⟩
    rw [h2]; simp
end
section

def Small {H : Type} (P : Program) (t : TypeId) (x : DataW H) : Prop := ∀ n ∈ x.weights P t, n ≤ reachBytes
def Opens {α : Type} (P : Program) (t : TypeId) (d : Kd α) : Prop :=
  P.cellsOf t = d.sz ∧ ∀ (H : Type) (enc : TypeId × Value → H) (w : World) (fuel : Nat) (cs : List Value) (x : DataW H) (ps : List MemPlace),
    DataW.trod enc P w 0 (fun _ => true) true fuel t cs = some (x, ps) → Small P t x → ∃ y s, d.Rel w cs y [] s

variable {P : Program} {α β : Type} {t : TypeId}
theorem Opens.i64 (hu : P.underlying t = some (.int .i64)) (hc : P.cellsOf t = 1) : Opens P t Kd.i64 := by
  refine ⟨hc, fun H enc w fuel cs x ps h hw => ?_⟩
  obtain ⟨n, rfl, -, -⟩ := DataW.trod_int hu h
  exact ⟨n, [], rfl, rfl, rfl⟩
theorem Opens.bool (hu : P.underlying t = some .bool) (hc : P.cellsOf t = 1) : Opens P t Kd.bool := by
  refine ⟨hc, fun H enc w fuel cs x ps h hw => ?_⟩
  obtain ⟨n, rfl, -⟩ := DataW.trod_bool hu h
  exact ⟨n, [], rfl, rfl, rfl⟩
theorem add_off {a : Addr} (h : a.spot = none) (i : Nat) : a.add i = ⟨a.block, a.off + i, none⟩ := by
  obtain ⟨b, off, sp⟩ := a
  simp only at h
  subst h
  unfold Addr.add
  by_cases hi : i = 0 <;> simp [hi]
theorem mem_weightsAll {H : Type} {e : TypeId} {l : List (DataW H)} {d : DataW H} (hd : d ∈ l) : ∀ n ∈ d.weights P e, n ∈ DataW.weightsAll P e l := by
  induction l with
  | nil => cases hd
  | cons a l ih =>
    intro n hn
    unfold DataW.weightsAll
    rcases List.mem_cons.1 hd with rfl | hd
    · exact List.mem_append_left _ hn
    · exact List.mem_append_right _ (ih hd n hn)
theorem Opens.sl {e : TypeId} {d : Kd α} (hu : P.underlying t = some (.slice e)) (hc : P.cellsOf t = 1) (hb : 1 ≤ P.bytesOf e) (hp : 1 ≤ d.sz) (he : Opens P e d) : Opens P t (Kd.sl d) := by
  refine ⟨hc, fun H enc w fuel cs x ps h hw => ?_⟩
  rcases Go.Deep.open_slice hu h with ⟨rfl, -⟩ | ⟨a, len, cap, m, n, D, Pl, rfl, hbl, hl, hm, hmm, hx, hi⟩
  · exact ⟨[], [], rfl, none, 0, rfl, Nat.le_refl _, by simp, .inl ⟨rfl, rfl⟩⟩
  simp only [if_true] at hmm
  subst hmm
  simp only [Prod.mk.injEq] at hx
  obtain ⟨rfl, -⟩ := hx
  have hw1 : len ≤ 281474976710656 := by
    have := hw _ (by unfold DataW.weights; rw [hu]; exact List.mem_cons_self ..)
    simp only [List.length_map, List.length_range, reachBytes] at this
    have h2 : (len + (m - len)) * 1 ≤ (len + (m - len)) * P.bytesOf e := Nat.mul_le_mul_left _ hb
    omega
  have hw2 : ∀ i, i < len → Small P e (D i) := fun i hi n hn => hw n (by
    unfold DataW.weights; rw [hu]
    exact List.mem_cons_of_mem _ (List.mem_append_left _ (mem_weightsAll (List.mem_map_of_mem (List.mem_range.2 hi)) n hn)))
  by_cases h0 : len = 0
  · subst h0
    exact ⟨[], [], rfl, some a, m, rfl, Nat.zero_le _, by simp, .inl ⟨rfl, rfl⟩⟩
  have hspot : a.spot = none ∧ a.block < w.heap.size := by
    obtain ⟨cs', h1, h2⟩ := hi 0 (by omega)
    obtain ⟨-, hl', hc'⟩ := World.cells?_some h1
    have h3 := hc' 0 (by rw [he.1]; omega)
    rw [List.getElem?_eq_getElem (by rw [hl', he.1]; omega)] at h3
    have h4 := World.cell?_spot h3
    simp only [Nat.zero_mul] at h3 h4
    have e0 : (a.add 0).add 0 = a := by unfold Addr.add; simp
    rw [e0] at h3 h4
    refine ⟨h4, ?_⟩
    unfold World.cell? at h3
    split at h3
    · rename_i hh
      exact (Array.getElem?_eq_some_iff.1 hh).1
    · cases h3
  have key : ∀ k, k ≤ len → ∃ el xs s, xs.length = k ∧ Kd.Elems d w el xs [] s ∧ ∀ (j : Nat) (v : Value), el[j]? = some v → w.cell? ⟨a.block, a.off + j, none⟩ = some v := by
    intro k
    induction k with
    | zero => exact fun _ => ⟨[], [], [], rfl, .nil, by simp⟩
    | succ k ih =>
      intro hk
      obtain ⟨el, xs, s, hxl, hel, hcell⟩ := ih (by omega)
      obtain ⟨cs', h1, h2⟩ := hi k (by omega)
      obtain ⟨y, s', hr⟩ := he.2 H enc w n cs' (D k) (Pl k) h2 (hw2 k (by omega))
      obtain ⟨-, hl', hc'⟩ := World.cells?_some h1
      have hE := hel.len
      refine ⟨el ++ cs', xs ++ [y], s ++ s', by simp [hxl], by simpa using hel.app (Kd.Elems.one1 hr), fun j v hj => ?_⟩
      by_cases hjl : j < el.length
      · rw [List.getElem?_append_left hjl] at hj
        exact hcell j v hj
      · rw [List.getElem?_append_right (by omega)] at hj
        have hj2 : j - el.length < cs'.length := (List.getElem?_eq_some_iff.1 hj).1
        have h3 := hc' (j - el.length) (by omega)
        rw [hj, add_off hspot.1, he.1] at h3
        rw [add_off rfl] at h3
        rw [← h3]
        rw [hxl] at hE
        congr 2
        simp only
        omega
  obtain ⟨el, xs, s, hxl, hel, hcell⟩ := key len (Nat.le_refl _)
  obtain ⟨ab, ao, asp⟩ := a
  simp only at hspot
  obtain ⟨rfl, hlt⟩ := hspot
  subst hxl
  exact ⟨xs, ab :: s, rfl, _, m, rfl, hl, hw1, .inr ⟨ab, ao, el, s, rfl, rfl, hlt, hel, hcell⟩⟩

def Flds (P : Program) {H : Type} (enc : TypeId × Value → H) (w : World) (fuel : Nat) (cs : List Value) : List Field → List (DataW H) → Prop
  | [], _ => True
  | f :: fs, d :: ds => (∃ ps, DataW.trod enc P w 0 (fun _ => true) true fuel f.type ((cs.drop f.offset).take (P.cellsOf f.type)) = some (d, ps)) ∧ Small P f.type d ∧ Flds P enc w fuel cs fs ds
  | _ :: _, [] => False
theorem flds_of {H : Type} {enc : TypeId × Value → H} {w : World} {fuel : Nat} {cs : List Value} : ∀ (fs : List Field) (xs : List (DataW H × List MemPlace)), xs.length = fs.length →
    (∀ (i : Nat) (f : Field), fs[i]? = some f → DataW.trod enc P w 0 (fun _ => true) true fuel f.type ((cs.drop f.offset).take (P.cellsOf f.type)) = xs[i]?) →
    (∀ n ∈ DataW.weightsEach P (fs.map (·.type)) (xs.map (·.1)), n ≤ reachBytes) → Flds P enc w fuel cs fs (xs.map (·.1))
  | [], _, _, _, _ => trivial
  | f :: fs, [], h, _, _ => by simp at h
  | f :: fs, x :: xs, h, hf, hw => by
    simp only [List.map_cons, DataW.weightsEach, List.mem_append] at hw
    exact ⟨⟨x.2, by simpa using hf 0 f rfl⟩, fun n hn => hw n (.inl hn), flds_of fs xs (by simpa using h) (fun i f' hi => by simpa using hf (i + 1) f' (by simpa using hi)) (fun n hn => hw n (.inr hn))⟩
theorem flds1 {H : Type} {enc : TypeId × Value → H} {w : World} {fuel : Nat} {cs : List Value} {f : Field} {fs : List Field} {ds : List (DataW H)} {d : Kd α} (h : Flds P enc w fuel cs (f :: fs) ds) (hd : Opens P f.type d) :
    (∃ y s, d.Rel w ((cs.drop f.offset).take d.sz) y [] s) ∧ ∃ ds', Flds P enc w fuel cs fs ds' := by
  cases ds with
  | nil => cases h
  | cons x ds =>
    obtain ⟨⟨ps, h1⟩, h2, h3⟩ := h
    rw [hd.1] at h1
    exact ⟨hd.2 H enc w fuel _ x ps h1 h2, ds, h3⟩
theorem Opens.st {d : Kd α} {fs : Array Field} (hu : P.underlying t = some (.struct fs)) (hc : P.cellsOf t = d.sz)
    (h : ∀ (H : Type) (enc : TypeId × Value → H) (w : World) (fuel : Nat) (cs : List Value) (ds : List (DataW H)), Flds P enc w fuel cs fs.toList ds → ∃ y s, d.Rel w ((cs.drop 0).take d.sz) y [] s) : Opens P t d := by
  refine ⟨hc, fun H enc w fuel cs x ps hr hw => ?_⟩
  obtain ⟨xs, n, -, hx, hl, hlen, hf⟩ := DataW.trod_struct hu hr
  simp only [Prod.mk.injEq] at hx
  obtain ⟨rfl, -⟩ := hx
  obtain ⟨y, s, hR⟩ := h H enc w n cs _ (flds_of fs.toList xs (by simpa using hlen) (fun i f hi => hf i f (by simpa using hi)) (fun n hn => hw n (by unfold DataW.weights; rw [hu]; exact hn)))
  refine ⟨y, s, ?_⟩
  rwa [List.drop_zero, ← hc, ← hl, List.take_length] at hR
theorem cat_at {a b : Kd α} {w : World} {cs : List Value} {off : Nat} {x : α} {s1 s2 : List Nat} (h1 : a.Rel w ((cs.drop off).take a.sz) x [] s1) (h2 : b.Rel w ((cs.drop (off + a.sz)).take b.sz) x [] s2) :
    (a.cat b).Rel w ((cs.drop off).take (a.cat b).sz) x [] (s1 ++ s2) :=
  ⟨_, _, [], [], s1, s2, by show _ = _; rw [← List.drop_drop]; exact List.take_add .., rfl, rfl, h1, h2⟩

theorem small_arg {H : Type} {ts : List TypeId} {ds : List (DataW H)} (h : (DataW.weightsEach P ts ds).all (· ≤ reachBytes) = true) (j : Nat) {d : DataW H} (ht : ts[j]? = some t) (hd : ds[j]? = some d) : Small P t d := fun n hn => by
  have := List.all_eq_true.1 h n (DataW.weights_mem_each ht hd n hn)
  simpa using this
section
variable {H : Type} {enc : TypeId × Value → H} {w : World} {base : Nat} {v : Value} {d : DataW H} {p : List MemPlace} {dk : Kd α}
theorem rel_struct {fs : Array Field} (hu : P.underlying t = some (.struct fs)) (hv : Value.okWide P w .any base t v) (h : DataW.Trod enc P w 0 (fun _ => true) true t v d p) (hs : Small P t d) (ho : Opens P t dk) :
    ∃ (cs : List Value) (x : α) (s : List Nat), v = .agg cs.toArray ∧ dk.Rel w cs x [] s := by
  obtain ⟨cs, rfl, -⟩ := Go.WideShapes.okWide_struct hu hv
  obtain ⟨fuel, hf⟩ := h
  obtain ⟨x, s, hr⟩ := ho.2 H enc w fuel _ d p hf hs
  exact ⟨cs.toList, x, s, rfl, hr⟩
end
end
end Go.Proofs.YtjdkfibeogiekaaGreat.Sx
