/- What functions of the program answer, each at every input that its row names; walked through their code. -/
import Derived.Test.YtpjepjnemnmieaaDoorSxb
import Derived.Test.YtpjepjnemnmieaaDoorProg
import Derived.KernelRfl
import Derived.Shelf.Strconv.Itoa4
import Derived.Shelf.Strconv.ErrVarParseInt
import Derived.Shelf.Strings.Prefix
import Derived.Lib.AtoiErrMem
import Derived.Lib.ItoaMem
import Derived.Lib.ParseIntBCases
import Derived.Lib.Strings
namespace Go.Proofs.YtpjepjnemnmieaaDoor.Sx
open Go Go.RowKit Go.Proofs
set_option linter.unusedVariables false
set_option linter.unusedSimpArgs false
def tab : Tab := { size := [(2, 1, false), (46, 2, true)], off := [((46, 0), 0), ((46, 1), 1)], elem := [] }
theorem tab_ok : tab.check Tryd.prog = true := by kernel_rfl
theorem wide : Tryd.prog.follows .mixedOrders = true := by kernel_rfl
noncomputable abbrev X (N : Nat) (w : World) : Cx := ⟨Tryd.prog, tab, tab_ok, wide, N, w, none, []⟩
theorem zero46 : (Tryd.prog.info? 46).bind (·.zero) = some (.agg #[.int .i64 0, .int .i64 0]) := by kernel_rfl
theorem bld46 : bld Tryd.prog 46 = some ([(0, 1), (1, 1)], [.int .i64 0, .int .i64 0]) := by kernel_rfl

section
open Go.Shelf
set_option maxRecDepth 100000
def renFormatInt : Go.Shelf.Ren := ⟨fun | 129 => 101 | 173 => 60 | 246 => 70 | 283 => 83 | 284 => 84 | 285 => 85 | 286 => 86 | 317 => 100 | 318 => 102 | 319 => 103 | 320 => 104 | 337 => 117 | 338 => 118 | n => n, fun | 0 => 0 | 2 => 2 | 3 => 3 | 4 => 4 | 5 => 5 | 9 => 9 | 20 => 20 | 37 => 96 | 46 => 122 | 51 => 134 | 53 => 112 | 171 => 111 | 173 => 115 | 212 => 133 | 213 => 135 | 232 => 156 | 233 => 157 | n => n, fun | 17 => 0 | 18 => 6 | 19 => 7 | n => n⟩
theorem laidFormatInt : LaysM.n173 Tryd.prog renFormatInt := {
  mixed := by kernel_rfl
  f129 := Tryd.func101.trans (congrArg some (by kernel_rfl))
  f173 := Tryd.func60.trans (congrArg some (by kernel_rfl))
  f246 := Tryd.func70.trans (congrArg some (by kernel_rfl))
  f283 := Tryd.func83.trans (congrArg some (by kernel_rfl))
  f284 := Tryd.func84.trans (congrArg some (by kernel_rfl))
  f285 := Tryd.func85.trans (congrArg some (by kernel_rfl))
  f286 := Tryd.func86.trans (congrArg some (by kernel_rfl))
  f317 := Tryd.func100.trans (congrArg some (by kernel_rfl))
  f318 := Tryd.func102.trans (congrArg some (by kernel_rfl))
  f319 := Tryd.func103.trans (congrArg some (by kernel_rfl))
  f320 := Tryd.func104.trans (congrArg some (by kernel_rfl))
  f337 := Tryd.func117.trans (congrArg some (by kernel_rfl))
  f338 := Tryd.func118.trans (congrArg some (by kernel_rfl))
  t0 := Tryd.underlying0
  a0 := Tryd.isAgg0
  z0 := Tryd.sizeOf0
  v0 := Tryd.zeroValue0
  t2 := Tryd.underlying2
  a2 := Tryd.isAgg2
  z2 := Tryd.sizeOf2
  v2 := Tryd.zeroValue2
  t3 := Tryd.underlying3
  a3 := Tryd.isAgg3
  z3 := Tryd.sizeOf3
  v3 := Tryd.zeroValue3
  t4 := Tryd.underlying4
  a4 := Tryd.isAgg4
  z4 := Tryd.sizeOf4
  v4 := Tryd.zeroValue4
  t5 := Tryd.underlying5
  a5 := Tryd.isAgg5
  z5 := Tryd.sizeOf5
  v5 := Tryd.zeroValue5
  t9 := Tryd.underlying9
  a9 := Tryd.isAgg9
  z9 := Tryd.sizeOf9
  v9 := Tryd.zeroValue9
  t20 := Tryd.underlying20
  a20 := Tryd.isAgg20
  z20 := Tryd.sizeOf20
  v20 := Tryd.zeroValue20
  t37 := Tryd.underlying96
  a37 := Tryd.isAgg96
  z37 := Tryd.sizeOf96
  v37 := Tryd.zeroValue96
  t46 := Tryd.underlying122
  a46 := Tryd.isAgg122
  z46 := Tryd.sizeOf122
  v46 := Tryd.zeroValue122
  t51 := Tryd.underlying134
  a51 := Tryd.isAgg134
  z51 := Tryd.sizeOf134
  v51 := Tryd.zeroValue134
  t53 := Tryd.underlying112
  a53 := Tryd.isAgg112
  z53 := Tryd.sizeOf112
  v53 := Tryd.zeroValue112
  t171 := Tryd.underlying111
  a171 := Tryd.isAgg111
  z171 := Tryd.sizeOf111
  v171 := Tryd.zeroValue111
  t173 := Tryd.underlying115
  a173 := Tryd.isAgg115
  z173 := Tryd.sizeOf115
  v173 := Tryd.zeroValue115
  t212 := Tryd.underlying133
  a212 := Tryd.isAgg133
  z212 := Tryd.sizeOf133
  v212 := Tryd.zeroValue133
  t213 := Tryd.underlying135
  a213 := Tryd.isAgg135
  z213 := Tryd.sizeOf135
  t232 := Tryd.underlying156
  a232 := Tryd.isAgg156
  z232 := Tryd.sizeOf156
  v232 := Tryd.zeroValue156
  t233 := Tryd.underlying157
  a233 := Tryd.isAgg157
  z233 := Tryd.sizeOf157
  v233 := Tryd.zeroValue157
  g17 := by kernel_rfl
  g18 := by kernel_rfl
  g19 := by kernel_rfl
  i0 := by kernel_rfl
  i2 := by kernel_rfl
  i3 := by kernel_rfl
  i4 := by kernel_rfl
  i5 := by kernel_rfl
  i9 := by kernel_rfl
  i20 := by kernel_rfl
  i37 := by kernel_rfl
  i46 := by kernel_rfl
  i51 := by kernel_rfl
  i53 := by kernel_rfl
  i171 := by kernel_rfl
  i173 := by kernel_rfl
  i212 := by kernel_rfl
  i232 := by kernel_rfl
  i233 := by kernel_rfl
  m17 := by kernel_rfl
  m18 := by kernel_rfl
  m19 := by kernel_rfl }
def renParseInt : Go.Shelf.Ren := ⟨fun | 129 => 101 | 171 => 111 | 174 => 64 | 205 => 110 | 243 => 119 | 245 => 76 | 246 => 70 | 247 => 75 | 279 => 91 | 280 => 92 | 281 => 93 | 282 => 94 | 283 => 83 | 284 => 84 | 285 => 85 | 286 => 86 | 287 => 90 | 316 => 109 | 317 => 100 | 318 => 102 | 319 => 103 | 320 => 104 | 321 => 107 | 322 => 108 | 337 => 117 | 338 => 118 | n => n, fun | 0 => 0 | 2 => 2 | 3 => 3 | 4 => 4 | 5 => 5 | 9 => 9 | 20 => 20 | 21 => 21 | 37 => 96 | 46 => 122 | 51 => 134 | 53 => 112 | 75 => 93 | 80 => 106 | 85 => 94 | 127 => 117 | 143 => 147 | 145 => 149 | 167 => 119 | 168 => 123 | 171 => 111 | 173 => 115 | 175 => 120 | 210 => 144 | 212 => 133 | 213 => 135 | 232 => 156 | 233 => 157 | n => n, fun | 15 => 1 | 16 => 2 | 17 => 0 | 18 => 6 | 19 => 7 | n => n⟩
theorem laidParseInt : LaysC.n174 Tryd.prog renParseInt := {
  mixed := by kernel_rfl
  f129 := Tryd.func101.trans (congrArg some (by kernel_rfl))
  f171 := Tryd.func111.trans (congrArg some (by kernel_rfl))
  f174 := Tryd.func64.trans (congrArg some (by kernel_rfl))
  f205 := Tryd.func110.trans (congrArg some (by kernel_rfl))
  f243 := Tryd.func119.trans (congrArg some (by kernel_rfl))
  f245 := Tryd.func76.trans (congrArg some (by kernel_rfl))
  f246 := Tryd.func70.trans (congrArg some (by kernel_rfl))
  f247 := Tryd.func75.trans (congrArg some (by kernel_rfl))
  f279 := Tryd.func91.trans (congrArg some (by kernel_rfl))
  f280 := Tryd.func92.trans (congrArg some (by kernel_rfl))
  f281 := Tryd.func93.trans (congrArg some (by kernel_rfl))
  f282 := Tryd.func94.trans (congrArg some (by kernel_rfl))
  f283 := Tryd.func83.trans (congrArg some (by kernel_rfl))
  f284 := Tryd.func84.trans (congrArg some (by kernel_rfl))
  f285 := Tryd.func85.trans (congrArg some (by kernel_rfl))
  f286 := Tryd.func86.trans (congrArg some (by kernel_rfl))
  f287 := Tryd.func90.trans (congrArg some (by kernel_rfl))
  f316 := Tryd.func109.trans (congrArg some (by kernel_rfl))
  f317 := Tryd.func100.trans (congrArg some (by kernel_rfl))
  f318 := Tryd.func102.trans (congrArg some (by kernel_rfl))
  f319 := Tryd.func103.trans (congrArg some (by kernel_rfl))
  f320 := Tryd.func104.trans (congrArg some (by kernel_rfl))
  f321 := Tryd.func107.trans (congrArg some (by kernel_rfl))
  f322 := Tryd.func108.trans (congrArg some (by kernel_rfl))
  f337 := Tryd.func117.trans (congrArg some (by kernel_rfl))
  f338 := Tryd.func118.trans (congrArg some (by kernel_rfl))
  t0 := Tryd.underlying0
  a0 := Tryd.isAgg0
  z0 := Tryd.sizeOf0
  v0 := Tryd.zeroValue0
  t2 := Tryd.underlying2
  a2 := Tryd.isAgg2
  z2 := Tryd.sizeOf2
  v2 := Tryd.zeroValue2
  t3 := Tryd.underlying3
  a3 := Tryd.isAgg3
  z3 := Tryd.sizeOf3
  v3 := Tryd.zeroValue3
  t4 := Tryd.underlying4
  a4 := Tryd.isAgg4
  z4 := Tryd.sizeOf4
  v4 := Tryd.zeroValue4
  t5 := Tryd.underlying5
  a5 := Tryd.isAgg5
  z5 := Tryd.sizeOf5
  v5 := Tryd.zeroValue5
  t9 := Tryd.underlying9
  a9 := Tryd.isAgg9
  z9 := Tryd.sizeOf9
  v9 := Tryd.zeroValue9
  t20 := Tryd.underlying20
  a20 := Tryd.isAgg20
  z20 := Tryd.sizeOf20
  v20 := Tryd.zeroValue20
  t21 := Tryd.underlying21
  a21 := Tryd.isAgg21
  z21 := Tryd.sizeOf21
  v21 := Tryd.zeroValue21
  t37 := Tryd.underlying96
  a37 := Tryd.isAgg96
  z37 := Tryd.sizeOf96
  v37 := Tryd.zeroValue96
  t46 := Tryd.underlying122
  a46 := Tryd.isAgg122
  z46 := Tryd.sizeOf122
  v46 := Tryd.zeroValue122
  t51 := Tryd.underlying134
  a51 := Tryd.isAgg134
  z51 := Tryd.sizeOf134
  v51 := Tryd.zeroValue134
  t53 := Tryd.underlying112
  a53 := Tryd.isAgg112
  z53 := Tryd.sizeOf112
  v53 := Tryd.zeroValue112
  t75 := Tryd.underlying93
  a75 := Tryd.isAgg93
  z75 := Tryd.sizeOf93
  v75 := Tryd.zeroValue93
  t85 := Tryd.underlying94
  a85 := Tryd.isAgg94
  z85 := Tryd.sizeOf94
  v85 := Tryd.zeroValue94
  t127 := Tryd.underlying117
  a127 := Tryd.isAgg117
  z127 := Tryd.sizeOf117
  v127 := Tryd.zeroValue117
  t143 := Tryd.underlying147
  a143 := Tryd.isAgg147
  z143 := Tryd.sizeOf147
  v143 := Tryd.zeroValue147
  t145 := Tryd.underlying149
  a145 := Tryd.isAgg149
  z145 := Tryd.sizeOf149
  v145 := Tryd.zeroValue149
  t167 := Tryd.underlying119
  a167 := Tryd.isAgg119
  z167 := Tryd.sizeOf119
  v167 := Tryd.zeroValue119
  t168 := Tryd.underlying123
  a168 := Tryd.isAgg123
  z168 := Tryd.sizeOf123
  v168 := Tryd.zeroValue123
  t171 := Tryd.underlying111
  a171 := Tryd.isAgg111
  z171 := Tryd.sizeOf111
  v171 := Tryd.zeroValue111
  t173 := Tryd.underlying115
  a173 := Tryd.isAgg115
  z173 := Tryd.sizeOf115
  v173 := Tryd.zeroValue115
  t175 := Tryd.underlying120
  a175 := Tryd.isAgg120
  z175 := Tryd.sizeOf120
  v175 := Tryd.zeroValue120
  t210 := Tryd.underlying144
  a210 := Tryd.isAgg144
  z210 := Tryd.sizeOf144
  v210 := Tryd.zeroValue144
  t212 := Tryd.underlying133
  a212 := Tryd.isAgg133
  z212 := Tryd.sizeOf133
  v212 := Tryd.zeroValue133
  t213 := Tryd.underlying135
  a213 := Tryd.isAgg135
  z213 := Tryd.sizeOf135
  t232 := Tryd.underlying156
  a232 := Tryd.isAgg156
  z232 := Tryd.sizeOf156
  v232 := Tryd.zeroValue156
  t233 := Tryd.underlying157
  a233 := Tryd.isAgg157
  z233 := Tryd.sizeOf157
  v233 := Tryd.zeroValue157
  g15 := by kernel_rfl
  g16 := by kernel_rfl
  g17 := by kernel_rfl
  g18 := by kernel_rfl
  g19 := by kernel_rfl
  t80 := Tryd.underlying106
  a80 := Tryd.isAgg106
  z80 := Tryd.sizeOf106
  v80 := Tryd.zeroValue106
  i0 := by kernel_rfl
  i2 := by kernel_rfl
  i3 := by kernel_rfl
  i4 := by kernel_rfl
  i5 := by kernel_rfl
  i9 := by kernel_rfl
  i20 := by kernel_rfl
  i21 := by kernel_rfl
  i37 := by kernel_rfl
  i46 := by kernel_rfl
  i51 := by kernel_rfl
  i53 := by kernel_rfl
  i75 := by kernel_rfl
  i80 := by kernel_rfl
  i85 := by kernel_rfl
  i127 := by kernel_rfl
  i143 := by kernel_rfl
  i145 := by kernel_rfl
  i167 := by kernel_rfl
  i168 := by kernel_rfl
  i171 := by kernel_rfl
  i173 := by kernel_rfl
  i175 := by kernel_rfl
  i210 := by kernel_rfl
  i212 := by kernel_rfl
  i232 := by kernel_rfl
  i233 := by kernel_rfl
  m15 := by kernel_rfl
  m16 := by kernel_rfl
  m17 := by kernel_rfl
  m18 := by kernel_rfl
  m19 := by kernel_rfl
  c0 := by kernel_rfl
  c2 := by kernel_rfl
  c3 := by kernel_rfl
  c4 := by kernel_rfl
  c5 := by kernel_rfl
  c9 := by kernel_rfl
  c20 := by kernel_rfl
  c21 := by kernel_rfl
  c37 := by kernel_rfl
  c46 := by kernel_rfl
  c51 := by kernel_rfl
  c53 := by kernel_rfl
  c75 := by kernel_rfl
  c80 := by kernel_rfl
  c85 := by kernel_rfl
  c127 := by kernel_rfl
  c143 := by kernel_rfl
  c145 := by kernel_rfl
  c167 := by kernel_rfl
  c168 := by kernel_rfl
  c171 := by kernel_rfl
  c173 := by kernel_rfl
  c175 := by kernel_rfl
  c210 := by kernel_rfl
  c212 := by kernel_rfl
  c213 := by kernel_rfl
  c232 := by kernel_rfl
  c233 := by kernel_rfl }
def renTrimPrefix : Go.Shelf.Ren := ⟨fun | 101 => 63 | 206 => 89 | 208 => 74 | n => n, fun | 3 => 3 | 4 => 4 | 9 => 9 | n => n, fun n => n⟩
theorem laidTrimPrefix : Lays.n101 Tryd.prog renTrimPrefix := {
  mixed := by kernel_rfl
  f101 := Tryd.func63.trans (congrArg some (by kernel_rfl))
  f206 := Tryd.func89.trans (congrArg some (by kernel_rfl))
  f208 := Tryd.func74.trans (congrArg some (by kernel_rfl))
  t3 := Tryd.underlying3
  a3 := Tryd.isAgg3
  z3 := Tryd.sizeOf3
  v3 := Tryd.zeroValue3
  t4 := Tryd.underlying4
  a4 := Tryd.isAgg4
  z4 := Tryd.sizeOf4
  v4 := Tryd.zeroValue4
  t9 := Tryd.underlying9
  a9 := Tryd.isAgg9
  z9 := Tryd.sizeOf9
  v9 := Tryd.zeroValue9 }
end
theorem below_grow (w : World) (k : Nat) (os : Array Obj) : Go.RowKit.Below w.heap.size w (Go.Sort.grow (w.drewN k) os) :=
  ⟨rfl, rfl, rfl, by simp [Go.Sort.grow, World.drewN], fun i hi => by simp [Go.Sort.grow, World.drewN, Array.getElem?_append_left hi]⟩
theorem var_below {P : Program} {w w' : World} {n : String} {cs : Array Value} (h : w.var? P n = some cs) (b : Below w.heap.size w w') : w'.var? P n = some cs := by
  unfold World.var? at *
  cases hg : P.globalNamed n with
  | none => rw [hg] at h; cases h
  | some g =>
    rw [hg] at h
    simp only [Option.bind_some] at h ⊢
    have hlt : g < w.heap.size := by
      apply Decidable.byContradiction
      intro hn
      rw [Array.getElem?_eq_none (by omega)] at h
      cases h
    rw [b.block g hlt]
    exact h
def TabP (w : World) : Prop := Go.Lib.TabIs Tryd.prog w "internal/strconv.uint64pow10" .u64 Go.Lib.pow10Tab
theorem TabP.mono {w w' : World} (h : TabP w) (b : Below w.heap.size w w') : TabP w' := var_below h b
def TabE (w : World) : Prop := (∃ tp p, w.var? Tryd.prog "strconv.ErrSyntax" = some #[.iface tp p]) ∧ ∃ tp p, w.var? Tryd.prog "strconv.ErrRange" = some #[.iface tp p]
theorem TabE.mono {w w' : World} (h : TabE w) (b : Below w.heap.size w w') : TabE w' := by
  obtain ⟨⟨t1, p1, h1⟩, t2, p2, h2⟩ := h
  exact ⟨⟨t1, p1, var_below h1 b⟩, t2, p2, var_below h2 b⟩
def itoaB (n : Int) : ByteArray := ⟨(Go.Lib.itoa n).toArray⟩
theorem fmtInt (w : World) (n : Int) (h0 : -9223372036854775808 ≤ n) (h1 : n ≤ 9223372036854775807) (ht : TabP w) : Calls Tryd.prog 60 #[.int .i64 n, .int .i64 10] w (fun e w' => e = .returned (.string (itoaB n)) ∧ Below w.heap.size w w') :=
  (Any.strconv_FormatInt_10 laidFormatInt n h0 h1 w ht).mono fun e w' ⟨he, k, os, hw⟩ => ⟨he, .of (hw ▸ below_grow w k os)⟩
def trimB (s p : ByteArray) : ByteArray := ⟨(Go.Lib.trimPrefix s.data.toList p.data.toList).toArray⟩
theorem trimPre (w : World) (s p : ByteArray) : Calls Tryd.prog 63 #[.string s, .string p] w (fun e w' => e = .returned (.string (trimB s p)) ∧ Below w.heap.size w w') :=
  (Any.strings_TrimPrefix laidTrimPrefix s p w).mono fun e w' ⟨he, hw⟩ => ⟨he, hw ▸ Below.refl _ _⟩

/-! ### numbers in decimal: what the reference reads, what strconv reads and writes -/
def dvl (l : List UInt8) : Nat := l.foldl (fun n c => n * 10 + (c.toNat - 48)) 0
def isDg (c : UInt8) : Bool := decide (48 ≤ c.toNat ∧ c.toNat ≤ 57)
theorem isDg_t {c : UInt8} (h : isDg c = true) : 48 ≤ c.toNat ∧ c.toNat ≤ 57 := of_decide_eq_true h
theorem dvl_snoc (l : List UInt8) (c : UInt8) : dvl (l ++ [c]) = dvl l * 10 + (c.toNat - 48) := by simp [dvl]
theorem ofNat_digit {c : UInt8} (h : isDg c = true) : UInt8.ofNat (48 + (c.toNat - 48)) = c := by
  have := isDg_t h
  have e : 48 + (c.toNat - 48) = c.toNat := by omega
  rw [e]; exact UInt8.ofNat_toNat
theorem snoc_cases {α : Type} (l : List α) : l = [] ∨ ∃ a c, l = a ++ [c] := by
  rcases List.eq_nil_or_concat l with h | ⟨a, c, h⟩
  · exact .inl h
  · exact .inr ⟨a, c, by simpa using h⟩
/-- Digits as they are written: a 0 ahead only where it stands alone. -/
def Canon (d : List UInt8) : Prop := 1 ≤ d.length ∧ d.all isDg = true ∧ (d.getD 0 0 = 48 → d.length = 1)
theorem dvl_pos : ∀ (n : Nat) (d : List UInt8), d.length = n → Canon d → d.getD 0 0 ≠ 48 → 1 ≤ dvl d
  | 0, d, hn, h, _ => by have := h.1; omega
  | n + 1, d, hn, h, h0 => by
    rcases snoc_cases d with rfl | ⟨a, c, rfl⟩
    · simp at hn
    · rw [dvl_snoc]
      obtain ⟨h1, h2, h3⟩ := h
      simp only [List.all_append, Bool.and_eq_true, List.all_cons, List.all_nil, Bool.and_true] at h2
      by_cases ha : a = []
      · subst ha
        simp only [List.nil_append, List.getD_cons_zero] at h0
        have := isDg_t h2.2
        have hne : c.toNat ≠ 48 := fun e => h0 (UInt8.toNat.inj (by simpa using e))
        simp only [dvl, List.foldl_nil]; omega
      · have hl : 1 ≤ a.length := List.length_pos_iff.2 ha
        have hg : (a ++ [c]).getD 0 0 = a.getD 0 0 := by cases a with | nil => exact absurd rfl ha | cons x r => rfl
        rw [hg] at h0
        have := dvl_pos n a (by simpa using hn) ⟨hl, h2.1, fun e => absurd e h0⟩ h0
        omega
theorem dec_dvl : ∀ (n : Nat) (d : List UInt8), d.length = n → Canon d → Go.Lib.decDigits (dvl d) = d
  | 0, d, hn, h => by have := h.1; omega
  | n + 1, d, hn, h => by
    rcases snoc_cases d with rfl | ⟨a, c, rfl⟩
    · simp at hn
    · rw [dvl_snoc]
      obtain ⟨h1, h2, h3⟩ := h
      simp only [List.all_append, Bool.and_eq_true, List.all_cons, List.all_nil, Bool.and_true] at h2
      have hc := isDg_t h2.2
      by_cases ha : a = []
      · subst ha
        rw [Go.Lib.decDigits, dif_pos (by simp only [dvl, List.foldl_nil]; omega)]
        simp only [dvl, List.foldl_nil, Nat.zero_mul, Nat.zero_add, List.nil_append]
        rw [ofNat_digit h2.2]
      · have hl : 1 ≤ a.length := List.length_pos_iff.2 ha
        have hg : (a ++ [c]).getD 0 0 = a.getD 0 0 := by cases a with | nil => exact absurd rfl ha | cons x r => rfl
        have h0 : a.getD 0 0 ≠ 48 := fun e => by have := h3 (hg.trans e); rw [List.length_append, List.length_singleton] at this; omega
        have hca : Canon a := ⟨hl, h2.1, fun e => absurd e h0⟩
        have hn' : a.length = n := by simpa using hn
        have hp := dvl_pos n a hn' hca h0
        generalize hA : dvl a = A at *
        have hlt : ¬ A * 10 + (c.toNat - 48) < 10 := by omega
        subst hA
        rw [Go.Lib.decDigits, dif_neg hlt]
        have e1 : (dvl a * 10 + (c.toNat - 48)) / 10 = dvl a := by omega
        have e2 : (dvl a * 10 + (c.toNat - 48)) % 10 = c.toNat - 48 := by omega
        rw [e1, e2, dec_dvl n a hn' hca, ofNat_digit h2.2]
theorem dig_toNat {u : Nat} (h : u < 10) : (UInt8.ofNat (48 + u)).toNat = 48 + u := by rw [UInt8.toNat_ofNat']; omega
theorem dec_canon : ∀ (u : Nat), Canon (Go.Lib.decDigits u) ∧ dvl (Go.Lib.decDigits u) = u := fun u => by
  induction u using Nat.strongRecOn with
  | _ u ih =>
    by_cases h : u < 10
    · rw [Go.Lib.decDigits, dif_pos h]
      have := dig_toNat h
      exact ⟨⟨by simp, by simp [isDg, this]; omega, by simp⟩, by simp [dvl]; omega⟩
    · rw [Go.Lib.decDigits, dif_neg h]
      obtain ⟨⟨h1, h2, h3⟩, h4⟩ := ih (u / 10) (by omega)
      have hd := dig_toNat (u := u % 10) (by omega)
      have hdg : isDg (UInt8.ofNat (48 + u % 10)) = true := by simp [isDg, hd]; omega
      refine ⟨⟨by simp, by rw [List.all_append, h2, List.all_cons, hdg]; rfl, fun e => ?_⟩, by rw [dvl_snoc, h4, hd]; omega⟩
      exfalso
      have hg : (Go.Lib.decDigits (u / 10) ++ [UInt8.ofNat (48 + u % 10)]).getD 0 0 = (Go.Lib.decDigits (u / 10)).getD 0 0 := by
        revert h1; cases Go.Lib.decDigits (u / 10) with | nil => intro h1; simp at h1 | cons x r => intro _; rfl
      have hl := h3 (hg.symm.trans e)
      have he := hg.symm.trans e
      have hz : Go.Lib.decDigits (u / 10) = [48] := by
        revert hl he; cases Go.Lib.decDigits (u / 10) with
        | nil => intro hl; simp at hl
        | cons x r => intro hl he; simp at hl he; subst hl; rw [he]
      rw [hz] at h4
      have : dvl [48] = 0 := by decide
      omega
theorem dec_head {u : Nat} (h : (Go.Lib.decDigits u).getD 0 0 = 48) : u = 0 := by
  obtain ⟨⟨h1, h2, h3⟩, h4⟩ := dec_canon u
  have hl := h3 h
  have hz : Go.Lib.decDigits u = [48] := by
    revert hl h; cases Go.Lib.decDigits u with
    | nil => intro _ hl; simp at hl
    | cons x r => intro h hl; simp at hl h; subst hl; rw [h]
  rw [hz] at h4
  exact h4.symm
theorem dvl_lt : ∀ (n : Nat) (d : List UInt8), d.length = n → d.all isDg = true → dvl d < 10 ^ n
  | 0, d, hn, _ => by obtain rfl : d = [] := List.length_eq_zero_iff.1 hn; simp [dvl]
  | n + 1, d, hn, h => by
    rcases snoc_cases d with rfl | ⟨a, c, rfl⟩
    · simp at hn
    · rw [dvl_snoc]
      simp only [List.all_append, Bool.and_eq_true, List.all_cons, List.all_nil, Bool.and_true] at h
      have hc := isDg_t h.2
      have := dvl_lt n a (by simpa using hn) h.1
      rw [Nat.pow_succ]; omega
theorem dvl_six {d : List UInt8} (hd : d.all isDg = true) (h : d.length ≤ 6) : dvl d < 1000000 := by
  have h1 := dvl_lt d.length d rfl hd
  have h2 : 10 ^ d.length ≤ 10 ^ 6 := Nat.pow_le_pow_right (by decide) h
  omega
theorem pum : ∀ (d : List UInt8) (acc : Nat), d.all isDg = true → acc * 10 ^ d.length + 10 ^ d.length ≤ 10 ^ 12 → Go.Lib.parseUintM (2 ^ 64 - 1) acc d = .ok (d.foldl (fun n c => n * 10 + (c.toNat - 48)) acc)
  | [], acc, _, _ => rfl
  | c :: r, acc, hd, hb => by
    simp only [List.all_cons, Bool.and_eq_true] at hd
    have hc := isDg_t hd.1
    rw [List.length_cons, Nat.pow_succ] at hb
    have hp : 1 ≤ 10 ^ r.length := Nat.one_le_pow _ _ (by decide)
    have hacc : acc * (10 ^ r.length * 10) ≤ 10 ^ 12 := by omega
    have h1 : acc ≤ 10 ^ 12 := Nat.le_trans (Nat.le_mul_of_pos_right _ (by omega)) hacc
    unfold Go.Lib.parseUintM
    rw [if_pos hc, if_neg (by omega), if_neg (by omega)]
    refine (pum r _ hd.2 ?_).trans rfl
    have e : (acc * 10 + (c.toNat - 48)) * 10 ^ r.length + 10 ^ r.length = (acc * 10) * 10 ^ r.length + (c.toNat - 48 + 1) * 10 ^ r.length := by
      rw [Nat.add_mul, Nat.add_mul (c.toNat - 48) 1]; omega
    have e2 : (c.toNat - 48 + 1) * 10 ^ r.length ≤ 10 * 10 ^ r.length := Nat.mul_le_mul_right _ (by omega)
    have e3 : acc * (10 ^ r.length * 10) = (acc * 10) * 10 ^ r.length := by rw [Nat.mul_comm (10 ^ r.length) 10, Nat.mul_assoc]
    omega
theorem pub {d : List UInt8} (h1 : 1 ≤ d.length) (hd : d.all isDg = true) (h6 : d.length ≤ 6) : Go.Lib.parseUintB 64 d = .ok (dvl d) := by
  unfold Go.Lib.parseUintB
  rw [if_neg (by intro e; subst e; simp at h1)]
  have h2 : 10 ^ d.length ≤ 10 ^ 6 := Nat.pow_le_pow_right (by decide) h6
  exact pum d 0 hd (by omega)

def digL : List UInt8 → List UInt8
  | c :: d :: r => if c = 45 then d :: r else c :: d :: r
  | l => l
def badL (l d : List UInt8) : Prop := d.length < 1 ∨ 6 < d.length ∨ ((d.getD 0 0 = 48) ∧ (1 < d.length ∨ 1 < l.length))
instance (l d : List UInt8) : Decidable (badL l d) := by unfold badL; infer_instance
/-- What the reference reads. -/
def numL (l : List UInt8) : Int × Bool :=
  if badL l (digL l) then (0, false)
  else if (digL l).all isDg = true then (if (digL l).length < l.length then -(dvl (digL l) : Int) else (dvl (digL l) : Int), true) else (0, false)
def piV (l : List UInt8) : Int := match Go.Lib.parseIntB 64 l with | .ok v => v | .«syntax» => 0 | .range => Go.Lib.intSat 64 l
def piOk (l : List UInt8) : Bool := match Go.Lib.parseIntB 64 l with | .ok _ => true | _ => false
theorem piOk_t {l : List UInt8} (h : piOk l = true) : Go.Lib.parseIntB 64 l = .ok (piV l) := by
  unfold piOk at h; unfold piV; split at h <;> simp_all
theorem piOk_f {l : List UInt8} (h : ¬ piOk l = true) : (Go.Lib.parseIntB 64 l = .«syntax» ∧ piV l = 0) ∨ (Go.Lib.parseIntB 64 l = .range ∧ piV l = Go.Lib.intSat 64 l) := by
  unfold piOk at h; unfold piV
  split at h
  · exact absurd rfl h
  · rename_i h2; generalize Go.Lib.parseIntB 64 l = z at *; cases z <;> simp_all
/-- What the program reads. -/
def numI (l : List UInt8) : Int × Bool :=
  if 6 < (Go.Lib.trimPrefix l [45]).length then (0, false) else (piV l, piOk l && decide (Go.Lib.itoa (piV l) = l))
theorem dg_ne {c : UInt8} (h : isDg c = true) : c.toNat ≠ 43 ∧ c.toNat ≠ 45 := by have := isDg_t h; omega
theorem numL_itoa {n : Int} (h : (Go.Lib.trimPrefix (Go.Lib.itoa n) [45]).length ≤ 6) : numL (Go.Lib.itoa n) = (n, true) ∧ Go.Lib.parseIntB 64 (Go.Lib.itoa n) = .ok n := by
  by_cases hn : n < 0
  · obtain ⟨u, hu1, rfl⟩ : ∃ u : Nat, 1 ≤ u ∧ n = -(u : Int) := ⟨n.natAbs, by omega, by omega⟩
    rw [Go.Lib.itoa_neg u hu1] at h ⊢
    obtain ⟨⟨h1, h2, h3⟩, h4⟩ := dec_canon u
    have hh : (Go.Lib.decDigits u).getD 0 0 ≠ 48 := fun e => by have := dec_head e; omega
    have ht : Go.Lib.trimPrefix (45 :: Go.Lib.decDigits u) [45] = Go.Lib.decDigits u := by simp [Go.Lib.trimPrefix, Go.Lib.hasPrefix]
    rw [ht] at h
    have hd : digL (45 :: Go.Lib.decDigits u) = Go.Lib.decDigits u := by
      revert h1; cases Go.Lib.decDigits u with | nil => intro h1; simp at h1 | cons x r => intro _; rfl
    have hsz := dvl_six h2 h
    constructor
    · unfold numL
      rw [hd, if_neg (fun hb => by unfold badL at hb; rcases hb with hb | hb | hb <;> first | omega | exact hh hb.1), if_pos h2, if_pos (by simp), h4]
    · rw [Go.Lib.parseIntB_minus, pub h1 h2 h, h4]
      rw [h4] at hsz
      simp [Go.Lib.signedC]; omega
  · obtain ⟨u, rfl⟩ : ∃ u : Nat, n = (u : Int) := ⟨n.toNat, by omega⟩
    rw [Go.Lib.itoa_nonneg] at h ⊢
    obtain ⟨⟨h1, h2, h3⟩, h4⟩ := dec_canon u
    generalize hD : Go.Lib.decDigits u = D at *
    match D, h1, h2, h3, h4, h with
    | c :: r, h1, h2, h3, h4, h =>
      have hc : isDg c = true := by simp only [List.all_cons, Bool.and_eq_true] at h2; exact h2.1
      have hne : c ≠ 45 := fun e => (dg_ne hc).2 (by rw [e]; rfl)
      have ht : Go.Lib.trimPrefix (c :: r) [45] = c :: r := by simp [Go.Lib.trimPrefix, Go.Lib.hasPrefix, Ne.symm hne]
      rw [ht] at h
      have hd : digL (c :: r) = c :: r := by cases r with | nil => rfl | cons x r => simp [digL, hne]
      have hsz := dvl_six h2 h
      constructor
      · unfold numL
        rw [hd, if_neg (fun hb => by unfold badL at hb; rcases hb with hb | hb | hb <;> first | omega | (have := h3 hb.1; omega)), if_pos h2, if_neg (by omega), h4]
      · rw [Go.Lib.parseIntB_plain 64 c r (dg_ne hc).1 (dg_ne hc).2, pub h1 h2 h, h4]
        rw [h4] at hsz
        simp [Go.Lib.signlessC]; omega
theorem numL_true {l : List UInt8} (h : (numL l).2 = true) : l = Go.Lib.itoa (numL l).1 ∧ (Go.Lib.trimPrefix l [45]).length ≤ 6 := by
  unfold numL at h ⊢
  split at h
  · cases h
  · rename_i hb
    rw [if_neg hb]
    split at h
    · rename_i hall
      rw [if_pos hall]
      unfold badL at hb
      have h1 : 1 ≤ (digL l).length := by omega
      have h6 : (digL l).length ≤ 6 := by omega
      have hz : (digL l).getD 0 0 = 48 → ¬ 1 < (digL l).length ∧ ¬ 1 < l.length := fun e => ⟨fun z => hb (.inr (.inr ⟨e, .inl z⟩)), fun z => hb (.inr (.inr ⟨e, .inr z⟩))⟩
      have hcan : Canon (digL l) := ⟨h1, hall, fun e => by have := (hz e).1; omega⟩
      have hdec := dec_dvl _ _ rfl hcan
      by_cases hneg : (digL l).length < l.length
      · rw [if_pos hneg]
        match l, hneg with
        | c :: d :: r, hneg =>
          by_cases hc : c = 45
          · subst hc
            have hdl : digL (45 :: d :: r) = d :: r := rfl
            rw [hdl] at h1 h6 hz hcan hdec hall
            have h0 : (d :: r).getD 0 0 ≠ 48 := fun e => (hz e).2 (by simp)
            have hp := dvl_pos _ _ rfl hcan h0
            rw [hdl, Go.Lib.itoa_neg _ hp, hdec]
            exact ⟨rfl, by simpa [Go.Lib.trimPrefix, Go.Lib.hasPrefix] using h6⟩
          · exfalso
            have : digL (c :: d :: r) = c :: d :: r := by simp [digL, hc]
            rw [this] at hneg; omega
        | [c], hneg => simp [digL] at hneg
        | [], hneg => simp [digL] at hneg
      · rw [if_neg hneg, Go.Lib.itoa_nonneg, hdec]
        have hdl : digL l = l := by
          match l, hneg with
          | c :: d :: r, hneg =>
            by_cases hc : c = 45
            · subst hc; exfalso; exact hneg (by simp [digL])
            · simp [digL, hc]
          | [c], _ => rfl
          | [], _ => rfl
        rw [hdl] at h1 h6 hall
        refine ⟨by rw [hdl], ?_⟩
        clear hb hz hcan hdec hneg h hdl
        match l, h1, hall, h6 with
        | c :: r, _, hall, h6 =>
          have hcd : isDg c = true := by simp only [List.all_cons, Bool.and_eq_true] at hall; exact hall.1
          have hne : c ≠ 45 := fun e => (dg_ne hcd).2 (by rw [e]; rfl)
          simpa [Go.Lib.trimPrefix, Go.Lib.hasPrefix, Ne.symm hne] using h6
    · cases h
theorem num_same (l : List UInt8) : (numI l).2 = (numL l).2 ∧ ((numL l).2 = true → (numI l).1 = (numL l).1) := by
  by_cases h : (numL l).2 = true
  · obtain ⟨h1, h2⟩ := numL_true h
    generalize hn : (numL l).1 = n at *
    subst h1
    obtain ⟨h3, h4⟩ := numL_itoa h2
    have hv : piV (Go.Lib.itoa n) = n := by unfold piV; rw [h4]
    have ho : piOk (Go.Lib.itoa n) = true := by unfold piOk; rw [h4]
    unfold numI
    rw [if_neg (by omega), h, hv, ho]
    simp
  · have hf : (numL l).2 = false := by simpa using h
    refine ⟨?_, fun z => absurd z h⟩
    rw [hf]
    unfold numI
    split
    · rfl
    · rename_i h6
      show (piOk l && decide (Go.Lib.itoa (piV l) = l)) = false
      cases ho : piOk l with
      | false => rfl
      | true =>
        rw [Bool.true_and]
        refine decide_eq_false fun e => h ?_
        have h7 : (Go.Lib.trimPrefix (Go.Lib.itoa (piV l)) [45]).length ≤ 6 := by rw [e]; omega
        have := (numL_itoa h7).1
        rw [e] at this
        rw [this]

/-! impl.decimal -/
set_option maxRecDepth 20000 in
set_option maxHeartbeats 2000000 in
theorem impl_decimal (w : World) (n : Int) (h0 : -9223372036854775808 ≤ n) (h1 : n ≤ 9223372036854775807) (ht : TabP w) : Calls Tryd.prog 38 #[.int .i64 n] w (fun e_ w2_ => e_ = .returned (.string (itoaB n)) ∧ Below w.heap.size w w2_) := by
  refine fnc (X := X 5 w) (args := [.int .i64 n]) (l := [(0, .int .i64 n)]) (G := []) Tryd.func38 rfl rfl rfl ⟨rfl, trivial⟩ (s0n w).1 ?_
  refine sq (rg (a_ rfl rfl (en (nx (sq (rg (m_ rfl rfl (cs_ (v := .string (itoaB n)) (by kernel_rfl) rfl rfl rfl (fun w_ hs_ => fmtInt w_ _ (by omega) (by omega) (ht.mono hs_.below)) (a_ rfl rfl (en (nx (rt (ret1 rfl rfl (fun w_ hs_ => ⟨?_, hs_.below⟩))))))))))))))
  rfl
structure IntResult where
  code : Int
  value : Int
  deriving DecidableEq
def kIntResultS : Kd IntResult := ((Kd.i64.via IntResult.code).cat (Kd.i64.via IntResult.value))
theorem kIntResultS_sh {w : World} {cs : List Value} {x : IntResult} {o s : List Nat} (h : kIntResultS.Rel w cs x o s) : cs = [.int .i64 x.code, .int .i64 x.value] := by
  obtain ⟨c10, c20, o10, o20, s10, s20, rfl, rfl, rfl, h0, k0⟩ := h
  obtain ⟨rfl, -, -⟩ := h0
  obtain ⟨rfl, -, -⟩ := k0
  exact rfl
theorem kIntResultS_self : Kd.Seals kIntResultS kIntResultS := (Kd.Seals.cat (Kd.Seals.via Kd.Seals.i64 _) (Kd.Seals.via Kd.Seals.i64 _))
theorem kIntResultS_pure : Kd.Pure kIntResultS := (Kd.Pure.cat (Kd.Pure.via Kd.Pure.i64 _) (Kd.Pure.via Kd.Pure.i64 _))
def kIntResultO : Kd IntResult := ((Kd.i64.via IntResult.code).cat (Kd.i64.via IntResult.value))
theorem kIntResultO_sh {w : World} {cs : List Value} {x : IntResult} {o s : List Nat} (h : kIntResultO.Rel w cs x o s) : cs = [.int .i64 x.code, .int .i64 x.value] := by
  obtain ⟨c10, c20, o10, o20, s10, s20, rfl, rfl, rfl, h0, k0⟩ := h
  obtain ⟨rfl, -, -⟩ := h0
  obtain ⟨rfl, -, -⟩ := k0
  exact rfl
theorem kIntResultO_seal : Kd.Seals kIntResultO kIntResultS := (Kd.Seals.cat (Kd.Seals.via Kd.Seals.i64 _) (Kd.Seals.via Kd.Seals.i64 _))
theorem IntResult_eq (a b : IntResult) : decide (a = b) = (decide (a.code = b.code) && decide (a.value = b.value)) := by
  cases a; cases b; rw [Bool.eq_iff_iff]; simp [and_assoc]
/-! laws.eqIntResult -/
set_option maxRecDepth 20000 in
set_option maxHeartbeats 2000000 in
theorem laws_eqIntResult (w : World)  {a : IntResult} {sa_ : List Nat} (ha : kIntResultS.Rel w [.int .i64 a.code, .int .i64 a.value] a [] sa_)  {b : IntResult} {sb_ : List Nat} (hb : kIntResultS.Rel w [.int .i64 b.code, .int .i64 b.value] b [] sb_)  : Calls Tryd.prog 20 #[.agg #[.int .i64 a.code, .int .i64 a.value], .agg #[.int .i64 b.code, .int .i64 b.value]] w (fun e_ w2_ => e_ = .returned (.bool (decide (a = b))) ∧ Below w.heap.size w w2_) := by
  refine fnc (X := X 15 w) (args := [.agg #[.int .i64 a.code, .int .i64 a.value], .agg #[.int .i64 b.code, .int .i64 b.value]]) (l := [(0, .agg #[.int .i64 a.code, .int .i64 a.value]), (1, .agg #[.int .i64 b.code, .int .i64 b.value])]) (G := [dat kIntResultS [.int .i64 b.code, .int .i64 b.value] b ([]) sb_, dat kIntResultS [.int .i64 a.code, .int .i64 a.value] a ([]) sa_]) Tryd.func20 rfl rfl rfl ⟨rfl, rfl, trivial⟩ (s0d hb (s0d ha (s0n w))).1 ?_
  refine sq (rg (bx rfl rfl rfl rfl ?_))
  intro b1
  refine bx rfl rfl rfl rfl ?_
  intro b2
  refine a_ rfl rfl (en (nx (sq (sq (rg (vl (fa rfl rfl rfl) rfl (vl (ldb (u := .int .i64 a.code) 1 rfl rfl rfl rfl rfl rfl rfl) rfl (vl (fa rfl rfl rfl) rfl (vl (ldb (u := .int .i64 b.code) 0 rfl rfl rfl rfl rfl rfl rfl) rfl (vl (cm rfl rfl rfl rfl) rfl (en (nx ?_))))))))))))
  by_cases h3 : a.code = b.code
  · refine cf rfl (bne_eq_false_iff_eq.2 h3) (sk (nx (sq (sq (rg (vl (fa rfl rfl rfl) rfl (vl (ldb (u := .int .i64 a.value) 1 rfl rfl rfl rfl rfl rfl rfl) rfl (vl (fa rfl rfl rfl) rfl (vl (ldb (u := .int .i64 b.value) 0 rfl rfl rfl rfl rfl rfl rfl) rfl (vl (cm rfl rfl rfl rfl) rfl (en (nx ?_))))))))))))
    by_cases h4 : a.value = b.value
    · refine cf rfl (bne_eq_false_iff_eq.2 h4) (sk (nx (sq (rg (a_ rfl rfl (en (nx (rt (ret1 rfl rfl (fun w_ hs_ => ⟨?_, hs_.below⟩))))))))))
      rw [IntResult_eq]; simp [h3, h4]
    · refine ct rfl (bne_iff_ne.2 h4) (sq (rg (a_ rfl rfl (en (nx (rt (xr (ret1 rfl rfl (fun w_ hs_ => ⟨?_, hs_.below⟩)))))))))
      rw [IntResult_eq]; simp [h3, h4]
  · refine ct rfl (bne_iff_ne.2 h3) (sq (rg (a_ rfl rfl (en (nx (rt (xr (ret1 rfl rfl (fun w_ hs_ => ⟨?_, hs_.below⟩)))))))))
    rw [IntResult_eq]; simp [h3]
def pI (s : ByteArray) : Bool := piOk s.data.toList
def pV (s : ByteArray) : Int := piV s.data.toList
theorem pV_lo (s : ByteArray) (h : pI s = true) : -9223372036854775808 ≤ pV s ∧ pV s ≤ 9223372036854775807 := by
  have := Go.Lib.parseIntB_bounds (piOk_t h)
  unfold pV; simp only [Nat.reducePow, Nat.reduceSub] at this; omega
theorem parseT (w : World) (s : ByteArray) (hz : s.size ≤ 281474976710656) (h : pI s = true) : Calls Tryd.prog 64 #[.string s, .int .i64 10, .int .i64 64] w (fun e w' => e = .returned (.tuple #[.int .i64 (pV s), .nilIface]) ∧ Below w.heap.size w w') :=
  (Any.strconv_ParseInt_10_at64_ok laidParseInt s (by omega) (pV s) (piOk_t h) w).mono fun e w' ⟨he, hw⟩ => ⟨he, by rcases hw with rfl | ⟨t, rfl⟩; exact Below.refl _ _; exact .of (Go.Lib.bytesWorld_below w _ t)⟩
theorem parseF (w : World) (s : ByteArray) (hz : s.size ≤ 281474976710656) (h : ¬ pI s = true) (hte : TabE w) : Calls Tryd.prog 64 #[.string s, .int .i64 10, .int .i64 64] w (fun e w' => ∃ N : Nat, e = .returned (.tuple #[.int .i64 (pV s), .iface 123 (.pointer (some ⟨N, 0, none⟩))]) ∧ Below w.heap.size w w') := by
  obtain ⟨⟨t1, p1, h1⟩, t2, p2, h2⟩ := hte
  rcases piOk_f h with ⟨h3, h4⟩ | ⟨h3, h4⟩
  · exact (Any.strconv_ParseInt_10_at64_syntax_var laidParseInt s hz h3 t1 p1 w h1).mono fun e w' ⟨N, he, _, _, hb⟩ => ⟨N, by rw [he]; unfold pV; rw [h4]; rfl, .of hb⟩
  · exact (Any.strconv_ParseInt_10_at64_range_var laidParseInt s hz h3 t2 p2 w h2).mono fun e w' ⟨N, he, _, _, hb⟩ => ⟨N, by rw [he]; unfold pV; rw [h4]; rfl, .of hb⟩

theorem rt2 {a c : Int} {b d : Bool} (h : (a, b) = (c, d)) : Ending.returned (.tuple #[.int .i64 a, .bool b]) = .returned (.tuple #[.int .i64 c, .bool d]) := by
  simp only [Prod.mk.injEq] at h; rw [h.1, h.2]
theorem trimB_size (s : ByteArray) : (trimB s (⟨#[45]⟩ : ByteArray)).size = (Go.Lib.trimPrefix s.data.toList [45]).length := by
  unfold trimB; simp [ByteArray.size]
theorem itoaB_eq (n : Int) (s : ByteArray) : decide (itoaB n = s) = decide (Go.Lib.itoa n = s.data.toList) := by
  rw [Bool.eq_iff_iff, decide_eq_true_iff, decide_eq_true_iff]
  unfold itoaB
  exact ⟨fun h => by rw [← h], fun h => by apply bs_ext; rw [h]⟩
theorem numI_long {s : ByteArray} (h : (6 : Int) < (((trimB s (⟨#[45]⟩ : ByteArray)).size : Nat) : Int)) : numI s.data.toList = (0, false) := by
  unfold numI; rw [trimB_size] at h; rw [if_pos (by omega)]
theorem numI_ok {s : ByteArray} (h : ¬ (6 : Int) < (((trimB s (⟨#[45]⟩ : ByteArray)).size : Nat) : Int)) (h2 : pI s = true) : numI s.data.toList = (pV s, decide (itoaB (pV s) = s)) := by
  unfold numI; rw [trimB_size] at h; rw [if_neg (by omega), show piOk s.data.toList = true from h2, Bool.true_and, itoaB_eq]; rfl
theorem numI_bad {s : ByteArray} (h : ¬ (6 : Int) < (((trimB s (⟨#[45]⟩ : ByteArray)).size : Nat) : Int)) (h2 : ¬ pI s = true) : numI s.data.toList = (pV s, false) := by
  unfold numI; rw [trimB_size] at h; rw [if_neg (by omega), show piOk s.data.toList = false from Bool.eq_false_iff.2 h2, Bool.false_and]; rfl

/-! impl.numberOf -/
set_option maxRecDepth 20000 in
set_option maxHeartbeats 2000000 in
theorem impl_numberOf (w : World) (word : ByteArray) (hz : word.size ≤ 1048576) (ht : TabP w) (hte : TabE w) : Calls Tryd.prog 42 #[.string word] w (fun e_ w2_ => e_ = .returned (.tuple #[.int .i64 ((numI word.data.toList).1), .bool ((numI word.data.toList).2)]) ∧ Below w.heap.size w w2_) := by
  refine fnc (X := X 24 w) (args := [.string word]) (l := [(0, .string word)]) (G := []) Tryd.func42 rfl rfl rfl ⟨rfl, trivial⟩ (s0n w).1 ?_
  refine sq (rg (a_ rfl rfl (a_ rfl rfl (en (nx (sq (sq (rg (m_ rfl rfl (cs_ (v := .string (trimB word (⟨#[45]⟩ : ByteArray))) (by kernel_rfl) rfl rfl rfl (fun w_ hs_ => trimPre w_ _ _ ) (vl (lns Tryd.underlying9 rfl rfl) rfl (vl (cm rfl rfl rfl rfl) rfl (en (nx ?_))))))))))))))
  by_cases h1 : (6 : Int) < (((trimB word (⟨#[45]⟩ : ByteArray)).size : Nat) : Int)
  · refine ct rfl (decide_eq_true h1) (sq (rg (a_ rfl rfl (a_ rfl rfl (en (nx (rt (xr (ret2 rfl rfl rfl (fun w_ hs_ => ⟨?_, hs_.below⟩))))))))))
    exact rt2 (by rw [numI_long h1])
  · refine cf rfl (decide_eq_false h1) (sk (nx (sq (rg (m_ rfl rfl ?_)))))
    by_cases h2 : pI word = true
    · have hpv := pV_lo _ h2
      refine cs_ (v := .tuple #[.int .i64 (pV word), .nilIface]) (by kernel_rfl) rfl rfl rfl (fun w_ hs_ => parseT w_ _ (by omega) h2) (m_ rfl rfl (vl (ex rfl rfl rfl) rfl (vl (ex rfl rfl rfl) rfl (a_ rfl rfl (a_ rfl rfl (en (nx (sq (rg (m_ rfl rfl (m_ rfl rfl (vl (eqn0 Tryd.underlying93 rfl rfl) rfl (m_ rfl rfl (vg (mv rfl rfl) rfl rfl rfl (gw rfl rfl rfl (cs_ (v := .string (itoaB (pV word))) (by kernel_rfl) rfl rfl rfl (fun w_ hs_ => impl_decimal w_ _ (by omega) (by omega) (ht.mono hs_.below)) (vg (mv rfl rfl) rfl rfl rfl (vg (sql rfl rfl rfl) rfl rfl rfl (vl (pk (b := true) rfl rfl rfl rfl) rfl (a_ rfl rfl (a_ rfl rfl (en (nx (rt (ret2 rfl rfl rfl (fun w_ hs_ => ⟨?_, hs_.below⟩))))))))))))))))))))))))))
      exact rt2 (by rw [numI_ok h1 h2])
    · refine cx_ (fun (N3 : Nat) => (.tuple #[.int .i64 (pV word), .iface 123 (.pointer (some ⟨N3, 0, none⟩))] : Value)) (by kernel_rfl) rfl rfl rfl (fun w_ hs_ => parseF w_ _ (by omega) h2 (hte.mono hs_.below)) ?_
      intro N3
      refine m_ rfl rfl (vl (ex rfl rfl rfl) rfl (vl (ex rfl rfl rfl) rfl (a_ rfl rfl (a_ rfl rfl (en (nx (sq (rg (m_ rfl rfl (m_ rfl rfl (vl (eqn1 Tryd.underlying93 rfl rfl) rfl (m_ rfl rfl (sg rfl rfl rfl (sg rfl rfl rfl (sg rfl rfl rfl (sg rfl rfl rfl (vl (pk (b := false) rfl rfl rfl rfl) rfl (a_ rfl rfl (a_ rfl rfl (en (nx (rt (ret2 rfl rfl rfl (fun w_ hs_ => ⟨?_, hs_.below⟩))))))))))))))))))))))))
      exact rt2 (by rw [numI_bad h1 h2])
def numRes (p : Int × Bool) : IntResult := if p.2 = true then ⟨0, p.1⟩ else ⟨5, 0⟩
theorem numRes_same (l : List UInt8) : numRes (numI l) = numRes (numL l) := by
  unfold numRes; have h := num_same l; rw [h.1]; split
  · rename_i h2; rw [h.2 h2]
  · rfl
/-! impl.NumberOf -/
set_option maxRecDepth 20000 in
set_option maxHeartbeats 2000000 in
theorem impl_NumberOf (w : World) (word : ByteArray) (hz : word.size ≤ 1048576) (ht : TabP w) (hte : TabE w) : Calls Tryd.prog 19 #[.string word] w (Made kIntResultO w (numRes (numI word.data.toList)) []) := by
  refine fnc (X := X 15 w) (args := [.string word]) (l := [(0, .string word)]) (G := []) Tryd.func19 rfl rfl rfl ⟨rfl, trivial⟩ (s0n w).1 ?_
  refine sq (rg (al zero46 rfl rfl rfl ?_))
  intro b1
  refine en (nx (sq (rg (m_ rfl rfl (cs_ (v := .tuple #[.int .i64 ((numI word.data.toList).1), .bool ((numI word.data.toList).2)]) (by kernel_rfl) rfl rfl rfl (fun w_ hs_ => impl_numberOf w_ _ (by omega) (ht.mono hs_.below) (hte.mono hs_.below)) (m_ rfl rfl (vl (ex rfl rfl rfl) rfl (vl (ex rfl rfl rfl) rfl (a_ rfl rfl (a_ rfl rfl (en (nx (sq (sq (rg (m_ rfl rfl (vl (nt rfl rfl) rfl (en (nx ?_)))))))))))))))))))
  by_cases h2 : (numI word.data.toList).2 = true
  · exact cf rfl (not_f h2) (sk (nx (sq (rg (m_ rfl rfl (vl (bd bld46 rfl rfl rfl) rfl (sto rfl rfl rfl rfl rfl rfl rfl (cs' := [.int .i64 0, .int .i64 ((numI word.data.toList).1)]) rfl (en (nx (rt (gs Kd.i64 [.int .i64 ((numI word.data.toList).1)] ((⟨0, (numI word.data.toList).1⟩ : IntResult).value) (fun _ => ⟨rfl, rfl, rfl⟩) (gs Kd.i64 [.int .i64 0] ((⟨0, (numI word.data.toList).1⟩ : IntResult).code) (fun _ => ⟨rfl, rfl, rfl⟩) (gj (da := (Kd.via Kd.i64 IntResult.code)) (db := (Kd.via Kd.i64 IntResult.value)) (x := (⟨0, (numI word.data.toList).1⟩ : IntResult)) (cs := [.int .i64 0, .int .i64 ((numI word.data.toList).1)]) rfl (gr (numRes (numI word.data.toList)) (by unfold numRes; rw [if_pos h2]) (retc 1 rfl rfl rfl rfl rfl rfl (fun w_ hs_ => made hs_ rfl (see_app see_nil see_nil)))))))))))))))))
  · exact ct rfl (not_t (Bool.eq_false_iff.2 h2)) (sq (rg (vl (bd bld46 rfl rfl rfl) rfl (sto rfl rfl rfl rfl rfl rfl rfl (cs' := [.int .i64 5, .int .i64 0]) rfl (en (nx (rt (xr (gs Kd.i64 [.int .i64 0] ((⟨5, 0⟩ : IntResult).value) (fun _ => ⟨rfl, rfl, rfl⟩) (gs Kd.i64 [.int .i64 5] ((⟨5, 0⟩ : IntResult).code) (fun _ => ⟨rfl, rfl, rfl⟩) (gj (da := (Kd.via Kd.i64 IntResult.code)) (db := (Kd.via Kd.i64 IntResult.value)) (x := (⟨5, 0⟩ : IntResult)) (cs := [.int .i64 5, .int .i64 0]) rfl (gr (numRes (numI word.data.toList)) (by unfold numRes; rw [if_neg h2]) (retc 1 rfl rfl rfl rfl rfl rfl (fun w_ hs_ => made hs_ rfl (see_app see_nil see_nil)))))))))))))))
def digB (s : ByteArray) : ByteArray := ⟨(digL s.data.toList).toArray⟩
theorem byt48 (s : ByteArray) (i : Nat) : byt s i = 48 ↔ s.data.toList.getD i 0 = 48 := by
  unfold byt
  constructor
  · intro h; apply UInt8.toNat.inj; have : ((48 : UInt8).toNat : Int) = 48 := rfl; omega
  · intro h; rw [h]; rfl
theorem byt45 (s : ByteArray) (i : Nat) : byt s i = 45 ↔ s.data.toList.getD i 0 = 45 := by
  unfold byt
  constructor
  · intro h; apply UInt8.toNat.inj; have : ((45 : UInt8).toNat : Int) = 45 := rfl; omega
  · intro h; rw [h]; rfl
theorem dig_neg {s : ByteArray} (h : (1 : Int) < ((s.size : Nat) : Int)) (h2 : byt s 0 = (45 : Int)) : (s.extract 1 s.size).data.toList = digL s.data.toList ∧ (s.extract 1 s.size).size + 1 = s.size := by
  have hl := bs_len s
  rw [byt45] at h2
  refine ⟨?_, ?_⟩
  · rw [ex_list]
    generalize s.data.toList = l at *
    match l, hl, h2 with
    | c :: d :: r, hl, h2 =>
      have hc : c = 45 := h2
      subst hc
      have hk : s.size - 1 = (d :: r).length := by rw [← hl]; simp
      rw [hk]
      show (d :: r).take (d :: r).length = d :: r
      exact List.take_length
    | [c], hl, _ => simp at hl; omega
    | [], hl, _ => simp at hl; omega
  · rw [← bs_len (s.extract 1 s.size), ex_list, List.length_take, List.length_drop, hl]; omega
theorem dig_pos {s : ByteArray} (h : ¬ ((1 : Int) < ((s.size : Nat) : Int) ∧ byt s 0 = (45 : Int))) : s.data.toList = digL s.data.toList := by
  have hl := bs_len s
  rw [byt45] at h
  generalize s.data.toList = l at *
  match l, hl, h with
  | c :: d :: r, hl, h =>
    have hc : c ≠ 45 := fun e => h ⟨by rw [← hl]; simp; omega, e⟩
    simp [digL, hc]
  | [c], hl, _ => rfl
  | [], hl, _ => rfl
/-- what a bad number is, in the walk's words -/
theorem numL_bad {s d : ByteArray} (hd : d.data.toList = digL s.data.toList) (h : ((d.size : Nat) : Int) < 1 ∨ (6 : Int) < ((d.size : Nat) : Int) ∨ (byt d 0 = (48 : Int) ∧ ((1 : Int) < ((d.size : Nat) : Int) ∨ (1 : Int) < ((s.size : Nat) : Int)))) : numL s.data.toList = (0, false) := by
  unfold numL
  rw [← hd, if_pos]
  unfold badL
  rw [bs_len, bs_len]
  rcases h with h | h | ⟨h, h2⟩
  · exact .inl (by omega)
  · exact .inr (.inl (by omega))
  · exact .inr (.inr ⟨(byt48 d 0).1 h, by omega⟩)
theorem numL_good {s d : ByteArray} (hd : d.data.toList = digL s.data.toList) (h1 : ¬ ((d.size : Nat) : Int) < 1) (h2 : ¬ (6 : Int) < ((d.size : Nat) : Int)) (h3 : ¬ (byt d 0 = (48 : Int) ∧ ((1 : Int) < ((d.size : Nat) : Int) ∨ (1 : Int) < ((s.size : Nat) : Int)))) :
    numL s.data.toList = if d.data.toList.all isDg = true then (if ((d.size : Nat) : Int) < ((s.size : Nat) : Int) then -(dvl d.data.toList : Int) else (dvl d.data.toList : Int), true) else (0, false) := by
  unfold numL
  rw [← hd, if_neg]
  · rw [bs_len, bs_len]
    have e : (d.size < s.size) = (((d.size : Nat) : Int) < ((s.size : Nat) : Int)) := by rw [Int.ofNat_lt]
    simp only [e]
  · unfold badL
    rw [bs_len, bs_len]
    rintro (h | h | ⟨h, h4⟩)
    · omega
    · omega
    · exact h3 ⟨(byt48 d 0).2 h, by omega⟩
def pre (d : ByteArray) (k : Nat) : Prop := (d.data.toList.take k).all isDg = true
theorem pre_0 (d : ByteArray) : pre d 0 := rfl
theorem pre_s {d : ByteArray} {k : Nat} (hk : k < d.size) (h : pre d k) (h1 : ¬ byt d k < (48 : Int)) (h2 : ¬ (57 : Int) < byt d k) : pre d (k + 1) := by
  have hk' : k < d.data.toList.length := by rw [bs_len]; exact hk
  unfold pre at *
  rw [List.take_add_one, List.getElem?_eq_getElem hk', List.all_append, h]
  have e : d.data.toList.getD k 0 = d.data.toList[k] := by simp [List.getD_eq_getElem?_getD, List.getElem?_eq_getElem hk']
  unfold byt at h1 h2
  rw [e] at h1 h2
  have hc : isDg d.data.toList[k] = true := by
    generalize d.data.toList[k] = c at *
    exact decide_eq_true (by omega)
  show (true && (isDg d.data.toList[k] && true)) = true
  rw [hc]; rfl
theorem pre_v {d : ByteArray} {k : Nat} (hk : k < d.size) : (dvl (d.data.toList.take (k + 1)) : Int) = dvl (d.data.toList.take k) * 10 + (((d.data.toList.getD k 0).toNat - 48 : Nat) : Int) := by
  have hk' : k < d.data.toList.length := by rw [bs_len]; exact hk
  have e : d.data.toList.getD k 0 = d.data.toList[k] := by simp [List.getD_eq_getElem?_getD, List.getElem?_eq_getElem hk']
  rw [List.take_add_one, List.getElem?_eq_getElem hk', e]
  show ((dvl (d.data.toList.take k ++ [d.data.toList[k]]) : Nat) : Int) = _
  rw [dvl_snoc]; omega
theorem pre_b {d : ByteArray} {k : Nat} (h : pre d k) (hk : k ≤ 6) : dvl (d.data.toList.take k) < 1000000 := dvl_six h (by rw [List.length_take]; omega)
theorem pre_end {d : ByteArray} {k : Nat} (h : pre d k) (hk : d.size ≤ k) : d.data.toList.all isDg = true ∧ d.data.toList.take k = d.data.toList := by
  have : d.data.toList.take k = d.data.toList := List.take_of_length_le (by rw [bs_len]; exact hk)
  unfold pre at h
  rw [this] at h
  exact ⟨h, this⟩
theorem pre_not {d : ByteArray} {k : Nat} (hk : k < d.size) (h : byt d k < (48 : Int) ∨ (57 : Int) < byt d k) : ¬ d.data.toList.all isDg = true := by
  have hk' : k < d.data.toList.length := by rw [bs_len]; exact hk
  intro ha
  have e : d.data.toList.getD k 0 = d.data.toList[k] := by simp [List.getD_eq_getElem?_getD, List.getElem?_eq_getElem hk']
  have hm := List.all_eq_true.1 ha (d.data.toList[k]) (List.getElem_mem hk')
  have := isDg_t hm
  unfold byt at h
  rw [e] at h
  have h' : (d.data.toList[k].toNat : Int) < 48 ∨ 57 < (d.data.toList[k].toNat : Int) := h
  clear h hm e ha
  generalize d.data.toList[k] = c at *
  omega

/-! spec.l13Number -/
set_option maxRecDepth 20000 in
set_option maxHeartbeats 2000000 in
theorem spec_l13Number (w : World) (word : ByteArray) (hz : word.size ≤ 1048576) : Calls Tryd.prog 41 #[.string word] w (fun e_ w2_ => e_ = .returned (.tuple #[.int .i64 ((numL word.data.toList).1), .bool ((numL word.data.toList).2)]) ∧ Below w.heap.size w w2_) := by
  have bn := byt_nn word 0; have bl := byt_le word 0
  refine fnc (X := X 73 w) (args := [.string word]) (l := [(0, .string word)]) (G := []) Tryd.func41 rfl rfl rfl ⟨rfl, trivial⟩ (s0n w).1 ?_
  refine sq (rg (a_ rfl rfl (a_ rfl rfl (en (nx (sq (rg (m_ rfl rfl (a_ rfl rfl (en (nx (sq (sq (rg (m_ rfl rfl (vl (lns Tryd.underlying9 rfl rfl) rfl (vl (cm rfl rfl rfl rfl) rfl (m_ rfl rfl ?_))))))))))))))))))
  by_cases h1 : (1 : Int) < ((word.size : Nat) : Int)
  · refine vg (mv rfl rfl) rfl rfl (decide_eq_true h1) (vg (six 0 Tryd.underlying9 rfl rfl rfl (by omega)) rfl rfl (decide_eq_true h1) (vg (cm rfl rfl rfl rfl) rfl rfl (decide_eq_true h1) (vl (pk (b := true) rfl rfl (decide_eq_true h1) rfl) rfl (en (nx ?_)))))
    by_cases h2 : (byt word 0) = (45 : Int)
    · refine ct rfl (beq_iff_eq.2 h2) (rg (m_ rfl rfl (vl (ssf (i := 1) Tryd.underlying9 rfl rfl rfl (by omega)) rfl (a_ rfl rfl (en (nx (sq (sq (rg (m_ rfl rfl (vl (lns Tryd.underlying9 rfl rfl) rfl (vl (cm rfl rfl rfl rfl) rfl (m_ rfl rfl ?_)))))))))))))
      by_cases h3 : (((word.extract 1 word.size).size : Nat) : Int) < (1 : Int)
      · refine sg rfl rfl (decide_eq_true h3) (sg rfl rfl (decide_eq_true h3) (sg rfl rfl (decide_eq_true h3) (vl (pk (b := true) rfl rfl (decide_eq_true h3) rfl) rfl (m_ rfl rfl (sg rfl rfl rfl (sg rfl rfl rfl (sg rfl rfl rfl (sg rfl rfl rfl (su rfl rfl (su rfl rfl (su rfl rfl (su rfl rfl (su rfl rfl (su rfl rfl (su rfl rfl (su rfl rfl (sg rfl rfl rfl (vl (pk (b := true) rfl rfl rfl rfl) rfl (en (nx (ct rfl rfl (sq (rg (a_ rfl rfl (a_ rfl rfl (en (nx (rt (xr (ret2 rfl rfl rfl (fun w_ hs_ => ⟨?_, hs_.below⟩)))))))))))))))))))))))))))))))
        exact rt2 (by have hd := (dig_neg h1 h2).1; rw [numL_bad hd (by omega)])
      · refine vg (mv rfl rfl) rfl rfl (decide_eq_false h3) (vg (lns Tryd.underlying9 rfl rfl) rfl rfl (decide_eq_false h3) (vg (cm rfl rfl rfl rfl) rfl rfl (decide_eq_false h3) (vl (pk (b := false) rfl rfl (decide_eq_false h3) rfl) rfl (m_ rfl rfl ?_))))
        by_cases h4 : (6 : Int) < (((word.extract 1 word.size).size : Nat) : Int)
        · refine sg rfl rfl (decide_eq_true h4) (sg rfl rfl (decide_eq_true h4) (sg rfl rfl (decide_eq_true h4) (sg rfl rfl (decide_eq_true h4) (su rfl rfl (su rfl rfl (su rfl rfl (su rfl rfl (su rfl rfl (su rfl rfl (su rfl rfl (su rfl rfl (sg rfl rfl (decide_eq_true h4) (vl (pk (b := true) rfl rfl (decide_eq_true h4) rfl) rfl (en (nx (ct rfl rfl (sq (rg (a_ rfl rfl (a_ rfl rfl (en (nx (rt (xr (ret2 rfl rfl rfl (fun w_ hs_ => ⟨?_, hs_.below⟩))))))))))))))))))))))))))
          exact rt2 (by have hd := (dig_neg h1 h2).1; rw [numL_bad hd (by omega)])
        · refine vg (mv rfl rfl) rfl rfl (decide_eq_false h4) (vg (six 0 Tryd.underlying9 rfl rfl rfl (by omega)) rfl rfl (decide_eq_false h4) (vg (cm rfl rfl rfl rfl) rfl rfl (decide_eq_false h4) (vg (mv rfl rfl) rfl rfl (decide_eq_false h4) ?_)))
          by_cases h5 : (byt (word.extract 1 word.size) 0) = (48 : Int)
          · refine vg (mv rfl rfl) rfl rfl (beq_iff_eq.2 h5) (vg (lns Tryd.underlying9 rfl rfl) rfl rfl (beq_iff_eq.2 h5) (vg (cm rfl rfl rfl rfl) rfl rfl (beq_iff_eq.2 h5) (vg (mv rfl rfl) rfl rfl (beq_iff_eq.2 h5) ?_)))
            by_cases h6 : (1 : Int) < (((word.extract 1 word.size).size : Nat) : Int)
            · refine sg rfl rfl (decide_eq_true h6) (sg rfl rfl (decide_eq_true h6) (sg rfl rfl (decide_eq_true h6) (vg (pk (b := true) rfl rfl (decide_eq_true h6) rfl) rfl rfl (beq_iff_eq.2 h5) (vg (pk (b := true) rfl rfl (beq_iff_eq.2 h5) rfl) rfl rfl (decide_eq_false h4) (vl (pk (b := false) rfl rfl (decide_eq_false h4) rfl) rfl (en (nx (ct rfl rfl (sq (rg (a_ rfl rfl (a_ rfl rfl (en (nx (rt (xr (ret2 rfl rfl rfl (fun w_ hs_ => ⟨?_, hs_.below⟩))))))))))))))))))
              exact rt2 (by have hd := (dig_neg h1 h2).1; rw [numL_bad hd (by omega)])
            · refine vg (mv rfl rfl) rfl rfl (decide_eq_false h6) (vg (lns Tryd.underlying9 rfl rfl) rfl rfl (decide_eq_false h6) (vg (cm rfl rfl rfl rfl) rfl rfl (decide_eq_false h6) (vg (pk (b := false) rfl rfl (decide_eq_false h6) rfl) rfl rfl (beq_iff_eq.2 h5) (vg (pk (b := true) rfl rfl (beq_iff_eq.2 h5) rfl) rfl rfl (decide_eq_false h4) (vl (pk (b := false) rfl rfl (decide_eq_false h4) rfl) rfl (en (nx (ct rfl (decide_eq_true h1) (sq (rg (a_ rfl rfl (a_ rfl rfl (en (nx (rt (xr (ret2 rfl rfl rfl (fun w_ hs_ => ⟨?_, hs_.below⟩))))))))))))))))))
              exact rt2 (by have hd := (dig_neg h1 h2).1; rw [numL_bad hd (by omega)])
          · refine sg rfl rfl (beq_eq_false_iff_ne.2 h5) (sg rfl rfl (beq_eq_false_iff_ne.2 h5) (sg rfl rfl (beq_eq_false_iff_ne.2 h5) (sg rfl rfl (beq_eq_false_iff_ne.2 h5) (su rfl rfl (su rfl rfl (su rfl rfl (sg rfl rfl (beq_eq_false_iff_ne.2 h5) (vg (pk (b := false) rfl rfl (beq_eq_false_iff_ne.2 h5) rfl) rfl rfl (decide_eq_false h4) (vl (pk (b := false) rfl rfl (decide_eq_false h4) rfl) rfl (en (nx (cf rfl rfl (sk (nx (sq (rg (a_ rfl rfl (en (nx (sq (sq (rg (a_ rfl rfl (en (nx (bk ?_))))))))))))))))))))))))))
            refine lp (σ := Nat × Int) (fun z_ : Nat × Int => match z_ with | (k, v) => [(0, .string word), (4, .string (word.extract 1 word.size)), (5, .int .i64 v), (6, .int .i64 ((k : Nat) : Int))])
                (fun z_ : Nat × Int => match z_ with | (k, v) => [])
                (fun z_ : Nat × Int => match z_ with | (k, v) => (k ≤ (word.extract 1 word.size).size ∧ pre (word.extract 1 word.size) k ∧ v = ((dvl ((word.extract 1 word.size).data.toList.take k) : Nat) : Int))) (fun z_ : Nat × Int => match z_ with | (k, v) => (word.extract 1 word.size).size - k) (0, 0) [] ⟨Nat.zero_le _, pre_0 _, rfl⟩ ⟨rfl, rfl, rfl, rfl, trivial⟩ rfl ?_
            rintro ⟨k, v⟩ hp_
            have hinv1 : (k ≤ (word.extract 1 word.size).size ∧ pre (word.extract 1 word.size) k ∧ v = ((dvl ((word.extract 1 word.size).data.toList.take k) : Nat) : Int)) := hp_; have hvb := pre_b hinv1.2.1 (by omega)
            refine sq (sq (rg (m_ rfl rfl (m_ rfl rfl (vl (lns Tryd.underlying9 rfl rfl) rfl (vl (cm rfl rfl rfl rfl) rfl (en (nx ?_))))))))
            by_cases h7 : ((k : Nat) : Int) < (((word.extract 1 word.size).size : Nat) : Int)
            · refine ct rfl (decide_eq_true h7) (sk (nx (sq (bk (sq (sq (rg (m_ rfl rfl (m_ rfl rfl (vl (six k Tryd.underlying9 rfl rfl rfl (by omega)) rfl (vl (cm rfl rfl rfl rfl) rfl (m_ rfl rfl ?_))))))))))))
              by_cases h8 : (byt (word.extract 1 word.size) k) < (48 : Int)
              · refine sg rfl rfl (decide_eq_true h8) (sg rfl rfl (decide_eq_true h8) (sg rfl rfl (decide_eq_true h8) (sg rfl rfl (decide_eq_true h8) (vl (pk (b := true) rfl rfl (decide_eq_true h8) rfl) rfl (en (nx (ct rfl rfl (sq (rg (a_ rfl rfl (a_ rfl rfl (en (nx (rt (xr (xrb (xr (xr (xrb (xr (ret2 rfl rfl rfl (fun w_ hs_ => ⟨?_, hs_.below⟩))))))))))))))))))))))
                exact rt2 (by have hd := (dig_neg h1 h2).1; rw [numL_good hd (by omega) (by omega) (by omega), if_neg (pre_not (k := k) (by omega) (by omega))])
              · refine vg (mv rfl rfl) rfl rfl (decide_eq_false h8) (vg (mv rfl rfl) rfl rfl (decide_eq_false h8) (vg (six k Tryd.underlying9 rfl rfl rfl (by omega)) rfl rfl (decide_eq_false h8) (vg (cm rfl rfl rfl rfl) rfl rfl (decide_eq_false h8) (vl (pk (b := false) rfl rfl (decide_eq_false h8) rfl) rfl (en (nx ?_))))))
                by_cases h9 : (57 : Int) < (byt (word.extract 1 word.size) k)
                · refine ct rfl (decide_eq_true h9) (sq (rg (a_ rfl rfl (a_ rfl rfl (en (nx (rt (xr (xrb (xr (xr (xrb (xr (ret2 rfl rfl rfl (fun w_ hs_ => ⟨?_, hs_.below⟩)))))))))))))))
                  exact rt2 (by have hd := (dig_neg h1 h2).1; rw [numL_good hd (by omega) (by omega) (by omega), if_neg (pre_not (k := k) (by omega) (by omega))])
                · refine cf rfl (decide_eq_false h9) (sk (nx (rg (m_ rfl rfl (vl (rm (c := v * 10) rfl rfl rfl rfl (by omega) (by omega)) rfl (m_ rfl rfl (m_ rfl rfl (vl (six k Tryd.underlying9 rfl rfl rfl (by omega)) rfl (vl (ru (c := (byt (word.extract 1 word.size) k) - 48) rfl rfl rfl rfl (by omega) (by omega)) rfl (vl (cv Tryd.underlying5 Tryd.underlying2 rfl rfl (wr (by omega) (by omega))) rfl (vl (ra (c := v * 10 + ((byt (word.extract 1 word.size) k) - 48)) rfl rfl rfl rfl (by omega) (by omega)) rfl (a_ rfl rfl (en (xn (nx (rg (m_ rfl rfl (vl (ra (c := ((k + 1 : Nat) : Int)) rfl rfl rfl (by omega) (by omega) (by omega)) rfl (a_ rfl rfl (en ?_))))))))))))))))))))
                  exact lpe (s := (k, v)) (k + 1, v * 10 + ((byt (word.extract 1 word.size) k) - 48)) [] ⟨by omega, pre_s (by omega) hinv1.2.1 (by omega) (by omega), by rw [pre_v (by omega), ← hinv1.2.2]; unfold byt at *; omega⟩ (by show (word.extract 1 word.size).size - (k + 1) < (word.extract 1 word.size).size - k; omega) ⟨rfl, rfl, rfl, rfl, trivial⟩ rfl
            · refine cf rfl (decide_eq_false h7) (xt (xq (xq (xb (nx (sq (sq (rg (m_ rfl rfl (vl (lns Tryd.underlying9 rfl rfl) rfl (m_ rfl rfl (vl (lns Tryd.underlying9 rfl rfl) rfl (vl (cm rfl rfl rfl rfl) rfl (en (nx ?_)))))))))))))))
              by_cases h10 : (((word.extract 1 word.size).size : Nat) : Int) < ((word.size : Nat) : Int)
              · refine ct rfl (decide_eq_true h10) (rg (m_ rfl rfl (vl (ng (m := (-v)) rfl rfl (by rw [wr (by omega) (by omega)]; omega)) rfl (a_ rfl rfl (en (nx (sq (rg (m_ rfl rfl (a_ rfl rfl (a_ rfl rfl (en (nx (rt (ret2 rfl rfl rfl (fun w_ hs_ => ⟨?_, hs_.below⟩))))))))))))))))
                exact rt2 (by have hd := (dig_neg h1 h2).1; have z := pre_end hinv1.2.1 (by omega); rw [numL_good hd (by omega) (by omega) (by omega), if_pos z.1, hinv1.2.2, z.2]; first | rw [if_pos (by omega)] | rw [if_neg (by omega)])
              · refine cf rfl (decide_eq_false h10) (sk (nx (sq (rg (m_ rfl rfl (a_ rfl rfl (a_ rfl rfl (en (nx (rt (ret2 rfl rfl rfl (fun w_ hs_ => ⟨?_, hs_.below⟩))))))))))))
                exact rt2 (by have hd := (dig_neg h1 h2).1; have z := pre_end hinv1.2.1 (by omega); rw [numL_good hd (by omega) (by omega) (by omega), if_pos z.1, hinv1.2.2, z.2]; first | rw [if_pos (by omega)] | rw [if_neg (by omega)])
    · refine cf rfl (beq_eq_false_iff_ne.2 h2) (sk (nx (sq (sq (rg (m_ rfl rfl (vl (lns Tryd.underlying9 rfl rfl) rfl (vl (cm rfl rfl rfl rfl) rfl (m_ rfl rfl ?_)))))))))
      by_cases h11 : ((word.size : Nat) : Int) < (1 : Int)
      · refine sg rfl rfl (decide_eq_true h11) (sg rfl rfl (decide_eq_true h11) (sg rfl rfl (decide_eq_true h11) (vl (pk (b := true) rfl rfl (decide_eq_true h11) rfl) rfl (m_ rfl rfl (sg rfl rfl rfl (sg rfl rfl rfl (sg rfl rfl rfl (sg rfl rfl rfl (su rfl rfl (su rfl rfl (su rfl rfl (su rfl rfl (su rfl rfl (su rfl rfl (su rfl rfl (su rfl rfl (sg rfl rfl rfl (vl (pk (b := true) rfl rfl rfl rfl) rfl (en (nx (ct rfl rfl (sq (rg (a_ rfl rfl (a_ rfl rfl (en (nx (rt (xr (ret2 rfl rfl rfl (fun w_ hs_ => ⟨?_, hs_.below⟩)))))))))))))))))))))))))))))))
        exact rt2 (by have hd := (dig_pos (s := word) (by omega)); rw [numL_bad hd (by omega)])
      · refine vg (mv rfl rfl) rfl rfl (decide_eq_false h11) (vg (lns Tryd.underlying9 rfl rfl) rfl rfl (decide_eq_false h11) (vg (cm rfl rfl rfl rfl) rfl rfl (decide_eq_false h11) (vl (pk (b := false) rfl rfl (decide_eq_false h11) rfl) rfl (m_ rfl rfl ?_))))
        by_cases h12 : (6 : Int) < ((word.size : Nat) : Int)
        · refine sg rfl rfl (decide_eq_true h12) (sg rfl rfl (decide_eq_true h12) (sg rfl rfl (decide_eq_true h12) (sg rfl rfl (decide_eq_true h12) (su rfl rfl (su rfl rfl (su rfl rfl (su rfl rfl (su rfl rfl (su rfl rfl (su rfl rfl (su rfl rfl (sg rfl rfl (decide_eq_true h12) (vl (pk (b := true) rfl rfl (decide_eq_true h12) rfl) rfl (en (nx (ct rfl rfl (sq (rg (a_ rfl rfl (a_ rfl rfl (en (nx (rt (xr (ret2 rfl rfl rfl (fun w_ hs_ => ⟨?_, hs_.below⟩))))))))))))))))))))))))))
          exact rt2 (by have hd := (dig_pos (s := word) (by omega)); rw [numL_bad hd (by omega)])
        · refine vg (mv rfl rfl) rfl rfl (decide_eq_false h12) (vg (six 0 Tryd.underlying9 rfl rfl rfl (by omega)) rfl rfl (decide_eq_false h12) (vg (cm rfl rfl rfl rfl) rfl rfl (decide_eq_false h12) (vg (mv rfl rfl) rfl rfl (decide_eq_false h12) ?_)))
          by_cases h13 : (byt word 0) = (48 : Int)
          · refine vg (mv rfl rfl) rfl rfl (beq_iff_eq.2 h13) (vg (lns Tryd.underlying9 rfl rfl) rfl rfl (beq_iff_eq.2 h13) (vg (cm rfl rfl rfl rfl) rfl rfl (beq_iff_eq.2 h13) (vg (mv rfl rfl) rfl rfl (beq_iff_eq.2 h13) (sg rfl rfl (decide_eq_true h1) (sg rfl rfl (decide_eq_true h1) (sg rfl rfl (decide_eq_true h1) (vg (pk (b := true) rfl rfl (decide_eq_true h1) rfl) rfl rfl (beq_iff_eq.2 h13) (vg (pk (b := true) rfl rfl (beq_iff_eq.2 h13) rfl) rfl rfl (decide_eq_false h12) (vl (pk (b := false) rfl rfl (decide_eq_false h12) rfl) rfl (en (nx (ct rfl rfl (sq (rg (a_ rfl rfl (a_ rfl rfl (en (nx (rt (xr (ret2 rfl rfl rfl (fun w_ hs_ => ⟨?_, hs_.below⟩))))))))))))))))))))))
            exact rt2 (by have hd := (dig_pos (s := word) (by omega)); rw [numL_bad hd (by omega)])
          · refine sg rfl rfl (beq_eq_false_iff_ne.2 h13) (sg rfl rfl (beq_eq_false_iff_ne.2 h13) (sg rfl rfl (beq_eq_false_iff_ne.2 h13) (sg rfl rfl (beq_eq_false_iff_ne.2 h13) (su rfl rfl (su rfl rfl (su rfl rfl (sg rfl rfl (beq_eq_false_iff_ne.2 h13) (vg (pk (b := false) rfl rfl (beq_eq_false_iff_ne.2 h13) rfl) rfl rfl (decide_eq_false h12) (vl (pk (b := false) rfl rfl (decide_eq_false h12) rfl) rfl (en (nx (cf rfl rfl (sk (nx (sq (rg (a_ rfl rfl (en (nx (sq (sq (rg (a_ rfl rfl (en (nx (bk ?_))))))))))))))))))))))))))
            refine lp (σ := Nat × Int) (fun z_ : Nat × Int => match z_ with | (k, v) => [(0, .string word), (4, .string word), (5, .int .i64 v), (6, .int .i64 ((k : Nat) : Int))])
                (fun z_ : Nat × Int => match z_ with | (k, v) => [])
                (fun z_ : Nat × Int => match z_ with | (k, v) => (k ≤ word.size ∧ pre word k ∧ v = ((dvl (word.data.toList.take k) : Nat) : Int))) (fun z_ : Nat × Int => match z_ with | (k, v) => word.size - k) (0, 0) [] ⟨Nat.zero_le _, pre_0 _, rfl⟩ ⟨rfl, rfl, rfl, rfl, trivial⟩ rfl ?_
            rintro ⟨k, v⟩ hp_
            have hinv1 : (k ≤ word.size ∧ pre word k ∧ v = ((dvl (word.data.toList.take k) : Nat) : Int)) := hp_; have hvb := pre_b hinv1.2.1 (by omega)
            refine sq (sq (rg (m_ rfl rfl (m_ rfl rfl (vl (lns Tryd.underlying9 rfl rfl) rfl (vl (cm rfl rfl rfl rfl) rfl (en (nx ?_))))))))
            by_cases h14 : ((k : Nat) : Int) < ((word.size : Nat) : Int)
            · refine ct rfl (decide_eq_true h14) (sk (nx (sq (bk (sq (sq (rg (m_ rfl rfl (m_ rfl rfl (vl (six k Tryd.underlying9 rfl rfl rfl (by omega)) rfl (vl (cm rfl rfl rfl rfl) rfl (m_ rfl rfl ?_))))))))))))
              by_cases h15 : (byt word k) < (48 : Int)
              · refine sg rfl rfl (decide_eq_true h15) (sg rfl rfl (decide_eq_true h15) (sg rfl rfl (decide_eq_true h15) (sg rfl rfl (decide_eq_true h15) (vl (pk (b := true) rfl rfl (decide_eq_true h15) rfl) rfl (en (nx (ct rfl rfl (sq (rg (a_ rfl rfl (a_ rfl rfl (en (nx (rt (xr (xrb (xr (xr (xrb (xr (ret2 rfl rfl rfl (fun w_ hs_ => ⟨?_, hs_.below⟩))))))))))))))))))))))
                exact rt2 (by have hd := (dig_pos (s := word) (by omega)); rw [numL_good hd (by omega) (by omega) (by omega), if_neg (pre_not (k := k) (by omega) (by omega))])
              · refine vg (mv rfl rfl) rfl rfl (decide_eq_false h15) (vg (mv rfl rfl) rfl rfl (decide_eq_false h15) (vg (six k Tryd.underlying9 rfl rfl rfl (by omega)) rfl rfl (decide_eq_false h15) (vg (cm rfl rfl rfl rfl) rfl rfl (decide_eq_false h15) (vl (pk (b := false) rfl rfl (decide_eq_false h15) rfl) rfl (en (nx ?_))))))
                by_cases h16 : (57 : Int) < (byt word k)
                · refine ct rfl (decide_eq_true h16) (sq (rg (a_ rfl rfl (a_ rfl rfl (en (nx (rt (xr (xrb (xr (xr (xrb (xr (ret2 rfl rfl rfl (fun w_ hs_ => ⟨?_, hs_.below⟩)))))))))))))))
                  exact rt2 (by have hd := (dig_pos (s := word) (by omega)); rw [numL_good hd (by omega) (by omega) (by omega), if_neg (pre_not (k := k) (by omega) (by omega))])
                · refine cf rfl (decide_eq_false h16) (sk (nx (rg (m_ rfl rfl (vl (rm (c := v * 10) rfl rfl rfl rfl (by omega) (by omega)) rfl (m_ rfl rfl (m_ rfl rfl (vl (six k Tryd.underlying9 rfl rfl rfl (by omega)) rfl (vl (ru (c := (byt word k) - 48) rfl rfl rfl rfl (by omega) (by omega)) rfl (vl (cv Tryd.underlying5 Tryd.underlying2 rfl rfl (wr (by omega) (by omega))) rfl (vl (ra (c := v * 10 + ((byt word k) - 48)) rfl rfl rfl rfl (by omega) (by omega)) rfl (a_ rfl rfl (en (xn (nx (rg (m_ rfl rfl (vl (ra (c := ((k + 1 : Nat) : Int)) rfl rfl rfl (by omega) (by omega) (by omega)) rfl (a_ rfl rfl (en ?_))))))))))))))))))))
                  exact lpe (s := (k, v)) (k + 1, v * 10 + ((byt word k) - 48)) [] ⟨by omega, pre_s (by omega) hinv1.2.1 (by omega) (by omega), by rw [pre_v (by omega), ← hinv1.2.2]; unfold byt at *; omega⟩ (by show word.size - (k + 1) < word.size - k; omega) ⟨rfl, rfl, rfl, rfl, trivial⟩ rfl
            · refine cf rfl (decide_eq_false h14) (xt (xq (xq (xb (nx (sq (sq (rg (m_ rfl rfl (vl (lns Tryd.underlying9 rfl rfl) rfl (m_ rfl rfl (vl (lns Tryd.underlying9 rfl rfl) rfl (vl (cm rfl rfl rfl rfl) rfl (en (nx ?_)))))))))))))))
              by_cases h17 : ((word.size : Nat) : Int) < ((word.size : Nat) : Int)
              · refine ct rfl (decide_eq_true h17) (rg (m_ rfl rfl (vl (ng (m := (-v)) rfl rfl (by rw [wr (by omega) (by omega)]; omega)) rfl (a_ rfl rfl (en (nx (sq (rg (m_ rfl rfl (a_ rfl rfl (a_ rfl rfl (en (nx (rt (ret2 rfl rfl rfl (fun w_ hs_ => ⟨?_, hs_.below⟩))))))))))))))))
                exact rt2 (by have hd := (dig_pos (s := word) (by omega)); have z := pre_end hinv1.2.1 (by omega); rw [numL_good hd (by omega) (by omega) (by omega), if_pos z.1, hinv1.2.2, z.2]; first | rw [if_pos (by omega)] | rw [if_neg (by omega)])
              · refine cf rfl (decide_eq_false h17) (sk (nx (sq (rg (m_ rfl rfl (a_ rfl rfl (a_ rfl rfl (en (nx (rt (ret2 rfl rfl rfl (fun w_ hs_ => ⟨?_, hs_.below⟩))))))))))))
                exact rt2 (by have hd := (dig_pos (s := word) (by omega)); have z := pre_end hinv1.2.1 (by omega); rw [numL_good hd (by omega) (by omega) (by omega), if_pos z.1, hinv1.2.2, z.2]; first | rw [if_pos (by omega)] | rw [if_neg (by omega)])
  · refine sg rfl rfl (decide_eq_false h1) (sg rfl rfl (decide_eq_false h1) (sg rfl rfl (decide_eq_false h1) (vl (pk (b := false) rfl rfl (decide_eq_false h1) rfl) rfl (en (nx (cf rfl rfl (sk (nx (sq (sq (rg (m_ rfl rfl (vl (lns Tryd.underlying9 rfl rfl) rfl (vl (cm rfl rfl rfl rfl) rfl (m_ rfl rfl ?_)))))))))))))))
    by_cases h18 : ((word.size : Nat) : Int) < (1 : Int)
    · refine sg rfl rfl (decide_eq_true h18) (sg rfl rfl (decide_eq_true h18) (sg rfl rfl (decide_eq_true h18) (vl (pk (b := true) rfl rfl (decide_eq_true h18) rfl) rfl (m_ rfl rfl (sg rfl rfl rfl (sg rfl rfl rfl (sg rfl rfl rfl (sg rfl rfl rfl (su rfl rfl (su rfl rfl (su rfl rfl (su rfl rfl (su rfl rfl (su rfl rfl (su rfl rfl (su rfl rfl (sg rfl rfl rfl (vl (pk (b := true) rfl rfl rfl rfl) rfl (en (nx (ct rfl rfl (sq (rg (a_ rfl rfl (a_ rfl rfl (en (nx (rt (xr (ret2 rfl rfl rfl (fun w_ hs_ => ⟨?_, hs_.below⟩)))))))))))))))))))))))))))))))
      exact rt2 (by have hd := (dig_pos (s := word) (by omega)); rw [numL_bad hd (by omega)])
    · refine vg (mv rfl rfl) rfl rfl (decide_eq_false h18) (vg (lns Tryd.underlying9 rfl rfl) rfl rfl (decide_eq_false h18) (vg (cm rfl rfl rfl rfl) rfl rfl (decide_eq_false h18) (vl (pk (b := false) rfl rfl (decide_eq_false h18) rfl) rfl (m_ rfl rfl ?_))))
      by_cases h19 : (6 : Int) < ((word.size : Nat) : Int)
      · refine sg rfl rfl (decide_eq_true h19) (sg rfl rfl (decide_eq_true h19) (sg rfl rfl (decide_eq_true h19) (sg rfl rfl (decide_eq_true h19) (su rfl rfl (su rfl rfl (su rfl rfl (su rfl rfl (su rfl rfl (su rfl rfl (su rfl rfl (su rfl rfl (sg rfl rfl (decide_eq_true h19) (vl (pk (b := true) rfl rfl (decide_eq_true h19) rfl) rfl (en (nx (ct rfl rfl (sq (rg (a_ rfl rfl (a_ rfl rfl (en (nx (rt (xr (ret2 rfl rfl rfl (fun w_ hs_ => ⟨?_, hs_.below⟩))))))))))))))))))))))))))
        exact rt2 (by have hd := (dig_pos (s := word) (by omega)); rw [numL_bad hd (by omega)])
      · refine vg (mv rfl rfl) rfl rfl (decide_eq_false h19) (vg (six 0 Tryd.underlying9 rfl rfl rfl (by omega)) rfl rfl (decide_eq_false h19) (vg (cm rfl rfl rfl rfl) rfl rfl (decide_eq_false h19) (vg (mv rfl rfl) rfl rfl (decide_eq_false h19) ?_)))
        by_cases h20 : (byt word 0) = (48 : Int)
        · refine vg (mv rfl rfl) rfl rfl (beq_iff_eq.2 h20) (vg (lns Tryd.underlying9 rfl rfl) rfl rfl (beq_iff_eq.2 h20) (vg (cm rfl rfl rfl rfl) rfl rfl (beq_iff_eq.2 h20) (vg (mv rfl rfl) rfl rfl (beq_iff_eq.2 h20) (vg (mv rfl rfl) rfl rfl (decide_eq_false h1) (vg (lns Tryd.underlying9 rfl rfl) rfl rfl (decide_eq_false h1) (vg (cm rfl rfl rfl rfl) rfl rfl (decide_eq_false h1) (vg (pk (b := false) rfl rfl (decide_eq_false h1) rfl) rfl rfl (beq_iff_eq.2 h20) (vg (pk (b := true) rfl rfl (beq_iff_eq.2 h20) rfl) rfl rfl (decide_eq_false h19) (vl (pk (b := false) rfl rfl (decide_eq_false h19) rfl) rfl (en (nx (cf rfl (decide_eq_false h1) (sk (nx (sq (rg (a_ rfl rfl (en (nx (sq (sq (rg (a_ rfl rfl (en (nx (bk ?_))))))))))))))))))))))))))
          refine lp (σ := Nat × Int) (fun z_ : Nat × Int => match z_ with | (k, v) => [(0, .string word), (4, .string word), (5, .int .i64 v), (6, .int .i64 ((k : Nat) : Int))])
              (fun z_ : Nat × Int => match z_ with | (k, v) => [])
              (fun z_ : Nat × Int => match z_ with | (k, v) => (k ≤ word.size ∧ pre word k ∧ v = ((dvl (word.data.toList.take k) : Nat) : Int))) (fun z_ : Nat × Int => match z_ with | (k, v) => word.size - k) (0, 0) [] ⟨Nat.zero_le _, pre_0 _, rfl⟩ ⟨rfl, rfl, rfl, rfl, trivial⟩ rfl ?_
          rintro ⟨k, v⟩ hp_
          have hinv1 : (k ≤ word.size ∧ pre word k ∧ v = ((dvl (word.data.toList.take k) : Nat) : Int)) := hp_; have hvb := pre_b hinv1.2.1 (by omega)
          refine sq (sq (rg (m_ rfl rfl (m_ rfl rfl (vl (lns Tryd.underlying9 rfl rfl) rfl (vl (cm rfl rfl rfl rfl) rfl (en (nx ?_))))))))
          by_cases h21 : ((k : Nat) : Int) < ((word.size : Nat) : Int)
          · refine ct rfl (decide_eq_true h21) (sk (nx (sq (bk (sq (sq (rg (m_ rfl rfl (m_ rfl rfl (vl (six k Tryd.underlying9 rfl rfl rfl (by omega)) rfl (vl (cm rfl rfl rfl rfl) rfl (m_ rfl rfl ?_))))))))))))
            by_cases h22 : (byt word k) < (48 : Int)
            · refine sg rfl rfl (decide_eq_true h22) (sg rfl rfl (decide_eq_true h22) (sg rfl rfl (decide_eq_true h22) (sg rfl rfl (decide_eq_true h22) (vl (pk (b := true) rfl rfl (decide_eq_true h22) rfl) rfl (en (nx (ct rfl rfl (sq (rg (a_ rfl rfl (a_ rfl rfl (en (nx (rt (xr (xrb (xr (xr (xrb (xr (ret2 rfl rfl rfl (fun w_ hs_ => ⟨?_, hs_.below⟩))))))))))))))))))))))
              exact rt2 (by have hd := (dig_pos (s := word) (by omega)); rw [numL_good hd (by omega) (by omega) (by omega), if_neg (pre_not (k := k) (by omega) (by omega))])
            · refine vg (mv rfl rfl) rfl rfl (decide_eq_false h22) (vg (mv rfl rfl) rfl rfl (decide_eq_false h22) (vg (six k Tryd.underlying9 rfl rfl rfl (by omega)) rfl rfl (decide_eq_false h22) (vg (cm rfl rfl rfl rfl) rfl rfl (decide_eq_false h22) (vl (pk (b := false) rfl rfl (decide_eq_false h22) rfl) rfl (en (nx ?_))))))
              by_cases h23 : (57 : Int) < (byt word k)
              · refine ct rfl (decide_eq_true h23) (sq (rg (a_ rfl rfl (a_ rfl rfl (en (nx (rt (xr (xrb (xr (xr (xrb (xr (ret2 rfl rfl rfl (fun w_ hs_ => ⟨?_, hs_.below⟩)))))))))))))))
                exact rt2 (by have hd := (dig_pos (s := word) (by omega)); rw [numL_good hd (by omega) (by omega) (by omega), if_neg (pre_not (k := k) (by omega) (by omega))])
              · refine cf rfl (decide_eq_false h23) (sk (nx (rg (m_ rfl rfl (vl (rm (c := v * 10) rfl rfl rfl rfl (by omega) (by omega)) rfl (m_ rfl rfl (m_ rfl rfl (vl (six k Tryd.underlying9 rfl rfl rfl (by omega)) rfl (vl (ru (c := (byt word k) - 48) rfl rfl rfl rfl (by omega) (by omega)) rfl (vl (cv Tryd.underlying5 Tryd.underlying2 rfl rfl (wr (by omega) (by omega))) rfl (vl (ra (c := v * 10 + ((byt word k) - 48)) rfl rfl rfl rfl (by omega) (by omega)) rfl (a_ rfl rfl (en (xn (nx (rg (m_ rfl rfl (vl (ra (c := ((k + 1 : Nat) : Int)) rfl rfl rfl (by omega) (by omega) (by omega)) rfl (a_ rfl rfl (en ?_))))))))))))))))))))
                exact lpe (s := (k, v)) (k + 1, v * 10 + ((byt word k) - 48)) [] ⟨by omega, pre_s (by omega) hinv1.2.1 (by omega) (by omega), by rw [pre_v (by omega), ← hinv1.2.2]; unfold byt at *; omega⟩ (by show word.size - (k + 1) < word.size - k; omega) ⟨rfl, rfl, rfl, rfl, trivial⟩ rfl
          · refine cf rfl (decide_eq_false h21) (xt (xq (xq (xb (nx (sq (sq (rg (m_ rfl rfl (vl (lns Tryd.underlying9 rfl rfl) rfl (m_ rfl rfl (vl (lns Tryd.underlying9 rfl rfl) rfl (vl (cm rfl rfl rfl rfl) rfl (en (nx ?_)))))))))))))))
            by_cases h24 : ((word.size : Nat) : Int) < ((word.size : Nat) : Int)
            · refine ct rfl (decide_eq_true h24) (rg (m_ rfl rfl (vl (ng (m := (-v)) rfl rfl (by rw [wr (by omega) (by omega)]; omega)) rfl (a_ rfl rfl (en (nx (sq (rg (m_ rfl rfl (a_ rfl rfl (a_ rfl rfl (en (nx (rt (ret2 rfl rfl rfl (fun w_ hs_ => ⟨?_, hs_.below⟩))))))))))))))))
              exact rt2 (by have hd := (dig_pos (s := word) (by omega)); have z := pre_end hinv1.2.1 (by omega); rw [numL_good hd (by omega) (by omega) (by omega), if_pos z.1, hinv1.2.2, z.2]; first | rw [if_pos (by omega)] | rw [if_neg (by omega)])
            · refine cf rfl (decide_eq_false h24) (sk (nx (sq (rg (m_ rfl rfl (a_ rfl rfl (a_ rfl rfl (en (nx (rt (ret2 rfl rfl rfl (fun w_ hs_ => ⟨?_, hs_.below⟩))))))))))))
              exact rt2 (by have hd := (dig_pos (s := word) (by omega)); have z := pre_end hinv1.2.1 (by omega); rw [numL_good hd (by omega) (by omega) (by omega), if_pos z.1, hinv1.2.2, z.2]; first | rw [if_pos (by omega)] | rw [if_neg (by omega)])
        · refine sg rfl rfl (beq_eq_false_iff_ne.2 h20) (sg rfl rfl (beq_eq_false_iff_ne.2 h20) (sg rfl rfl (beq_eq_false_iff_ne.2 h20) (sg rfl rfl (beq_eq_false_iff_ne.2 h20) (su rfl rfl (su rfl rfl (su rfl rfl (sg rfl rfl (beq_eq_false_iff_ne.2 h20) (vg (pk (b := false) rfl rfl (beq_eq_false_iff_ne.2 h20) rfl) rfl rfl (decide_eq_false h19) (vl (pk (b := false) rfl rfl (decide_eq_false h19) rfl) rfl (en (nx (cf rfl rfl (sk (nx (sq (rg (a_ rfl rfl (en (nx (sq (sq (rg (a_ rfl rfl (en (nx (bk ?_))))))))))))))))))))))))))
          refine lp (σ := Nat × Int) (fun z_ : Nat × Int => match z_ with | (k, v) => [(0, .string word), (4, .string word), (5, .int .i64 v), (6, .int .i64 ((k : Nat) : Int))])
              (fun z_ : Nat × Int => match z_ with | (k, v) => [])
              (fun z_ : Nat × Int => match z_ with | (k, v) => (k ≤ word.size ∧ pre word k ∧ v = ((dvl (word.data.toList.take k) : Nat) : Int))) (fun z_ : Nat × Int => match z_ with | (k, v) => word.size - k) (0, 0) [] ⟨Nat.zero_le _, pre_0 _, rfl⟩ ⟨rfl, rfl, rfl, rfl, trivial⟩ rfl ?_
          rintro ⟨k, v⟩ hp_
          have hinv1 : (k ≤ word.size ∧ pre word k ∧ v = ((dvl (word.data.toList.take k) : Nat) : Int)) := hp_; have hvb := pre_b hinv1.2.1 (by omega)
          refine sq (sq (rg (m_ rfl rfl (m_ rfl rfl (vl (lns Tryd.underlying9 rfl rfl) rfl (vl (cm rfl rfl rfl rfl) rfl (en (nx ?_))))))))
          by_cases h25 : ((k : Nat) : Int) < ((word.size : Nat) : Int)
          · refine ct rfl (decide_eq_true h25) (sk (nx (sq (bk (sq (sq (rg (m_ rfl rfl (m_ rfl rfl (vl (six k Tryd.underlying9 rfl rfl rfl (by omega)) rfl (vl (cm rfl rfl rfl rfl) rfl (m_ rfl rfl ?_))))))))))))
            by_cases h26 : (byt word k) < (48 : Int)
            · refine sg rfl rfl (decide_eq_true h26) (sg rfl rfl (decide_eq_true h26) (sg rfl rfl (decide_eq_true h26) (sg rfl rfl (decide_eq_true h26) (vl (pk (b := true) rfl rfl (decide_eq_true h26) rfl) rfl (en (nx (ct rfl rfl (sq (rg (a_ rfl rfl (a_ rfl rfl (en (nx (rt (xr (xrb (xr (xr (xrb (xr (ret2 rfl rfl rfl (fun w_ hs_ => ⟨?_, hs_.below⟩))))))))))))))))))))))
              exact rt2 (by have hd := (dig_pos (s := word) (by omega)); rw [numL_good hd (by omega) (by omega) (by omega), if_neg (pre_not (k := k) (by omega) (by omega))])
            · refine vg (mv rfl rfl) rfl rfl (decide_eq_false h26) (vg (mv rfl rfl) rfl rfl (decide_eq_false h26) (vg (six k Tryd.underlying9 rfl rfl rfl (by omega)) rfl rfl (decide_eq_false h26) (vg (cm rfl rfl rfl rfl) rfl rfl (decide_eq_false h26) (vl (pk (b := false) rfl rfl (decide_eq_false h26) rfl) rfl (en (nx ?_))))))
              by_cases h27 : (57 : Int) < (byt word k)
              · refine ct rfl (decide_eq_true h27) (sq (rg (a_ rfl rfl (a_ rfl rfl (en (nx (rt (xr (xrb (xr (xr (xrb (xr (ret2 rfl rfl rfl (fun w_ hs_ => ⟨?_, hs_.below⟩)))))))))))))))
                exact rt2 (by have hd := (dig_pos (s := word) (by omega)); rw [numL_good hd (by omega) (by omega) (by omega), if_neg (pre_not (k := k) (by omega) (by omega))])
              · refine cf rfl (decide_eq_false h27) (sk (nx (rg (m_ rfl rfl (vl (rm (c := v * 10) rfl rfl rfl rfl (by omega) (by omega)) rfl (m_ rfl rfl (m_ rfl rfl (vl (six k Tryd.underlying9 rfl rfl rfl (by omega)) rfl (vl (ru (c := (byt word k) - 48) rfl rfl rfl rfl (by omega) (by omega)) rfl (vl (cv Tryd.underlying5 Tryd.underlying2 rfl rfl (wr (by omega) (by omega))) rfl (vl (ra (c := v * 10 + ((byt word k) - 48)) rfl rfl rfl rfl (by omega) (by omega)) rfl (a_ rfl rfl (en (xn (nx (rg (m_ rfl rfl (vl (ra (c := ((k + 1 : Nat) : Int)) rfl rfl rfl (by omega) (by omega) (by omega)) rfl (a_ rfl rfl (en ?_))))))))))))))))))))
                exact lpe (s := (k, v)) (k + 1, v * 10 + ((byt word k) - 48)) [] ⟨by omega, pre_s (by omega) hinv1.2.1 (by omega) (by omega), by rw [pre_v (by omega), ← hinv1.2.2]; unfold byt at *; omega⟩ (by show word.size - (k + 1) < word.size - k; omega) ⟨rfl, rfl, rfl, rfl, trivial⟩ rfl
          · refine cf rfl (decide_eq_false h25) (xt (xq (xq (xb (nx (sq (sq (rg (m_ rfl rfl (vl (lns Tryd.underlying9 rfl rfl) rfl (m_ rfl rfl (vl (lns Tryd.underlying9 rfl rfl) rfl (vl (cm rfl rfl rfl rfl) rfl (en (nx ?_)))))))))))))))
            by_cases h28 : ((word.size : Nat) : Int) < ((word.size : Nat) : Int)
            · refine ct rfl (decide_eq_true h28) (rg (m_ rfl rfl (vl (ng (m := (-v)) rfl rfl (by rw [wr (by omega) (by omega)]; omega)) rfl (a_ rfl rfl (en (nx (sq (rg (m_ rfl rfl (a_ rfl rfl (a_ rfl rfl (en (nx (rt (ret2 rfl rfl rfl (fun w_ hs_ => ⟨?_, hs_.below⟩))))))))))))))))
              exact rt2 (by have hd := (dig_pos (s := word) (by omega)); have z := pre_end hinv1.2.1 (by omega); rw [numL_good hd (by omega) (by omega) (by omega), if_pos z.1, hinv1.2.2, z.2]; first | rw [if_pos (by omega)] | rw [if_neg (by omega)])
            · refine cf rfl (decide_eq_false h28) (sk (nx (sq (rg (m_ rfl rfl (a_ rfl rfl (a_ rfl rfl (en (nx (rt (ret2 rfl rfl rfl (fun w_ hs_ => ⟨?_, hs_.below⟩))))))))))))
              exact rt2 (by have hd := (dig_pos (s := word) (by omega)); have z := pre_end hinv1.2.1 (by omega); rw [numL_good hd (by omega) (by omega) (by omega), if_pos z.1, hinv1.2.2, z.2]; first | rw [if_pos (by omega)] | rw [if_neg (by omega)])
/-! spec.NumberOf -/
set_option maxRecDepth 20000 in
set_option maxHeartbeats 2000000 in
theorem spec_NumberOf (w : World) (word : ByteArray) (hz : word.size ≤ 1048576) : Calls Tryd.prog 18 #[.string word] w (Made kIntResultO w (numRes (numL word.data.toList)) []) := by
  refine fnc (X := X 15 w) (args := [.string word]) (l := [(0, .string word)]) (G := []) Tryd.func18 rfl rfl rfl ⟨rfl, trivial⟩ (s0n w).1 ?_
  refine sq (rg (al zero46 rfl rfl rfl ?_))
  intro b1
  refine en (nx (sq (rg (m_ rfl rfl (cs_ (v := .tuple #[.int .i64 ((numL word.data.toList).1), .bool ((numL word.data.toList).2)]) (by kernel_rfl) rfl rfl rfl (fun w_ hs_ => spec_l13Number w_ _ (by omega)) (m_ rfl rfl (vl (ex rfl rfl rfl) rfl (vl (ex rfl rfl rfl) rfl (a_ rfl rfl (a_ rfl rfl (en (nx (sq (sq (rg (m_ rfl rfl (vl (nt rfl rfl) rfl (en (nx ?_)))))))))))))))))))
  by_cases h2 : (numL word.data.toList).2 = true
  · exact cf rfl (not_f h2) (sk (nx (sq (rg (m_ rfl rfl (vl (bd bld46 rfl rfl rfl) rfl (sto rfl rfl rfl rfl rfl rfl rfl (cs' := [.int .i64 0, .int .i64 ((numL word.data.toList).1)]) rfl (en (nx (rt (gs Kd.i64 [.int .i64 ((numL word.data.toList).1)] ((⟨0, (numL word.data.toList).1⟩ : IntResult).value) (fun _ => ⟨rfl, rfl, rfl⟩) (gs Kd.i64 [.int .i64 0] ((⟨0, (numL word.data.toList).1⟩ : IntResult).code) (fun _ => ⟨rfl, rfl, rfl⟩) (gj (da := (Kd.via Kd.i64 IntResult.code)) (db := (Kd.via Kd.i64 IntResult.value)) (x := (⟨0, (numL word.data.toList).1⟩ : IntResult)) (cs := [.int .i64 0, .int .i64 ((numL word.data.toList).1)]) rfl (gr (numRes (numL word.data.toList)) (by unfold numRes; rw [if_pos h2]) (retc 1 rfl rfl rfl rfl rfl rfl (fun w_ hs_ => made hs_ rfl (see_app see_nil see_nil)))))))))))))))))
  · exact ct rfl (not_t (Bool.eq_false_iff.2 h2)) (sq (rg (vl (bd bld46 rfl rfl rfl) rfl (sto rfl rfl rfl rfl rfl rfl rfl (cs' := [.int .i64 5, .int .i64 0]) rfl (en (nx (rt (xr (gs Kd.i64 [.int .i64 0] ((⟨5, 0⟩ : IntResult).value) (fun _ => ⟨rfl, rfl, rfl⟩) (gs Kd.i64 [.int .i64 5] ((⟨5, 0⟩ : IntResult).code) (fun _ => ⟨rfl, rfl, rfl⟩) (gj (da := (Kd.via Kd.i64 IntResult.code)) (db := (Kd.via Kd.i64 IntResult.value)) (x := (⟨5, 0⟩ : IntResult)) (cs := [.int .i64 5, .int .i64 0]) rfl (gr (numRes (numL word.data.toList)) (by unfold numRes; rw [if_neg h2]) (retc 1 rfl rfl rfl rfl rfl rfl (fun w_ hs_ => made hs_ rfl (see_app see_nil see_nil)))))))))))))))
/-! laws.FnExactNumberOf -/
set_option maxRecDepth 20000 in
set_option maxHeartbeats 2000000 in
theorem laws_FnExactNumberOf (w : World) (aWord : ByteArray) (ht : TabP w) (hte : TabE w) : Calls Tryd.prog 5 #[.string aWord] w (fun e_ w2_ => e_ = .returned (.bool true) ∧ Below w.heap.size w w2_) := by
  refine fnc (X := X 16 w) (args := [.string aWord]) (l := [(0, .string aWord)]) (G := []) Tryd.func5 rfl rfl rfl ⟨rfl, trivial⟩ (s0n w).1 ?_
  refine sq (rg (a_ rfl rfl (en (nx (sq (sq (rg (m_ rfl rfl (vl (lns Tryd.underlying9 rfl rfl) rfl (vl (cm rfl rfl rfl rfl) rfl (en (nx ?_))))))))))))
  by_cases h1 : (1048576 : Int) < ((aWord.size : Nat) : Int)
  · refine ct rfl (decide_eq_true h1) (sq (rg (a_ rfl rfl (en (nx (rt (xr (ret1 rfl rfl (fun w_ hs_ => ⟨?_, hs_.below⟩)))))))))
    rfl
  · refine cf rfl (decide_eq_false h1) (sk (nx (sq (rg (m_ rfl rfl (cm_ (dk := kIntResultO) (x := (numRes (numL aWord.data.toList))) (S := []) (by kernel_rfl) rfl rfl rfl sn0 (fun w_ hs_ => spec_NumberOf w_ _ (by omega)) (fun cs_ o2 s3 w_ r4 t5 => ?_)))))))
    obtain ⟨rfl⟩ := kIntResultO_sh r4
    refine al zero46 rfl rfl rfl ?_
    intro b7
    refine sto rfl rfl rfl rfl rfl rfl rfl (cs' := [.int .i64 ((numRes (numL aWord.data.toList)).code), .int .i64 ((numRes (numL aWord.data.toList)).value)]) rfl (en (nx (sq (rg (m_ rfl rfl (cm_ (dk := kIntResultO) (x := (numRes (numI aWord.data.toList))) (S := []) (by kernel_rfl) rfl rfl rfl sn0 (fun w_ hs_ => impl_NumberOf w_ _ (by omega) (ht.mono hs_.below) (hte.mono hs_.below)) (fun cs_ o8 s9 w_ r10 t11 => ?_)))))))
    obtain ⟨rfl⟩ := kIntResultO_sh r10
    refine al zero46 rfl rfl rfl ?_
    intro b13
    refine sto rfl rfl rfl rfl rfl rfl rfl (cs' := [.int .i64 ((numRes (numI aWord.data.toList)).code), .int .i64 ((numRes (numI aWord.data.toList)).value)]) rfl (en (nx (sq (sq (rg (vl (ldb 0 rfl rfl rfl rfl rfl rfl rfl) rfl (vl (ldb 2 rfl rfl rfl rfl rfl rfl rfl) rfl (cs_ (v := .bool (decide ((numRes (numI aWord.data.toList)) = (numRes (numL aWord.data.toList))))) (by kernel_rfl) rfl rfl rfl (fun w_ hs_ => bor kIntResultO_seal (hs_.at 1 rfl) fun _ lb0_ => bor kIntResultO_seal (hs_.at 3 rfl) fun _ lb1_ => laws_eqIntResult w_ lb0_ lb1_) (vl (nt rfl rfl) rfl (en (nx ?_)))))))))))
    by_cases h14 : decide ((numRes (numI aWord.data.toList)) = (numRes (numL aWord.data.toList))) = true
    · refine cf rfl (not_f h14) (sk (nx (sq (rg (a_ rfl rfl (en (nx (rt (ret1 rfl rfl (fun w_ hs_ => ⟨?_, hs_.below⟩))))))))))
      rfl
    · exact absurd (decide_eq_true (numRes_same aWord.data.toList)) h14
end Go.Proofs.YtpjepjnemnmieaaDoor.Sx
