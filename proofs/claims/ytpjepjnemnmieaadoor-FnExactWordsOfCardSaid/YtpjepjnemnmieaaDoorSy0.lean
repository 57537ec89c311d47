/- What functions of the program answer, each at every input that its row names; walked through their code. -/
import Derived.Test.YtpjepjnemnmieaaDoorSxb
import Derived.Test.YtpjepjnemnmieaaDoorProg
import Derived.KernelRfl
import Derived.Shelf.Strconv.Itoa4
import Derived.Shelf.Strconv.ErrVarParseInt
import Derived.Shelf.Strings.Prefix
import Derived.Lib.AtoiErrMem
import Derived.Lib.ItoaMem
import Derived.Lib.ParseIntBCases
import Derived.Lib.Strings
import Derived.Shelf.Strings.SplitShaped
namespace Go.Proofs.YtpjepjnemnmieaaDoor.Sx
open Go Go.RowKit Go.Proofs
set_option linter.unusedVariables false
set_option linter.unusedSimpArgs false
def tab : Tab := { size := [(2, 1, false), (9, 1, false), (22, 1, false), (24, 2, true)], off := [((24, 0), 0), ((24, 1), 1)], elem := [(22, 9), (96, 5)] }
theorem tab_ok : tab.check Tryd.prog = true := by kernel_rfl
theorem wide : Tryd.prog.follows .mixedOrders = true := by kernel_rfl
noncomputable abbrev X (N : Nat) (w : World) : Cx := ⟨Tryd.prog, tab, tab_ok, wide, N, w, none, []⟩
theorem zero24 : (Tryd.prog.info? 24).bind (·.zero) = some (.agg #[.int .i64 0, .slice none 0 0]) := by kernel_rfl
theorem info5 : (Tryd.prog.info? 5).map (fun i => (i.zero, i.size, i.bytes)) = some (some (.int .u8 0), 1, 1) := by kernel_rfl
theorem info9 : (Tryd.prog.info? 9).map (fun i => (i.zero, i.size, i.bytes)) = some (some (.string ByteArray.empty), 1, 16) := by kernel_rfl
theorem bld24 : bld Tryd.prog 24 = some ([(0, 1), (1, 1)], [.int .i64 0, .slice none 0 0]) := by kernel_rfl

section
open Go.Shelf
set_option maxRecDepth 100000
def renFormatInt : Go.Shelf.Ren := ⟨fun | 129 => 101 | 173 => 60 | 246 => 70 | 283 => 83 | 284 => 84 | 285 => 85 | 286 => 86 | 317 => 100 | 318 => 102 | 319 => 103 | 320 => 104 | 337 => 117 | 338 => 118 | n => n, fun | 0 => 0 | 2 => 2 | 3 => 3 | 4 => 4 | 5 => 5 | 9 => 9 | 20 => 20 | 37 => 96 | 46 => 122 | 51 => 134 | 53 => 112 | 171 => 111 | 173 => 115 | 212 => 133 | 213 => 135 | 232 => 156 | 233 => 157 | n => n, fun | 17 => 0 | 18 => 6 | 19 => 7 | n => n⟩
theorem laidFormatInt : LaysM.n173 Tryd.prog renFormatInt := {
  mixed := by kernel_rfl
  f129 := Tryd.func101.trans (congrArg some (by kernel_rfl))
  f173 := Tryd.func60.trans (congrArg some (by kernel_rfl))
  f246 := Tryd.func70.trans (congrArg some (by kernel_rfl))
  f283 := Tryd.func83.trans (congrArg some (by kernel_rfl))
  f284 := Tryd.func84.trans (congrArg some (by kernel_rfl))
  f285 := Tryd.func85.trans (congrArg some (by kernel_rfl))
  f286 := Tryd.func86.trans (congrArg some (by kernel_rfl))
  f317 := Tryd.func100.trans (congrArg some (by kernel_rfl))
  f318 := Tryd.func102.trans (congrArg some (by kernel_rfl))
  f319 := Tryd.func103.trans (congrArg some (by kernel_rfl))
  f320 := Tryd.func104.trans (congrArg some (by kernel_rfl))
  f337 := Tryd.func117.trans (congrArg some (by kernel_rfl))
  f338 := Tryd.func118.trans (congrArg some (by kernel_rfl))
  t0 := Tryd.underlying0
  a0 := Tryd.isAgg0
  z0 := Tryd.sizeOf0
  v0 := Tryd.zeroValue0
  t2 := Tryd.underlying2
  a2 := Tryd.isAgg2
  z2 := Tryd.sizeOf2
  v2 := Tryd.zeroValue2
  t3 := Tryd.underlying3
  a3 := Tryd.isAgg3
  z3 := Tryd.sizeOf3
  v3 := Tryd.zeroValue3
  t4 := Tryd.underlying4
  a4 := Tryd.isAgg4
  z4 := Tryd.sizeOf4
  v4 := Tryd.zeroValue4
  t5 := Tryd.underlying5
  a5 := Tryd.isAgg5
  z5 := Tryd.sizeOf5
  v5 := Tryd.zeroValue5
  t9 := Tryd.underlying9
  a9 := Tryd.isAgg9
  z9 := Tryd.sizeOf9
  v9 := Tryd.zeroValue9
  t20 := Tryd.underlying20
  a20 := Tryd.isAgg20
  z20 := Tryd.sizeOf20
  v20 := Tryd.zeroValue20
  t37 := Tryd.underlying96
  a37 := Tryd.isAgg96
  z37 := Tryd.sizeOf96
  v37 := Tryd.zeroValue96
  t46 := Tryd.underlying122
  a46 := Tryd.isAgg122
  z46 := Tryd.sizeOf122
  v46 := Tryd.zeroValue122
  t51 := Tryd.underlying134
  a51 := Tryd.isAgg134
  z51 := Tryd.sizeOf134
  v51 := Tryd.zeroValue134
  t53 := Tryd.underlying112
  a53 := Tryd.isAgg112
  z53 := Tryd.sizeOf112
  v53 := Tryd.zeroValue112
  t171 := Tryd.underlying111
  a171 := Tryd.isAgg111
  z171 := Tryd.sizeOf111
  v171 := Tryd.zeroValue111
  t173 := Tryd.underlying115
  a173 := Tryd.isAgg115
  z173 := Tryd.sizeOf115
  v173 := Tryd.zeroValue115
  t212 := Tryd.underlying133
  a212 := Tryd.isAgg133
  z212 := Tryd.sizeOf133
  v212 := Tryd.zeroValue133
  t213 := Tryd.underlying135
  a213 := Tryd.isAgg135
  z213 := Tryd.sizeOf135
  t232 := Tryd.underlying156
  a232 := Tryd.isAgg156
  z232 := Tryd.sizeOf156
  v232 := Tryd.zeroValue156
  t233 := Tryd.underlying157
  a233 := Tryd.isAgg157
  z233 := Tryd.sizeOf157
  v233 := Tryd.zeroValue157
  g17 := by kernel_rfl
  g18 := by kernel_rfl
  g19 := by kernel_rfl
  i0 := by kernel_rfl
  i2 := by kernel_rfl
  i3 := by kernel_rfl
  i4 := by kernel_rfl
  i5 := by kernel_rfl
  i9 := by kernel_rfl
  i20 := by kernel_rfl
  i37 := by kernel_rfl
  i46 := by kernel_rfl
  i51 := by kernel_rfl
  i53 := by kernel_rfl
  i171 := by kernel_rfl
  i173 := by kernel_rfl
  i212 := by kernel_rfl
  i232 := by kernel_rfl
  i233 := by kernel_rfl
  m17 := by kernel_rfl
  m18 := by kernel_rfl
  m19 := by kernel_rfl }
def renParseInt : Go.Shelf.Ren := ⟨fun | 129 => 101 | 171 => 111 | 174 => 64 | 205 => 110 | 243 => 119 | 245 => 76 | 246 => 70 | 247 => 75 | 279 => 91 | 280 => 92 | 281 => 93 | 282 => 94 | 283 => 83 | 284 => 84 | 285 => 85 | 286 => 86 | 287 => 90 | 316 => 109 | 317 => 100 | 318 => 102 | 319 => 103 | 320 => 104 | 321 => 107 | 322 => 108 | 337 => 117 | 338 => 118 | n => n, fun | 0 => 0 | 2 => 2 | 3 => 3 | 4 => 4 | 5 => 5 | 9 => 9 | 20 => 20 | 21 => 21 | 37 => 96 | 46 => 122 | 51 => 134 | 53 => 112 | 75 => 93 | 80 => 106 | 85 => 94 | 127 => 117 | 143 => 147 | 145 => 149 | 167 => 119 | 168 => 123 | 171 => 111 | 173 => 115 | 175 => 120 | 210 => 144 | 212 => 133 | 213 => 135 | 232 => 156 | 233 => 157 | n => n, fun | 15 => 1 | 16 => 2 | 17 => 0 | 18 => 6 | 19 => 7 | n => n⟩
theorem laidParseInt : LaysC.n174 Tryd.prog renParseInt := {
  mixed := by kernel_rfl
  f129 := Tryd.func101.trans (congrArg some (by kernel_rfl))
  f171 := Tryd.func111.trans (congrArg some (by kernel_rfl))
  f174 := Tryd.func64.trans (congrArg some (by kernel_rfl))
  f205 := Tryd.func110.trans (congrArg some (by kernel_rfl))
  f243 := Tryd.func119.trans (congrArg some (by kernel_rfl))
  f245 := Tryd.func76.trans (congrArg some (by kernel_rfl))
  f246 := Tryd.func70.trans (congrArg some (by kernel_rfl))
  f247 := Tryd.func75.trans (congrArg some (by kernel_rfl))
  f279 := Tryd.func91.trans (congrArg some (by kernel_rfl))
  f280 := Tryd.func92.trans (congrArg some (by kernel_rfl))
  f281 := Tryd.func93.trans (congrArg some (by kernel_rfl))
  f282 := Tryd.func94.trans (congrArg some (by kernel_rfl))
  f283 := Tryd.func83.trans (congrArg some (by kernel_rfl))
  f284 := Tryd.func84.trans (congrArg some (by kernel_rfl))
  f285 := Tryd.func85.trans (congrArg some (by kernel_rfl))
  f286 := Tryd.func86.trans (congrArg some (by kernel_rfl))
  f287 := Tryd.func90.trans (congrArg some (by kernel_rfl))
  f316 := Tryd.func109.trans (congrArg some (by kernel_rfl))
  f317 := Tryd.func100.trans (congrArg some (by kernel_rfl))
  f318 := Tryd.func102.trans (congrArg some (by kernel_rfl))
  f319 := Tryd.func103.trans (congrArg some (by kernel_rfl))
  f320 := Tryd.func104.trans (congrArg some (by kernel_rfl))
  f321 := Tryd.func107.trans (congrArg some (by kernel_rfl))
  f322 := Tryd.func108.trans (congrArg some (by kernel_rfl))
  f337 := Tryd.func117.trans (congrArg some (by kernel_rfl))
  f338 := Tryd.func118.trans (congrArg some (by kernel_rfl))
  t0 := Tryd.underlying0
  a0 := Tryd.isAgg0
  z0 := Tryd.sizeOf0
  v0 := Tryd.zeroValue0
  t2 := Tryd.underlying2
  a2 := Tryd.isAgg2
  z2 := Tryd.sizeOf2
  v2 := Tryd.zeroValue2
  t3 := Tryd.underlying3
  a3 := Tryd.isAgg3
  z3 := Tryd.sizeOf3
  v3 := Tryd.zeroValue3
  t4 := Tryd.underlying4
  a4 := Tryd.isAgg4
  z4 := Tryd.sizeOf4
  v4 := Tryd.zeroValue4
  t5 := Tryd.underlying5
  a5 := Tryd.isAgg5
  z5 := Tryd.sizeOf5
  v5 := Tryd.zeroValue5
  t9 := Tryd.underlying9
  a9 := Tryd.isAgg9
  z9 := Tryd.sizeOf9
  v9 := Tryd.zeroValue9
  t20 := Tryd.underlying20
  a20 := Tryd.isAgg20
  z20 := Tryd.sizeOf20
  v20 := Tryd.zeroValue20
  t21 := Tryd.underlying21
  a21 := Tryd.isAgg21
  z21 := Tryd.sizeOf21
  v21 := Tryd.zeroValue21
  t37 := Tryd.underlying96
  a37 := Tryd.isAgg96
  z37 := Tryd.sizeOf96
  v37 := Tryd.zeroValue96
  t46 := Tryd.underlying122
  a46 := Tryd.isAgg122
  z46 := Tryd.sizeOf122
  v46 := Tryd.zeroValue122
  t51 := Tryd.underlying134
  a51 := Tryd.isAgg134
  z51 := Tryd.sizeOf134
  v51 := Tryd.zeroValue134
  t53 := Tryd.underlying112
  a53 := Tryd.isAgg112
  z53 := Tryd.sizeOf112
  v53 := Tryd.zeroValue112
  t75 := Tryd.underlying93
  a75 := Tryd.isAgg93
  z75 := Tryd.sizeOf93
  v75 := Tryd.zeroValue93
  t85 := Tryd.underlying94
  a85 := Tryd.isAgg94
  z85 := Tryd.sizeOf94
  v85 := Tryd.zeroValue94
  t127 := Tryd.underlying117
  a127 := Tryd.isAgg117
  z127 := Tryd.sizeOf117
  v127 := Tryd.zeroValue117
  t143 := Tryd.underlying147
  a143 := Tryd.isAgg147
  z143 := Tryd.sizeOf147
  v143 := Tryd.zeroValue147
  t145 := Tryd.underlying149
  a145 := Tryd.isAgg149
  z145 := Tryd.sizeOf149
  v145 := Tryd.zeroValue149
  t167 := Tryd.underlying119
  a167 := Tryd.isAgg119
  z167 := Tryd.sizeOf119
  v167 := Tryd.zeroValue119
  t168 := Tryd.underlying123
  a168 := Tryd.isAgg123
  z168 := Tryd.sizeOf123
  v168 := Tryd.zeroValue123
  t171 := Tryd.underlying111
  a171 := Tryd.isAgg111
  z171 := Tryd.sizeOf111
  v171 := Tryd.zeroValue111
  t173 := Tryd.underlying115
  a173 := Tryd.isAgg115
  z173 := Tryd.sizeOf115
  v173 := Tryd.zeroValue115
  t175 := Tryd.underlying120
  a175 := Tryd.isAgg120
  z175 := Tryd.sizeOf120
  v175 := Tryd.zeroValue120
  t210 := Tryd.underlying144
  a210 := Tryd.isAgg144
  z210 := Tryd.sizeOf144
  v210 := Tryd.zeroValue144
  t212 := Tryd.underlying133
  a212 := Tryd.isAgg133
  z212 := Tryd.sizeOf133
  v212 := Tryd.zeroValue133
  t213 := Tryd.underlying135
  a213 := Tryd.isAgg135
  z213 := Tryd.sizeOf135
  t232 := Tryd.underlying156
  a232 := Tryd.isAgg156
  z232 := Tryd.sizeOf156
  v232 := Tryd.zeroValue156
  t233 := Tryd.underlying157
  a233 := Tryd.isAgg157
  z233 := Tryd.sizeOf157
  v233 := Tryd.zeroValue157
  g15 := by kernel_rfl
  g16 := by kernel_rfl
  g17 := by kernel_rfl
  g18 := by kernel_rfl
  g19 := by kernel_rfl
  t80 := Tryd.underlying106
  a80 := Tryd.isAgg106
  z80 := Tryd.sizeOf106
  v80 := Tryd.zeroValue106
  i0 := by kernel_rfl
  i2 := by kernel_rfl
  i3 := by kernel_rfl
  i4 := by kernel_rfl
  i5 := by kernel_rfl
  i9 := by kernel_rfl
  i20 := by kernel_rfl
  i21 := by kernel_rfl
  i37 := by kernel_rfl
  i46 := by kernel_rfl
  i51 := by kernel_rfl
  i53 := by kernel_rfl
  i75 := by kernel_rfl
  i80 := by kernel_rfl
  i85 := by kernel_rfl
  i127 := by kernel_rfl
  i143 := by kernel_rfl
  i145 := by kernel_rfl
  i167 := by kernel_rfl
  i168 := by kernel_rfl
  i171 := by kernel_rfl
  i173 := by kernel_rfl
  i175 := by kernel_rfl
  i210 := by kernel_rfl
  i212 := by kernel_rfl
  i232 := by kernel_rfl
  i233 := by kernel_rfl
  m15 := by kernel_rfl
  m16 := by kernel_rfl
  m17 := by kernel_rfl
  m18 := by kernel_rfl
  m19 := by kernel_rfl
  c0 := by kernel_rfl
  c2 := by kernel_rfl
  c3 := by kernel_rfl
  c4 := by kernel_rfl
  c5 := by kernel_rfl
  c9 := by kernel_rfl
  c20 := by kernel_rfl
  c21 := by kernel_rfl
  c37 := by kernel_rfl
  c46 := by kernel_rfl
  c51 := by kernel_rfl
  c53 := by kernel_rfl
  c75 := by kernel_rfl
  c80 := by kernel_rfl
  c85 := by kernel_rfl
  c127 := by kernel_rfl
  c143 := by kernel_rfl
  c145 := by kernel_rfl
  c167 := by kernel_rfl
  c168 := by kernel_rfl
  c171 := by kernel_rfl
  c173 := by kernel_rfl
  c175 := by kernel_rfl
  c210 := by kernel_rfl
  c212 := by kernel_rfl
  c213 := by kernel_rfl
  c232 := by kernel_rfl
  c233 := by kernel_rfl }
def renTrimPrefix : Go.Shelf.Ren := ⟨fun | 101 => 63 | 206 => 89 | 208 => 74 | n => n, fun | 3 => 3 | 4 => 4 | 9 => 9 | n => n, fun n => n⟩
theorem laidTrimPrefix : Lays.n101 Tryd.prog renTrimPrefix := {
  mixed := by kernel_rfl
  f101 := Tryd.func63.trans (congrArg some (by kernel_rfl))
  f206 := Tryd.func89.trans (congrArg some (by kernel_rfl))
  f208 := Tryd.func74.trans (congrArg some (by kernel_rfl))
  t3 := Tryd.underlying3
  a3 := Tryd.isAgg3
  z3 := Tryd.sizeOf3
  v3 := Tryd.zeroValue3
  t4 := Tryd.underlying4
  a4 := Tryd.isAgg4
  z4 := Tryd.sizeOf4
  v4 := Tryd.zeroValue4
  t9 := Tryd.underlying9
  a9 := Tryd.isAgg9
  z9 := Tryd.sizeOf9
  v9 := Tryd.zeroValue9 }
end
theorem below_grow (w : World) (k : Nat) (os : Array Obj) : Go.RowKit.Below w.heap.size w (Go.Sort.grow (w.drewN k) os) :=
  ⟨rfl, rfl, rfl, by simp [Go.Sort.grow, World.drewN], fun i hi => by simp [Go.Sort.grow, World.drewN, Array.getElem?_append_left hi]⟩
theorem var_below {P : Program} {w w' : World} {n : String} {cs : Array Value} (h : w.var? P n = some cs) (b : Below w.heap.size w w') : w'.var? P n = some cs := by
  unfold World.var? at *
  cases hg : P.globalNamed n with
  | none => rw [hg] at h; cases h
  | some g =>
    rw [hg] at h
    simp only [Option.bind_some] at h ⊢
    have hlt : g < w.heap.size := by
      apply Decidable.byContradiction
      intro hn
      rw [Array.getElem?_eq_none (by omega)] at h
      cases h
    rw [b.block g hlt]
    exact h
def TabP (w : World) : Prop := Go.Lib.TabIs Tryd.prog w "internal/strconv.uint64pow10" .u64 Go.Lib.pow10Tab
theorem TabP.mono {w w' : World} (h : TabP w) (b : Below w.heap.size w w') : TabP w' := var_below h b
def TabE (w : World) : Prop := (∃ tp p, w.var? Tryd.prog "strconv.ErrSyntax" = some #[.iface tp p]) ∧ ∃ tp p, w.var? Tryd.prog "strconv.ErrRange" = some #[.iface tp p]
theorem TabE.mono {w w' : World} (h : TabE w) (b : Below w.heap.size w w') : TabE w' := by
  obtain ⟨⟨t1, p1, h1⟩, t2, p2, h2⟩ := h
  exact ⟨⟨t1, p1, var_below h1 b⟩, t2, p2, var_below h2 b⟩
def itoaB (n : Int) : ByteArray := ⟨(Go.Lib.itoa n).toArray⟩
theorem fmtInt (w : World) (n : Int) (h0 : -9223372036854775808 ≤ n) (h1 : n ≤ 9223372036854775807) (ht : TabP w) : Calls Tryd.prog 60 #[.int .i64 n, .int .i64 10] w (fun e w' => e = .returned (.string (itoaB n)) ∧ Below w.heap.size w w') :=
  (Any.strconv_FormatInt_10 laidFormatInt n h0 h1 w ht).mono fun e w' ⟨he, k, os, hw⟩ => ⟨he, .of (hw ▸ below_grow w k os)⟩
def trimB (s p : ByteArray) : ByteArray := ⟨(Go.Lib.trimPrefix s.data.toList p.data.toList).toArray⟩
theorem trimPre (w : World) (s p : ByteArray) : Calls Tryd.prog 63 #[.string s, .string p] w (fun e w' => e = .returned (.string (trimB s p)) ∧ Below w.heap.size w w') :=
  (Any.strings_TrimPrefix laidTrimPrefix s p w).mono fun e w' ⟨he, hw⟩ => ⟨he, hw ▸ Below.refl _ _⟩

/-! ### numbers in decimal: what the reference reads, what strconv reads and writes -/
def dvl (l : List UInt8) : Nat := l.foldl (fun n c => n * 10 + (c.toNat - 48)) 0
def isDg (c : UInt8) : Bool := decide (48 ≤ c.toNat ∧ c.toNat ≤ 57)
theorem isDg_t {c : UInt8} (h : isDg c = true) : 48 ≤ c.toNat ∧ c.toNat ≤ 57 := of_decide_eq_true h
theorem dvl_snoc (l : List UInt8) (c : UInt8) : dvl (l ++ [c]) = dvl l * 10 + (c.toNat - 48) := by simp [dvl]
theorem ofNat_digit {c : UInt8} (h : isDg c = true) : UInt8.ofNat (48 + (c.toNat - 48)) = c := by
  have := isDg_t h
  have e : 48 + (c.toNat - 48) = c.toNat := by omega
  rw [e]; exact UInt8.ofNat_toNat
theorem snoc_cases {α : Type} (l : List α) : l = [] ∨ ∃ a c, l = a ++ [c] := by
  rcases List.eq_nil_or_concat l with h | ⟨a, c, h⟩
  · exact .inl h
  · exact .inr ⟨a, c, by simpa using h⟩
/-- Digits as they are written: a 0 ahead only where it stands alone. -/
def Canon (d : List UInt8) : Prop := 1 ≤ d.length ∧ d.all isDg = true ∧ (d.getD 0 0 = 48 → d.length = 1)
theorem dvl_pos : ∀ (n : Nat) (d : List UInt8), d.length = n → Canon d → d.getD 0 0 ≠ 48 → 1 ≤ dvl d
  | 0, d, hn, h, _ => by have := h.1; omega
  | n + 1, d, hn, h, h0 => by
    rcases snoc_cases d with rfl | ⟨a, c, rfl⟩
    · simp at hn
    · rw [dvl_snoc]
      obtain ⟨h1, h2, h3⟩ := h
      simp only [List.all_append, Bool.and_eq_true, List.all_cons, List.all_nil, Bool.and_true] at h2
      by_cases ha : a = []
      · subst ha
        simp only [List.nil_append, List.getD_cons_zero] at h0
        have := isDg_t h2.2
        have hne : c.toNat ≠ 48 := fun e => h0 (UInt8.toNat.inj (by simpa using e))
        simp only [dvl, List.foldl_nil]; omega
      · have hl : 1 ≤ a.length := List.length_pos_iff.2 ha
        have hg : (a ++ [c]).getD 0 0 = a.getD 0 0 := by cases a with | nil => exact absurd rfl ha | cons x r => rfl
        rw [hg] at h0
        have := dvl_pos n a (by simpa using hn) ⟨hl, h2.1, fun e => absurd e h0⟩ h0
        omega
theorem dec_dvl : ∀ (n : Nat) (d : List UInt8), d.length = n → Canon d → Go.Lib.decDigits (dvl d) = d
  | 0, d, hn, h => by have := h.1; omega
  | n + 1, d, hn, h => by
    rcases snoc_cases d with rfl | ⟨a, c, rfl⟩
    · simp at hn
    · rw [dvl_snoc]
      obtain ⟨h1, h2, h3⟩ := h
      simp only [List.all_append, Bool.and_eq_true, List.all_cons, List.all_nil, Bool.and_true] at h2
      have hc := isDg_t h2.2
      by_cases ha : a = []
      · subst ha
        rw [Go.Lib.decDigits, dif_pos (by simp only [dvl, List.foldl_nil]; omega)]
        simp only [dvl, List.foldl_nil, Nat.zero_mul, Nat.zero_add, List.nil_append]
        rw [ofNat_digit h2.2]
      · have hl : 1 ≤ a.length := List.length_pos_iff.2 ha
        have hg : (a ++ [c]).getD 0 0 = a.getD 0 0 := by cases a with | nil => exact absurd rfl ha | cons x r => rfl
        have h0 : a.getD 0 0 ≠ 48 := fun e => by have := h3 (hg.trans e); rw [List.length_append, List.length_singleton] at this; omega
        have hca : Canon a := ⟨hl, h2.1, fun e => absurd e h0⟩
        have hn' : a.length = n := by simpa using hn
        have hp := dvl_pos n a hn' hca h0
        generalize hA : dvl a = A at *
        have hlt : ¬ A * 10 + (c.toNat - 48) < 10 := by omega
        subst hA
        rw [Go.Lib.decDigits, dif_neg hlt]
        have e1 : (dvl a * 10 + (c.toNat - 48)) / 10 = dvl a := by omega
        have e2 : (dvl a * 10 + (c.toNat - 48)) % 10 = c.toNat - 48 := by omega
        rw [e1, e2, dec_dvl n a hn' hca, ofNat_digit h2.2]
theorem dig_toNat {u : Nat} (h : u < 10) : (UInt8.ofNat (48 + u)).toNat = 48 + u := by rw [UInt8.toNat_ofNat']; omega
theorem dec_canon : ∀ (u : Nat), Canon (Go.Lib.decDigits u) ∧ dvl (Go.Lib.decDigits u) = u := fun u => by
  induction u using Nat.strongRecOn with
  | _ u ih =>
    by_cases h : u < 10
    · rw [Go.Lib.decDigits, dif_pos h]
      have := dig_toNat h
      exact ⟨⟨by simp, by simp [isDg, this]; omega, by simp⟩, by simp [dvl]; omega⟩
    · rw [Go.Lib.decDigits, dif_neg h]
      obtain ⟨⟨h1, h2, h3⟩, h4⟩ := ih (u / 10) (by omega)
      have hd := dig_toNat (u := u % 10) (by omega)
      have hdg : isDg (UInt8.ofNat (48 + u % 10)) = true := by simp [isDg, hd]; omega
      refine ⟨⟨by simp, by rw [List.all_append, h2, List.all_cons, hdg]; rfl, fun e => ?_⟩, by rw [dvl_snoc, h4, hd]; omega⟩
      exfalso
      have hg : (Go.Lib.decDigits (u / 10) ++ [UInt8.ofNat (48 + u % 10)]).getD 0 0 = (Go.Lib.decDigits (u / 10)).getD 0 0 := by
        revert h1; cases Go.Lib.decDigits (u / 10) with | nil => intro h1; simp at h1 | cons x r => intro _; rfl
      have hl := h3 (hg.symm.trans e)
      have he := hg.symm.trans e
      have hz : Go.Lib.decDigits (u / 10) = [48] := by
        revert hl he; cases Go.Lib.decDigits (u / 10) with
        | nil => intro hl; simp at hl
        | cons x r => intro hl he; simp at hl he; subst hl; rw [he]
      rw [hz] at h4
      have : dvl [48] = 0 := by decide
      omega
theorem dec_head {u : Nat} (h : (Go.Lib.decDigits u).getD 0 0 = 48) : u = 0 := by
  obtain ⟨⟨h1, h2, h3⟩, h4⟩ := dec_canon u
  have hl := h3 h
  have hz : Go.Lib.decDigits u = [48] := by
    revert hl h; cases Go.Lib.decDigits u with
    | nil => intro _ hl; simp at hl
    | cons x r => intro h hl; simp at hl h; subst hl; rw [h]
  rw [hz] at h4
  exact h4.symm
theorem dvl_lt : ∀ (n : Nat) (d : List UInt8), d.length = n → d.all isDg = true → dvl d < 10 ^ n
  | 0, d, hn, _ => by obtain rfl : d = [] := List.length_eq_zero_iff.1 hn; simp [dvl]
  | n + 1, d, hn, h => by
    rcases snoc_cases d with rfl | ⟨a, c, rfl⟩
    · simp at hn
    · rw [dvl_snoc]
      simp only [List.all_append, Bool.and_eq_true, List.all_cons, List.all_nil, Bool.and_true] at h
      have hc := isDg_t h.2
      have := dvl_lt n a (by simpa using hn) h.1
      rw [Nat.pow_succ]; omega
theorem dvl_six {d : List UInt8} (hd : d.all isDg = true) (h : d.length ≤ 6) : dvl d < 1000000 := by
  have h1 := dvl_lt d.length d rfl hd
  have h2 : 10 ^ d.length ≤ 10 ^ 6 := Nat.pow_le_pow_right (by decide) h
  omega
theorem pum : ∀ (d : List UInt8) (acc : Nat), d.all isDg = true → acc * 10 ^ d.length + 10 ^ d.length ≤ 10 ^ 12 → Go.Lib.parseUintM (2 ^ 64 - 1) acc d = .ok (d.foldl (fun n c => n * 10 + (c.toNat - 48)) acc)
  | [], acc, _, _ => rfl
  | c :: r, acc, hd, hb => by
    simp only [List.all_cons, Bool.and_eq_true] at hd
    have hc := isDg_t hd.1
    rw [List.length_cons, Nat.pow_succ] at hb
    have hp : 1 ≤ 10 ^ r.length := Nat.one_le_pow _ _ (by decide)
    have hacc : acc * (10 ^ r.length * 10) ≤ 10 ^ 12 := by omega
    have h1 : acc ≤ 10 ^ 12 := Nat.le_trans (Nat.le_mul_of_pos_right _ (by omega)) hacc
    unfold Go.Lib.parseUintM
    rw [if_pos hc, if_neg (by omega), if_neg (by omega)]
    refine (pum r _ hd.2 ?_).trans rfl
    have e : (acc * 10 + (c.toNat - 48)) * 10 ^ r.length + 10 ^ r.length = (acc * 10) * 10 ^ r.length + (c.toNat - 48 + 1) * 10 ^ r.length := by
      rw [Nat.add_mul, Nat.add_mul (c.toNat - 48) 1]; omega
    have e2 : (c.toNat - 48 + 1) * 10 ^ r.length ≤ 10 * 10 ^ r.length := Nat.mul_le_mul_right _ (by omega)
    have e3 : acc * (10 ^ r.length * 10) = (acc * 10) * 10 ^ r.length := by rw [Nat.mul_comm (10 ^ r.length) 10, Nat.mul_assoc]
    omega
theorem pub {d : List UInt8} (h1 : 1 ≤ d.length) (hd : d.all isDg = true) (h6 : d.length ≤ 6) : Go.Lib.parseUintB 64 d = .ok (dvl d) := by
  unfold Go.Lib.parseUintB
  rw [if_neg (by intro e; subst e; simp at h1)]
  have h2 : 10 ^ d.length ≤ 10 ^ 6 := Nat.pow_le_pow_right (by decide) h6
  exact pum d 0 hd (by omega)

def digL : List UInt8 → List UInt8
  | c :: d :: r => if c = 45 then d :: r else c :: d :: r
  | l => l
def badL (l d : List UInt8) : Prop := d.length < 1 ∨ 6 < d.length ∨ ((d.getD 0 0 = 48) ∧ (1 < d.length ∨ 1 < l.length))
instance (l d : List UInt8) : Decidable (badL l d) := by unfold badL; infer_instance
/-- What the reference reads. -/
def numL (l : List UInt8) : Int × Bool :=
  if badL l (digL l) then (0, false)
  else if (digL l).all isDg = true then (if (digL l).length < l.length then -(dvl (digL l) : Int) else (dvl (digL l) : Int), true) else (0, false)
def piV (l : List UInt8) : Int := match Go.Lib.parseIntB 64 l with | .ok v => v | .«syntax» => 0 | .range => Go.Lib.intSat 64 l
def piOk (l : List UInt8) : Bool := match Go.Lib.parseIntB 64 l with | .ok _ => true | _ => false
theorem piOk_t {l : List UInt8} (h : piOk l = true) : Go.Lib.parseIntB 64 l = .ok (piV l) := by
  unfold piOk at h; unfold piV; split at h <;> simp_all
theorem piOk_f {l : List UInt8} (h : ¬ piOk l = true) : (Go.Lib.parseIntB 64 l = .«syntax» ∧ piV l = 0) ∨ (Go.Lib.parseIntB 64 l = .range ∧ piV l = Go.Lib.intSat 64 l) := by
  unfold piOk at h; unfold piV
  split at h
  · exact absurd rfl h
  · rename_i h2; generalize Go.Lib.parseIntB 64 l = z at *; cases z <;> simp_all
/-- What the program reads. -/
def numI (l : List UInt8) : Int × Bool :=
  if 6 < (Go.Lib.trimPrefix l [45]).length then (0, false) else (piV l, piOk l && decide (Go.Lib.itoa (piV l) = l))
theorem dg_ne {c : UInt8} (h : isDg c = true) : c.toNat ≠ 43 ∧ c.toNat ≠ 45 := by have := isDg_t h; omega
theorem numL_itoa {n : Int} (h : (Go.Lib.trimPrefix (Go.Lib.itoa n) [45]).length ≤ 6) : numL (Go.Lib.itoa n) = (n, true) ∧ Go.Lib.parseIntB 64 (Go.Lib.itoa n) = .ok n := by
  by_cases hn : n < 0
  · obtain ⟨u, hu1, rfl⟩ : ∃ u : Nat, 1 ≤ u ∧ n = -(u : Int) := ⟨n.natAbs, by omega, by omega⟩
    rw [Go.Lib.itoa_neg u hu1] at h ⊢
    obtain ⟨⟨h1, h2, h3⟩, h4⟩ := dec_canon u
    have hh : (Go.Lib.decDigits u).getD 0 0 ≠ 48 := fun e => by have := dec_head e; omega
    have ht : Go.Lib.trimPrefix (45 :: Go.Lib.decDigits u) [45] = Go.Lib.decDigits u := by simp [Go.Lib.trimPrefix, Go.Lib.hasPrefix]
    rw [ht] at h
    have hd : digL (45 :: Go.Lib.decDigits u) = Go.Lib.decDigits u := by
      revert h1; cases Go.Lib.decDigits u with | nil => intro h1; simp at h1 | cons x r => intro _; rfl
    have hsz := dvl_six h2 h
    constructor
    · unfold numL
      rw [hd, if_neg (fun hb => by unfold badL at hb; rcases hb with hb | hb | hb <;> first | omega | exact hh hb.1), if_pos h2, if_pos (by simp), h4]
    · rw [Go.Lib.parseIntB_minus, pub h1 h2 h, h4]
      rw [h4] at hsz
      simp [Go.Lib.signedC]; omega
  · obtain ⟨u, rfl⟩ : ∃ u : Nat, n = (u : Int) := ⟨n.toNat, by omega⟩
    rw [Go.Lib.itoa_nonneg] at h ⊢
    obtain ⟨⟨h1, h2, h3⟩, h4⟩ := dec_canon u
    generalize hD : Go.Lib.decDigits u = D at *
    match D, h1, h2, h3, h4, h with
    | c :: r, h1, h2, h3, h4, h =>
      have hc : isDg c = true := by simp only [List.all_cons, Bool.and_eq_true] at h2; exact h2.1
      have hne : c ≠ 45 := fun e => (dg_ne hc).2 (by rw [e]; rfl)
      have ht : Go.Lib.trimPrefix (c :: r) [45] = c :: r := by simp [Go.Lib.trimPrefix, Go.Lib.hasPrefix, Ne.symm hne]
      rw [ht] at h
      have hd : digL (c :: r) = c :: r := by cases r with | nil => rfl | cons x r => simp [digL, hne]
      have hsz := dvl_six h2 h
      constructor
      · unfold numL
        rw [hd, if_neg (fun hb => by unfold badL at hb; rcases hb with hb | hb | hb <;> first | omega | (have := h3 hb.1; omega)), if_pos h2, if_neg (by omega), h4]
      · rw [Go.Lib.parseIntB_plain 64 c r (dg_ne hc).1 (dg_ne hc).2, pub h1 h2 h, h4]
        rw [h4] at hsz
        simp [Go.Lib.signlessC]; omega
theorem numL_true {l : List UInt8} (h : (numL l).2 = true) : l = Go.Lib.itoa (numL l).1 ∧ (Go.Lib.trimPrefix l [45]).length ≤ 6 := by
  unfold numL at h ⊢
  split at h
  · cases h
  · rename_i hb
    rw [if_neg hb]
    split at h
    · rename_i hall
      rw [if_pos hall]
      unfold badL at hb
      have h1 : 1 ≤ (digL l).length := by omega
      have h6 : (digL l).length ≤ 6 := by omega
      have hz : (digL l).getD 0 0 = 48 → ¬ 1 < (digL l).length ∧ ¬ 1 < l.length := fun e => ⟨fun z => hb (.inr (.inr ⟨e, .inl z⟩)), fun z => hb (.inr (.inr ⟨e, .inr z⟩))⟩
      have hcan : Canon (digL l) := ⟨h1, hall, fun e => by have := (hz e).1; omega⟩
      have hdec := dec_dvl _ _ rfl hcan
      by_cases hneg : (digL l).length < l.length
      · rw [if_pos hneg]
        match l, hneg with
        | c :: d :: r, hneg =>
          by_cases hc : c = 45
          · subst hc
            have hdl : digL (45 :: d :: r) = d :: r := rfl
            rw [hdl] at h1 h6 hz hcan hdec hall
            have h0 : (d :: r).getD 0 0 ≠ 48 := fun e => (hz e).2 (by simp)
            have hp := dvl_pos _ _ rfl hcan h0
            rw [hdl, Go.Lib.itoa_neg _ hp, hdec]
            exact ⟨rfl, by simpa [Go.Lib.trimPrefix, Go.Lib.hasPrefix] using h6⟩
          · exfalso
            have : digL (c :: d :: r) = c :: d :: r := by simp [digL, hc]
            rw [this] at hneg; omega
        | [c], hneg => simp [digL] at hneg
        | [], hneg => simp [digL] at hneg
      · rw [if_neg hneg, Go.Lib.itoa_nonneg, hdec]
        have hdl : digL l = l := by
          match l, hneg with
          | c :: d :: r, hneg =>
            by_cases hc : c = 45
            · subst hc; exfalso; exact hneg (by simp [digL])
            · simp [digL, hc]
          | [c], _ => rfl
          | [], _ => rfl
        rw [hdl] at h1 h6 hall
        refine ⟨by rw [hdl], ?_⟩
        clear hb hz hcan hdec hneg h hdl
        match l, h1, hall, h6 with
        | c :: r, _, hall, h6 =>
          have hcd : isDg c = true := by simp only [List.all_cons, Bool.and_eq_true] at hall; exact hall.1
          have hne : c ≠ 45 := fun e => (dg_ne hcd).2 (by rw [e]; rfl)
          simpa [Go.Lib.trimPrefix, Go.Lib.hasPrefix, Ne.symm hne] using h6
    · cases h
theorem num_same (l : List UInt8) : (numI l).2 = (numL l).2 ∧ ((numL l).2 = true → (numI l).1 = (numL l).1) := by
  by_cases h : (numL l).2 = true
  · obtain ⟨h1, h2⟩ := numL_true h
    generalize hn : (numL l).1 = n at *
    subst h1
    obtain ⟨h3, h4⟩ := numL_itoa h2
    have hv : piV (Go.Lib.itoa n) = n := by unfold piV; rw [h4]
    have ho : piOk (Go.Lib.itoa n) = true := by unfold piOk; rw [h4]
    unfold numI
    rw [if_neg (by omega), h, hv, ho]
    simp
  · have hf : (numL l).2 = false := by simpa using h
    refine ⟨?_, fun z => absurd z h⟩
    rw [hf]
    unfold numI
    split
    · rfl
    · rename_i h6
      show (piOk l && decide (Go.Lib.itoa (piV l) = l)) = false
      cases ho : piOk l with
      | false => rfl
      | true =>
        rw [Bool.true_and]
        refine decide_eq_false fun e => h ?_
        have h7 : (Go.Lib.trimPrefix (Go.Lib.itoa (piV l)) [45]).length ≤ 6 := by rw [e]; omega
        have := (numL_itoa h7).1
        rw [e] at this
        rw [this]

/-! impl.decimal -/
set_option maxRecDepth 20000 in
set_option maxHeartbeats 2000000 in
theorem impl_decimal (w : World) (n : Int) (h0 : -9223372036854775808 ≤ n) (h1 : n ≤ 9223372036854775807) (ht : TabP w) : Calls Tryd.prog 38 #[.int .i64 n] w (fun e_ w2_ => e_ = .returned (.string (itoaB n)) ∧ Below w.heap.size w w2_) := by
  refine fnc (X := X 5 w) (args := [.int .i64 n]) (l := [(0, .int .i64 n)]) (G := []) Tryd.func38 rfl rfl rfl ⟨rfl, trivial⟩ (s0n w).1 ?_
  refine sq (rg (a_ rfl rfl (en (nx (sq (rg (m_ rfl rfl (cs_ (v := .string (itoaB n)) (by kernel_rfl) rfl rfl rfl (fun w_ hs_ => fmtInt w_ _ (by omega) (by omega) (ht.mono hs_.below)) (a_ rfl rfl (en (nx (rt (ret1 rfl rfl (fun w_ hs_ => ⟨?_, hs_.below⟩))))))))))))))
  rfl
structure TextsResult where
  code : Int
  words : List ByteArray
  deriving DecidableEq
def kTextsResultS : Kd TextsResult := ((Kd.i64.via TextsResult.code).cat ((Kd.sl Kd.str).via TextsResult.words))
theorem kTextsResultS_sh {w : World} {cs : List Value} {x : TextsResult} {o s : List Nat} (h : kTextsResultS.Rel w cs x o s) : ∃ (A1 : Option Addr) (c1 : Nat), cs = [.int .i64 x.code, .slice A1 x.words.length c1] := by
  obtain ⟨c10, c20, o10, o20, s10, s20, rfl, rfl, rfl, h0, k0⟩ := h
  obtain ⟨rfl, -, -⟩ := h0
  obtain ⟨-, A1_, c1_, rfl, -⟩ := k0
  exact ⟨_, _, rfl⟩
theorem kTextsResultS_p1_1 : Kd.Sub kTextsResultS 1 (Kd.sl Kd.str) (fun x => x.words) := (Kd.Sub.right (Kd.Sub.rfl.via TextsResult.words) _)
theorem kTextsResultS_self : Kd.Seals kTextsResultS kTextsResultS := (Kd.Seals.cat (Kd.Seals.via Kd.Seals.i64 _) (Kd.Seals.via Kd.Seals.refl_sl _))
theorem kTextsResultS_pure : Kd.Pure kTextsResultS := (Kd.Pure.cat (Kd.Pure.via Kd.Pure.i64 _) (Kd.Pure.via (Kd.Pure.sl _) _))
def kTextsResultO : Kd TextsResult := ((Kd.i64.via TextsResult.code).cat ((Kd.row 9 Kd.str).via TextsResult.words))
theorem kTextsResultO_sh {w : World} {cs : List Value} {x : TextsResult} {o s : List Nat} (h : kTextsResultO.Rel w cs x o s) : ∃ (A1 : Option Addr) (c1 : Nat), cs = [.int .i64 x.code, .slice A1 x.words.length c1] := by
  obtain ⟨c10, c20, o10, o20, s10, s20, rfl, rfl, rfl, h0, k0⟩ := h
  obtain ⟨rfl, -, -⟩ := h0
  obtain ⟨A1_, c1_, rfl⟩ := Kd.row_sh k0
  exact ⟨_, _, rfl⟩
theorem kTextsResultO_seal : Kd.Seals kTextsResultO kTextsResultS := (Kd.Seals.cat (Kd.Seals.via Kd.Seals.i64 _) (Kd.Seals.via (Kd.Seals.row Kd.Seals.str _) _))
theorem TextsResult_eq (a b : TextsResult) : decide (a = b) = (decide (a.code = b.code) && decide (a.words = b.words)) := by
  cases a; cases b; rw [Bool.eq_iff_iff]; simp [and_assoc]
/-! laws.eqStringS -/
set_option maxRecDepth 20000 in
set_option maxHeartbeats 2000000 in
theorem laws_eqStringS (w : World) {Aa : Option Addr} {ca : Nat} {a : List ByteArray} {sa_ : List Nat} (ha : (Kd.sl Kd.str).Rel w [.slice Aa a.length ca] a [] sa_) {Ab : Option Addr} {cb : Nat} {b : List ByteArray} {sb_ : List Nat} (hb : (Kd.sl Kd.str).Rel w [.slice Ab b.length cb] b [] sb_)  : Calls Tryd.prog 29 #[.slice Aa a.length ca, .slice Ab b.length cb] w (fun e_ w2_ => e_ = .returned (.bool (decide (a = b))) ∧ Below w.heap.size w w2_) := by
  have La := Kd.sl_len ha; have Ca := Kd.sl_cap ha
  have Lb := Kd.sl_len hb; have Cb := Kd.sl_cap hb
  refine fnc (X := X 26 w) (args := [.slice Aa a.length ca, .slice Ab b.length cb]) (l := [(0, .slice Aa a.length ca), (1, .slice Ab b.length cb)]) (G := [dat (Kd.sl Kd.str) [.slice Ab b.length cb] b ([]) sb_, dat (Kd.sl Kd.str) [.slice Aa a.length ca] a ([]) sa_]) Tryd.func29 rfl rfl rfl ⟨rfl, rfl, trivial⟩ (s0d hb (s0d ha (s0n w))).1 ?_
  refine sq (rg (a_ rfl rfl (en (nx (sq (sq (rg (m_ rfl rfl (vl (ln rfl rfl rfl) rfl (m_ rfl rfl (vl (ln rfl rfl rfl) rfl (vl (cm rfl rfl rfl rfl) rfl (en (nx ?_))))))))))))))
  by_cases h1 : ((a.length : Nat) : Int) = ((b.length : Nat) : Int)
  · refine cf rfl (bne_eq_false_iff_eq.2 h1) (sk (nx (sq (sq (rg (a_ rfl rfl (en (nx (bk ?_)))))))))
    refine lp (σ := Nat) (fun k : Nat => [(0, .slice Aa a.length ca), (1, .slice Ab b.length cb), (5, .int .i64 ((k : Nat) : Int))])
        (fun k : Nat => [dat (Kd.sl Kd.str) [.slice Ab b.length cb] b ([]) sb_, dat (Kd.sl Kd.str) [.slice Aa a.length ca] a ([]) sa_])
        (fun k : Nat => k ≤ a.length ∧ ∀ j x y, j < k → a[j]? = some x → b[j]? = some y → x = y) (fun k : Nat => a.length - k) 0 [0, 0] ⟨Nat.zero_le _, by simp⟩ ⟨rfl, rfl, rfl, trivial⟩ rfl ?_
    intro k hp_
    obtain ⟨hk, hinv⟩ := hp_
    refine sq (sq (rg (m_ rfl rfl (m_ rfl rfl (vl (ln rfl rfl rfl) rfl (vl (cm rfl rfl rfl rfl) rfl (en (nx ?_))))))))
    by_cases h2 : ((k : Nat) : Int) < ((a.length : Nat) : Int)
    · refine ct rfl (decide_eq_true h2) (sk (nx (sq (bk (sq ?_)))))
      refine gx 1 k rfl (by omega) fun y8 p3 cs_ s4 w7 m9 e5 r6 us4 => ?_
      obtain ⟨rfl, -, -⟩ := r6
      refine gx 1 k rfl (by omega) fun y15 p10 cs_ s11 w14 m16 e12 r13 us11 => ?_
      obtain ⟨rfl, -, -⟩ := r13
      refine r0 (qv 0 rfl (mv rfl rfl) rfl (by kernel_rfl) (qv 1 rfl (mv rfl rfl) rfl (by kernel_rfl) (qv 2 rfl (ix k e5 rfl rfl rfl rfl rfl (by omega)) rfl (by kernel_rfl) (qv 3 rfl (ldq (u := .string y8) 1 rfl rfl rfl rfl rfl rfl rfl) rfl (by kernel_rfl) (qv 4 rfl (mv rfl rfl) rfl (by kernel_rfl) (qv 5 rfl (mv rfl rfl) rfl (by kernel_rfl) (qv 6 rfl (ix k e12 rfl rfl rfl rfl rfl (by omega)) rfl (by kernel_rfl) (qv 7 rfl (ldq (u := .string y15) 0 rfl rfl rfl rfl rfl rfl rfl) rfl (by kernel_rfl) (qv 8 rfl (sqn rfl rfl rfl) rfl (by kernel_rfl) (qe [0, 0, 0, 0] (by kernel_rfl) rfl (nx ?_)))))))))))
      by_cases h17 : decide (y8 = y15) = true
      · exact cf rfl (not_f h17) (sk (xn (nx (rg (m_ rfl rfl (vl (ra (c := ((k + 1 : Nat) : Int)) rfl rfl rfl (by omega) (by omega) (by omega)) rfl (a_ rfl rfl (en (lpe (s := k) (k + 1) [2, 2] ⟨by omega, eq_step hinv m9 m16 (by simpa using h17)⟩ (by omega) ⟨rfl, rfl, rfl, trivial⟩ rfl)))))))))
      · refine ct rfl (not_t (Bool.eq_false_iff.2 h17)) (sq (rg (a_ rfl rfl (en (nx (rt (xrb (xr (xr (xrb (xr (ret1 rfl rfl (fun w_ hs_ => ⟨?_, hs_.below⟩)))))))))))))
        exact rb (eqS_f m9 m16 (by simpa using h17)).symm
    · refine cf rfl (decide_eq_false h2) (xt (xq (xq (xb (nx (sq (rg (a_ rfl rfl (en (nx (rt (ret1 rfl rfl (fun w_ hs_ => ⟨?_, hs_.below⟩)))))))))))))
      exact rb (eqS_t (by omega) hinv (by omega)).symm
  · refine ct rfl (bne_iff_ne.2 h1) (sq (rg (a_ rfl rfl (en (nx (rt (xr (ret1 rfl rfl (fun w_ hs_ => ⟨?_, hs_.below⟩)))))))))
    exact rb (by rw [eq_comm, decide_eq_false_iff_not]; rintro rfl; exact h1 rfl)
/-! laws.eqTextsResult -/
set_option maxRecDepth 20000 in
set_option maxHeartbeats 2000000 in
theorem laws_eqTextsResult (w : World) {Aa1 : Option Addr} {ca1 : Nat} {a : TextsResult} {sa_ : List Nat} (ha : kTextsResultS.Rel w [.int .i64 a.code, .slice Aa1 a.words.length ca1] a [] sa_) {Ab1 : Option Addr} {cb1 : Nat} {b : TextsResult} {sb_ : List Nat} (hb : kTextsResultS.Rel w [.int .i64 b.code, .slice Ab1 b.words.length cb1] b [] sb_)  : Calls Tryd.prog 9 #[.agg #[.int .i64 a.code, .slice Aa1 a.words.length ca1], .agg #[.int .i64 b.code, .slice Ab1 b.words.length cb1]] w (fun e_ w2_ => e_ = .returned (.bool (decide (a = b))) ∧ Below w.heap.size w w2_) := by
  refine fnc (X := X 16 w) (args := [.agg #[.int .i64 a.code, .slice Aa1 a.words.length ca1], .agg #[.int .i64 b.code, .slice Ab1 b.words.length cb1]]) (l := [(0, .agg #[.int .i64 a.code, .slice Aa1 a.words.length ca1]), (1, .agg #[.int .i64 b.code, .slice Ab1 b.words.length cb1])]) (G := [dat kTextsResultS [.int .i64 b.code, .slice Ab1 b.words.length cb1] b ([]) sb_, dat kTextsResultS [.int .i64 a.code, .slice Aa1 a.words.length ca1] a ([]) sa_]) Tryd.func9 rfl rfl rfl ⟨rfl, rfl, trivial⟩ (s0d hb (s0d ha (s0n w))).1 ?_
  refine sq (rg (bx rfl rfl rfl rfl ?_))
  intro b1
  refine bx rfl rfl rfl rfl ?_
  intro b2
  refine a_ rfl rfl (en (nx (sq (sq (rg (vl (fa rfl rfl rfl) rfl (vl (ldb (u := .int .i64 a.code) 1 rfl rfl rfl rfl rfl rfl rfl) rfl (vl (fa rfl rfl rfl) rfl (vl (ldb (u := .int .i64 b.code) 0 rfl rfl rfl rfl rfl rfl rfl) rfl (vl (cm rfl rfl rfl rfl) rfl (en (nx ?_))))))))))))
  by_cases h3 : a.code = b.code
  · refine cf rfl (bne_eq_false_iff_eq.2 h3) (sk (nx (sq (sq (rg (vl (fa rfl rfl rfl) rfl (vl (ldb (u := .slice Aa1 a.words.length ca1) 1 rfl rfl rfl rfl rfl rfl rfl) rfl (vl (fa rfl rfl rfl) rfl (vl (ldb (u := .slice Ab1 b.words.length cb1) 0 rfl rfl rfl rfl rfl rfl rfl) rfl ?_)))))))))
    refine gd 3 kTextsResultS_p1_1 rfl (cs' := [.slice Aa1 a.words.length ca1]) rfl fun s4 w_ rs4 us4 => ?_
    have Ls4 := Kd.sl_len rs4; have Cs4 := Kd.sl_cap rs4
    refine gd 3 kTextsResultS_p1_1 rfl (cs' := [.slice Ab1 b.words.length cb1]) rfl fun s5 w_ rs5 us5 => ?_
    have Ls5 := Kd.sl_len rs5; have Cs5 := Kd.sl_cap rs5
    refine cs_ (v := .bool (decide (a.words = b.words))) (by kernel_rfl) rfl rfl rfl (fun w_ hs_ => laws_eqStringS w_ (hs_.at 1 rfl) (hs_.at 0 rfl)) (vl (nt rfl rfl) rfl (en (nx ?_)))
    by_cases h6 : decide (a.words = b.words) = true
    · refine cf rfl (not_f h6) (sk (nx (sq (rg (a_ rfl rfl (en (nx (rt (ret1 rfl rfl (fun w_ hs_ => ⟨?_, hs_.below⟩))))))))))
      rw [TextsResult_eq]; simp [h3, h6]
    · refine ct rfl (not_t (Bool.eq_false_iff.2 h6)) (sq (rg (a_ rfl rfl (en (nx (rt (xr (ret1 rfl rfl (fun w_ hs_ => ⟨?_, hs_.below⟩)))))))))
      rw [TextsResult_eq]; simp [h3, h6]
  · refine ct rfl (bne_iff_ne.2 h3) (sq (rg (a_ rfl rfl (en (nx (rt (xr (ret1 rfl rfl (fun w_ hs_ => ⟨?_, hs_.below⟩)))))))))
    rw [TextsResult_eq]; simp [h3]
section
open Go.Shelf
set_option maxRecDepth 100000
def renSplit : Go.Shelf.Ren := ⟨fun | 138 => 78 | 143 => 79 | 146 => 51 | 195 => 95 | 197 => 96 | 217 => 113 | 218 => 97 | 219 => 98 | 221 => 66 | 224 => 115 | 225 => 114 | 260 => 112 | 266 => 120 | 267 => 116 | 268 => 77 | 314 => 121 | n => n, fun | 0 => 0 | 3 => 3 | 4 => 4 | 5 => 5 | 9 => 9 | 21 => 21 | 31 => 22 | 46 => 122 | 51 => 134 | 105 => 127 | 119 => 150 | 138 => 152 | 139 => 153 | 146 => 154 | n => n, fun | 1 => 3 | 3 => 4 | 4 => 5 | n => n⟩
theorem laidSplit : LaysM.n146 Tryd.prog renSplit := {
  mixed := by kernel_rfl
  f138 := Tryd.func78.trans (congrArg some (by kernel_rfl))
  f143 := Tryd.func79.trans (congrArg some (by kernel_rfl))
  f146 := Tryd.func51.trans (congrArg some (by kernel_rfl))
  f195 := Tryd.func95.trans (congrArg some (by kernel_rfl))
  f197 := Tryd.func96.trans (congrArg some (by kernel_rfl))
  f217 := Tryd.func113.trans (congrArg some (by kernel_rfl))
  f218 := Tryd.func97.trans (congrArg some (by kernel_rfl))
  f219 := Tryd.func98.trans (congrArg some (by kernel_rfl))
  f221 := Tryd.func66.trans (congrArg some (by kernel_rfl))
  f224 := Tryd.func115.trans (congrArg some (by kernel_rfl))
  f225 := Tryd.func114.trans (congrArg some (by kernel_rfl))
  f260 := Tryd.func112.trans (congrArg some (by kernel_rfl))
  f266 := Tryd.func120.trans (congrArg some (by kernel_rfl))
  f267 := Tryd.func116.trans (congrArg some (by kernel_rfl))
  f268 := Tryd.func77.trans (congrArg some (by kernel_rfl))
  f314 := Tryd.func121.trans (congrArg some (by kernel_rfl))
  t0 := Tryd.underlying0
  a0 := Tryd.isAgg0
  z0 := Tryd.sizeOf0
  v0 := Tryd.zeroValue0
  t3 := Tryd.underlying3
  a3 := Tryd.isAgg3
  z3 := Tryd.sizeOf3
  v3 := Tryd.zeroValue3
  t4 := Tryd.underlying4
  a4 := Tryd.isAgg4
  z4 := Tryd.sizeOf4
  v4 := Tryd.zeroValue4
  t5 := Tryd.underlying5
  a5 := Tryd.isAgg5
  z5 := Tryd.sizeOf5
  v5 := Tryd.zeroValue5
  t9 := Tryd.underlying9
  a9 := Tryd.isAgg9
  z9 := Tryd.sizeOf9
  v9 := Tryd.zeroValue9
  t21 := Tryd.underlying21
  a21 := Tryd.isAgg21
  z21 := Tryd.sizeOf21
  v21 := Tryd.zeroValue21
  t31 := Tryd.underlying22
  a31 := Tryd.isAgg22
  z31 := Tryd.sizeOf22
  v31 := Tryd.zeroValue22
  t46 := Tryd.underlying122
  a46 := Tryd.isAgg122
  z46 := Tryd.sizeOf122
  v46 := Tryd.zeroValue122
  t51 := Tryd.underlying134
  a51 := Tryd.isAgg134
  z51 := Tryd.sizeOf134
  v51 := Tryd.zeroValue134
  t105 := Tryd.underlying127
  a105 := Tryd.isAgg127
  z105 := Tryd.sizeOf127
  v105 := Tryd.zeroValue127
  t119 := Tryd.underlying150
  a119 := Tryd.isAgg150
  z119 := Tryd.sizeOf150
  t138 := Tryd.underlying152
  a138 := Tryd.isAgg152
  z138 := Tryd.sizeOf152
  v138 := Tryd.zeroValue152
  t139 := Tryd.underlying153
  a139 := Tryd.isAgg153
  z139 := Tryd.sizeOf153
  v139 := Tryd.zeroValue153
  t146 := Tryd.underlying154
  a146 := Tryd.isAgg154
  z146 := Tryd.sizeOf154
  v146 := Tryd.zeroValue154
  g1 := by kernel_rfl
  g3 := by kernel_rfl
  g4 := by kernel_rfl
  i0 := by kernel_rfl
  i3 := by kernel_rfl
  i4 := by kernel_rfl
  i5 := by kernel_rfl
  i9 := by kernel_rfl
  i21 := by kernel_rfl
  i31 := by kernel_rfl
  i46 := by kernel_rfl
  i51 := by kernel_rfl
  i105 := by kernel_rfl
  i138 := by kernel_rfl
  i139 := by kernel_rfl
  i146 := by kernel_rfl
  m1 := by kernel_rfl
  s1_3 := fun w h => Go.Proofs.cell_of_shapedOpen_int (zero := #[.int .i64 0]) (t := 3) h (of_decide_eq_true (by kernel_rfl)) (by kernel_rfl) rfl (by kernel_rfl) (by kernel_rfl) Tryd.underlying3
  m3 := by kernel_rfl
  m4 := by kernel_rfl }
end
theorem rstr {a b : ByteArray} (h : a = b) : Ending.returned (.string a) = .returned (.string b) := by rw [h]
theorem lit_le {a : ByteArray} {n : Nat} (h : Nat.ble a.size n = true) : a.size ≤ n := Nat.le_of_ble_eq_true h
theorem app_le {a b : ByteArray} {n m : Nat} (ha : a.size ≤ n) (hb : b.size ≤ m) : (a ++ b).size ≤ n + m := by rw [app_size]; omega
theorem sum_le2 {a b : ByteArray} {n m : Nat} (ha : a.size ≤ n) (hb : b.size ≤ m) (h : Nat.ble (n + m) 9223372036854775807 = true) : a.size + b.size ≤ 9223372036854775807 := by
  have := Nat.le_of_ble_eq_true h; omega
def decB (n : Int) : ByteArray := ⟨(Go.Lib.decDigits n.toNat).toArray⟩
theorem decB_list (n : Int) : (decB n).data.toList = Go.Lib.decDigits n.toNat := rfl
theorem itoaB_list (n : Int) : (itoaB n).data.toList = Go.Lib.itoa n := rfl
theorem chr_list (z : Int) : (chr z).data.toList = [UInt8.ofNat z.toNat] := rfl
theorem decB_lo {n : Int} (h0 : 0 ≤ n) (h : n < (10 : Int)) : chr (48 + n) = decB n := by
  apply bs_ext
  rw [chr_list, decB_list, Go.Lib.decDigits, dif_pos (by omega), show (48 + n).toNat = 48 + n.toNat by omega]
theorem decB_hi {n : Int} (h0 : 0 ≤ n) (h : ¬ n < (10 : Int)) : decB (n / 10) ++ chr (48 + n % 10) = decB n := by
  apply bs_ext
  rw [app_list, chr_list, decB_list, decB_list, Go.Lib.decDigits.eq_def n.toNat, dif_neg (by omega)]
  have e1 : (n / 10).toNat = n.toNat / 10 := by omega
  have e2 : (48 + n % 10).toNat = 48 + n.toNat % 10 := by omega
  rw [e1, e2]
theorem dec_len (u : Nat) : (Go.Lib.decDigits u).length ≤ u + 1 := by
  induction u using Nat.strongRecOn with
  | _ u ih =>
    rw [Go.Lib.decDigits]
    split
    · simp
    · have := ih (u / 10) (by omega)
      rw [List.length_append, List.length_singleton]; omega
theorem decB_size (n : Int) : (decB n).size ≤ n.toNat + 1 := by rw [← bs_len, decB_list]; exact dec_len _

/-! ### words of a line: cut at blanks, what is empty left out -/
def spl : List UInt8 → List UInt8 × List (List UInt8)
  | [] => ([], [])
  | c :: r => if c = 32 then ([], (spl r).1 :: (spl r).2) else (c :: (spl r).1, (spl r).2)
def splL (l : List UInt8) : List (List UInt8) := (spl l).1 :: (spl l).2
theorem index32_eq (r : List UInt8) : Go.Lib.index (32 :: r) [32] = 0 := by simp [Go.Lib.index]
theorem index32_ne {c : UInt8} (h : c ≠ 32) (r : List UInt8) : Go.Lib.index (c :: r) [32] = if Go.Lib.index r [32] = -1 then -1 else Go.Lib.index r [32] + 1 := by
  have hb : (List.isPrefixOf [32] (c :: r)) = false := by simp [List.isPrefixOf, Ne.symm h]
  rw [Go.Lib.index]
  simp [hb, Ne.symm h]
theorem index32_ge : ∀ (l : List UInt8), -1 ≤ Go.Lib.index l [32]
  | [] => by simp [Go.Lib.index]
  | c :: r => by
    by_cases h : c = 32
    · subst h; rw [index32_eq]; omega
    · rw [index32_ne h]; have := index32_ge r; split <;> omega
theorem count32 (l : List UInt8) : Go.Lib.count l [32] = l.count 32 := Go.Lib.count_one 32 l
theorem index32_no : ∀ {l : List UInt8}, l.count 32 = 0 → Go.Lib.index l [32] = -1 ∧ splL l = [l]
  | [], _ => ⟨by simp [Go.Lib.index], rfl⟩
  | c :: r, h => by
    by_cases hc : c = 32
    · subst hc; simp at h
    · rw [List.count_cons_of_ne (by simpa using hc)] at h
      obtain ⟨h1, h2⟩ := index32_no h
      refine ⟨by rw [index32_ne hc, if_pos h1], ?_⟩
      unfold splL at *
      simp only [List.cons.injEq] at h2
      simp [spl, hc, h2.1, h2.2]
theorem splK_ne {c : UInt8} (hc : c ≠ 32) : ∀ (k : Nat) (r : List UInt8), ∃ p ps, Go.Lib.splitK [32] 0 k r = p :: ps ∧ Go.Lib.splitK [32] 0 k (c :: r) = (c :: p) :: ps
  | 0, r => ⟨r, [], rfl, rfl⟩
  | k + 1, r => by
    unfold Go.Lib.splitK
    rw [index32_ne hc]
    have hg := index32_ge r
    by_cases h : Go.Lib.index r [32] = -1
    · rw [h]; exact ⟨r, [], rfl, rfl⟩
    · obtain ⟨i, hi⟩ : ∃ i : Nat, Go.Lib.index r [32] = (i : Int) := ⟨(Go.Lib.index r [32]).toNat, by omega⟩
      rw [if_neg h, hi]
      have e1 : ¬ ((i : Int) == -1) = true := by rw [beq_iff_eq]; omega
      have e2 : ¬ ((i : Int) + 1 == -1) = true := by rw [beq_iff_eq]; omega
      rw [if_neg e1, if_neg e2]
      have e3 : ((i : Int) + 1).toNat = i + 1 := by omega
      rw [e3]
      exact ⟨_, _, rfl, rfl⟩
theorem split_spl : ∀ (l : List UInt8), Go.Lib.splitK [32] 0 (l.count 32) l = splL l
  | [] => rfl
  | c :: r => by
    by_cases hc : c = 32
    · subst hc
      have ih := split_spl r
      rw [List.count_cons_self]
      unfold Go.Lib.splitK
      rw [index32_eq]
      show ([] : List UInt8) :: Go.Lib.splitK [32] 0 (r.count 32) r = _
      rw [ih]; rfl
    · have ih := split_spl r
      rw [List.count_cons_of_ne (by simpa using hc)]
      obtain ⟨p, ps, h1, h2⟩ := splK_ne hc (r.count 32) r
      rw [h2]
      rw [ih] at h1
      unfold splL at h1 ⊢
      simp only [List.cons.injEq] at h1
      simp [spl, hc, h1.1, h1.2]
theorem spl_snoc_eq : ∀ (a : List UInt8) {O : List (List UInt8)} {P : List UInt8}, splL a = O ++ [P] → splL (a ++ [32]) = O ++ [P] ++ [[]]
  | [], O, P, h => by
    have h0 : [([] : List UInt8)] = O ++ [P] := h
    rw [← h0]; rfl
  | b :: r, O, P, h => by
    have hs : splL (b :: r ++ [32]) = if b = 32 then [] :: splL (r ++ [32]) else (b :: (spl (r ++ [32])).1) :: (spl (r ++ [32])).2 := by
      show splL (b :: (r ++ [32])) = _
      unfold splL; by_cases hb : b = 32 <;> simp [spl, hb]
    have h0 : splL (b :: r) = if b = 32 then [] :: splL r else (b :: (spl r).1) :: (spl r).2 := by unfold splL; by_cases hb : b = 32 <;> simp [spl, hb]
    rw [h0] at h
    by_cases hb : b = 32
    · rw [if_pos hb] at h hs
      cases O with
      | nil => simp [splL] at h
      | cons q O =>
        simp only [List.cons_append, List.cons.injEq] at h
        rw [hs, spl_snoc_eq r h.2]
        simp [← h.1]
    · rw [if_neg hb] at h hs
      cases O with
      | nil =>
        simp only [List.nil_append, List.cons.injEq] at h
        have hr : splL r = ([] : List (List UInt8)) ++ [(spl r).1] := by unfold splL; rw [h.2]; rfl
        have h3 := spl_snoc_eq r hr
        unfold splL at h3
        simp only [List.nil_append, List.singleton_append, List.cons.injEq] at h3
        rw [hs, h3.1, h3.2, ← h.1]; rfl
      | cons q O =>
        simp only [List.cons_append, List.cons.injEq] at h
        have hr : splL r = ((spl r).1 :: O) ++ [P] := by unfold splL; rw [h.2]; rfl
        have h3 := spl_snoc_eq r hr
        unfold splL at h3
        simp only [List.cons_append, List.cons.injEq] at h3
        rw [hs, h3.1, h3.2, ← h.1]; rfl
theorem spl_snoc_ne {c : UInt8} (hc : c ≠ 32) : ∀ (a : List UInt8) {O : List (List UInt8)} {P : List UInt8}, splL a = O ++ [P] → splL (a ++ [c]) = O ++ [P ++ [c]]
  | [], O, P, h => by
    have h0 : [([] : List UInt8)] = O ++ [P] := h
    cases O with
    | nil => simp at h0; subst h0; simp [splL, spl, hc]
    | cons q O => simp at h0
  | b :: r, O, P, h => by
    have hs : splL (b :: r ++ [c]) = if b = 32 then [] :: splL (r ++ [c]) else (b :: (spl (r ++ [c])).1) :: (spl (r ++ [c])).2 := by
      show splL (b :: (r ++ [c])) = _
      unfold splL; by_cases hb : b = 32 <;> simp [spl, hb]
    have h0 : splL (b :: r) = if b = 32 then [] :: splL r else (b :: (spl r).1) :: (spl r).2 := by unfold splL; by_cases hb : b = 32 <;> simp [spl, hb]
    rw [h0] at h
    by_cases hb : b = 32
    · rw [if_pos hb] at h hs
      cases O with
      | nil => simp [splL] at h
      | cons q O =>
        simp only [List.cons_append, List.cons.injEq] at h
        rw [hs, spl_snoc_ne hc r h.2]
        simp [← h.1]
    · rw [if_neg hb] at h hs
      cases O with
      | nil =>
        simp only [List.nil_append, List.cons.injEq] at h
        have hr : splL r = ([] : List (List UInt8)) ++ [(spl r).1] := by unfold splL; rw [h.2]; rfl
        have h3 := spl_snoc_ne hc r hr
        unfold splL at h3
        simp only [List.nil_append, List.cons.injEq] at h3
        rw [hs, h3.1, h3.2, ← h.1]; rfl
      | cons q O =>
        simp only [List.cons_append, List.cons.injEq] at h
        have hr : splL r = ((spl r).1 :: O) ++ [P] := by unfold splL; rw [h.2]; rfl
        have h3 := spl_snoc_ne hc r hr
        unfold splL at h3
        simp only [List.cons_append, List.cons.injEq] at h3
        rw [hs, h3.1, h3.2, ← h.1]; rfl
abbrev spB : ByteArray := ⟨#[32]⟩
def cutB (s : ByteArray) : List ByteArray := Go.Lib.splitB spB 0 (Go.Lib.countB s spB) s
theorem cutB_list (s : ByteArray) : (cutB s).map (·.data.toList) = splL s.data.toList := by
  unfold cutB
  rw [Go.Lib.splitB_data]
  show Go.Lib.splitK [32] 0 (Go.Lib.count s.data.toList [32]) s.data.toList = _
  rw [count32, split_spl]
/-- The reference's cut, up to a place: the pieces, and where the next one begins. -/
def cutTo (s : ByteArray) (c : Int) : Nat → List ByteArray × Nat
  | 0 => ([], 0)
  | k + 1 => if k = s.size ∨ byt s k = c then ((cutTo s c k).1 ++ [s.extract (cutTo s c k).2 k], k + 1) else cutTo s c k
theorem cutTo_y {s : ByteArray} {c : Int} {k : Nat} (h : k = s.size ∨ byt s k = c) : cutTo s c (k + 1) = ((cutTo s c k).1 ++ [s.extract (cutTo s c k).2 k], k + 1) := by rw [cutTo, if_pos h]
theorem cutTo_n {s : ByteArray} {c : Int} {k : Nat} (h : ¬ (k = s.size ∨ byt s k = c)) : cutTo s c (k + 1) = cutTo s c k := by rw [cutTo, if_neg h]
theorem cutTo_le (s : ByteArray) (c : Int) : ∀ k, (cutTo s c k).2 ≤ k ∧ (cutTo s c k).1.length ≤ k
  | 0 => ⟨Nat.le_refl _, Nat.le_refl _⟩
  | k + 1 => by
    have ih := cutTo_le s c k
    unfold cutTo; split
    · simp; omega
    · omega
theorem byt32 (s : ByteArray) (i : Nat) : byt s i = (32 : Int) ↔ s.data.toList.getD i 0 = 32 := by
  unfold byt
  constructor
  · intro h; apply UInt8.toNat.inj; have : ((32 : UInt8).toNat : Int) = 32 := rfl; omega
  · intro h; rw [h]; rfl
theorem cutTo_spl (s : ByteArray) : ∀ k, k ≤ s.size → splL (s.data.toList.take k) = (cutTo s 32 k).1.map (·.data.toList) ++ [(s.data.toList.take k).drop (cutTo s 32 k).2]
  | 0, _ => rfl
  | k + 1, hk => by
    have ih := cutTo_spl s k (by omega)
    have hk' : k < s.data.toList.length := by rw [bs_len]; omega
    have e : s.data.toList.getD k 0 = s.data.toList[k] := by simp [List.getD_eq_getElem?_getD, List.getElem?_eq_getElem hk']
    have ht : s.data.toList.take (k + 1) = s.data.toList.take k ++ [s.data.toList[k]] := by rw [List.take_add_one, List.getElem?_eq_getElem hk']; rfl
    have hle := (cutTo_le s 32 k).1
    by_cases h : byt s k = (32 : Int)
    · rw [cutTo_y (.inr h)]
      have h32 := (byt32 s k).1 h
      rw [e] at h32
      rw [ht, h32, spl_snoc_eq _ ih, List.map_append, List.map_cons, List.map_nil, ex_list]
      have e1 : (s.data.toList.take k ++ [32]).drop (k + 1) = ([] : List UInt8) := List.drop_eq_nil_of_le (by simp; omega)
      have e2 : (s.data.toList.drop (cutTo s 32 k).2).take (k - (cutTo s 32 k).2) = (s.data.toList.take k).drop (cutTo s 32 k).2 := by rw [List.drop_take]
      rw [e2]
      show _ = _ ++ [_] ++ [(s.data.toList.take k ++ [32]).drop (k + 1)]
      rw [e1]
    · have hn : ¬ (k = s.size ∨ byt s k = (32 : Int)) := by rintro (h1 | h1); omega; exact h h1
      rw [cutTo_n hn]
      have h32 : s.data.toList[k] ≠ 32 := fun he => h ((byt32 s k).2 (e.trans he))
      rw [ht, spl_snoc_ne h32 _ ih, List.drop_append_of_le_length (by rw [List.length_take]; omega)]
theorem map_data_inj {a b : List ByteArray} (h : a.map (·.data.toList) = b.map (·.data.toList)) : a = b := by
  induction a generalizing b with
  | nil => cases b with | nil => rfl | cons y b => cases h
  | cons x a ih =>
    cases b with
    | nil => cases h
    | cons y b =>
      simp only [List.map_cons, List.cons.injEq] at h
      rw [bs_ext h.1, ih h.2]
theorem cut_same (s : ByteArray) : (cutTo s 32 (s.size + 1)).1 = cutB s := by
  apply map_data_inj
  rw [cutB_list, cutTo_y (.inl rfl)]
  have h := cutTo_spl s s.size (Nat.le_refl _)
  have e : s.data.toList.take s.size = s.data.toList := List.take_of_length_le (by rw [bs_len]; exact Nat.le_refl _)
  rw [e] at h
  rw [h, List.map_append, List.map_cons, List.map_nil, ex_list]
  have e2 : (s.data.toList.drop (cutTo s 32 s.size).2).take (s.size - (cutTo s 32 s.size).2) = s.data.toList.drop (cutTo s 32 s.size).2 := List.take_of_length_le (by rw [List.length_drop, bs_len]; exact Nat.le_refl _)
  rw [e2]
theorem cutB_len (s : ByteArray) : (cutB s).length ≤ s.size + 1 := by rw [← cut_same]; exact (cutTo_le s 32 _).2
def wordsL (s : ByteArray) : List ByteArray := (cutB s).filter (fun x => !decide (x = ByteArray.empty))
theorem wordsL_len (s : ByteArray) : (wordsL s).length ≤ s.size + 1 := Nat.le_trans (List.length_filter_le _ _) (cutB_len s)

/-! spec.l1Cut -/
set_option maxRecDepth 20000 in
set_option maxHeartbeats 2000000 in
theorem spec_l1Cut (w : World) (text : ByteArray) (at_ : Int) (hz : text.size ≤ 1000000) : Calls Tryd.prog 49 #[.string text, .int .u8 at_] w (Made (Kd.row 9 Kd.str) w ((cutTo text at_ (text.size + 1)).1) []) := by
  refine fnc (X := X 36 w) (args := [.string text, .int .u8 at_]) (l := [(0, .string text), (1, .int .u8 at_)]) (G := []) Tryd.func49 rfl rfl rfl ⟨rfl, rfl, trivial⟩ (s0n w).1 ?_
  refine sq (rg (a_ rfl rfl (en (nx (sq (rg (bs0 (dk := Kd.str) rfl info9 rfl rfl ?_)))))))
  intro b1
  refine a_ rfl rfl (en (nx (sq (rg (a_ rfl rfl (en (nx (sq (sq (rg (a_ rfl rfl (en (nx (bk ?_))))))))))))))
  refine lp (σ := Nat × Nat × List ByteArray × Option Addr × Nat × List Nat × List Nat) (fun z_ : Nat × Nat × List ByteArray × Option Addr × Nat × List Nat × List Nat => match z_ with | (k, f, out1, A_out1, c_out1, o_out1, s_out1) => [(0, .string text), (1, .int .u8 at_), (5, .slice A_out1 out1.length c_out1), (6, .int .i64 ((f : Nat) : Int)), (7, .int .i64 ((k : Nat) : Int))])
      (fun z_ : Nat × Nat × List ByteArray × Option Addr × Nat × List Nat × List Nat => match z_ with | (k, f, out1, A_out1, c_out1, o_out1, s_out1) => [dat (Kd.row 9 Kd.str) [.slice A_out1 out1.length c_out1] out1 o_out1 s_out1])
      (fun z_ : Nat × Nat × List ByteArray × Option Addr × Nat × List Nat × List Nat => match z_ with | (k, f, out1, A_out1, c_out1, o_out1, s_out1) => (k ≤ text.size + 1 ∧ out1 = (cutTo text at_ k).1 ∧ f = (cutTo text at_ k).2) ∧ (∀ q ∈ s_out1, w.heap.size ≤ q)) (fun z_ : Nat × Nat × List ByteArray × Option Addr × Nat × List Nat × List Nat => match z_ with | (k, f, out1, A_out1, c_out1, o_out1, s_out1) => text.size + 1 - k) (0, 0, [], (some ⟨b1, 0, none⟩), 0, [b1], []) [0] ⟨⟨Nat.zero_le _, rfl, rfl⟩, by grind⟩ ⟨rfl, rfl, rfl, rfl, rfl, trivial⟩ rfl ?_
  rintro ⟨k, f, out1, A_out1, c_out1, o_out1, s_out1⟩ hp_
  obtain ⟨hinv1, hsee1out1⟩ := hp_; have cl := cutTo_le text at_ k; have zo : out1.length ≤ k := (by rw [hinv1.2.1]; exact cl.2); have zf : f ≤ k := (by rw [hinv1.2.2]; exact cl.1)
  refine sq (sq (rg (m_ rfl rfl (m_ rfl rfl (vl (lns Tryd.underlying9 rfl rfl) rfl (vl (cm rfl rfl rfl rfl) rfl (en (nx ?_))))))))
  by_cases h2 : ((k : Nat) : Int) ≤ ((text.size : Nat) : Int)
  · refine ct rfl (decide_eq_true h2) (sk (nx (sq (bk (sq (rg (m_ rfl rfl (m_ rfl rfl (vl (lns Tryd.underlying9 rfl rfl) rfl (vl (cm rfl rfl rfl rfl) rfl (m_ rfl rfl ?_)))))))))))
    by_cases h3 : ((k : Nat) : Int) = ((text.size : Nat) : Int)
    · refine sg rfl rfl (beq_iff_eq.2 h3) (sg rfl rfl (beq_iff_eq.2 h3) (sg rfl rfl (beq_iff_eq.2 h3) (sg rfl rfl (beq_iff_eq.2 h3) (sg rfl rfl (beq_iff_eq.2 h3) (vl (pk (b := true) rfl rfl (beq_iff_eq.2 h3) rfl) rfl (en (nx (ct rfl rfl (sq (rg (m_ rfl rfl (m_ rfl rfl (m_ rfl rfl (m_ rfl rfl (vl (ssb (i := f) (j := k) Tryd.underlying9 rfl rfl rfl rfl (by omega) (by omega)) rfl (gs Kd.str [.string (text.extract f k)] (text.extract f k) (fun _ => ⟨rfl, rfl, rfl⟩) (bs1 (dk := Kd.str) rfl info9 (by decide) rfl rfl rfl rfl ?_)))))))))))))))))
      intro b4
      refine f1 (ap (out1 ++ [(text.extract f k)]) rfl info9 rfl rfl (by decide) rfl rfl rfl rfl (by simp only [List.length_append, List.length_cons, List.length_nil]; omega) (by simp only [List.length_append, List.length_cons, List.length_nil]; omega) rfl (fun A5 c6 o7 s8 t9 => ?_))
      refine a_ rfl rfl (en (nx (rg (m_ rfl rfl (vl (ra (c := ((k + 1 : Nat) : Int)) rfl rfl rfl (by omega) (by omega) (by omega)) rfl (a_ rfl rfl (en (xn (nx (rg (m_ rfl rfl (vl (ra (c := ((k + 1 : Nat) : Int)) rfl rfl rfl (by omega) (by omega) (by omega)) rfl (a_ rfl rfl (en ?_))))))))))))))
      exact lpe (s := (k, f, out1, A_out1, c_out1, o_out1, s_out1)) (k + 1, k + 1, (out1 ++ [(text.extract f k)]), A5, c6, o7, s8) [0] ⟨⟨by omega, by rw [cutTo_y (by omega), hinv1.2.1, hinv1.2.2], by rw [cutTo_y (by omega)]⟩, by grind⟩ (by show text.size + 1 - (k + 1) < text.size + 1 - k; omega) ⟨rfl, rfl, rfl, rfl, rfl, trivial⟩ rfl
    · refine vg (mv rfl rfl) rfl rfl (beq_eq_false_iff_ne.2 h3) (vg (mv rfl rfl) rfl rfl (beq_eq_false_iff_ne.2 h3) (vg (six k Tryd.underlying9 rfl rfl rfl (by omega)) rfl rfl (beq_eq_false_iff_ne.2 h3) (vg (mv rfl rfl) rfl rfl (beq_eq_false_iff_ne.2 h3) (vg (cm rfl rfl rfl rfl) rfl rfl (beq_eq_false_iff_ne.2 h3) (vl (pk (b := false) rfl rfl (beq_eq_false_iff_ne.2 h3) rfl) rfl (en (nx ?_)))))))
      by_cases h10 : (byt text k) = at_
      · refine ct rfl (beq_iff_eq.2 h10) (sq (rg (m_ rfl rfl (m_ rfl rfl (m_ rfl rfl (m_ rfl rfl (vl (ssb (i := f) (j := k) Tryd.underlying9 rfl rfl rfl rfl (by omega) (by omega)) rfl (gs Kd.str [.string (text.extract f k)] (text.extract f k) (fun _ => ⟨rfl, rfl, rfl⟩) (bs1 (dk := Kd.str) rfl info9 (by decide) rfl rfl rfl rfl ?_)))))))))
        intro b11
        refine f1 (ap (out1 ++ [(text.extract f k)]) rfl info9 rfl rfl (by decide) rfl rfl rfl rfl (by simp only [List.length_append, List.length_cons, List.length_nil]; omega) (by simp only [List.length_append, List.length_cons, List.length_nil]; omega) rfl (fun A12 c13 o14 s15 t16 => ?_))
        refine a_ rfl rfl (en (nx (rg (m_ rfl rfl (vl (ra (c := ((k + 1 : Nat) : Int)) rfl rfl rfl (by omega) (by omega) (by omega)) rfl (a_ rfl rfl (en (xn (nx (rg (m_ rfl rfl (vl (ra (c := ((k + 1 : Nat) : Int)) rfl rfl rfl (by omega) (by omega) (by omega)) rfl (a_ rfl rfl (en ?_))))))))))))))
        exact lpe (s := (k, f, out1, A_out1, c_out1, o_out1, s_out1)) (k + 1, k + 1, (out1 ++ [(text.extract f k)]), A12, c13, o14, s15) [0] ⟨⟨by omega, by rw [cutTo_y (by omega), hinv1.2.1, hinv1.2.2], by rw [cutTo_y (by omega)]⟩, by grind⟩ (by show text.size + 1 - (k + 1) < text.size + 1 - k; omega) ⟨rfl, rfl, rfl, rfl, rfl, trivial⟩ rfl
      · refine cf rfl (beq_eq_false_iff_ne.2 h10) (sk (xn (nx (rg (m_ rfl rfl (vl (ra (c := ((k + 1 : Nat) : Int)) rfl rfl rfl (by omega) (by omega) (by omega)) rfl (a_ rfl rfl (en ?_))))))))
        exact lpe (s := (k, f, out1, A_out1, c_out1, o_out1, s_out1)) (k + 1, f, out1, A_out1, c_out1, o_out1, s_out1) [0] ⟨⟨by omega, by rw [cutTo_n (by omega)]; exact hinv1.2.1, by rw [cutTo_n (by omega)]; exact hinv1.2.2⟩, by grind⟩ (by show text.size + 1 - (k + 1) < text.size + 1 - k; omega) ⟨rfl, rfl, rfl, rfl, rfl, trivial⟩ rfl
  · exact cf rfl (decide_eq_false h2) (xt (xq (xq (xb (nx (sq (rg (m_ rfl rfl (a_ rfl rfl (en (nx (rt (gr ((cutTo text at_ (text.size + 1)).1) (by rw [hinv1.2.1, show k = text.size + 1 by omega]) (ret1 rfl rfl (fun w_ hs_ => made hs_ rfl (by grind))))))))))))))))
theorem fil_y {l out : List ByteArray} {k : Nat} {x : ByteArray} (h : out = (l.take k).filter (fun x => !decide (x = ByteArray.empty))) (hx : l[k]? = some x) (hn : ¬ decide (x = (⟨#[]⟩ : ByteArray)) = true) : out ++ [x] = (l.take (k + 1)).filter (fun x => !decide (x = ByteArray.empty)) := by
  have hn' : decide (x = ByteArray.empty) = false := Bool.eq_false_iff.2 hn
  rw [h, List.take_add_one, hx, List.filter_append]
  simp [List.filter, hn']
theorem fil_n {l out : List ByteArray} {k : Nat} {x : ByteArray} (h : out = (l.take k).filter (fun x => !decide (x = ByteArray.empty))) (hx : l[k]? = some x) (hn : decide (x = (⟨#[]⟩ : ByteArray)) = true) : out = (l.take (k + 1)).filter (fun x => !decide (x = ByteArray.empty)) := by
  have hn' : decide (x = ByteArray.empty) = true := hn
  rw [h, List.take_add_one, hx, List.filter_append]
  simp [List.filter, hn']
theorem fil_len {l out : List ByteArray} {k : Nat} (h : out = (l.take k).filter (fun x => !decide (x = ByteArray.empty))) : out.length ≤ k := by rw [h]; exact Nat.le_trans (List.length_filter_le _ _) (by rw [List.length_take]; omega)
theorem words_end {s : ByteArray} {out : List ByteArray} {k : Nat} (h : out = ((cutTo s 32 (s.size + 1)).1.take k).filter (fun x => !decide (x = ByteArray.empty))) (hk : (cutTo s 32 (s.size + 1)).1.length ≤ k) : out = wordsL s := by
  rw [h, List.take_of_length_le hk, cut_same]; rfl
/-! spec.l13Words -/
set_option maxRecDepth 20000 in
set_option maxHeartbeats 2000000 in
theorem spec_l13Words (w : World) (line : ByteArray) (hz : line.size ≤ 2000) : Calls Tryd.prog 26 #[.string line] w (Made (Kd.row 9 Kd.str) w (wordsL line) []) := by
  refine fnc (X := X 28 w) (args := [.string line]) (l := [(0, .string line)]) (G := []) Tryd.func26 rfl rfl rfl ⟨rfl, trivial⟩ (s0n w).1 ?_
  refine sq (rg (a_ rfl rfl (en (nx (sq (rg (bs0 (dk := Kd.str) rfl info9 rfl rfl ?_)))))))
  intro b1
  refine a_ rfl rfl (en (nx (sq (rg (m_ rfl rfl (cm_ (dk := (Kd.row 9 Kd.str)) (x := ((cutTo line 32 (line.size + 1)).1)) (S := []) (by kernel_rfl) rfl rfl rfl sn0 (fun w_ hs_ => spec_l1Cut w_ _ _ (by omega)) (fun cs_ o4 s5 w_ r6 t7 => ?_)))))))
  obtain ⟨A2, c3, rfl⟩ := Kd.row_sh r6
  refine a_ rfl rfl (en (nx (sq (sq (rg (a_ rfl rfl (en (nx (bk (gl (Kd.Seals.row Kd.Seals.str _) (fun s9 us9 => ?_)))))))))))
  have zc := (cutTo_le line 32 (line.size + 1)).2
  refine lp (σ := Nat × List ByteArray × Option Addr × Nat × List Nat × List Nat) (fun z_ : Nat × List ByteArray × Option Addr × Nat × List Nat × List Nat => match z_ with | (k, out1, A_out1, c_out1, o_out1, s_out1) => [(3, .slice A_out1 out1.length c_out1), (4, .slice A2 ((cutTo line 32 (line.size + 1)).1.length) c3), (5, .int .i64 ((k : Nat) : Int))])
      (fun z_ : Nat × List ByteArray × Option Addr × Nat × List Nat × List Nat => match z_ with | (k, out1, A_out1, c_out1, o_out1, s_out1) => [dat (Kd.row 9 Kd.str) [.slice A_out1 out1.length c_out1] out1 o_out1 s_out1, dat (Kd.sl Kd.str) [.slice A2 ((cutTo line 32 (line.size + 1)).1.length) c3] ((cutTo line 32 (line.size + 1)).1) ([]) s9])
      (fun z_ : Nat × List ByteArray × Option Addr × Nat × List Nat × List Nat => match z_ with | (k, out1, A_out1, c_out1, o_out1, s_out1) => (k ≤ (cutTo line 32 (line.size + 1)).1.length ∧ out1 = ((cutTo line 32 (line.size + 1)).1.take k).filter (fun x => !decide (x = ByteArray.empty))) ∧ (∀ q ∈ s_out1, w.heap.size ≤ q)) (fun z_ : Nat × List ByteArray × Option Addr × Nat × List Nat × List Nat => match z_ with | (k, out1, A_out1, c_out1, o_out1, s_out1) => (cutTo line 32 (line.size + 1)).1.length - k) (0, [], (some ⟨b1, 0, none⟩), 0, [b1], []) [1, 0] ⟨⟨Nat.zero_le _, rfl⟩, by grind⟩ ⟨rfl, rfl, rfl, trivial⟩ rfl ?_
  rintro ⟨k, out1, A_out1, c_out1, o_out1, s_out1⟩ hp_
  obtain ⟨hinv1, hsee1out1⟩ := hp_; have zo := fil_len hinv1.2
  refine sq (sq (rg (m_ rfl rfl (m_ rfl rfl (vl (ln rfl rfl rfl) rfl (vl (cm rfl rfl rfl rfl) rfl (en (nx ?_))))))))
  by_cases h10 : ((k : Nat) : Int) < (((cutTo line 32 (line.size + 1)).1.length : Nat) : Int)
  · refine ct rfl (decide_eq_true h10) (sk (nx (sq (bk (sq (rg (m_ rfl rfl (m_ rfl rfl ?_))))))))
    refine gx 1 k rfl (by omega) fun y16 p11 cs_ s12 w15 m17 e13 r14 us12 => ?_
    obtain ⟨rfl, -, -⟩ := r14
    refine vl (ix k e13 rfl rfl rfl rfl rfl (by omega)) rfl (vl (ldq (u := .string y16) 0 rfl rfl rfl rfl rfl rfl rfl) rfl (vl (sqn rfl rfl rfl) rfl (en (nx ?_))))
    by_cases h18 : decide (y16 = (⟨#[]⟩ : ByteArray)) = true
    · refine cf rfl (not_f h18) (sk (xn (nx (rg (m_ rfl rfl (vl (ra (c := ((k + 1 : Nat) : Int)) rfl rfl rfl (by omega) (by omega) (by omega)) rfl (a_ rfl rfl (en ?_))))))))
      exact lpe (s := (k, out1, A_out1, c_out1, o_out1, s_out1)) (k + 1, out1, A_out1, c_out1, o_out1, s_out1) [1, 1] ⟨⟨by omega, fil_n hinv1.2 m17 h18⟩, by grind⟩ (by show (cutTo line 32 (line.size + 1)).1.length - (k + 1) < (cutTo line 32 (line.size + 1)).1.length - k; omega) ⟨rfl, rfl, rfl, trivial⟩ rfl
    · refine ct rfl (not_t (Bool.eq_false_iff.2 h18)) (rg (m_ rfl rfl (m_ rfl rfl (m_ rfl rfl (vl (ix k e13 rfl rfl rfl rfl rfl (by omega)) rfl (vl (ldq (u := .string y16) 0 rfl rfl rfl rfl rfl rfl rfl) rfl (gs Kd.str [.string y16] y16 (fun _ => ⟨rfl, rfl, rfl⟩) (bs1 (dk := Kd.str) rfl info9 (by decide) rfl rfl rfl rfl ?_))))))))
      intro b19
      refine f2 (ap (out1 ++ [y16]) rfl info9 rfl rfl (by decide) rfl rfl rfl rfl (by simp only [List.length_append, List.length_cons, List.length_nil]; omega) (by simp only [List.length_append, List.length_cons, List.length_nil]; omega) rfl (fun A20 c21 o22 s23 t24 => ?_))
      refine a_ rfl rfl (en (xn (nx (rg (m_ rfl rfl (vl (ra (c := ((k + 1 : Nat) : Int)) rfl rfl rfl (by omega) (by omega) (by omega)) rfl (a_ rfl rfl (en ?_))))))))
      exact lpe (s := (k, out1, A_out1, c_out1, o_out1, s_out1)) (k + 1, (out1 ++ [y16]), A20, c21, o22, s23) [0, 1] ⟨⟨by omega, fil_y hinv1.2 m17 h18⟩, by grind⟩ (by show (cutTo line 32 (line.size + 1)).1.length - (k + 1) < (cutTo line 32 (line.size + 1)).1.length - k; omega) ⟨rfl, rfl, rfl, trivial⟩ rfl
  · exact cf rfl (decide_eq_false h10) (xt (xq (xq (xb (nx (sq (rg (m_ rfl rfl (a_ rfl rfl (en (nx (rt (gr (wordsL line) (words_end hinv1.2 (by omega)) (ret1 rfl rfl (fun w_ hs_ => made hs_ rfl (by grind))))))))))))))))
def wordsRes (s : ByteArray) : TextsResult := if (2000 : Int) < ((s.size : Nat) : Int) then ⟨2, []⟩ else ⟨0, wordsL s⟩
theorem wordsRes_len (s : ByteArray) : (wordsRes s).words.length ≤ 2001 := by
  unfold wordsRes; split
  · exact Nat.zero_le _
  · have := wordsL_len s; show (wordsL s).length ≤ 2001; omega
/-! spec.WordsOf -/
set_option maxRecDepth 20000 in
set_option maxHeartbeats 2000000 in
theorem spec_WordsOf (w : World) (line : ByteArray)  : Calls Tryd.prog 7 #[.string line] w (Made kTextsResultO w (wordsRes line) []) := by
  refine fnc (X := X 10 w) (args := [.string line]) (l := [(0, .string line)]) (G := []) Tryd.func7 rfl rfl rfl ⟨rfl, trivial⟩ (s0n w).1 ?_
  refine sq (rg (al zero24 rfl rfl rfl ?_))
  intro b1
  refine en (nx (sq (sq (rg (m_ rfl rfl (vl (lns Tryd.underlying9 rfl rfl) rfl (vl (cm rfl rfl rfl rfl) rfl (en (nx ?_)))))))))
  by_cases h2 : (2000 : Int) < ((line.size : Nat) : Int)
  · exact ct rfl (decide_eq_true h2) (sq (rg (vl (bd bld24 rfl rfl rfl) rfl (sto rfl rfl rfl rfl rfl rfl rfl (cs' := [.int .i64 2, .slice none 0 0]) rfl (en (nx (rt (xr (gs (Kd.row 9 Kd.str) [.slice none 0 0] ((⟨2, []⟩ : TextsResult).words) (fun _ => .inl ⟨rfl, rfl, rfl, rfl⟩) (gs Kd.i64 [.int .i64 2] ((⟨2, []⟩ : TextsResult).code) (fun _ => ⟨rfl, rfl, rfl⟩) (gj (da := (Kd.via Kd.i64 TextsResult.code)) (db := (Kd.via (Kd.row 9 Kd.str) TextsResult.words)) (x := (⟨2, []⟩ : TextsResult)) (cs := [.int .i64 2, .slice none 0 0]) rfl (gr (wordsRes line) (by unfold wordsRes; rw [if_pos h2]) (retc 1 rfl rfl rfl rfl rfl rfl (fun w_ hs_ => made hs_ rfl (see_app see_nil see_nil)))))))))))))))
  · refine cf rfl (decide_eq_false h2) (sk (nx (sq (rg (m_ rfl rfl (cm_ (dk := (Kd.row 9 Kd.str)) (x := (wordsL line)) (S := []) (by kernel_rfl) rfl rfl rfl sn0 (fun w_ hs_ => spec_l13Words w_ _ (by omega)) (fun cs_ o5 s6 w_ r7 t8 => ?_)))))))
    obtain ⟨A3, c4, rfl⟩ := Kd.row_sh r7
    exact vl (bd bld24 rfl rfl rfl) rfl (f1 (sto rfl rfl rfl rfl rfl rfl rfl (cs' := [.int .i64 0, .slice A3 ((wordsL line).length) c4]) rfl (en (nx (rt (f1 (gs Kd.i64 [.int .i64 0] ((⟨0, (wordsL line)⟩ : TextsResult).code) (fun _ => ⟨rfl, rfl, rfl⟩) (gj (da := (Kd.via Kd.i64 TextsResult.code)) (db := (Kd.via (Kd.row 9 Kd.str) TextsResult.words)) (x := (⟨0, (wordsL line)⟩ : TextsResult)) (cs := [.int .i64 0, .slice A3 ((wordsL line).length) c4]) rfl (gr (wordsRes line) (by unfold wordsRes; rw [if_neg h2]) (retc 1 rfl rfl rfl rfl rfl rfl (fun w_ hs_ => made hs_ rfl (see_app see_nil t8))))))))))))
def TabL (w : World) : Prop := ∃ m, w.cell? ⟨3, 0, none⟩ = some (.int .i64 m)
theorem TabL.mono {w w' : World} (h : TabL w) (b : Below w.heap.size w w') : TabL w' := by
  obtain ⟨m, hm⟩ := h
  exact ⟨m, (World.cell?_of_block (w := w) (a := ⟨3, 0, none⟩) (b.block 3 (World.block_lt_of_cell? _ _ hm))).trans hm⟩
theorem elems_mk (w : World) : ∀ (xs : List ByteArray), Kd.Elems Kd.str w (xs.map Value.string) xs [] []
  | [] => .nil
  | x :: xs => .cons (c := [.string x]) (o := []) (s := []) ⟨rfl, rfl, rfl⟩ (elems_mk w xs)
theorem splitC (w : World) (s : ByteArray) (hz : s.size ≤ 1000000) (hl : TabL w) : Calls Tryd.prog 51 #[.string s, .string (⟨#[32]⟩ : ByteArray)] w (Made (Kd.row 9 Kd.str) w (cutB s) []) := by
  obtain ⟨m, hm⟩ := hl
  refine (Any.strings_Split { laidSplit with } laidSplit.i9 s spB m w (by omega) hm (Nat.le_refl _)).mono ?_
  rintro e w' ⟨rfl, rfl⟩
  have hlen : (cutB s).length = Go.Lib.countB s spB + 1 := Go.Lib.splitB_all spB (Nat.le_refl _) 0 _ s rfl
  have hle := cutB_len s
  refine ⟨(Below.refl _ _).alloc (Nat.le_refl _) _, [.slice (some ⟨w.heap.size, 0, none⟩) (cutB s).length (cutB s).length], [w.heap.size], [], by rw [hlen]; rfl, .inr ⟨w.heap.size, (cutB s).length, ((cutB s).map Value.string).toArray, [], rfl, rfl, heap_alloc_new w _, Nat.le_refl _, ⟨by unfold maxLen; omega, by omega⟩, by simp; exact (Nat.mul_one _).symm, ?_⟩, by simp, by simp, by simp, by simp⟩
  have e1 : (cutB s).length * Kd.str.sz = ((cutB s).map Value.string).length := by rw [List.length_map]; exact Nat.mul_one _
  show Kd.Elems Kd.str _ (((cutB s).map Value.string).take ((cutB s).length * Kd.str.sz)) (cutB s) [] []
  rw [e1, List.take_length]
  exact elems_mk _ _

/-! impl.wordsOf$1 -/
set_option maxRecDepth 20000 in
set_option maxHeartbeats 2000000 in
theorem impl_wordsOf_1 (w : World) (word : ByteArray)  : Calls Tryd.prog 52 #[.string word] w (fun e_ w2_ => e_ = .returned (.bool (decide (word = (⟨#[]⟩ : ByteArray)))) ∧ Below w.heap.size w w2_) := by
  refine fnc (X := X 5 w) (args := [.string word]) (l := [(0, .string word)]) (G := []) Tryd.func52 rfl rfl rfl ⟨rfl, trivial⟩ (s0n w).1 ?_
  refine sq (rg (a_ rfl rfl (en (nx (sq (rg (m_ rfl rfl (vl (sql rfl rfl rfl) rfl (a_ rfl rfl (en (nx (rt (ret1 rfl rfl (fun w_ hs_ => ⟨?_, hs_.below⟩))))))))))))))
  rfl
/-! slices.IndexFunc[[]string,string] -/
set_option maxRecDepth 20000 in
set_option maxHeartbeats 2000000 in
theorem slices_IndexFunc_string_string (w : World) (p : ByteArray → Bool) {fp : FuncId} {cfp : List Value} (hEp : enters Tryd.prog fp = true) {As : Option Addr} {cs : Nat} {s : List ByteArray} {ss_ : List Nat} (hs : (Kd.sl Kd.str).Rel w [.slice As s.length cs] s [] ss_) (hfp : ∀ (w1 : World) (x0 : ByteArray), x0 ∈ s → Below w.heap.size w w1 → Calls Tryd.prog fp (([.string x0] : List Value) ++ cfp).toArray w1 (fun e_ w2_ => e_ = .returned (.bool (p x0)) ∧ Below w1.heap.size w1 w2_))  : Calls Tryd.prog 65 #[.slice As s.length cs, .func (.func fp) #[] cfp.toArray] w (fun e_ w2_ => e_ = .returned (.int .i64 (idx p s)) ∧ Below w.heap.size w w2_) := by
  have Ls := Kd.sl_len hs; have Cs := Kd.sl_cap hs
  refine fnc (X := X 19 w) (args := [.slice As s.length cs, .func (.func fp) #[] cfp.toArray]) (l := [(0, .slice As s.length cs), (1, .func (.func fp) #[] cfp.toArray)]) (G := [dat (Kd.sl Kd.str) [.slice As s.length cs] s ([]) ss_]) Tryd.func65 rfl rfl rfl ⟨rfl, rfl, trivial⟩ (s0d hs (s0n w)).1 ?_
  refine sq (rg (a_ rfl rfl (en (nx (sq (sq (rg (m_ rfl rfl (vl (ln rfl rfl rfl) rfl (m_ rfl rfl (en (nx (bk ?_)))))))))))))
  refine lp (σ := Nat) (fun k : Nat => [(0, .slice As s.length cs), (1, .func (.func fp) #[] cfp.toArray), (7, .int .i64 ((s.length : Nat) : Int)), (8, .int .i64 ((k : Nat) : Int))])
      (fun k : Nat => [dat (Kd.sl Kd.str) [.slice As s.length cs] s ([]) ss_])
      (fun k : Nat => k ≤ s.length ∧ ∀ j x, j < k → s[j]? = some x → p x = false) (fun k : Nat => s.length - k) 0 [0] ⟨Nat.zero_le _, by simp⟩ ⟨rfl, rfl, rfl, rfl, trivial⟩ rfl ?_
  intro k hp_
  obtain ⟨hk, hinv⟩ := hp_
  refine sq (rg (vl (cm rfl rfl rfl rfl) rfl (en (nx (sq ?_)))))
  by_cases h1 : ((k : Nat) : Int) < ((s.length : Nat) : Int)
  · refine ct rfl (decide_eq_true h1) (sk (nx (sq (bk (sq (rg (m_ rfl rfl (a_ rfl rfl (en (nx (sq (rg (m_ rfl rfl (m_ rfl rfl (m_ rfl rfl ?_)))))))))))))))
    refine gx 0 k rfl (by omega) fun y7 p2 cs_ s3 w6 m8 e4 r5 us3 => ?_
    obtain ⟨rfl, -, -⟩ := r5
    refine vl (ix k e4 rfl rfl rfl rfl rfl (by omega)) rfl (vl (ldq (u := .string y7) 0 rfl rfl rfl rfl rfl rfl rfl) rfl (cv_ (v := .bool (p y7)) hEp rfl rfl rfl rfl (fun w_ hs_ => hfp w_ y7 (List.mem_of_getElem? m8) hs_.below  ) (en (nx ?_))))
    by_cases h9 : p y7 = true
    · refine ct rfl h9 (sq (rg (m_ rfl rfl (a_ rfl rfl (en (nx (rt (xrb (xr (xr (xrb (xr (ret1 rfl rfl (fun w_ hs_ => ⟨?_, hs_.below⟩))))))))))))))
      rw [idx_some hinv m8 h9]
    · exact cf rfl (Bool.eq_false_iff.2 h9) (sk (xn (nx (rg (vl (ra (c := ((k + 1 : Nat) : Int)) rfl rfl rfl (by omega) (by omega) (by omega)) rfl (m_ rfl rfl (en (lpe (s := k) (k + 1) [1] ⟨by omega, idx_step hinv m8 (Bool.eq_false_iff.2 h9)⟩ (by omega) ⟨rfl, rfl, rfl, rfl, trivial⟩ rfl))))))))
  · refine cf rfl (decide_eq_false h1) (xt (xq (xq (xb (nx (sq (rg (a_ rfl rfl (en (nx (rt (ret1 rfl rfl (fun w_ hs_ => ⟨?_, hs_.below⟩)))))))))))))
    rw [idx_none hinv (by omega)]
/-! slices.DeleteFunc[[]string,string] -/
set_option maxRecDepth 20000 in
set_option maxHeartbeats 2000000 in
theorem slices_DeleteFunc_string_string (w : World) (del : ByteArray → Bool) {fdel : FuncId} {cfdel : List Value} (hEdel : enters Tryd.prog fdel = true) {Asrc : Option Addr} {csrc : Nat} {src : List ByteArray} {osrc_ ssrc_ : List Nat} (hst : St (nul w) w [dat (Kd.row 9 Kd.str) [.slice Asrc src.length csrc] src osrc_ ssrc_]) (hfdel : ∀ (w1 : World) (x0 : ByteArray), x0 ∈ src → Mod w w1 osrc_ → Calls Tryd.prog fdel (([.string x0] : List Value) ++ cfdel).toArray w1 (fun e_ w2_ => e_ = .returned (.bool (del x0)) ∧ Below w1.heap.size w1 w2_))  : Calls Tryd.prog 50 #[.slice Asrc src.length csrc, .func (.func fdel) #[] cfdel.toArray] w (MadeO (Kd.row 9 Kd.str) w osrc_ (src.filter (fun x => !del x)) (ssrc_)) := by
  have Lsrc := Kd.row_len (hst.at 0 rfl); have Csrc := Kd.row_cap (hst.at 0 rfl)
  refine fnc (X := X 42 (nul w)) (args := [.slice Asrc src.length csrc, .func (.func fdel) #[] cfdel.toArray]) (l := [(0, .slice Asrc src.length csrc), (1, .func (.func fdel) #[] cfdel.toArray)]) (G := [frm w osrc_, dat (Kd.row 9 Kd.str) [.slice Asrc src.length csrc] src osrc_ ssrc_]) Tryd.func50 rfl rfl rfl ⟨rfl, rfl, trivial⟩ (⟨hst.fr osrc_ (by simp [owns, dat, ptr]), trivial⟩ : _ ∧ True).1 ?_
  refine sq (rg (a_ rfl rfl (en (nx (sq (rg (m_ rfl rfl (m_ rfl rfl (cs_ (v := .int .i64 (idx del src)) (by kernel_rfl) rfl rfl rfl (fun w_ hs_ => bor (Kd.Seals.row Kd.Seals.str _) (hs_.at 1 rfl) fun _ lb0_ => slices_IndexFunc_string_string w_ del hEdel lb0_ (fun w1 x0 m0_ b_ => hfdel w1 x0 m0_ ((hs_.mod 0 rfl).trans (.of_below b_ _)))) (a_ rfl rfl (en (nx (sq (sq (rg (m_ rfl rfl (vl (cm rfl rfl rfl rfl) rfl (en (nx ?_)))))))))))))))))))
  by_cases h1 : (idx del src) = (-1 : Int)
  · exact ct rfl (beq_iff_eq.2 h1) (sq (rg (m_ rfl rfl (a_ rfl rfl (en (nx (rt (xr (f1 (gr (src.filter (fun x => !del x)) (filter_idx h1) (ret1 rfl rfl (fun w_ hs_ => madeo hs_ 0 rfl rfl (by grind)))))))))))))
  · obtain ⟨kh1, yh1, eh1, lh1, mh1, ph1, fh1⟩ := idx_at h1; rw [eh1] at h1; rw [eh1]; obtain ⟨bsrc, rfl⟩ := Kd.row_pos (hst.at 0 rfl) (by omega)
    refine cf rfl (beq_eq_false_iff_ne.2 h1) (sk (nx (sq (sq (rg (m_ rfl rfl (vl (ra (c := ((kh1 + 1 : Nat) : Int)) rfl rfl rfl (by omega) (by omega) (by omega)) rfl (a_ rfl rfl (en (nx (bk ?_)))))))))))
    refine lp (σ := Nat × Nat × List ByteArray × List Nat × List Nat) (fun z_ : Nat × Nat × List ByteArray × List Nat × List Nat => match z_ with | (i, j, xs, o_, s_) => [(0, .slice (some ⟨bsrc, 0, none⟩) src.length csrc), (1, .func (.func fdel) #[] cfdel.toArray), (5, .int .i64 ((i : Nat) : Int)), (6, .int .i64 ((j : Nat) : Int))])
        (fun z_ : Nat × Nat × List ByteArray × List Nat × List Nat => match z_ with | (i, j, xs, o_, s_) => [dat (Kd.row 9 Kd.str) [.slice (some ⟨bsrc, 0, none⟩) src.length csrc] xs o_ s_, frm w osrc_])
        (fun z_ : Nat × Nat × List ByteArray × List Nat × List Nat => match z_ with | (i, j, xs, o_, s_) => i < j ∧ j ≤ src.length ∧ xs.length = src.length ∧ xs.take i = (src.take j).filter (fun x => !del x) ∧ xs.drop j = src.drop j ∧ ∀ q ∈ s_, q ∈ ssrc_) (fun z_ : Nat × Nat × List ByteArray × List Nat × List Nat => match z_ with | (i, j, xs, o_, s_) => src.length - j) (kh1, kh1 + 1, src, osrc_, ssrc_) [1, 0] ⟨by omega, by omega, rfl, del_0 mh1 ph1 fh1, rfl, fun q h => h⟩ ⟨rfl, rfl, rfl, rfl, trivial⟩ rfl ?_
    rintro ⟨i, j, xs, o_, s_⟩ hp_
    obtain ⟨hij, hj, hln, htk, hdr, hsee⟩ := hp_
    refine sq (sq (rg (m_ rfl rfl (m_ rfl rfl (vl (ln rfl rfl rfl) rfl (vl (cm rfl rfl rfl rfl) rfl (en (nx ?_))))))))
    by_cases h2 : ((j : Nat) : Int) < ((src.length : Nat) : Int)
    · refine ct rfl (decide_eq_true h2) (sk (nx (sq (bk (sq (rg (m_ rfl rfl (m_ rfl rfl (vl (ix j rfl rfl rfl rfl rfl rfl (by omega)) rfl (ldrs j Kd.Pure.str rfl rfl rfl rfl rfl (by omega) rfl (fun y3 cs_ s4 w_ m5 r6 us4 => ?_)))))))))))
      obtain rfl := (List.cons.inj (And.left r6)).1
      refine a_ rfl rfl (en (nx (sq (rg (m_ rfl rfl (m_ rfl rfl (cv_ (v := .bool (del y3)) hEdel rfl rfl rfl rfl (fun w_ hs_ => hfdel w_ y3 (List.mem_of_getElem? (drop_get hdr m5)) (hs_.mod 2 rfl)  ) (vl (nt rfl rfl) rfl (en (nx ?_))))))))))
      by_cases h7 : del y3 = true
      · exact cf rfl (not_f h7) (sk (xn (nx (rg (m_ rfl rfl (vl (ra (c := ((j + 1 : Nat) : Int)) rfl rfl rfl (by omega) (by omega) (by omega)) rfl (a_ rfl rfl (en (lpe (s := (i, j, xs, o_, s_)) (i, j + 1, xs, o_, s_) [1, 1] ⟨by omega, by omega, hln, del_n htk (drop_get hdr m5) (by simpa using h7), drop_on hdr, by grind⟩ (by show src.length - (j + 1) < src.length - j; omega) ⟨rfl, rfl, rfl, rfl, trivial⟩ rfl)))))))))
      · refine ct rfl (not_t (Bool.eq_false_iff.2 h7)) (sq (rg (m_ rfl rfl (m_ rfl rfl (m_ rfl rfl (vl (ix i rfl rfl rfl rfl rfl rfl (by omega)) rfl (gs Kd.str [.string y3] y3 (fun _ => ⟨rfl, rfl, rfl⟩) (f2 (ste i rfl rfl rfl rfl rfl (by first | omega | (simp; omega)) (fun o8 s9 t10 => ?_))))))))))
        exact en (nx (rg (m_ rfl rfl (vl (ra (c := ((i + 1 : Nat) : Int)) rfl rfl rfl (by omega) (by omega) (by omega)) rfl (a_ rfl rfl (en (xn (nx (rg (m_ rfl rfl (vl (ra (c := ((j + 1 : Nat) : Int)) rfl rfl rfl (by omega) (by omega) (by omega)) rfl (a_ rfl rfl (en (lpe (s := (i, j, xs, o_, s_)) (i + 1, j + 1, (xs.set i y3), o8, s9) [0, 1] ⟨by omega, by omega, by rw [List.length_set, hln], del_y htk (drop_get hdr m5) (by simpa using h7) (by omega), drop_set hdr (by omega), by grind⟩ (by show src.length - (j + 1) < src.length - j; omega) ⟨rfl, rfl, rfl, rfl, trivial⟩ rfl))))))))))))))
    · refine cf rfl (decide_eq_false h2) (xt (xq (xq (xb (nx (sq (rg (m_ rfl rfl (m_ rfl rfl (vl (slo (i := i) rfl rfl rfl rfl rfl (by omega) (by omega)) rfl (clr i (z := ByteArray.empty) Kd.Pure.str rfl info9 rfl (fun _ => ⟨rfl, rfl, rfl⟩) (by decide) rfl rfl (by omega) (fun x11 o12 s13 q14 q15 t16 => ?_))))))))))))
      refine en (nx (sq (rg (m_ rfl rfl (m_ rfl rfl (vl (shi (i := i) rfl rfl rfl rfl rfl (by omega)) rfl (a_ rfl rfl (en (nx (rt (rcut i Kd.Pure.str (by omega) (fun o17 s18 t19 => ?_))))))))))))
      exact gr (src.filter (fun x => !del x)) (by rw [q14, htk, List.take_of_length_le (by omega)]) (ret1 rfl rfl (fun w_ hs_ => madeo hs_ 0 rfl rfl (by grind)))
/-! slices.Clone[[]string,string] -/
set_option maxRecDepth 20000 in
set_option maxHeartbeats 2000000 in
theorem slices_Clone_string_string (w : World) {As : Option Addr} {cs : Nat} {s : List ByteArray} {ss_ : List Nat} (hs : (Kd.sl Kd.str).Rel w [.slice As s.length cs] s [] ss_) (hz : s.length ≤ 1048576) : Calls Tryd.prog 27 #[.slice As s.length cs] w (Made (Kd.row 9 Kd.str) w s (ss_)) := by
  have Ls := Kd.sl_len hs; have Cs := Kd.sl_cap hs
  refine fnc (X := X 8 w) (args := [.slice As s.length cs]) (l := [(0, .slice As s.length cs)]) (G := [dat (Kd.sl Kd.str) [.slice As s.length cs] s ([]) ss_]) Tryd.func27 rfl rfl rfl ⟨rfl, trivial⟩ (s0d hs (s0n w)).1 ?_
  refine sq (rg (a_ rfl rfl (en (nx (sq (sq (rg (m_ rfl rfl (vl (cmN rfl rfl rfl rfl) rfl (en (nx ?_)))))))))))
  by_cases h1 : As.isNone = true
  · exact ct rfl h1 (sq (rg (a_ rfl rfl (en (nx (rt (xr (gs (Kd.row 9 Kd.str) [.slice none 0 0] [] (fun _ => .inl ⟨rfl, rfl, rfl, rfl⟩) (gr s (by rw [Option.isNone_iff_eq_none] at h1; subst h1; exact (Kd.sl_nil hs).symm)  (ret1 rfl rfl (fun w_ hs_ => made hs_ rfl (by grind))))))))))))
  · refine cf rfl (Bool.eq_false_iff.2 h1) (sk (nx (sq (rg (bs0 (dk := Kd.str) rfl info9 rfl rfl ?_)))))
    intro b2
    refine m_ rfl rfl ?_
    refine f1 (f1 (aps0 pure_str s rfl info9 rfl rfl (by decide) rfl rfl rfl rfl (by omega) (by omega) rfl (fun A3 c4 o5 s6 t7 => ?_)))
    exact a_ rfl rfl (en (nx (rt (gr s rfl (ret1 rfl rfl (fun w_ hs_ => made hs_ rfl (by grind)))))))
/-! impl.wordsOf -/
set_option maxRecDepth 20000 in
set_option maxHeartbeats 2000000 in
theorem impl_wordsOf (w : World) (line : ByteArray) (hz : line.size ≤ 2000) (hl : TabL w) : Calls Tryd.prog 28 #[.string line] w (Made (Kd.row 9 Kd.str) w (wordsL line) []) := by
  refine fnc (X := X 6 w) (args := [.string line]) (l := [(0, .string line)]) (G := []) Tryd.func28 rfl rfl rfl ⟨rfl, trivial⟩ (s0n w).1 ?_
  refine sq (rg (a_ rfl rfl (en (nx (sq (rg (m_ rfl rfl (cm_ (dk := (Kd.row 9 Kd.str)) (x := (cutB line)) (S := []) (by kernel_rfl) rfl rfl rfl sn0 (fun w_ hs_ => splitC w_ _ (by omega) (hl.mono hs_.below)) (fun cs_ o3 s4 w_ r5 t6 => ?_)))))))))
  obtain ⟨A1, c2, rfl⟩ := Kd.row_sh r5
  refine co (dk := (Kd.row 9 Kd.str)) (x := (List.filter (fun x => !((fun (x0 : ByteArray) => decide (x0 = (⟨#[]⟩ : ByteArray))) x)) (cutB line))) (S := (s4)) (by kernel_rfl) rfl rfl rfl (snt 0 rfl) (fun w_ hs_ => slices_DeleteFunc_string_string w_ (fun (x0 : ByteArray) => decide (x0 = (⟨#[]⟩ : ByteArray))) (by kernel_rfl) ((hs_.pk [0] rfl).nl) (fun w1 x0 m0_ b_  => impl_wordsOf_1 w1 x0 )) (fun cs_ o10 s11 w_ r12 t13 => ?_)
  obtain ⟨A8, c9, rfl⟩ := Kd.row_sh r12
  exact a_ rfl rfl (en (nx (rt (gr (wordsL line) rfl (ret1 rfl rfl (fun w_ hs_ => made hs_ rfl (by grind)))))))
/-! impl.WordsOf -/
set_option maxRecDepth 20000 in
set_option maxHeartbeats 2000000 in
theorem impl_WordsOf (w : World) (line : ByteArray) (hl : TabL w) : Calls Tryd.prog 8 #[.string line] w (Made kTextsResultO w (wordsRes line) []) := by
  refine fnc (X := X 11 w) (args := [.string line]) (l := [(0, .string line)]) (G := []) Tryd.func8 rfl rfl rfl ⟨rfl, trivial⟩ (s0n w).1 ?_
  refine sq (rg (al zero24 rfl rfl rfl ?_))
  intro b1
  refine en (nx (sq (sq (rg (m_ rfl rfl (vl (lns Tryd.underlying9 rfl rfl) rfl (vl (cm rfl rfl rfl rfl) rfl (en (nx ?_)))))))))
  by_cases h2 : (2000 : Int) < ((line.size : Nat) : Int)
  · exact ct rfl (decide_eq_true h2) (sq (rg (vl (bd bld24 rfl rfl rfl) rfl (sto rfl rfl rfl rfl rfl rfl rfl (cs' := [.int .i64 2, .slice none 0 0]) rfl (en (nx (rt (xr (gs (Kd.row 9 Kd.str) [.slice none 0 0] ((⟨2, []⟩ : TextsResult).words) (fun _ => .inl ⟨rfl, rfl, rfl, rfl⟩) (gs Kd.i64 [.int .i64 2] ((⟨2, []⟩ : TextsResult).code) (fun _ => ⟨rfl, rfl, rfl⟩) (gj (da := (Kd.via Kd.i64 TextsResult.code)) (db := (Kd.via (Kd.row 9 Kd.str) TextsResult.words)) (x := (⟨2, []⟩ : TextsResult)) (cs := [.int .i64 2, .slice none 0 0]) rfl (gr (wordsRes line) (by unfold wordsRes; rw [if_pos h2]) (retc 1 rfl rfl rfl rfl rfl rfl (fun w_ hs_ => made hs_ rfl (see_app see_nil see_nil)))))))))))))))
  · refine cf rfl (decide_eq_false h2) (sk (nx (sq (rg (m_ rfl rfl (cm_ (dk := (Kd.row 9 Kd.str)) (x := (wordsL line)) (S := []) (by kernel_rfl) rfl rfl rfl sn0 (fun w_ hs_ => impl_wordsOf w_ _ (by omega) (hl.mono hs_.below)) (fun cs_ o5 s6 w_ r7 t8 => ?_)))))))
    obtain ⟨A3, c4, rfl⟩ := Kd.row_sh r7
    refine gl (Kd.Seals.row Kd.Seals.str _) (fun s10 us10 => ?_)
    refine cm_ (dk := (Kd.row 9 Kd.str)) (x := (wordsL line)) (S := (s10)) (by kernel_rfl) rfl rfl rfl (snt 0 rfl) (fun w_ hs_ => slices_Clone_string_string w_ (hs_.at 0 rfl) (by have := wordsL_len line; omega)) (fun cs_ o13 s14 w_ r15 t16 => ?_)
    obtain ⟨A11, c12, rfl⟩ := Kd.row_sh r15
    exact vl (bd bld24 rfl rfl rfl) rfl (f2 (sto rfl rfl rfl rfl rfl rfl rfl (cs' := [.int .i64 0, .slice A11 ((wordsL line).length) c12]) rfl (en (nx (rt (f1 (gs Kd.i64 [.int .i64 0] ((⟨0, (wordsL line)⟩ : TextsResult).code) (fun _ => ⟨rfl, rfl, rfl⟩) (gj (da := (Kd.via Kd.i64 TextsResult.code)) (db := (Kd.via (Kd.row 9 Kd.str) TextsResult.words)) (x := (⟨0, (wordsL line)⟩ : TextsResult)) (cs := [.int .i64 0, .slice A11 ((wordsL line).length) c12]) rfl (gr (wordsRes line) (by unfold wordsRes; rw [if_neg h2]) (retc 1 rfl rfl rfl rfl rfl rfl (fun w_ hs_ => made hs_ rfl (see_app see_nil (by grind)))))))))))))
def mtB (k : Int) : ByteArray := if k ≤ (0 : Int) then (⟨#[109, 48]⟩ : ByteArray) else (⟨#[109]⟩ : ByteArray) ++ decB k
def mtInv (k kk : Int) (v : ByteArray) : Prop := 0 ≤ kk ∧ kk ≤ k ∧ (0 < kk → decB kk ++ v = decB k) ∧ (kk = 0 → v = decB k) ∧ v.size ≤ 1152921504606846977
theorem mt_0 {k : Int} (h : ¬ k ≤ (0 : Int)) : mtInv k k (⟨#[]⟩ : ByteArray) := by
  refine ⟨by omega, Int.le_refl _, fun _ => ?_, fun e => by omega, lit_le rfl⟩
  apply bs_ext; rw [app_list]; simp
theorem mt_s {k kk : Int} {v : ByteArray} (hk : k ≤ 1152921504606846976) (h : mtInv k kk v) (hp : (0 : Int) < kk) : mtInv k (kk / 10) (chr (48 + kk % 10) ++ v) := by
  obtain ⟨h1, h2, h3, h4, h5⟩ := h
  have he := h3 hp
  have key : (kk / 10 > 0 → decB (kk / 10) ++ (chr (48 + kk % 10) ++ v) = decB k) ∧ (kk / 10 = 0 → chr (48 + kk % 10) ++ v = decB k) := by
    refine ⟨fun hq => ?_, fun hq => ?_⟩
    · rw [← he, ← decB_hi h1 (by omega)]
      apply bs_ext; simp only [app_list, List.append_assoc]
    · have : kk % 10 = kk := by omega
      rw [this, decB_lo h1 (by omega), he]
  refine ⟨by omega, by omega, key.1, key.2, ?_⟩
  have hsz := decB_size k
  by_cases hq : kk / 10 = 0
  · rw [key.2 hq]; omega
  · have h6 := congrArg ByteArray.size (key.1 (by omega))
    rw [app_size] at h6; omega
theorem mt_end {k kk : Int} {v : ByteArray} (hk : ¬ k ≤ (0 : Int)) (h : mtInv k kk v) (hn : ¬ (0 : Int) < kk) : (⟨#[109]⟩ : ByteArray) ++ v = mtB k := by
  obtain ⟨h1, -, -, h4, -⟩ := h
  unfold mtB; rw [if_neg hk, h4 (by omega)]
theorem mt_lo {k : Int} (hk : k ≤ (0 : Int)) : (⟨#[109, 48]⟩ : ByteArray) = mtB k := by unfold mtB; rw [if_pos hk]
def mS (k : Int) (_ : ByteArray) : ByteArray := mtB k
def cS (_ : ByteArray) : Int := 1
theorem cS_nn (x : ByteArray) : 0 ≤ cS x := by simp [cS]
theorem cS_sum (l : List ByteArray) : (l.map cS).sum = (l.length : Int) := by
  induction l with
  | nil => rfl
  | cons a l ih => rw [List.map_cons, List.sum_cons, ih]; simp [cS]; omega
theorem cS_to {l : List ByteArray} {k : Nat} (h : k ≤ l.length) : sumTo cS l k = (k : Int) := by
  rw [sumTo, cS_sum]; simp; omega
/-! laws.markText -/
set_option maxRecDepth 20000 in
set_option maxHeartbeats 2000000 in
theorem laws_markText (w : World) (k : Int) (hk1 : k ≤ 1152921504606846976) : Calls Tryd.prog 53 #[.int .i64 k] w (fun e_ w2_ => e_ = .returned (.string (mtB k)) ∧ Below w.heap.size w w2_) := by
  refine fnc (X := X 20 w) (args := [.int .i64 k]) (l := [(0, .int .i64 k)]) (G := []) Tryd.func53 rfl rfl rfl ⟨rfl, trivial⟩ (s0n w).1 ?_
  refine sq (rg (a_ rfl rfl (en (nx (sq (sq (rg (m_ rfl rfl (vl (cm rfl rfl rfl rfl) rfl (en (nx ?_)))))))))))
  by_cases h1 : k ≤ (0 : Int)
  · refine ct rfl (decide_eq_true h1) (sq (rg (a_ rfl rfl (en (nx (rt (xr (ret1 rfl rfl (fun w_ hs_ => ⟨?_, hs_.below⟩)))))))))
    exact rstr (mt_lo h1)
  · refine cf rfl (decide_eq_false h1) (sk (nx (sq (rg (a_ rfl rfl (en (nx (sq (bk ?_)))))))))
    refine lp (σ := Int × ByteArray) (fun z_ : Int × ByteArray => match z_ with | (kk, v) => [(0, .int .i64 kk), (3, .string v)])
        (fun z_ : Int × ByteArray => match z_ with | (kk, v) => [])
        (fun z_ : Int × ByteArray => match z_ with | (kk, v) => mtInv k kk v) (fun z_ : Int × ByteArray => match z_ with | (kk, v) => kk.toNat) (k, (⟨#[]⟩ : ByteArray)) [] (mt_0 h1) ⟨rfl, rfl, trivial⟩ rfl ?_
    rintro ⟨kk, v⟩ hp_
    have hinv1 : mtInv k kk v := hp_; have q1 := hinv1.1; have q2 := hinv1.2.1
    refine sq (sq (rg (m_ rfl rfl (vl (cm rfl rfl rfl rfl) rfl (en (nx ?_))))))
    by_cases h2 : (0 : Int) < kk
    · refine ct rfl (decide_eq_true h2) (sk (nx (bk (sq (rg (m_ rfl rfl (vl (rre rfl rfl rfl (by omega) (by omega)) rfl (vl (ra (c := 48 + (kk % 10)) rfl rfl rfl rfl (by omega) (by omega)) rfl (vl (cv Tryd.underlying3 Tryd.underlying5 rfl rfl (wru (by omega) (by omega))) rfl (gs Kd.u8 [.int .u8 (48 + (kk % 10))] (48 + (kk % 10)) (fun _ => ⟨rfl, rfl, rfl⟩) (bs1 (dk := Kd.u8) rfl info5 (by decide) rfl rfl rfl rfl ?_)))))))))))
      intro b3
      refine vl (cvs 0 (z := 48 + (kk % 10)) rfl Tryd.underlying96 Tryd.underlying5 Tryd.underlying9 rfl rfl) rfl (m_ rfl rfl (vl (sad rfl rfl rfl (sum_le2 (n := 1) (m := 1152921504606846977) (lit_le (n := 1) rfl) hinv1.2.2.2.2 rfl)) rfl (a_ rfl rfl (en (nx (rg (m_ rfl rfl (vl (rqo rfl rfl rfl (by omega) (by omega) (by omega)) rfl (a_ rfl rfl (en (xn ?_)))))))))))
      exact lpe (s := (kk, v)) ((kk / 10), ((chr (48 + (kk % 10))) ++ v)) [] (mt_s hk1 hinv1 h2) (by show (kk / 10).toNat < kk.toNat; omega) ⟨rfl, rfl, trivial⟩ rfl
    · refine cf rfl (decide_eq_false h2) (xt (xq (xq (xb (nx (sq (rg (m_ rfl rfl (vl (sad rfl rfl rfl (sum_le2 (n := 1) (m := 1152921504606846977) (lit_le (a := (⟨#[109]⟩ : ByteArray)) (n := 1) rfl) hinv1.2.2.2.2 rfl)) rfl (a_ rfl rfl (en (nx (rt (ret1 rfl rfl (fun w_ hs_ => ⟨?_, hs_.below⟩)))))))))))))))
      exact rstr (mt_end h1 hinv1 h2)
theorem vi {k : IntKind} {a b : Int} (h : a = b) : Value.int k a = Value.int k b := by rw [h]
def mkV_TextsResult (k : Int) (a : TextsResult) : TextsResult := ⟨a.code, mkL mS cS (k) a.words⟩
def cntV_TextsResult (a : TextsResult) : Int := 0 + (a.words.length : Int)
theorem cntV_TextsResult_nn (a : TextsResult) : 0 ≤ cntV_TextsResult a := by
  unfold cntV_TextsResult; omega
/-! laws.markStringS -/
set_option maxRecDepth 20000 in
set_option maxHeartbeats 2000000 in
theorem laws_markStringS (w : World) (k : Int) {Aa : Option Addr} {ca : Nat} {a : List ByteArray} {oa_ sa_ : List Nat} (hst : St (nul w) w [dat (Kd.row 9 Kd.str) [.slice Aa a.length ca] a oa_ sa_]) (hk0 : 0 ≤ k) (hk1 : k + ((a.length : Nat) : Int) ≤ 1152921504606846976) : Calls Tryd.prog 30 #[.slice Aa a.length ca, .int .i64 k] w (TurnO (Kd.row 9 Kd.str) [.slice Aa a.length ca] (.int .i64 (k + ((a.length : Nat) : Int))) w oa_ (mkL mS cS k a) (sa_)) := by
  have La := Kd.row_len (hst.at 0 rfl); have Ca := Kd.row_cap (hst.at 0 rfl)
  refine fnc (X := X 20 (nul w)) (args := [.slice Aa a.length ca, .int .i64 k]) (l := [(0, .slice Aa a.length ca), (1, .int .i64 k)]) (G := [frm w oa_, dat (Kd.row 9 Kd.str) [.slice Aa a.length ca] a oa_ sa_]) Tryd.func30 rfl rfl rfl ⟨rfl, rfl, trivial⟩ (⟨hst.fr oa_ (by simp [owns, dat, ptr]), trivial⟩ : _ ∧ True).1 ?_
  refine sq (rg (a_ rfl rfl (en (nx (sq (sq (rg (a_ rfl rfl (en (nx (bk ?_)))))))))))
  refine lp (σ := Nat × Int × List Nat × List Nat) (fun z_ : Nat × Int × List Nat × List Nat => match z_ with | (i, v, o_, s_) => [(0, .slice Aa a.length ca), (1, .int .i64 v), (5, .int .i64 ((i : Nat) : Int))])
      (fun z_ : Nat × Int × List Nat × List Nat => match z_ with | (i, v, o_, s_) => [dat (Kd.row 9 Kd.str) [.slice Aa a.length ca] (mkL mS cS k (a.take i) ++ a.drop i) o_ s_, frm w oa_])
      (fun z_ : Nat × Int × List Nat × List Nat => match z_ with | (i, v, o_, s_) => i ≤ a.length ∧ v = k + sumTo cS a i ∧ ∀ q ∈ s_, q ∈ sa_ ∨ w.heap.size ≤ q) (fun z_ : Nat × Int × List Nat × List Nat => match z_ with | (i, v, o_, s_) => a.length - i) (0, k, oa_, sa_) [1, 0] ⟨Nat.zero_le _, by simp [sumTo], fun q h => .inl h⟩ ⟨rfl, rfl, rfl, trivial⟩ rfl ?_
  rintro ⟨i, v, o_, s_⟩ hp_
  obtain ⟨hi, hv, hsee⟩ := hp_; have z0 := sumTo_nn cS_nn a i; have zt := sumTo_le cS_nn a i; have ze := cS_sum a; have zj := cS_to hi
  refine sq (sq (rg (m_ rfl rfl (m_ rfl rfl (vl (ln rfl rfl rfl) rfl (vl (cm rfl rfl rfl rfl) rfl (en (nx ?_))))))))
  by_cases h1 : ((i : Nat) : Int) < ((a.length : Nat) : Int)
  · obtain ⟨ba, rfl⟩ := Kd.row_pos (hst.at 0 rfl) (by omega)
    refine ct rfl (decide_eq_true h1) (sk (nx (sq (bk (sq (rg (m_ rfl rfl (m_ rfl rfl (m_ rfl rfl (cs_ (v := .string (mtB v)) (by kernel_rfl) rfl rfl rfl (fun w_ hs_ => laws_markText w_ _ (by omega)) (vl (ix i rfl rfl rfl rfl rfl rfl (by omega)) rfl (gs Kd.str [.string (mtB v)] (mtB v) (fun _ => ⟨rfl, rfl, rfl⟩) (f1 (ste i rfl rfl rfl rfl rfl (by rw [List.length_append, mkL_len, List.length_take, List.length_drop]; omega) (fun o2 s3 t4 => ?_)))))))))))))))
    exact gr (mkL mS cS k (a.take (i + 1)) ++ a.drop (i + 1)) (mk_step (List.getElem?_eq_getElem (by omega)) (by simp only [mS]; rw [← hv])) (en (nx (rg (m_ rfl rfl (vl (ra (c := v + 1) rfl rfl rfl rfl (by omega) (by omega)) rfl (a_ rfl rfl (en (xn (nx (rg (m_ rfl rfl (vl (ra (c := ((i + 1 : Nat) : Int)) rfl rfl rfl (by omega) (by omega) (by omega)) rfl (a_ rfl rfl (en (lpe (s := (i, v, o_, s_)) (i + 1, v + 1, o2, s3) [0, 0] ⟨by omega, by have zs := sumTo_step (f := cS) (List.getElem?_eq_getElem (show i < a.length by omega)); simp only [cS] at zs; omega, by grind⟩ (by show a.length - (i + 1) < a.length - i; omega) ⟨rfl, rfl, rfl, trivial⟩ rfl)))))))))))))))
  · exact cf rfl (decide_eq_false h1) (xt (xq (xq (xb (nx (sq (rg (m_ rfl rfl (a_ rfl rfl (en (nx (rt (gr (mkL mS cS k a) (mk_end (by omega)) (ret1 rfl rfl (fun w_ hs_ => turno hs_ 0 rfl (by exact vi (by have z := sumTo_end (f := cS) (l := a) (k := i) (by omega); omega)) (by grind))))))))))))))))
/-! laws.heldStringS -/
set_option maxRecDepth 20000 in
set_option maxHeartbeats 2000000 in
theorem laws_heldStringS (w : World) (k : Int) {Aa0 : Option Addr} {na0 ca0 : Nat} {a : List ByteArray} {sa_ : List Nat} (ha : (Kd.sl Kd.str).Rel w [.slice Aa0 na0 ca0] (mkL mS cS k a) [] sa_) (hk0 : 0 ≤ k) (hk1 : k + ((a.length : Nat) : Int) ≤ 1152921504606846976) : Calls Tryd.prog 31 #[.slice Aa0 na0 ca0, .int .i64 k] w (fun e_ w2_ => e_ = .returned (.int .i64 (k + ((a.length : Nat) : Int))) ∧ Below w.heap.size w w2_) := by
  have La := Kd.sl_len ha; have Ea := Kd.sl_n ha; rw [mkL_len] at La Ea
  refine fnc (X := X 22 w) (args := [.slice Aa0 na0 ca0, .int .i64 k]) (l := [(0, .slice Aa0 na0 ca0), (1, .int .i64 k)]) (G := [dat (Kd.sl Kd.str) [.slice Aa0 na0 ca0] (mkL mS cS k a) ([]) sa_]) Tryd.func31 rfl rfl rfl ⟨rfl, rfl, trivial⟩ (s0d ha (s0n w)).1 ?_
  refine sq (rg (a_ rfl rfl (en (nx (sq (sq (rg (a_ rfl rfl (en (nx (bk ?_)))))))))))
  refine lp (σ := Nat × Int) (fun z_ : Nat × Int => match z_ with | (i, v) => [(0, .slice Aa0 na0 ca0), (1, .int .i64 v), (5, .int .i64 ((i : Nat) : Int))])
      (fun z_ : Nat × Int => match z_ with | (i, v) => [dat (Kd.sl Kd.str) [.slice Aa0 na0 ca0] (mkL mS cS k a) ([]) sa_])
      (fun z_ : Nat × Int => match z_ with | (i, v) => i ≤ a.length ∧ v = k + sumTo cS a i) (fun z_ : Nat × Int => match z_ with | (i, v) => a.length - i) (0, k) [0] ⟨Nat.zero_le _, by simp [sumTo]⟩ ⟨rfl, rfl, rfl, trivial⟩ rfl ?_
  rintro ⟨i, v⟩ hp_
  obtain ⟨hi, hv⟩ := hp_; have z0 := sumTo_nn cS_nn a i; have zt := sumTo_le cS_nn a i; have ze := cS_sum a; have zj := cS_to hi
  refine sq (sq (rg (m_ rfl rfl (m_ rfl rfl (vl (ln rfl rfl rfl) rfl (vl (cm rfl rfl rfl rfl) rfl (en (nx ?_))))))))
  by_cases h1 : ((i : Nat) : Int) < ((na0 : Nat) : Int)
  · refine ct rfl (decide_eq_true h1) (sk (nx (sq (bk (sq (sq ?_))))))
    refine gx 0 i rfl (by first | omega | (rw [mkL_len]; omega)) fun y7 p2 cs_ s3 w6 m8 e4 r5 us3 => ?_
    obtain ⟨rfl, -, -⟩ := r5
    obtain ⟨y9, hy9⟩ := mkL_some m8
    have zy9 : y7 = mtB v := mkL_at' m8 hy9 hv
    have zs := sumTo_step (f := cS) hy9; have zl := sumTo_le cS_nn a (i + 1); have z0 := sumTo_nn cS_nn a i; have ze := cS_sum a; have zc : cS y9 = 1 := rfl
    refine r0 (qv 0 rfl (mv rfl rfl) rfl (by kernel_rfl) (qv 1 rfl (mv rfl rfl) rfl (by kernel_rfl) (qv 2 rfl (ix i e4 rfl rfl rfl rfl rfl (by first | omega | (rw [mkL_len]; omega))) rfl (by kernel_rfl) (qv 3 rfl (ldq (u := .string y7) 0 rfl rfl rfl rfl rfl rfl rfl) rfl (by kernel_rfl) (qv 4 rfl (mv rfl rfl) rfl (by kernel_rfl) (q1 5 [0, 0] rfl (by kernel_rfl) rfl (cs_ (v := .string (mtB v)) (by kernel_rfl) rfl rfl rfl (fun w_ hs_ => by exact laws_markText w_ _ (by omega)) (qn (qv 6 rfl (sqn rfl rfl rfl) rfl (by kernel_rfl) (qe [0, 0] (by kernel_rfl) rfl (nx ?_)))))))))))
    by_cases h10 : decide (y7 = (mtB v)) = true
    · exact cf rfl (not_f h10) (sk (nx (rg (m_ rfl rfl (vl (ra (c := v + 1) rfl rfl rfl rfl (by omega) (by omega)) rfl (a_ rfl rfl (en (xn (nx (rg (m_ rfl rfl (vl (ra (c := ((i + 1 : Nat) : Int)) rfl rfl rfl (by omega) (by omega) (by omega)) rfl (a_ rfl rfl (en (lpe (s := (i, v)) (i + 1, v + 1) [1] ⟨by omega, by omega⟩ (by show a.length - (i + 1) < a.length - i; omega) ⟨rfl, rfl, rfl, trivial⟩ rfl)))))))))))))))
    · exact absurd (decide_eq_true zy9) h10
  · refine cf rfl (decide_eq_false h1) (xt (xq (xq (xb (nx (sq (rg (m_ rfl rfl (a_ rfl rfl (en (nx (rt (ret1 rfl rfl (fun w_ hs_ => ⟨?_, hs_.below⟩))))))))))))))
    exact ri (by have z := sumTo_end (f := cS) (l := a) (k := i) (by omega); omega)
/-! laws.markTextsResult -/
set_option maxRecDepth 20000 in
set_option maxHeartbeats 2000000 in
theorem laws_markTextsResult (w : World) (k : Int) {Aa1 : Option Addr} {ca1 : Nat} {a : TextsResult} {oa_ sa_ : List Nat} (hst : St (nul w) w [dat kTextsResultO [.int .i64 a.code, .slice Aa1 a.words.length ca1] a oa_ sa_]) (hk0 : 0 ≤ k) (hk1 : k + (0 + (a.words.length : Int)) ≤ 1152921504606846976) : Calls Tryd.prog 10 #[.agg #[.int .i64 a.code, .slice Aa1 a.words.length ca1], .int .i64 k] w (TurnO kTextsResultO [.int .i64 a.code, .slice Aa1 a.words.length ca1] (.int .i64 (k + (a.words.length : Int))) w oa_ (mkV_TextsResult k a) (sa_)) := by
  skip
  refine fnc (X := X 10 (nul w)) (args := [.agg #[.int .i64 a.code, .slice Aa1 a.words.length ca1], .int .i64 k]) (l := [(0, .agg #[.int .i64 a.code, .slice Aa1 a.words.length ca1]), (1, .int .i64 k)]) (G := [frm w oa_, dat kTextsResultO [.int .i64 a.code, .slice Aa1 a.words.length ca1] a oa_ sa_]) Tryd.func10 rfl rfl rfl ⟨rfl, rfl, trivial⟩ (⟨hst.fr oa_ (by simp [owns, dat, ptr]), trivial⟩ : _ ∧ True).1 ?_
  refine f1 (gsp (da := (Kd.via Kd.i64 TextsResult.code)) rfl rfl (fun o1 o2 s3 s4 us3 us4 => ?_))
  refine gv (f1 (gv ?_))
  refine sq (rg (bx rfl rfl rfl rfl ?_))
  intro b5
  refine a_ rfl rfl (en (nx (sq (rg (vl (fa rfl rfl rfl) rfl (vl (ldb (u := .slice Aa1 a.words.length ca1) 0 rfl rfl rfl rfl rfl rfl rfl) rfl (m_ rfl rfl (f1 (cto (dk := (Kd.row 9 Kd.str)) (cs := [.slice Aa1 a.words.length ca1]) (x := (mkL mS cS k a.words)) (v := .int .i64 (k + ((a.words.length : Nat) : Int))) (S := (s4)) (by kernel_rfl) rfl rfl rfl (snt 0 rfl) w.heap.size (fun w_ hs_ => (hs_.mod 3 rfl).size) (fun w_ hs_ => laws_markStringS w_ _ ((hs_.pk [0] rfl).nl) (by omega) (by omega)) (fun o6 s7 t8 => ?_))))))))))
  exact a_ rfl rfl (en (nx (sq (rg (m_ rfl rfl (a_ rfl rfl (en (nx (rt (gs Kd.i64 [.int .i64 a.code] ((mkV_TextsResult k a).code) (fun _ => ⟨rfl, rfl, rfl⟩) (gj (da := (Kd.via Kd.i64 TextsResult.code)) (db := (Kd.via (Kd.row 9 Kd.str) TextsResult.words)) (x := (mkV_TextsResult k a)) (cs := [.int .i64 a.code, .slice Aa1 a.words.length ca1]) rfl (ret1 rfl rfl (fun w_ hs_ => turno hs_ 2 rfl (by exact vi (by omega)) (see_app see_nil (by grind)))))))))))))))
/-! laws.heldTextsResult -/
set_option maxRecDepth 20000 in
set_option maxHeartbeats 2000000 in
theorem laws_heldTextsResult (w : World) (k : Int) {Aa1 : Option Addr} {na1 ca1 : Nat} {a : TextsResult} {sa_ : List Nat} (ha : kTextsResultS.Rel w [.int .i64 ((mkV_TextsResult k a).code), .slice Aa1 na1 ca1] (mkV_TextsResult k a) [] sa_) (hk0 : 0 ≤ k) (hk1 : k + (0 + (a.words.length : Int)) ≤ 1152921504606846976) : Calls Tryd.prog 11 #[.agg #[.int .i64 ((mkV_TextsResult k a).code), .slice Aa1 na1 ca1], .int .i64 k] w (fun e_ w2_ => e_ = .returned (.int .i64 (k + (a.words.length : Int))) ∧ Below w.heap.size w w2_) := by
  skip
  refine fnc (X := X 12 w) (args := [.agg #[.int .i64 ((mkV_TextsResult k a).code), .slice Aa1 na1 ca1], .int .i64 k]) (l := [(0, .agg #[.int .i64 ((mkV_TextsResult k a).code), .slice Aa1 na1 ca1]), (1, .int .i64 k)]) (G := [dat kTextsResultS [.int .i64 ((mkV_TextsResult k a).code), .slice Aa1 na1 ca1] (mkV_TextsResult k a) ([]) sa_]) Tryd.func11 rfl rfl rfl ⟨rfl, rfl, trivial⟩ (s0d ha (s0n w)).1 ?_
  refine sq (rg (bx rfl rfl rfl rfl ?_))
  intro b1
  refine a_ rfl rfl (en (nx (sq (rg (vl (fa rfl rfl rfl) rfl (vl (ldb (u := .slice Aa1 na1 ca1) 0 rfl rfl rfl rfl rfl rfl rfl) rfl (m_ rfl rfl ?_)))))))
  refine gd 1 kTextsResultS_p1_1 rfl (cs' := [.slice Aa1 na1 ca1]) rfl fun s2 w_ rs2 us2 => ?_
  have Ls2 := Kd.sl_len rs2; have Cs2 := Kd.sl_cap rs2
  refine gr (mkL mS cS k a.words) rfl (cs_ (v := .int .i64 (k + ((a.words.length : Nat) : Int))) (by kernel_rfl) rfl rfl rfl (fun w_ hs_ => laws_heldStringS w_ _ (hs_.at 0 rfl) (by omega) (by omega)) (a_ rfl rfl (en (nx (sq (sq (rg (m_ rfl rfl (vl (cm rfl rfl rfl rfl) rfl (en (nx ?_)))))))))))
  by_cases h3 : (k + ((a.words.length : Nat) : Int)) < (0 : Int)
  · exfalso; omega
  · refine cf rfl (decide_eq_false h3) (sk (nx (sq (rg (m_ rfl rfl (a_ rfl rfl (en (nx (rt (ret1 rfl rfl (fun w_ hs_ => ⟨?_, hs_.below⟩)))))))))))
    exact ri (by omega)
/-! laws.FnExactWordsOf -/
set_option maxRecDepth 20000 in
set_option maxHeartbeats 2000000 in
theorem laws_FnExactWordsOf (w : World) (aLine : ByteArray) (hl : TabL w) : Calls Tryd.prog 3 #[.string aLine] w (fun e_ w2_ => e_ = .returned (.bool true) ∧ Below w.heap.size w w2_) := by
  have nr := wordsRes_len aLine
  refine fnc (X := X 44 w) (args := [.string aLine]) (l := [(0, .string aLine)]) (G := []) Tryd.func3 rfl rfl rfl ⟨rfl, trivial⟩ (s0n w).1 ?_
  refine sq (rg (a_ rfl rfl (en (nx (sq (sq (rg (m_ rfl rfl (vl (lns Tryd.underlying9 rfl rfl) rfl (vl (cm rfl rfl rfl rfl) rfl (en (nx ?_))))))))))))
  by_cases h1 : (1048576 : Int) < ((aLine.size : Nat) : Int)
  · refine ct rfl (decide_eq_true h1) (sq (rg (a_ rfl rfl (en (nx (rt (xr (ret1 rfl rfl (fun w_ hs_ => ⟨?_, hs_.below⟩)))))))))
    rfl
  · refine cf rfl (decide_eq_false h1) (sk (nx (sq (rg (m_ rfl rfl (cm_ (dk := kTextsResultO) (x := (wordsRes aLine)) (S := []) (by kernel_rfl) rfl rfl rfl sn0 (fun w_ hs_ => spec_WordsOf w_ _) (fun cs_ o4 s5 w_ r6 t7 => ?_)))))))
    obtain ⟨A2, c3, rfl⟩ := kTextsResultO_sh r6
    refine al zero24 rfl rfl rfl ?_
    intro b9
    refine sto rfl rfl rfl rfl rfl rfl rfl (cs' := [.int .i64 ((wordsRes aLine).code), .slice A2 ((wordsRes aLine).words.length) c3]) rfl (en (nx (sq (rg (m_ rfl rfl (cm_ (dk := kTextsResultO) (x := (wordsRes aLine)) (S := []) (by kernel_rfl) rfl rfl rfl sn0 (fun w_ hs_ => impl_WordsOf w_ _ (hl.mono hs_.below)) (fun cs_ o12 s13 w_ r14 t15 => ?_)))))))
    obtain ⟨A10, c11, rfl⟩ := kTextsResultO_sh r14
    refine al zero24 rfl rfl rfl ?_
    intro b17
    refine sto rfl rfl rfl rfl rfl rfl rfl (cs' := [.int .i64 ((wordsRes aLine).code), .slice A10 ((wordsRes aLine).words.length) c11]) rfl (en (nx (sq (sq (rg (vl (ldb 0 rfl rfl rfl rfl rfl rfl rfl) rfl (vl (ldb 2 rfl rfl rfl rfl rfl rfl rfl) rfl (cs_ (v := .bool (decide ((wordsRes aLine) = (wordsRes aLine)))) (by kernel_rfl) rfl rfl rfl (fun w_ hs_ => bor kTextsResultO_seal (hs_.at 1 rfl) fun _ lb0_ => bor kTextsResultO_seal (hs_.at 3 rfl) fun _ lb1_ => laws_eqTextsResult w_ lb0_ lb1_) (vl (nt rfl rfl) rfl (en (nx (cf rfl (not_f (decide_eq_true rfl)) (sk (nx (sq (rg (a_ rfl rfl (en (nx (sq (rg (vl (ldb 0 rfl rfl rfl rfl rfl rfl rfl) rfl (m_ rfl rfl (f1 (cto (dk := kTextsResultO) (cs := [.int .i64 ((wordsRes aLine).code), .slice A10 ((wordsRes aLine).words.length) c11]) (x := (mkV_TextsResult 1 (wordsRes aLine))) (v := .int .i64 (1 + ((wordsRes aLine).words.length : Int))) (S := (s13)) (by kernel_rfl) rfl rfl rfl (snt 0 rfl) _ (fun _ hs_ => hs_.below.size) (fun w_ hs_ => laws_markTextsResult w_ _ ((hs_.pk [0] rfl).nl) (by omega) (by omega)) (fun o18 s19 t20 => ?_))))))))))))))))))))))))))
    refine a_ rfl rfl (en (nx (sq (rg (a_ rfl rfl (en (nx (sq (rg (vl (ldb 1 rfl rfl rfl rfl rfl rfl rfl) rfl (m_ rfl rfl (cs_ (v := .int .i64 (1 + ((wordsRes aLine).words.length : Int))) (by kernel_rfl) rfl rfl rfl (fun w_ hs_ => bor kTextsResultO_seal (hs_.at 0 rfl) fun _ lb0_ => laws_heldTextsResult w_ _ lb0_ (by omega) (by omega)) (a_ rfl rfl (en (nx (sq (sq (rg (m_ rfl rfl (vl (cm rfl rfl rfl rfl) rfl (en (nx ?_))))))))))))))))))))))
    by_cases h21 : (1 + ((wordsRes aLine).words.length : Int)) < (0 : Int)
    · exfalso; omega
    · refine cf rfl (decide_eq_false h21) (sk (nx (sq (sq (rg (m_ rfl rfl (m_ rfl rfl (vl (cm rfl rfl rfl rfl) rfl (en (nx (cf rfl (bne_eq_false_iff_eq.2 rfl) (sk (nx (sq (rg (m_ rfl rfl (cm_ (dk := kTextsResultO) (x := (wordsRes aLine)) (S := []) (by kernel_rfl) rfl rfl rfl sn0 (fun w_ hs_ => impl_WordsOf w_ _ (hl.mono hs_.below)) (fun cs_ o24 s25 w_ r26 t27 => ?_))))))))))))))))))
      obtain ⟨A22, c23, rfl⟩ := kTextsResultO_sh r26
      refine al zero24 rfl rfl rfl ?_
      intro b29
      refine sto rfl rfl rfl rfl rfl rfl rfl (cs' := [.int .i64 ((wordsRes aLine).code), .slice A22 ((wordsRes aLine).words.length) c23]) rfl (en (nx (sq (sq (rg (vl (ldb 0 rfl rfl rfl rfl rfl rfl rfl) rfl (vl (ldb 4 rfl rfl rfl rfl rfl rfl rfl) rfl (cs_ (v := .bool (decide ((wordsRes aLine) = (wordsRes aLine)))) (by kernel_rfl) rfl rfl rfl (fun w_ hs_ => bor kTextsResultO_seal (hs_.at 1 rfl) fun _ lb0_ => bor kTextsResultO_seal (hs_.at 5 rfl) fun _ lb1_ => laws_eqTextsResult w_ lb0_ lb1_) (vl (nt rfl rfl) rfl (en (nx (cf rfl (not_f (decide_eq_true rfl)) (sk (nx (sq (rg (a_ rfl rfl (en (nx (sq (rg (vl (ldb 3 rfl rfl rfl rfl rfl rfl rfl) rfl (m_ rfl rfl (cs_ (v := .int .i64 (1 + ((wordsRes aLine).words.length : Int))) (by kernel_rfl) rfl rfl rfl (fun w_ hs_ => bor kTextsResultO_seal (hs_.at 2 rfl) fun _ lb0_ => laws_heldTextsResult w_ _ lb0_ (by omega) (by omega)) (a_ rfl rfl (en (nx (sq (sq (rg (m_ rfl rfl (vl (cm rfl rfl rfl rfl) rfl (en (nx (cf rfl (decide_eq_false h21) (sk (nx (sq (sq (rg (m_ rfl rfl (m_ rfl rfl (vl (cm rfl rfl rfl rfl) rfl (en (nx (cf rfl (bne_eq_false_iff_eq.2 rfl) (sk (nx (sq (rg (a_ rfl rfl (en (nx (rt (ret1 rfl rfl (fun w_ hs_ => ⟨?_, hs_.below⟩))))))))))))))))))))))))))))))))))))))))))))))))))))))))
      rfl
end Go.Proofs.YtpjepjnemnmieaaDoor.Sx
