/- What functions of the program answer, each at every input that its row names; walked through their code. -/
import Derived.Test.YtfaflffdekoimaaGreatSy9
namespace Go.Proofs.YtfaflffdekoimaaGreat.Sx
open Go Go.RowKit Go.Proofs
set_option linter.unusedVariables false
set_option linter.unusedSimpArgs false
def tab10 : Tab := { size := [], off := [], elem := [] }
theorem tab_ok10 : tab10.check Tryz.prog = true := by kernel_rfl
noncomputable abbrev X10 (N : Nat) (w : World) : Cx := ⟨Tryz.prog, tab10, tab_ok10, wide, N, w, none, []⟩

structure IntResult where
  code : Int
  value : Int
  deriving DecidableEq
def kIntResultS : Kd IntResult := ((Kd.i64.via IntResult.code).cat (Kd.i64.via IntResult.value))
theorem kIntResultS_sh {w : World} {cs : List Value} {x : IntResult} {o s : List Nat} (h : kIntResultS.Rel w cs x o s) : cs = [.int .i64 x.code, .int .i64 x.value] := by
  obtain ⟨c10, c20, o10, o20, s10, s20, rfl, rfl, rfl, h0, k0⟩ := h
  obtain ⟨rfl, -, -⟩ := h0
  obtain ⟨rfl, -, -⟩ := k0
  exact rfl
theorem kIntResultS_self : Kd.Seals kIntResultS kIntResultS := (Kd.Seals.cat (Kd.Seals.via Kd.Seals.i64 _) (Kd.Seals.via Kd.Seals.i64 _))
theorem kIntResultS_pure : Kd.Pure kIntResultS := (Kd.Pure.cat (Kd.Pure.via Kd.Pure.i64 _) (Kd.Pure.via Kd.Pure.i64 _))
def kIntResultO : Kd IntResult := ((Kd.i64.via IntResult.code).cat (Kd.i64.via IntResult.value))
theorem kIntResultO_sh {w : World} {cs : List Value} {x : IntResult} {o s : List Nat} (h : kIntResultO.Rel w cs x o s) : cs = [.int .i64 x.code, .int .i64 x.value] := by
  obtain ⟨c10, c20, o10, o20, s10, s20, rfl, rfl, rfl, h0, k0⟩ := h
  obtain ⟨rfl, -, -⟩ := h0
  obtain ⟨rfl, -, -⟩ := k0
  exact rfl
theorem kIntResultO_seal : Kd.Seals kIntResultO kIntResultS := (Kd.Seals.cat (Kd.Seals.via Kd.Seals.i64 _) (Kd.Seals.via Kd.Seals.i64 _))
theorem IntResult_eq (a b : IntResult) : decide (a = b) = (decide (a.code = b.code) && decide (a.value = b.value)) := by
  cases a; cases b; rw [Bool.eq_iff_iff]; simp
theorem tree_0 {t : Tree} (h : treeFault t = 0) : Sound t.arena ∧ isPlace t.arena t.root = true ∧ treeRight t = true := by
  unfold treeFault at h
  split at h
  · rename_i h1
    split at h
    · rename_i h2
      split at h
      · rename_i h3; exact ⟨arena_0 h1, h2.2.1, h3⟩
      · cases h
    · cases h
  · rename_i h1; exact absurd h h1
def heightOf (t : Tree) : IntResult := if treeFault t = 0 then ⟨0, (nodeAt t.arena t.root).level + 1⟩ else ⟨treeFault t, 0⟩
def valued (c v : Int) : IntResult := if c = 0 then ⟨0, v⟩ else ⟨c, 0⟩
theorem valued_h {t : Tree} : valued (treeFault t) ((nodeAt t.arena t.root).level + 1) = heightOf t := rfl
end Go.Proofs.YtfaflffdekoimaaGreat.Sx
