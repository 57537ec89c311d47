/- How an argument's reading stands in memory, for each type of argument. -/
import Derived.Test.YtkilionclpeonaaSy11
namespace Go.Proofs.Ytkilionclpeonaa.Sx
open Go Go.RowKit Go.Proofs
set_option linter.unusedVariables false
set_option linter.unusedSimpArgs false
theorem i64_op2 : Opens Try.prog 2 Kd.i64 := Opens.i64 Try.underlying2 (by kernel_rfl)
theorem sl_op23 : Opens Try.prog 23 (Kd.sl Kd.i64) := Opens.sl Try.underlying23 (by kernel_rfl) (of_decide_eq_true (by kernel_rfl)) (by decide) i64_op2
theorem kRectS_op25 : Opens Try.prog 25 kRectS := by
  refine Opens.st Try.underlying25 (by kernel_rfl) fun H enc w fuel cs ds h => ?_
  obtain ⟨⟨x0, s0, r0⟩, ds, h⟩ := flds1 h sl_op23
  obtain ⟨⟨x1, s1, r1⟩, ds, h⟩ := flds1 h sl_op23
  exact ⟨⟨x0, x1⟩, _, (cat_at (x := (⟨x0, x1⟩ : Rect)) r0 r1)⟩
theorem kPairS_op60 : Opens Try.prog 60 kPairS := by
  refine Opens.st Try.underlying60 (by kernel_rfl) fun H enc w fuel cs ds h => ?_
  obtain ⟨⟨x0, s0, r0⟩, ds, h⟩ := flds1 h i64_op2
  obtain ⟨⟨x1, s1, r1⟩, ds, h⟩ := flds1 h kRectS_op25
  exact ⟨⟨x0, x1⟩, _, (cat_at (x := (⟨x0, x1⟩ : Pair)) r0 r1)⟩
theorem sl_op22 : Opens Try.prog 22 (Kd.sl kPairS) := Opens.sl Try.underlying22 (by kernel_rfl) (of_decide_eq_true (by kernel_rfl)) (by decide) kPairS_op60
theorem kQueryS_op27 : Opens Try.prog 27 kQueryS := by
  refine Opens.st Try.underlying27 (by kernel_rfl) fun H enc w fuel cs ds h => ?_
  obtain ⟨⟨x0, s0, r0⟩, ds, h⟩ := flds1 h i64_op2
  obtain ⟨⟨x1, s1, r1⟩, ds, h⟩ := flds1 h kRectS_op25
  obtain ⟨⟨x2, s2, r2⟩, ds, h⟩ := flds1 h sl_op23
  obtain ⟨⟨x3, s3, r3⟩, ds, h⟩ := flds1 h i64_op2
  exact ⟨⟨x0, x1, x2, x3⟩, _, (cat_at (x := (⟨x0, x1, x2, x3⟩ : Query)) r0 (cat_at (x := (⟨x0, x1, x2, x3⟩ : Query)) r1 (cat_at (x := (⟨x0, x1, x2, x3⟩ : Query)) r2 r3)))⟩
theorem kMarkS_op103 : Opens Try.prog 103 kMarkS := by
  refine Opens.st Try.underlying103 (by kernel_rfl) fun H enc w fuel cs ds h => ?_
  obtain ⟨⟨x0, s0, r0⟩, ds, h⟩ := flds1 h i64_op2
  obtain ⟨⟨x1, s1, r1⟩, ds, h⟩ := flds1 h i64_op2
  obtain ⟨⟨x2, s2, r2⟩, ds, h⟩ := flds1 h i64_op2
  exact ⟨⟨x0, x1, x2⟩, _, (cat_at (x := (⟨x0, x1, x2⟩ : Mark)) r0 (cat_at (x := (⟨x0, x1, x2⟩ : Mark)) r1 r2))⟩
theorem sl_op46 : Opens Try.prog 46 (Kd.sl kMarkS) := Opens.sl Try.underlying46 (by kernel_rfl) (of_decide_eq_true (by kernel_rfl)) (by decide) kMarkS_op103
theorem kLookS_op48 : Opens Try.prog 48 kLookS := by
  refine Opens.st Try.underlying48 (by kernel_rfl) fun H enc w fuel cs ds h => ?_
  obtain ⟨⟨x0, s0, r0⟩, ds, h⟩ := flds1 h kQueryS_op27
  obtain ⟨⟨x1, s1, r1⟩, ds, h⟩ := flds1 h sl_op46
  obtain ⟨⟨x2, s2, r2⟩, ds, h⟩ := flds1 h sl_op22
  exact ⟨⟨x0, x1, x2⟩, _, (cat_at (x := (⟨x0, x1, x2⟩ : Look)) r0 (cat_at (x := (⟨x0, x1, x2⟩ : Look)) r1 r2))⟩
end Go.Proofs.Ytkilionclpeonaa.Sx
