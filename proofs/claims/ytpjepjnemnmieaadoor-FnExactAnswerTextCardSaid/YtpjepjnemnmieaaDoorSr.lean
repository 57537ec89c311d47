/- How an argument's reading stands in memory, for each type of argument. -/
import Derived.Test.YtpjepjnemnmieaaDoorSy0
namespace Go.Proofs.YtpjepjnemnmieaaDoor.Sx
open Go Go.RowKit Go.Proofs
set_option linter.unusedVariables false
set_option linter.unusedSimpArgs false
theorem i64_op2 : Opens Tryd.prog 2 Kd.i64 := Opens.i64 Tryd.underlying2 (by kernel_rfl)
theorem sl_op29 : Opens Tryd.prog 29 (Kd.sl Kd.i64) := Opens.sl Tryd.underlying29 (by kernel_rfl) (of_decide_eq_true (by kernel_rfl)) (by decide) i64_op2
theorem kRectS_op31 : Opens Tryd.prog 31 kRectS := by
  refine Opens.st Tryd.underlying31 (by kernel_rfl) fun H enc w fuel cs ds h => ?_
  obtain ⟨⟨x0, s0, r0⟩, ds, h⟩ := flds1 h sl_op29
  obtain ⟨⟨x1, s1, r1⟩, ds, h⟩ := flds1 h sl_op29
  exact ⟨⟨x0, x1⟩, _, (cat_at (x := (⟨x0, x1⟩ : Rect)) r0 r1)⟩
theorem kPairS_op33 : Opens Tryd.prog 33 kPairS := by
  refine Opens.st Tryd.underlying33 (by kernel_rfl) fun H enc w fuel cs ds h => ?_
  obtain ⟨⟨x0, s0, r0⟩, ds, h⟩ := flds1 h i64_op2
  obtain ⟨⟨x1, s1, r1⟩, ds, h⟩ := flds1 h kRectS_op31
  exact ⟨⟨x0, x1⟩, _, (cat_at (x := (⟨x0, x1⟩ : Pair)) r0 r1)⟩
theorem sl_op49 : Opens Tryd.prog 49 (Kd.sl kPairS) := Opens.sl Tryd.underlying49 (by kernel_rfl) (of_decide_eq_true (by kernel_rfl)) (by decide) kPairS_op33
theorem kAnswerS_op51 : Opens Tryd.prog 51 kAnswerS := by
  refine Opens.st Tryd.underlying51 (by kernel_rfl) fun H enc w fuel cs ds h => ?_
  obtain ⟨⟨x0, s0, r0⟩, ds, h⟩ := flds1 h i64_op2
  obtain ⟨⟨x1, s1, r1⟩, ds, h⟩ := flds1 h sl_op49
  exact ⟨⟨x0, x1⟩, _, (cat_at (x := (⟨x0, x1⟩ : Answer)) r0 r1)⟩
end Go.Proofs.YtpjepjnemnmieaaDoor.Sx
