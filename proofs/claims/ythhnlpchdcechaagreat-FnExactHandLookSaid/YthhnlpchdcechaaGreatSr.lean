/- How an argument's reading stands in memory, for each type of argument. -/
import Derived.Test.YthhnlpchdcechaaGreatSy9
namespace Go.Proofs.YthhnlpchdcechaaGreat.Sx
open Go Go.RowKit Go.Proofs
set_option linter.unusedVariables false
set_option linter.unusedSimpArgs false
theorem i64_op2 : Opens Tryz.prog 2 Kd.i64 := Opens.i64 Tryz.underlying2 (by kernel_rfl)
theorem sl_op22 : Opens Tryz.prog 22 (Kd.sl Kd.i64) := Opens.sl Tryz.underlying22 (by kernel_rfl) (of_decide_eq_true (by kernel_rfl)) (by decide) i64_op2
theorem kRectS_op24 : Opens Tryz.prog 24 kRectS := by
  refine Opens.st Tryz.underlying24 (by kernel_rfl) fun H enc w fuel cs ds h => ?_
  obtain ⟨⟨x0, s0, r0⟩, ds, h⟩ := flds1 h sl_op22
  obtain ⟨⟨x1, s1, r1⟩, ds, h⟩ := flds1 h sl_op22
  exact ⟨⟨x0, x1⟩, _, (cat_at (x := (⟨x0, x1⟩ : Rect)) r0 r1)⟩
theorem kQueryS_op26 : Opens Tryz.prog 26 kQueryS := by
  refine Opens.st Tryz.underlying26 (by kernel_rfl) fun H enc w fuel cs ds h => ?_
  obtain ⟨⟨x0, s0, r0⟩, ds, h⟩ := flds1 h i64_op2
  obtain ⟨⟨x1, s1, r1⟩, ds, h⟩ := flds1 h kRectS_op24
  obtain ⟨⟨x2, s2, r2⟩, ds, h⟩ := flds1 h sl_op22
  obtain ⟨⟨x3, s3, r3⟩, ds, h⟩ := flds1 h i64_op2
  exact ⟨⟨x0, x1, x2, x3⟩, _, (cat_at (x := (⟨x0, x1, x2, x3⟩ : Query)) r0 (cat_at (x := (⟨x0, x1, x2, x3⟩ : Query)) r1 (cat_at (x := (⟨x0, x1, x2, x3⟩ : Query)) r2 r3)))⟩
theorem kMarkS_op176 : Opens Tryz.prog 176 kMarkS := by
  refine Opens.st Tryz.underlying176 (by kernel_rfl) fun H enc w fuel cs ds h => ?_
  obtain ⟨⟨x0, s0, r0⟩, ds, h⟩ := flds1 h i64_op2
  obtain ⟨⟨x1, s1, r1⟩, ds, h⟩ := flds1 h i64_op2
  obtain ⟨⟨x2, s2, r2⟩, ds, h⟩ := flds1 h i64_op2
  exact ⟨⟨x0, x1, x2⟩, _, (cat_at (x := (⟨x0, x1, x2⟩ : Mark)) r0 (cat_at (x := (⟨x0, x1, x2⟩ : Mark)) r1 r2))⟩
theorem sl_op27 : Opens Tryz.prog 27 (Kd.sl kMarkS) := Opens.sl Tryz.underlying27 (by kernel_rfl) (of_decide_eq_true (by kernel_rfl)) (by decide) kMarkS_op176
theorem kPairS_op157 : Opens Tryz.prog 157 kPairS := by
  refine Opens.st Tryz.underlying157 (by kernel_rfl) fun H enc w fuel cs ds h => ?_
  obtain ⟨⟨x0, s0, r0⟩, ds, h⟩ := flds1 h i64_op2
  obtain ⟨⟨x1, s1, r1⟩, ds, h⟩ := flds1 h kRectS_op24
  exact ⟨⟨x0, x1⟩, _, (cat_at (x := (⟨x0, x1⟩ : Pair)) r0 r1)⟩
theorem sl_op28 : Opens Tryz.prog 28 (Kd.sl kPairS) := Opens.sl Tryz.underlying28 (by kernel_rfl) (of_decide_eq_true (by kernel_rfl)) (by decide) kPairS_op157
theorem kLookS_op30 : Opens Tryz.prog 30 kLookS := by
  refine Opens.st Tryz.underlying30 (by kernel_rfl) fun H enc w fuel cs ds h => ?_
  obtain ⟨⟨x0, s0, r0⟩, ds, h⟩ := flds1 h kQueryS_op26
  obtain ⟨⟨x1, s1, r1⟩, ds, h⟩ := flds1 h sl_op27
  obtain ⟨⟨x2, s2, r2⟩, ds, h⟩ := flds1 h sl_op28
  exact ⟨⟨x0, x1, x2⟩, _, (cat_at (x := (⟨x0, x1, x2⟩ : Look)) r0 (cat_at (x := (⟨x0, x1, x2⟩ : Look)) r1 r2))⟩
theorem kEntryS_op160 : Opens Tryz.prog 160 kEntryS := by
  refine Opens.st Tryz.underlying160 (by kernel_rfl) fun H enc w fuel cs ds h => ?_
  obtain ⟨⟨x0, s0, r0⟩, ds, h⟩ := flds1 h kRectS_op24
  obtain ⟨⟨x1, s1, r1⟩, ds, h⟩ := flds1 h i64_op2
  obtain ⟨⟨x2, s2, r2⟩, ds, h⟩ := flds1 h i64_op2
  exact ⟨⟨x0, x1, x2⟩, _, (cat_at (x := (⟨x0, x1, x2⟩ : Entry)) r0 (cat_at (x := (⟨x0, x1, x2⟩ : Entry)) r1 r2))⟩
theorem sl_op31 : Opens Tryz.prog 31 (Kd.sl kEntryS) := Opens.sl Tryz.underlying31 (by kernel_rfl) (of_decide_eq_true (by kernel_rfl)) (by decide) kEntryS_op160
theorem kMovedS_op33 : Opens Tryz.prog 33 kMovedS := by
  refine Opens.st Tryz.underlying33 (by kernel_rfl) fun H enc w fuel cs ds h => ?_
  obtain ⟨⟨x0, s0, r0⟩, ds, h⟩ := flds1 h i64_op2
  obtain ⟨⟨x1, s1, r1⟩, ds, h⟩ := flds1 h sl_op31
  exact ⟨⟨x0, x1⟩, _, (cat_at (x := (⟨x0, x1⟩ : Moved)) r0 r1)⟩
end Go.Proofs.YthhnlpchdcechaaGreat.Sx
