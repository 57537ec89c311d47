/- How an argument's reading stands in memory, for each type of argument. -/
import Derived.Test.YthhnlpchdcechaaGreatSy15
namespace Go.Proofs.YthhnlpchdcechaaGreat.Sx
open Go Go.RowKit Go.Proofs
set_option linter.unusedVariables false
set_option linter.unusedSimpArgs false
theorem i64_op2 : Opens Tryz.prog 2 Kd.i64 := Opens.i64 Tryz.underlying2 (by kernel_rfl)
theorem sl_op22 : Opens Tryz.prog 22 (Kd.sl Kd.i64) := Opens.sl Tryz.underlying22 (by kernel_rfl) (of_decide_eq_true (by kernel_rfl)) (by decide) i64_op2
theorem kRectS_op24 : Opens Tryz.prog 24 kRectS := by
  refine Opens.st Tryz.underlying24 (by kernel_rfl) fun H enc w fuel cs ds h => ?_
  obtain ⟨⟨x0, s0, r0⟩, ds, h⟩ := flds1 h sl_op22
  obtain ⟨⟨x1, s1, r1⟩, ds, h⟩ := flds1 h sl_op22
  exact ⟨⟨x0, x1⟩, _, (cat_at (x := (⟨x0, x1⟩ : Rect)) r0 r1)⟩
theorem kEntryS_op160 : Opens Tryz.prog 160 kEntryS := by
  refine Opens.st Tryz.underlying160 (by kernel_rfl) fun H enc w fuel cs ds h => ?_
  obtain ⟨⟨x0, s0, r0⟩, ds, h⟩ := flds1 h kRectS_op24
  obtain ⟨⟨x1, s1, r1⟩, ds, h⟩ := flds1 h i64_op2
  obtain ⟨⟨x2, s2, r2⟩, ds, h⟩ := flds1 h i64_op2
  exact ⟨⟨x0, x1, x2⟩, _, (cat_at (x := (⟨x0, x1, x2⟩ : Entry)) r0 (cat_at (x := (⟨x0, x1, x2⟩ : Entry)) r1 r2))⟩
theorem sl_op31 : Opens Tryz.prog 31 (Kd.sl kEntryS) := Opens.sl Tryz.underlying31 (by kernel_rfl) (of_decide_eq_true (by kernel_rfl)) (by decide) kEntryS_op160
theorem kNodeS_op194 : Opens Tryz.prog 194 kNodeS := by
  refine Opens.st Tryz.underlying194 (by kernel_rfl) fun H enc w fuel cs ds h => ?_
  obtain ⟨⟨x0, s0, r0⟩, ds, h⟩ := flds1 h i64_op2
  obtain ⟨⟨x1, s1, r1⟩, ds, h⟩ := flds1 h i64_op2
  obtain ⟨⟨x2, s2, r2⟩, ds, h⟩ := flds1 h i64_op2
  obtain ⟨⟨x3, s3, r3⟩, ds, h⟩ := flds1 h sl_op31
  exact ⟨⟨x0, x1, x2, x3⟩, _, (cat_at (x := (⟨x0, x1, x2, x3⟩ : Node)) r0 (cat_at (x := (⟨x0, x1, x2, x3⟩ : Node)) r1 (cat_at (x := (⟨x0, x1, x2, x3⟩ : Node)) r2 r3)))⟩
theorem sl_op58 : Opens Tryz.prog 58 (Kd.sl kNodeS) := Opens.sl Tryz.underlying58 (by kernel_rfl) (of_decide_eq_true (by kernel_rfl)) (by decide) kNodeS_op194
theorem kRetiredS_op197 : Opens Tryz.prog 197 kRetiredS := by
  refine Opens.st Tryz.underlying197 (by kernel_rfl) fun H enc w fuel cs ds h => ?_
  obtain ⟨⟨x0, s0, r0⟩, ds, h⟩ := flds1 h i64_op2
  obtain ⟨⟨x1, s1, r1⟩, ds, h⟩ := flds1 h sl_op22
  exact ⟨⟨x0, x1⟩, _, (cat_at (x := (⟨x0, x1⟩ : Retired)) r0 r1)⟩
theorem sl_op59 : Opens Tryz.prog 59 (Kd.sl kRetiredS) := Opens.sl Tryz.underlying59 (by kernel_rfl) (of_decide_eq_true (by kernel_rfl)) (by decide) kRetiredS_op197
theorem kArenaS_op61 : Opens Tryz.prog 61 kArenaS := by
  refine Opens.st Tryz.underlying61 (by kernel_rfl) fun H enc w fuel cs ds h => ?_
  obtain ⟨⟨x0, s0, r0⟩, ds, h⟩ := flds1 h i64_op2
  obtain ⟨⟨x1, s1, r1⟩, ds, h⟩ := flds1 h sl_op58
  obtain ⟨⟨x2, s2, r2⟩, ds, h⟩ := flds1 h sl_op22
  obtain ⟨⟨x3, s3, r3⟩, ds, h⟩ := flds1 h sl_op59
  exact ⟨⟨x0, x1, x2, x3⟩, _, (cat_at (x := (⟨x0, x1, x2, x3⟩ : Arena)) r0 (cat_at (x := (⟨x0, x1, x2, x3⟩ : Arena)) r1 (cat_at (x := (⟨x0, x1, x2, x3⟩ : Arena)) r2 r3)))⟩
theorem kTreeS_op82 : Opens Tryz.prog 82 kTreeS := by
  refine Opens.st Tryz.underlying82 (by kernel_rfl) fun H enc w fuel cs ds h => ?_
  obtain ⟨⟨x0, s0, r0⟩, ds, h⟩ := flds1 h i64_op2
  obtain ⟨⟨x1, s1, r1⟩, ds, h⟩ := flds1 h kArenaS_op61
  obtain ⟨⟨x2, s2, r2⟩, ds, h⟩ := flds1 h i64_op2
  obtain ⟨⟨x3, s3, r3⟩, ds, h⟩ := flds1 h i64_op2
  obtain ⟨⟨x4, s4, r4⟩, ds, h⟩ := flds1 h i64_op2
  exact ⟨⟨x0, x1, x2, x3, x4⟩, _, (cat_at (x := (⟨x0, x1, x2, x3, x4⟩ : Tree)) r0 (cat_at (x := (⟨x0, x1, x2, x3, x4⟩ : Tree)) r1 (cat_at (x := (⟨x0, x1, x2, x3, x4⟩ : Tree)) r2 (cat_at (x := (⟨x0, x1, x2, x3, x4⟩ : Tree)) r3 r4))))⟩
end Go.Proofs.YthhnlpchdcechaaGreat.Sx
