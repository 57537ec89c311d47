/- How an argument's reading stands in memory, for each type of argument. -/
import Derived.Test.YtfaflffdekoimaaGreatSy24
namespace Go.Proofs.YtfaflffdekoimaaGreat.Sx
open Go Go.RowKit Go.Proofs
set_option linter.unusedVariables false
set_option linter.unusedSimpArgs false
theorem i64_op2 : Opens Tryz.prog 2 Kd.i64 := Opens.i64 Tryz.underlying2 (by kernel_rfl)
theorem sl_op23 : Opens Tryz.prog 23 (Kd.sl Kd.i64) := Opens.sl Tryz.underlying23 (by kernel_rfl) (of_decide_eq_true (by kernel_rfl)) (by decide) i64_op2
theorem kRectS_op30 : Opens Tryz.prog 30 kRectS := by
  refine Opens.st Tryz.underlying30 (by kernel_rfl) fun H enc w fuel cs ds h => ?_
  obtain ⟨⟨x0, s0, r0⟩, ds, h⟩ := flds1 h sl_op23
  obtain ⟨⟨x1, s1, r1⟩, ds, h⟩ := flds1 h sl_op23
  exact ⟨⟨x0, x1⟩, _, (cat_at (x := (⟨x0, x1⟩ : Rect)) r0 r1)⟩
theorem kEntryS_op184 : Opens Tryz.prog 184 kEntryS := by
  refine Opens.st Tryz.underlying184 (by kernel_rfl) fun H enc w fuel cs ds h => ?_
  obtain ⟨⟨x0, s0, r0⟩, ds, h⟩ := flds1 h kRectS_op30
  obtain ⟨⟨x1, s1, r1⟩, ds, h⟩ := flds1 h i64_op2
  obtain ⟨⟨x2, s2, r2⟩, ds, h⟩ := flds1 h i64_op2
  exact ⟨⟨x0, x1, x2⟩, _, (cat_at (x := (⟨x0, x1, x2⟩ : Entry)) r0 (cat_at (x := (⟨x0, x1, x2⟩ : Entry)) r1 r2))⟩
theorem sl_op107 : Opens Tryz.prog 107 (Kd.sl kEntryS) := Opens.sl Tryz.underlying107 (by kernel_rfl) (of_decide_eq_true (by kernel_rfl)) (by decide) kEntryS_op184
theorem kNodeS_op109 : Opens Tryz.prog 109 kNodeS := by
  refine Opens.st Tryz.underlying109 (by kernel_rfl) fun H enc w fuel cs ds h => ?_
  obtain ⟨⟨x0, s0, r0⟩, ds, h⟩ := flds1 h i64_op2
  obtain ⟨⟨x1, s1, r1⟩, ds, h⟩ := flds1 h i64_op2
  obtain ⟨⟨x2, s2, r2⟩, ds, h⟩ := flds1 h i64_op2
  obtain ⟨⟨x3, s3, r3⟩, ds, h⟩ := flds1 h sl_op107
  exact ⟨⟨x0, x1, x2, x3⟩, _, (cat_at (x := (⟨x0, x1, x2, x3⟩ : Node)) r0 (cat_at (x := (⟨x0, x1, x2, x3⟩ : Node)) r1 (cat_at (x := (⟨x0, x1, x2, x3⟩ : Node)) r2 r3)))⟩
theorem sl_op22 : Opens Tryz.prog 22 (Kd.sl kNodeS) := Opens.sl Tryz.underlying22 (by kernel_rfl) (of_decide_eq_true (by kernel_rfl)) (by decide) kNodeS_op109
theorem kRetiredS_op112 : Opens Tryz.prog 112 kRetiredS := by
  refine Opens.st Tryz.underlying112 (by kernel_rfl) fun H enc w fuel cs ds h => ?_
  obtain ⟨⟨x0, s0, r0⟩, ds, h⟩ := flds1 h i64_op2
  obtain ⟨⟨x1, s1, r1⟩, ds, h⟩ := flds1 h sl_op23
  exact ⟨⟨x0, x1⟩, _, (cat_at (x := (⟨x0, x1⟩ : Retired)) r0 r1)⟩
theorem sl_op24 : Opens Tryz.prog 24 (Kd.sl kRetiredS) := Opens.sl Tryz.underlying24 (by kernel_rfl) (of_decide_eq_true (by kernel_rfl)) (by decide) kRetiredS_op112
theorem kArenaS_op26 : Opens Tryz.prog 26 kArenaS := by
  refine Opens.st Tryz.underlying26 (by kernel_rfl) fun H enc w fuel cs ds h => ?_
  obtain ⟨⟨x0, s0, r0⟩, ds, h⟩ := flds1 h i64_op2
  obtain ⟨⟨x1, s1, r1⟩, ds, h⟩ := flds1 h sl_op22
  obtain ⟨⟨x2, s2, r2⟩, ds, h⟩ := flds1 h sl_op23
  obtain ⟨⟨x3, s3, r3⟩, ds, h⟩ := flds1 h sl_op24
  exact ⟨⟨x0, x1, x2, x3⟩, _, (cat_at (x := (⟨x0, x1, x2, x3⟩ : Arena)) r0 (cat_at (x := (⟨x0, x1, x2, x3⟩ : Arena)) r1 (cat_at (x := (⟨x0, x1, x2, x3⟩ : Arena)) r2 r3)))⟩
theorem kTreeS_op28 : Opens Tryz.prog 28 kTreeS := by
  refine Opens.st Tryz.underlying28 (by kernel_rfl) fun H enc w fuel cs ds h => ?_
  obtain ⟨⟨x0, s0, r0⟩, ds, h⟩ := flds1 h i64_op2
  obtain ⟨⟨x1, s1, r1⟩, ds, h⟩ := flds1 h kArenaS_op26
  obtain ⟨⟨x2, s2, r2⟩, ds, h⟩ := flds1 h i64_op2
  obtain ⟨⟨x3, s3, r3⟩, ds, h⟩ := flds1 h i64_op2
  obtain ⟨⟨x4, s4, r4⟩, ds, h⟩ := flds1 h i64_op2
  exact ⟨⟨x0, x1, x2, x3, x4⟩, _, (cat_at (x := (⟨x0, x1, x2, x3, x4⟩ : Tree)) r0 (cat_at (x := (⟨x0, x1, x2, x3, x4⟩ : Tree)) r1 (cat_at (x := (⟨x0, x1, x2, x3, x4⟩ : Tree)) r2 (cat_at (x := (⟨x0, x1, x2, x3, x4⟩ : Tree)) r3 r4))))⟩
theorem kQueryS_op32 : Opens Tryz.prog 32 kQueryS := by
  refine Opens.st Tryz.underlying32 (by kernel_rfl) fun H enc w fuel cs ds h => ?_
  obtain ⟨⟨x0, s0, r0⟩, ds, h⟩ := flds1 h i64_op2
  obtain ⟨⟨x1, s1, r1⟩, ds, h⟩ := flds1 h kRectS_op30
  obtain ⟨⟨x2, s2, r2⟩, ds, h⟩ := flds1 h sl_op23
  obtain ⟨⟨x3, s3, r3⟩, ds, h⟩ := flds1 h i64_op2
  exact ⟨⟨x0, x1, x2, x3⟩, _, (cat_at (x := (⟨x0, x1, x2, x3⟩ : Query)) r0 (cat_at (x := (⟨x0, x1, x2, x3⟩ : Query)) r1 (cat_at (x := (⟨x0, x1, x2, x3⟩ : Query)) r2 r3)))⟩
end Go.Proofs.YtfaflffdekoimaaGreat.Sx
