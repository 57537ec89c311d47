/- How an argument's reading stands in memory, for each type of argument. -/
import Derived.Test.YtjdkfibeogiekaaGreatSy31
namespace Go.Proofs.YtjdkfibeogiekaaGreat.Sx
open Go Go.RowKit Go.Proofs
set_option linter.unusedVariables false
set_option linter.unusedSimpArgs false
theorem i64_op2 : Opens Tryz.prog 2 Kd.i64 := Opens.i64 Tryz.underlying2 (by kernel_rfl)
theorem sl_op37 : Opens Tryz.prog 37 (Kd.sl Kd.i64) := Opens.sl Tryz.underlying37 (by kernel_rfl) (of_decide_eq_true (by kernel_rfl)) (by decide) i64_op2
theorem kRectS_op70 : Opens Tryz.prog 70 kRectS := by
  refine Opens.st Tryz.underlying70 (by kernel_rfl) fun H enc w fuel cs ds h => ?_
  obtain ⟨⟨x0, s0, r0⟩, ds, h⟩ := flds1 h sl_op37
  obtain ⟨⟨x1, s1, r1⟩, ds, h⟩ := flds1 h sl_op37
  exact ⟨⟨x0, x1⟩, _, (cat_at (x := (⟨x0, x1⟩ : Rect)) r0 r1)⟩
theorem kEntryS_op95 : Opens Tryz.prog 95 kEntryS := by
  refine Opens.st Tryz.underlying95 (by kernel_rfl) fun H enc w fuel cs ds h => ?_
  obtain ⟨⟨x0, s0, r0⟩, ds, h⟩ := flds1 h kRectS_op70
  obtain ⟨⟨x1, s1, r1⟩, ds, h⟩ := flds1 h i64_op2
  obtain ⟨⟨x2, s2, r2⟩, ds, h⟩ := flds1 h i64_op2
  exact ⟨⟨x0, x1, x2⟩, _, (cat_at (x := (⟨x0, x1, x2⟩ : Entry)) r0 (cat_at (x := (⟨x0, x1, x2⟩ : Entry)) r1 r2))⟩
theorem sl_op22 : Opens Tryz.prog 22 (Kd.sl kEntryS) := Opens.sl Tryz.underlying22 (by kernel_rfl) (of_decide_eq_true (by kernel_rfl)) (by decide) kEntryS_op95
theorem kNodeS_op260 : Opens Tryz.prog 260 kNodeS := by
  refine Opens.st Tryz.underlying260 (by kernel_rfl) fun H enc w fuel cs ds h => ?_
  obtain ⟨⟨x0, s0, r0⟩, ds, h⟩ := flds1 h i64_op2
  obtain ⟨⟨x1, s1, r1⟩, ds, h⟩ := flds1 h i64_op2
  obtain ⟨⟨x2, s2, r2⟩, ds, h⟩ := flds1 h i64_op2
  obtain ⟨⟨x3, s3, r3⟩, ds, h⟩ := flds1 h sl_op22
  exact ⟨⟨x0, x1, x2, x3⟩, _, (cat_at (x := (⟨x0, x1, x2, x3⟩ : Node)) r0 (cat_at (x := (⟨x0, x1, x2, x3⟩ : Node)) r1 (cat_at (x := (⟨x0, x1, x2, x3⟩ : Node)) r2 r3)))⟩
theorem sl_op63 : Opens Tryz.prog 63 (Kd.sl kNodeS) := Opens.sl Tryz.underlying63 (by kernel_rfl) (of_decide_eq_true (by kernel_rfl)) (by decide) kNodeS_op260
theorem kRetiredS_op262 : Opens Tryz.prog 262 kRetiredS := by
  refine Opens.st Tryz.underlying262 (by kernel_rfl) fun H enc w fuel cs ds h => ?_
  obtain ⟨⟨x0, s0, r0⟩, ds, h⟩ := flds1 h i64_op2
  obtain ⟨⟨x1, s1, r1⟩, ds, h⟩ := flds1 h sl_op37
  exact ⟨⟨x0, x1⟩, _, (cat_at (x := (⟨x0, x1⟩ : Retired)) r0 r1)⟩
theorem sl_op64 : Opens Tryz.prog 64 (Kd.sl kRetiredS) := Opens.sl Tryz.underlying64 (by kernel_rfl) (of_decide_eq_true (by kernel_rfl)) (by decide) kRetiredS_op262
theorem kArenaS_op66 : Opens Tryz.prog 66 kArenaS := by
  refine Opens.st Tryz.underlying66 (by kernel_rfl) fun H enc w fuel cs ds h => ?_
  obtain ⟨⟨x0, s0, r0⟩, ds, h⟩ := flds1 h i64_op2
  obtain ⟨⟨x1, s1, r1⟩, ds, h⟩ := flds1 h sl_op63
  obtain ⟨⟨x2, s2, r2⟩, ds, h⟩ := flds1 h sl_op37
  obtain ⟨⟨x3, s3, r3⟩, ds, h⟩ := flds1 h sl_op64
  exact ⟨⟨x0, x1, x2, x3⟩, _, (cat_at (x := (⟨x0, x1, x2, x3⟩ : Arena)) r0 (cat_at (x := (⟨x0, x1, x2, x3⟩ : Arena)) r1 (cat_at (x := (⟨x0, x1, x2, x3⟩ : Arena)) r2 r3)))⟩
theorem kTreeS_op68 : Opens Tryz.prog 68 kTreeS := by
  refine Opens.st Tryz.underlying68 (by kernel_rfl) fun H enc w fuel cs ds h => ?_
  obtain ⟨⟨x0, s0, r0⟩, ds, h⟩ := flds1 h i64_op2
  obtain ⟨⟨x1, s1, r1⟩, ds, h⟩ := flds1 h kArenaS_op66
  obtain ⟨⟨x2, s2, r2⟩, ds, h⟩ := flds1 h i64_op2
  obtain ⟨⟨x3, s3, r3⟩, ds, h⟩ := flds1 h i64_op2
  obtain ⟨⟨x4, s4, r4⟩, ds, h⟩ := flds1 h i64_op2
  exact ⟨⟨x0, x1, x2, x3, x4⟩, _, (cat_at (x := (⟨x0, x1, x2, x3, x4⟩ : Tree)) r0 (cat_at (x := (⟨x0, x1, x2, x3, x4⟩ : Tree)) r1 (cat_at (x := (⟨x0, x1, x2, x3, x4⟩ : Tree)) r2 (cat_at (x := (⟨x0, x1, x2, x3, x4⟩ : Tree)) r3 r4))))⟩
theorem kQueryS_op72 : Opens Tryz.prog 72 kQueryS := by
  refine Opens.st Tryz.underlying72 (by kernel_rfl) fun H enc w fuel cs ds h => ?_
  obtain ⟨⟨x0, s0, r0⟩, ds, h⟩ := flds1 h i64_op2
  obtain ⟨⟨x1, s1, r1⟩, ds, h⟩ := flds1 h kRectS_op70
  obtain ⟨⟨x2, s2, r2⟩, ds, h⟩ := flds1 h sl_op37
  obtain ⟨⟨x3, s3, r3⟩, ds, h⟩ := flds1 h i64_op2
  exact ⟨⟨x0, x1, x2, x3⟩, _, (cat_at (x := (⟨x0, x1, x2, x3⟩ : Query)) r0 (cat_at (x := (⟨x0, x1, x2, x3⟩ : Query)) r1 (cat_at (x := (⟨x0, x1, x2, x3⟩ : Query)) r2 r3)))⟩
end Go.Proofs.YtjdkfibeogiekaaGreat.Sx
