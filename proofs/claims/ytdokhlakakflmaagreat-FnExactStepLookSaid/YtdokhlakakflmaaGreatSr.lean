/- How an argument's reading stands in memory, for each type of argument. -/
import Derived.Test.YtdokhlakakflmaaGreatSy19
namespace Go.Proofs.YtdokhlakakflmaaGreat.Sx
open Go Go.RowKit Go.Proofs
set_option linter.unusedVariables false
set_option linter.unusedSimpArgs false
theorem i64_op2 : Opens Tryz.prog 2 Kd.i64 := Opens.i64 Tryz.underlying2 (by kernel_rfl)
theorem sl_op23 : Opens Tryz.prog 23 (Kd.sl Kd.i64) := Opens.sl Tryz.underlying23 (by kernel_rfl) (of_decide_eq_true (by kernel_rfl)) (by decide) i64_op2
theorem kRectS_op28 : Opens Tryz.prog 28 kRectS := by
  refine Opens.st Tryz.underlying28 (by kernel_rfl) fun H enc w fuel cs ds h => ?_
  obtain ⟨⟨x0, s0, r0⟩, ds, h⟩ := flds1 h sl_op23
  obtain ⟨⟨x1, s1, r1⟩, ds, h⟩ := flds1 h sl_op23
  exact ⟨⟨x0, x1⟩, _, (cat_at (x := (⟨x0, x1⟩ : Rect)) r0 r1)⟩
theorem kEntryS_op198 : Opens Tryz.prog 198 kEntryS := by
  refine Opens.st Tryz.underlying198 (by kernel_rfl) fun H enc w fuel cs ds h => ?_
  obtain ⟨⟨x0, s0, r0⟩, ds, h⟩ := flds1 h kRectS_op28
  obtain ⟨⟨x1, s1, r1⟩, ds, h⟩ := flds1 h i64_op2
  obtain ⟨⟨x2, s2, r2⟩, ds, h⟩ := flds1 h i64_op2
  exact ⟨⟨x0, x1, x2⟩, _, (cat_at (x := (⟨x0, x1, x2⟩ : Entry)) r0 (cat_at (x := (⟨x0, x1, x2⟩ : Entry)) r1 r2))⟩
theorem sl_op93 : Opens Tryz.prog 93 (Kd.sl kEntryS) := Opens.sl Tryz.underlying93 (by kernel_rfl) (of_decide_eq_true (by kernel_rfl)) (by decide) kEntryS_op198
theorem kNodeS_op95 : Opens Tryz.prog 95 kNodeS := by
  refine Opens.st Tryz.underlying95 (by kernel_rfl) fun H enc w fuel cs ds h => ?_
  obtain ⟨⟨x0, s0, r0⟩, ds, h⟩ := flds1 h i64_op2
  obtain ⟨⟨x1, s1, r1⟩, ds, h⟩ := flds1 h i64_op2
  obtain ⟨⟨x2, s2, r2⟩, ds, h⟩ := flds1 h i64_op2
  obtain ⟨⟨x3, s3, r3⟩, ds, h⟩ := flds1 h sl_op93
  exact ⟨⟨x0, x1, x2, x3⟩, _, (cat_at (x := (⟨x0, x1, x2, x3⟩ : Node)) r0 (cat_at (x := (⟨x0, x1, x2, x3⟩ : Node)) r1 (cat_at (x := (⟨x0, x1, x2, x3⟩ : Node)) r2 r3)))⟩
theorem sl_op22 : Opens Tryz.prog 22 (Kd.sl kNodeS) := Opens.sl Tryz.underlying22 (by kernel_rfl) (of_decide_eq_true (by kernel_rfl)) (by decide) kNodeS_op95
theorem kRetiredS_op98 : Opens Tryz.prog 98 kRetiredS := by
  refine Opens.st Tryz.underlying98 (by kernel_rfl) fun H enc w fuel cs ds h => ?_
  obtain ⟨⟨x0, s0, r0⟩, ds, h⟩ := flds1 h i64_op2
  obtain ⟨⟨x1, s1, r1⟩, ds, h⟩ := flds1 h sl_op23
  exact ⟨⟨x0, x1⟩, _, (cat_at (x := (⟨x0, x1⟩ : Retired)) r0 r1)⟩
theorem sl_op24 : Opens Tryz.prog 24 (Kd.sl kRetiredS) := Opens.sl Tryz.underlying24 (by kernel_rfl) (of_decide_eq_true (by kernel_rfl)) (by decide) kRetiredS_op98
theorem kArenaS_op26 : Opens Tryz.prog 26 kArenaS := by
  refine Opens.st Tryz.underlying26 (by kernel_rfl) fun H enc w fuel cs ds h => ?_
  obtain ⟨⟨x0, s0, r0⟩, ds, h⟩ := flds1 h i64_op2
  obtain ⟨⟨x1, s1, r1⟩, ds, h⟩ := flds1 h sl_op22
  obtain ⟨⟨x2, s2, r2⟩, ds, h⟩ := flds1 h sl_op23
  obtain ⟨⟨x3, s3, r3⟩, ds, h⟩ := flds1 h sl_op24
  exact ⟨⟨x0, x1, x2, x3⟩, _, (cat_at (x := (⟨x0, x1, x2, x3⟩ : Arena)) r0 (cat_at (x := (⟨x0, x1, x2, x3⟩ : Arena)) r1 (cat_at (x := (⟨x0, x1, x2, x3⟩ : Arena)) r2 r3)))⟩
theorem kQueryS_op30 : Opens Tryz.prog 30 kQueryS := by
  refine Opens.st Tryz.underlying30 (by kernel_rfl) fun H enc w fuel cs ds h => ?_
  obtain ⟨⟨x0, s0, r0⟩, ds, h⟩ := flds1 h i64_op2
  obtain ⟨⟨x1, s1, r1⟩, ds, h⟩ := flds1 h kRectS_op28
  obtain ⟨⟨x2, s2, r2⟩, ds, h⟩ := flds1 h sl_op23
  obtain ⟨⟨x3, s3, r3⟩, ds, h⟩ := flds1 h i64_op2
  exact ⟨⟨x0, x1, x2, x3⟩, _, (cat_at (x := (⟨x0, x1, x2, x3⟩ : Query)) r0 (cat_at (x := (⟨x0, x1, x2, x3⟩ : Query)) r1 (cat_at (x := (⟨x0, x1, x2, x3⟩ : Query)) r2 r3)))⟩
theorem kMarkS_op137 : Opens Tryz.prog 137 kMarkS := by
  refine Opens.st Tryz.underlying137 (by kernel_rfl) fun H enc w fuel cs ds h => ?_
  obtain ⟨⟨x0, s0, r0⟩, ds, h⟩ := flds1 h i64_op2
  obtain ⟨⟨x1, s1, r1⟩, ds, h⟩ := flds1 h i64_op2
  obtain ⟨⟨x2, s2, r2⟩, ds, h⟩ := flds1 h i64_op2
  exact ⟨⟨x0, x1, x2⟩, _, (cat_at (x := (⟨x0, x1, x2⟩ : Mark)) r0 (cat_at (x := (⟨x0, x1, x2⟩ : Mark)) r1 r2))⟩
theorem sl_op31 : Opens Tryz.prog 31 (Kd.sl kMarkS) := Opens.sl Tryz.underlying31 (by kernel_rfl) (of_decide_eq_true (by kernel_rfl)) (by decide) kMarkS_op137
theorem kPairS_op102 : Opens Tryz.prog 102 kPairS := by
  refine Opens.st Tryz.underlying102 (by kernel_rfl) fun H enc w fuel cs ds h => ?_
  obtain ⟨⟨x0, s0, r0⟩, ds, h⟩ := flds1 h i64_op2
  obtain ⟨⟨x1, s1, r1⟩, ds, h⟩ := flds1 h kRectS_op28
  exact ⟨⟨x0, x1⟩, _, (cat_at (x := (⟨x0, x1⟩ : Pair)) r0 r1)⟩
theorem sl_op32 : Opens Tryz.prog 32 (Kd.sl kPairS) := Opens.sl Tryz.underlying32 (by kernel_rfl) (of_decide_eq_true (by kernel_rfl)) (by decide) kPairS_op102
theorem kLookS_op34 : Opens Tryz.prog 34 kLookS := by
  refine Opens.st Tryz.underlying34 (by kernel_rfl) fun H enc w fuel cs ds h => ?_
  obtain ⟨⟨x0, s0, r0⟩, ds, h⟩ := flds1 h kQueryS_op30
  obtain ⟨⟨x1, s1, r1⟩, ds, h⟩ := flds1 h sl_op31
  obtain ⟨⟨x2, s2, r2⟩, ds, h⟩ := flds1 h sl_op32
  exact ⟨⟨x0, x1, x2⟩, _, (cat_at (x := (⟨x0, x1, x2⟩ : Look)) r0 (cat_at (x := (⟨x0, x1, x2⟩ : Look)) r1 r2))⟩
end Go.Proofs.YtdokhlakakflmaaGreat.Sx
