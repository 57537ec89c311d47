/- How an argument's reading stands in memory, for each type of argument. -/
import Derived.Test.YtkdiaknbndmajaaGreatSy16
namespace Go.Proofs.YtkdiaknbndmajaaGreat.Sx
open Go Go.RowKit Go.Proofs
set_option linter.unusedVariables false
set_option linter.unusedSimpArgs false
theorem i64_op2 : Opens Tryz.prog 2 Kd.i64 := Opens.i64 Tryz.underlying2 (by kernel_rfl)
theorem sl_op40 : Opens Tryz.prog 40 (Kd.sl Kd.i64) := Opens.sl Tryz.underlying40 (by kernel_rfl) (of_decide_eq_true (by kernel_rfl)) (by decide) i64_op2
theorem kRectS_op42 : Opens Tryz.prog 42 kRectS := by
  refine Opens.st Tryz.underlying42 (by kernel_rfl) fun H enc w fuel cs ds h => ?_
  obtain ⟨⟨x0, s0, r0⟩, ds, h⟩ := flds1 h sl_op40
  obtain ⟨⟨x1, s1, r1⟩, ds, h⟩ := flds1 h sl_op40
  exact ⟨⟨x0, x1⟩, _, (cat_at (x := (⟨x0, x1⟩ : Rect)) r0 r1)⟩
theorem kPairS_op44 : Opens Tryz.prog 44 kPairS := by
  refine Opens.st Tryz.underlying44 (by kernel_rfl) fun H enc w fuel cs ds h => ?_
  obtain ⟨⟨x0, s0, r0⟩, ds, h⟩ := flds1 h i64_op2
  obtain ⟨⟨x1, s1, r1⟩, ds, h⟩ := flds1 h kRectS_op42
  exact ⟨⟨x0, x1⟩, _, (cat_at (x := (⟨x0, x1⟩ : Pair)) r0 r1)⟩
theorem kQueryS_op46 : Opens Tryz.prog 46 kQueryS := by
  refine Opens.st Tryz.underlying46 (by kernel_rfl) fun H enc w fuel cs ds h => ?_
  obtain ⟨⟨x0, s0, r0⟩, ds, h⟩ := flds1 h i64_op2
  obtain ⟨⟨x1, s1, r1⟩, ds, h⟩ := flds1 h kRectS_op42
  obtain ⟨⟨x2, s2, r2⟩, ds, h⟩ := flds1 h sl_op40
  obtain ⟨⟨x3, s3, r3⟩, ds, h⟩ := flds1 h i64_op2
  exact ⟨⟨x0, x1, x2, x3⟩, _, (cat_at (x := (⟨x0, x1, x2, x3⟩ : Query)) r0 (cat_at (x := (⟨x0, x1, x2, x3⟩ : Query)) r1 (cat_at (x := (⟨x0, x1, x2, x3⟩ : Query)) r2 r3)))⟩
theorem kOpS_op48 : Opens Tryz.prog 48 kOpS := by
  refine Opens.st Tryz.underlying48 (by kernel_rfl) fun H enc w fuel cs ds h => ?_
  obtain ⟨⟨x0, s0, r0⟩, ds, h⟩ := flds1 h i64_op2
  obtain ⟨⟨x1, s1, r1⟩, ds, h⟩ := flds1 h kPairS_op44
  obtain ⟨⟨x2, s2, r2⟩, ds, h⟩ := flds1 h kQueryS_op46
  exact ⟨⟨x0, x1, x2⟩, _, (cat_at (x := (⟨x0, x1, x2⟩ : Op)) r0 (cat_at (x := (⟨x0, x1, x2⟩ : Op)) r1 r2))⟩
theorem sl_op49 : Opens Tryz.prog 49 (Kd.sl kPairS) := Opens.sl Tryz.underlying49 (by kernel_rfl) (of_decide_eq_true (by kernel_rfl)) (by decide) kPairS_op44
theorem kAnswerS_op51 : Opens Tryz.prog 51 kAnswerS := by
  refine Opens.st Tryz.underlying51 (by kernel_rfl) fun H enc w fuel cs ds h => ?_
  obtain ⟨⟨x0, s0, r0⟩, ds, h⟩ := flds1 h i64_op2
  obtain ⟨⟨x1, s1, r1⟩, ds, h⟩ := flds1 h sl_op49
  exact ⟨⟨x0, x1⟩, _, (cat_at (x := (⟨x0, x1⟩ : Answer)) r0 r1)⟩
theorem kNoteS_op53 : Opens Tryz.prog 53 kNoteS := by
  refine Opens.st Tryz.underlying53 (by kernel_rfl) fun H enc w fuel cs ds h => ?_
  obtain ⟨⟨x0, s0, r0⟩, ds, h⟩ := flds1 h i64_op2
  obtain ⟨⟨x1, s1, r1⟩, ds, h⟩ := flds1 h i64_op2
  obtain ⟨⟨x2, s2, r2⟩, ds, h⟩ := flds1 h i64_op2
  obtain ⟨⟨x3, s3, r3⟩, ds, h⟩ := flds1 h kOpS_op48
  obtain ⟨⟨x4, s4, r4⟩, ds, h⟩ := flds1 h kAnswerS_op51
  exact ⟨⟨x0, x1, x2, x3, x4⟩, _, (cat_at (x := (⟨x0, x1, x2, x3, x4⟩ : Note)) r0 (cat_at (x := (⟨x0, x1, x2, x3, x4⟩ : Note)) r1 (cat_at (x := (⟨x0, x1, x2, x3, x4⟩ : Note)) r2 (cat_at (x := (⟨x0, x1, x2, x3, x4⟩ : Note)) r3 r4))))⟩
theorem sl_op22 : Opens Tryz.prog 22 (Kd.sl kNoteS) := Opens.sl Tryz.underlying22 (by kernel_rfl) (of_decide_eq_true (by kernel_rfl)) (by decide) kNoteS_op53
end Go.Proofs.YtkdiaknbndmajaaGreat.Sx
