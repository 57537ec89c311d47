/- How an argument's reading stands in memory, for each type of argument. -/
import Derived.Test.YtfdhhhodfjbnjaaSy10
namespace Go.Proofs.Ytfdhhhodfjbnjaa.Sx
open Go Go.RowKit Go.Proofs
set_option linter.unusedVariables false
set_option linter.unusedSimpArgs false
theorem i64_op2 : Opens Try.prog 2 Kd.i64 := Opens.i64 Try.underlying2 (by kernel_rfl)
theorem sl_op33 : Opens Try.prog 33 (Kd.sl Kd.i64) := Opens.sl Try.underlying33 (by kernel_rfl) (of_decide_eq_true (by kernel_rfl)) (by decide) i64_op2
theorem kRectS_op35 : Opens Try.prog 35 kRectS := by
  refine Opens.st Try.underlying35 (by kernel_rfl) fun H enc w fuel cs ds h => ?_
  obtain ⟨⟨x0, s0, r0⟩, ds, h⟩ := flds1 h sl_op33
  obtain ⟨⟨x1, s1, r1⟩, ds, h⟩ := flds1 h sl_op33
  exact ⟨⟨x0, x1⟩, _, (cat_at (x := (⟨x0, x1⟩ : Rect)) r0 r1)⟩
theorem kPairS_op37 : Opens Try.prog 37 kPairS := by
  refine Opens.st Try.underlying37 (by kernel_rfl) fun H enc w fuel cs ds h => ?_
  obtain ⟨⟨x0, s0, r0⟩, ds, h⟩ := flds1 h i64_op2
  obtain ⟨⟨x1, s1, r1⟩, ds, h⟩ := flds1 h kRectS_op35
  exact ⟨⟨x0, x1⟩, _, (cat_at (x := (⟨x0, x1⟩ : Pair)) r0 r1)⟩
theorem kQueryS_op39 : Opens Try.prog 39 kQueryS := by
  refine Opens.st Try.underlying39 (by kernel_rfl) fun H enc w fuel cs ds h => ?_
  obtain ⟨⟨x0, s0, r0⟩, ds, h⟩ := flds1 h i64_op2
  obtain ⟨⟨x1, s1, r1⟩, ds, h⟩ := flds1 h kRectS_op35
  obtain ⟨⟨x2, s2, r2⟩, ds, h⟩ := flds1 h sl_op33
  obtain ⟨⟨x3, s3, r3⟩, ds, h⟩ := flds1 h i64_op2
  exact ⟨⟨x0, x1, x2, x3⟩, _, (cat_at (x := (⟨x0, x1, x2, x3⟩ : Query)) r0 (cat_at (x := (⟨x0, x1, x2, x3⟩ : Query)) r1 (cat_at (x := (⟨x0, x1, x2, x3⟩ : Query)) r2 r3)))⟩
theorem kOpS_op41 : Opens Try.prog 41 kOpS := by
  refine Opens.st Try.underlying41 (by kernel_rfl) fun H enc w fuel cs ds h => ?_
  obtain ⟨⟨x0, s0, r0⟩, ds, h⟩ := flds1 h i64_op2
  obtain ⟨⟨x1, s1, r1⟩, ds, h⟩ := flds1 h kPairS_op37
  obtain ⟨⟨x2, s2, r2⟩, ds, h⟩ := flds1 h kQueryS_op39
  exact ⟨⟨x0, x1, x2⟩, _, (cat_at (x := (⟨x0, x1, x2⟩ : Op)) r0 (cat_at (x := (⟨x0, x1, x2⟩ : Op)) r1 r2))⟩
theorem sl_op42 : Opens Try.prog 42 (Kd.sl kPairS) := Opens.sl Try.underlying42 (by kernel_rfl) (of_decide_eq_true (by kernel_rfl)) (by decide) kPairS_op37
theorem kAnswerS_op44 : Opens Try.prog 44 kAnswerS := by
  refine Opens.st Try.underlying44 (by kernel_rfl) fun H enc w fuel cs ds h => ?_
  obtain ⟨⟨x0, s0, r0⟩, ds, h⟩ := flds1 h i64_op2
  obtain ⟨⟨x1, s1, r1⟩, ds, h⟩ := flds1 h sl_op42
  exact ⟨⟨x0, x1⟩, _, (cat_at (x := (⟨x0, x1⟩ : Answer)) r0 r1)⟩
theorem kNoteS_op46 : Opens Try.prog 46 kNoteS := by
  refine Opens.st Try.underlying46 (by kernel_rfl) fun H enc w fuel cs ds h => ?_
  obtain ⟨⟨x0, s0, r0⟩, ds, h⟩ := flds1 h i64_op2
  obtain ⟨⟨x1, s1, r1⟩, ds, h⟩ := flds1 h i64_op2
  obtain ⟨⟨x2, s2, r2⟩, ds, h⟩ := flds1 h i64_op2
  obtain ⟨⟨x3, s3, r3⟩, ds, h⟩ := flds1 h kOpS_op41
  obtain ⟨⟨x4, s4, r4⟩, ds, h⟩ := flds1 h kAnswerS_op44
  exact ⟨⟨x0, x1, x2, x3, x4⟩, _, (cat_at (x := (⟨x0, x1, x2, x3, x4⟩ : Note)) r0 (cat_at (x := (⟨x0, x1, x2, x3, x4⟩ : Note)) r1 (cat_at (x := (⟨x0, x1, x2, x3, x4⟩ : Note)) r2 (cat_at (x := (⟨x0, x1, x2, x3, x4⟩ : Note)) r3 r4))))⟩
theorem sl_op22 : Opens Try.prog 22 (Kd.sl kNoteS) := Opens.sl Try.underlying22 (by kernel_rfl) (of_decide_eq_true (by kernel_rfl)) (by decide) kNoteS_op46
end Go.Proofs.Ytfdhhhodfjbnjaa.Sx
