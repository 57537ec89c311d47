/- What functions of the program answer, each at every input that its row names; walked through their code. -/
import Derived.Test.YtkdiaknbndmajaaGreatSxb
import Derived.Test.YtkdiaknbndmajaaGreatProg
import Derived.KernelRfl
namespace Go.Proofs.YtkdiaknbndmajaaGreat.Sx
open Go Go.RowKit Go.Proofs
set_option linter.unusedVariables false
set_option linter.unusedSimpArgs false
def tab : Tab := { size := [(2, 1, false), (24, 1, false), (40, 1, false), (42, 2, true), (44, 3, true), (46, 5, true), (48, 9, true), (49, 1, false), (51, 2, true), (53, 14, true), (58, 2, true), (60, 3, true), (62, 5, true), (64, 9, true), (65, 2, true), (67, 14, true)], off := [((42, 0), 0), ((42, 1), 1), ((44, 0), 0), ((44, 1), 1), ((46, 0), 0), ((46, 1), 1), ((46, 2), 3), ((46, 3), 4), ((48, 0), 0), ((48, 1), 1), ((48, 2), 4), ((51, 0), 0), ((51, 1), 1), ((53, 0), 0), ((53, 1), 1), ((53, 2), 2), ((53, 3), 3), ((53, 4), 12), ((58, 0), 0), ((58, 1), 1), ((60, 0), 0), ((60, 1), 1), ((62, 0), 0), ((62, 1), 1), ((62, 2), 3), ((62, 3), 4), ((64, 0), 0), ((64, 1), 1), ((64, 2), 4), ((65, 0), 0), ((65, 1), 1), ((67, 0), 0), ((67, 1), 1), ((67, 2), 2), ((67, 3), 3), ((67, 4), 12)], elem := [(22, 53), (24, 60), (28, 67), (40, 2), (49, 44)] }
theorem tab_ok : tab.check Tryz.prog = true := by kernel_rfl
theorem wide : Tryz.prog.follows .mixedOrders = true := by kernel_rfl
noncomputable abbrev X (N : Nat) (w : World) : Cx := ⟨Tryz.prog, tab, tab_ok, wide, N, w, none, []⟩
theorem zero58 : (Tryz.prog.info? 58).bind (·.zero) = some (.agg #[.slice none 0 0, .slice none 0 0]) := by kernel_rfl
theorem zero60 : (Tryz.prog.info? 60).bind (·.zero) = some (.agg #[.int .i64 0, .slice none 0 0, .slice none 0 0]) := by kernel_rfl
theorem zero62 : (Tryz.prog.info? 62).bind (·.zero) = some (.agg #[.int .i64 0, .slice none 0 0, .slice none 0 0, .slice none 0 0, .int .i64 0]) := by kernel_rfl
theorem zero64 : (Tryz.prog.info? 64).bind (·.zero) = some (.agg #[.int .i64 0, .int .i64 0, .slice none 0 0, .slice none 0 0, .int .i64 0, .slice none 0 0, .slice none 0 0, .slice none 0 0, .int .i64 0]) := by kernel_rfl
theorem zero65 : (Tryz.prog.info? 65).bind (·.zero) = some (.agg #[.int .i64 0, .slice none 0 0]) := by kernel_rfl
theorem zero67 : (Tryz.prog.info? 67).bind (·.zero) = some (.agg #[.int .i64 0, .int .i64 0, .int .i64 0, .int .i64 0, .int .i64 0, .slice none 0 0, .slice none 0 0, .int .i64 0, .slice none 0 0, .slice none 0 0, .slice none 0 0, .int .i64 0, .int .i64 0, .slice none 0 0]) := by kernel_rfl
theorem info2 : (Tryz.prog.info? 2).map (fun i => (i.zero, i.size, i.bytes)) = some (some (.int .i64 0), 1, 8) := by kernel_rfl
theorem info60 : (Tryz.prog.info? 60).map (fun i => (i.zero, i.size, i.bytes)) = some (some (.agg #[.int .i64 0, .slice none 0 0, .slice none 0 0]), 3, 56) := by kernel_rfl
theorem info67 : (Tryz.prog.info? 67).map (fun i => (i.zero, i.size, i.bytes)) = some (some (.agg #[.int .i64 0, .int .i64 0, .int .i64 0, .int .i64 0, .int .i64 0, .slice none 0 0, .slice none 0 0, .int .i64 0, .slice none 0 0, .slice none 0 0, .slice none 0 0, .int .i64 0, .int .i64 0, .slice none 0 0]), 14, 208) := by kernel_rfl


structure Rect where
  low : List Int
  high : List Int
  deriving DecidableEq
structure Pair where
  id : Int
  rect : Rect
  deriving DecidableEq
structure Query where
  kind : Int
  rect : Rect
  point : List Int
  k : Int
  deriving DecidableEq
structure Op where
  kind : Int
  pair : Pair
  query : Query
  deriving DecidableEq
structure Answer where
  code : Int
  pairs : List Pair
  deriving DecidableEq
structure Note where
  at_ : Int
  kind : Int
  client : Int
  op : Op
  answer : Answer
  deriving DecidableEq

def kRectS : Kd Rect := (((Kd.sl Kd.i64).via Rect.low).cat ((Kd.sl Kd.i64).via Rect.high))
theorem kRectS_sh {w : World} {cs : List Value} {x : Rect} {o s : List Nat} (h : kRectS.Rel w cs x o s) : ∃ (A0 : Option Addr) (c0 : Nat) (A1 : Option Addr) (c1 : Nat), cs = [.slice A0 x.low.length c0, .slice A1 x.high.length c1] := by
  obtain ⟨c10, c20, o10, o20, s10, s20, rfl, rfl, rfl, h0, k0⟩ := h
  obtain ⟨-, A0_, c0_, rfl, -⟩ := h0
  obtain ⟨-, A1_, c1_, rfl, -⟩ := k0
  exact ⟨_, _, _, _, rfl⟩
theorem kRectS_p0_1 : Kd.Sub kRectS 0 (Kd.sl Kd.i64) (fun x => x.low) := (Kd.Sub.left (Kd.Sub.rfl.via Rect.low) _ (by decide))
theorem kRectS_p1_1 : Kd.Sub kRectS 1 (Kd.sl Kd.i64) (fun x => x.high) := (Kd.Sub.right (Kd.Sub.rfl.via Rect.high) _)
theorem kRectS_self : Kd.Seals kRectS kRectS := (Kd.Seals.cat (Kd.Seals.via Kd.Seals.refl_sl _) (Kd.Seals.via Kd.Seals.refl_sl _))
theorem kRectS_pure : Kd.Pure kRectS := (Kd.Pure.cat (Kd.Pure.via (Kd.Pure.sl _) _) (Kd.Pure.via (Kd.Pure.sl _) _))
def kPairS : Kd Pair := ((Kd.i64.via Pair.id).cat (kRectS.via Pair.rect))
theorem kPairS_sh {w : World} {cs : List Value} {x : Pair} {o s : List Nat} (h : kPairS.Rel w cs x o s) : ∃ (A1 : Option Addr) (c1 : Nat) (A2 : Option Addr) (c2 : Nat), cs = [.int .i64 x.id, .slice A1 x.rect.low.length c1, .slice A2 x.rect.high.length c2] := by
  obtain ⟨c10, c20, o10, o20, s10, s20, rfl, rfl, rfl, h0, k0⟩ := h
  obtain ⟨rfl, -, -⟩ := h0
  obtain ⟨_, _, _, _, rfl⟩ := kRectS_sh k0
  exact ⟨_, _, _, _, rfl⟩
theorem kPairS_p1_2 : Kd.Sub kPairS 1 kRectS (fun x => x.rect) := (Kd.Sub.right (Kd.Sub.rfl.via Pair.rect) _)
theorem kPairS_p1_1 : Kd.Sub kPairS 1 (Kd.sl Kd.i64) (fun x => x.rect.low) := (Kd.Sub.right (kRectS_p0_1.via Pair.rect) _)
theorem kPairS_p2_1 : Kd.Sub kPairS 2 (Kd.sl Kd.i64) (fun x => x.rect.high) := (Kd.Sub.right (kRectS_p1_1.via Pair.rect) _)
theorem kPairS_self : Kd.Seals kPairS kPairS := (Kd.Seals.cat (Kd.Seals.via Kd.Seals.i64 _) (Kd.Seals.via kRectS_self _))
theorem kPairS_pure : Kd.Pure kPairS := (Kd.Pure.cat (Kd.Pure.via Kd.Pure.i64 _) (Kd.Pure.via kRectS_pure _))
def kQueryS : Kd Query := ((Kd.i64.via Query.kind).cat ((kRectS.via Query.rect).cat (((Kd.sl Kd.i64).via Query.point).cat (Kd.i64.via Query.k))))
theorem kQueryS_sh {w : World} {cs : List Value} {x : Query} {o s : List Nat} (h : kQueryS.Rel w cs x o s) : ∃ (A1 : Option Addr) (c1 : Nat) (A2 : Option Addr) (c2 : Nat) (A3 : Option Addr) (c3 : Nat), cs = [.int .i64 x.kind, .slice A1 x.rect.low.length c1, .slice A2 x.rect.high.length c2, .slice A3 x.point.length c3, .int .i64 x.k] := by
  obtain ⟨c10, c20, o10, o20, s10, s20, rfl, rfl, rfl, h0, k0⟩ := h
  obtain ⟨rfl, -, -⟩ := h0
  obtain ⟨c11, c21, o11, o21, s11, s21, rfl, rfl, rfl, h1, k1⟩ := k0
  obtain ⟨_, _, _, _, rfl⟩ := kRectS_sh h1
  obtain ⟨c12, c22, o12, o22, s12, s22, rfl, rfl, rfl, h2, k2⟩ := k1
  obtain ⟨-, A2_, c2_, rfl, -⟩ := h2
  obtain ⟨rfl, -, -⟩ := k2
  exact ⟨_, _, _, _, _, _, rfl⟩
theorem kQueryS_p1_2 : Kd.Sub kQueryS 1 kRectS (fun x => x.rect) := (Kd.Sub.right (Kd.Sub.left (Kd.Sub.rfl.via Query.rect) _ (by decide)) _)
theorem kQueryS_p1_1 : Kd.Sub kQueryS 1 (Kd.sl Kd.i64) (fun x => x.rect.low) := (Kd.Sub.right (Kd.Sub.left (kRectS_p0_1.via Query.rect) _ (by decide)) _)
theorem kQueryS_p2_1 : Kd.Sub kQueryS 2 (Kd.sl Kd.i64) (fun x => x.rect.high) := (Kd.Sub.right (Kd.Sub.left (kRectS_p1_1.via Query.rect) _ (by decide)) _)
theorem kQueryS_p3_1 : Kd.Sub kQueryS 3 (Kd.sl Kd.i64) (fun x => x.point) := (Kd.Sub.right (Kd.Sub.right (Kd.Sub.left (Kd.Sub.rfl.via Query.point) _ (by decide)) _) _)
theorem kQueryS_self : Kd.Seals kQueryS kQueryS := (Kd.Seals.cat (Kd.Seals.via Kd.Seals.i64 _) (Kd.Seals.cat (Kd.Seals.via kRectS_self _) (Kd.Seals.cat (Kd.Seals.via Kd.Seals.refl_sl _) (Kd.Seals.via Kd.Seals.i64 _))))
theorem kQueryS_pure : Kd.Pure kQueryS := (Kd.Pure.cat (Kd.Pure.via Kd.Pure.i64 _) (Kd.Pure.cat (Kd.Pure.via kRectS_pure _) (Kd.Pure.cat (Kd.Pure.via (Kd.Pure.sl _) _) (Kd.Pure.via Kd.Pure.i64 _))))
def kOpS : Kd Op := ((Kd.i64.via Op.kind).cat ((kPairS.via Op.pair).cat (kQueryS.via Op.query)))
theorem kOpS_sh {w : World} {cs : List Value} {x : Op} {o s : List Nat} (h : kOpS.Rel w cs x o s) : ∃ (A2 : Option Addr) (c2 : Nat) (A3 : Option Addr) (c3 : Nat) (A5 : Option Addr) (c5 : Nat) (A6 : Option Addr) (c6 : Nat) (A7 : Option Addr) (c7 : Nat), cs = [.int .i64 x.kind, .int .i64 x.pair.id, .slice A2 x.pair.rect.low.length c2, .slice A3 x.pair.rect.high.length c3, .int .i64 x.query.kind, .slice A5 x.query.rect.low.length c5, .slice A6 x.query.rect.high.length c6, .slice A7 x.query.point.length c7, .int .i64 x.query.k] := by
  obtain ⟨c10, c20, o10, o20, s10, s20, rfl, rfl, rfl, h0, k0⟩ := h
  obtain ⟨rfl, -, -⟩ := h0
  obtain ⟨c11, c21, o11, o21, s11, s21, rfl, rfl, rfl, h1, k1⟩ := k0
  obtain ⟨_, _, _, _, rfl⟩ := kPairS_sh h1
  obtain ⟨_, _, _, _, _, _, rfl⟩ := kQueryS_sh k1
  exact ⟨_, _, _, _, _, _, _, _, _, _, rfl⟩
theorem kOpS_p1_3 : Kd.Sub kOpS 1 kPairS (fun x => x.pair) := (Kd.Sub.right (Kd.Sub.left (Kd.Sub.rfl.via Op.pair) _ (by decide)) _)
theorem kOpS_p2_2 : Kd.Sub kOpS 2 kRectS (fun x => x.pair.rect) := (Kd.Sub.right (Kd.Sub.left (kPairS_p1_2.via Op.pair) _ (by decide)) _)
theorem kOpS_p2_1 : Kd.Sub kOpS 2 (Kd.sl Kd.i64) (fun x => x.pair.rect.low) := (Kd.Sub.right (Kd.Sub.left (kPairS_p1_1.via Op.pair) _ (by decide)) _)
theorem kOpS_p3_1 : Kd.Sub kOpS 3 (Kd.sl Kd.i64) (fun x => x.pair.rect.high) := (Kd.Sub.right (Kd.Sub.left (kPairS_p2_1.via Op.pair) _ (by decide)) _)
theorem kOpS_p4_5 : Kd.Sub kOpS 4 kQueryS (fun x => x.query) := (Kd.Sub.right (Kd.Sub.right (Kd.Sub.rfl.via Op.query) _) _)
theorem kOpS_p5_2 : Kd.Sub kOpS 5 kRectS (fun x => x.query.rect) := (Kd.Sub.right (Kd.Sub.right (kQueryS_p1_2.via Op.query) _) _)
theorem kOpS_p5_1 : Kd.Sub kOpS 5 (Kd.sl Kd.i64) (fun x => x.query.rect.low) := (Kd.Sub.right (Kd.Sub.right (kQueryS_p1_1.via Op.query) _) _)
theorem kOpS_p6_1 : Kd.Sub kOpS 6 (Kd.sl Kd.i64) (fun x => x.query.rect.high) := (Kd.Sub.right (Kd.Sub.right (kQueryS_p2_1.via Op.query) _) _)
theorem kOpS_p7_1 : Kd.Sub kOpS 7 (Kd.sl Kd.i64) (fun x => x.query.point) := (Kd.Sub.right (Kd.Sub.right (kQueryS_p3_1.via Op.query) _) _)
theorem kOpS_self : Kd.Seals kOpS kOpS := (Kd.Seals.cat (Kd.Seals.via Kd.Seals.i64 _) (Kd.Seals.cat (Kd.Seals.via kPairS_self _) (Kd.Seals.via kQueryS_self _)))
theorem kOpS_pure : Kd.Pure kOpS := (Kd.Pure.cat (Kd.Pure.via Kd.Pure.i64 _) (Kd.Pure.cat (Kd.Pure.via kPairS_pure _) (Kd.Pure.via kQueryS_pure _)))
def kAnswerS : Kd Answer := ((Kd.i64.via Answer.code).cat ((Kd.sl kPairS).via Answer.pairs))
theorem kAnswerS_sh {w : World} {cs : List Value} {x : Answer} {o s : List Nat} (h : kAnswerS.Rel w cs x o s) : ∃ (A1 : Option Addr) (c1 : Nat), cs = [.int .i64 x.code, .slice A1 x.pairs.length c1] := by
  obtain ⟨c10, c20, o10, o20, s10, s20, rfl, rfl, rfl, h0, k0⟩ := h
  obtain ⟨rfl, -, -⟩ := h0
  obtain ⟨-, A1_, c1_, rfl, -⟩ := k0
  exact ⟨_, _, rfl⟩
theorem kAnswerS_p1_1 : Kd.Sub kAnswerS 1 (Kd.sl kPairS) (fun x => x.pairs) := (Kd.Sub.right (Kd.Sub.rfl.via Answer.pairs) _)
theorem kAnswerS_self : Kd.Seals kAnswerS kAnswerS := (Kd.Seals.cat (Kd.Seals.via Kd.Seals.i64 _) (Kd.Seals.via Kd.Seals.refl_sl _))
theorem kAnswerS_pure : Kd.Pure kAnswerS := (Kd.Pure.cat (Kd.Pure.via Kd.Pure.i64 _) (Kd.Pure.via (Kd.Pure.sl _) _))
def kNoteS : Kd Note := ((Kd.i64.via Note.at_).cat ((Kd.i64.via Note.kind).cat ((Kd.i64.via Note.client).cat ((kOpS.via Note.op).cat (kAnswerS.via Note.answer)))))
theorem kNoteS_sh {w : World} {cs : List Value} {x : Note} {o s : List Nat} (h : kNoteS.Rel w cs x o s) : ∃ (A5 : Option Addr) (c5 : Nat) (A6 : Option Addr) (c6 : Nat) (A8 : Option Addr) (c8 : Nat) (A9 : Option Addr) (c9 : Nat) (A10 : Option Addr) (c10 : Nat) (A13 : Option Addr) (c13 : Nat), cs = [.int .i64 x.at_, .int .i64 x.kind, .int .i64 x.client, .int .i64 x.op.kind, .int .i64 x.op.pair.id, .slice A5 x.op.pair.rect.low.length c5, .slice A6 x.op.pair.rect.high.length c6, .int .i64 x.op.query.kind, .slice A8 x.op.query.rect.low.length c8, .slice A9 x.op.query.rect.high.length c9, .slice A10 x.op.query.point.length c10, .int .i64 x.op.query.k, .int .i64 x.answer.code, .slice A13 x.answer.pairs.length c13] := by
  obtain ⟨c10, c20, o10, o20, s10, s20, rfl, rfl, rfl, h0, k0⟩ := h
  obtain ⟨rfl, -, -⟩ := h0
  obtain ⟨c11, c21, o11, o21, s11, s21, rfl, rfl, rfl, h1, k1⟩ := k0
  obtain ⟨rfl, -, -⟩ := h1
  obtain ⟨c12, c22, o12, o22, s12, s22, rfl, rfl, rfl, h2, k2⟩ := k1
  obtain ⟨rfl, -, -⟩ := h2
  obtain ⟨c13, c23, o13, o23, s13, s23, rfl, rfl, rfl, h3, k3⟩ := k2
  obtain ⟨_, _, _, _, _, _, _, _, _, _, rfl⟩ := kOpS_sh h3
  obtain ⟨_, _, rfl⟩ := kAnswerS_sh k3
  exact ⟨_, _, _, _, _, _, _, _, _, _, _, _, rfl⟩
theorem kNoteS_p3_9 : Kd.Sub kNoteS 3 kOpS (fun x => x.op) := (Kd.Sub.right (Kd.Sub.right (Kd.Sub.right (Kd.Sub.left (Kd.Sub.rfl.via Note.op) _ (by decide)) _) _) _)
theorem kNoteS_p4_3 : Kd.Sub kNoteS 4 kPairS (fun x => x.op.pair) := (Kd.Sub.right (Kd.Sub.right (Kd.Sub.right (Kd.Sub.left (kOpS_p1_3.via Note.op) _ (by decide)) _) _) _)
theorem kNoteS_p5_2 : Kd.Sub kNoteS 5 kRectS (fun x => x.op.pair.rect) := (Kd.Sub.right (Kd.Sub.right (Kd.Sub.right (Kd.Sub.left (kOpS_p2_2.via Note.op) _ (by decide)) _) _) _)
theorem kNoteS_p5_1 : Kd.Sub kNoteS 5 (Kd.sl Kd.i64) (fun x => x.op.pair.rect.low) := (Kd.Sub.right (Kd.Sub.right (Kd.Sub.right (Kd.Sub.left (kOpS_p2_1.via Note.op) _ (by decide)) _) _) _)
theorem kNoteS_p6_1 : Kd.Sub kNoteS 6 (Kd.sl Kd.i64) (fun x => x.op.pair.rect.high) := (Kd.Sub.right (Kd.Sub.right (Kd.Sub.right (Kd.Sub.left (kOpS_p3_1.via Note.op) _ (by decide)) _) _) _)
theorem kNoteS_p7_5 : Kd.Sub kNoteS 7 kQueryS (fun x => x.op.query) := (Kd.Sub.right (Kd.Sub.right (Kd.Sub.right (Kd.Sub.left (kOpS_p4_5.via Note.op) _ (by decide)) _) _) _)
theorem kNoteS_p8_2 : Kd.Sub kNoteS 8 kRectS (fun x => x.op.query.rect) := (Kd.Sub.right (Kd.Sub.right (Kd.Sub.right (Kd.Sub.left (kOpS_p5_2.via Note.op) _ (by decide)) _) _) _)
theorem kNoteS_p8_1 : Kd.Sub kNoteS 8 (Kd.sl Kd.i64) (fun x => x.op.query.rect.low) := (Kd.Sub.right (Kd.Sub.right (Kd.Sub.right (Kd.Sub.left (kOpS_p5_1.via Note.op) _ (by decide)) _) _) _)
theorem kNoteS_p9_1 : Kd.Sub kNoteS 9 (Kd.sl Kd.i64) (fun x => x.op.query.rect.high) := (Kd.Sub.right (Kd.Sub.right (Kd.Sub.right (Kd.Sub.left (kOpS_p6_1.via Note.op) _ (by decide)) _) _) _)
theorem kNoteS_p10_1 : Kd.Sub kNoteS 10 (Kd.sl Kd.i64) (fun x => x.op.query.point) := (Kd.Sub.right (Kd.Sub.right (Kd.Sub.right (Kd.Sub.left (kOpS_p7_1.via Note.op) _ (by decide)) _) _) _)
theorem kNoteS_p12_2 : Kd.Sub kNoteS 12 kAnswerS (fun x => x.answer) := (Kd.Sub.right (Kd.Sub.right (Kd.Sub.right (Kd.Sub.right (Kd.Sub.rfl.via Note.answer) _) _) _) _)
theorem kNoteS_p13_1 : Kd.Sub kNoteS 13 (Kd.sl kPairS) (fun x => x.answer.pairs) := (Kd.Sub.right (Kd.Sub.right (Kd.Sub.right (Kd.Sub.right (kAnswerS_p1_1.via Note.answer) _) _) _) _)
theorem kNoteS_self : Kd.Seals kNoteS kNoteS := (Kd.Seals.cat (Kd.Seals.via Kd.Seals.i64 _) (Kd.Seals.cat (Kd.Seals.via Kd.Seals.i64 _) (Kd.Seals.cat (Kd.Seals.via Kd.Seals.i64 _) (Kd.Seals.cat (Kd.Seals.via kOpS_self _) (Kd.Seals.via kAnswerS_self _)))))
theorem kNoteS_pure : Kd.Pure kNoteS := (Kd.Pure.cat (Kd.Pure.via Kd.Pure.i64 _) (Kd.Pure.cat (Kd.Pure.via Kd.Pure.i64 _) (Kd.Pure.cat (Kd.Pure.via Kd.Pure.i64 _) (Kd.Pure.cat (Kd.Pure.via kOpS_pure _) (Kd.Pure.via kAnswerS_pure _)))))
def kRectO : Kd Rect := (((Kd.row 2 Kd.i64).via Rect.low).cat ((Kd.row 2 Kd.i64).via Rect.high))
theorem kRectO_sh {w : World} {cs : List Value} {x : Rect} {o s : List Nat} (h : kRectO.Rel w cs x o s) : ∃ (A0 : Option Addr) (c0 : Nat) (A1 : Option Addr) (c1 : Nat), cs = [.slice A0 x.low.length c0, .slice A1 x.high.length c1] := by
  obtain ⟨c10, c20, o10, o20, s10, s20, rfl, rfl, rfl, h0, k0⟩ := h
  obtain ⟨A0_, c0_, rfl⟩ := Kd.row_sh h0
  obtain ⟨A1_, c1_, rfl⟩ := Kd.row_sh k0
  exact ⟨_, _, _, _, rfl⟩
theorem kRectO_seal : Kd.Seals kRectO kRectS := (Kd.Seals.cat (Kd.Seals.via (Kd.Seals.row Kd.Seals.i64 _) _) (Kd.Seals.via (Kd.Seals.row Kd.Seals.i64 _) _))
def kPairO : Kd Pair := ((Kd.i64.via Pair.id).cat (kRectO.via Pair.rect))
theorem kPairO_sh {w : World} {cs : List Value} {x : Pair} {o s : List Nat} (h : kPairO.Rel w cs x o s) : ∃ (A1 : Option Addr) (c1 : Nat) (A2 : Option Addr) (c2 : Nat), cs = [.int .i64 x.id, .slice A1 x.rect.low.length c1, .slice A2 x.rect.high.length c2] := by
  obtain ⟨c10, c20, o10, o20, s10, s20, rfl, rfl, rfl, h0, k0⟩ := h
  obtain ⟨rfl, -, -⟩ := h0
  obtain ⟨_, _, _, _, rfl⟩ := kRectO_sh k0
  exact ⟨_, _, _, _, rfl⟩
theorem kPairO_seal : Kd.Seals kPairO kPairS := (Kd.Seals.cat (Kd.Seals.via Kd.Seals.i64 _) (Kd.Seals.via kRectO_seal _))
def kQueryO : Kd Query := ((Kd.i64.via Query.kind).cat ((kRectO.via Query.rect).cat (((Kd.row 2 Kd.i64).via Query.point).cat (Kd.i64.via Query.k))))
theorem kQueryO_sh {w : World} {cs : List Value} {x : Query} {o s : List Nat} (h : kQueryO.Rel w cs x o s) : ∃ (A1 : Option Addr) (c1 : Nat) (A2 : Option Addr) (c2 : Nat) (A3 : Option Addr) (c3 : Nat), cs = [.int .i64 x.kind, .slice A1 x.rect.low.length c1, .slice A2 x.rect.high.length c2, .slice A3 x.point.length c3, .int .i64 x.k] := by
  obtain ⟨c10, c20, o10, o20, s10, s20, rfl, rfl, rfl, h0, k0⟩ := h
  obtain ⟨rfl, -, -⟩ := h0
  obtain ⟨c11, c21, o11, o21, s11, s21, rfl, rfl, rfl, h1, k1⟩ := k0
  obtain ⟨_, _, _, _, rfl⟩ := kRectO_sh h1
  obtain ⟨c12, c22, o12, o22, s12, s22, rfl, rfl, rfl, h2, k2⟩ := k1
  obtain ⟨A2_, c2_, rfl⟩ := Kd.row_sh h2
  obtain ⟨rfl, -, -⟩ := k2
  exact ⟨_, _, _, _, _, _, rfl⟩
theorem kQueryO_seal : Kd.Seals kQueryO kQueryS := (Kd.Seals.cat (Kd.Seals.via Kd.Seals.i64 _) (Kd.Seals.cat (Kd.Seals.via kRectO_seal _) (Kd.Seals.cat (Kd.Seals.via (Kd.Seals.row Kd.Seals.i64 _) _) (Kd.Seals.via Kd.Seals.i64 _))))
def kOpO : Kd Op := ((Kd.i64.via Op.kind).cat ((kPairO.via Op.pair).cat (kQueryO.via Op.query)))
theorem kOpO_sh {w : World} {cs : List Value} {x : Op} {o s : List Nat} (h : kOpO.Rel w cs x o s) : ∃ (A2 : Option Addr) (c2 : Nat) (A3 : Option Addr) (c3 : Nat) (A5 : Option Addr) (c5 : Nat) (A6 : Option Addr) (c6 : Nat) (A7 : Option Addr) (c7 : Nat), cs = [.int .i64 x.kind, .int .i64 x.pair.id, .slice A2 x.pair.rect.low.length c2, .slice A3 x.pair.rect.high.length c3, .int .i64 x.query.kind, .slice A5 x.query.rect.low.length c5, .slice A6 x.query.rect.high.length c6, .slice A7 x.query.point.length c7, .int .i64 x.query.k] := by
  obtain ⟨c10, c20, o10, o20, s10, s20, rfl, rfl, rfl, h0, k0⟩ := h
  obtain ⟨rfl, -, -⟩ := h0
  obtain ⟨c11, c21, o11, o21, s11, s21, rfl, rfl, rfl, h1, k1⟩ := k0
  obtain ⟨_, _, _, _, rfl⟩ := kPairO_sh h1
  obtain ⟨_, _, _, _, _, _, rfl⟩ := kQueryO_sh k1
  exact ⟨_, _, _, _, _, _, _, _, _, _, rfl⟩
theorem kOpO_seal : Kd.Seals kOpO kOpS := (Kd.Seals.cat (Kd.Seals.via Kd.Seals.i64 _) (Kd.Seals.cat (Kd.Seals.via kPairO_seal _) (Kd.Seals.via kQueryO_seal _)))
def kAnswerO : Kd Answer := ((Kd.i64.via Answer.code).cat ((Kd.row 60 kPairO).via Answer.pairs))
theorem kAnswerO_sh {w : World} {cs : List Value} {x : Answer} {o s : List Nat} (h : kAnswerO.Rel w cs x o s) : ∃ (A1 : Option Addr) (c1 : Nat), cs = [.int .i64 x.code, .slice A1 x.pairs.length c1] := by
  obtain ⟨c10, c20, o10, o20, s10, s20, rfl, rfl, rfl, h0, k0⟩ := h
  obtain ⟨rfl, -, -⟩ := h0
  obtain ⟨A1_, c1_, rfl⟩ := Kd.row_sh k0
  exact ⟨_, _, rfl⟩
theorem kAnswerO_seal : Kd.Seals kAnswerO kAnswerS := (Kd.Seals.cat (Kd.Seals.via Kd.Seals.i64 _) (Kd.Seals.via (Kd.Seals.row kPairO_seal _) _))
def kNoteO : Kd Note := ((Kd.i64.via Note.at_).cat ((Kd.i64.via Note.kind).cat ((Kd.i64.via Note.client).cat ((kOpO.via Note.op).cat (kAnswerO.via Note.answer)))))
theorem kNoteO_sh {w : World} {cs : List Value} {x : Note} {o s : List Nat} (h : kNoteO.Rel w cs x o s) : ∃ (A5 : Option Addr) (c5 : Nat) (A6 : Option Addr) (c6 : Nat) (A8 : Option Addr) (c8 : Nat) (A9 : Option Addr) (c9 : Nat) (A10 : Option Addr) (c10 : Nat) (A13 : Option Addr) (c13 : Nat), cs = [.int .i64 x.at_, .int .i64 x.kind, .int .i64 x.client, .int .i64 x.op.kind, .int .i64 x.op.pair.id, .slice A5 x.op.pair.rect.low.length c5, .slice A6 x.op.pair.rect.high.length c6, .int .i64 x.op.query.kind, .slice A8 x.op.query.rect.low.length c8, .slice A9 x.op.query.rect.high.length c9, .slice A10 x.op.query.point.length c10, .int .i64 x.op.query.k, .int .i64 x.answer.code, .slice A13 x.answer.pairs.length c13] := by
  obtain ⟨c10, c20, o10, o20, s10, s20, rfl, rfl, rfl, h0, k0⟩ := h
  obtain ⟨rfl, -, -⟩ := h0
  obtain ⟨c11, c21, o11, o21, s11, s21, rfl, rfl, rfl, h1, k1⟩ := k0
  obtain ⟨rfl, -, -⟩ := h1
  obtain ⟨c12, c22, o12, o22, s12, s22, rfl, rfl, rfl, h2, k2⟩ := k1
  obtain ⟨rfl, -, -⟩ := h2
  obtain ⟨c13, c23, o13, o23, s13, s23, rfl, rfl, rfl, h3, k3⟩ := k2
  obtain ⟨_, _, _, _, _, _, _, _, _, _, rfl⟩ := kOpO_sh h3
  obtain ⟨_, _, rfl⟩ := kAnswerO_sh k3
  exact ⟨_, _, _, _, _, _, _, _, _, _, _, _, rfl⟩
theorem kNoteO_seal : Kd.Seals kNoteO kNoteS := (Kd.Seals.cat (Kd.Seals.via Kd.Seals.i64 _) (Kd.Seals.cat (Kd.Seals.via Kd.Seals.i64 _) (Kd.Seals.cat (Kd.Seals.via Kd.Seals.i64 _) (Kd.Seals.cat (Kd.Seals.via kOpO_seal _) (Kd.Seals.via kAnswerO_seal _)))))

def within (n low high : Int) : Bool := decide (low ≤ n ∧ n ≤ high)
def isDims (d : Int) : Bool := within d 2 3

/-! impl.within -/
set_option maxRecDepth 20000 in
set_option maxHeartbeats 2000000 in
theorem impl_within (w : World) (n : Int) (low : Int) (high : Int)  : Calls Tryz.prog 39 #[.int .i64 n, .int .i64 low, .int .i64 high] w (fun e_ w2_ => e_ = .returned (.bool (within n low high)) ∧ Below w.heap.size w w2_) := by
  refine fnc (X := X 15 w) (args := [.int .i64 n, .int .i64 low, .int .i64 high]) (l := [(0, .int .i64 n), (1, .int .i64 low), (2, .int .i64 high)]) (G := []) Tryz.func39 rfl rfl rfl ⟨rfl, rfl, rfl, trivial⟩ (s0n w).1 ?_
  refine sq (rg (a_ rfl rfl (en (nx (sq (rg (m_ rfl rfl (m_ rfl rfl (vl (cm rfl rfl rfl rfl) rfl (m_ rfl rfl ?_))))))))))
  by_cases h1 : low ≤ n
  · refine vg (mv rfl rfl) rfl rfl (decide_eq_true h1) (vg (mv rfl rfl) rfl rfl (decide_eq_true h1) (vg (cm rfl rfl rfl rfl) rfl rfl (decide_eq_true h1) (vl (pk (b := true) rfl rfl (decide_eq_true h1) rfl) rfl (a_ rfl rfl (en (nx (rt (ret1 rfl rfl (fun w_ hs_ => ⟨?_, hs_.below⟩)))))))))
    simp [within, h1]
  · refine sg rfl rfl (decide_eq_false h1) (sg rfl rfl (decide_eq_false h1) (sg rfl rfl (decide_eq_false h1) (vl (pk (b := false) rfl rfl (decide_eq_false h1) rfl) rfl (a_ rfl rfl (en (nx (rt (ret1 rfl rfl (fun w_ hs_ => ⟨?_, hs_.below⟩)))))))))
    simp [within, h1]
/-! spec.l1In -/
set_option maxRecDepth 20000 in
set_option maxHeartbeats 2000000 in
theorem spec_l1In (w : World) (n : Int) (low : Int) (high : Int)  : Calls Tryz.prog 46 #[.int .i64 n, .int .i64 low, .int .i64 high] w (fun e_ w2_ => e_ = .returned (.bool (within n low high)) ∧ Below w.heap.size w w2_) := by
  refine fnc (X := X 15 w) (args := [.int .i64 n, .int .i64 low, .int .i64 high]) (l := [(0, .int .i64 n), (1, .int .i64 low), (2, .int .i64 high)]) (G := []) Tryz.func46 rfl rfl rfl ⟨rfl, rfl, rfl, trivial⟩ (s0n w).1 ?_
  refine sq (rg (a_ rfl rfl (en (nx (sq (rg (m_ rfl rfl (m_ rfl rfl (vl (cm rfl rfl rfl rfl) rfl (m_ rfl rfl ?_))))))))))
  by_cases h1 : low ≤ n
  · refine vg (mv rfl rfl) rfl rfl (decide_eq_true h1) (vg (mv rfl rfl) rfl rfl (decide_eq_true h1) (vg (cm rfl rfl rfl rfl) rfl rfl (decide_eq_true h1) (vl (pk (b := true) rfl rfl (decide_eq_true h1) rfl) rfl (a_ rfl rfl (en (nx (rt (ret1 rfl rfl (fun w_ hs_ => ⟨?_, hs_.below⟩)))))))))
    simp [within, h1]
  · refine sg rfl rfl (decide_eq_false h1) (sg rfl rfl (decide_eq_false h1) (sg rfl rfl (decide_eq_false h1) (vl (pk (b := false) rfl rfl (decide_eq_false h1) rfl) rfl (a_ rfl rfl (en (nx (rt (ret1 rfl rfl (fun w_ hs_ => ⟨?_, hs_.below⟩)))))))))
    simp [within, h1]
/-! impl.isDims -/
set_option maxRecDepth 20000 in
set_option maxHeartbeats 2000000 in
theorem impl_isDims (w : World) (dims : Int)  : Calls Tryz.prog 70 #[.int .i64 dims] w (fun e_ w2_ => e_ = .returned (.bool (isDims dims)) ∧ Below w.heap.size w w2_) := by
  refine fnc (X := X 5 w) (args := [.int .i64 dims]) (l := [(0, .int .i64 dims)]) (G := []) Tryz.func70 rfl rfl rfl ⟨rfl, trivial⟩ (s0n w).1 ?_
  refine sq (rg (a_ rfl rfl (en (nx (sq (rg (m_ rfl rfl (cs_ (v := .bool (within dims 2 3)) (by kernel_rfl) rfl rfl rfl (fun w_ hs_ => impl_within w_ _ _ _) (a_ rfl rfl (en (nx (rt (ret1 rfl rfl (fun w_ hs_ => ⟨?_, hs_.below⟩))))))))))))))
  rfl
/-! slices.IndexFunc[[]int64,int64] -/
set_option maxRecDepth 20000 in
set_option maxHeartbeats 2000000 in
theorem slices_IndexFunc_int64_int64 (w : World) (p : Int → Bool) {fp : FuncId} {cfp : List Value} (hEp : enters Tryz.prog fp = true) {As : Option Addr} {cs : Nat} {s : List Int} {ss_ : List Nat} (hs : (Kd.sl Kd.i64).Rel w [.slice As s.length cs] s [] ss_) (hfp : ∀ (w1 : World) (x0 : Int), x0 ∈ s → Below w.heap.size w w1 → Calls Tryz.prog fp (([.int .i64 x0] : List Value) ++ cfp).toArray w1 (fun e_ w2_ => e_ = .returned (.bool (p x0)) ∧ Below w1.heap.size w1 w2_))  : Calls Tryz.prog 163 #[.slice As s.length cs, .func (.func fp) #[] cfp.toArray] w (fun e_ w2_ => e_ = .returned (.int .i64 (idx p s)) ∧ Below w.heap.size w w2_) := by
  have Ls := Kd.sl_len hs; have Cs := Kd.sl_cap hs
  refine fnc (X := X 19 w) (args := [.slice As s.length cs, .func (.func fp) #[] cfp.toArray]) (l := [(0, .slice As s.length cs), (1, .func (.func fp) #[] cfp.toArray)]) (G := [dat (Kd.sl Kd.i64) [.slice As s.length cs] s ([]) ss_]) Tryz.func163 rfl rfl rfl ⟨rfl, rfl, trivial⟩ (s0d hs (s0n w)).1 ?_
  refine sq (rg (a_ rfl rfl (en (nx (sq (sq (rg (m_ rfl rfl (vl (ln rfl rfl rfl) rfl (m_ rfl rfl (en (nx (bk ?_)))))))))))))
  refine lp (σ := Nat) (fun k : Nat => [(0, .slice As s.length cs), (1, .func (.func fp) #[] cfp.toArray), (7, .int .i64 ((s.length : Nat) : Int)), (8, .int .i64 ((k : Nat) : Int))])
      (fun k : Nat => [dat (Kd.sl Kd.i64) [.slice As s.length cs] s ([]) ss_])
      (fun k : Nat => k ≤ s.length ∧ ∀ j x, j < k → s[j]? = some x → p x = false) (fun k : Nat => s.length - k) 0 [0] ⟨Nat.zero_le _, by simp⟩ ⟨rfl, rfl, rfl, rfl, trivial⟩ rfl ?_
  intro k hp_
  obtain ⟨hk, hinv⟩ := hp_
  refine sq (rg (vl (cm rfl rfl rfl rfl) rfl (en (nx (sq ?_)))))
  by_cases h1 : ((k : Nat) : Int) < ((s.length : Nat) : Int)
  · refine ct rfl (decide_eq_true h1) (sk (nx (sq (bk (sq (rg (m_ rfl rfl (a_ rfl rfl (en (nx (sq (rg (m_ rfl rfl (m_ rfl rfl (m_ rfl rfl ?_)))))))))))))))
    refine gx 0 k rfl (by omega) fun y7 p2 cs_ s3 w6 m8 e4 r5 us3 => ?_
    obtain ⟨rfl, -, -⟩ := r5
    refine vl (ix k e4 rfl rfl rfl rfl rfl (by omega)) rfl (vl (ldq (u := .int .i64 y7) 0 rfl rfl rfl rfl rfl rfl rfl) rfl (cv_ (v := .bool (p y7)) hEp rfl rfl rfl rfl (fun w_ hs_ => hfp w_ y7 (List.mem_of_getElem? m8) hs_.below  ) (en (nx ?_))))
    by_cases h9 : p y7 = true
    · refine ct rfl h9 (sq (rg (m_ rfl rfl (a_ rfl rfl (en (nx (rt (xrb (xr (xr (xrb (xr (ret1 rfl rfl (fun w_ hs_ => ⟨?_, hs_.below⟩))))))))))))))
      rw [idx_some hinv m8 h9]
    · exact cf rfl (Bool.eq_false_iff.2 h9) (sk (xn (nx (rg (vl (ra (c := ((k + 1 : Nat) : Int)) rfl rfl rfl (by omega) (by omega) (by omega)) rfl (m_ rfl rfl (en (lpe (s := k) (k + 1) [1] ⟨by omega, idx_step hinv m8 (Bool.eq_false_iff.2 h9)⟩ (by omega) ⟨rfl, rfl, rfl, rfl, trivial⟩ rfl))))))))
  · refine cf rfl (decide_eq_false h1) (xt (xq (xq (xb (nx (sq (rg (a_ rfl rfl (en (nx (rt (ret1 rfl rfl (fun w_ hs_ => ⟨?_, hs_.below⟩)))))))))))))
    rw [idx_none hinv (by omega)]
/-! slices.ContainsFunc[[]int64,int64] -/
set_option maxRecDepth 20000 in
set_option maxHeartbeats 2000000 in
theorem slices_ContainsFunc_int64_int64 (w : World) (p : Int → Bool) {fp : FuncId} {cfp : List Value} (hEp : enters Tryz.prog fp = true) {As : Option Addr} {cs : Nat} {s : List Int} {ss_ : List Nat} (hs : (Kd.sl Kd.i64).Rel w [.slice As s.length cs] s [] ss_) (hfp : ∀ (w1 : World) (x0 : Int), x0 ∈ s → Below w.heap.size w w1 → Calls Tryz.prog fp (([.int .i64 x0] : List Value) ++ cfp).toArray w1 (fun e_ w2_ => e_ = .returned (.bool (p x0)) ∧ Below w1.heap.size w1 w2_))  : Calls Tryz.prog 160 #[.slice As s.length cs, .func (.func fp) #[] cfp.toArray] w (fun e_ w2_ => e_ = .returned (.bool (List.any s p)) ∧ Below w.heap.size w w2_) := by
  have Ls := Kd.sl_len hs; have Cs := Kd.sl_cap hs
  refine fnc (X := X 9 w) (args := [.slice As s.length cs, .func (.func fp) #[] cfp.toArray]) (l := [(0, .slice As s.length cs), (1, .func (.func fp) #[] cfp.toArray)]) (G := [dat (Kd.sl Kd.i64) [.slice As s.length cs] s ([]) ss_]) Tryz.func160 rfl rfl rfl ⟨rfl, rfl, trivial⟩ (s0d hs (s0n w)).1 ?_
  refine sq (rg (a_ rfl rfl (en (nx (sq (rg (m_ rfl rfl (m_ rfl rfl (cs_ (v := .int .i64 (idx p s)) (by kernel_rfl) rfl rfl rfl (fun w_ hs_ => slices_IndexFunc_int64_int64 w_ p hEp (hs_.at 0 rfl) (fun w1 x0 m0_ b_ => hfp w1 x0 m0_ (hs_.below.trans (b_.mono hs_.below.size)))) (vl (cm rfl rfl rfl rfl) rfl (a_ rfl rfl (en (nx (rt (ret1 rfl rfl (fun w_ hs_ => ⟨?_, hs_.below⟩))))))))))))))))
  rw [idx_ge]
/-! impl.PointFault$1 -/
set_option maxRecDepth 20000 in
set_option maxHeartbeats 2000000 in
theorem impl_PointFault_1 (w : World) (n : Int)  : Calls Tryz.prog 161 #[.int .i64 n] w (fun e_ w2_ => e_ = .returned (.bool (!within n (-1000) 1000)) ∧ Below w.heap.size w w2_) := by
  refine fnc (X := X 6 w) (args := [.int .i64 n]) (l := [(0, .int .i64 n)]) (G := []) Tryz.func161 rfl rfl rfl ⟨rfl, trivial⟩ (s0n w).1 ?_
  refine sq (rg (a_ rfl rfl (en (nx (sq (rg (m_ rfl rfl (cs_ (v := .bool (within n (-1000) 1000)) (by kernel_rfl) rfl rfl rfl (fun w_ hs_ => impl_within w_ _ _ _) (vl (nt rfl rfl) rfl (a_ rfl rfl (en (nx (rt (ret1 rfl rfl (fun w_ hs_ => ⟨?_, hs_.below⟩)))))))))))))))
  rfl
def pointFault (p : List Int) (dims : Int) : Int := if isDims dims = true then if (p.length : Int) = dims then if p.any (fun n => !within n (-1000) 1000) = true then 3 else 0 else 2 else 3
theorem pointFault_len {p : List Int} {d : Int} (h : pointFault p d = 0) : (p.length : Int) = d := by
  unfold pointFault at h
  split at h
  · split at h
    · assumption
    · simp at h
  · simp at h
def rectBad (lo hi : List Int) : Bool := (lo.zip hi).any (fun q => decide (q.2 < q.1))
theorem rectBad_t {lo hi : List Int} {k : Nat} {a b : Int} (ha : lo[k]? = some a) (hb : hi[k]? = some b) (h : b < a) : rectBad lo hi = true :=
  any_some (k := k) (y := (a, b)) (by rw [List.getElem?_zip_eq_some]; exact ⟨ha, hb⟩) (by simpa using h)
theorem rectBad_f {lo hi : List Int} {k : Nat} (h : ∀ j a b, j < k → lo[j]? = some a → hi[j]? = some b → a ≤ b) (hk : lo.length ≤ k) : rectBad lo hi = false :=
  any_none (k := k) (fun j x hj hx => by
    obtain ⟨h1, h2⟩ := List.getElem?_zip_eq_some.1 hx
    have := h j _ _ hj h1 h2
    simp; omega) (by simp; omega)
theorem rectStep {lo hi : List Int} {k : Nat} {x y : Int} (h : ∀ j a b, j < k → lo[j]? = some a → hi[j]? = some b → a ≤ b) (hx : lo[k]? = some x) (hy : hi[k]? = some y) (hn : ¬ y < x) : ∀ j a b, j < k + 1 → lo[j]? = some a → hi[j]? = some b → a ≤ b := fun j a b hj ha hb => by
  rcases Nat.lt_succ_iff_lt_or_eq.1 hj with hlt | rfl
  · exact h j a b hlt ha hb
  · rw [hx] at ha; rw [hy] at hb; cases ha; cases hb; omega
def rectFault (r : Rect) (dims : Int) : Int := if pointFault r.low dims = 0 then if pointFault r.high dims = 0 then if rectBad r.low r.high = true then 1 else 0 else pointFault r.high dims else pointFault r.low dims
/-! impl.PointFault -/
set_option maxRecDepth 20000 in
set_option maxHeartbeats 2000000 in
theorem impl_PointFault (w : World) (dims : Int) {Ap : Option Addr} {cp : Nat} {p : List Int} {sp_ : List Nat} (hp : (Kd.sl Kd.i64).Rel w [.slice Ap p.length cp] p [] sp_)  : Calls Tryz.prog 154 #[.slice Ap p.length cp, .int .i64 dims] w (fun e_ w2_ => e_ = .returned (.int .i64 (pointFault p dims)) ∧ Below w.heap.size w w2_) := by
  have Lp := Kd.sl_len hp; have Cp := Kd.sl_cap hp
  refine fnc (X := X 17 w) (args := [.slice Ap p.length cp, .int .i64 dims]) (l := [(0, .slice Ap p.length cp), (1, .int .i64 dims)]) (G := [dat (Kd.sl Kd.i64) [.slice Ap p.length cp] p ([]) sp_]) Tryz.func154 rfl rfl rfl ⟨rfl, rfl, trivial⟩ (s0d hp (s0n w)).1 ?_
  refine sq (rg (a_ rfl rfl (en (nx (sq (bk (sq (rg (m_ rfl rfl (cs_ (v := .bool (isDims dims)) (by kernel_rfl) rfl rfl rfl (fun w_ hs_ => impl_isDims w_ _) (vl (nt rfl rfl) rfl (a_ rfl rfl (en (nx ?_))))))))))))))
  by_cases h1 : isDims dims = true
  · refine cf rfl (not_f h1) (sq (rg (m_ rfl rfl (vl (ln rfl rfl rfl) rfl (m_ rfl rfl (vl (cm rfl rfl rfl rfl) rfl (a_ rfl rfl (en (nx ?_)))))))))
    by_cases h2 : ((p.length : Nat) : Int) = dims
    · refine cf rfl (bne_eq_false_iff_eq.2 h2) (sq (rg (m_ rfl rfl (cs_ (v := .bool (List.any p (fun (x0 : Int) => !within x0 (-1000) 1000))) (by kernel_rfl) rfl rfl rfl (fun w_ hs_ => slices_ContainsFunc_int64_int64 w_ (fun (x0 : Int) => !within x0 (-1000) 1000) (by kernel_rfl) (hs_.at 0 rfl) (fun w1 x0 m0_ b_  => impl_PointFault_1 w1 x0 )) (a_ rfl rfl (en (nx ?_)))))))
      by_cases h3 : List.any p (fun (x0 : Int) => !within x0 (-1000) 1000) = true
      · refine ct rfl h3 (sq (rg (a_ rfl rfl (en (nx (rt (xrb (xr (ret1 rfl rfl (fun w_ hs_ => ⟨?_, hs_.below⟩))))))))))
        simp [pointFault, h1, h2, h3]
      · refine cf rfl (Bool.eq_false_iff.2 h3) (sk (xn (nx (sq (rg (a_ rfl rfl (en (nx (rt (ret1 rfl rfl (fun w_ hs_ => ⟨?_, hs_.below⟩)))))))))))
        simp [pointFault, h1, h2, h3]
    · refine ct rfl (bne_iff_ne.2 h2) (sq (rg (a_ rfl rfl (en (nx (rt (xrb (xr (ret1 rfl rfl (fun w_ hs_ => ⟨?_, hs_.below⟩))))))))))
      simp [pointFault, h1, h2]
  · refine ct rfl (not_t (Bool.eq_false_iff.2 h1)) (sq (rg (a_ rfl rfl (en (nx (rt (xrb (xr (ret1 rfl rfl (fun w_ hs_ => ⟨?_, hs_.below⟩))))))))))
    simp [pointFault, h1]
/-! spec.PointFault -/
set_option maxRecDepth 20000 in
set_option maxHeartbeats 2000000 in
theorem spec_PointFault (w : World) (dims : Int) {Ap : Option Addr} {cp : Nat} {p : List Int} {sp_ : List Nat} (hp : (Kd.sl Kd.i64).Rel w [.slice Ap p.length cp] p [] sp_)  : Calls Tryz.prog 158 #[.slice Ap p.length cp, .int .i64 dims] w (fun e_ w2_ => e_ = .returned (.int .i64 (pointFault p dims)) ∧ Below w.heap.size w w2_) := by
  have Lp := Kd.sl_len hp; have Cp := Kd.sl_cap hp
  refine fnc (X := X 25 w) (args := [.slice Ap p.length cp, .int .i64 dims]) (l := [(0, .slice Ap p.length cp), (1, .int .i64 dims)]) (G := [dat (Kd.sl Kd.i64) [.slice Ap p.length cp] p ([]) sp_]) Tryz.func158 rfl rfl rfl ⟨rfl, rfl, trivial⟩ (s0d hp (s0n w)).1 ?_
  refine sq (rg (a_ rfl rfl (en (nx (sq (sq (rg (m_ rfl rfl (cs_ (v := .bool (within dims 2 3)) (by kernel_rfl) rfl rfl rfl (fun w_ hs_ => spec_l1In w_ _ _ _) (vl (nt rfl rfl) rfl (en (nx ?_))))))))))))
  by_cases h1 : within dims 2 3 = true
  · refine cf rfl (not_f h1) (sk (nx (sq (sq (rg (m_ rfl rfl (vl (ln rfl rfl rfl) rfl (m_ rfl rfl (vl (cm rfl rfl rfl rfl) rfl (en (nx ?_)))))))))))
    by_cases h2 : ((p.length : Nat) : Int) = dims
    · refine cf rfl (bne_eq_false_iff_eq.2 h2) (sk (nx (sq (sq (rg (a_ rfl rfl (en (nx (bk ?_)))))))))
      refine lp (σ := Nat) (fun k : Nat => [(0, .slice Ap p.length cp), (5, .int .i64 ((k : Nat) : Int))])
          (fun k : Nat => [dat (Kd.sl Kd.i64) [.slice Ap p.length cp] p ([]) sp_])
          (fun k : Nat => k ≤ p.length ∧ ∀ j x, j < k → p[j]? = some x → (!within x (-1000) 1000) = false) (fun k : Nat => p.length - k) 0 [0] ⟨Nat.zero_le _, by simp⟩ ⟨rfl, rfl, trivial⟩ rfl ?_
      intro k hp_
      obtain ⟨hk, hinv⟩ := hp_
      refine sq (sq (rg (m_ rfl rfl (m_ rfl rfl (vl (ln rfl rfl rfl) rfl (vl (cm rfl rfl rfl rfl) rfl (en (nx ?_))))))))
      by_cases h3 : ((k : Nat) : Int) < ((p.length : Nat) : Int)
      · refine ct rfl (decide_eq_true h3) (sk (nx (sq (bk (sq (rg (m_ rfl rfl (m_ rfl rfl ?_))))))))
        refine gx 0 k rfl (by omega) fun y9 p4 cs_ s5 w8 m10 e6 r7 us5 => ?_
        obtain ⟨rfl, -, -⟩ := r7
        refine vl (ix k e6 rfl rfl rfl rfl rfl (by omega)) rfl (vl (ldq (u := .int .i64 y9) 0 rfl rfl rfl rfl rfl rfl rfl) rfl (cs_ (v := .bool (within y9 (-1000) 1000)) (by kernel_rfl) rfl rfl rfl (fun w_ hs_ => spec_l1In w_ _ _ _) (vl (nt rfl rfl) rfl (en (nx ?_)))))
        by_cases h11 : within y9 (-1000) 1000 = true
        · exact cf rfl (not_f h11) (sk (xn (nx (rg (m_ rfl rfl (vl (ra (c := ((k + 1 : Nat) : Int)) rfl rfl rfl (by omega) (by omega) (by omega)) rfl (a_ rfl rfl (en (lpe (s := k) (k + 1) [1] ⟨by omega, idx_step hinv m10 (not_f h11)⟩ (by omega) ⟨rfl, rfl, trivial⟩ rfl)))))))))
        · refine ct rfl (not_t (Bool.eq_false_iff.2 h11)) (sq (rg (a_ rfl rfl (en (nx (rt (xrb (xr (xr (xrb (xr (ret1 rfl rfl (fun w_ hs_ => ⟨?_, hs_.below⟩)))))))))))))
          simp [pointFault, h1, h2, h3, any_some (p := fun n => !within n (-1000) 1000) m10 (not_t (Bool.eq_false_iff.2 h11))]
      · refine cf rfl (decide_eq_false h3) (xt (xq (xq (xb (nx (sq (rg (a_ rfl rfl (en (nx (rt (ret1 rfl rfl (fun w_ hs_ => ⟨?_, hs_.below⟩)))))))))))))
        simp [pointFault, h1, h2, h3, isDims, any_none (p := fun n => !within n (-1000) 1000) hinv (by omega)]
    · refine ct rfl (bne_iff_ne.2 h2) (sq (rg (a_ rfl rfl (en (nx (rt (xr (ret1 rfl rfl (fun w_ hs_ => ⟨?_, hs_.below⟩)))))))))
      simp [pointFault, isDims, h1, h2]
  · refine ct rfl (not_t (Bool.eq_false_iff.2 h1)) (sq (rg (a_ rfl rfl (en (nx (rt (xr (ret1 rfl rfl (fun w_ hs_ => ⟨?_, hs_.below⟩)))))))))
    simp [pointFault, isDims, h1]
/-! impl.RectFault -/
set_option maxRecDepth 20000 in
set_option maxHeartbeats 2000000 in
theorem impl_RectFault (w : World) (dims : Int) {Ar0 : Option Addr} {cr0 : Nat} {Ar1 : Option Addr} {cr1 : Nat} {r : Rect} {sr_ : List Nat} (hr : kRectS.Rel w [.slice Ar0 r.low.length cr0, .slice Ar1 r.high.length cr1] r [] sr_)  : Calls Tryz.prog 135 #[.agg #[.slice Ar0 r.low.length cr0, .slice Ar1 r.high.length cr1], .int .i64 dims] w (fun e_ w2_ => e_ = .returned (.int .i64 (rectFault r dims)) ∧ Below w.heap.size w w2_) := by
  refine fnc (X := X 39 w) (args := [.agg #[.slice Ar0 r.low.length cr0, .slice Ar1 r.high.length cr1], .int .i64 dims]) (l := [(0, .agg #[.slice Ar0 r.low.length cr0, .slice Ar1 r.high.length cr1]), (1, .int .i64 dims)]) (G := [dat kRectS [.slice Ar0 r.low.length cr0, .slice Ar1 r.high.length cr1] r ([]) sr_]) Tryz.func135 rfl rfl rfl ⟨rfl, rfl, trivial⟩ (s0d hr (s0n w)).1 ?_
  refine sq (rg (bx rfl rfl rfl rfl ?_))
  intro b1
  refine a_ rfl rfl (en (nx (sq (sq (rg (vl (fa rfl rfl rfl) rfl (vl (ldb (u := .slice Ar0 r.low.length cr0) 0 rfl rfl rfl rfl rfl rfl rfl) rfl (m_ rfl rfl ?_))))))))
  refine gd 1 kRectS_p0_1 rfl (cs' := [.slice Ar0 r.low.length cr0]) rfl fun s2 w_ rs2 us2 => ?_
  have Ls2 := Kd.sl_len rs2; have Cs2 := Kd.sl_cap rs2
  refine cs_ (v := .int .i64 (pointFault r.low dims)) (by kernel_rfl) rfl rfl rfl (fun w_ hs_ => impl_PointFault w_ _ (hs_.at 0 rfl)) (a_ rfl rfl (en (nx (sq (rg (m_ rfl rfl (vl (cm rfl rfl rfl rfl) rfl (en (nx ?_)))))))))
  by_cases h3 : (pointFault r.low dims) = (0 : Int)
  · have eh3 := pointFault_len h3
    refine cf rfl (bne_eq_false_iff_eq.2 h3) (sk (nx (sq (sq (rg (vl (fa rfl rfl rfl) rfl (vl (ldb (u := .slice Ar1 r.high.length cr1) 1 rfl rfl rfl rfl rfl rfl rfl) rfl (m_ rfl rfl ?_))))))))
    refine gd 2 kRectS_p1_1 rfl (cs' := [.slice Ar1 r.high.length cr1]) rfl fun s4 w_ rs4 us4 => ?_
    have Ls4 := Kd.sl_len rs4; have Cs4 := Kd.sl_cap rs4
    refine cs_ (v := .int .i64 (pointFault r.high dims)) (by kernel_rfl) rfl rfl rfl (fun w_ hs_ => impl_PointFault w_ _ (hs_.at 0 rfl)) (a_ rfl rfl (en (nx (sq (rg (m_ rfl rfl (vl (cm rfl rfl rfl rfl) rfl (en (nx ?_)))))))))
    by_cases h5 : (pointFault r.high dims) = (0 : Int)
    · have eh5 := pointFault_len h5
      refine cf rfl (bne_eq_false_iff_eq.2 h5) (sk (nx (sq (sq (rg (vl (fa rfl rfl rfl) rfl (vl (ldb (u := .slice Ar0 r.low.length cr0) 2 rfl rfl rfl rfl rfl rfl rfl) rfl (vl (ln rfl rfl rfl) rfl (m_ rfl rfl (en (nx (bk ?_))))))))))))
      refine lp (σ := Nat) (fun k : Nat => [(2, .pointer (some ⟨b1, 0, none⟩)), (24, .slice Ar0 r.low.length cr0), (25, .int .i64 ((r.low.length : Nat) : Int)), (26, .int .i64 ((k : Nat) : Int))])
          (fun k : Nat => [dat (Kd.sl Kd.i64) [.slice Ar1 r.high.length cr1] r.high ([]) s4, dat (Kd.sl Kd.i64) [.slice Ar0 r.low.length cr0] r.low ([]) s2, blk b1 [.slice Ar0 r.low.length cr0, .slice Ar1 r.high.length cr1] 58, dat kRectS [.slice Ar0 r.low.length cr0, .slice Ar1 r.high.length cr1] r ([]) sr_])
          (fun k : Nat => k ≤ r.low.length ∧ ∀ j a b, j < k → r.low[j]? = some a → r.high[j]? = some b → a ≤ b) (fun k : Nat => r.low.length - k) 0 [0, 0, 0, 0] ⟨Nat.zero_le _, by simp⟩ ⟨rfl, rfl, rfl, rfl, trivial⟩ rfl ?_
      intro k hp_
      obtain ⟨hk, hinv⟩ := hp_
      refine sq (rg (vl (cm rfl rfl rfl rfl) rfl (en (nx (sq ?_)))))
      by_cases h6 : ((k : Nat) : Int) < ((r.low.length : Nat) : Int)
      · refine ct rfl (decide_eq_true h6) (sk (nx (sq (bk (sq (rg (m_ rfl rfl ?_)))))))
        refine gx 1 k rfl (by omega) fun y12 p7 cs_ s8 w11 m13 e9 r10 us8 => ?_
        obtain ⟨rfl, -, -⟩ := r10
        refine vl (ix k e9 rfl rfl rfl rfl rfl (by omega)) rfl (vl (ldq (u := .int .i64 y12) 0 rfl rfl rfl rfl rfl rfl rfl) rfl (a_ rfl rfl (a_ rfl rfl (en (nx (sq (rg (m_ rfl rfl (vl (fa rfl rfl rfl) rfl (vl (ldb (u := .slice Ar1 r.high.length cr1) 3 rfl rfl rfl rfl rfl rfl rfl) rfl (m_ rfl rfl ?_)))))))))))
        refine gx 1 k rfl (by omega) fun y19 p14 cs_ s15 w18 m20 e16 r17 us15 => ?_
        obtain ⟨rfl, -, -⟩ := r17
        refine vl (ix k e16 rfl rfl rfl rfl rfl (by omega)) rfl (vl (ldq (u := .int .i64 y19) 0 rfl rfl rfl rfl rfl rfl rfl) rfl (vl (cm rfl rfl rfl rfl) rfl (en (nx ?_))))
        by_cases h21 : y19 < y12
        · refine ct rfl (decide_eq_true h21) (sq (rg (a_ rfl rfl (en (nx (rt (xrb (xr (xr (xrb (xr (ret1 rfl rfl (fun w_ hs_ => ⟨?_, hs_.below⟩)))))))))))))
          simp [rectFault, h3, h5, rectBad_t m13 m20 h21]
        · exact cf rfl (decide_eq_false h21) (sk (xn (nx (rg (vl (ra (c := ((k + 1 : Nat) : Int)) rfl rfl rfl (by omega) (by omega) (by omega)) rfl (m_ rfl rfl (en (lpe (s := k) (k + 1) [2, 2, 2, 2] ⟨by omega, rectStep hinv m13 m20 h21⟩ (by omega) ⟨rfl, rfl, rfl, rfl, trivial⟩ rfl))))))))
      · refine cf rfl (decide_eq_false h6) (xt (xq (xq (xb (nx (sq (rg (a_ rfl rfl (en (nx (rt (ret1 rfl rfl (fun w_ hs_ => ⟨?_, hs_.below⟩)))))))))))))
        simp [rectFault, h3, h5, rectBad_f hinv (by omega)]
    · refine ct rfl (bne_iff_ne.2 h5) (sq (rg (m_ rfl rfl (a_ rfl rfl (en (nx (rt (xr (ret1 rfl rfl (fun w_ hs_ => ⟨?_, hs_.below⟩))))))))))
      simp [rectFault, h3, h5]
  · refine ct rfl (bne_iff_ne.2 h3) (sq (rg (m_ rfl rfl (a_ rfl rfl (en (nx (rt (xr (ret1 rfl rfl (fun w_ hs_ => ⟨?_, hs_.below⟩))))))))))
    simp [rectFault, h3]
/-! spec.RectFault -/
set_option maxRecDepth 20000 in
set_option maxHeartbeats 2000000 in
theorem spec_RectFault (w : World) (dims : Int) {Ar0 : Option Addr} {cr0 : Nat} {Ar1 : Option Addr} {cr1 : Nat} {r : Rect} {sr_ : List Nat} (hr : kRectS.Rel w [.slice Ar0 r.low.length cr0, .slice Ar1 r.high.length cr1] r [] sr_)  : Calls Tryz.prog 148 #[.agg #[.slice Ar0 r.low.length cr0, .slice Ar1 r.high.length cr1], .int .i64 dims] w (fun e_ w2_ => e_ = .returned (.int .i64 (rectFault r dims)) ∧ Below w.heap.size w w2_) := by
  refine fnc (X := X 40 w) (args := [.agg #[.slice Ar0 r.low.length cr0, .slice Ar1 r.high.length cr1], .int .i64 dims]) (l := [(0, .agg #[.slice Ar0 r.low.length cr0, .slice Ar1 r.high.length cr1]), (1, .int .i64 dims)]) (G := [dat kRectS [.slice Ar0 r.low.length cr0, .slice Ar1 r.high.length cr1] r ([]) sr_]) Tryz.func148 rfl rfl rfl ⟨rfl, rfl, trivial⟩ (s0d hr (s0n w)).1 ?_
  refine sq (rg (bx rfl rfl rfl rfl ?_))
  intro b1
  refine a_ rfl rfl (en (nx (sq (sq (rg (vl (fa rfl rfl rfl) rfl (vl (ldb (u := .slice Ar0 r.low.length cr0) 0 rfl rfl rfl rfl rfl rfl rfl) rfl (m_ rfl rfl ?_))))))))
  refine gd 1 kRectS_p0_1 rfl (cs' := [.slice Ar0 r.low.length cr0]) rfl fun s2 w_ rs2 us2 => ?_
  have Ls2 := Kd.sl_len rs2; have Cs2 := Kd.sl_cap rs2
  refine cs_ (v := .int .i64 (pointFault r.low dims)) (by kernel_rfl) rfl rfl rfl (fun w_ hs_ => spec_PointFault w_ _ (hs_.at 0 rfl)) (a_ rfl rfl (en (nx (sq (rg (m_ rfl rfl (vl (cm rfl rfl rfl rfl) rfl (en (nx ?_)))))))))
  by_cases h3 : (pointFault r.low dims) = (0 : Int)
  · have eh3 := pointFault_len h3
    refine cf rfl (bne_eq_false_iff_eq.2 h3) (sk (nx (sq (sq (rg (vl (fa rfl rfl rfl) rfl (vl (ldb (u := .slice Ar1 r.high.length cr1) 1 rfl rfl rfl rfl rfl rfl rfl) rfl (m_ rfl rfl ?_))))))))
    refine gd 2 kRectS_p1_1 rfl (cs' := [.slice Ar1 r.high.length cr1]) rfl fun s4 w_ rs4 us4 => ?_
    have Ls4 := Kd.sl_len rs4; have Cs4 := Kd.sl_cap rs4
    refine cs_ (v := .int .i64 (pointFault r.high dims)) (by kernel_rfl) rfl rfl rfl (fun w_ hs_ => spec_PointFault w_ _ (hs_.at 0 rfl)) (a_ rfl rfl (en (nx (sq (rg (m_ rfl rfl (vl (cm rfl rfl rfl rfl) rfl (en (nx ?_)))))))))
    by_cases h5 : (pointFault r.high dims) = (0 : Int)
    · have eh5 := pointFault_len h5
      refine cf rfl (bne_eq_false_iff_eq.2 h5) (sk (nx (sq (sq (rg (a_ rfl rfl (en (nx (bk ?_)))))))))
      refine lp (σ := Nat) (fun k : Nat => [(2, .pointer (some ⟨b1, 0, none⟩)), (7, .int .i64 ((k : Nat) : Int))])
          (fun k : Nat => [dat (Kd.sl Kd.i64) [.slice Ar1 r.high.length cr1] r.high ([]) s4, dat (Kd.sl Kd.i64) [.slice Ar0 r.low.length cr0] r.low ([]) s2, blk b1 [.slice Ar0 r.low.length cr0, .slice Ar1 r.high.length cr1] 58, dat kRectS [.slice Ar0 r.low.length cr0, .slice Ar1 r.high.length cr1] r ([]) sr_])
          (fun k : Nat => k ≤ r.low.length ∧ ∀ j a b, j < k → r.low[j]? = some a → r.high[j]? = some b → a ≤ b) (fun k : Nat => r.low.length - k) 0 [0, 0, 0, 0] ⟨Nat.zero_le _, by simp⟩ ⟨rfl, rfl, trivial⟩ rfl ?_
      intro k hp_
      obtain ⟨hk, hinv⟩ := hp_
      refine sq (sq (rg (m_ rfl rfl (vl (fa rfl rfl rfl) rfl (vl (ldb (u := .slice Ar0 r.low.length cr0) 2 rfl rfl rfl rfl rfl rfl rfl) rfl (vl (ln rfl rfl rfl) rfl (vl (cm rfl rfl rfl rfl) rfl (en (nx ?_)))))))))
      by_cases h6 : ((k : Nat) : Int) < ((r.low.length : Nat) : Int)
      · refine ct rfl (decide_eq_true h6) (sk (nx (sq (bk (sq ?_)))))
        refine gx 1 k rfl (by omega) fun y12 p7 cs_ s8 w11 m13 e9 r10 us8 => ?_
        obtain ⟨rfl, -, -⟩ := r10
        refine gx 1 k rfl (by omega) fun y19 p14 cs_ s15 w18 m20 e16 r17 us15 => ?_
        obtain ⟨rfl, -, -⟩ := r17
        refine r0 (qv 0 rfl (fa rfl rfl rfl) rfl (by kernel_rfl) (qv 1 rfl (ldb (u := .slice Ar0 r.low.length cr0) 4 rfl rfl rfl rfl rfl rfl rfl) rfl (by kernel_rfl) (qv 2 rfl (mv rfl rfl) rfl (by kernel_rfl) (qv 3 rfl (ix k e9 rfl rfl rfl rfl rfl (by omega)) rfl (by kernel_rfl) (qv 4 rfl (ldq (u := .int .i64 y12) 1 rfl rfl rfl rfl rfl rfl rfl) rfl (by kernel_rfl) (qv 5 rfl (fa rfl rfl rfl) rfl (by kernel_rfl) (qv 6 rfl (ldb (u := .slice Ar1 r.high.length cr1) 4 rfl rfl rfl rfl rfl rfl rfl) rfl (by kernel_rfl) (qv 7 rfl (mv rfl rfl) rfl (by kernel_rfl) (qv 8 rfl (ix k e16 rfl rfl rfl rfl rfl (by omega)) rfl (by kernel_rfl) (qv 9 rfl (ldq (u := .int .i64 y19) 0 rfl rfl rfl rfl rfl rfl rfl) rfl (by kernel_rfl) (qv 10 rfl (cm rfl rfl rfl rfl) rfl (by kernel_rfl) (qe [0, 0, 0, 0, 0, 0] (by kernel_rfl) rfl (nx ?_)))))))))))))
        by_cases h21 : y19 < y12
        · refine ct rfl (decide_eq_true h21) (sq (rg (a_ rfl rfl (en (nx (rt (xrb (xr (xr (xrb (xr (ret1 rfl rfl (fun w_ hs_ => ⟨?_, hs_.below⟩)))))))))))))
          simp [rectFault, h3, h5, rectBad_t m13 m20 h21]
        · exact cf rfl (decide_eq_false h21) (sk (xn (nx (rg (m_ rfl rfl (vl (ra (c := ((k + 1 : Nat) : Int)) rfl rfl rfl (by omega) (by omega) (by omega)) rfl (a_ rfl rfl (en (lpe (s := k) (k + 1) [2, 2, 2, 2] ⟨by omega, rectStep hinv m13 m20 h21⟩ (by omega) ⟨rfl, rfl, trivial⟩ rfl)))))))))
      · refine cf rfl (decide_eq_false h6) (xt (xq (xq (xb (nx (sq (rg (a_ rfl rfl (en (nx (rt (ret1 rfl rfl (fun w_ hs_ => ⟨?_, hs_.below⟩)))))))))))))
        simp [rectFault, h3, h5, rectBad_f hinv (by omega)]
    · refine ct rfl (bne_iff_ne.2 h5) (sq (rg (m_ rfl rfl (a_ rfl rfl (en (nx (rt (xr (ret1 rfl rfl (fun w_ hs_ => ⟨?_, hs_.below⟩))))))))))
      simp [rectFault, h3, h5]
  · refine ct rfl (bne_iff_ne.2 h3) (sq (rg (m_ rfl rfl (a_ rfl rfl (en (nx (rt (xr (ret1 rfl rfl (fun w_ hs_ => ⟨?_, hs_.below⟩))))))))))
    simp [rectFault, h3]
/-! impl.isId -/
set_option maxRecDepth 20000 in
set_option maxHeartbeats 2000000 in
theorem impl_isId (w : World) (id : Int)  : Calls Tryz.prog 134 #[.int .i64 id] w (fun e_ w2_ => e_ = .returned (.bool (within id 0 999)) ∧ Below w.heap.size w w2_) := by
  refine fnc (X := X 5 w) (args := [.int .i64 id]) (l := [(0, .int .i64 id)]) (G := []) Tryz.func134 rfl rfl rfl ⟨rfl, trivial⟩ (s0n w).1 ?_
  refine sq (rg (a_ rfl rfl (en (nx (sq (rg (m_ rfl rfl (cs_ (v := .bool (within id 0 999)) (by kernel_rfl) rfl rfl rfl (fun w_ hs_ => impl_within w_ _ _ _) (a_ rfl rfl (en (nx (rt (ret1 rfl rfl (fun w_ hs_ => ⟨?_, hs_.below⟩))))))))))))))
  rfl
/-! impl.isClient -/
set_option maxRecDepth 20000 in
set_option maxHeartbeats 2000000 in
theorem impl_isClient (w : World) (n : Int)  : Calls Tryz.prog 107 #[.int .i64 n] w (fun e_ w2_ => e_ = .returned (.bool (within n 0 3)) ∧ Below w.heap.size w w2_) := by
  refine fnc (X := X 5 w) (args := [.int .i64 n]) (l := [(0, .int .i64 n)]) (G := []) Tryz.func107 rfl rfl rfl ⟨rfl, trivial⟩ (s0n w).1 ?_
  refine sq (rg (a_ rfl rfl (en (nx (sq (rg (m_ rfl rfl (cs_ (v := .bool (within n 0 3)) (by kernel_rfl) rfl rfl rfl (fun w_ hs_ => impl_within w_ _ _ _) (a_ rfl rfl (en (nx (rt (ret1 rfl rfl (fun w_ hs_ => ⟨?_, hs_.below⟩))))))))))))))
  rfl
def pairFault (p : Pair) (dims : Int) : Int := if within p.id 0 999 = true then rectFault p.rect dims else 3
/-! impl.pairFault -/
set_option maxRecDepth 20000 in
set_option maxHeartbeats 2000000 in
theorem impl_pairFault (w : World) (dims : Int) {Ap1 : Option Addr} {cp1 : Nat} {Ap2 : Option Addr} {cp2 : Nat} {p : Pair} {sp_ : List Nat} (hp : kPairS.Rel w [.int .i64 p.id, .slice Ap1 p.rect.low.length cp1, .slice Ap2 p.rect.high.length cp2] p [] sp_)  : Calls Tryz.prog 109 #[.agg #[.int .i64 p.id, .slice Ap1 p.rect.low.length cp1, .slice Ap2 p.rect.high.length cp2], .int .i64 dims] w (fun e_ w2_ => e_ = .returned (.int .i64 (pairFault p dims)) ∧ Below w.heap.size w w2_) := by
  refine fnc (X := X 13 w) (args := [.agg #[.int .i64 p.id, .slice Ap1 p.rect.low.length cp1, .slice Ap2 p.rect.high.length cp2], .int .i64 dims]) (l := [(0, .agg #[.int .i64 p.id, .slice Ap1 p.rect.low.length cp1, .slice Ap2 p.rect.high.length cp2]), (1, .int .i64 dims)]) (G := [dat kPairS [.int .i64 p.id, .slice Ap1 p.rect.low.length cp1, .slice Ap2 p.rect.high.length cp2] p ([]) sp_]) Tryz.func109 rfl rfl rfl ⟨rfl, rfl, trivial⟩ (s0d hp (s0n w)).1 ?_
  refine sq (rg (bx rfl rfl rfl rfl ?_))
  intro b1
  refine a_ rfl rfl (en (nx (sq (sq (rg (vl (fa rfl rfl rfl) rfl (vl (ldb (u := .int .i64 p.id) 0 rfl rfl rfl rfl rfl rfl rfl) rfl (cs_ (v := .bool (within p.id 0 999)) (by kernel_rfl) rfl rfl rfl (fun w_ hs_ => impl_isId w_ _) (vl (nt rfl rfl) rfl (en (nx ?_)))))))))))
  by_cases h2 : within p.id 0 999 = true
  · refine cf rfl (not_f h2) (sk (nx (sq (rg (vl (fa rfl rfl rfl) rfl (vl (ldb 0 rfl rfl rfl rfl rfl rfl rfl) rfl (m_ rfl rfl ?_)))))))
    refine gd 1 kPairS_p1_2 rfl (cs' := [.slice Ap1 p.rect.low.length cp1, .slice Ap2 p.rect.high.length cp2]) rfl fun s3 w_ rs3 us3 => ?_
    refine cs_ (v := .int .i64 (rectFault p.rect dims)) (by kernel_rfl) rfl rfl rfl (fun w_ hs_ => impl_RectFault w_ _ (hs_.at 0 rfl)) (a_ rfl rfl (en (nx (rt (ret1 rfl rfl (fun w_ hs_ => ⟨?_, hs_.below⟩))))))
    simp [pairFault, h2]
  · refine ct rfl (not_t (Bool.eq_false_iff.2 h2)) (sq (rg (a_ rfl rfl (en (nx (rt (xr (ret1 rfl rfl (fun w_ hs_ => ⟨?_, hs_.below⟩)))))))))
    simp [pairFault, h2]
/-! spec.l2Pair -/
set_option maxRecDepth 20000 in
set_option maxHeartbeats 2000000 in
theorem spec_l2Pair (w : World) (dims : Int) {Ap1 : Option Addr} {cp1 : Nat} {Ap2 : Option Addr} {cp2 : Nat} {p : Pair} {sp_ : List Nat} {pp : Addr} (hp : (ptr kPairS pp [.int .i64 p.id, .slice Ap1 p.rect.low.length cp1, .slice Ap2 p.rect.high.length cp2] p sp_).P w)  : Calls Tryz.prog 123 #[.pointer (some pp), .int .i64 dims] w (fun e_ w2_ => e_ = .returned (.int .i64 (pairFault p dims)) ∧ Below w.heap.size w w2_) := by
  refine fnc (X := X 17 w) (args := [.pointer (some pp), .int .i64 dims]) (l := [(0, .pointer (some pp)), (1, .int .i64 dims)]) (G := [ptr kPairS pp [.int .i64 p.id, .slice Ap1 p.rect.low.length cp1, .slice Ap2 p.rect.high.length cp2] p sp_]) Tryz.func123 rfl rfl rfl ⟨rfl, rfl, trivial⟩ (s0p hp (s0n w)).1 ?_
  refine sq (rg (a_ rfl rfl (en (nx (sq (sq (rg (m_ rfl rfl (vl (nc rfl rfl) rfl (vl (fa rfl rfl rfl) rfl (vl (ldp (u := .int .i64 p.id) 0 rfl rfl rfl rfl rfl rfl rfl) rfl (cs_ (v := .bool (within p.id 0 999)) (by kernel_rfl) rfl rfl rfl (fun w_ hs_ => spec_l1In w_ _ _ _) (vl (nt rfl rfl) rfl (en (nx ?_)))))))))))))))
  by_cases h1 : within p.id 0 999 = true
  · refine cf rfl (not_f h1) (sk (nx (sq (rg (m_ rfl rfl (vl (nc rfl rfl) rfl (vl (fa rfl rfl rfl) rfl (vl (ldp 0 rfl rfl rfl rfl rfl rfl rfl) rfl (m_ rfl rfl ?_)))))))))
    refine gp 0 kPairS_p1_2 rfl (cs' := [.slice Ap1 p.rect.low.length cp1, .slice Ap2 p.rect.high.length cp2]) rfl fun s2 w_ rs2 us2 => ?_
    refine cs_ (v := .int .i64 (rectFault p.rect dims)) (by kernel_rfl) rfl rfl rfl (fun w_ hs_ => spec_RectFault w_ _ (hs_.at 0 rfl)) (a_ rfl rfl (en (nx (rt (ret1 rfl rfl (fun w_ hs_ => ⟨?_, hs_.below⟩))))))
    simp [pairFault, h1]
  · refine ct rfl (not_t (Bool.eq_false_iff.2 h1)) (sq (rg (a_ rfl rfl (en (nx (rt (xr (ret1 rfl rfl (fun w_ hs_ => ⟨?_, hs_.below⟩)))))))))
    simp [pairFault, h1]
def rectEmpty (r : Rect) : Bool := decide ((r.low.length : Int) = 0) && decide ((r.high.length : Int) = 0)
theorem rectEmpty_f {r : Rect} (h : (0 : Int) < ((r.low.length : Nat) : Int) + ((r.high.length : Nat) : Int)) : rectEmpty r = false := by
  simp only [rectEmpty, Bool.and_eq_false_iff, decide_eq_false_iff_not]; omega
theorem rectEmpty_t {r : Rect} (h : ¬ (0 : Int) < ((r.low.length : Nat) : Int) + ((r.high.length : Nat) : Int)) : rectEmpty r = true := by
  simp only [rectEmpty, Bool.and_eq_true, decide_eq_true_eq]; omega
theorem rectEmpty_1 {r : Rect} (h : ¬ ((r.low.length : Nat) : Int) = (0 : Int)) : rectEmpty r = false := by
  simp only [rectEmpty, Bool.and_eq_false_iff, decide_eq_false_iff_not]; exact .inl h
theorem rectEmpty_2 {r : Rect} (h : ¬ ((r.high.length : Nat) : Int) = (0 : Int)) : rectEmpty r = false := by
  simp only [rectEmpty, Bool.and_eq_false_iff, decide_eq_false_iff_not]; exact .inr h
theorem rectEmpty_3 {r : Rect} (h1 : ((r.low.length : Nat) : Int) = (0 : Int)) (h2 : ((r.high.length : Nat) : Int) = (0 : Int)) : rectEmpty r = true := by
  simp only [rectEmpty, Bool.and_eq_true, decide_eq_true_eq]; exact ⟨h1, h2⟩
theorem rectEmpty_4 {r : Rect} : (((r.low.length : Nat) : Int) + ((r.high.length : Nat) : Int) == 0) = rectEmpty r := by
  rw [Bool.eq_iff_iff]; simp only [rectEmpty, Bool.and_eq_true, decide_eq_true_eq, beq_iff_eq]; omega
def hasRect (k : Int) : Bool := k == 1 || k == 2
def queryFault (q : Query) (dims : Int) : Int :=
  if isDims dims = true then
    if within q.kind 1 4 = true then
      if hasRect q.kind = true ∧ (0 : Int) < (q.point.length : Int) then 1 else
      if hasRect q.kind = false ∧ rectEmpty q.rect = false then 1 else
      if ¬ q.kind = 4 ∧ ¬ q.k = 0 then 1 else
      if hasRect q.kind = true then rectFault q.rect dims else
      if pointFault q.point dims = 0 then if q.kind = 4 ∧ within q.k 1 20 = false then 3 else 0 else pointFault q.point dims
    else 1
  else 3
/-! impl.hasRect -/
set_option maxRecDepth 20000 in
set_option maxHeartbeats 2000000 in
theorem impl_hasRect (w : World) (kind : Int)  : Calls Tryz.prog 153 #[.int .i64 kind] w (fun e_ w2_ => e_ = .returned (.bool (hasRect kind)) ∧ Below w.heap.size w w2_) := by
  refine fnc (X := X 9 w) (args := [.int .i64 kind]) (l := [(0, .int .i64 kind)]) (G := []) Tryz.func153 rfl rfl rfl ⟨rfl, trivial⟩ (s0n w).1 ?_
  refine sq (rg (a_ rfl rfl (en (nx (sq (rg (m_ rfl rfl (vl (cm rfl rfl rfl rfl) rfl (m_ rfl rfl ?_)))))))))
  by_cases h1 : kind = (1 : Int)
  · refine sg rfl rfl (beq_iff_eq.2 h1) (sg rfl rfl (beq_iff_eq.2 h1) (vl (pk (b := true) rfl rfl (beq_iff_eq.2 h1) rfl) rfl (a_ rfl rfl (en (nx (rt (ret1 rfl rfl (fun w_ hs_ => ⟨?_, hs_.below⟩))))))))
    simp [hasRect, h1]
  · refine vg (mv rfl rfl) rfl rfl (beq_eq_false_iff_ne.2 h1) (vg (cm rfl rfl rfl rfl) rfl rfl (beq_eq_false_iff_ne.2 h1) (vl (pk (b := false) rfl rfl (beq_eq_false_iff_ne.2 h1) rfl) rfl (a_ rfl rfl (en (nx (rt (ret1 rfl rfl (fun w_ hs_ => ⟨?_, hs_.below⟩))))))))
    simp [hasRect, h1]
/-! impl.QueryFault -/
set_option maxRecDepth 20000 in
set_option maxHeartbeats 2000000 in
theorem impl_QueryFault (w : World) (dims : Int) {Aq1 : Option Addr} {cq1 : Nat} {Aq2 : Option Addr} {cq2 : Nat} {Aq3 : Option Addr} {cq3 : Nat} {q : Query} {sq_ : List Nat} (hq : kQueryS.Rel w [.int .i64 q.kind, .slice Aq1 q.rect.low.length cq1, .slice Aq2 q.rect.high.length cq2, .slice Aq3 q.point.length cq3, .int .i64 q.k] q [] sq_)  : Calls Tryz.prog 133 #[.agg #[.int .i64 q.kind, .slice Aq1 q.rect.low.length cq1, .slice Aq2 q.rect.high.length cq2, .slice Aq3 q.point.length cq3, .int .i64 q.k], .int .i64 dims] w (fun e_ w2_ => e_ = .returned (.int .i64 (queryFault q dims)) ∧ Below w.heap.size w w2_) := by
  refine fnc (X := X 77 w) (args := [.agg #[.int .i64 q.kind, .slice Aq1 q.rect.low.length cq1, .slice Aq2 q.rect.high.length cq2, .slice Aq3 q.point.length cq3, .int .i64 q.k], .int .i64 dims]) (l := [(0, .agg #[.int .i64 q.kind, .slice Aq1 q.rect.low.length cq1, .slice Aq2 q.rect.high.length cq2, .slice Aq3 q.point.length cq3, .int .i64 q.k]), (1, .int .i64 dims)]) (G := [dat kQueryS [.int .i64 q.kind, .slice Aq1 q.rect.low.length cq1, .slice Aq2 q.rect.high.length cq2, .slice Aq3 q.point.length cq3, .int .i64 q.k] q ([]) sq_]) Tryz.func133 rfl rfl rfl ⟨rfl, rfl, trivial⟩ (s0d hq (s0n w)).1 ?_
  refine sq (rg (bx rfl rfl rfl rfl ?_))
  intro b1
  refine a_ rfl rfl (en (nx (sq (rg (vl (fa rfl rfl rfl) rfl (vl (fa rfl rfl rfl) rfl (vl (ldb (u := .slice Aq1 q.rect.low.length cq1) 0 rfl rfl rfl rfl rfl rfl rfl) rfl (vl (ln rfl rfl rfl) rfl (vl (cm rfl rfl rfl rfl) rfl (m_ rfl rfl ?_))))))))))
  by_cases h2 : ((q.rect.low.length : Nat) : Int) = (0 : Int)
  · refine vg (fa rfl rfl rfl) rfl rfl (beq_iff_eq.2 h2) (vg (fa rfl rfl rfl) rfl rfl (beq_iff_eq.2 h2) (vg (ldb (u := .slice Aq2 q.rect.high.length cq2) 0 rfl rfl rfl rfl rfl rfl rfl) rfl rfl (beq_iff_eq.2 h2) (vg (ln rfl rfl rfl) rfl rfl (beq_iff_eq.2 h2) (vg (cm rfl rfl rfl rfl) rfl rfl (beq_iff_eq.2 h2) (vl (pk (b := true) rfl rfl (beq_iff_eq.2 h2) rfl) rfl (a_ rfl rfl (en (nx (sq (bk (sq (rg (m_ rfl rfl (cs_ (v := .bool (isDims dims)) (by kernel_rfl) rfl rfl rfl (fun w_ hs_ => impl_isDims w_ _) (vl (nt rfl rfl) rfl (a_ rfl rfl (en (nx ?_))))))))))))))))))
    by_cases h3 : isDims dims = true
    · refine cf rfl (not_f h3) (sq (sq (rg (vl (fa rfl rfl rfl) rfl (vl (ldb (u := .int .i64 q.kind) 0 rfl rfl rfl rfl rfl rfl rfl) rfl (cs_ (v := .bool (within q.kind 1 4)) (by kernel_rfl) rfl rfl rfl (fun w_ hs_ => impl_within w_ _ _ _) (vl (nt rfl rfl) rfl (a_ rfl rfl (en (nx ?_))))))))))
      by_cases h4 : within q.kind 1 4 = true
      · refine cf rfl (not_f h4) (sq (rg (vl (fa rfl rfl rfl) rfl (vl (ldb (u := .int .i64 q.kind) 0 rfl rfl rfl rfl rfl rfl rfl) rfl (cs_ (v := .bool (hasRect q.kind)) (by kernel_rfl) rfl rfl rfl (fun w_ hs_ => impl_hasRect w_ _) (m_ rfl rfl ?_))))))
        by_cases h5 : hasRect q.kind = true
        · refine vg (fa rfl rfl rfl) rfl rfl h5 (vg (ldb (u := .slice Aq3 q.point.length cq3) 0 rfl rfl rfl rfl rfl rfl rfl) rfl rfl h5 (vg (ln rfl rfl rfl) rfl rfl h5 (vg (cm rfl rfl rfl rfl) rfl rfl h5 (vl (pk (b := true) rfl rfl h5 rfl) rfl (a_ rfl rfl (en (nx ?_)))))))
          by_cases h6 : (0 : Int) < ((q.point.length : Nat) : Int)
          · refine ct rfl (decide_eq_true h6) (sk (nx (ct rfl (decide_eq_true h6) (sq (rg (a_ rfl rfl (en (nx (rt (xrb (xr (ret1 rfl rfl (fun w_ hs_ => ⟨?_, hs_.below⟩)))))))))))))
            exact ri (by grind [queryFault])
          · refine cf rfl (decide_eq_false h6) (sq (rg (vl (fa rfl rfl rfl) rfl (vl (ldb (u := .int .i64 q.kind) 0 rfl rfl rfl rfl rfl rfl rfl) rfl (cs_ (v := .bool (hasRect q.kind)) (by kernel_rfl) rfl rfl rfl (fun w_ hs_ => impl_hasRect w_ _) (vl (nt rfl rfl) rfl (m_ rfl rfl (sg rfl rfl (not_f h5) (sg rfl rfl (not_f h5) (vl (pk (b := false) rfl rfl (not_f h5) rfl) rfl (a_ rfl rfl (en (nx (cf rfl rfl (rg (vl (fa rfl rfl rfl) rfl (vl (ldb (u := .int .i64 q.kind) 0 rfl rfl rfl rfl rfl rfl rfl) rfl (vl (cm rfl rfl rfl rfl) rfl (m_ rfl rfl ?_)))))))))))))))))))
            by_cases h7 : q.kind = (4 : Int)
            · refine sg rfl rfl (bne_eq_false_iff_eq.2 h7) (sg rfl rfl (bne_eq_false_iff_eq.2 h7) (sg rfl rfl (bne_eq_false_iff_eq.2 h7) (vl (pk (b := false) rfl rfl (bne_eq_false_iff_eq.2 h7) rfl) rfl (a_ rfl rfl (en (nx (cf rfl rfl (sq (rg (vl (fa rfl rfl rfl) rfl (vl (ldb (u := .int .i64 q.kind) 0 rfl rfl rfl rfl rfl rfl rfl) rfl (cs_ (v := .bool (hasRect q.kind)) (by kernel_rfl) rfl rfl rfl (fun w_ hs_ => impl_hasRect w_ _) (a_ rfl rfl (en (nx (ct rfl h5 (sq (rg (vl (fa rfl rfl rfl) rfl (vl (ldb 0 rfl rfl rfl rfl rfl rfl rfl) rfl (m_ rfl rfl ?_)))))))))))))))))))))
              refine gd 1 kQueryS_p1_2 rfl (cs' := [.slice Aq1 q.rect.low.length cq1, .slice Aq2 q.rect.high.length cq2]) rfl fun s8 w_ rs8 us8 => ?_
              refine cs_ (v := .int .i64 (rectFault q.rect dims)) (by kernel_rfl) rfl rfl rfl (fun w_ hs_ => impl_RectFault w_ _ (hs_.at 0 rfl)) (a_ rfl rfl (en (nx (rt (xrb (xr (ret1 rfl rfl (fun w_ hs_ => ⟨?_, hs_.below⟩))))))))
              exact ri (by grind [queryFault])
            · refine vg (fa rfl rfl rfl) rfl rfl (bne_iff_ne.2 h7) (vg (ldb (u := .int .i64 q.k) 0 rfl rfl rfl rfl rfl rfl rfl) rfl rfl (bne_iff_ne.2 h7) (vg (cm rfl rfl rfl rfl) rfl rfl (bne_iff_ne.2 h7) (vl (pk (b := true) rfl rfl (bne_iff_ne.2 h7) rfl) rfl (a_ rfl rfl (en (nx ?_))))))
              by_cases h9 : q.k = (0 : Int)
              · refine cf rfl (bne_eq_false_iff_eq.2 h9) (sq (rg (vl (fa rfl rfl rfl) rfl (vl (ldb (u := .int .i64 q.kind) 0 rfl rfl rfl rfl rfl rfl rfl) rfl (cs_ (v := .bool (hasRect q.kind)) (by kernel_rfl) rfl rfl rfl (fun w_ hs_ => impl_hasRect w_ _) (a_ rfl rfl (en (nx (ct rfl h5 (sq (rg (vl (fa rfl rfl rfl) rfl (vl (ldb 0 rfl rfl rfl rfl rfl rfl rfl) rfl (m_ rfl rfl ?_))))))))))))))
                refine gd 1 kQueryS_p1_2 rfl (cs' := [.slice Aq1 q.rect.low.length cq1, .slice Aq2 q.rect.high.length cq2]) rfl fun s10 w_ rs10 us10 => ?_
                refine cs_ (v := .int .i64 (rectFault q.rect dims)) (by kernel_rfl) rfl rfl rfl (fun w_ hs_ => impl_RectFault w_ _ (hs_.at 0 rfl)) (a_ rfl rfl (en (nx (rt (xrb (xr (ret1 rfl rfl (fun w_ hs_ => ⟨?_, hs_.below⟩))))))))
                exact ri (by grind [queryFault])
              · refine ct rfl (bne_iff_ne.2 h9) (sq (rg (a_ rfl rfl (en (nx (rt (xrb (xr (ret1 rfl rfl (fun w_ hs_ => ⟨?_, hs_.below⟩))))))))))
                exact ri (by grind [queryFault])
        · refine sg rfl rfl (Bool.eq_false_iff.2 h5) (sg rfl rfl (Bool.eq_false_iff.2 h5) (sg rfl rfl (Bool.eq_false_iff.2 h5) (sg rfl rfl (Bool.eq_false_iff.2 h5) (vl (pk (b := false) rfl rfl (Bool.eq_false_iff.2 h5) rfl) rfl (a_ rfl rfl (en (nx (cf rfl rfl (sq (rg (vl (fa rfl rfl rfl) rfl (vl (ldb (u := .int .i64 q.kind) 0 rfl rfl rfl rfl rfl rfl rfl) rfl (cs_ (v := .bool (hasRect q.kind)) (by kernel_rfl) rfl rfl rfl (fun w_ hs_ => impl_hasRect w_ _) (vl (nt rfl rfl) rfl (m_ rfl rfl (vg (mv rfl rfl) rfl rfl (not_t (Bool.eq_false_iff.2 h5)) (vg (nt rfl rfl) rfl rfl (not_t (Bool.eq_false_iff.2 h5)) (vl (pk (b := true) rfl rfl (not_t (Bool.eq_false_iff.2 h5)) rfl) rfl (a_ rfl rfl (en (nx ?_)))))))))))))))))))))
          by_cases h11 : ((q.rect.high.length : Nat) : Int) = (0 : Int)
          · have gh11 := rectEmpty_3 (r := q.rect) h2 h11
            refine cf rfl (not_f (beq_iff_eq.2 h11)) (rg (vl (fa rfl rfl rfl) rfl (vl (ldb (u := .int .i64 q.kind) 0 rfl rfl rfl rfl rfl rfl rfl) rfl (vl (cm rfl rfl rfl rfl) rfl (m_ rfl rfl ?_)))))
            by_cases h12 : q.kind = (4 : Int)
            · refine sg rfl rfl (bne_eq_false_iff_eq.2 h12) (sg rfl rfl (bne_eq_false_iff_eq.2 h12) (sg rfl rfl (bne_eq_false_iff_eq.2 h12) (vl (pk (b := false) rfl rfl (bne_eq_false_iff_eq.2 h12) rfl) rfl (a_ rfl rfl (en (nx (cf rfl rfl (sq (rg (vl (fa rfl rfl rfl) rfl (vl (ldb (u := .int .i64 q.kind) 0 rfl rfl rfl rfl rfl rfl rfl) rfl (cs_ (v := .bool (hasRect q.kind)) (by kernel_rfl) rfl rfl rfl (fun w_ hs_ => impl_hasRect w_ _) (a_ rfl rfl (en (nx (cf rfl (Bool.eq_false_iff.2 h5) (sk (xn (nx (sq (sq (rg (vl (fa rfl rfl rfl) rfl (vl (ldb (u := .slice Aq3 q.point.length cq3) 0 rfl rfl rfl rfl rfl rfl rfl) rfl (m_ rfl rfl ?_)))))))))))))))))))))))))
              refine gd 1 kQueryS_p3_1 rfl (cs' := [.slice Aq3 q.point.length cq3]) rfl fun s13 w_ rs13 us13 => ?_
              have Ls13 := Kd.sl_len rs13; have Cs13 := Kd.sl_cap rs13
              refine cs_ (v := .int .i64 (pointFault q.point dims)) (by kernel_rfl) rfl rfl rfl (fun w_ hs_ => impl_PointFault w_ _ (hs_.at 0 rfl)) (a_ rfl rfl (en (nx (sq (rg (m_ rfl rfl (vl (cm rfl rfl rfl rfl) rfl (en (nx ?_)))))))))
              by_cases h14 : (pointFault q.point dims) = (0 : Int)
              · refine cf rfl (bne_eq_false_iff_eq.2 h14) (sk (nx (sq (sq (rg (vl (fa rfl rfl rfl) rfl (vl (ldb (u := .int .i64 q.kind) 1 rfl rfl rfl rfl rfl rfl rfl) rfl (vl (cm rfl rfl rfl rfl) rfl (m_ rfl rfl (vg (fa rfl rfl rfl) rfl rfl (beq_iff_eq.2 h12) (vg (ldb (u := .int .i64 q.k) 1 rfl rfl rfl rfl rfl rfl rfl) rfl rfl (beq_iff_eq.2 h12) (gw rfl rfl (beq_iff_eq.2 h12) (cs_ (v := .bool (within q.k 1 20)) (by kernel_rfl) rfl rfl rfl (fun w_ hs_ => impl_within w_ _ _ _) (vg (nt rfl rfl) rfl rfl (beq_iff_eq.2 h12) (vl (pk (b := true) rfl rfl (beq_iff_eq.2 h12) rfl) rfl (en (nx ?_)))))))))))))))))
                by_cases h15 : within q.k 1 20 = true
                · refine cf rfl (not_f h15) (sk (nx (sq (rg (a_ rfl rfl (en (nx (rt (ret1 rfl rfl (fun w_ hs_ => ⟨?_, hs_.below⟩))))))))))
                  exact ri (by grind [queryFault])
                · refine ct rfl (not_t (Bool.eq_false_iff.2 h15)) (sq (rg (a_ rfl rfl (en (nx (rt (xr (ret1 rfl rfl (fun w_ hs_ => ⟨?_, hs_.below⟩)))))))))
                  exact ri (by grind [queryFault])
              · refine ct rfl (bne_iff_ne.2 h14) (sq (rg (m_ rfl rfl (a_ rfl rfl (en (nx (rt (xr (ret1 rfl rfl (fun w_ hs_ => ⟨?_, hs_.below⟩))))))))))
                exact ri (by grind [queryFault])
            · refine vg (fa rfl rfl rfl) rfl rfl (bne_iff_ne.2 h12) (vg (ldb (u := .int .i64 q.k) 0 rfl rfl rfl rfl rfl rfl rfl) rfl rfl (bne_iff_ne.2 h12) (vg (cm rfl rfl rfl rfl) rfl rfl (bne_iff_ne.2 h12) (vl (pk (b := true) rfl rfl (bne_iff_ne.2 h12) rfl) rfl (a_ rfl rfl (en (nx ?_))))))
              by_cases h16 : q.k = (0 : Int)
              · refine cf rfl (bne_eq_false_iff_eq.2 h16) (sq (rg (vl (fa rfl rfl rfl) rfl (vl (ldb (u := .int .i64 q.kind) 0 rfl rfl rfl rfl rfl rfl rfl) rfl (cs_ (v := .bool (hasRect q.kind)) (by kernel_rfl) rfl rfl rfl (fun w_ hs_ => impl_hasRect w_ _) (a_ rfl rfl (en (nx (cf rfl (Bool.eq_false_iff.2 h5) (sk (xn (nx (sq (sq (rg (vl (fa rfl rfl rfl) rfl (vl (ldb (u := .slice Aq3 q.point.length cq3) 0 rfl rfl rfl rfl rfl rfl rfl) rfl (m_ rfl rfl ?_))))))))))))))))))
                refine gd 1 kQueryS_p3_1 rfl (cs' := [.slice Aq3 q.point.length cq3]) rfl fun s17 w_ rs17 us17 => ?_
                have Ls17 := Kd.sl_len rs17; have Cs17 := Kd.sl_cap rs17
                refine cs_ (v := .int .i64 (pointFault q.point dims)) (by kernel_rfl) rfl rfl rfl (fun w_ hs_ => impl_PointFault w_ _ (hs_.at 0 rfl)) (a_ rfl rfl (en (nx (sq (rg (m_ rfl rfl (vl (cm rfl rfl rfl rfl) rfl (en (nx ?_)))))))))
                by_cases h18 : (pointFault q.point dims) = (0 : Int)
                · refine cf rfl (bne_eq_false_iff_eq.2 h18) (sk (nx (sq (sq (rg (vl (fa rfl rfl rfl) rfl (vl (ldb (u := .int .i64 q.kind) 1 rfl rfl rfl rfl rfl rfl rfl) rfl (vl (cm rfl rfl rfl rfl) rfl (m_ rfl rfl (sg rfl rfl (beq_eq_false_iff_ne.2 h12) (sg rfl rfl (beq_eq_false_iff_ne.2 h12) (sg rfl rfl (beq_eq_false_iff_ne.2 h12) (sg rfl rfl (beq_eq_false_iff_ne.2 h12) (vl (pk (b := false) rfl rfl (beq_eq_false_iff_ne.2 h12) rfl) rfl (en (nx (cf rfl rfl (sk (nx (sq (rg (a_ rfl rfl (en (nx (rt (ret1 rfl rfl (fun w_ hs_ => ⟨?_, hs_.below⟩)))))))))))))))))))))))))))
                  exact ri (by grind [queryFault])
                · refine ct rfl (bne_iff_ne.2 h18) (sq (rg (m_ rfl rfl (a_ rfl rfl (en (nx (rt (xr (ret1 rfl rfl (fun w_ hs_ => ⟨?_, hs_.below⟩))))))))))
                  exact ri (by grind [queryFault])
              · refine ct rfl (bne_iff_ne.2 h16) (sq (rg (a_ rfl rfl (en (nx (rt (xrb (xr (ret1 rfl rfl (fun w_ hs_ => ⟨?_, hs_.below⟩))))))))))
                exact ri (by grind [queryFault])
          · have gh11 := rectEmpty_2 (r := q.rect) h11
            refine ct rfl (not_t (beq_eq_false_iff_ne.2 h11)) (sk (nx (ct rfl (not_t (beq_eq_false_iff_ne.2 h11)) (sq (rg (a_ rfl rfl (en (nx (rt (xrb (xr (ret1 rfl rfl (fun w_ hs_ => ⟨?_, hs_.below⟩)))))))))))))
            exact ri (by grind [queryFault])
      · refine ct rfl (not_t (Bool.eq_false_iff.2 h4)) (sk (nx (ct rfl (not_t (Bool.eq_false_iff.2 h4)) (sq (rg (a_ rfl rfl (en (nx (rt (xrb (xr (ret1 rfl rfl (fun w_ hs_ => ⟨?_, hs_.below⟩)))))))))))))
        exact ri (by grind [queryFault])
    · refine ct rfl (not_t (Bool.eq_false_iff.2 h3)) (sq (rg (a_ rfl rfl (en (nx (rt (xrb (xr (ret1 rfl rfl (fun w_ hs_ => ⟨?_, hs_.below⟩))))))))))
      exact ri (by grind [queryFault])
  · have gh2 := rectEmpty_1 (r := q.rect) h2
    refine sg rfl rfl (beq_eq_false_iff_ne.2 h2) (sg rfl rfl (beq_eq_false_iff_ne.2 h2) (sg rfl rfl (beq_eq_false_iff_ne.2 h2) (sg rfl rfl (beq_eq_false_iff_ne.2 h2) (sg rfl rfl (beq_eq_false_iff_ne.2 h2) (vl (pk (b := false) rfl rfl (beq_eq_false_iff_ne.2 h2) rfl) rfl (a_ rfl rfl (en (nx (sq (bk (sq (rg (m_ rfl rfl (cs_ (v := .bool (isDims dims)) (by kernel_rfl) rfl rfl rfl (fun w_ hs_ => impl_isDims w_ _) (vl (nt rfl rfl) rfl (a_ rfl rfl (en (nx ?_))))))))))))))))))
    by_cases h19 : isDims dims = true
    · refine cf rfl (not_f h19) (sq (sq (rg (vl (fa rfl rfl rfl) rfl (vl (ldb (u := .int .i64 q.kind) 0 rfl rfl rfl rfl rfl rfl rfl) rfl (cs_ (v := .bool (within q.kind 1 4)) (by kernel_rfl) rfl rfl rfl (fun w_ hs_ => impl_within w_ _ _ _) (vl (nt rfl rfl) rfl (a_ rfl rfl (en (nx ?_))))))))))
      by_cases h20 : within q.kind 1 4 = true
      · refine cf rfl (not_f h20) (sq (rg (vl (fa rfl rfl rfl) rfl (vl (ldb (u := .int .i64 q.kind) 0 rfl rfl rfl rfl rfl rfl rfl) rfl (cs_ (v := .bool (hasRect q.kind)) (by kernel_rfl) rfl rfl rfl (fun w_ hs_ => impl_hasRect w_ _) (m_ rfl rfl ?_))))))
        by_cases h21 : hasRect q.kind = true
        · refine vg (fa rfl rfl rfl) rfl rfl h21 (vg (ldb (u := .slice Aq3 q.point.length cq3) 0 rfl rfl rfl rfl rfl rfl rfl) rfl rfl h21 (vg (ln rfl rfl rfl) rfl rfl h21 (vg (cm rfl rfl rfl rfl) rfl rfl h21 (vl (pk (b := true) rfl rfl h21 rfl) rfl (a_ rfl rfl (en (nx ?_)))))))
          by_cases h22 : (0 : Int) < ((q.point.length : Nat) : Int)
          · refine ct rfl (decide_eq_true h22) (sk (nx (ct rfl (decide_eq_true h22) (sq (rg (a_ rfl rfl (en (nx (rt (xrb (xr (ret1 rfl rfl (fun w_ hs_ => ⟨?_, hs_.below⟩)))))))))))))
            exact ri (by grind [queryFault])
          · refine cf rfl (decide_eq_false h22) (sq (rg (vl (fa rfl rfl rfl) rfl (vl (ldb (u := .int .i64 q.kind) 0 rfl rfl rfl rfl rfl rfl rfl) rfl (cs_ (v := .bool (hasRect q.kind)) (by kernel_rfl) rfl rfl rfl (fun w_ hs_ => impl_hasRect w_ _) (vl (nt rfl rfl) rfl (m_ rfl rfl (sg rfl rfl (not_f h21) (sg rfl rfl (not_f h21) (vl (pk (b := false) rfl rfl (not_f h21) rfl) rfl (a_ rfl rfl (en (nx (cf rfl rfl (rg (vl (fa rfl rfl rfl) rfl (vl (ldb (u := .int .i64 q.kind) 0 rfl rfl rfl rfl rfl rfl rfl) rfl (vl (cm rfl rfl rfl rfl) rfl (m_ rfl rfl ?_)))))))))))))))))))
            by_cases h23 : q.kind = (4 : Int)
            · refine sg rfl rfl (bne_eq_false_iff_eq.2 h23) (sg rfl rfl (bne_eq_false_iff_eq.2 h23) (sg rfl rfl (bne_eq_false_iff_eq.2 h23) (vl (pk (b := false) rfl rfl (bne_eq_false_iff_eq.2 h23) rfl) rfl (a_ rfl rfl (en (nx (cf rfl rfl (sq (rg (vl (fa rfl rfl rfl) rfl (vl (ldb (u := .int .i64 q.kind) 0 rfl rfl rfl rfl rfl rfl rfl) rfl (cs_ (v := .bool (hasRect q.kind)) (by kernel_rfl) rfl rfl rfl (fun w_ hs_ => impl_hasRect w_ _) (a_ rfl rfl (en (nx (ct rfl h21 (sq (rg (vl (fa rfl rfl rfl) rfl (vl (ldb 0 rfl rfl rfl rfl rfl rfl rfl) rfl (m_ rfl rfl ?_)))))))))))))))))))))
              refine gd 1 kQueryS_p1_2 rfl (cs' := [.slice Aq1 q.rect.low.length cq1, .slice Aq2 q.rect.high.length cq2]) rfl fun s24 w_ rs24 us24 => ?_
              refine cs_ (v := .int .i64 (rectFault q.rect dims)) (by kernel_rfl) rfl rfl rfl (fun w_ hs_ => impl_RectFault w_ _ (hs_.at 0 rfl)) (a_ rfl rfl (en (nx (rt (xrb (xr (ret1 rfl rfl (fun w_ hs_ => ⟨?_, hs_.below⟩))))))))
              exact ri (by grind [queryFault])
            · refine vg (fa rfl rfl rfl) rfl rfl (bne_iff_ne.2 h23) (vg (ldb (u := .int .i64 q.k) 0 rfl rfl rfl rfl rfl rfl rfl) rfl rfl (bne_iff_ne.2 h23) (vg (cm rfl rfl rfl rfl) rfl rfl (bne_iff_ne.2 h23) (vl (pk (b := true) rfl rfl (bne_iff_ne.2 h23) rfl) rfl (a_ rfl rfl (en (nx ?_))))))
              by_cases h25 : q.k = (0 : Int)
              · refine cf rfl (bne_eq_false_iff_eq.2 h25) (sq (rg (vl (fa rfl rfl rfl) rfl (vl (ldb (u := .int .i64 q.kind) 0 rfl rfl rfl rfl rfl rfl rfl) rfl (cs_ (v := .bool (hasRect q.kind)) (by kernel_rfl) rfl rfl rfl (fun w_ hs_ => impl_hasRect w_ _) (a_ rfl rfl (en (nx (ct rfl h21 (sq (rg (vl (fa rfl rfl rfl) rfl (vl (ldb 0 rfl rfl rfl rfl rfl rfl rfl) rfl (m_ rfl rfl ?_))))))))))))))
                refine gd 1 kQueryS_p1_2 rfl (cs' := [.slice Aq1 q.rect.low.length cq1, .slice Aq2 q.rect.high.length cq2]) rfl fun s26 w_ rs26 us26 => ?_
                refine cs_ (v := .int .i64 (rectFault q.rect dims)) (by kernel_rfl) rfl rfl rfl (fun w_ hs_ => impl_RectFault w_ _ (hs_.at 0 rfl)) (a_ rfl rfl (en (nx (rt (xrb (xr (ret1 rfl rfl (fun w_ hs_ => ⟨?_, hs_.below⟩))))))))
                exact ri (by grind [queryFault])
              · refine ct rfl (bne_iff_ne.2 h25) (sq (rg (a_ rfl rfl (en (nx (rt (xrb (xr (ret1 rfl rfl (fun w_ hs_ => ⟨?_, hs_.below⟩))))))))))
                exact ri (by grind [queryFault])
        · refine sg rfl rfl (Bool.eq_false_iff.2 h21) (sg rfl rfl (Bool.eq_false_iff.2 h21) (sg rfl rfl (Bool.eq_false_iff.2 h21) (sg rfl rfl (Bool.eq_false_iff.2 h21) (vl (pk (b := false) rfl rfl (Bool.eq_false_iff.2 h21) rfl) rfl (a_ rfl rfl (en (nx (cf rfl rfl (sq (rg (vl (fa rfl rfl rfl) rfl (vl (ldb (u := .int .i64 q.kind) 0 rfl rfl rfl rfl rfl rfl rfl) rfl (cs_ (v := .bool (hasRect q.kind)) (by kernel_rfl) rfl rfl rfl (fun w_ hs_ => impl_hasRect w_ _) (vl (nt rfl rfl) rfl (m_ rfl rfl (vg (mv rfl rfl) rfl rfl (not_t (Bool.eq_false_iff.2 h21)) (vg (nt rfl rfl) rfl rfl (not_t (Bool.eq_false_iff.2 h21)) (vl (pk (b := true) rfl rfl (not_t (Bool.eq_false_iff.2 h21)) rfl) rfl (a_ rfl rfl (en (nx (ct rfl rfl (sk (nx (ct rfl rfl (sq (rg (a_ rfl rfl (en (nx (rt (xrb (xr (ret1 rfl rfl (fun w_ hs_ => ⟨?_, hs_.below⟩)))))))))))))))))))))))))))))))))))
          exact ri (by grind [queryFault])
      · refine ct rfl (not_t (Bool.eq_false_iff.2 h20)) (sk (nx (ct rfl (not_t (Bool.eq_false_iff.2 h20)) (sq (rg (a_ rfl rfl (en (nx (rt (xrb (xr (ret1 rfl rfl (fun w_ hs_ => ⟨?_, hs_.below⟩)))))))))))))
        exact ri (by grind [queryFault])
    · refine ct rfl (not_t (Bool.eq_false_iff.2 h19)) (sq (rg (a_ rfl rfl (en (nx (rt (xrb (xr (ret1 rfl rfl (fun w_ hs_ => ⟨?_, hs_.below⟩))))))))))
      exact ri (by grind [queryFault])
/-! spec.QueryFault -/
set_option maxRecDepth 20000 in
set_option maxHeartbeats 2000000 in
theorem spec_QueryFault (w : World) (dims : Int) {Aq1 : Option Addr} {cq1 : Nat} {Aq2 : Option Addr} {cq2 : Nat} {Aq3 : Option Addr} {cq3 : Nat} {q : Query} {sq_ : List Nat} (hq : kQueryS.Rel w [.int .i64 q.kind, .slice Aq1 q.rect.low.length cq1, .slice Aq2 q.rect.high.length cq2, .slice Aq3 q.point.length cq3, .int .i64 q.k] q [] sq_)  : Calls Tryz.prog 147 #[.agg #[.int .i64 q.kind, .slice Aq1 q.rect.low.length cq1, .slice Aq2 q.rect.high.length cq2, .slice Aq3 q.point.length cq3, .int .i64 q.k], .int .i64 dims] w (fun e_ w2_ => e_ = .returned (.int .i64 (queryFault q dims)) ∧ Below w.heap.size w w2_) := by
  have Lq1 := Kd.sub_len kQueryS_p1_1 hq; have Cq1 := Kd.sub_cap kQueryS_p1_1 hq rfl
  have Lq2 := Kd.sub_len kQueryS_p2_1 hq; have Cq2 := Kd.sub_cap kQueryS_p2_1 hq rfl
  refine fnc (X := X 78 w) (args := [.agg #[.int .i64 q.kind, .slice Aq1 q.rect.low.length cq1, .slice Aq2 q.rect.high.length cq2, .slice Aq3 q.point.length cq3, .int .i64 q.k], .int .i64 dims]) (l := [(0, .agg #[.int .i64 q.kind, .slice Aq1 q.rect.low.length cq1, .slice Aq2 q.rect.high.length cq2, .slice Aq3 q.point.length cq3, .int .i64 q.k]), (1, .int .i64 dims)]) (G := [dat kQueryS [.int .i64 q.kind, .slice Aq1 q.rect.low.length cq1, .slice Aq2 q.rect.high.length cq2, .slice Aq3 q.point.length cq3, .int .i64 q.k] q ([]) sq_]) Tryz.func147 rfl rfl rfl ⟨rfl, rfl, trivial⟩ (s0d hq (s0n w)).1 ?_
  refine sq (rg (bx rfl rfl rfl rfl ?_))
  intro b1
  refine a_ rfl rfl (en (nx (sq (sq (rg (m_ rfl rfl (cs_ (v := .bool (within dims 2 3)) (by kernel_rfl) rfl rfl rfl (fun w_ hs_ => spec_l1In w_ _ _ _) (vl (nt rfl rfl) rfl (en (nx ?_))))))))))
  by_cases h2 : within dims 2 3 = true
  · refine cf rfl (not_f h2) (sk (nx (sq (rg (vl (fa rfl rfl rfl) rfl (vl (ldb (u := .int .i64 q.kind) 0 rfl rfl rfl rfl rfl rfl rfl) rfl (vl (cm rfl rfl rfl rfl) rfl (m_ rfl rfl ?_))))))))
    by_cases h3 : q.kind = (1 : Int)
    · refine sg rfl rfl (beq_iff_eq.2 h3) (sg rfl rfl (beq_iff_eq.2 h3) (sg rfl rfl (beq_iff_eq.2 h3) (vl (pk (b := true) rfl rfl (beq_iff_eq.2 h3) rfl) rfl (a_ rfl rfl (en (nx (sq (sq (rg (vl (fa rfl rfl rfl) rfl (vl (ldb (u := .int .i64 q.kind) 0 rfl rfl rfl rfl rfl rfl rfl) rfl (cs_ (v := .bool (within q.kind 1 4)) (by kernel_rfl) rfl rfl rfl (fun w_ hs_ => spec_l1In w_ _ _ _) (vl (nt rfl rfl) rfl (m_ rfl rfl ?_))))))))))))))
      by_cases h4 : within q.kind 1 4 = true
      · refine vg (mv rfl rfl) rfl rfl (not_f h4) (vg (mv rfl rfl) rfl rfl (not_f h4) (vg (fa rfl rfl rfl) rfl rfl rfl (vg (ldb (u := .slice Aq3 q.point.length cq3) 0 rfl rfl rfl rfl rfl rfl rfl) rfl rfl rfl (vg (ln rfl rfl rfl) rfl rfl rfl (vg (cm rfl rfl rfl rfl) rfl rfl rfl (vg (pk (b := true) rfl rfl rfl rfl) rfl rfl (not_f h4) (vl (pk (b := false) rfl rfl (not_f h4) rfl) rfl (m_ rfl rfl ?_))))))))
        by_cases h5 : (0 : Int) < ((q.point.length : Nat) : Int)
        · refine sg rfl rfl (decide_eq_true h5) (sg rfl rfl (decide_eq_true h5) (sg rfl rfl (decide_eq_true h5) (su rfl rfl (su rfl rfl (su rfl rfl (su rfl rfl (su rfl rfl (su rfl rfl (su rfl rfl (su rfl rfl (su rfl rfl (su rfl rfl (sg rfl rfl (decide_eq_true h5) (vl (pk (b := true) rfl rfl (decide_eq_true h5) rfl) rfl (m_ rfl rfl (sg rfl rfl rfl (sg rfl rfl rfl (sg rfl rfl rfl (sg rfl rfl rfl (su rfl rfl (su rfl rfl (su rfl rfl (sg rfl rfl rfl (vl (pk (b := true) rfl rfl rfl rfl) rfl (en (nx (ct rfl rfl (sq (rg (a_ rfl rfl (en (nx (rt (xr (ret1 rfl rfl (fun w_ hs_ => ⟨?_, hs_.below⟩))))))))))))))))))))))))))))))))))))
          exact ri (by grind [queryFault, hasRect, isDims])
        · refine vg (mv rfl rfl) rfl rfl (decide_eq_false h5) (vg (nt rfl rfl) rfl rfl (decide_eq_false h5) (vg (mv rfl rfl) rfl rfl (decide_eq_false h5) (sg rfl rfl rfl (sg rfl rfl rfl (sg rfl rfl rfl (sg rfl rfl rfl (sg rfl rfl rfl (sg rfl rfl rfl (sg rfl rfl rfl (sg rfl rfl rfl (sg rfl rfl rfl (sg rfl rfl rfl (vg (pk (b := false) rfl rfl rfl rfl) rfl rfl (decide_eq_false h5) (vl (pk (b := false) rfl rfl (decide_eq_false h5) rfl) rfl (m_ rfl rfl (vg (fa rfl rfl rfl) rfl rfl rfl (vg (ldb (u := .int .i64 q.kind) 0 rfl rfl rfl rfl rfl rfl rfl) rfl rfl rfl (vg (cm rfl rfl rfl rfl) rfl rfl rfl (vg (mv rfl rfl) rfl rfl rfl ?_)))))))))))))))))))
          by_cases h6 : q.kind = (4 : Int)
          · refine sg rfl rfl (bne_eq_false_iff_eq.2 h6) (sg rfl rfl (bne_eq_false_iff_eq.2 h6) (sg rfl rfl (bne_eq_false_iff_eq.2 h6) (vg (pk (b := false) rfl rfl (bne_eq_false_iff_eq.2 h6) rfl) rfl rfl rfl (vl (pk (b := false) rfl rfl rfl rfl) rfl (en (nx (cf rfl rfl (sk (nx (sq (sq (rg (m_ rfl rfl (en (nx (ct rfl rfl (sq (rg (vl (fa rfl rfl rfl) rfl (vl (ldb 0 rfl rfl rfl rfl rfl rfl rfl) rfl (m_ rfl rfl ?_)))))))))))))))))))))
            refine gd 1 kQueryS_p1_2 rfl (cs' := [.slice Aq1 q.rect.low.length cq1, .slice Aq2 q.rect.high.length cq2]) rfl fun s7 w_ rs7 us7 => ?_
            refine cs_ (v := .int .i64 (rectFault q.rect dims)) (by kernel_rfl) rfl rfl rfl (fun w_ hs_ => spec_RectFault w_ _ (hs_.at 0 rfl)) (a_ rfl rfl (en (nx (rt (xr (ret1 rfl rfl (fun w_ hs_ => ⟨?_, hs_.below⟩)))))))
            exact ri (by grind [queryFault, hasRect, isDims])
          · refine vg (fa rfl rfl rfl) rfl rfl (bne_iff_ne.2 h6) (vg (ldb (u := .int .i64 q.k) 0 rfl rfl rfl rfl rfl rfl rfl) rfl rfl (bne_iff_ne.2 h6) (vg (cm rfl rfl rfl rfl) rfl rfl (bne_iff_ne.2 h6) (vg (pk (b := true) rfl rfl (bne_iff_ne.2 h6) rfl) rfl rfl rfl (vl (pk (b := false) rfl rfl rfl rfl) rfl (en (nx ?_))))))
            by_cases h8 : q.k = (0 : Int)
            · refine cf rfl (bne_eq_false_iff_eq.2 h8) (sk (nx (sq (sq (rg (m_ rfl rfl (en (nx (ct rfl rfl (sq (rg (vl (fa rfl rfl rfl) rfl (vl (ldb 0 rfl rfl rfl rfl rfl rfl rfl) rfl (m_ rfl rfl ?_))))))))))))))
              refine gd 1 kQueryS_p1_2 rfl (cs' := [.slice Aq1 q.rect.low.length cq1, .slice Aq2 q.rect.high.length cq2]) rfl fun s9 w_ rs9 us9 => ?_
              refine cs_ (v := .int .i64 (rectFault q.rect dims)) (by kernel_rfl) rfl rfl rfl (fun w_ hs_ => spec_RectFault w_ _ (hs_.at 0 rfl)) (a_ rfl rfl (en (nx (rt (xr (ret1 rfl rfl (fun w_ hs_ => ⟨?_, hs_.below⟩)))))))
              exact ri (by grind [queryFault, hasRect, isDims])
            · refine ct rfl (bne_iff_ne.2 h8) (sq (rg (a_ rfl rfl (en (nx (rt (xr (ret1 rfl rfl (fun w_ hs_ => ⟨?_, hs_.below⟩)))))))))
              exact ri (by grind [queryFault, hasRect, isDims])
      · refine sg rfl rfl (not_t (Bool.eq_false_iff.2 h4)) (sg rfl rfl (not_t (Bool.eq_false_iff.2 h4)) (su rfl rfl (su rfl rfl (su rfl rfl (su rfl rfl (sg rfl rfl (not_t (Bool.eq_false_iff.2 h4)) (vl (pk (b := true) rfl rfl (not_t (Bool.eq_false_iff.2 h4)) rfl) rfl (m_ rfl rfl (sg rfl rfl rfl (sg rfl rfl rfl (sg rfl rfl rfl (su rfl rfl (su rfl rfl (su rfl rfl (su rfl rfl (su rfl rfl (su rfl rfl (su rfl rfl (su rfl rfl (su rfl rfl (su rfl rfl (sg rfl rfl rfl (vl (pk (b := true) rfl rfl rfl rfl) rfl (m_ rfl rfl (sg rfl rfl rfl (sg rfl rfl rfl (sg rfl rfl rfl (sg rfl rfl rfl (su rfl rfl (su rfl rfl (su rfl rfl (sg rfl rfl rfl (vl (pk (b := true) rfl rfl rfl rfl) rfl (en (nx (ct rfl rfl (sq (rg (a_ rfl rfl (en (nx (rt (xr (ret1 rfl rfl (fun w_ hs_ => ⟨?_, hs_.below⟩)))))))))))))))))))))))))))))))))))))))))))))
        exact ri (by grind [queryFault, hasRect, isDims])
    · refine vg (fa rfl rfl rfl) rfl rfl (beq_eq_false_iff_ne.2 h3) (vg (ldb (u := .int .i64 q.kind) 0 rfl rfl rfl rfl rfl rfl rfl) rfl rfl (beq_eq_false_iff_ne.2 h3) (vg (cm rfl rfl rfl rfl) rfl rfl (beq_eq_false_iff_ne.2 h3) (vl (pk (b := false) rfl rfl (beq_eq_false_iff_ne.2 h3) rfl) rfl (a_ rfl rfl (en (nx (sq (sq (rg (vl (fa rfl rfl rfl) rfl (vl (ldb (u := .int .i64 q.kind) 0 rfl rfl rfl rfl rfl rfl rfl) rfl (cs_ (v := .bool (within q.kind 1 4)) (by kernel_rfl) rfl rfl rfl (fun w_ hs_ => spec_l1In w_ _ _ _) (vl (nt rfl rfl) rfl (m_ rfl rfl ?_))))))))))))))
      by_cases h10 : within q.kind 1 4 = true
      · refine vg (mv rfl rfl) rfl rfl (not_f h10) (vg (mv rfl rfl) rfl rfl (not_f h10) ?_)
        by_cases h11 : q.kind = (2 : Int)
        · refine vg (fa rfl rfl rfl) rfl rfl (beq_iff_eq.2 h11) (vg (ldb (u := .slice Aq3 q.point.length cq3) 0 rfl rfl rfl rfl rfl rfl rfl) rfl rfl (beq_iff_eq.2 h11) (vg (ln rfl rfl rfl) rfl rfl (beq_iff_eq.2 h11) (vg (cm rfl rfl rfl rfl) rfl rfl (beq_iff_eq.2 h11) (vg (pk (b := true) rfl rfl (beq_iff_eq.2 h11) rfl) rfl rfl (not_f h10) (vl (pk (b := false) rfl rfl (not_f h10) rfl) rfl (m_ rfl rfl ?_))))))
          by_cases h12 : (0 : Int) < ((q.point.length : Nat) : Int)
          · refine sg rfl rfl (decide_eq_true h12) (sg rfl rfl (decide_eq_true h12) (sg rfl rfl (decide_eq_true h12) (su rfl rfl (su rfl rfl (su rfl rfl (su rfl rfl (su rfl rfl (su rfl rfl (su rfl rfl (su rfl rfl (su rfl rfl (su rfl rfl (sg rfl rfl (decide_eq_true h12) (vl (pk (b := true) rfl rfl (decide_eq_true h12) rfl) rfl (m_ rfl rfl (sg rfl rfl rfl (sg rfl rfl rfl (sg rfl rfl rfl (sg rfl rfl rfl (su rfl rfl (su rfl rfl (su rfl rfl (sg rfl rfl rfl (vl (pk (b := true) rfl rfl rfl rfl) rfl (en (nx (ct rfl rfl (sq (rg (a_ rfl rfl (en (nx (rt (xr (ret1 rfl rfl (fun w_ hs_ => ⟨?_, hs_.below⟩))))))))))))))))))))))))))))))))))))
            exact ri (by grind [queryFault, hasRect, isDims])
          · refine vg (mv rfl rfl) rfl rfl (decide_eq_false h12) (vg (nt rfl rfl) rfl rfl (decide_eq_false h12) (vg (mv rfl rfl) rfl rfl (decide_eq_false h12) (sg rfl rfl (not_f (beq_iff_eq.2 h11)) (sg rfl rfl (not_f (beq_iff_eq.2 h11)) (sg rfl rfl (not_f (beq_iff_eq.2 h11)) (sg rfl rfl (not_f (beq_iff_eq.2 h11)) (sg rfl rfl (not_f (beq_iff_eq.2 h11)) (sg rfl rfl (not_f (beq_iff_eq.2 h11)) (sg rfl rfl (not_f (beq_iff_eq.2 h11)) (sg rfl rfl (not_f (beq_iff_eq.2 h11)) (sg rfl rfl (not_f (beq_iff_eq.2 h11)) (sg rfl rfl (not_f (beq_iff_eq.2 h11)) (vg (pk (b := false) rfl rfl (not_f (beq_iff_eq.2 h11)) rfl) rfl rfl (decide_eq_false h12) (vl (pk (b := false) rfl rfl (decide_eq_false h12) rfl) rfl (m_ rfl rfl (vg (fa rfl rfl rfl) rfl rfl rfl (vg (ldb (u := .int .i64 q.kind) 0 rfl rfl rfl rfl rfl rfl rfl) rfl rfl rfl (vg (cm rfl rfl rfl rfl) rfl rfl rfl (vg (mv rfl rfl) rfl rfl rfl ?_)))))))))))))))))))
            by_cases h13 : q.kind = (4 : Int)
            · refine sg rfl rfl (bne_eq_false_iff_eq.2 h13) (sg rfl rfl (bne_eq_false_iff_eq.2 h13) (sg rfl rfl (bne_eq_false_iff_eq.2 h13) (vg (pk (b := false) rfl rfl (bne_eq_false_iff_eq.2 h13) rfl) rfl rfl rfl (vl (pk (b := false) rfl rfl rfl rfl) rfl (en (nx (cf rfl rfl (sk (nx (sq (sq (rg (m_ rfl rfl (en (nx (ct rfl (beq_iff_eq.2 h11) (sq (rg (vl (fa rfl rfl rfl) rfl (vl (ldb 0 rfl rfl rfl rfl rfl rfl rfl) rfl (m_ rfl rfl ?_)))))))))))))))))))))
              refine gd 1 kQueryS_p1_2 rfl (cs' := [.slice Aq1 q.rect.low.length cq1, .slice Aq2 q.rect.high.length cq2]) rfl fun s14 w_ rs14 us14 => ?_
              refine cs_ (v := .int .i64 (rectFault q.rect dims)) (by kernel_rfl) rfl rfl rfl (fun w_ hs_ => spec_RectFault w_ _ (hs_.at 0 rfl)) (a_ rfl rfl (en (nx (rt (xr (ret1 rfl rfl (fun w_ hs_ => ⟨?_, hs_.below⟩)))))))
              exact ri (by grind [queryFault, hasRect, isDims])
            · refine vg (fa rfl rfl rfl) rfl rfl (bne_iff_ne.2 h13) (vg (ldb (u := .int .i64 q.k) 0 rfl rfl rfl rfl rfl rfl rfl) rfl rfl (bne_iff_ne.2 h13) (vg (cm rfl rfl rfl rfl) rfl rfl (bne_iff_ne.2 h13) (vg (pk (b := true) rfl rfl (bne_iff_ne.2 h13) rfl) rfl rfl rfl (vl (pk (b := false) rfl rfl rfl rfl) rfl (en (nx ?_))))))
              by_cases h15 : q.k = (0 : Int)
              · refine cf rfl (bne_eq_false_iff_eq.2 h15) (sk (nx (sq (sq (rg (m_ rfl rfl (en (nx (ct rfl (beq_iff_eq.2 h11) (sq (rg (vl (fa rfl rfl rfl) rfl (vl (ldb 0 rfl rfl rfl rfl rfl rfl rfl) rfl (m_ rfl rfl ?_))))))))))))))
                refine gd 1 kQueryS_p1_2 rfl (cs' := [.slice Aq1 q.rect.low.length cq1, .slice Aq2 q.rect.high.length cq2]) rfl fun s16 w_ rs16 us16 => ?_
                refine cs_ (v := .int .i64 (rectFault q.rect dims)) (by kernel_rfl) rfl rfl rfl (fun w_ hs_ => spec_RectFault w_ _ (hs_.at 0 rfl)) (a_ rfl rfl (en (nx (rt (xr (ret1 rfl rfl (fun w_ hs_ => ⟨?_, hs_.below⟩)))))))
                exact ri (by grind [queryFault, hasRect, isDims])
              · refine ct rfl (bne_iff_ne.2 h15) (sq (rg (a_ rfl rfl (en (nx (rt (xr (ret1 rfl rfl (fun w_ hs_ => ⟨?_, hs_.below⟩)))))))))
                exact ri (by grind [queryFault, hasRect, isDims])
        · refine sg rfl rfl (beq_eq_false_iff_ne.2 h11) (sg rfl rfl (beq_eq_false_iff_ne.2 h11) (sg rfl rfl (beq_eq_false_iff_ne.2 h11) (sg rfl rfl (beq_eq_false_iff_ne.2 h11) (vg (pk (b := false) rfl rfl (beq_eq_false_iff_ne.2 h11) rfl) rfl rfl (not_f h10) (vl (pk (b := false) rfl rfl (not_f h10) rfl) rfl (m_ rfl rfl (vg (mv rfl rfl) rfl rfl rfl (vg (nt rfl rfl) rfl rfl rfl (vg (mv rfl rfl) rfl rfl rfl (vg (fa rfl rfl rfl) rfl rfl (not_t (beq_eq_false_iff_ne.2 h11)) (vg (fa rfl rfl rfl) rfl rfl (not_t (beq_eq_false_iff_ne.2 h11)) (vg (ldb (u := .slice Aq1 q.rect.low.length cq1) 0 rfl rfl rfl rfl rfl rfl rfl) rfl rfl (not_t (beq_eq_false_iff_ne.2 h11)) (vg (ln rfl rfl rfl) rfl rfl (not_t (beq_eq_false_iff_ne.2 h11)) (vg (fa rfl rfl rfl) rfl rfl (not_t (beq_eq_false_iff_ne.2 h11)) (vg (fa rfl rfl rfl) rfl rfl (not_t (beq_eq_false_iff_ne.2 h11)) (vg (ldb (u := .slice Aq2 q.rect.high.length cq2) 0 rfl rfl rfl rfl rfl rfl rfl) rfl rfl (not_t (beq_eq_false_iff_ne.2 h11)) (vg (ln rfl rfl rfl) rfl rfl (not_t (beq_eq_false_iff_ne.2 h11)) (vg (ra (c := ((q.rect.low.length : Nat) : Int) + ((q.rect.high.length : Nat) : Int)) rfl rfl rfl rfl (by omega) (by omega)) rfl rfl (not_t (beq_eq_false_iff_ne.2 h11)) (vg (cm rfl rfl rfl rfl) rfl rfl (not_t (beq_eq_false_iff_ne.2 h11)) (vg (pk (b := true) rfl rfl (not_t (beq_eq_false_iff_ne.2 h11)) rfl) rfl rfl rfl (vl (pk (b := false) rfl rfl rfl rfl) rfl (m_ rfl rfl ?_))))))))))))))))))))))
          by_cases h17 : (0 : Int) < ((q.rect.low.length : Nat) : Int) + ((q.rect.high.length : Nat) : Int)
          · have gh17 := rectEmpty_f (r := q.rect) h17
            refine sg rfl rfl (decide_eq_true h17) (sg rfl rfl (decide_eq_true h17) (sg rfl rfl (decide_eq_true h17) (sg rfl rfl (decide_eq_true h17) (su rfl rfl (su rfl rfl (su rfl rfl (sg rfl rfl (decide_eq_true h17) (vl (pk (b := true) rfl rfl (decide_eq_true h17) rfl) rfl (en (nx (ct rfl rfl (sq (rg (a_ rfl rfl (en (nx (rt (xr (ret1 rfl rfl (fun w_ hs_ => ⟨?_, hs_.below⟩))))))))))))))))))))
            exact ri (by grind [queryFault, hasRect, isDims])
          · have gh17 := rectEmpty_t (r := q.rect) h17
            refine vg (fa rfl rfl rfl) rfl rfl (decide_eq_false h17) (vg (ldb (u := .int .i64 q.kind) 0 rfl rfl rfl rfl rfl rfl rfl) rfl rfl (decide_eq_false h17) (vg (cm rfl rfl rfl rfl) rfl rfl (decide_eq_false h17) (vg (mv rfl rfl) rfl rfl (decide_eq_false h17) ?_)))
            by_cases h18 : q.kind = (4 : Int)
            · refine sg rfl rfl (bne_eq_false_iff_eq.2 h18) (sg rfl rfl (bne_eq_false_iff_eq.2 h18) (sg rfl rfl (bne_eq_false_iff_eq.2 h18) (vg (pk (b := false) rfl rfl (bne_eq_false_iff_eq.2 h18) rfl) rfl rfl (decide_eq_false h17) (vl (pk (b := false) rfl rfl (decide_eq_false h17) rfl) rfl (en (nx (cf rfl rfl (sk (nx (sq (sq (rg (m_ rfl rfl (en (nx (cf rfl (beq_eq_false_iff_ne.2 h11) (sk (nx (sq (sq (rg (vl (fa rfl rfl rfl) rfl (vl (ldb (u := .slice Aq3 q.point.length cq3) 0 rfl rfl rfl rfl rfl rfl rfl) rfl (m_ rfl rfl ?_))))))))))))))))))))))))
              refine gd 1 kQueryS_p3_1 rfl (cs' := [.slice Aq3 q.point.length cq3]) rfl fun s19 w_ rs19 us19 => ?_
              have Ls19 := Kd.sl_len rs19; have Cs19 := Kd.sl_cap rs19
              refine cs_ (v := .int .i64 (pointFault q.point dims)) (by kernel_rfl) rfl rfl rfl (fun w_ hs_ => spec_PointFault w_ _ (hs_.at 0 rfl)) (a_ rfl rfl (en (nx (sq (rg (m_ rfl rfl (vl (cm rfl rfl rfl rfl) rfl (en (nx ?_)))))))))
              by_cases h20 : (pointFault q.point dims) = (0 : Int)
              · refine cf rfl (bne_eq_false_iff_eq.2 h20) (sk (nx (sq (sq (rg (vl (fa rfl rfl rfl) rfl (vl (ldb (u := .int .i64 q.kind) 1 rfl rfl rfl rfl rfl rfl rfl) rfl (vl (cm rfl rfl rfl rfl) rfl (m_ rfl rfl (vg (fa rfl rfl rfl) rfl rfl (beq_iff_eq.2 h18) (vg (ldb (u := .int .i64 q.k) 1 rfl rfl rfl rfl rfl rfl rfl) rfl rfl (beq_iff_eq.2 h18) (gw rfl rfl (beq_iff_eq.2 h18) (cs_ (v := .bool (within q.k 1 20)) (by kernel_rfl) rfl rfl rfl (fun w_ hs_ => spec_l1In w_ _ _ _) (vg (nt rfl rfl) rfl rfl (beq_iff_eq.2 h18) (vl (pk (b := true) rfl rfl (beq_iff_eq.2 h18) rfl) rfl (en (nx ?_)))))))))))))))))
                by_cases h21 : within q.k 1 20 = true
                · refine cf rfl (not_f h21) (sk (nx (sq (rg (a_ rfl rfl (en (nx (rt (ret1 rfl rfl (fun w_ hs_ => ⟨?_, hs_.below⟩))))))))))
                  exact ri (by grind [queryFault, hasRect, isDims])
                · refine ct rfl (not_t (Bool.eq_false_iff.2 h21)) (sq (rg (a_ rfl rfl (en (nx (rt (xr (ret1 rfl rfl (fun w_ hs_ => ⟨?_, hs_.below⟩)))))))))
                  exact ri (by grind [queryFault, hasRect, isDims])
              · refine ct rfl (bne_iff_ne.2 h20) (sq (rg (m_ rfl rfl (a_ rfl rfl (en (nx (rt (xr (ret1 rfl rfl (fun w_ hs_ => ⟨?_, hs_.below⟩))))))))))
                exact ri (by grind [queryFault, hasRect, isDims])
            · refine vg (fa rfl rfl rfl) rfl rfl (bne_iff_ne.2 h18) (vg (ldb (u := .int .i64 q.k) 0 rfl rfl rfl rfl rfl rfl rfl) rfl rfl (bne_iff_ne.2 h18) (vg (cm rfl rfl rfl rfl) rfl rfl (bne_iff_ne.2 h18) (vg (pk (b := true) rfl rfl (bne_iff_ne.2 h18) rfl) rfl rfl (decide_eq_false h17) (vl (pk (b := false) rfl rfl (decide_eq_false h17) rfl) rfl (en (nx ?_))))))
              by_cases h22 : q.k = (0 : Int)
              · refine cf rfl (bne_eq_false_iff_eq.2 h22) (sk (nx (sq (sq (rg (m_ rfl rfl (en (nx (cf rfl (beq_eq_false_iff_ne.2 h11) (sk (nx (sq (sq (rg (vl (fa rfl rfl rfl) rfl (vl (ldb (u := .slice Aq3 q.point.length cq3) 0 rfl rfl rfl rfl rfl rfl rfl) rfl (m_ rfl rfl ?_)))))))))))))))))
                refine gd 1 kQueryS_p3_1 rfl (cs' := [.slice Aq3 q.point.length cq3]) rfl fun s23 w_ rs23 us23 => ?_
                have Ls23 := Kd.sl_len rs23; have Cs23 := Kd.sl_cap rs23
                refine cs_ (v := .int .i64 (pointFault q.point dims)) (by kernel_rfl) rfl rfl rfl (fun w_ hs_ => spec_PointFault w_ _ (hs_.at 0 rfl)) (a_ rfl rfl (en (nx (sq (rg (m_ rfl rfl (vl (cm rfl rfl rfl rfl) rfl (en (nx ?_)))))))))
                by_cases h24 : (pointFault q.point dims) = (0 : Int)
                · refine cf rfl (bne_eq_false_iff_eq.2 h24) (sk (nx (sq (sq (rg (vl (fa rfl rfl rfl) rfl (vl (ldb (u := .int .i64 q.kind) 1 rfl rfl rfl rfl rfl rfl rfl) rfl (vl (cm rfl rfl rfl rfl) rfl (m_ rfl rfl (sg rfl rfl (beq_eq_false_iff_ne.2 h18) (sg rfl rfl (beq_eq_false_iff_ne.2 h18) (sg rfl rfl (beq_eq_false_iff_ne.2 h18) (sg rfl rfl (beq_eq_false_iff_ne.2 h18) (vl (pk (b := false) rfl rfl (beq_eq_false_iff_ne.2 h18) rfl) rfl (en (nx (cf rfl rfl (sk (nx (sq (rg (a_ rfl rfl (en (nx (rt (ret1 rfl rfl (fun w_ hs_ => ⟨?_, hs_.below⟩)))))))))))))))))))))))))))
                  exact ri (by grind [queryFault, hasRect, isDims])
                · refine ct rfl (bne_iff_ne.2 h24) (sq (rg (m_ rfl rfl (a_ rfl rfl (en (nx (rt (xr (ret1 rfl rfl (fun w_ hs_ => ⟨?_, hs_.below⟩))))))))))
                  exact ri (by grind [queryFault, hasRect, isDims])
              · refine ct rfl (bne_iff_ne.2 h22) (sq (rg (a_ rfl rfl (en (nx (rt (xr (ret1 rfl rfl (fun w_ hs_ => ⟨?_, hs_.below⟩)))))))))
                exact ri (by grind [queryFault, hasRect, isDims])
      · refine sg rfl rfl (not_t (Bool.eq_false_iff.2 h10)) (sg rfl rfl (not_t (Bool.eq_false_iff.2 h10)) (su rfl rfl (su rfl rfl (su rfl rfl (su rfl rfl (sg rfl rfl (not_t (Bool.eq_false_iff.2 h10)) (vl (pk (b := true) rfl rfl (not_t (Bool.eq_false_iff.2 h10)) rfl) rfl (m_ rfl rfl (sg rfl rfl rfl (sg rfl rfl rfl (sg rfl rfl rfl (su rfl rfl (su rfl rfl (su rfl rfl (su rfl rfl (su rfl rfl (su rfl rfl (su rfl rfl (su rfl rfl (su rfl rfl (su rfl rfl (sg rfl rfl rfl (vl (pk (b := true) rfl rfl rfl rfl) rfl (m_ rfl rfl (sg rfl rfl rfl (sg rfl rfl rfl (sg rfl rfl rfl (sg rfl rfl rfl (su rfl rfl (su rfl rfl (su rfl rfl (sg rfl rfl rfl (vl (pk (b := true) rfl rfl rfl rfl) rfl (en (nx (ct rfl rfl (sq (rg (a_ rfl rfl (en (nx (rt (xr (ret1 rfl rfl (fun w_ hs_ => ⟨?_, hs_.below⟩)))))))))))))))))))))))))))))))))))))))))))))
        exact ri (by grind [queryFault, hasRect, isDims])
  · refine ct rfl (not_t (Bool.eq_false_iff.2 h2)) (sq (rg (a_ rfl rfl (en (nx (rt (xr (ret1 rfl rfl (fun w_ hs_ => ⟨?_, hs_.below⟩)))))))))
    exact ri (by grind [queryFault, hasRect, isDims])
def noQuery (q : Query) : Bool := q.kind == 0 && rectEmpty q.rect && decide ((q.point.length : Int) = 0) && q.k == 0
def noPair (p : Pair) : Bool := p.id == 0 && rectEmpty p.rect
def falls (l : List Note) : Bool := adj (fun a b => decide (b.at_ < a.at_)) l
def opKind (o : Op) : Bool := if o.kind = 1 ∨ o.kind = 2 then noQuery o.query else if o.kind = 3 then noQuery o.query && rectEmpty o.pair.rect else if o.kind = 4 then noPair o.pair else false
def opFault (o : Op) (dims : Int) : Int :=
  if isDims dims = true then
    if opKind o = true then
      if o.kind = 4 then queryFault o.query dims else
      if within o.pair.id 0 999 = true then if o.kind = 3 then 0 else rectFault o.pair.rect dims else 3
    else 1
  else 3
def noteFault (n : Note) (dims : Int) : Int :=
  if within n.kind 1 3 = true then
    if within n.at_ 0 1000000 = true ∧ within n.client 0 3 = true then
      if opFault n.op dims = 0 then
        if within n.answer.code 0 9 = true then
          if (n.answer.pairs.length : Int) ≤ 1000 then firstFault (fun p => pairFault p dims) n.answer.pairs else 2
        else 3
      else opFault n.op dims
    else 3
  else 1
def notesFault (l : List Note) (dims : Int) : Int :=
  if isDims dims = true then
    if (l.length : Int) ≤ 600 then
      if firstFault (fun n => noteFault n dims) l = 0 then if falls l = true then 1 else 0 else firstFault (fun n => noteFault n dims) l
    else 2
  else 3
/-! (impl.Rect).isEmpty -/
set_option maxRecDepth 20000 in
set_option maxHeartbeats 2000000 in
theorem impl_Rect_isEmpty (w : World) {Ar0 : Option Addr} {cr0 : Nat} {Ar1 : Option Addr} {cr1 : Nat} {r : Rect} {sr_ : List Nat} (hr : kRectS.Rel w [.slice Ar0 r.low.length cr0, .slice Ar1 r.high.length cr1] r [] sr_)  : Calls Tryz.prog 151 #[.agg #[.slice Ar0 r.low.length cr0, .slice Ar1 r.high.length cr1]] w (fun e_ w2_ => e_ = .returned (.bool (rectEmpty r)) ∧ Below w.heap.size w w2_) := by
  refine fnc (X := X 13 w) (args := [.agg #[.slice Ar0 r.low.length cr0, .slice Ar1 r.high.length cr1]]) (l := [(0, .agg #[.slice Ar0 r.low.length cr0, .slice Ar1 r.high.length cr1])]) (G := [dat kRectS [.slice Ar0 r.low.length cr0, .slice Ar1 r.high.length cr1] r ([]) sr_]) Tryz.func151 rfl rfl rfl ⟨rfl, trivial⟩ (s0d hr (s0n w)).1 ?_
  refine sq (rg (bx rfl rfl rfl rfl ?_))
  intro b1
  refine a_ rfl rfl (en (nx (sq (rg (vl (fa rfl rfl rfl) rfl (vl (ldb (u := .slice Ar0 r.low.length cr0) 0 rfl rfl rfl rfl rfl rfl rfl) rfl (vl (ln rfl rfl rfl) rfl (vl (cm rfl rfl rfl rfl) rfl (m_ rfl rfl ?_)))))))))
  by_cases h2 : ((r.low.length : Nat) : Int) = (0 : Int)
  · refine vg (fa rfl rfl rfl) rfl rfl (beq_iff_eq.2 h2) (vg (ldb (u := .slice Ar1 r.high.length cr1) 0 rfl rfl rfl rfl rfl rfl rfl) rfl rfl (beq_iff_eq.2 h2) (vg (ln rfl rfl rfl) rfl rfl (beq_iff_eq.2 h2) (vg (cm rfl rfl rfl rfl) rfl rfl (beq_iff_eq.2 h2) (vl (pk (b := true) rfl rfl (beq_iff_eq.2 h2) rfl) rfl (a_ rfl rfl (en (nx (rt (ret1 rfl rfl (fun w_ hs_ => ⟨?_, hs_.below⟩))))))))))
    exact rb (by grind [rectEmpty])
  · have gh2 := rectEmpty_1 (r := r) h2
    refine sg rfl rfl (beq_eq_false_iff_ne.2 h2) (sg rfl rfl (beq_eq_false_iff_ne.2 h2) (sg rfl rfl (beq_eq_false_iff_ne.2 h2) (sg rfl rfl (beq_eq_false_iff_ne.2 h2) (vl (pk (b := false) rfl rfl (beq_eq_false_iff_ne.2 h2) rfl) rfl (a_ rfl rfl (en (nx (rt (ret1 rfl rfl (fun w_ hs_ => ⟨?_, hs_.below⟩))))))))))
    exact rb (by grind [rectEmpty])
/-! spec.l10NoRect -/
set_option maxRecDepth 20000 in
set_option maxHeartbeats 2000000 in
theorem spec_l10NoRect (w : World) {Ar0 : Option Addr} {cr0 : Nat} {Ar1 : Option Addr} {cr1 : Nat} {r : Rect} {sr_ : List Nat} {pr : Addr} (hr : (ptr kRectS pr [.slice Ar0 r.low.length cr0, .slice Ar1 r.high.length cr1] r sr_).P w)  : Calls Tryz.prog 146 #[.pointer (some pr)] w (fun e_ w2_ => e_ = .returned (.bool (rectEmpty r)) ∧ Below w.heap.size w w2_) := by
  have Lr0 := Kd.sub_len kRectS_p0_1 hr.2.2.2; have Cr0 := Kd.sub_cap kRectS_p0_1 hr.2.2.2 rfl
  have Lr1 := Kd.sub_len kRectS_p1_1 hr.2.2.2; have Cr1 := Kd.sub_cap kRectS_p1_1 hr.2.2.2 rfl
  refine fnc (X := X 15 w) (args := [.pointer (some pr)]) (l := [(0, .pointer (some pr))]) (G := [ptr kRectS pr [.slice Ar0 r.low.length cr0, .slice Ar1 r.high.length cr1] r sr_]) Tryz.func146 rfl rfl rfl ⟨rfl, trivial⟩ (s0p hr (s0n w)).1 ?_
  refine sq (rg (a_ rfl rfl (en (nx (sq ?_)))))
  refine r0 (qv 0 rfl (mv rfl rfl) rfl (by kernel_rfl) (qv 1 rfl (nc rfl rfl) rfl (by kernel_rfl) (qv 2 rfl (fa rfl rfl rfl) rfl (by kernel_rfl) (qv 3 rfl (ldp (u := .slice Ar0 r.low.length cr0) 0 rfl rfl rfl rfl rfl rfl rfl) rfl (by kernel_rfl) (qv 4 rfl (ln rfl rfl rfl) rfl (by kernel_rfl) (qv 5 rfl (mv rfl rfl) rfl (by kernel_rfl) (qv 6 rfl (nc rfl rfl) rfl (by kernel_rfl) (qv 7 rfl (fa rfl rfl rfl) rfl (by kernel_rfl) (qv 8 rfl (ldp (u := .slice Ar1 r.high.length cr1) 0 rfl rfl rfl rfl rfl rfl rfl) rfl (by kernel_rfl) (qv 9 rfl (ln rfl rfl rfl) rfl (by kernel_rfl) (qv 10 rfl (ra (c := ((r.low.length : Nat) : Int) + ((r.high.length : Nat) : Int)) rfl rfl rfl rfl (by omega) (by omega)) rfl (by kernel_rfl) (qv 11 rfl (cm rfl rfl rfl rfl) rfl (by kernel_rfl) (qv 12 rfl (as_ rfl rfl) rfl (by kernel_rfl) (qe [0] (by kernel_rfl) rfl (nx (rt (ret1 rfl rfl (fun w_ hs_ => ⟨?_, hs_.below⟩))))))))))))))))))
  rw [rectEmpty_4]
/-! (impl.Query).isZero -/
set_option maxRecDepth 20000 in
set_option maxHeartbeats 2000000 in
theorem impl_Query_isZero (w : World) {Aq1 : Option Addr} {cq1 : Nat} {Aq2 : Option Addr} {cq2 : Nat} {Aq3 : Option Addr} {cq3 : Nat} {q : Query} {sq_ : List Nat} (hq : kQueryS.Rel w [.int .i64 q.kind, .slice Aq1 q.rect.low.length cq1, .slice Aq2 q.rect.high.length cq2, .slice Aq3 q.point.length cq3, .int .i64 q.k] q [] sq_)  : Calls Tryz.prog 150 #[.agg #[.int .i64 q.kind, .slice Aq1 q.rect.low.length cq1, .slice Aq2 q.rect.high.length cq2, .slice Aq3 q.point.length cq3, .int .i64 q.k]] w (fun e_ w2_ => e_ = .returned (.bool (noQuery q)) ∧ Below w.heap.size w w2_) := by
  refine fnc (X := X 22 w) (args := [.agg #[.int .i64 q.kind, .slice Aq1 q.rect.low.length cq1, .slice Aq2 q.rect.high.length cq2, .slice Aq3 q.point.length cq3, .int .i64 q.k]]) (l := [(0, .agg #[.int .i64 q.kind, .slice Aq1 q.rect.low.length cq1, .slice Aq2 q.rect.high.length cq2, .slice Aq3 q.point.length cq3, .int .i64 q.k])]) (G := [dat kQueryS [.int .i64 q.kind, .slice Aq1 q.rect.low.length cq1, .slice Aq2 q.rect.high.length cq2, .slice Aq3 q.point.length cq3, .int .i64 q.k] q ([]) sq_]) Tryz.func150 rfl rfl rfl ⟨rfl, trivial⟩ (s0d hq (s0n w)).1 ?_
  refine sq (rg (bx rfl rfl rfl rfl ?_))
  intro b1
  refine a_ rfl rfl (en (nx (sq (rg (vl (fa rfl rfl rfl) rfl (vl (ldb (u := .int .i64 q.kind) 0 rfl rfl rfl rfl rfl rfl rfl) rfl (vl (cm rfl rfl rfl rfl) rfl (m_ rfl rfl ?_))))))))
  by_cases h2 : q.kind = (0 : Int)
  · refine vg (fa rfl rfl rfl) rfl rfl (beq_iff_eq.2 h2) (vg (ldb 0 rfl rfl rfl rfl rfl rfl rfl) rfl rfl (beq_iff_eq.2 h2) (gw rfl rfl (beq_iff_eq.2 h2) ?_))
    refine gd 1 kQueryS_p1_2 rfl (cs' := [.slice Aq1 q.rect.low.length cq1, .slice Aq2 q.rect.high.length cq2]) rfl fun s3 w_ rs3 us3 => ?_
    refine cs_ (v := .bool (rectEmpty q.rect)) (by kernel_rfl) rfl rfl rfl (fun w_ hs_ => impl_Rect_isEmpty w_ (hs_.at 0 rfl)) (vl (pk (b := true) rfl rfl (beq_iff_eq.2 h2) rfl) rfl (m_ rfl rfl ?_))
    by_cases h4 : rectEmpty q.rect = true
    · refine vg (fa rfl rfl rfl) rfl rfl h4 (vg (ldb (u := .slice Aq3 q.point.length cq3) 1 rfl rfl rfl rfl rfl rfl rfl) rfl rfl h4 (vg (ln rfl rfl rfl) rfl rfl h4 (vg (cm rfl rfl rfl rfl) rfl rfl h4 (vl (pk (b := true) rfl rfl h4 rfl) rfl (m_ rfl rfl ?_)))))
      by_cases h5 : ((q.point.length : Nat) : Int) = (0 : Int)
      · refine vg (fa rfl rfl rfl) rfl rfl (beq_iff_eq.2 h5) (vg (ldb (u := .int .i64 q.k) 1 rfl rfl rfl rfl rfl rfl rfl) rfl rfl (beq_iff_eq.2 h5) (vg (cm rfl rfl rfl rfl) rfl rfl (beq_iff_eq.2 h5) (vl (pk (b := true) rfl rfl (beq_iff_eq.2 h5) rfl) rfl (a_ rfl rfl (en (nx (rt (ret1 rfl rfl (fun w_ hs_ => ⟨?_, hs_.below⟩)))))))))
        exact rb (by grind [noQuery])
      · refine sg rfl rfl (beq_eq_false_iff_ne.2 h5) (sg rfl rfl (beq_eq_false_iff_ne.2 h5) (sg rfl rfl (beq_eq_false_iff_ne.2 h5) (vl (pk (b := false) rfl rfl (beq_eq_false_iff_ne.2 h5) rfl) rfl (a_ rfl rfl (en (nx (rt (ret1 rfl rfl (fun w_ hs_ => ⟨?_, hs_.below⟩)))))))))
        exact rb (by grind [noQuery])
    · refine sg rfl rfl (Bool.eq_false_iff.2 h4) (sg rfl rfl (Bool.eq_false_iff.2 h4) (sg rfl rfl (Bool.eq_false_iff.2 h4) (sg rfl rfl (Bool.eq_false_iff.2 h4) (vl (pk (b := false) rfl rfl (Bool.eq_false_iff.2 h4) rfl) rfl (m_ rfl rfl (sg rfl rfl rfl (sg rfl rfl rfl (sg rfl rfl rfl (vl (pk (b := false) rfl rfl rfl rfl) rfl (a_ rfl rfl (en (nx (rt (ret1 rfl rfl (fun w_ hs_ => ⟨?_, hs_.below⟩)))))))))))))))
      exact rb (by grind [noQuery])
  · refine sg rfl rfl (beq_eq_false_iff_ne.2 h2) (sg rfl rfl (beq_eq_false_iff_ne.2 h2) (sg rfl rfl (beq_eq_false_iff_ne.2 h2) (vl (pk (b := false) rfl rfl (beq_eq_false_iff_ne.2 h2) rfl) rfl (m_ rfl rfl (sg rfl rfl rfl (sg rfl rfl rfl (sg rfl rfl rfl (sg rfl rfl rfl (vl (pk (b := false) rfl rfl rfl rfl) rfl (m_ rfl rfl (sg rfl rfl rfl (sg rfl rfl rfl (sg rfl rfl rfl (vl (pk (b := false) rfl rfl rfl rfl) rfl (a_ rfl rfl (en (nx (rt (ret1 rfl rfl (fun w_ hs_ => ⟨?_, hs_.below⟩))))))))))))))))))))
    exact rb (by grind [noQuery])
/-! spec.l10NoQuery -/
set_option maxRecDepth 20000 in
set_option maxHeartbeats 2000000 in
theorem spec_l10NoQuery (w : World) {Aq1 : Option Addr} {cq1 : Nat} {Aq2 : Option Addr} {cq2 : Nat} {Aq3 : Option Addr} {cq3 : Nat} {q : Query} {sq_ : List Nat} {pq : Addr} (hq : (ptr kQueryS pq [.int .i64 q.kind, .slice Aq1 q.rect.low.length cq1, .slice Aq2 q.rect.high.length cq2, .slice Aq3 q.point.length cq3, .int .i64 q.k] q sq_).P w)  : Calls Tryz.prog 145 #[.pointer (some pq)] w (fun e_ w2_ => e_ = .returned (.bool (noQuery q)) ∧ Below w.heap.size w w2_) := by
  refine fnc (X := X 29 w) (args := [.pointer (some pq)]) (l := [(0, .pointer (some pq))]) (G := [ptr kQueryS pq [.int .i64 q.kind, .slice Aq1 q.rect.low.length cq1, .slice Aq2 q.rect.high.length cq2, .slice Aq3 q.point.length cq3, .int .i64 q.k] q sq_]) Tryz.func145 rfl rfl rfl ⟨rfl, trivial⟩ (s0p hq (s0n w)).1 ?_
  refine sq (rg (a_ rfl rfl (en (nx (sq (rg (m_ rfl rfl (vl (nc rfl rfl) rfl (vl (fa rfl rfl rfl) rfl (vl (ldp (u := .int .i64 q.kind) 0 rfl rfl rfl rfl rfl rfl rfl) rfl (vl (cm rfl rfl rfl rfl) rfl (m_ rfl rfl ?_))))))))))))
  by_cases h1 : q.kind = (0 : Int)
  · refine vg (mv rfl rfl) rfl rfl (beq_iff_eq.2 h1) (vg (nc rfl rfl) rfl rfl (beq_iff_eq.2 h1) (vg (fa rfl rfl rfl) rfl rfl (beq_iff_eq.2 h1) (gw rfl rfl (beq_iff_eq.2 h1) ?_)))
    refine gq 0 kQueryS_p1_2 rfl (cs' := [.slice Aq1 q.rect.low.length cq1, .slice Aq2 q.rect.high.length cq2]) rfl fun s2 w_ rs2 us2 => ?_
    refine cs_ (v := .bool (rectEmpty q.rect)) (by kernel_rfl) rfl rfl rfl (fun w_ hs_ => spec_l10NoRect w_ (hs_.at 0 rfl)) (vl (pk (b := true) rfl rfl (beq_iff_eq.2 h1) rfl) rfl (m_ rfl rfl ?_))
    by_cases h3 : rectEmpty q.rect = true
    · refine vg (mv rfl rfl) rfl rfl h3 (vg (nc rfl rfl) rfl rfl h3 (vg (fa rfl rfl rfl) rfl rfl h3 (vg (ldp (u := .slice Aq3 q.point.length cq3) 1 rfl rfl rfl rfl rfl rfl rfl) rfl rfl h3 (vg (ln rfl rfl rfl) rfl rfl h3 (vg (cm rfl rfl rfl rfl) rfl rfl h3 (vl (pk (b := true) rfl rfl h3 rfl) rfl (m_ rfl rfl ?_)))))))
      by_cases h4 : ((q.point.length : Nat) : Int) = (0 : Int)
      · refine vg (mv rfl rfl) rfl rfl (beq_iff_eq.2 h4) (vg (nc rfl rfl) rfl rfl (beq_iff_eq.2 h4) (vg (fa rfl rfl rfl) rfl rfl (beq_iff_eq.2 h4) (vg (ldp (u := .int .i64 q.k) 1 rfl rfl rfl rfl rfl rfl rfl) rfl rfl (beq_iff_eq.2 h4) (vg (cm rfl rfl rfl rfl) rfl rfl (beq_iff_eq.2 h4) (vl (pk (b := true) rfl rfl (beq_iff_eq.2 h4) rfl) rfl (a_ rfl rfl (en (nx (rt (ret1 rfl rfl (fun w_ hs_ => ⟨?_, hs_.below⟩)))))))))))
        exact rb (by grind [noQuery])
      · refine sg rfl rfl (beq_eq_false_iff_ne.2 h4) (sg rfl rfl (beq_eq_false_iff_ne.2 h4) (sg rfl rfl (beq_eq_false_iff_ne.2 h4) (sg rfl rfl (beq_eq_false_iff_ne.2 h4) (sg rfl rfl (beq_eq_false_iff_ne.2 h4) (vl (pk (b := false) rfl rfl (beq_eq_false_iff_ne.2 h4) rfl) rfl (a_ rfl rfl (en (nx (rt (ret1 rfl rfl (fun w_ hs_ => ⟨?_, hs_.below⟩)))))))))))
        exact rb (by grind [noQuery])
    · refine sg rfl rfl (Bool.eq_false_iff.2 h3) (sg rfl rfl (Bool.eq_false_iff.2 h3) (sg rfl rfl (Bool.eq_false_iff.2 h3) (sg rfl rfl (Bool.eq_false_iff.2 h3) (sg rfl rfl (Bool.eq_false_iff.2 h3) (sg rfl rfl (Bool.eq_false_iff.2 h3) (vl (pk (b := false) rfl rfl (Bool.eq_false_iff.2 h3) rfl) rfl (m_ rfl rfl (sg rfl rfl rfl (sg rfl rfl rfl (sg rfl rfl rfl (sg rfl rfl rfl (sg rfl rfl rfl (vl (pk (b := false) rfl rfl rfl rfl) rfl (a_ rfl rfl (en (nx (rt (ret1 rfl rfl (fun w_ hs_ => ⟨?_, hs_.below⟩)))))))))))))))))))
      exact rb (by grind [noQuery])
  · refine sg rfl rfl (beq_eq_false_iff_ne.2 h1) (sg rfl rfl (beq_eq_false_iff_ne.2 h1) (sg rfl rfl (beq_eq_false_iff_ne.2 h1) (sg rfl rfl (beq_eq_false_iff_ne.2 h1) (vl (pk (b := false) rfl rfl (beq_eq_false_iff_ne.2 h1) rfl) rfl (m_ rfl rfl (sg rfl rfl rfl (sg rfl rfl rfl (sg rfl rfl rfl (sg rfl rfl rfl (sg rfl rfl rfl (sg rfl rfl rfl (vl (pk (b := false) rfl rfl rfl rfl) rfl (m_ rfl rfl (sg rfl rfl rfl (sg rfl rfl rfl (sg rfl rfl rfl (sg rfl rfl rfl (sg rfl rfl rfl (vl (pk (b := false) rfl rfl rfl rfl) rfl (a_ rfl rfl (en (nx (rt (ret1 rfl rfl (fun w_ hs_ => ⟨?_, hs_.below⟩)))))))))))))))))))))))))
    exact rb (by grind [noQuery])
/-! (impl.Pair).isZero -/
set_option maxRecDepth 20000 in
set_option maxHeartbeats 2000000 in
theorem impl_Pair_isZero (w : World) {Ap1 : Option Addr} {cp1 : Nat} {Ap2 : Option Addr} {cp2 : Nat} {p : Pair} {sp_ : List Nat} (hp : kPairS.Rel w [.int .i64 p.id, .slice Ap1 p.rect.low.length cp1, .slice Ap2 p.rect.high.length cp2] p [] sp_)  : Calls Tryz.prog 152 #[.agg #[.int .i64 p.id, .slice Ap1 p.rect.low.length cp1, .slice Ap2 p.rect.high.length cp2]] w (fun e_ w2_ => e_ = .returned (.bool (noPair p)) ∧ Below w.heap.size w w2_) := by
  refine fnc (X := X 11 w) (args := [.agg #[.int .i64 p.id, .slice Ap1 p.rect.low.length cp1, .slice Ap2 p.rect.high.length cp2]]) (l := [(0, .agg #[.int .i64 p.id, .slice Ap1 p.rect.low.length cp1, .slice Ap2 p.rect.high.length cp2])]) (G := [dat kPairS [.int .i64 p.id, .slice Ap1 p.rect.low.length cp1, .slice Ap2 p.rect.high.length cp2] p ([]) sp_]) Tryz.func152 rfl rfl rfl ⟨rfl, trivial⟩ (s0d hp (s0n w)).1 ?_
  refine sq (rg (bx rfl rfl rfl rfl ?_))
  intro b1
  refine a_ rfl rfl (en (nx (sq (rg (vl (fa rfl rfl rfl) rfl (vl (ldb (u := .int .i64 p.id) 0 rfl rfl rfl rfl rfl rfl rfl) rfl (vl (cm rfl rfl rfl rfl) rfl (m_ rfl rfl ?_))))))))
  by_cases h2 : p.id = (0 : Int)
  · refine vg (fa rfl rfl rfl) rfl rfl (beq_iff_eq.2 h2) (vg (ldb 0 rfl rfl rfl rfl rfl rfl rfl) rfl rfl (beq_iff_eq.2 h2) (gw rfl rfl (beq_iff_eq.2 h2) ?_))
    refine gd 1 kPairS_p1_2 rfl (cs' := [.slice Ap1 p.rect.low.length cp1, .slice Ap2 p.rect.high.length cp2]) rfl fun s3 w_ rs3 us3 => ?_
    refine cs_ (v := .bool (rectEmpty p.rect)) (by kernel_rfl) rfl rfl rfl (fun w_ hs_ => impl_Rect_isEmpty w_ (hs_.at 0 rfl)) (vl (pk (b := true) rfl rfl (beq_iff_eq.2 h2) rfl) rfl (a_ rfl rfl (en (nx (rt (ret1 rfl rfl (fun w_ hs_ => ⟨?_, hs_.below⟩)))))))
    exact rb (by grind [noPair])
  · refine sg rfl rfl (beq_eq_false_iff_ne.2 h2) (sg rfl rfl (beq_eq_false_iff_ne.2 h2) (sg rfl rfl (beq_eq_false_iff_ne.2 h2) (vl (pk (b := false) rfl rfl (beq_eq_false_iff_ne.2 h2) rfl) rfl (a_ rfl rfl (en (nx (rt (ret1 rfl rfl (fun w_ hs_ => ⟨?_, hs_.below⟩)))))))))
    exact rb (by grind [noPair])
/-! spec.l10NoPair -/
set_option maxRecDepth 20000 in
set_option maxHeartbeats 2000000 in
theorem spec_l10NoPair (w : World) {Ap1 : Option Addr} {cp1 : Nat} {Ap2 : Option Addr} {cp2 : Nat} {p : Pair} {sp_ : List Nat} {pp : Addr} (hp : (ptr kPairS pp [.int .i64 p.id, .slice Ap1 p.rect.low.length cp1, .slice Ap2 p.rect.high.length cp2] p sp_).P w)  : Calls Tryz.prog 144 #[.pointer (some pp)] w (fun e_ w2_ => e_ = .returned (.bool (noPair p)) ∧ Below w.heap.size w w2_) := by
  refine fnc (X := X 14 w) (args := [.pointer (some pp)]) (l := [(0, .pointer (some pp))]) (G := [ptr kPairS pp [.int .i64 p.id, .slice Ap1 p.rect.low.length cp1, .slice Ap2 p.rect.high.length cp2] p sp_]) Tryz.func144 rfl rfl rfl ⟨rfl, trivial⟩ (s0p hp (s0n w)).1 ?_
  refine sq (rg (a_ rfl rfl (en (nx (sq (rg (m_ rfl rfl (vl (nc rfl rfl) rfl (vl (fa rfl rfl rfl) rfl (vl (ldp (u := .int .i64 p.id) 0 rfl rfl rfl rfl rfl rfl rfl) rfl (vl (cm rfl rfl rfl rfl) rfl (m_ rfl rfl ?_))))))))))))
  by_cases h1 : p.id = (0 : Int)
  · refine vg (mv rfl rfl) rfl rfl (beq_iff_eq.2 h1) (vg (nc rfl rfl) rfl rfl (beq_iff_eq.2 h1) (vg (fa rfl rfl rfl) rfl rfl (beq_iff_eq.2 h1) (gw rfl rfl (beq_iff_eq.2 h1) ?_)))
    refine gq 0 kPairS_p1_2 rfl (cs' := [.slice Ap1 p.rect.low.length cp1, .slice Ap2 p.rect.high.length cp2]) rfl fun s2 w_ rs2 us2 => ?_
    refine cs_ (v := .bool (rectEmpty p.rect)) (by kernel_rfl) rfl rfl rfl (fun w_ hs_ => spec_l10NoRect w_ (hs_.at 0 rfl)) (vl (pk (b := true) rfl rfl (beq_iff_eq.2 h1) rfl) rfl (a_ rfl rfl (en (nx (rt (ret1 rfl rfl (fun w_ hs_ => ⟨?_, hs_.below⟩)))))))
    exact rb (by grind [noPair])
  · refine sg rfl rfl (beq_eq_false_iff_ne.2 h1) (sg rfl rfl (beq_eq_false_iff_ne.2 h1) (sg rfl rfl (beq_eq_false_iff_ne.2 h1) (sg rfl rfl (beq_eq_false_iff_ne.2 h1) (vl (pk (b := false) rfl rfl (beq_eq_false_iff_ne.2 h1) rfl) rfl (a_ rfl rfl (en (nx (rt (ret1 rfl rfl (fun w_ hs_ => ⟨?_, hs_.below⟩))))))))))
    exact rb (by grind [noPair])
/-! (impl.Op).isKind -/
set_option maxRecDepth 20000 in
set_option maxHeartbeats 2000000 in
theorem impl_Op_isKind (w : World) {Ao2 : Option Addr} {co2 : Nat} {Ao3 : Option Addr} {co3 : Nat} {Ao5 : Option Addr} {co5 : Nat} {Ao6 : Option Addr} {co6 : Nat} {Ao7 : Option Addr} {co7 : Nat} {o : Op} {so_ : List Nat} (ho : kOpS.Rel w [.int .i64 o.kind, .int .i64 o.pair.id, .slice Ao2 o.pair.rect.low.length co2, .slice Ao3 o.pair.rect.high.length co3, .int .i64 o.query.kind, .slice Ao5 o.query.rect.low.length co5, .slice Ao6 o.query.rect.high.length co6, .slice Ao7 o.query.point.length co7, .int .i64 o.query.k] o [] so_)  : Calls Tryz.prog 132 #[.agg #[.int .i64 o.kind, .int .i64 o.pair.id, .slice Ao2 o.pair.rect.low.length co2, .slice Ao3 o.pair.rect.high.length co3, .int .i64 o.query.kind, .slice Ao5 o.query.rect.low.length co5, .slice Ao6 o.query.rect.high.length co6, .slice Ao7 o.query.point.length co7, .int .i64 o.query.k]] w (fun e_ w2_ => e_ = .returned (.bool (opKind o)) ∧ Below w.heap.size w w2_) := by
  refine fnc (X := X 27 w) (args := [.agg #[.int .i64 o.kind, .int .i64 o.pair.id, .slice Ao2 o.pair.rect.low.length co2, .slice Ao3 o.pair.rect.high.length co3, .int .i64 o.query.kind, .slice Ao5 o.query.rect.low.length co5, .slice Ao6 o.query.rect.high.length co6, .slice Ao7 o.query.point.length co7, .int .i64 o.query.k]]) (l := [(0, .agg #[.int .i64 o.kind, .int .i64 o.pair.id, .slice Ao2 o.pair.rect.low.length co2, .slice Ao3 o.pair.rect.high.length co3, .int .i64 o.query.kind, .slice Ao5 o.query.rect.low.length co5, .slice Ao6 o.query.rect.high.length co6, .slice Ao7 o.query.point.length co7, .int .i64 o.query.k])]) (G := [dat kOpS [.int .i64 o.kind, .int .i64 o.pair.id, .slice Ao2 o.pair.rect.low.length co2, .slice Ao3 o.pair.rect.high.length co3, .int .i64 o.query.kind, .slice Ao5 o.query.rect.low.length co5, .slice Ao6 o.query.rect.high.length co6, .slice Ao7 o.query.point.length co7, .int .i64 o.query.k] o ([]) so_]) Tryz.func132 rfl rfl rfl ⟨rfl, trivial⟩ (s0d ho (s0n w)).1 ?_
  refine sq (rg (bx rfl rfl rfl rfl ?_))
  intro b1
  refine a_ rfl rfl (en (nx (sq (sq (rg (vl (fa rfl rfl rfl) rfl (vl (ldb (u := .int .i64 o.kind) 0 rfl rfl rfl rfl rfl rfl rfl) rfl (en (nx (bk (sq (sq (rg (vl (cm rfl rfl rfl rfl) rfl (a_ rfl rfl (en (nx ?_)))))))))))))))))
  by_cases h2 : o.kind = (1 : Int)
  · refine ct rfl (beq_iff_eq.2 h2) (sk (nx (ct rfl (beq_iff_eq.2 h2) (sq (rg (vl (fa rfl rfl rfl) rfl (vl (ldb 0 rfl rfl rfl rfl rfl rfl rfl) rfl ?_)))))))
    refine gd 1 kOpS_p4_5 rfl (cs' := [.int .i64 o.query.kind, .slice Ao5 o.query.rect.low.length co5, .slice Ao6 o.query.rect.high.length co6, .slice Ao7 o.query.point.length co7, .int .i64 o.query.k]) rfl fun s3 w_ rs3 us3 => ?_
    refine cs_ (v := .bool (noQuery o.query)) (by kernel_rfl) rfl rfl rfl (fun w_ hs_ => impl_Query_isZero w_ (hs_.at 0 rfl)) (a_ rfl rfl (en (nx (rt (xrb (xr (ret1 rfl rfl (fun w_ hs_ => ⟨?_, hs_.below⟩))))))))
    exact rb (by grind [opKind])
  · refine cf rfl (beq_eq_false_iff_ne.2 h2) (rg (vl (cm rfl rfl rfl rfl) rfl (a_ rfl rfl (en (nx ?_)))))
    by_cases h4 : o.kind = (2 : Int)
    · refine ct rfl (beq_iff_eq.2 h4) (sq (rg (vl (fa rfl rfl rfl) rfl (vl (ldb 0 rfl rfl rfl rfl rfl rfl rfl) rfl ?_))))
      refine gd 1 kOpS_p4_5 rfl (cs' := [.int .i64 o.query.kind, .slice Ao5 o.query.rect.low.length co5, .slice Ao6 o.query.rect.high.length co6, .slice Ao7 o.query.point.length co7, .int .i64 o.query.k]) rfl fun s5 w_ rs5 us5 => ?_
      refine cs_ (v := .bool (noQuery o.query)) (by kernel_rfl) rfl rfl rfl (fun w_ hs_ => impl_Query_isZero w_ (hs_.at 0 rfl)) (a_ rfl rfl (en (nx (rt (xrb (xr (ret1 rfl rfl (fun w_ hs_ => ⟨?_, hs_.below⟩))))))))
      exact rb (by grind [opKind])
    · refine cf rfl (beq_eq_false_iff_ne.2 h4) (sq (rg (vl (cm rfl rfl rfl rfl) rfl (a_ rfl rfl (en (nx ?_))))))
      by_cases h6 : o.kind = (3 : Int)
      · refine ct rfl (beq_iff_eq.2 h6) (sq (rg (vl (fa rfl rfl rfl) rfl (vl (ldb 0 rfl rfl rfl rfl rfl rfl rfl) rfl ?_))))
        refine gd 1 kOpS_p4_5 rfl (cs' := [.int .i64 o.query.kind, .slice Ao5 o.query.rect.low.length co5, .slice Ao6 o.query.rect.high.length co6, .slice Ao7 o.query.point.length co7, .int .i64 o.query.k]) rfl fun s7 w_ rs7 us7 => ?_
        refine cs_ (v := .bool (noQuery o.query)) (by kernel_rfl) rfl rfl rfl (fun w_ hs_ => impl_Query_isZero w_ (hs_.at 0 rfl)) (m_ rfl rfl ?_)
        by_cases h8 : noQuery o.query = true
        · refine vg (fa rfl rfl rfl) rfl rfl h8 (vg (fa rfl rfl rfl) rfl rfl h8 (vg (ldb 1 rfl rfl rfl rfl rfl rfl rfl) rfl rfl h8 (gw rfl rfl h8 ?_)))
          refine gd 2 kOpS_p2_2 rfl (cs' := [.slice Ao2 o.pair.rect.low.length co2, .slice Ao3 o.pair.rect.high.length co3]) rfl fun s9 w_ rs9 us9 => ?_
          refine cs_ (v := .bool (rectEmpty o.pair.rect)) (by kernel_rfl) rfl rfl rfl (fun w_ hs_ => impl_Rect_isEmpty w_ (hs_.at 0 rfl)) (vl (pk (b := true) rfl rfl h8 rfl) rfl (a_ rfl rfl (en (nx (rt (xrb (xr (ret1 rfl rfl (fun w_ hs_ => ⟨?_, hs_.below⟩)))))))))
          exact rb (by grind [opKind])
        · refine sg rfl rfl (Bool.eq_false_iff.2 h8) (sg rfl rfl (Bool.eq_false_iff.2 h8) (sg rfl rfl (Bool.eq_false_iff.2 h8) (sg rfl rfl (Bool.eq_false_iff.2 h8) (vl (pk (b := false) rfl rfl (Bool.eq_false_iff.2 h8) rfl) rfl (a_ rfl rfl (en (nx (rt (xrb (xr (ret1 rfl rfl (fun w_ hs_ => ⟨?_, hs_.below⟩))))))))))))
          exact rb (by grind [opKind])
      · refine cf rfl (beq_eq_false_iff_ne.2 h6) (sq (rg (vl (cm rfl rfl rfl rfl) rfl (a_ rfl rfl (en (nx ?_))))))
        by_cases h10 : o.kind = (4 : Int)
        · refine ct rfl (beq_iff_eq.2 h10) (sq (rg (vl (fa rfl rfl rfl) rfl (vl (ldb 0 rfl rfl rfl rfl rfl rfl rfl) rfl ?_))))
          refine gd 1 kOpS_p1_3 rfl (cs' := [.int .i64 o.pair.id, .slice Ao2 o.pair.rect.low.length co2, .slice Ao3 o.pair.rect.high.length co3]) rfl fun s11 w_ rs11 us11 => ?_
          refine cs_ (v := .bool (noPair o.pair)) (by kernel_rfl) rfl rfl rfl (fun w_ hs_ => impl_Pair_isZero w_ (hs_.at 0 rfl)) (a_ rfl rfl (en (nx (rt (xrb (xr (ret1 rfl rfl (fun w_ hs_ => ⟨?_, hs_.below⟩))))))))
          exact rb (by grind [opKind])
        · refine cf rfl (beq_eq_false_iff_ne.2 h10) (sk (xn (nx (sq (rg (a_ rfl rfl (en (nx (rt (ret1 rfl rfl (fun w_ hs_ => ⟨?_, hs_.below⟩)))))))))))
          exact rb (by grind [opKind])
/-! impl.OpFault -/
set_option maxRecDepth 20000 in
set_option maxHeartbeats 2000000 in
theorem impl_OpFault (w : World) (dims : Int) {Ao2 : Option Addr} {co2 : Nat} {Ao3 : Option Addr} {co3 : Nat} {Ao5 : Option Addr} {co5 : Nat} {Ao6 : Option Addr} {co6 : Nat} {Ao7 : Option Addr} {co7 : Nat} {o : Op} {so_ : List Nat} (ho : kOpS.Rel w [.int .i64 o.kind, .int .i64 o.pair.id, .slice Ao2 o.pair.rect.low.length co2, .slice Ao3 o.pair.rect.high.length co3, .int .i64 o.query.kind, .slice Ao5 o.query.rect.low.length co5, .slice Ao6 o.query.rect.high.length co6, .slice Ao7 o.query.point.length co7, .int .i64 o.query.k] o [] so_)  : Calls Tryz.prog 108 #[.agg #[.int .i64 o.kind, .int .i64 o.pair.id, .slice Ao2 o.pair.rect.low.length co2, .slice Ao3 o.pair.rect.high.length co3, .int .i64 o.query.kind, .slice Ao5 o.query.rect.low.length co5, .slice Ao6 o.query.rect.high.length co6, .slice Ao7 o.query.point.length co7, .int .i64 o.query.k], .int .i64 dims] w (fun e_ w2_ => e_ = .returned (.int .i64 (opFault o dims)) ∧ Below w.heap.size w w2_) := by
  refine fnc (X := X 36 w) (args := [.agg #[.int .i64 o.kind, .int .i64 o.pair.id, .slice Ao2 o.pair.rect.low.length co2, .slice Ao3 o.pair.rect.high.length co3, .int .i64 o.query.kind, .slice Ao5 o.query.rect.low.length co5, .slice Ao6 o.query.rect.high.length co6, .slice Ao7 o.query.point.length co7, .int .i64 o.query.k], .int .i64 dims]) (l := [(0, .agg #[.int .i64 o.kind, .int .i64 o.pair.id, .slice Ao2 o.pair.rect.low.length co2, .slice Ao3 o.pair.rect.high.length co3, .int .i64 o.query.kind, .slice Ao5 o.query.rect.low.length co5, .slice Ao6 o.query.rect.high.length co6, .slice Ao7 o.query.point.length co7, .int .i64 o.query.k]), (1, .int .i64 dims)]) (G := [dat kOpS [.int .i64 o.kind, .int .i64 o.pair.id, .slice Ao2 o.pair.rect.low.length co2, .slice Ao3 o.pair.rect.high.length co3, .int .i64 o.query.kind, .slice Ao5 o.query.rect.low.length co5, .slice Ao6 o.query.rect.high.length co6, .slice Ao7 o.query.point.length co7, .int .i64 o.query.k] o ([]) so_]) Tryz.func108 rfl rfl rfl ⟨rfl, rfl, trivial⟩ (s0d ho (s0n w)).1 ?_
  refine sq (rg (bx rfl rfl rfl rfl ?_))
  intro b1
  refine a_ rfl rfl (en (nx (sq (bk (sq (rg (m_ rfl rfl (cs_ (v := .bool (isDims dims)) (by kernel_rfl) rfl rfl rfl (fun w_ hs_ => impl_isDims w_ _) (vl (nt rfl rfl) rfl (a_ rfl rfl (en (nx ?_))))))))))))
  by_cases h2 : isDims dims = true
  · refine cf rfl (not_f h2) (sq (rg (vl (ldb 0 rfl rfl rfl rfl rfl rfl rfl) rfl (cs_ (v := .bool (opKind o)) (by kernel_rfl) rfl rfl rfl (fun w_ hs_ => impl_Op_isKind w_ (hs_.at 1 rfl)) (vl (nt rfl rfl) rfl (a_ rfl rfl (en (nx ?_))))))))
    by_cases h3 : opKind o = true
    · refine cf rfl (not_f h3) (sq (rg (vl (fa rfl rfl rfl) rfl (vl (ldb (u := .int .i64 o.kind) 0 rfl rfl rfl rfl rfl rfl rfl) rfl (vl (cm rfl rfl rfl rfl) rfl (a_ rfl rfl (en (nx ?_))))))))
      by_cases h4 : o.kind = (4 : Int)
      · refine ct rfl (beq_iff_eq.2 h4) (sq (rg (vl (fa rfl rfl rfl) rfl (vl (ldb 0 rfl rfl rfl rfl rfl rfl rfl) rfl (m_ rfl rfl ?_)))))
        refine gd 1 kOpS_p4_5 rfl (cs' := [.int .i64 o.query.kind, .slice Ao5 o.query.rect.low.length co5, .slice Ao6 o.query.rect.high.length co6, .slice Ao7 o.query.point.length co7, .int .i64 o.query.k]) rfl fun s5 w_ rs5 us5 => ?_
        refine cs_ (v := .int .i64 (queryFault o.query dims)) (by kernel_rfl) rfl rfl rfl (fun w_ hs_ => impl_QueryFault w_ _ (hs_.at 0 rfl)) (a_ rfl rfl (en (nx (rt (xrb (xr (ret1 rfl rfl (fun w_ hs_ => ⟨?_, hs_.below⟩))))))))
        exact ri (by grind [opFault])
      · refine cf rfl (beq_eq_false_iff_ne.2 h4) (sq (rg (vl (fa rfl rfl rfl) rfl (vl (fa rfl rfl rfl) rfl (vl (ldb (u := .int .i64 o.pair.id) 0 rfl rfl rfl rfl rfl rfl rfl) rfl (cs_ (v := .bool (within o.pair.id 0 999)) (by kernel_rfl) rfl rfl rfl (fun w_ hs_ => impl_isId w_ _) (vl (nt rfl rfl) rfl (a_ rfl rfl (en (nx ?_))))))))))
        by_cases h6 : within o.pair.id 0 999 = true
        · refine cf rfl (not_f h6) (sq (rg (vl (fa rfl rfl rfl) rfl (vl (ldb (u := .int .i64 o.kind) 0 rfl rfl rfl rfl rfl rfl rfl) rfl (vl (cm rfl rfl rfl rfl) rfl (a_ rfl rfl (en (nx ?_))))))))
          by_cases h7 : o.kind = (3 : Int)
          · refine ct rfl (beq_iff_eq.2 h7) (sq (rg (a_ rfl rfl (en (nx (rt (xrb (xr (ret1 rfl rfl (fun w_ hs_ => ⟨?_, hs_.below⟩))))))))))
            exact ri (by grind [opFault])
          · refine cf rfl (beq_eq_false_iff_ne.2 h7) (sk (xn (nx (sq (rg (vl (fa rfl rfl rfl) rfl (vl (fa rfl rfl rfl) rfl (vl (ldb 0 rfl rfl rfl rfl rfl rfl rfl) rfl (m_ rfl rfl ?_)))))))))
            refine gd 1 kOpS_p2_2 rfl (cs' := [.slice Ao2 o.pair.rect.low.length co2, .slice Ao3 o.pair.rect.high.length co3]) rfl fun s8 w_ rs8 us8 => ?_
            refine cs_ (v := .int .i64 (rectFault o.pair.rect dims)) (by kernel_rfl) rfl rfl rfl (fun w_ hs_ => impl_RectFault w_ _ (hs_.at 0 rfl)) (a_ rfl rfl (en (nx (rt (ret1 rfl rfl (fun w_ hs_ => ⟨?_, hs_.below⟩))))))
            exact ri (by grind [opFault])
        · refine ct rfl (not_t (Bool.eq_false_iff.2 h6)) (sq (rg (a_ rfl rfl (en (nx (rt (xrb (xr (ret1 rfl rfl (fun w_ hs_ => ⟨?_, hs_.below⟩))))))))))
          exact ri (by grind [opFault])
    · refine ct rfl (not_t (Bool.eq_false_iff.2 h3)) (sq (rg (a_ rfl rfl (en (nx (rt (xrb (xr (ret1 rfl rfl (fun w_ hs_ => ⟨?_, hs_.below⟩))))))))))
      exact ri (by grind [opFault])
  · refine ct rfl (not_t (Bool.eq_false_iff.2 h2)) (sq (rg (a_ rfl rfl (en (nx (rt (xrb (xr (ret1 rfl rfl (fun w_ hs_ => ⟨?_, hs_.below⟩))))))))))
    exact ri (by grind [opFault])
/-! spec.OpFault -/
set_option maxRecDepth 20000 in
set_option maxHeartbeats 2000000 in
theorem spec_OpFault (w : World) (dims : Int) {Ao2 : Option Addr} {co2 : Nat} {Ao3 : Option Addr} {co3 : Nat} {Ao5 : Option Addr} {co5 : Nat} {Ao6 : Option Addr} {co6 : Nat} {Ao7 : Option Addr} {co7 : Nat} {o : Op} {so_ : List Nat} (ho : kOpS.Rel w [.int .i64 o.kind, .int .i64 o.pair.id, .slice Ao2 o.pair.rect.low.length co2, .slice Ao3 o.pair.rect.high.length co3, .int .i64 o.query.kind, .slice Ao5 o.query.rect.low.length co5, .slice Ao6 o.query.rect.high.length co6, .slice Ao7 o.query.point.length co7, .int .i64 o.query.k] o [] so_)  : Calls Tryz.prog 122 #[.agg #[.int .i64 o.kind, .int .i64 o.pair.id, .slice Ao2 o.pair.rect.low.length co2, .slice Ao3 o.pair.rect.high.length co3, .int .i64 o.query.kind, .slice Ao5 o.query.rect.low.length co5, .slice Ao6 o.query.rect.high.length co6, .slice Ao7 o.query.point.length co7, .int .i64 o.query.k], .int .i64 dims] w (fun e_ w2_ => e_ = .returned (.int .i64 (opFault o dims)) ∧ Below w.heap.size w w2_) := by
  refine fnc (X := X 58 w) (args := [.agg #[.int .i64 o.kind, .int .i64 o.pair.id, .slice Ao2 o.pair.rect.low.length co2, .slice Ao3 o.pair.rect.high.length co3, .int .i64 o.query.kind, .slice Ao5 o.query.rect.low.length co5, .slice Ao6 o.query.rect.high.length co6, .slice Ao7 o.query.point.length co7, .int .i64 o.query.k], .int .i64 dims]) (l := [(0, .agg #[.int .i64 o.kind, .int .i64 o.pair.id, .slice Ao2 o.pair.rect.low.length co2, .slice Ao3 o.pair.rect.high.length co3, .int .i64 o.query.kind, .slice Ao5 o.query.rect.low.length co5, .slice Ao6 o.query.rect.high.length co6, .slice Ao7 o.query.point.length co7, .int .i64 o.query.k]), (1, .int .i64 dims)]) (G := [dat kOpS [.int .i64 o.kind, .int .i64 o.pair.id, .slice Ao2 o.pair.rect.low.length co2, .slice Ao3 o.pair.rect.high.length co3, .int .i64 o.query.kind, .slice Ao5 o.query.rect.low.length co5, .slice Ao6 o.query.rect.high.length co6, .slice Ao7 o.query.point.length co7, .int .i64 o.query.k] o ([]) so_]) Tryz.func122 rfl rfl rfl ⟨rfl, rfl, trivial⟩ (s0d ho (s0n w)).1 ?_
  refine sq (rg (bx rfl rfl rfl rfl ?_))
  intro b1
  refine a_ rfl rfl (en (nx (sq (sq (rg (m_ rfl rfl (cs_ (v := .bool (within dims 2 3)) (by kernel_rfl) rfl rfl rfl (fun w_ hs_ => spec_l1In w_ _ _ _) (vl (nt rfl rfl) rfl (en (nx ?_))))))))))
  by_cases h2 : within dims 2 3 = true
  · refine cf rfl (not_f h2) (sk (nx (sq (rg (vl (fa rfl rfl rfl) rfl (vl (ldb (u := .int .i64 o.kind) 0 rfl rfl rfl rfl rfl rfl rfl) rfl (cs_ (v := .bool (within o.kind 1 4)) (by kernel_rfl) rfl rfl rfl (fun w_ hs_ => spec_l1In w_ _ _ _) (a_ rfl rfl (en (nx (sq (sq (rg (vl (fa rfl rfl rfl) rfl (vl (ldb (u := .int .i64 o.kind) 0 rfl rfl rfl rfl rfl rfl rfl) rfl (vl (cm rfl rfl rfl rfl) rfl (en (nx ?_))))))))))))))))))
    by_cases h3 : o.kind = (4 : Int)
    · refine ct rfl (beq_iff_eq.2 h3) (rg (vl (fa rfl rfl rfl) rfl ?_))
      refine gd 1 kOpS_p1_3 rfl (cs' := [.int .i64 o.pair.id, .slice Ao2 o.pair.rect.low.length co2, .slice Ao3 o.pair.rect.high.length co3]) rfl fun s4 w_ rs4 us4 => ?_
      refine cs_ (v := .bool (noPair o.pair)) (by kernel_rfl) rfl rfl rfl (fun w_ hs_ => spec_l10NoPair w_ (ptr_blk (hs_.at 1 rfl) (hs_.at 0 rfl) rfl)) (a_ rfl rfl (en (nx (sq (bk (sq (rg (m_ rfl rfl (vl (nt rfl rfl) rfl (a_ rfl rfl (en (nx ?_))))))))))))
      by_cases h5 : noPair o.pair = true
      · refine cf rfl (not_f h5) (sq (rg (vl (fa rfl rfl rfl) rfl (vl (ldb (u := .int .i64 o.kind) 1 rfl rfl rfl rfl rfl rfl rfl) rfl (vl (cm rfl rfl rfl rfl) rfl (a_ rfl rfl (en (nx (ct rfl (beq_iff_eq.2 h3) (sq (rg (vl (fa rfl rfl rfl) rfl (vl (ldb 1 rfl rfl rfl rfl rfl rfl rfl) rfl (m_ rfl rfl ?_))))))))))))))
        refine gd 2 kOpS_p4_5 rfl (cs' := [.int .i64 o.query.kind, .slice Ao5 o.query.rect.low.length co5, .slice Ao6 o.query.rect.high.length co6, .slice Ao7 o.query.point.length co7, .int .i64 o.query.k]) rfl fun s6 w_ rs6 us6 => ?_
        refine cs_ (v := .int .i64 (queryFault o.query dims)) (by kernel_rfl) rfl rfl rfl (fun w_ hs_ => spec_QueryFault w_ _ (hs_.at 0 rfl)) (a_ rfl rfl (en (nx (rt (xrb (xr (ret1 rfl rfl (fun w_ hs_ => ⟨?_, hs_.below⟩))))))))
        exact ri (by grind [opFault, opKind, isDims, within])
      · refine ct rfl (not_t (Bool.eq_false_iff.2 h5)) (sq (rg (a_ rfl rfl (en (nx (rt (xrb (xr (ret1 rfl rfl (fun w_ hs_ => ⟨?_, hs_.below⟩))))))))))
        exact ri (by grind [opFault, opKind, isDims, within])
    · refine cf rfl (beq_eq_false_iff_ne.2 h3) (rg (m_ rfl rfl (m_ rfl rfl ?_)))
      by_cases h7 : within o.kind 1 4 = true
      · refine vg (fa rfl rfl rfl) rfl rfl h7 (gw rfl rfl h7 ?_)
        refine gd 1 kOpS_p4_5 rfl (cs' := [.int .i64 o.query.kind, .slice Ao5 o.query.rect.low.length co5, .slice Ao6 o.query.rect.high.length co6, .slice Ao7 o.query.point.length co7, .int .i64 o.query.k]) rfl fun s8 w_ rs8 us8 => ?_
        refine cs_ (v := .bool (noQuery o.query)) (by kernel_rfl) rfl rfl rfl (fun w_ hs_ => spec_l10NoQuery w_ (ptr_blk (hs_.at 1 rfl) (hs_.at 0 rfl) rfl)) (vl (pk (b := true) rfl rfl h7 rfl) rfl (m_ rfl rfl ?_))
        by_cases h9 : noQuery o.query = true
        · refine vg (fa rfl rfl rfl) rfl rfl h9 (vg (ldb (u := .int .i64 o.kind) 1 rfl rfl rfl rfl rfl rfl rfl) rfl rfl h9 (vg (cm rfl rfl rfl rfl) rfl rfl h9 (vg (mv rfl rfl) rfl rfl h9 ?_)))
          by_cases h10 : o.kind = (3 : Int)
          · refine vg (fa rfl rfl rfl) rfl rfl (bne_eq_false_iff_eq.2 h10) (vg (fa rfl rfl rfl) rfl rfl (bne_eq_false_iff_eq.2 h10) (gw rfl rfl (bne_eq_false_iff_eq.2 h10) ?_))
            refine gd 2 kOpS_p2_2 rfl (cs' := [.slice Ao2 o.pair.rect.low.length co2, .slice Ao3 o.pair.rect.high.length co3]) rfl fun s11 w_ rs11 us11 => ?_
            refine cs_ (v := .bool (rectEmpty o.pair.rect)) (by kernel_rfl) rfl rfl rfl (fun w_ hs_ => spec_l10NoRect w_ (ptr_blk (hs_.at 2 rfl) (hs_.at 0 rfl) rfl)) (vg (pk (b := false) rfl rfl (bne_eq_false_iff_eq.2 h10) rfl) rfl rfl h9 (vl (pk (b := true) rfl rfl h9 rfl) rfl (a_ rfl rfl (en (nx (sq (bk (sq (rg (m_ rfl rfl (vl (nt rfl rfl) rfl (a_ rfl rfl (en (nx ?_))))))))))))))
            by_cases h12 : rectEmpty o.pair.rect = true
            · refine cf rfl (not_f h12) (sq (rg (vl (fa rfl rfl rfl) rfl (vl (ldb (u := .int .i64 o.kind) 2 rfl rfl rfl rfl rfl rfl rfl) rfl (vl (cm rfl rfl rfl rfl) rfl (a_ rfl rfl (en (nx (cf rfl (beq_eq_false_iff_ne.2 h3) (sq (rg (vl (fa rfl rfl rfl) rfl (vl (fa rfl rfl rfl) rfl (vl (ldb (u := .int .i64 o.pair.id) 2 rfl rfl rfl rfl rfl rfl rfl) rfl (cs_ (v := .bool (within o.pair.id 0 999)) (by kernel_rfl) rfl rfl rfl (fun w_ hs_ => spec_l1In w_ _ _ _) (vl (nt rfl rfl) rfl (a_ rfl rfl (en (nx ?_)))))))))))))))))))
              by_cases h13 : within o.pair.id 0 999 = true
              · refine cf rfl (not_f h13) (sq (rg (vl (fa rfl rfl rfl) rfl (vl (ldb (u := .int .i64 o.kind) 2 rfl rfl rfl rfl rfl rfl rfl) rfl (vl (cm rfl rfl rfl rfl) rfl (a_ rfl rfl (en (nx (ct rfl (beq_iff_eq.2 h10) (sq (rg (a_ rfl rfl (en (nx (rt (xrb (xr (ret1 rfl rfl (fun w_ hs_ => ⟨?_, hs_.below⟩)))))))))))))))))))
                exact ri (by grind [opFault, opKind, isDims, within])
              · refine ct rfl (not_t (Bool.eq_false_iff.2 h13)) (sq (rg (a_ rfl rfl (en (nx (rt (xrb (xr (ret1 rfl rfl (fun w_ hs_ => ⟨?_, hs_.below⟩))))))))))
                exact ri (by grind [opFault, opKind, isDims, within])
            · refine ct rfl (not_t (Bool.eq_false_iff.2 h12)) (sq (rg (a_ rfl rfl (en (nx (rt (xrb (xr (ret1 rfl rfl (fun w_ hs_ => ⟨?_, hs_.below⟩))))))))))
              exact ri (by grind [opFault, opKind, isDims, within])
          · refine sg rfl rfl (bne_iff_ne.2 h10) (sg rfl rfl (bne_iff_ne.2 h10) (sg rfl rfl (bne_iff_ne.2 h10) (vg (pk (b := true) rfl rfl (bne_iff_ne.2 h10) rfl) rfl rfl h9 (vl (pk (b := true) rfl rfl h9 rfl) rfl (a_ rfl rfl (en (nx (sq (bk (sq (rg (m_ rfl rfl (vl (nt rfl rfl) rfl (a_ rfl rfl (en (nx (cf rfl rfl (sq (rg (vl (fa rfl rfl rfl) rfl (vl (ldb (u := .int .i64 o.kind) 1 rfl rfl rfl rfl rfl rfl rfl) rfl (vl (cm rfl rfl rfl rfl) rfl (a_ rfl rfl (en (nx (cf rfl (beq_eq_false_iff_ne.2 h3) (sq (rg (vl (fa rfl rfl rfl) rfl (vl (fa rfl rfl rfl) rfl (vl (ldb (u := .int .i64 o.pair.id) 1 rfl rfl rfl rfl rfl rfl rfl) rfl (cs_ (v := .bool (within o.pair.id 0 999)) (by kernel_rfl) rfl rfl rfl (fun w_ hs_ => spec_l1In w_ _ _ _) (vl (nt rfl rfl) rfl (a_ rfl rfl (en (nx ?_))))))))))))))))))))))))))))))))))))
            by_cases h14 : within o.pair.id 0 999 = true
            · refine cf rfl (not_f h14) (sq (rg (vl (fa rfl rfl rfl) rfl (vl (ldb (u := .int .i64 o.kind) 1 rfl rfl rfl rfl rfl rfl rfl) rfl (vl (cm rfl rfl rfl rfl) rfl (a_ rfl rfl (en (nx (cf rfl (beq_eq_false_iff_ne.2 h10) (sk (xn (nx (sq (rg (vl (fa rfl rfl rfl) rfl (vl (fa rfl rfl rfl) rfl (vl (ldb 1 rfl rfl rfl rfl rfl rfl rfl) rfl (m_ rfl rfl ?_))))))))))))))))))
              refine gd 2 kOpS_p2_2 rfl (cs' := [.slice Ao2 o.pair.rect.low.length co2, .slice Ao3 o.pair.rect.high.length co3]) rfl fun s15 w_ rs15 us15 => ?_
              refine cs_ (v := .int .i64 (rectFault o.pair.rect dims)) (by kernel_rfl) rfl rfl rfl (fun w_ hs_ => spec_RectFault w_ _ (hs_.at 0 rfl)) (a_ rfl rfl (en (nx (rt (ret1 rfl rfl (fun w_ hs_ => ⟨?_, hs_.below⟩))))))
              exact ri (by grind [opFault, opKind, isDims, within])
            · refine ct rfl (not_t (Bool.eq_false_iff.2 h14)) (sq (rg (a_ rfl rfl (en (nx (rt (xrb (xr (ret1 rfl rfl (fun w_ hs_ => ⟨?_, hs_.below⟩))))))))))
              exact ri (by grind [opFault, opKind, isDims, within])
        · refine sg rfl rfl (Bool.eq_false_iff.2 h9) (sg rfl rfl (Bool.eq_false_iff.2 h9) (sg rfl rfl (Bool.eq_false_iff.2 h9) (sg rfl rfl (Bool.eq_false_iff.2 h9) (su rfl rfl (su rfl rfl (su rfl rfl (sg rfl rfl (Bool.eq_false_iff.2 h9) (vl (pk (b := false) rfl rfl (Bool.eq_false_iff.2 h9) rfl) rfl (a_ rfl rfl (en (nx (sq (bk (sq (rg (m_ rfl rfl (vl (nt rfl rfl) rfl (a_ rfl rfl (en (nx (ct rfl rfl (sq (rg (a_ rfl rfl (en (nx (rt (xrb (xr (ret1 rfl rfl (fun w_ hs_ => ⟨?_, hs_.below⟩)))))))))))))))))))))))))))))))
          exact ri (by grind [opFault, opKind, isDims, within])
      · refine sg rfl rfl (Bool.eq_false_iff.2 h7) (sg rfl rfl (Bool.eq_false_iff.2 h7) (vl (pk (b := false) rfl rfl (Bool.eq_false_iff.2 h7) rfl) rfl (m_ rfl rfl (sg rfl rfl rfl (sg rfl rfl rfl (sg rfl rfl rfl (sg rfl rfl rfl (su rfl rfl (su rfl rfl (su rfl rfl (sg rfl rfl rfl (vl (pk (b := false) rfl rfl rfl rfl) rfl (a_ rfl rfl (en (nx (sq (bk (sq (rg (m_ rfl rfl (vl (nt rfl rfl) rfl (a_ rfl rfl (en (nx (ct rfl rfl (sq (rg (a_ rfl rfl (en (nx (rt (xrb (xr (ret1 rfl rfl (fun w_ hs_ => ⟨?_, hs_.below⟩)))))))))))))))))))))))))))))))))))
        exact ri (by grind [opFault, opKind, isDims, within])
  · refine ct rfl (not_t (Bool.eq_false_iff.2 h2)) (sq (rg (a_ rfl rfl (en (nx (rt (xr (ret1 rfl rfl (fun w_ hs_ => ⟨?_, hs_.below⟩)))))))))
    exact ri (by grind [opFault, opKind, isDims, within])
/-! impl.noteFault -/
set_option maxRecDepth 20000 in
set_option maxHeartbeats 2000000 in
theorem impl_noteFault (w : World) (dims : Int) {An5 : Option Addr} {cn5 : Nat} {An6 : Option Addr} {cn6 : Nat} {An8 : Option Addr} {cn8 : Nat} {An9 : Option Addr} {cn9 : Nat} {An10 : Option Addr} {cn10 : Nat} {An13 : Option Addr} {cn13 : Nat} {n : Note} {sn_ : List Nat} (hn : kNoteS.Rel w [.int .i64 n.at_, .int .i64 n.kind, .int .i64 n.client, .int .i64 n.op.kind, .int .i64 n.op.pair.id, .slice An5 n.op.pair.rect.low.length cn5, .slice An6 n.op.pair.rect.high.length cn6, .int .i64 n.op.query.kind, .slice An8 n.op.query.rect.low.length cn8, .slice An9 n.op.query.rect.high.length cn9, .slice An10 n.op.query.point.length cn10, .int .i64 n.op.query.k, .int .i64 n.answer.code, .slice An13 n.answer.pairs.length cn13] n [] sn_)  : Calls Tryz.prog 71 #[.agg #[.int .i64 n.at_, .int .i64 n.kind, .int .i64 n.client, .int .i64 n.op.kind, .int .i64 n.op.pair.id, .slice An5 n.op.pair.rect.low.length cn5, .slice An6 n.op.pair.rect.high.length cn6, .int .i64 n.op.query.kind, .slice An8 n.op.query.rect.low.length cn8, .slice An9 n.op.query.rect.high.length cn9, .slice An10 n.op.query.point.length cn10, .int .i64 n.op.query.k, .int .i64 n.answer.code, .slice An13 n.answer.pairs.length cn13], .int .i64 dims] w (fun e_ w2_ => e_ = .returned (.int .i64 (noteFault n dims)) ∧ Below w.heap.size w w2_) := by
  refine fnc (X := X 59 w) (args := [.agg #[.int .i64 n.at_, .int .i64 n.kind, .int .i64 n.client, .int .i64 n.op.kind, .int .i64 n.op.pair.id, .slice An5 n.op.pair.rect.low.length cn5, .slice An6 n.op.pair.rect.high.length cn6, .int .i64 n.op.query.kind, .slice An8 n.op.query.rect.low.length cn8, .slice An9 n.op.query.rect.high.length cn9, .slice An10 n.op.query.point.length cn10, .int .i64 n.op.query.k, .int .i64 n.answer.code, .slice An13 n.answer.pairs.length cn13], .int .i64 dims]) (l := [(0, .agg #[.int .i64 n.at_, .int .i64 n.kind, .int .i64 n.client, .int .i64 n.op.kind, .int .i64 n.op.pair.id, .slice An5 n.op.pair.rect.low.length cn5, .slice An6 n.op.pair.rect.high.length cn6, .int .i64 n.op.query.kind, .slice An8 n.op.query.rect.low.length cn8, .slice An9 n.op.query.rect.high.length cn9, .slice An10 n.op.query.point.length cn10, .int .i64 n.op.query.k, .int .i64 n.answer.code, .slice An13 n.answer.pairs.length cn13]), (1, .int .i64 dims)]) (G := [dat kNoteS [.int .i64 n.at_, .int .i64 n.kind, .int .i64 n.client, .int .i64 n.op.kind, .int .i64 n.op.pair.id, .slice An5 n.op.pair.rect.low.length cn5, .slice An6 n.op.pair.rect.high.length cn6, .int .i64 n.op.query.kind, .slice An8 n.op.query.rect.low.length cn8, .slice An9 n.op.query.rect.high.length cn9, .slice An10 n.op.query.point.length cn10, .int .i64 n.op.query.k, .int .i64 n.answer.code, .slice An13 n.answer.pairs.length cn13] n ([]) sn_]) Tryz.func71 rfl rfl rfl ⟨rfl, rfl, trivial⟩ (s0d hn (s0n w)).1 ?_
  refine sq (rg (bx rfl rfl rfl rfl ?_))
  intro b1
  refine a_ rfl rfl (en (nx (sq (bk (sq (rg (vl (fa rfl rfl rfl) rfl (vl (ldb (u := .int .i64 n.kind) 0 rfl rfl rfl rfl rfl rfl rfl) rfl (cs_ (v := .bool (within n.kind 1 3)) (by kernel_rfl) rfl rfl rfl (fun w_ hs_ => impl_within w_ _ _ _) (vl (nt rfl rfl) rfl (a_ rfl rfl (en (nx ?_)))))))))))))
  by_cases h2 : within n.kind 1 3 = true
  · refine cf rfl (not_f h2) (sq (rg (vl (fa rfl rfl rfl) rfl (vl (ldb (u := .int .i64 n.at_) 0 rfl rfl rfl rfl rfl rfl rfl) rfl (cs_ (v := .bool (within n.at_ 0 1000000)) (by kernel_rfl) rfl rfl rfl (fun w_ hs_ => impl_within w_ _ _ _) (vl (nt rfl rfl) rfl (m_ rfl rfl ?_)))))))
    by_cases h3 : within n.at_ 0 1000000 = true
    · refine vg (fa rfl rfl rfl) rfl rfl (not_f h3) (vg (ldb (u := .int .i64 n.client) 0 rfl rfl rfl rfl rfl rfl rfl) rfl rfl (not_f h3) (gw rfl rfl (not_f h3) (cs_ (v := .bool (within n.client 0 3)) (by kernel_rfl) rfl rfl rfl (fun w_ hs_ => impl_isClient w_ _) (vg (nt rfl rfl) rfl rfl (not_f h3) (vl (pk (b := false) rfl rfl (not_f h3) rfl) rfl (a_ rfl rfl (en (nx ?_))))))))
      by_cases h4 : within n.client 0 3 = true
      · refine cf rfl (not_f h4) (sk (xn (nx (sq (sq (rg (vl (fa rfl rfl rfl) rfl (vl (ldb 0 rfl rfl rfl rfl rfl rfl rfl) rfl (m_ rfl rfl ?_)))))))))
        refine gd 1 kNoteS_p3_9 rfl (cs' := [.int .i64 n.op.kind, .int .i64 n.op.pair.id, .slice An5 n.op.pair.rect.low.length cn5, .slice An6 n.op.pair.rect.high.length cn6, .int .i64 n.op.query.kind, .slice An8 n.op.query.rect.low.length cn8, .slice An9 n.op.query.rect.high.length cn9, .slice An10 n.op.query.point.length cn10, .int .i64 n.op.query.k]) rfl fun s5 w_ rs5 us5 => ?_
        refine cs_ (v := .int .i64 (opFault n.op dims)) (by kernel_rfl) rfl rfl rfl (fun w_ hs_ => impl_OpFault w_ _ (hs_.at 0 rfl)) (a_ rfl rfl (en (nx (sq (rg (m_ rfl rfl (vl (cm rfl rfl rfl rfl) rfl (en (nx ?_)))))))))
        by_cases h6 : (opFault n.op dims) = (0 : Int)
        · refine cf rfl (bne_eq_false_iff_eq.2 h6) (sk (nx (sq (bk (sq (rg (vl (fa rfl rfl rfl) rfl (vl (fa rfl rfl rfl) rfl (vl (ldb (u := .int .i64 n.answer.code) 1 rfl rfl rfl rfl rfl rfl rfl) rfl (cs_ (v := .bool (within n.answer.code 0 9)) (by kernel_rfl) rfl rfl rfl (fun w_ hs_ => impl_within w_ _ _ _) (vl (nt rfl rfl) rfl (a_ rfl rfl (en (nx ?_))))))))))))))
          by_cases h7 : within n.answer.code 0 9 = true
          · refine cf rfl (not_f h7) (sq (rg (vl (fa rfl rfl rfl) rfl (vl (fa rfl rfl rfl) rfl (vl (ldb (u := .slice An13 n.answer.pairs.length cn13) 1 rfl rfl rfl rfl rfl rfl rfl) rfl (vl (ln rfl rfl rfl) rfl (vl (cm rfl rfl rfl rfl) rfl (a_ rfl rfl (en (nx ?_))))))))))
            by_cases h8 : (1000 : Int) < ((n.answer.pairs.length : Nat) : Int)
            · refine ct rfl (decide_eq_true h8) (sq (rg (a_ rfl rfl (en (nx (rt (xrb (xr (ret1 rfl rfl (fun w_ hs_ => ⟨?_, hs_.below⟩))))))))))
              exact ri (by grind [noteFault])
            · refine cf rfl (decide_eq_false h8) (sk (xn (nx (sq (sq (rg (vl (fa rfl rfl rfl) rfl (vl (fa rfl rfl rfl) rfl (vl (ldb (u := .slice An13 n.answer.pairs.length cn13) 1 rfl rfl rfl rfl rfl rfl rfl) rfl (vl (ln rfl rfl rfl) rfl (m_ rfl rfl (en (nx (bk ?_))))))))))))))
              refine lp (σ := Nat) (fun k : Nat => [(1, .int .i64 dims), (46, .slice An13 n.answer.pairs.length cn13), (47, .int .i64 ((n.answer.pairs.length : Nat) : Int)), (48, .int .i64 ((k : Nat) : Int))])
                  (fun k : Nat => [dat kOpS [.int .i64 n.op.kind, .int .i64 n.op.pair.id, .slice An5 n.op.pair.rect.low.length cn5, .slice An6 n.op.pair.rect.high.length cn6, .int .i64 n.op.query.kind, .slice An8 n.op.query.rect.low.length cn8, .slice An9 n.op.query.rect.high.length cn9, .slice An10 n.op.query.point.length cn10, .int .i64 n.op.query.k] n.op ([]) s5, dat kNoteS [.int .i64 n.at_, .int .i64 n.kind, .int .i64 n.client, .int .i64 n.op.kind, .int .i64 n.op.pair.id, .slice An5 n.op.pair.rect.low.length cn5, .slice An6 n.op.pair.rect.high.length cn6, .int .i64 n.op.query.kind, .slice An8 n.op.query.rect.low.length cn8, .slice An9 n.op.query.rect.high.length cn9, .slice An10 n.op.query.point.length cn10, .int .i64 n.op.query.k, .int .i64 n.answer.code, .slice An13 n.answer.pairs.length cn13] n ([]) sn_])
                  (fun k : Nat => k ≤ n.answer.pairs.length ∧ ∀ j x, j < k → n.answer.pairs[j]? = some x → pairFault x dims = 0) (fun k : Nat => n.answer.pairs.length - k) 0 [0, 1] ⟨Nat.zero_le _, by simp⟩ ⟨rfl, rfl, rfl, rfl, trivial⟩ rfl ?_
              intro k hp_
              obtain ⟨hk, hinv⟩ := hp_
              refine sq (rg (vl (cm rfl rfl rfl rfl) rfl (en (nx (sq ?_)))))
              by_cases h9 : ((k : Nat) : Int) < ((n.answer.pairs.length : Nat) : Int)
              · refine ct rfl (decide_eq_true h9) (sk (nx (sq (bk (sq (rg ?_))))))
                refine gd 1 kNoteS_p13_1 rfl (cs' := [.slice An13 n.answer.pairs.length cn13]) rfl fun s10 w_ rs10 us10 => ?_
                have Ls10 := Kd.sl_len rs10; have Cs10 := Kd.sl_cap rs10
                refine gx 0 k rfl (by omega) fun y16 p11 cs_ s12 w15 m17 e13 r14 us12 => ?_
                obtain ⟨A18, c19, A20, c21, rfl⟩ := kPairS_sh r14
                refine vl (ix k e13 rfl rfl rfl rfl rfl (by omega)) rfl (vl (ldq 0 rfl rfl rfl rfl rfl rfl rfl) rfl (al zero60 rfl rfl rfl ?_))
                intro b22
                refine sto rfl rfl rfl rfl rfl rfl rfl (cs' := [.int .i64 y16.id, .slice A18 y16.rect.low.length c19, .slice A20 y16.rect.high.length c21]) rfl (en (nx (sq (rg (vl (ldb 0 rfl rfl rfl rfl rfl rfl rfl) rfl (m_ rfl rfl ?_))))))
                refine gp 1 Kd.Sub.rfl rfl (cs' := [.int .i64 y16.id, .slice A18 y16.rect.low.length c19, .slice A20 y16.rect.high.length c21]) rfl fun s23 w_ rs23 us23 => ?_
                refine cs_ (v := .int .i64 (pairFault y16 dims)) (by kernel_rfl) rfl rfl rfl (fun w_ hs_ => impl_pairFault w_ _ (hs_.at 0 rfl)) (a_ rfl rfl (en (nx (sq (rg (m_ rfl rfl (vl (cm rfl rfl rfl rfl) rfl (en (nx ?_)))))))))
                by_cases h24 : (pairFault y16 dims) = (0 : Int)
                · exact cf rfl (bne_eq_false_iff_eq.2 h24) (sk (xn (nx (rg (vl (ra (c := ((k + 1 : Nat) : Int)) rfl rfl rfl (by omega) (by omega) (by omega)) rfl (m_ rfl rfl (en (lpe (s := k) (k + 1) [4, 4] ⟨by omega, zero_step hinv m17 h24⟩ (by omega) ⟨rfl, rfl, rfl, rfl, trivial⟩ rfl))))))))
                · refine ct rfl (bne_iff_ne.2 h24) (sq (rg (m_ rfl rfl (a_ rfl rfl (en (nx (rt (xrb (xr (xr (xrb (xr (ret1 rfl rfl (fun w_ hs_ => ⟨?_, hs_.below⟩))))))))))))))
                  exact ri (by have z := firstFault_at hinv m17 h24; grind [noteFault])
              · refine cf rfl (decide_eq_false h9) (xt (xq (xq (xb (nx (sq (rg (a_ rfl rfl (en (nx (rt (ret1 rfl rfl (fun w_ hs_ => ⟨?_, hs_.below⟩)))))))))))))
                exact ri (by have z := firstFault_0 hinv (by omega); grind [noteFault])
          · refine ct rfl (not_t (Bool.eq_false_iff.2 h7)) (sq (rg (a_ rfl rfl (en (nx (rt (xrb (xr (ret1 rfl rfl (fun w_ hs_ => ⟨?_, hs_.below⟩))))))))))
            exact ri (by grind [noteFault])
        · refine ct rfl (bne_iff_ne.2 h6) (sq (rg (m_ rfl rfl (a_ rfl rfl (en (nx (rt (xr (ret1 rfl rfl (fun w_ hs_ => ⟨?_, hs_.below⟩))))))))))
          exact ri (by grind [noteFault])
      · refine ct rfl (not_t (Bool.eq_false_iff.2 h4)) (sq (rg (a_ rfl rfl (en (nx (rt (xrb (xr (ret1 rfl rfl (fun w_ hs_ => ⟨?_, hs_.below⟩))))))))))
        exact ri (by grind [noteFault])
    · refine sg rfl rfl (not_t (Bool.eq_false_iff.2 h3)) (sg rfl rfl (not_t (Bool.eq_false_iff.2 h3)) (sg rfl rfl (not_t (Bool.eq_false_iff.2 h3)) (sg rfl rfl (not_t (Bool.eq_false_iff.2 h3)) (vl (pk (b := true) rfl rfl (not_t (Bool.eq_false_iff.2 h3)) rfl) rfl (a_ rfl rfl (en (nx (ct rfl rfl (sq (rg (a_ rfl rfl (en (nx (rt (xrb (xr (ret1 rfl rfl (fun w_ hs_ => ⟨?_, hs_.below⟩))))))))))))))))))
      exact ri (by grind [noteFault])
  · refine ct rfl (not_t (Bool.eq_false_iff.2 h2)) (sq (rg (a_ rfl rfl (en (nx (rt (xrb (xr (ret1 rfl rfl (fun w_ hs_ => ⟨?_, hs_.below⟩))))))))))
    exact ri (by grind [noteFault])
/-! spec.l12Note -/
set_option maxRecDepth 20000 in
set_option maxHeartbeats 2000000 in
theorem spec_l12Note (w : World) (dims : Int) {An5 : Option Addr} {cn5 : Nat} {An6 : Option Addr} {cn6 : Nat} {An8 : Option Addr} {cn8 : Nat} {An9 : Option Addr} {cn9 : Nat} {An10 : Option Addr} {cn10 : Nat} {An13 : Option Addr} {cn13 : Nat} {n : Note} {sn_ : List Nat} {pn : Addr} (hn : (ptr kNoteS pn [.int .i64 n.at_, .int .i64 n.kind, .int .i64 n.client, .int .i64 n.op.kind, .int .i64 n.op.pair.id, .slice An5 n.op.pair.rect.low.length cn5, .slice An6 n.op.pair.rect.high.length cn6, .int .i64 n.op.query.kind, .slice An8 n.op.query.rect.low.length cn8, .slice An9 n.op.query.rect.high.length cn9, .slice An10 n.op.query.point.length cn10, .int .i64 n.op.query.k, .int .i64 n.answer.code, .slice An13 n.answer.pairs.length cn13] n sn_).P w)  : Calls Tryz.prog 84 #[.pointer (some pn), .int .i64 dims] w (fun e_ w2_ => e_ = .returned (.int .i64 (noteFault n dims)) ∧ Below w.heap.size w w2_) := by
  refine fnc (X := X 73 w) (args := [.pointer (some pn), .int .i64 dims]) (l := [(0, .pointer (some pn)), (1, .int .i64 dims)]) (G := [ptr kNoteS pn [.int .i64 n.at_, .int .i64 n.kind, .int .i64 n.client, .int .i64 n.op.kind, .int .i64 n.op.pair.id, .slice An5 n.op.pair.rect.low.length cn5, .slice An6 n.op.pair.rect.high.length cn6, .int .i64 n.op.query.kind, .slice An8 n.op.query.rect.low.length cn8, .slice An9 n.op.query.rect.high.length cn9, .slice An10 n.op.query.point.length cn10, .int .i64 n.op.query.k, .int .i64 n.answer.code, .slice An13 n.answer.pairs.length cn13] n sn_]) Tryz.func84 rfl rfl rfl ⟨rfl, rfl, trivial⟩ (s0p hn (s0n w)).1 ?_
  refine sq (rg (a_ rfl rfl (en (nx (sq (sq (rg (m_ rfl rfl (vl (nc rfl rfl) rfl (vl (fa rfl rfl rfl) rfl (vl (ldp (u := .int .i64 n.kind) 0 rfl rfl rfl rfl rfl rfl rfl) rfl (cs_ (v := .bool (within n.kind 1 3)) (by kernel_rfl) rfl rfl rfl (fun w_ hs_ => spec_l1In w_ _ _ _) (vl (nt rfl rfl) rfl (en (nx ?_)))))))))))))))
  by_cases h1 : within n.kind 1 3 = true
  · refine cf rfl (not_f h1) (sk (nx (sq (sq (rg (m_ rfl rfl (vl (nc rfl rfl) rfl (vl (fa rfl rfl rfl) rfl (vl (ldp (u := .int .i64 n.at_) 0 rfl rfl rfl rfl rfl rfl rfl) rfl (cs_ (v := .bool (within n.at_ 0 1000000)) (by kernel_rfl) rfl rfl rfl (fun w_ hs_ => spec_l1In w_ _ _ _) (vl (nt rfl rfl) rfl (m_ rfl rfl ?_))))))))))))
    by_cases h2 : within n.at_ 0 1000000 = true
    · refine vg (mv rfl rfl) rfl rfl (not_f h2) (vg (nc rfl rfl) rfl rfl (not_f h2) (vg (fa rfl rfl rfl) rfl rfl (not_f h2) (vg (ldp (u := .int .i64 n.client) 0 rfl rfl rfl rfl rfl rfl rfl) rfl rfl (not_f h2) (gw rfl rfl (not_f h2) (cs_ (v := .bool (within n.client 0 3)) (by kernel_rfl) rfl rfl rfl (fun w_ hs_ => spec_l1In w_ _ _ _) (vg (nt rfl rfl) rfl rfl (not_f h2) (vl (pk (b := false) rfl rfl (not_f h2) rfl) rfl (en (nx ?_)))))))))
      by_cases h3 : within n.client 0 3 = true
      · refine cf rfl (not_f h3) (sk (nx (sq (sq (rg (m_ rfl rfl (vl (nc rfl rfl) rfl (vl (fa rfl rfl rfl) rfl (vl (ldp 0 rfl rfl rfl rfl rfl rfl rfl) rfl (m_ rfl rfl ?_))))))))))
        refine gp 0 kNoteS_p3_9 rfl (cs' := [.int .i64 n.op.kind, .int .i64 n.op.pair.id, .slice An5 n.op.pair.rect.low.length cn5, .slice An6 n.op.pair.rect.high.length cn6, .int .i64 n.op.query.kind, .slice An8 n.op.query.rect.low.length cn8, .slice An9 n.op.query.rect.high.length cn9, .slice An10 n.op.query.point.length cn10, .int .i64 n.op.query.k]) rfl fun s4 w_ rs4 us4 => ?_
        refine cs_ (v := .int .i64 (opFault n.op dims)) (by kernel_rfl) rfl rfl rfl (fun w_ hs_ => spec_OpFault w_ _ (hs_.at 0 rfl)) (a_ rfl rfl (en (nx (sq (rg (m_ rfl rfl (vl (cm rfl rfl rfl rfl) rfl (en (nx ?_)))))))))
        by_cases h5 : (opFault n.op dims) = (0 : Int)
        · refine cf rfl (bne_eq_false_iff_eq.2 h5) (sk (nx (sq (sq (rg (m_ rfl rfl (vl (nc rfl rfl) rfl (vl (fa rfl rfl rfl) rfl (vl (fb rfl rfl rfl) rfl (vl (ldp (u := .int .i64 n.answer.code) 1 rfl rfl rfl rfl rfl rfl rfl) rfl (cs_ (v := .bool (within n.answer.code 0 9)) (by kernel_rfl) rfl rfl rfl (fun w_ hs_ => spec_l1In w_ _ _ _) (vl (nt rfl rfl) rfl (en (nx ?_))))))))))))))
          by_cases h6 : within n.answer.code 0 9 = true
          · refine cf rfl (not_f h6) (sk (nx (sq (sq (rg (m_ rfl rfl (vl (nc rfl rfl) rfl (vl (fa rfl rfl rfl) rfl (vl (fb rfl rfl rfl) rfl (vl (ldp (u := .slice An13 n.answer.pairs.length cn13) 1 rfl rfl rfl rfl rfl rfl rfl) rfl (vl (ln rfl rfl rfl) rfl (vl (cm rfl rfl rfl rfl) rfl (en (nx ?_))))))))))))))
            by_cases h7 : (1000 : Int) < ((n.answer.pairs.length : Nat) : Int)
            · refine ct rfl (decide_eq_true h7) (sq (rg (a_ rfl rfl (en (nx (rt (xr (ret1 rfl rfl (fun w_ hs_ => ⟨?_, hs_.below⟩)))))))))
              exact ri (by grind [noteFault])
            · refine cf rfl (decide_eq_false h7) (sk (nx (sq (sq (rg (a_ rfl rfl (en (nx (bk ?_)))))))))
              refine lp (σ := Nat) (fun k : Nat => [(0, .pointer (some pn)), (1, .int .i64 dims), (6, .int .i64 ((k : Nat) : Int))])
                  (fun k : Nat => [dat kOpS [.int .i64 n.op.kind, .int .i64 n.op.pair.id, .slice An5 n.op.pair.rect.low.length cn5, .slice An6 n.op.pair.rect.high.length cn6, .int .i64 n.op.query.kind, .slice An8 n.op.query.rect.low.length cn8, .slice An9 n.op.query.rect.high.length cn9, .slice An10 n.op.query.point.length cn10, .int .i64 n.op.query.k] n.op ([]) s4, ptr kNoteS pn [.int .i64 n.at_, .int .i64 n.kind, .int .i64 n.client, .int .i64 n.op.kind, .int .i64 n.op.pair.id, .slice An5 n.op.pair.rect.low.length cn5, .slice An6 n.op.pair.rect.high.length cn6, .int .i64 n.op.query.kind, .slice An8 n.op.query.rect.low.length cn8, .slice An9 n.op.query.rect.high.length cn9, .slice An10 n.op.query.point.length cn10, .int .i64 n.op.query.k, .int .i64 n.answer.code, .slice An13 n.answer.pairs.length cn13] n sn_])
                  (fun k : Nat => k ≤ n.answer.pairs.length ∧ ∀ j x, j < k → n.answer.pairs[j]? = some x → pairFault x dims = 0) (fun k : Nat => n.answer.pairs.length - k) 0 [0, 0] ⟨Nat.zero_le _, by simp⟩ ⟨rfl, rfl, rfl, trivial⟩ rfl ?_
              intro k hp_
              obtain ⟨hk, hinv⟩ := hp_
              refine sq (sq (rg (m_ rfl rfl (m_ rfl rfl (vl (nc rfl rfl) rfl (vl (fa rfl rfl rfl) rfl (vl (fb rfl rfl rfl) rfl (vl (ldp (u := .slice An13 n.answer.pairs.length cn13) 1 rfl rfl rfl rfl rfl rfl rfl) rfl (vl (ln rfl rfl rfl) rfl (vl (cm rfl rfl rfl rfl) rfl (en (nx ?_))))))))))))
              by_cases h8 : ((k : Nat) : Int) < ((n.answer.pairs.length : Nat) : Int)
              · refine ct rfl (decide_eq_true h8) (sk (nx (sq (bk (sq (rg (m_ rfl rfl (vl (nc rfl rfl) rfl (vl (fa rfl rfl rfl) rfl (vl (fb rfl rfl rfl) rfl (vl (ldp (u := .slice An13 n.answer.pairs.length cn13) 1 rfl rfl rfl rfl rfl rfl rfl) rfl (m_ rfl rfl ?_))))))))))))
                refine gp 1 kNoteS_p13_1 rfl (cs' := [.slice An13 n.answer.pairs.length cn13]) rfl fun s9 w_ rs9 us9 => ?_
                have Ls9 := Kd.sl_len rs9; have Cs9 := Kd.sl_cap rs9
                refine gx 0 k rfl (by omega) fun y15 p10 cs_ s11 w14 m16 e12 r13 us11 => ?_
                obtain ⟨A17, c18, A19, c20, rfl⟩ := kPairS_sh r13
                refine vl (ix k e12 rfl rfl rfl rfl rfl (by omega)) rfl (m_ rfl rfl (cs_ (v := .int .i64 (pairFault y15 dims)) (by kernel_rfl) rfl rfl rfl (fun w_ hs_ => spec_l2Pair w_ _ (hs_.at 0 rfl)) (a_ rfl rfl (en (nx (sq (rg (m_ rfl rfl (vl (cm rfl rfl rfl rfl) rfl (en (nx ?_)))))))))))
                by_cases h21 : (pairFault y15 dims) = (0 : Int)
                · exact cf rfl (bne_eq_false_iff_eq.2 h21) (sk (xn (nx (rg (m_ rfl rfl (vl (ra (c := ((k + 1 : Nat) : Int)) rfl rfl rfl (by omega) (by omega) (by omega)) rfl (a_ rfl rfl (en (lpe (s := k) (k + 1) [2, 2] ⟨by omega, zero_step hinv m16 h21⟩ (by omega) ⟨rfl, rfl, rfl, trivial⟩ rfl)))))))))
                · refine ct rfl (bne_iff_ne.2 h21) (sq (rg (m_ rfl rfl (a_ rfl rfl (en (nx (rt (xrb (xr (xr (xrb (xr (ret1 rfl rfl (fun w_ hs_ => ⟨?_, hs_.below⟩))))))))))))))
                  exact ri (by have z := firstFault_at hinv m16 h21; grind [noteFault])
              · refine cf rfl (decide_eq_false h8) (xt (xq (xq (xb (nx (sq (rg (a_ rfl rfl (en (nx (rt (ret1 rfl rfl (fun w_ hs_ => ⟨?_, hs_.below⟩)))))))))))))
                exact ri (by have z := firstFault_0 hinv (by omega); grind [noteFault])
          · refine ct rfl (not_t (Bool.eq_false_iff.2 h6)) (sq (rg (a_ rfl rfl (en (nx (rt (xr (ret1 rfl rfl (fun w_ hs_ => ⟨?_, hs_.below⟩)))))))))
            exact ri (by grind [noteFault])
        · refine ct rfl (bne_iff_ne.2 h5) (sq (rg (m_ rfl rfl (a_ rfl rfl (en (nx (rt (xr (ret1 rfl rfl (fun w_ hs_ => ⟨?_, hs_.below⟩))))))))))
          exact ri (by grind [noteFault])
      · refine ct rfl (not_t (Bool.eq_false_iff.2 h3)) (sq (rg (a_ rfl rfl (en (nx (rt (xr (ret1 rfl rfl (fun w_ hs_ => ⟨?_, hs_.below⟩)))))))))
        exact ri (by grind [noteFault])
    · refine sg rfl rfl (not_t (Bool.eq_false_iff.2 h2)) (sg rfl rfl (not_t (Bool.eq_false_iff.2 h2)) (sg rfl rfl (not_t (Bool.eq_false_iff.2 h2)) (sg rfl rfl (not_t (Bool.eq_false_iff.2 h2)) (sg rfl rfl (not_t (Bool.eq_false_iff.2 h2)) (sg rfl rfl (not_t (Bool.eq_false_iff.2 h2)) (vl (pk (b := true) rfl rfl (not_t (Bool.eq_false_iff.2 h2)) rfl) rfl (en (nx (ct rfl rfl (sq (rg (a_ rfl rfl (en (nx (rt (xr (ret1 rfl rfl (fun w_ hs_ => ⟨?_, hs_.below⟩))))))))))))))))))
      exact ri (by grind [noteFault])
  · refine ct rfl (not_t (Bool.eq_false_iff.2 h1)) (sq (rg (a_ rfl rfl (en (nx (rt (xr (ret1 rfl rfl (fun w_ hs_ => ⟨?_, hs_.below⟩)))))))))
    exact ri (by grind [noteFault])
/-! impl.NotesFault -/
set_option maxRecDepth 20000 in
set_option maxHeartbeats 2000000 in
theorem impl_NotesFault (w : World) (dims : Int) {Anotes : Option Addr} {cnotes : Nat} {notes : List Note} {snotes_ : List Nat} (hnotes : (Kd.sl kNoteS).Rel w [.slice Anotes notes.length cnotes] notes [] snotes_)  : Calls Tryz.prog 38 #[.slice Anotes notes.length cnotes, .int .i64 dims] w (fun e_ w2_ => e_ = .returned (.int .i64 (notesFault notes dims)) ∧ Below w.heap.size w w2_) := by
  have Lnotes := Kd.sl_len hnotes; have Cnotes := Kd.sl_cap hnotes
  refine fnc (X := X 48 w) (args := [.slice Anotes notes.length cnotes, .int .i64 dims]) (l := [(0, .slice Anotes notes.length cnotes), (1, .int .i64 dims)]) (G := [dat (Kd.sl kNoteS) [.slice Anotes notes.length cnotes] notes ([]) snotes_]) Tryz.func38 rfl rfl rfl ⟨rfl, rfl, trivial⟩ (s0d hnotes (s0n w)).1 ?_
  refine sq (rg (a_ rfl rfl (en (nx (sq (bk (sq (rg (m_ rfl rfl (cs_ (v := .bool (isDims dims)) (by kernel_rfl) rfl rfl rfl (fun w_ hs_ => impl_isDims w_ _) (vl (nt rfl rfl) rfl (a_ rfl rfl (en (nx ?_))))))))))))))
  by_cases h1 : isDims dims = true
  · refine cf rfl (not_f h1) (sq (rg (m_ rfl rfl (vl (ln rfl rfl rfl) rfl (vl (cm rfl rfl rfl rfl) rfl (a_ rfl rfl (en (nx ?_))))))))
    by_cases h2 : (600 : Int) < ((notes.length : Nat) : Int)
    · refine ct rfl (decide_eq_true h2) (sq (rg (a_ rfl rfl (en (nx (rt (xrb (xr (ret1 rfl rfl (fun w_ hs_ => ⟨?_, hs_.below⟩))))))))))
      exact ri (by grind [notesFault, isDims])
    · refine cf rfl (decide_eq_false h2) (sk (xn (nx (sq (sq (rg (m_ rfl rfl (vl (ln rfl rfl rfl) rfl (m_ rfl rfl (en (nx (bk ?_))))))))))))
      refine lp (σ := Nat) (fun k : Nat => [(0, .slice Anotes notes.length cnotes), (1, .int .i64 dims), (17, .slice Anotes notes.length cnotes), (18, .int .i64 ((notes.length : Nat) : Int)), (19, .int .i64 ((k : Nat) : Int))])
          (fun k : Nat => [dat (Kd.sl kNoteS) [.slice Anotes notes.length cnotes] notes ([]) snotes_])
          (fun k : Nat => k ≤ notes.length ∧ ∀ j x, j < k → notes[j]? = some x → noteFault x dims = 0) (fun k : Nat => notes.length - k) 0 [0] ⟨Nat.zero_le _, by simp⟩ ⟨rfl, rfl, rfl, rfl, rfl, trivial⟩ rfl ?_
      intro k hp_
      obtain ⟨hk, hinv⟩ := hp_
      refine sq (rg (vl (cm rfl rfl rfl rfl) rfl (en (nx (sq ?_)))))
      by_cases h3 : ((k : Nat) : Int) < ((notes.length : Nat) : Int)
      · refine ct rfl (decide_eq_true h3) (sk (nx (sq (bk (sq (rg ?_))))))
        refine gx 0 k rfl (by omega) fun y9 p4 cs_ s5 w8 m10 e6 r7 us5 => ?_
        obtain ⟨A11, c12, A13, c14, A15, c16, A17, c18, A19, c20, A21, c22, rfl⟩ := kNoteS_sh r7
        refine vl (ix k e6 rfl rfl rfl rfl rfl (by omega)) rfl (vl (ldq 0 rfl rfl rfl rfl rfl rfl rfl) rfl (al zero67 rfl rfl rfl ?_))
        intro b23
        refine sto rfl rfl rfl rfl rfl rfl rfl (cs' := [.int .i64 y9.at_, .int .i64 y9.kind, .int .i64 y9.client, .int .i64 y9.op.kind, .int .i64 y9.op.pair.id, .slice A11 y9.op.pair.rect.low.length c12, .slice A13 y9.op.pair.rect.high.length c14, .int .i64 y9.op.query.kind, .slice A15 y9.op.query.rect.low.length c16, .slice A17 y9.op.query.rect.high.length c18, .slice A19 y9.op.query.point.length c20, .int .i64 y9.op.query.k, .int .i64 y9.answer.code, .slice A21 y9.answer.pairs.length c22]) rfl (en (nx (sq (rg (vl (ldb 0 rfl rfl rfl rfl rfl rfl rfl) rfl (m_ rfl rfl ?_))))))
        refine gp 1 Kd.Sub.rfl rfl (cs' := [.int .i64 y9.at_, .int .i64 y9.kind, .int .i64 y9.client, .int .i64 y9.op.kind, .int .i64 y9.op.pair.id, .slice A11 y9.op.pair.rect.low.length c12, .slice A13 y9.op.pair.rect.high.length c14, .int .i64 y9.op.query.kind, .slice A15 y9.op.query.rect.low.length c16, .slice A17 y9.op.query.rect.high.length c18, .slice A19 y9.op.query.point.length c20, .int .i64 y9.op.query.k, .int .i64 y9.answer.code, .slice A21 y9.answer.pairs.length c22]) rfl fun s24 w_ rs24 us24 => ?_
        refine cs_ (v := .int .i64 (noteFault y9 dims)) (by kernel_rfl) rfl rfl rfl (fun w_ hs_ => impl_noteFault w_ _ (hs_.at 0 rfl)) (a_ rfl rfl (en (nx (sq (rg (m_ rfl rfl (vl (cm rfl rfl rfl rfl) rfl (en (nx ?_)))))))))
        by_cases h25 : (noteFault y9 dims) = (0 : Int)
        · exact cf rfl (bne_eq_false_iff_eq.2 h25) (sk (xn (nx (rg (vl (ra (c := ((k + 1 : Nat) : Int)) rfl rfl rfl (by omega) (by omega) (by omega)) rfl (m_ rfl rfl (en (lpe (s := k) (k + 1) [3] ⟨by omega, zero_step hinv m10 h25⟩ (by omega) ⟨rfl, rfl, rfl, rfl, rfl, trivial⟩ rfl))))))))
        · refine ct rfl (bne_iff_ne.2 h25) (sq (rg (m_ rfl rfl (a_ rfl rfl (en (nx (rt (xrb (xr (xr (xrb (xr (ret1 rfl rfl (fun w_ hs_ => ⟨?_, hs_.below⟩))))))))))))))
          exact ri (by have z := firstFault_at (f := fun n => noteFault n dims) hinv m10 h25; grind [notesFault, isDims])
      · refine cf rfl (decide_eq_false h3) (xt (xq (xq (xb (nx (sq (sq (rg (a_ rfl rfl (en (nx (bk ?_))))))))))))
        refine lp (σ := Nat) (fun k : Nat => [(0, .slice Anotes notes.length cnotes), (8, .int .i64 ((k + 1 : Nat) : Int))])
            (fun k : Nat => [dat (Kd.sl kNoteS) [.slice Anotes notes.length cnotes] notes ([]) snotes_])
            (fun k : Nat => (k = 0 ∨ k + 1 ≤ notes.length) ∧ ∀ j a b, j < k → notes[j]? = some a → notes[j + 1]? = some b → decide (b.at_ < a.at_) = false) (fun k : Nat => notes.length - k) 0 [0] ⟨.inl rfl, by simp⟩ ⟨rfl, rfl, trivial⟩ rfl ?_
        intro k hp_
        obtain ⟨hk2, hinv2⟩ := hp_
        refine sq (sq (rg (m_ rfl rfl (m_ rfl rfl (vl (ln rfl rfl rfl) rfl (vl (cm rfl rfl rfl rfl) rfl (en (nx ?_))))))))
        by_cases h26 : ((k + 1 : Nat) : Int) < ((notes.length : Nat) : Int)
        · refine ct rfl (decide_eq_true h26) (sk (nx (sq (bk (sq ?_)))))
          refine gx 0 (k + 1) rfl (by omega) fun y32 p27 cs_ s28 w31 m33 e29 r30 us28 => ?_
          obtain ⟨A34, c35, A36, c37, A38, c39, A40, c41, A42, c43, A44, c45, rfl⟩ := kNoteS_sh r30
          refine gx 1 k rfl (by omega) fun y51 p46 cs_ s47 w50 m52 e48 r49 us47 => ?_
          obtain ⟨A53, c54, A55, c56, A57, c58, A59, c60, A61, c62, A63, c64, rfl⟩ := kNoteS_sh r49
          refine r0 (qv 0 rfl (mv rfl rfl) rfl (by kernel_rfl) (qv 1 rfl (mv rfl rfl) rfl (by kernel_rfl) (qv 2 rfl (ix (k + 1) e29 rfl rfl rfl rfl rfl (by omega)) rfl (by kernel_rfl) (qv 3 rfl (fa rfl rfl rfl) rfl (by kernel_rfl) (qv 4 rfl (ldp (u := .int .i64 y32.at_) 1 rfl rfl rfl rfl rfl rfl rfl) rfl (by kernel_rfl) (qv 5 rfl (mv rfl rfl) rfl (by kernel_rfl) (qv 6 rfl (mv rfl rfl) rfl (by kernel_rfl) (qv 7 rfl (rs (c := ((k : Nat) : Int)) rfl rfl rfl (by omega) (by omega) (by omega)) rfl (by kernel_rfl) (qv 8 rfl (ix k e48 rfl rfl rfl rfl rfl (by omega)) rfl (by kernel_rfl) (qv 9 rfl (fa rfl rfl rfl) rfl (by kernel_rfl) (qv 10 rfl (ldp (u := .int .i64 y51.at_) 0 rfl rfl rfl rfl rfl rfl rfl) rfl (by kernel_rfl) (qv 11 rfl (cm rfl rfl rfl rfl) rfl (by kernel_rfl) (qe [0, 0, 0] (by kernel_rfl) rfl (nx ?_))))))))))))))
          by_cases h65 : y32.at_ < y51.at_
          · refine ct rfl (decide_eq_true h65) (sq (rg (a_ rfl rfl (en (nx (rt (xrb (xr (xr (xrb (xr (ret1 rfl rfl (fun w_ hs_ => ⟨?_, hs_.below⟩)))))))))))))
            exact ri (by have z := firstFault_0 (f := fun n => noteFault n dims) hinv (by omega); have y : falls notes = true := adj_t m52 m33 (decide_eq_true h65); grind [notesFault, isDims])
          · exact cf rfl (decide_eq_false h65) (sk (xn (nx (rg (m_ rfl rfl (vl (ra (c := ((k + 1 + 1 : Nat) : Int)) rfl rfl rfl (by omega) (by omega) (by omega)) rfl (a_ rfl rfl (en (lpe (s := k) (k + 1) [2] ⟨.inr (by omega), adj_step hinv2 m52 m33 (decide_eq_false h65)⟩ (by omega) ⟨rfl, rfl, trivial⟩ rfl)))))))))
        · refine cf rfl (decide_eq_false h26) (xt (xq (xq (xb (nx (sq (rg (a_ rfl rfl (en (nx (rt (ret1 rfl rfl (fun w_ hs_ => ⟨?_, hs_.below⟩)))))))))))))
          exact ri (by have z := firstFault_0 (f := fun n => noteFault n dims) hinv (by omega); have y : falls notes = false := adj_f hinv2 (by omega); grind [notesFault, isDims])
  · refine ct rfl (not_t (Bool.eq_false_iff.2 h1)) (sq (rg (a_ rfl rfl (en (nx (rt (xrb (xr (ret1 rfl rfl (fun w_ hs_ => ⟨?_, hs_.below⟩))))))))))
    exact ri (by grind [notesFault, isDims])
/-! spec.NotesFault -/
set_option maxRecDepth 20000 in
set_option maxHeartbeats 2000000 in
theorem spec_NotesFault (w : World) (dims : Int) {Anotes : Option Addr} {cnotes : Nat} {notes : List Note} {snotes_ : List Nat} (hnotes : (Kd.sl kNoteS).Rel w [.slice Anotes notes.length cnotes] notes [] snotes_)  : Calls Tryz.prog 45 #[.slice Anotes notes.length cnotes, .int .i64 dims] w (fun e_ w2_ => e_ = .returned (.int .i64 (notesFault notes dims)) ∧ Below w.heap.size w w2_) := by
  have Lnotes := Kd.sl_len hnotes; have Cnotes := Kd.sl_cap hnotes
  refine fnc (X := X 46 w) (args := [.slice Anotes notes.length cnotes, .int .i64 dims]) (l := [(0, .slice Anotes notes.length cnotes), (1, .int .i64 dims)]) (G := [dat (Kd.sl kNoteS) [.slice Anotes notes.length cnotes] notes ([]) snotes_]) Tryz.func45 rfl rfl rfl ⟨rfl, rfl, trivial⟩ (s0d hnotes (s0n w)).1 ?_
  refine sq (rg (a_ rfl rfl (en (nx (sq (sq (rg (m_ rfl rfl (cs_ (v := .bool (within dims 2 3)) (by kernel_rfl) rfl rfl rfl (fun w_ hs_ => spec_l1In w_ _ _ _) (vl (nt rfl rfl) rfl (en (nx ?_))))))))))))
  by_cases h1 : within dims 2 3 = true
  · refine cf rfl (not_f h1) (sk (nx (sq (sq (rg (m_ rfl rfl (vl (ln rfl rfl rfl) rfl (vl (cm rfl rfl rfl rfl) rfl (en (nx ?_))))))))))
    by_cases h2 : (600 : Int) < ((notes.length : Nat) : Int)
    · refine ct rfl (decide_eq_true h2) (sq (rg (a_ rfl rfl (en (nx (rt (xr (ret1 rfl rfl (fun w_ hs_ => ⟨?_, hs_.below⟩)))))))))
      exact ri (by grind [notesFault, isDims])
    · refine cf rfl (decide_eq_false h2) (sk (nx (sq (sq (rg (a_ rfl rfl (en (nx (bk ?_)))))))))
      refine lp (σ := Nat) (fun k : Nat => [(0, .slice Anotes notes.length cnotes), (1, .int .i64 dims), (5, .int .i64 ((k : Nat) : Int))])
          (fun k : Nat => [dat (Kd.sl kNoteS) [.slice Anotes notes.length cnotes] notes ([]) snotes_])
          (fun k : Nat => k ≤ notes.length ∧ ∀ j x, j < k → notes[j]? = some x → noteFault x dims = 0) (fun k : Nat => notes.length - k) 0 [0] ⟨Nat.zero_le _, by simp⟩ ⟨rfl, rfl, rfl, trivial⟩ rfl ?_
      intro k hp_
      obtain ⟨hk, hinv⟩ := hp_
      refine sq (sq (rg (m_ rfl rfl (m_ rfl rfl (vl (ln rfl rfl rfl) rfl (vl (cm rfl rfl rfl rfl) rfl (en (nx ?_))))))))
      by_cases h3 : ((k : Nat) : Int) < ((notes.length : Nat) : Int)
      · refine ct rfl (decide_eq_true h3) (sk (nx (sq (bk (sq (rg (m_ rfl rfl (m_ rfl rfl ?_))))))))
        refine gx 0 k rfl (by omega) fun y9 p4 cs_ s5 w8 m10 e6 r7 us5 => ?_
        obtain ⟨A11, c12, A13, c14, A15, c16, A17, c18, A19, c20, A21, c22, rfl⟩ := kNoteS_sh r7
        refine vl (ix k e6 rfl rfl rfl rfl rfl (by omega)) rfl (m_ rfl rfl (cs_ (v := .int .i64 (noteFault y9 dims)) (by kernel_rfl) rfl rfl rfl (fun w_ hs_ => spec_l12Note w_ _ (hs_.at 0 rfl)) (a_ rfl rfl (en (nx (sq (rg (m_ rfl rfl (vl (cm rfl rfl rfl rfl) rfl (en (nx ?_)))))))))))
        by_cases h23 : (noteFault y9 dims) = (0 : Int)
        · exact cf rfl (bne_eq_false_iff_eq.2 h23) (sk (xn (nx (rg (m_ rfl rfl (vl (ra (c := ((k + 1 : Nat) : Int)) rfl rfl rfl (by omega) (by omega) (by omega)) rfl (a_ rfl rfl (en (lpe (s := k) (k + 1) [1] ⟨by omega, zero_step hinv m10 h23⟩ (by omega) ⟨rfl, rfl, rfl, trivial⟩ rfl)))))))))
        · refine ct rfl (bne_iff_ne.2 h23) (sq (rg (m_ rfl rfl (a_ rfl rfl (en (nx (rt (xrb (xr (xr (xrb (xr (ret1 rfl rfl (fun w_ hs_ => ⟨?_, hs_.below⟩))))))))))))))
          exact ri (by have z := firstFault_at (f := fun n => noteFault n dims) hinv m10 h23; grind [notesFault, isDims])
      · refine cf rfl (decide_eq_false h3) (xt (xq (xq (xb (nx (sq (sq (rg (a_ rfl rfl (en (nx (bk ?_))))))))))))
        refine lp (σ := Nat) (fun k : Nat => [(0, .slice Anotes notes.length cnotes), (7, .int .i64 ((k + 1 : Nat) : Int))])
            (fun k : Nat => [dat (Kd.sl kNoteS) [.slice Anotes notes.length cnotes] notes ([]) snotes_])
            (fun k : Nat => (k = 0 ∨ k + 1 ≤ notes.length) ∧ ∀ j a b, j < k → notes[j]? = some a → notes[j + 1]? = some b → decide (b.at_ < a.at_) = false) (fun k : Nat => notes.length - k) 0 [0] ⟨.inl rfl, by simp⟩ ⟨rfl, rfl, trivial⟩ rfl ?_
        intro k hp_
        obtain ⟨hk2, hinv2⟩ := hp_
        refine sq (sq (rg (m_ rfl rfl (m_ rfl rfl (vl (ln rfl rfl rfl) rfl (vl (cm rfl rfl rfl rfl) rfl (en (nx ?_))))))))
        by_cases h24 : ((k + 1 : Nat) : Int) < ((notes.length : Nat) : Int)
        · refine ct rfl (decide_eq_true h24) (sk (nx (sq (bk (sq ?_)))))
          refine gx 0 (k + 1) rfl (by omega) fun y30 p25 cs_ s26 w29 m31 e27 r28 us26 => ?_
          obtain ⟨A32, c33, A34, c35, A36, c37, A38, c39, A40, c41, A42, c43, rfl⟩ := kNoteS_sh r28
          refine gx 1 k rfl (by omega) fun y49 p44 cs_ s45 w48 m50 e46 r47 us45 => ?_
          obtain ⟨A51, c52, A53, c54, A55, c56, A57, c58, A59, c60, A61, c62, rfl⟩ := kNoteS_sh r47
          refine r0 (qv 0 rfl (mv rfl rfl) rfl (by kernel_rfl) (qv 1 rfl (mv rfl rfl) rfl (by kernel_rfl) (qv 2 rfl (ix (k + 1) e27 rfl rfl rfl rfl rfl (by omega)) rfl (by kernel_rfl) (qv 3 rfl (fa rfl rfl rfl) rfl (by kernel_rfl) (qv 4 rfl (ldp (u := .int .i64 y30.at_) 1 rfl rfl rfl rfl rfl rfl rfl) rfl (by kernel_rfl) (qv 5 rfl (mv rfl rfl) rfl (by kernel_rfl) (qv 6 rfl (mv rfl rfl) rfl (by kernel_rfl) (qv 7 rfl (rs (c := ((k : Nat) : Int)) rfl rfl rfl (by omega) (by omega) (by omega)) rfl (by kernel_rfl) (qv 8 rfl (ix k e46 rfl rfl rfl rfl rfl (by omega)) rfl (by kernel_rfl) (qv 9 rfl (fa rfl rfl rfl) rfl (by kernel_rfl) (qv 10 rfl (ldp (u := .int .i64 y49.at_) 0 rfl rfl rfl rfl rfl rfl rfl) rfl (by kernel_rfl) (qv 11 rfl (cm rfl rfl rfl rfl) rfl (by kernel_rfl) (qe [0, 0, 0] (by kernel_rfl) rfl (nx ?_))))))))))))))
          by_cases h63 : y30.at_ < y49.at_
          · refine ct rfl (decide_eq_true h63) (sq (rg (a_ rfl rfl (en (nx (rt (xrb (xr (xr (xrb (xr (ret1 rfl rfl (fun w_ hs_ => ⟨?_, hs_.below⟩)))))))))))))
            exact ri (by have z := firstFault_0 (f := fun n => noteFault n dims) hinv (by omega); have y : falls notes = true := adj_t m50 m31 (decide_eq_true h63); grind [notesFault, isDims])
          · exact cf rfl (decide_eq_false h63) (sk (xn (nx (rg (m_ rfl rfl (vl (ra (c := ((k + 1 + 1 : Nat) : Int)) rfl rfl rfl (by omega) (by omega) (by omega)) rfl (a_ rfl rfl (en (lpe (s := k) (k + 1) [2] ⟨.inr (by omega), adj_step hinv2 m50 m31 (decide_eq_false h63)⟩ (by omega) ⟨rfl, rfl, trivial⟩ rfl)))))))))
        · refine cf rfl (decide_eq_false h24) (xt (xq (xq (xb (nx (sq (rg (a_ rfl rfl (en (nx (rt (ret1 rfl rfl (fun w_ hs_ => ⟨?_, hs_.below⟩)))))))))))))
          exact ri (by have z := firstFault_0 (f := fun n => noteFault n dims) hinv (by omega); have y : falls notes = false := adj_f hinv2 (by omega); grind [notesFault, isDims])
  · refine ct rfl (not_t (Bool.eq_false_iff.2 h1)) (sq (rg (a_ rfl rfl (en (nx (rt (xr (ret1 rfl rfl (fun w_ hs_ => ⟨?_, hs_.below⟩)))))))))
    exact ri (by grind [notesFault, isDims])
theorem Rect_eq (a b : Rect) : decide (a = b) = (decide (a.low = b.low) && decide (a.high = b.high)) := by
  cases a; cases b; rw [Bool.eq_iff_iff]; simp [and_assoc]
theorem Pair_eq (a b : Pair) : decide (a = b) = (decide (a.id = b.id) && decide (a.rect = b.rect)) := by
  cases a; cases b; rw [Bool.eq_iff_iff]; simp [and_assoc]
theorem Query_eq (a b : Query) : decide (a = b) = (decide (a.kind = b.kind) && decide (a.rect = b.rect) && decide (a.point = b.point) && decide (a.k = b.k)) := by
  cases a; cases b; rw [Bool.eq_iff_iff]; simp [and_assoc]
theorem Op_eq (a b : Op) : decide (a = b) = (decide (a.kind = b.kind) && decide (a.pair = b.pair) && decide (a.query = b.query)) := by
  cases a; cases b; rw [Bool.eq_iff_iff]; simp [and_assoc]
theorem Answer_eq (a b : Answer) : decide (a = b) = (decide (a.code = b.code) && decide (a.pairs = b.pairs)) := by
  cases a; cases b; rw [Bool.eq_iff_iff]; simp [and_assoc]
theorem Note_eq (a b : Note) : decide (a = b) = (decide (a.at_ = b.at_) && decide (a.kind = b.kind) && decide (a.client = b.client) && decide (a.op = b.op) && decide (a.answer = b.answer)) := by
  cases a; cases b; rw [Bool.eq_iff_iff]; simp [and_assoc]
/-! laws.eqInt64S -/
set_option maxRecDepth 20000 in
set_option maxHeartbeats 2000000 in
theorem laws_eqInt64S (w : World) {Aa : Option Addr} {ca : Nat} {a : List Int} {sa_ : List Nat} (ha : (Kd.sl Kd.i64).Rel w [.slice Aa a.length ca] a [] sa_) {Ab : Option Addr} {cb : Nat} {b : List Int} {sb_ : List Nat} (hb : (Kd.sl Kd.i64).Rel w [.slice Ab b.length cb] b [] sb_)  : Calls Tryz.prog 130 #[.slice Aa a.length ca, .slice Ab b.length cb] w (fun e_ w2_ => e_ = .returned (.bool (decide (a = b))) ∧ Below w.heap.size w w2_) := by
  have La := Kd.sl_len ha; have Ca := Kd.sl_cap ha
  have Lb := Kd.sl_len hb; have Cb := Kd.sl_cap hb
  refine fnc (X := X 26 w) (args := [.slice Aa a.length ca, .slice Ab b.length cb]) (l := [(0, .slice Aa a.length ca), (1, .slice Ab b.length cb)]) (G := [dat (Kd.sl Kd.i64) [.slice Ab b.length cb] b ([]) sb_, dat (Kd.sl Kd.i64) [.slice Aa a.length ca] a ([]) sa_]) Tryz.func130 rfl rfl rfl ⟨rfl, rfl, trivial⟩ (s0d hb (s0d ha (s0n w))).1 ?_
  refine sq (rg (a_ rfl rfl (en (nx (sq (sq (rg (m_ rfl rfl (vl (ln rfl rfl rfl) rfl (m_ rfl rfl (vl (ln rfl rfl rfl) rfl (vl (cm rfl rfl rfl rfl) rfl (en (nx ?_))))))))))))))
  by_cases h1 : ((a.length : Nat) : Int) = ((b.length : Nat) : Int)
  · refine cf rfl (bne_eq_false_iff_eq.2 h1) (sk (nx (sq (sq (rg (a_ rfl rfl (en (nx (bk ?_)))))))))
    refine lp (σ := Nat) (fun k : Nat => [(0, .slice Aa a.length ca), (1, .slice Ab b.length cb), (5, .int .i64 ((k : Nat) : Int))])
        (fun k : Nat => [dat (Kd.sl Kd.i64) [.slice Ab b.length cb] b ([]) sb_, dat (Kd.sl Kd.i64) [.slice Aa a.length ca] a ([]) sa_])
        (fun k : Nat => k ≤ a.length ∧ ∀ j x y, j < k → a[j]? = some x → b[j]? = some y → x = y) (fun k : Nat => a.length - k) 0 [0, 0] ⟨Nat.zero_le _, by simp⟩ ⟨rfl, rfl, rfl, trivial⟩ rfl ?_
    intro k hp_
    obtain ⟨hk, hinv⟩ := hp_
    refine sq (sq (rg (m_ rfl rfl (m_ rfl rfl (vl (ln rfl rfl rfl) rfl (vl (cm rfl rfl rfl rfl) rfl (en (nx ?_))))))))
    by_cases h2 : ((k : Nat) : Int) < ((a.length : Nat) : Int)
    · refine ct rfl (decide_eq_true h2) (sk (nx (sq (bk (sq ?_)))))
      refine gx 1 k rfl (by omega) fun y8 p3 cs_ s4 w7 m9 e5 r6 us4 => ?_
      obtain ⟨rfl, -, -⟩ := r6
      refine gx 1 k rfl (by omega) fun y15 p10 cs_ s11 w14 m16 e12 r13 us11 => ?_
      obtain ⟨rfl, -, -⟩ := r13
      refine r0 (qv 0 rfl (mv rfl rfl) rfl (by kernel_rfl) (qv 1 rfl (mv rfl rfl) rfl (by kernel_rfl) (qv 2 rfl (ix k e5 rfl rfl rfl rfl rfl (by omega)) rfl (by kernel_rfl) (qv 3 rfl (ldq (u := .int .i64 y8) 1 rfl rfl rfl rfl rfl rfl rfl) rfl (by kernel_rfl) (qv 4 rfl (mv rfl rfl) rfl (by kernel_rfl) (qv 5 rfl (mv rfl rfl) rfl (by kernel_rfl) (qv 6 rfl (ix k e12 rfl rfl rfl rfl rfl (by omega)) rfl (by kernel_rfl) (qv 7 rfl (ldq (u := .int .i64 y15) 0 rfl rfl rfl rfl rfl rfl rfl) rfl (by kernel_rfl) (qv 8 rfl (cm rfl rfl rfl rfl) rfl (by kernel_rfl) (qe [0, 0, 0, 0] (by kernel_rfl) rfl (nx ?_)))))))))))
      by_cases h17 : y8 = y15
      · exact cf rfl (bne_eq_false_iff_eq.2 h17) (sk (xn (nx (rg (m_ rfl rfl (vl (ra (c := ((k + 1 : Nat) : Int)) rfl rfl rfl (by omega) (by omega) (by omega)) rfl (a_ rfl rfl (en (lpe (s := k) (k + 1) [2, 2] ⟨by omega, eq_step hinv m9 m16 (by simpa using h17)⟩ (by omega) ⟨rfl, rfl, rfl, trivial⟩ rfl)))))))))
      · refine ct rfl (bne_iff_ne.2 h17) (sq (rg (a_ rfl rfl (en (nx (rt (xrb (xr (xr (xrb (xr (ret1 rfl rfl (fun w_ hs_ => ⟨?_, hs_.below⟩)))))))))))))
        exact rb (eqS_f m9 m16 (by simpa using h17)).symm
    · refine cf rfl (decide_eq_false h2) (xt (xq (xq (xb (nx (sq (rg (a_ rfl rfl (en (nx (rt (ret1 rfl rfl (fun w_ hs_ => ⟨?_, hs_.below⟩)))))))))))))
      exact rb (eqS_t (by omega) hinv (by omega)).symm
  · refine ct rfl (bne_iff_ne.2 h1) (sq (rg (a_ rfl rfl (en (nx (rt (xr (ret1 rfl rfl (fun w_ hs_ => ⟨?_, hs_.below⟩)))))))))
    exact rb (by rw [eq_comm, decide_eq_false_iff_not]; rintro rfl; exact h1 rfl)
/-! laws.eqRect -/
set_option maxRecDepth 20000 in
set_option maxHeartbeats 2000000 in
theorem laws_eqRect (w : World) {Aa0 : Option Addr} {ca0 : Nat} {Aa1 : Option Addr} {ca1 : Nat} {a : Rect} {sa_ : List Nat} (ha : kRectS.Rel w [.slice Aa0 a.low.length ca0, .slice Aa1 a.high.length ca1] a [] sa_) {Ab0 : Option Addr} {cb0 : Nat} {Ab1 : Option Addr} {cb1 : Nat} {b : Rect} {sb_ : List Nat} (hb : kRectS.Rel w [.slice Ab0 b.low.length cb0, .slice Ab1 b.high.length cb1] b [] sb_)  : Calls Tryz.prog 100 #[.agg #[.slice Aa0 a.low.length ca0, .slice Aa1 a.high.length ca1], .agg #[.slice Ab0 b.low.length cb0, .slice Ab1 b.high.length cb1]] w (fun e_ w2_ => e_ = .returned (.bool (decide (a = b))) ∧ Below w.heap.size w w2_) := by
  refine fnc (X := X 17 w) (args := [.agg #[.slice Aa0 a.low.length ca0, .slice Aa1 a.high.length ca1], .agg #[.slice Ab0 b.low.length cb0, .slice Ab1 b.high.length cb1]]) (l := [(0, .agg #[.slice Aa0 a.low.length ca0, .slice Aa1 a.high.length ca1]), (1, .agg #[.slice Ab0 b.low.length cb0, .slice Ab1 b.high.length cb1])]) (G := [dat kRectS [.slice Ab0 b.low.length cb0, .slice Ab1 b.high.length cb1] b ([]) sb_, dat kRectS [.slice Aa0 a.low.length ca0, .slice Aa1 a.high.length ca1] a ([]) sa_]) Tryz.func100 rfl rfl rfl ⟨rfl, rfl, trivial⟩ (s0d hb (s0d ha (s0n w))).1 ?_
  refine sq (rg (bx rfl rfl rfl rfl ?_))
  intro b1
  refine bx rfl rfl rfl rfl ?_
  intro b2
  refine a_ rfl rfl (en (nx (sq (sq (rg (vl (fa rfl rfl rfl) rfl (vl (ldb (u := .slice Aa0 a.low.length ca0) 1 rfl rfl rfl rfl rfl rfl rfl) rfl (vl (fa rfl rfl rfl) rfl (vl (ldb (u := .slice Ab0 b.low.length cb0) 0 rfl rfl rfl rfl rfl rfl rfl) rfl ?_)))))))))
  refine gd 3 kRectS_p0_1 rfl (cs' := [.slice Aa0 a.low.length ca0]) rfl fun s3 w_ rs3 us3 => ?_
  have Ls3 := Kd.sl_len rs3; have Cs3 := Kd.sl_cap rs3
  refine gd 3 kRectS_p0_1 rfl (cs' := [.slice Ab0 b.low.length cb0]) rfl fun s4 w_ rs4 us4 => ?_
  have Ls4 := Kd.sl_len rs4; have Cs4 := Kd.sl_cap rs4
  refine cs_ (v := .bool (decide (a.low = b.low))) (by kernel_rfl) rfl rfl rfl (fun w_ hs_ => laws_eqInt64S w_ (hs_.at 1 rfl) (hs_.at 0 rfl)) (vl (nt rfl rfl) rfl (en (nx ?_)))
  by_cases h5 : decide (a.low = b.low) = true
  · refine cf rfl (not_f h5) (sk (nx (sq (sq (rg (vl (fa rfl rfl rfl) rfl (vl (ldb (u := .slice Aa1 a.high.length ca1) 3 rfl rfl rfl rfl rfl rfl rfl) rfl (vl (fa rfl rfl rfl) rfl (vl (ldb (u := .slice Ab1 b.high.length cb1) 2 rfl rfl rfl rfl rfl rfl rfl) rfl ?_)))))))))
    refine gd 5 kRectS_p1_1 rfl (cs' := [.slice Aa1 a.high.length ca1]) rfl fun s6 w_ rs6 us6 => ?_
    have Ls6 := Kd.sl_len rs6; have Cs6 := Kd.sl_cap rs6
    refine gd 5 kRectS_p1_1 rfl (cs' := [.slice Ab1 b.high.length cb1]) rfl fun s7 w_ rs7 us7 => ?_
    have Ls7 := Kd.sl_len rs7; have Cs7 := Kd.sl_cap rs7
    refine cs_ (v := .bool (decide (a.high = b.high))) (by kernel_rfl) rfl rfl rfl (fun w_ hs_ => laws_eqInt64S w_ (hs_.at 1 rfl) (hs_.at 0 rfl)) (vl (nt rfl rfl) rfl (en (nx ?_)))
    by_cases h8 : decide (a.high = b.high) = true
    · refine cf rfl (not_f h8) (sk (nx (sq (rg (a_ rfl rfl (en (nx (rt (ret1 rfl rfl (fun w_ hs_ => ⟨?_, hs_.below⟩))))))))))
      rw [Rect_eq]; simp [h5, h8]
    · refine ct rfl (not_t (Bool.eq_false_iff.2 h8)) (sq (rg (a_ rfl rfl (en (nx (rt (xr (ret1 rfl rfl (fun w_ hs_ => ⟨?_, hs_.below⟩)))))))))
      rw [Rect_eq]; simp [h5, h8]
  · refine ct rfl (not_t (Bool.eq_false_iff.2 h5)) (sq (rg (a_ rfl rfl (en (nx (rt (xr (ret1 rfl rfl (fun w_ hs_ => ⟨?_, hs_.below⟩)))))))))
    rw [Rect_eq]; simp [h5]
/-! laws.eqPair -/
set_option maxRecDepth 20000 in
set_option maxHeartbeats 2000000 in
theorem laws_eqPair (w : World) {Aa1 : Option Addr} {ca1 : Nat} {Aa2 : Option Addr} {ca2 : Nat} {a : Pair} {sa_ : List Nat} (ha : kPairS.Rel w [.int .i64 a.id, .slice Aa1 a.rect.low.length ca1, .slice Aa2 a.rect.high.length ca2] a [] sa_) {Ab1 : Option Addr} {cb1 : Nat} {Ab2 : Option Addr} {cb2 : Nat} {b : Pair} {sb_ : List Nat} (hb : kPairS.Rel w [.int .i64 b.id, .slice Ab1 b.rect.low.length cb1, .slice Ab2 b.rect.high.length cb2] b [] sb_)  : Calls Tryz.prog 60 #[.agg #[.int .i64 a.id, .slice Aa1 a.rect.low.length ca1, .slice Aa2 a.rect.high.length ca2], .agg #[.int .i64 b.id, .slice Ab1 b.rect.low.length cb1, .slice Ab2 b.rect.high.length cb2]] w (fun e_ w2_ => e_ = .returned (.bool (decide (a = b))) ∧ Below w.heap.size w w2_) := by
  refine fnc (X := X 16 w) (args := [.agg #[.int .i64 a.id, .slice Aa1 a.rect.low.length ca1, .slice Aa2 a.rect.high.length ca2], .agg #[.int .i64 b.id, .slice Ab1 b.rect.low.length cb1, .slice Ab2 b.rect.high.length cb2]]) (l := [(0, .agg #[.int .i64 a.id, .slice Aa1 a.rect.low.length ca1, .slice Aa2 a.rect.high.length ca2]), (1, .agg #[.int .i64 b.id, .slice Ab1 b.rect.low.length cb1, .slice Ab2 b.rect.high.length cb2])]) (G := [dat kPairS [.int .i64 b.id, .slice Ab1 b.rect.low.length cb1, .slice Ab2 b.rect.high.length cb2] b ([]) sb_, dat kPairS [.int .i64 a.id, .slice Aa1 a.rect.low.length ca1, .slice Aa2 a.rect.high.length ca2] a ([]) sa_]) Tryz.func60 rfl rfl rfl ⟨rfl, rfl, trivial⟩ (s0d hb (s0d ha (s0n w))).1 ?_
  refine sq (rg (bx rfl rfl rfl rfl ?_))
  intro b1
  refine bx rfl rfl rfl rfl ?_
  intro b2
  refine a_ rfl rfl (en (nx (sq (sq (rg (vl (fa rfl rfl rfl) rfl (vl (ldb (u := .int .i64 a.id) 1 rfl rfl rfl rfl rfl rfl rfl) rfl (vl (fa rfl rfl rfl) rfl (vl (ldb (u := .int .i64 b.id) 0 rfl rfl rfl rfl rfl rfl rfl) rfl (vl (cm rfl rfl rfl rfl) rfl (en (nx ?_))))))))))))
  by_cases h3 : a.id = b.id
  · refine cf rfl (bne_eq_false_iff_eq.2 h3) (sk (nx (sq (sq (rg (vl (fa rfl rfl rfl) rfl (vl (ldb 1 rfl rfl rfl rfl rfl rfl rfl) rfl (vl (fa rfl rfl rfl) rfl (vl (ldb 0 rfl rfl rfl rfl rfl rfl rfl) rfl ?_)))))))))
    refine gd 3 kPairS_p1_2 rfl (cs' := [.slice Aa1 a.rect.low.length ca1, .slice Aa2 a.rect.high.length ca2]) rfl fun s4 w_ rs4 us4 => ?_
    refine gd 3 kPairS_p1_2 rfl (cs' := [.slice Ab1 b.rect.low.length cb1, .slice Ab2 b.rect.high.length cb2]) rfl fun s5 w_ rs5 us5 => ?_
    refine cs_ (v := .bool (decide (a.rect = b.rect))) (by kernel_rfl) rfl rfl rfl (fun w_ hs_ => laws_eqRect w_ (hs_.at 1 rfl) (hs_.at 0 rfl)) (vl (nt rfl rfl) rfl (en (nx ?_)))
    by_cases h6 : decide (a.rect = b.rect) = true
    · refine cf rfl (not_f h6) (sk (nx (sq (rg (a_ rfl rfl (en (nx (rt (ret1 rfl rfl (fun w_ hs_ => ⟨?_, hs_.below⟩))))))))))
      rw [Pair_eq]; simp [h3, h6]
    · refine ct rfl (not_t (Bool.eq_false_iff.2 h6)) (sq (rg (a_ rfl rfl (en (nx (rt (xr (ret1 rfl rfl (fun w_ hs_ => ⟨?_, hs_.below⟩)))))))))
      rw [Pair_eq]; simp [h3, h6]
  · refine ct rfl (bne_iff_ne.2 h3) (sq (rg (a_ rfl rfl (en (nx (rt (xr (ret1 rfl rfl (fun w_ hs_ => ⟨?_, hs_.below⟩)))))))))
    rw [Pair_eq]; simp [h3]
/-! laws.eqPairS -/
set_option maxRecDepth 20000 in
set_option maxHeartbeats 2000000 in
theorem laws_eqPairS (w : World) {Aa : Option Addr} {ca : Nat} {a : List Pair} {sa_ : List Nat} (ha : (Kd.sl kPairS).Rel w [.slice Aa a.length ca] a [] sa_) {Ab : Option Addr} {cb : Nat} {b : List Pair} {sb_ : List Nat} (hb : (Kd.sl kPairS).Rel w [.slice Ab b.length cb] b [] sb_)  : Calls Tryz.prog 28 #[.slice Aa a.length ca, .slice Ab b.length cb] w (fun e_ w2_ => e_ = .returned (.bool (decide (a = b))) ∧ Below w.heap.size w w2_) := by
  have La := Kd.sl_len ha; have Ca := Kd.sl_cap ha
  have Lb := Kd.sl_len hb; have Cb := Kd.sl_cap hb
  refine fnc (X := X 27 w) (args := [.slice Aa a.length ca, .slice Ab b.length cb]) (l := [(0, .slice Aa a.length ca), (1, .slice Ab b.length cb)]) (G := [dat (Kd.sl kPairS) [.slice Ab b.length cb] b ([]) sb_, dat (Kd.sl kPairS) [.slice Aa a.length ca] a ([]) sa_]) Tryz.func28 rfl rfl rfl ⟨rfl, rfl, trivial⟩ (s0d hb (s0d ha (s0n w))).1 ?_
  refine sq (rg (a_ rfl rfl (en (nx (sq (sq (rg (m_ rfl rfl (vl (ln rfl rfl rfl) rfl (m_ rfl rfl (vl (ln rfl rfl rfl) rfl (vl (cm rfl rfl rfl rfl) rfl (en (nx ?_))))))))))))))
  by_cases h1 : ((a.length : Nat) : Int) = ((b.length : Nat) : Int)
  · refine cf rfl (bne_eq_false_iff_eq.2 h1) (sk (nx (sq (sq (rg (a_ rfl rfl (en (nx (bk ?_)))))))))
    refine lp (σ := Nat) (fun k : Nat => [(0, .slice Aa a.length ca), (1, .slice Ab b.length cb), (5, .int .i64 ((k : Nat) : Int))])
        (fun k : Nat => [dat (Kd.sl kPairS) [.slice Ab b.length cb] b ([]) sb_, dat (Kd.sl kPairS) [.slice Aa a.length ca] a ([]) sa_])
        (fun k : Nat => k ≤ a.length ∧ ∀ j x y, j < k → a[j]? = some x → b[j]? = some y → x = y) (fun k : Nat => a.length - k) 0 [0, 0] ⟨Nat.zero_le _, by simp⟩ ⟨rfl, rfl, rfl, trivial⟩ rfl ?_
    intro k hp_
    obtain ⟨hk, hinv⟩ := hp_
    refine sq (sq (rg (m_ rfl rfl (m_ rfl rfl (vl (ln rfl rfl rfl) rfl (vl (cm rfl rfl rfl rfl) rfl (en (nx ?_))))))))
    by_cases h2 : ((k : Nat) : Int) < ((a.length : Nat) : Int)
    · refine ct rfl (decide_eq_true h2) (sk (nx (sq (bk (sq ?_)))))
      refine gx 1 k rfl (by omega) fun y8 p3 cs_ s4 w7 m9 e5 r6 us4 => ?_
      obtain ⟨A10, c11, A12, c13, rfl⟩ := kPairS_sh r6
      refine gx 1 k rfl (by omega) fun y19 p14 cs_ s15 w18 m20 e16 r17 us15 => ?_
      obtain ⟨A21, c22, A23, c24, rfl⟩ := kPairS_sh r17
      refine gp 1 Kd.Sub.rfl rfl (cs' := [.int .i64 y8.id, .slice A10 y8.rect.low.length c11, .slice A12 y8.rect.high.length c13]) rfl fun s25 w_ rs25 us25 => ?_
      refine gp 1 Kd.Sub.rfl rfl (cs' := [.int .i64 y19.id, .slice A21 y19.rect.low.length c22, .slice A23 y19.rect.high.length c24]) rfl fun s26 w_ rs26 us26 => ?_
      refine r0 (qv 0 rfl (mv rfl rfl) rfl (by kernel_rfl) (qv 1 rfl (mv rfl rfl) rfl (by kernel_rfl) (qv 2 rfl (ix k e5 rfl rfl rfl rfl rfl (by omega)) rfl (by kernel_rfl) (qv 3 rfl (ldq 3 rfl rfl rfl rfl rfl rfl rfl) rfl (by kernel_rfl) (qv 4 rfl (mv rfl rfl) rfl (by kernel_rfl) (qv 5 rfl (mv rfl rfl) rfl (by kernel_rfl) (qv 6 rfl (ix k e16 rfl rfl rfl rfl rfl (by omega)) rfl (by kernel_rfl) (qv 7 rfl (ldq 2 rfl rfl rfl rfl rfl rfl rfl) rfl (by kernel_rfl) (q1 8 [0, 0, 0, 0, 0, 0] rfl (by kernel_rfl) rfl (cs_ (v := .bool (decide (y8 = y19))) (by kernel_rfl) rfl rfl rfl (fun w_ hs_ => by exact laws_eqPair w_ (hs_.at 1 rfl) (hs_.at 0 rfl)) (qn (qv 9 rfl (nt rfl rfl) rfl (by kernel_rfl) (qe [0, 0, 0, 0, 0, 0] (by kernel_rfl) rfl (nx ?_))))))))))))))
      by_cases h27 : decide (y8 = y19) = true
      · exact cf rfl (not_f h27) (sk (xn (nx (rg (m_ rfl rfl (vl (ra (c := ((k + 1 : Nat) : Int)) rfl rfl rfl (by omega) (by omega) (by omega)) rfl (a_ rfl rfl (en (lpe (s := k) (k + 1) [4, 4] ⟨by omega, eq_step hinv m9 m20 (by simpa using h27)⟩ (by omega) ⟨rfl, rfl, rfl, trivial⟩ rfl)))))))))
      · refine ct rfl (not_t (Bool.eq_false_iff.2 h27)) (sq (rg (a_ rfl rfl (en (nx (rt (xrb (xr (xr (xrb (xr (ret1 rfl rfl (fun w_ hs_ => ⟨?_, hs_.below⟩)))))))))))))
        exact rb (eqS_f m9 m20 (by simpa using h27)).symm
    · refine cf rfl (decide_eq_false h2) (xt (xq (xq (xb (nx (sq (rg (a_ rfl rfl (en (nx (rt (ret1 rfl rfl (fun w_ hs_ => ⟨?_, hs_.below⟩)))))))))))))
      exact rb (eqS_t (by omega) hinv (by omega)).symm
  · refine ct rfl (bne_iff_ne.2 h1) (sq (rg (a_ rfl rfl (en (nx (rt (xr (ret1 rfl rfl (fun w_ hs_ => ⟨?_, hs_.below⟩)))))))))
    exact rb (by rw [eq_comm, decide_eq_false_iff_not]; rintro rfl; exact h1 rfl)
/-! laws.eqQuery -/
set_option maxRecDepth 20000 in
set_option maxHeartbeats 2000000 in
theorem laws_eqQuery (w : World) {Aa1 : Option Addr} {ca1 : Nat} {Aa2 : Option Addr} {ca2 : Nat} {Aa3 : Option Addr} {ca3 : Nat} {a : Query} {sa_ : List Nat} (ha : kQueryS.Rel w [.int .i64 a.kind, .slice Aa1 a.rect.low.length ca1, .slice Aa2 a.rect.high.length ca2, .slice Aa3 a.point.length ca3, .int .i64 a.k] a [] sa_) {Ab1 : Option Addr} {cb1 : Nat} {Ab2 : Option Addr} {cb2 : Nat} {Ab3 : Option Addr} {cb3 : Nat} {b : Query} {sb_ : List Nat} (hb : kQueryS.Rel w [.int .i64 b.kind, .slice Ab1 b.rect.low.length cb1, .slice Ab2 b.rect.high.length cb2, .slice Ab3 b.point.length cb3, .int .i64 b.k] b [] sb_)  : Calls Tryz.prog 101 #[.agg #[.int .i64 a.kind, .slice Aa1 a.rect.low.length ca1, .slice Aa2 a.rect.high.length ca2, .slice Aa3 a.point.length ca3, .int .i64 a.k], .agg #[.int .i64 b.kind, .slice Ab1 b.rect.low.length cb1, .slice Ab2 b.rect.high.length cb2, .slice Ab3 b.point.length cb3, .int .i64 b.k]] w (fun e_ w2_ => e_ = .returned (.bool (decide (a = b))) ∧ Below w.heap.size w w2_) := by
  refine fnc (X := X 27 w) (args := [.agg #[.int .i64 a.kind, .slice Aa1 a.rect.low.length ca1, .slice Aa2 a.rect.high.length ca2, .slice Aa3 a.point.length ca3, .int .i64 a.k], .agg #[.int .i64 b.kind, .slice Ab1 b.rect.low.length cb1, .slice Ab2 b.rect.high.length cb2, .slice Ab3 b.point.length cb3, .int .i64 b.k]]) (l := [(0, .agg #[.int .i64 a.kind, .slice Aa1 a.rect.low.length ca1, .slice Aa2 a.rect.high.length ca2, .slice Aa3 a.point.length ca3, .int .i64 a.k]), (1, .agg #[.int .i64 b.kind, .slice Ab1 b.rect.low.length cb1, .slice Ab2 b.rect.high.length cb2, .slice Ab3 b.point.length cb3, .int .i64 b.k])]) (G := [dat kQueryS [.int .i64 b.kind, .slice Ab1 b.rect.low.length cb1, .slice Ab2 b.rect.high.length cb2, .slice Ab3 b.point.length cb3, .int .i64 b.k] b ([]) sb_, dat kQueryS [.int .i64 a.kind, .slice Aa1 a.rect.low.length ca1, .slice Aa2 a.rect.high.length ca2, .slice Aa3 a.point.length ca3, .int .i64 a.k] a ([]) sa_]) Tryz.func101 rfl rfl rfl ⟨rfl, rfl, trivial⟩ (s0d hb (s0d ha (s0n w))).1 ?_
  refine sq (rg (bx rfl rfl rfl rfl ?_))
  intro b1
  refine bx rfl rfl rfl rfl ?_
  intro b2
  refine a_ rfl rfl (en (nx (sq (sq (rg (vl (fa rfl rfl rfl) rfl (vl (ldb (u := .int .i64 a.kind) 1 rfl rfl rfl rfl rfl rfl rfl) rfl (vl (fa rfl rfl rfl) rfl (vl (ldb (u := .int .i64 b.kind) 0 rfl rfl rfl rfl rfl rfl rfl) rfl (vl (cm rfl rfl rfl rfl) rfl (en (nx ?_))))))))))))
  by_cases h3 : a.kind = b.kind
  · refine cf rfl (bne_eq_false_iff_eq.2 h3) (sk (nx (sq (sq (rg (vl (fa rfl rfl rfl) rfl (vl (ldb 1 rfl rfl rfl rfl rfl rfl rfl) rfl (vl (fa rfl rfl rfl) rfl (vl (ldb 0 rfl rfl rfl rfl rfl rfl rfl) rfl ?_)))))))))
    refine gd 3 kQueryS_p1_2 rfl (cs' := [.slice Aa1 a.rect.low.length ca1, .slice Aa2 a.rect.high.length ca2]) rfl fun s4 w_ rs4 us4 => ?_
    refine gd 3 kQueryS_p1_2 rfl (cs' := [.slice Ab1 b.rect.low.length cb1, .slice Ab2 b.rect.high.length cb2]) rfl fun s5 w_ rs5 us5 => ?_
    refine cs_ (v := .bool (decide (a.rect = b.rect))) (by kernel_rfl) rfl rfl rfl (fun w_ hs_ => laws_eqRect w_ (hs_.at 1 rfl) (hs_.at 0 rfl)) (vl (nt rfl rfl) rfl (en (nx ?_)))
    by_cases h6 : decide (a.rect = b.rect) = true
    · refine cf rfl (not_f h6) (sk (nx (sq (sq (rg (vl (fa rfl rfl rfl) rfl (vl (ldb (u := .slice Aa3 a.point.length ca3) 3 rfl rfl rfl rfl rfl rfl rfl) rfl (vl (fa rfl rfl rfl) rfl (vl (ldb (u := .slice Ab3 b.point.length cb3) 2 rfl rfl rfl rfl rfl rfl rfl) rfl ?_)))))))))
      refine gd 5 kQueryS_p3_1 rfl (cs' := [.slice Aa3 a.point.length ca3]) rfl fun s7 w_ rs7 us7 => ?_
      have Ls7 := Kd.sl_len rs7; have Cs7 := Kd.sl_cap rs7
      refine gd 5 kQueryS_p3_1 rfl (cs' := [.slice Ab3 b.point.length cb3]) rfl fun s8 w_ rs8 us8 => ?_
      have Ls8 := Kd.sl_len rs8; have Cs8 := Kd.sl_cap rs8
      refine cs_ (v := .bool (decide (a.point = b.point))) (by kernel_rfl) rfl rfl rfl (fun w_ hs_ => laws_eqInt64S w_ (hs_.at 1 rfl) (hs_.at 0 rfl)) (vl (nt rfl rfl) rfl (en (nx ?_)))
      by_cases h9 : decide (a.point = b.point) = true
      · refine cf rfl (not_f h9) (sk (nx (sq (sq (rg (vl (fa rfl rfl rfl) rfl (vl (ldb (u := .int .i64 a.k) 5 rfl rfl rfl rfl rfl rfl rfl) rfl (vl (fa rfl rfl rfl) rfl (vl (ldb (u := .int .i64 b.k) 4 rfl rfl rfl rfl rfl rfl rfl) rfl (vl (cm rfl rfl rfl rfl) rfl (en (nx ?_))))))))))))
        by_cases h10 : a.k = b.k
        · refine cf rfl (bne_eq_false_iff_eq.2 h10) (sk (nx (sq (rg (a_ rfl rfl (en (nx (rt (ret1 rfl rfl (fun w_ hs_ => ⟨?_, hs_.below⟩))))))))))
          rw [Query_eq]; simp [h3, h6, h9, h10]
        · refine ct rfl (bne_iff_ne.2 h10) (sq (rg (a_ rfl rfl (en (nx (rt (xr (ret1 rfl rfl (fun w_ hs_ => ⟨?_, hs_.below⟩)))))))))
          rw [Query_eq]; simp [h3, h6, h9, h10]
      · refine ct rfl (not_t (Bool.eq_false_iff.2 h9)) (sq (rg (a_ rfl rfl (en (nx (rt (xr (ret1 rfl rfl (fun w_ hs_ => ⟨?_, hs_.below⟩)))))))))
        rw [Query_eq]; simp [h3, h6, h9]
    · refine ct rfl (not_t (Bool.eq_false_iff.2 h6)) (sq (rg (a_ rfl rfl (en (nx (rt (xr (ret1 rfl rfl (fun w_ hs_ => ⟨?_, hs_.below⟩)))))))))
      rw [Query_eq]; simp [h3, h6]
  · refine ct rfl (bne_iff_ne.2 h3) (sq (rg (a_ rfl rfl (en (nx (rt (xr (ret1 rfl rfl (fun w_ hs_ => ⟨?_, hs_.below⟩)))))))))
    rw [Query_eq]; simp [h3]
/-! laws.eqOp -/
set_option maxRecDepth 20000 in
set_option maxHeartbeats 2000000 in
theorem laws_eqOp (w : World) {Aa2 : Option Addr} {ca2 : Nat} {Aa3 : Option Addr} {ca3 : Nat} {Aa5 : Option Addr} {ca5 : Nat} {Aa6 : Option Addr} {ca6 : Nat} {Aa7 : Option Addr} {ca7 : Nat} {a : Op} {sa_ : List Nat} (ha : kOpS.Rel w [.int .i64 a.kind, .int .i64 a.pair.id, .slice Aa2 a.pair.rect.low.length ca2, .slice Aa3 a.pair.rect.high.length ca3, .int .i64 a.query.kind, .slice Aa5 a.query.rect.low.length ca5, .slice Aa6 a.query.rect.high.length ca6, .slice Aa7 a.query.point.length ca7, .int .i64 a.query.k] a [] sa_) {Ab2 : Option Addr} {cb2 : Nat} {Ab3 : Option Addr} {cb3 : Nat} {Ab5 : Option Addr} {cb5 : Nat} {Ab6 : Option Addr} {cb6 : Nat} {Ab7 : Option Addr} {cb7 : Nat} {b : Op} {sb_ : List Nat} (hb : kOpS.Rel w [.int .i64 b.kind, .int .i64 b.pair.id, .slice Ab2 b.pair.rect.low.length cb2, .slice Ab3 b.pair.rect.high.length cb3, .int .i64 b.query.kind, .slice Ab5 b.query.rect.low.length cb5, .slice Ab6 b.query.rect.high.length cb6, .slice Ab7 b.query.point.length cb7, .int .i64 b.query.k] b [] sb_)  : Calls Tryz.prog 61 #[.agg #[.int .i64 a.kind, .int .i64 a.pair.id, .slice Aa2 a.pair.rect.low.length ca2, .slice Aa3 a.pair.rect.high.length ca3, .int .i64 a.query.kind, .slice Aa5 a.query.rect.low.length ca5, .slice Aa6 a.query.rect.high.length ca6, .slice Aa7 a.query.point.length ca7, .int .i64 a.query.k], .agg #[.int .i64 b.kind, .int .i64 b.pair.id, .slice Ab2 b.pair.rect.low.length cb2, .slice Ab3 b.pair.rect.high.length cb3, .int .i64 b.query.kind, .slice Ab5 b.query.rect.low.length cb5, .slice Ab6 b.query.rect.high.length cb6, .slice Ab7 b.query.point.length cb7, .int .i64 b.query.k]] w (fun e_ w2_ => e_ = .returned (.bool (decide (a = b))) ∧ Below w.heap.size w w2_) := by
  refine fnc (X := X 22 w) (args := [.agg #[.int .i64 a.kind, .int .i64 a.pair.id, .slice Aa2 a.pair.rect.low.length ca2, .slice Aa3 a.pair.rect.high.length ca3, .int .i64 a.query.kind, .slice Aa5 a.query.rect.low.length ca5, .slice Aa6 a.query.rect.high.length ca6, .slice Aa7 a.query.point.length ca7, .int .i64 a.query.k], .agg #[.int .i64 b.kind, .int .i64 b.pair.id, .slice Ab2 b.pair.rect.low.length cb2, .slice Ab3 b.pair.rect.high.length cb3, .int .i64 b.query.kind, .slice Ab5 b.query.rect.low.length cb5, .slice Ab6 b.query.rect.high.length cb6, .slice Ab7 b.query.point.length cb7, .int .i64 b.query.k]]) (l := [(0, .agg #[.int .i64 a.kind, .int .i64 a.pair.id, .slice Aa2 a.pair.rect.low.length ca2, .slice Aa3 a.pair.rect.high.length ca3, .int .i64 a.query.kind, .slice Aa5 a.query.rect.low.length ca5, .slice Aa6 a.query.rect.high.length ca6, .slice Aa7 a.query.point.length ca7, .int .i64 a.query.k]), (1, .agg #[.int .i64 b.kind, .int .i64 b.pair.id, .slice Ab2 b.pair.rect.low.length cb2, .slice Ab3 b.pair.rect.high.length cb3, .int .i64 b.query.kind, .slice Ab5 b.query.rect.low.length cb5, .slice Ab6 b.query.rect.high.length cb6, .slice Ab7 b.query.point.length cb7, .int .i64 b.query.k])]) (G := [dat kOpS [.int .i64 b.kind, .int .i64 b.pair.id, .slice Ab2 b.pair.rect.low.length cb2, .slice Ab3 b.pair.rect.high.length cb3, .int .i64 b.query.kind, .slice Ab5 b.query.rect.low.length cb5, .slice Ab6 b.query.rect.high.length cb6, .slice Ab7 b.query.point.length cb7, .int .i64 b.query.k] b ([]) sb_, dat kOpS [.int .i64 a.kind, .int .i64 a.pair.id, .slice Aa2 a.pair.rect.low.length ca2, .slice Aa3 a.pair.rect.high.length ca3, .int .i64 a.query.kind, .slice Aa5 a.query.rect.low.length ca5, .slice Aa6 a.query.rect.high.length ca6, .slice Aa7 a.query.point.length ca7, .int .i64 a.query.k] a ([]) sa_]) Tryz.func61 rfl rfl rfl ⟨rfl, rfl, trivial⟩ (s0d hb (s0d ha (s0n w))).1 ?_
  refine sq (rg (bx rfl rfl rfl rfl ?_))
  intro b1
  refine bx rfl rfl rfl rfl ?_
  intro b2
  refine a_ rfl rfl (en (nx (sq (sq (rg (vl (fa rfl rfl rfl) rfl (vl (ldb (u := .int .i64 a.kind) 1 rfl rfl rfl rfl rfl rfl rfl) rfl (vl (fa rfl rfl rfl) rfl (vl (ldb (u := .int .i64 b.kind) 0 rfl rfl rfl rfl rfl rfl rfl) rfl (vl (cm rfl rfl rfl rfl) rfl (en (nx ?_))))))))))))
  by_cases h3 : a.kind = b.kind
  · refine cf rfl (bne_eq_false_iff_eq.2 h3) (sk (nx (sq (sq (rg (vl (fa rfl rfl rfl) rfl (vl (ldb 1 rfl rfl rfl rfl rfl rfl rfl) rfl (vl (fa rfl rfl rfl) rfl (vl (ldb 0 rfl rfl rfl rfl rfl rfl rfl) rfl ?_)))))))))
    refine gd 3 kOpS_p1_3 rfl (cs' := [.int .i64 a.pair.id, .slice Aa2 a.pair.rect.low.length ca2, .slice Aa3 a.pair.rect.high.length ca3]) rfl fun s4 w_ rs4 us4 => ?_
    refine gd 3 kOpS_p1_3 rfl (cs' := [.int .i64 b.pair.id, .slice Ab2 b.pair.rect.low.length cb2, .slice Ab3 b.pair.rect.high.length cb3]) rfl fun s5 w_ rs5 us5 => ?_
    refine cs_ (v := .bool (decide (a.pair = b.pair))) (by kernel_rfl) rfl rfl rfl (fun w_ hs_ => laws_eqPair w_ (hs_.at 1 rfl) (hs_.at 0 rfl)) (vl (nt rfl rfl) rfl (en (nx ?_)))
    by_cases h6 : decide (a.pair = b.pair) = true
    · refine cf rfl (not_f h6) (sk (nx (sq (sq (rg (vl (fa rfl rfl rfl) rfl (vl (ldb 3 rfl rfl rfl rfl rfl rfl rfl) rfl (vl (fa rfl rfl rfl) rfl (vl (ldb 2 rfl rfl rfl rfl rfl rfl rfl) rfl ?_)))))))))
      refine gd 5 kOpS_p4_5 rfl (cs' := [.int .i64 a.query.kind, .slice Aa5 a.query.rect.low.length ca5, .slice Aa6 a.query.rect.high.length ca6, .slice Aa7 a.query.point.length ca7, .int .i64 a.query.k]) rfl fun s7 w_ rs7 us7 => ?_
      refine gd 5 kOpS_p4_5 rfl (cs' := [.int .i64 b.query.kind, .slice Ab5 b.query.rect.low.length cb5, .slice Ab6 b.query.rect.high.length cb6, .slice Ab7 b.query.point.length cb7, .int .i64 b.query.k]) rfl fun s8 w_ rs8 us8 => ?_
      refine cs_ (v := .bool (decide (a.query = b.query))) (by kernel_rfl) rfl rfl rfl (fun w_ hs_ => laws_eqQuery w_ (hs_.at 1 rfl) (hs_.at 0 rfl)) (vl (nt rfl rfl) rfl (en (nx ?_)))
      by_cases h9 : decide (a.query = b.query) = true
      · refine cf rfl (not_f h9) (sk (nx (sq (rg (a_ rfl rfl (en (nx (rt (ret1 rfl rfl (fun w_ hs_ => ⟨?_, hs_.below⟩))))))))))
        rw [Op_eq]; simp [h3, h6, h9]
      · refine ct rfl (not_t (Bool.eq_false_iff.2 h9)) (sq (rg (a_ rfl rfl (en (nx (rt (xr (ret1 rfl rfl (fun w_ hs_ => ⟨?_, hs_.below⟩)))))))))
        rw [Op_eq]; simp [h3, h6, h9]
    · refine ct rfl (not_t (Bool.eq_false_iff.2 h6)) (sq (rg (a_ rfl rfl (en (nx (rt (xr (ret1 rfl rfl (fun w_ hs_ => ⟨?_, hs_.below⟩)))))))))
      rw [Op_eq]; simp [h3, h6]
  · refine ct rfl (bne_iff_ne.2 h3) (sq (rg (a_ rfl rfl (en (nx (rt (xr (ret1 rfl rfl (fun w_ hs_ => ⟨?_, hs_.below⟩)))))))))
    rw [Op_eq]; simp [h3]
/-! laws.eqAnswer -/
set_option maxRecDepth 20000 in
set_option maxHeartbeats 2000000 in
theorem laws_eqAnswer (w : World) {Aa1 : Option Addr} {ca1 : Nat} {a : Answer} {sa_ : List Nat} (ha : kAnswerS.Rel w [.int .i64 a.code, .slice Aa1 a.pairs.length ca1] a [] sa_) {Ab1 : Option Addr} {cb1 : Nat} {b : Answer} {sb_ : List Nat} (hb : kAnswerS.Rel w [.int .i64 b.code, .slice Ab1 b.pairs.length cb1] b [] sb_)  : Calls Tryz.prog 62 #[.agg #[.int .i64 a.code, .slice Aa1 a.pairs.length ca1], .agg #[.int .i64 b.code, .slice Ab1 b.pairs.length cb1]] w (fun e_ w2_ => e_ = .returned (.bool (decide (a = b))) ∧ Below w.heap.size w w2_) := by
  refine fnc (X := X 16 w) (args := [.agg #[.int .i64 a.code, .slice Aa1 a.pairs.length ca1], .agg #[.int .i64 b.code, .slice Ab1 b.pairs.length cb1]]) (l := [(0, .agg #[.int .i64 a.code, .slice Aa1 a.pairs.length ca1]), (1, .agg #[.int .i64 b.code, .slice Ab1 b.pairs.length cb1])]) (G := [dat kAnswerS [.int .i64 b.code, .slice Ab1 b.pairs.length cb1] b ([]) sb_, dat kAnswerS [.int .i64 a.code, .slice Aa1 a.pairs.length ca1] a ([]) sa_]) Tryz.func62 rfl rfl rfl ⟨rfl, rfl, trivial⟩ (s0d hb (s0d ha (s0n w))).1 ?_
  refine sq (rg (bx rfl rfl rfl rfl ?_))
  intro b1
  refine bx rfl rfl rfl rfl ?_
  intro b2
  refine a_ rfl rfl (en (nx (sq (sq (rg (vl (fa rfl rfl rfl) rfl (vl (ldb (u := .int .i64 a.code) 1 rfl rfl rfl rfl rfl rfl rfl) rfl (vl (fa rfl rfl rfl) rfl (vl (ldb (u := .int .i64 b.code) 0 rfl rfl rfl rfl rfl rfl rfl) rfl (vl (cm rfl rfl rfl rfl) rfl (en (nx ?_))))))))))))
  by_cases h3 : a.code = b.code
  · refine cf rfl (bne_eq_false_iff_eq.2 h3) (sk (nx (sq (sq (rg (vl (fa rfl rfl rfl) rfl (vl (ldb (u := .slice Aa1 a.pairs.length ca1) 1 rfl rfl rfl rfl rfl rfl rfl) rfl (vl (fa rfl rfl rfl) rfl (vl (ldb (u := .slice Ab1 b.pairs.length cb1) 0 rfl rfl rfl rfl rfl rfl rfl) rfl ?_)))))))))
    refine gd 3 kAnswerS_p1_1 rfl (cs' := [.slice Aa1 a.pairs.length ca1]) rfl fun s4 w_ rs4 us4 => ?_
    have Ls4 := Kd.sl_len rs4; have Cs4 := Kd.sl_cap rs4
    refine gd 3 kAnswerS_p1_1 rfl (cs' := [.slice Ab1 b.pairs.length cb1]) rfl fun s5 w_ rs5 us5 => ?_
    have Ls5 := Kd.sl_len rs5; have Cs5 := Kd.sl_cap rs5
    refine cs_ (v := .bool (decide (a.pairs = b.pairs))) (by kernel_rfl) rfl rfl rfl (fun w_ hs_ => laws_eqPairS w_ (hs_.at 1 rfl) (hs_.at 0 rfl)) (vl (nt rfl rfl) rfl (en (nx ?_)))
    by_cases h6 : decide (a.pairs = b.pairs) = true
    · refine cf rfl (not_f h6) (sk (nx (sq (rg (a_ rfl rfl (en (nx (rt (ret1 rfl rfl (fun w_ hs_ => ⟨?_, hs_.below⟩))))))))))
      rw [Answer_eq]; simp [h3, h6]
    · refine ct rfl (not_t (Bool.eq_false_iff.2 h6)) (sq (rg (a_ rfl rfl (en (nx (rt (xr (ret1 rfl rfl (fun w_ hs_ => ⟨?_, hs_.below⟩)))))))))
      rw [Answer_eq]; simp [h3, h6]
  · refine ct rfl (bne_iff_ne.2 h3) (sq (rg (a_ rfl rfl (en (nx (rt (xr (ret1 rfl rfl (fun w_ hs_ => ⟨?_, hs_.below⟩)))))))))
    rw [Answer_eq]; simp [h3]
/-! laws.eqNote -/
set_option maxRecDepth 20000 in
set_option maxHeartbeats 2000000 in
theorem laws_eqNote (w : World) {Aa5 : Option Addr} {ca5 : Nat} {Aa6 : Option Addr} {ca6 : Nat} {Aa8 : Option Addr} {ca8 : Nat} {Aa9 : Option Addr} {ca9 : Nat} {Aa10 : Option Addr} {ca10 : Nat} {Aa13 : Option Addr} {ca13 : Nat} {a : Note} {sa_ : List Nat} (ha : kNoteS.Rel w [.int .i64 a.at_, .int .i64 a.kind, .int .i64 a.client, .int .i64 a.op.kind, .int .i64 a.op.pair.id, .slice Aa5 a.op.pair.rect.low.length ca5, .slice Aa6 a.op.pair.rect.high.length ca6, .int .i64 a.op.query.kind, .slice Aa8 a.op.query.rect.low.length ca8, .slice Aa9 a.op.query.rect.high.length ca9, .slice Aa10 a.op.query.point.length ca10, .int .i64 a.op.query.k, .int .i64 a.answer.code, .slice Aa13 a.answer.pairs.length ca13] a [] sa_) {Ab5 : Option Addr} {cb5 : Nat} {Ab6 : Option Addr} {cb6 : Nat} {Ab8 : Option Addr} {cb8 : Nat} {Ab9 : Option Addr} {cb9 : Nat} {Ab10 : Option Addr} {cb10 : Nat} {Ab13 : Option Addr} {cb13 : Nat} {b : Note} {sb_ : List Nat} (hb : kNoteS.Rel w [.int .i64 b.at_, .int .i64 b.kind, .int .i64 b.client, .int .i64 b.op.kind, .int .i64 b.op.pair.id, .slice Ab5 b.op.pair.rect.low.length cb5, .slice Ab6 b.op.pair.rect.high.length cb6, .int .i64 b.op.query.kind, .slice Ab8 b.op.query.rect.low.length cb8, .slice Ab9 b.op.query.rect.high.length cb9, .slice Ab10 b.op.query.point.length cb10, .int .i64 b.op.query.k, .int .i64 b.answer.code, .slice Ab13 b.answer.pairs.length cb13] b [] sb_)  : Calls Tryz.prog 29 #[.agg #[.int .i64 a.at_, .int .i64 a.kind, .int .i64 a.client, .int .i64 a.op.kind, .int .i64 a.op.pair.id, .slice Aa5 a.op.pair.rect.low.length ca5, .slice Aa6 a.op.pair.rect.high.length ca6, .int .i64 a.op.query.kind, .slice Aa8 a.op.query.rect.low.length ca8, .slice Aa9 a.op.query.rect.high.length ca9, .slice Aa10 a.op.query.point.length ca10, .int .i64 a.op.query.k, .int .i64 a.answer.code, .slice Aa13 a.answer.pairs.length ca13], .agg #[.int .i64 b.at_, .int .i64 b.kind, .int .i64 b.client, .int .i64 b.op.kind, .int .i64 b.op.pair.id, .slice Ab5 b.op.pair.rect.low.length cb5, .slice Ab6 b.op.pair.rect.high.length cb6, .int .i64 b.op.query.kind, .slice Ab8 b.op.query.rect.low.length cb8, .slice Ab9 b.op.query.rect.high.length cb9, .slice Ab10 b.op.query.point.length cb10, .int .i64 b.op.query.k, .int .i64 b.answer.code, .slice Ab13 b.answer.pairs.length cb13]] w (fun e_ w2_ => e_ = .returned (.bool (decide (a = b))) ∧ Below w.heap.size w w2_) := by
  refine fnc (X := X 32 w) (args := [.agg #[.int .i64 a.at_, .int .i64 a.kind, .int .i64 a.client, .int .i64 a.op.kind, .int .i64 a.op.pair.id, .slice Aa5 a.op.pair.rect.low.length ca5, .slice Aa6 a.op.pair.rect.high.length ca6, .int .i64 a.op.query.kind, .slice Aa8 a.op.query.rect.low.length ca8, .slice Aa9 a.op.query.rect.high.length ca9, .slice Aa10 a.op.query.point.length ca10, .int .i64 a.op.query.k, .int .i64 a.answer.code, .slice Aa13 a.answer.pairs.length ca13], .agg #[.int .i64 b.at_, .int .i64 b.kind, .int .i64 b.client, .int .i64 b.op.kind, .int .i64 b.op.pair.id, .slice Ab5 b.op.pair.rect.low.length cb5, .slice Ab6 b.op.pair.rect.high.length cb6, .int .i64 b.op.query.kind, .slice Ab8 b.op.query.rect.low.length cb8, .slice Ab9 b.op.query.rect.high.length cb9, .slice Ab10 b.op.query.point.length cb10, .int .i64 b.op.query.k, .int .i64 b.answer.code, .slice Ab13 b.answer.pairs.length cb13]]) (l := [(0, .agg #[.int .i64 a.at_, .int .i64 a.kind, .int .i64 a.client, .int .i64 a.op.kind, .int .i64 a.op.pair.id, .slice Aa5 a.op.pair.rect.low.length ca5, .slice Aa6 a.op.pair.rect.high.length ca6, .int .i64 a.op.query.kind, .slice Aa8 a.op.query.rect.low.length ca8, .slice Aa9 a.op.query.rect.high.length ca9, .slice Aa10 a.op.query.point.length ca10, .int .i64 a.op.query.k, .int .i64 a.answer.code, .slice Aa13 a.answer.pairs.length ca13]), (1, .agg #[.int .i64 b.at_, .int .i64 b.kind, .int .i64 b.client, .int .i64 b.op.kind, .int .i64 b.op.pair.id, .slice Ab5 b.op.pair.rect.low.length cb5, .slice Ab6 b.op.pair.rect.high.length cb6, .int .i64 b.op.query.kind, .slice Ab8 b.op.query.rect.low.length cb8, .slice Ab9 b.op.query.rect.high.length cb9, .slice Ab10 b.op.query.point.length cb10, .int .i64 b.op.query.k, .int .i64 b.answer.code, .slice Ab13 b.answer.pairs.length cb13])]) (G := [dat kNoteS [.int .i64 b.at_, .int .i64 b.kind, .int .i64 b.client, .int .i64 b.op.kind, .int .i64 b.op.pair.id, .slice Ab5 b.op.pair.rect.low.length cb5, .slice Ab6 b.op.pair.rect.high.length cb6, .int .i64 b.op.query.kind, .slice Ab8 b.op.query.rect.low.length cb8, .slice Ab9 b.op.query.rect.high.length cb9, .slice Ab10 b.op.query.point.length cb10, .int .i64 b.op.query.k, .int .i64 b.answer.code, .slice Ab13 b.answer.pairs.length cb13] b ([]) sb_, dat kNoteS [.int .i64 a.at_, .int .i64 a.kind, .int .i64 a.client, .int .i64 a.op.kind, .int .i64 a.op.pair.id, .slice Aa5 a.op.pair.rect.low.length ca5, .slice Aa6 a.op.pair.rect.high.length ca6, .int .i64 a.op.query.kind, .slice Aa8 a.op.query.rect.low.length ca8, .slice Aa9 a.op.query.rect.high.length ca9, .slice Aa10 a.op.query.point.length ca10, .int .i64 a.op.query.k, .int .i64 a.answer.code, .slice Aa13 a.answer.pairs.length ca13] a ([]) sa_]) Tryz.func29 rfl rfl rfl ⟨rfl, rfl, trivial⟩ (s0d hb (s0d ha (s0n w))).1 ?_
  refine sq (rg (bx rfl rfl rfl rfl ?_))
  intro b1
  refine bx rfl rfl rfl rfl ?_
  intro b2
  refine a_ rfl rfl (en (nx (sq (sq (rg (vl (fa rfl rfl rfl) rfl (vl (ldb (u := .int .i64 a.at_) 1 rfl rfl rfl rfl rfl rfl rfl) rfl (vl (fa rfl rfl rfl) rfl (vl (ldb (u := .int .i64 b.at_) 0 rfl rfl rfl rfl rfl rfl rfl) rfl (vl (cm rfl rfl rfl rfl) rfl (en (nx ?_))))))))))))
  by_cases h3 : a.at_ = b.at_
  · refine cf rfl (bne_eq_false_iff_eq.2 h3) (sk (nx (sq (sq (rg (vl (fa rfl rfl rfl) rfl (vl (ldb (u := .int .i64 a.kind) 1 rfl rfl rfl rfl rfl rfl rfl) rfl (vl (fa rfl rfl rfl) rfl (vl (ldb (u := .int .i64 b.kind) 0 rfl rfl rfl rfl rfl rfl rfl) rfl (vl (cm rfl rfl rfl rfl) rfl (en (nx ?_))))))))))))
    by_cases h4 : a.kind = b.kind
    · refine cf rfl (bne_eq_false_iff_eq.2 h4) (sk (nx (sq (sq (rg (vl (fa rfl rfl rfl) rfl (vl (ldb (u := .int .i64 a.client) 1 rfl rfl rfl rfl rfl rfl rfl) rfl (vl (fa rfl rfl rfl) rfl (vl (ldb (u := .int .i64 b.client) 0 rfl rfl rfl rfl rfl rfl rfl) rfl (vl (cm rfl rfl rfl rfl) rfl (en (nx ?_))))))))))))
      by_cases h5 : a.client = b.client
      · refine cf rfl (bne_eq_false_iff_eq.2 h5) (sk (nx (sq (sq (rg (vl (fa rfl rfl rfl) rfl (vl (ldb 1 rfl rfl rfl rfl rfl rfl rfl) rfl (vl (fa rfl rfl rfl) rfl (vl (ldb 0 rfl rfl rfl rfl rfl rfl rfl) rfl ?_)))))))))
        refine gd 3 kNoteS_p3_9 rfl (cs' := [.int .i64 a.op.kind, .int .i64 a.op.pair.id, .slice Aa5 a.op.pair.rect.low.length ca5, .slice Aa6 a.op.pair.rect.high.length ca6, .int .i64 a.op.query.kind, .slice Aa8 a.op.query.rect.low.length ca8, .slice Aa9 a.op.query.rect.high.length ca9, .slice Aa10 a.op.query.point.length ca10, .int .i64 a.op.query.k]) rfl fun s6 w_ rs6 us6 => ?_
        refine gd 3 kNoteS_p3_9 rfl (cs' := [.int .i64 b.op.kind, .int .i64 b.op.pair.id, .slice Ab5 b.op.pair.rect.low.length cb5, .slice Ab6 b.op.pair.rect.high.length cb6, .int .i64 b.op.query.kind, .slice Ab8 b.op.query.rect.low.length cb8, .slice Ab9 b.op.query.rect.high.length cb9, .slice Ab10 b.op.query.point.length cb10, .int .i64 b.op.query.k]) rfl fun s7 w_ rs7 us7 => ?_
        refine cs_ (v := .bool (decide (a.op = b.op))) (by kernel_rfl) rfl rfl rfl (fun w_ hs_ => laws_eqOp w_ (hs_.at 1 rfl) (hs_.at 0 rfl)) (vl (nt rfl rfl) rfl (en (nx ?_)))
        by_cases h8 : decide (a.op = b.op) = true
        · refine cf rfl (not_f h8) (sk (nx (sq (sq (rg (vl (fa rfl rfl rfl) rfl (vl (ldb 3 rfl rfl rfl rfl rfl rfl rfl) rfl (vl (fa rfl rfl rfl) rfl (vl (ldb 2 rfl rfl rfl rfl rfl rfl rfl) rfl ?_)))))))))
          refine gd 5 kNoteS_p12_2 rfl (cs' := [.int .i64 a.answer.code, .slice Aa13 a.answer.pairs.length ca13]) rfl fun s9 w_ rs9 us9 => ?_
          refine gd 5 kNoteS_p12_2 rfl (cs' := [.int .i64 b.answer.code, .slice Ab13 b.answer.pairs.length cb13]) rfl fun s10 w_ rs10 us10 => ?_
          refine cs_ (v := .bool (decide (a.answer = b.answer))) (by kernel_rfl) rfl rfl rfl (fun w_ hs_ => laws_eqAnswer w_ (hs_.at 1 rfl) (hs_.at 0 rfl)) (vl (nt rfl rfl) rfl (en (nx ?_)))
          by_cases h11 : decide (a.answer = b.answer) = true
          · refine cf rfl (not_f h11) (sk (nx (sq (rg (a_ rfl rfl (en (nx (rt (ret1 rfl rfl (fun w_ hs_ => ⟨?_, hs_.below⟩))))))))))
            rw [Note_eq]; simp [h3, h4, h5, h8, h11]
          · refine ct rfl (not_t (Bool.eq_false_iff.2 h11)) (sq (rg (a_ rfl rfl (en (nx (rt (xr (ret1 rfl rfl (fun w_ hs_ => ⟨?_, hs_.below⟩)))))))))
            rw [Note_eq]; simp [h3, h4, h5, h8, h11]
        · refine ct rfl (not_t (Bool.eq_false_iff.2 h8)) (sq (rg (a_ rfl rfl (en (nx (rt (xr (ret1 rfl rfl (fun w_ hs_ => ⟨?_, hs_.below⟩)))))))))
          rw [Note_eq]; simp [h3, h4, h5, h8]
      · refine ct rfl (bne_iff_ne.2 h5) (sq (rg (a_ rfl rfl (en (nx (rt (xr (ret1 rfl rfl (fun w_ hs_ => ⟨?_, hs_.below⟩)))))))))
        rw [Note_eq]; simp [h3, h4, h5]
    · refine ct rfl (bne_iff_ne.2 h4) (sq (rg (a_ rfl rfl (en (nx (rt (xr (ret1 rfl rfl (fun w_ hs_ => ⟨?_, hs_.below⟩)))))))))
      rw [Note_eq]; simp [h3, h4]
  · refine ct rfl (bne_iff_ne.2 h3) (sq (rg (a_ rfl rfl (en (nx (rt (xr (ret1 rfl rfl (fun w_ hs_ => ⟨?_, hs_.below⟩)))))))))
    rw [Note_eq]; simp [h3]
/-! laws.eqNoteS -/
set_option maxRecDepth 20000 in
set_option maxHeartbeats 2000000 in
theorem laws_eqNoteS (w : World) {Aa : Option Addr} {ca : Nat} {a : List Note} {sa_ : List Nat} (ha : (Kd.sl kNoteS).Rel w [.slice Aa a.length ca] a [] sa_) {Ab : Option Addr} {cb : Nat} {b : List Note} {sb_ : List Nat} (hb : (Kd.sl kNoteS).Rel w [.slice Ab b.length cb] b [] sb_)  : Calls Tryz.prog 11 #[.slice Aa a.length ca, .slice Ab b.length cb] w (fun e_ w2_ => e_ = .returned (.bool (decide (a = b))) ∧ Below w.heap.size w w2_) := by
  have La := Kd.sl_len ha; have Ca := Kd.sl_cap ha
  have Lb := Kd.sl_len hb; have Cb := Kd.sl_cap hb
  refine fnc (X := X 27 w) (args := [.slice Aa a.length ca, .slice Ab b.length cb]) (l := [(0, .slice Aa a.length ca), (1, .slice Ab b.length cb)]) (G := [dat (Kd.sl kNoteS) [.slice Ab b.length cb] b ([]) sb_, dat (Kd.sl kNoteS) [.slice Aa a.length ca] a ([]) sa_]) Tryz.func11 rfl rfl rfl ⟨rfl, rfl, trivial⟩ (s0d hb (s0d ha (s0n w))).1 ?_
  refine sq (rg (a_ rfl rfl (en (nx (sq (sq (rg (m_ rfl rfl (vl (ln rfl rfl rfl) rfl (m_ rfl rfl (vl (ln rfl rfl rfl) rfl (vl (cm rfl rfl rfl rfl) rfl (en (nx ?_))))))))))))))
  by_cases h1 : ((a.length : Nat) : Int) = ((b.length : Nat) : Int)
  · refine cf rfl (bne_eq_false_iff_eq.2 h1) (sk (nx (sq (sq (rg (a_ rfl rfl (en (nx (bk ?_)))))))))
    refine lp (σ := Nat) (fun k : Nat => [(0, .slice Aa a.length ca), (1, .slice Ab b.length cb), (5, .int .i64 ((k : Nat) : Int))])
        (fun k : Nat => [dat (Kd.sl kNoteS) [.slice Ab b.length cb] b ([]) sb_, dat (Kd.sl kNoteS) [.slice Aa a.length ca] a ([]) sa_])
        (fun k : Nat => k ≤ a.length ∧ ∀ j x y, j < k → a[j]? = some x → b[j]? = some y → x = y) (fun k : Nat => a.length - k) 0 [0, 0] ⟨Nat.zero_le _, by simp⟩ ⟨rfl, rfl, rfl, trivial⟩ rfl ?_
    intro k hp_
    obtain ⟨hk, hinv⟩ := hp_
    refine sq (sq (rg (m_ rfl rfl (m_ rfl rfl (vl (ln rfl rfl rfl) rfl (vl (cm rfl rfl rfl rfl) rfl (en (nx ?_))))))))
    by_cases h2 : ((k : Nat) : Int) < ((a.length : Nat) : Int)
    · refine ct rfl (decide_eq_true h2) (sk (nx (sq (bk (sq ?_)))))
      refine gx 1 k rfl (by omega) fun y8 p3 cs_ s4 w7 m9 e5 r6 us4 => ?_
      obtain ⟨A10, c11, A12, c13, A14, c15, A16, c17, A18, c19, A20, c21, rfl⟩ := kNoteS_sh r6
      refine gx 1 k rfl (by omega) fun y27 p22 cs_ s23 w26 m28 e24 r25 us23 => ?_
      obtain ⟨A29, c30, A31, c32, A33, c34, A35, c36, A37, c38, A39, c40, rfl⟩ := kNoteS_sh r25
      refine gp 1 Kd.Sub.rfl rfl (cs' := [.int .i64 y8.at_, .int .i64 y8.kind, .int .i64 y8.client, .int .i64 y8.op.kind, .int .i64 y8.op.pair.id, .slice A10 y8.op.pair.rect.low.length c11, .slice A12 y8.op.pair.rect.high.length c13, .int .i64 y8.op.query.kind, .slice A14 y8.op.query.rect.low.length c15, .slice A16 y8.op.query.rect.high.length c17, .slice A18 y8.op.query.point.length c19, .int .i64 y8.op.query.k, .int .i64 y8.answer.code, .slice A20 y8.answer.pairs.length c21]) rfl fun s41 w_ rs41 us41 => ?_
      refine gp 1 Kd.Sub.rfl rfl (cs' := [.int .i64 y27.at_, .int .i64 y27.kind, .int .i64 y27.client, .int .i64 y27.op.kind, .int .i64 y27.op.pair.id, .slice A29 y27.op.pair.rect.low.length c30, .slice A31 y27.op.pair.rect.high.length c32, .int .i64 y27.op.query.kind, .slice A33 y27.op.query.rect.low.length c34, .slice A35 y27.op.query.rect.high.length c36, .slice A37 y27.op.query.point.length c38, .int .i64 y27.op.query.k, .int .i64 y27.answer.code, .slice A39 y27.answer.pairs.length c40]) rfl fun s42 w_ rs42 us42 => ?_
      refine r0 (qv 0 rfl (mv rfl rfl) rfl (by kernel_rfl) (qv 1 rfl (mv rfl rfl) rfl (by kernel_rfl) (qv 2 rfl (ix k e5 rfl rfl rfl rfl rfl (by omega)) rfl (by kernel_rfl) (qv 3 rfl (ldq 3 rfl rfl rfl rfl rfl rfl rfl) rfl (by kernel_rfl) (qv 4 rfl (mv rfl rfl) rfl (by kernel_rfl) (qv 5 rfl (mv rfl rfl) rfl (by kernel_rfl) (qv 6 rfl (ix k e24 rfl rfl rfl rfl rfl (by omega)) rfl (by kernel_rfl) (qv 7 rfl (ldq 2 rfl rfl rfl rfl rfl rfl rfl) rfl (by kernel_rfl) (q1 8 [0, 0, 0, 0, 0, 0] rfl (by kernel_rfl) rfl (cs_ (v := .bool (decide (y8 = y27))) (by kernel_rfl) rfl rfl rfl (fun w_ hs_ => by exact laws_eqNote w_ (hs_.at 1 rfl) (hs_.at 0 rfl)) (qn (qv 9 rfl (nt rfl rfl) rfl (by kernel_rfl) (qe [0, 0, 0, 0, 0, 0] (by kernel_rfl) rfl (nx ?_))))))))))))))
      by_cases h43 : decide (y8 = y27) = true
      · exact cf rfl (not_f h43) (sk (xn (nx (rg (m_ rfl rfl (vl (ra (c := ((k + 1 : Nat) : Int)) rfl rfl rfl (by omega) (by omega) (by omega)) rfl (a_ rfl rfl (en (lpe (s := k) (k + 1) [4, 4] ⟨by omega, eq_step hinv m9 m28 (by simpa using h43)⟩ (by omega) ⟨rfl, rfl, rfl, trivial⟩ rfl)))))))))
      · refine ct rfl (not_t (Bool.eq_false_iff.2 h43)) (sq (rg (a_ rfl rfl (en (nx (rt (xrb (xr (xr (xrb (xr (ret1 rfl rfl (fun w_ hs_ => ⟨?_, hs_.below⟩)))))))))))))
        exact rb (eqS_f m9 m28 (by simpa using h43)).symm
    · refine cf rfl (decide_eq_false h2) (xt (xq (xq (xb (nx (sq (rg (a_ rfl rfl (en (nx (rt (ret1 rfl rfl (fun w_ hs_ => ⟨?_, hs_.below⟩)))))))))))))
      exact rb (eqS_t (by omega) hinv (by omega)).symm
  · refine ct rfl (bne_iff_ne.2 h1) (sq (rg (a_ rfl rfl (en (nx (rt (xr (ret1 rfl rfl (fun w_ hs_ => ⟨?_, hs_.below⟩)))))))))
    exact rb (by rw [eq_comm, decide_eq_false_iff_not]; rintro rfl; exact h1 rfl)
def szRect (r : Rect) : Int := (r.low.length : Int) + (r.high.length : Int)
theorem szRect_nn (r : Rect) : 0 ≤ szRect r := by unfold szRect; omega
def szPair (p : Pair) : Int := szRect p.rect
theorem szPair_nn (p : Pair) : 0 ≤ szPair p := szRect_nn _
def szList {α : Type} (f : α → Int) (l : List α) : Int := (l.length : Int) + (l.map f).sum
theorem szList_nn {α : Type} {f : α → Int} (hf : ∀ x, 0 ≤ f x) (l : List α) : 0 ≤ szList f l := by have := sum_nn hf l; unfold szList; omega
def szQuery (q : Query) : Int := szRect q.rect + (q.point.length : Int)
theorem szQuery_nn (q : Query) : 0 ≤ szQuery q := by have := szRect_nn q.rect; unfold szQuery; omega
def szOp (o : Op) : Int := szPair o.pair + szQuery o.query
theorem szOp_nn (o : Op) : 0 ≤ szOp o := by have := szPair_nn o.pair; have := szQuery_nn o.query; unfold szOp; omega
def szAnswer (a : Answer) : Int := szList szPair a.pairs
theorem szAnswer_nn (a : Answer) : 0 ≤ szAnswer a := szList_nn szPair_nn _
def szNote (n : Note) : Int := szOp n.op + szAnswer n.answer
theorem szNote_nn (n : Note) : 0 ≤ szNote n := by have := szOp_nn n.op; have := szAnswer_nn n.answer; unfold szNote; omega
/-! laws.szInt64S -/
set_option maxRecDepth 20000 in
set_option maxHeartbeats 2000000 in
theorem laws_szInt64S (w : World) (left : Int) {Aa : Option Addr} {ca : Nat} {a : List Int} {sa_ : List Nat} (ha : (Kd.sl Kd.i64).Rel w [.slice Aa a.length ca] a [] sa_) (h0 : 0 ≤ left) (h1 : left ≤ 1152921504606846976) : Calls Tryz.prog 121 #[.slice Aa a.length ca, .int .i64 left] w (fun e_ w2_ => e_ = .returned (.int .i64 (szTake ((a.length : Nat) : Int) left)) ∧ Below w.heap.size w w2_) := by
  have La := Kd.sl_len ha; have Ca := Kd.sl_cap ha
  refine fnc (X := X 12 w) (args := [.slice Aa a.length ca, .int .i64 left]) (l := [(0, .slice Aa a.length ca), (1, .int .i64 left)]) (G := [dat (Kd.sl Kd.i64) [.slice Aa a.length ca] a ([]) sa_]) Tryz.func121 rfl rfl rfl ⟨rfl, rfl, trivial⟩ (s0d ha (s0n w)).1 ?_
  refine sq (rg (a_ rfl rfl (en (nx (sq (rg (m_ rfl rfl (m_ rfl rfl (vl (ln rfl rfl rfl) rfl (vl (rs (c := left - ((a.length : Nat) : Int)) rfl rfl rfl rfl (by omega) (by omega)) rfl (a_ rfl rfl (en (nx (sq (sq (rg (m_ rfl rfl (vl (cm rfl rfl rfl rfl) rfl (en (nx ?_))))))))))))))))))))
  by_cases h1 : left - ((a.length : Nat) : Int) < (0 : Int)
  · refine ct rfl (decide_eq_true h1) (sq (rg (a_ rfl rfl (en (nx (rt (xr (ret1 rfl rfl (fun w_ hs_ => ⟨?_, hs_.below⟩)))))))))
    exact ri (by unfold szTake; split <;> omega)
  · refine cf rfl (decide_eq_false h1) (sk (nx (sq (rg (m_ rfl rfl (a_ rfl rfl (en (nx (rt (ret1 rfl rfl (fun w_ hs_ => ⟨?_, hs_.below⟩)))))))))))
    exact ri (by unfold szTake; split <;> omega)
/-! laws.szRect -/
set_option maxRecDepth 20000 in
set_option maxHeartbeats 2000000 in
theorem laws_szRect (w : World) (left : Int) {Aa0 : Option Addr} {ca0 : Nat} {Aa1 : Option Addr} {ca1 : Nat} {a : Rect} {sa_ : List Nat} (ha : kRectS.Rel w [.slice Aa0 a.low.length ca0, .slice Aa1 a.high.length ca1] a [] sa_) (h0 : 0 ≤ left) (h1 : left ≤ 1152921504606846976) : Calls Tryz.prog 120 #[.agg #[.slice Aa0 a.low.length ca0, .slice Aa1 a.high.length ca1], .int .i64 left] w (fun e_ w2_ => e_ = .returned (.int .i64 (szTake (szRect a) left)) ∧ Below w.heap.size w w2_) := by
  skip
  refine fnc (X := X 18 w) (args := [.agg #[.slice Aa0 a.low.length ca0, .slice Aa1 a.high.length ca1], .int .i64 left]) (l := [(0, .agg #[.slice Aa0 a.low.length ca0, .slice Aa1 a.high.length ca1]), (1, .int .i64 left)]) (G := [dat kRectS [.slice Aa0 a.low.length ca0, .slice Aa1 a.high.length ca1] a ([]) sa_]) Tryz.func120 rfl rfl rfl ⟨rfl, rfl, trivial⟩ (s0d ha (s0n w)).1 ?_
  refine sq (rg (bx rfl rfl rfl rfl ?_))
  intro b1
  refine a_ rfl rfl (en (nx (sq (rg (vl (fa rfl rfl rfl) rfl (vl (ldb (u := .slice Aa0 a.low.length ca0) 0 rfl rfl rfl rfl rfl rfl rfl) rfl (m_ rfl rfl ?_)))))))
  refine gd 1 kRectS_p0_1 rfl (cs' := [.slice Aa0 a.low.length ca0]) rfl fun s2 w_ rs2 us2 => ?_
  have Ls2 := Kd.sl_len rs2; have Cs2 := Kd.sl_cap rs2
  refine cs_ (v := .int .i64 (szTake ((a.low.length : Nat) : Int) left)) (by kernel_rfl) rfl rfl rfl (fun w_ hs_ => laws_szInt64S w_ _ (hs_.at 0 rfl) (by omega) (by omega)) (a_ rfl rfl (en (nx (sq (sq (rg (m_ rfl rfl (vl (cm rfl rfl rfl rfl) rfl (en (nx ?_))))))))))
  by_cases h3 : (szTake ((a.low.length : Nat) : Int) left) < (0 : Int)
  · have eh3 := szTake_t h3
    refine ct rfl (decide_eq_true h3) (sq (rg (a_ rfl rfl (en (nx (rt (xr (ret1 rfl rfl (fun w_ hs_ => ⟨?_, hs_.below⟩)))))))))
    exact ri (by unfold szTake szRect; split <;> omega)
  · have eh3 := szTake_f h3
    refine cf rfl (decide_eq_false h3) (sk (nx (sq (rg (vl (fa rfl rfl rfl) rfl (vl (ldb (u := .slice Aa1 a.high.length ca1) 1 rfl rfl rfl rfl rfl rfl rfl) rfl (m_ rfl rfl ?_)))))))
    refine gd 2 kRectS_p1_1 rfl (cs' := [.slice Aa1 a.high.length ca1]) rfl fun s4 w_ rs4 us4 => ?_
    have Ls4 := Kd.sl_len rs4; have Cs4 := Kd.sl_cap rs4
    refine cs_ (v := .int .i64 (szTake ((a.high.length : Nat) : Int) (szTake ((a.low.length : Nat) : Int) left))) (by kernel_rfl) rfl rfl rfl (fun w_ hs_ => laws_szInt64S w_ _ (hs_.at 0 rfl) (by omega) (by omega)) (a_ rfl rfl (en (nx (sq (sq (rg (m_ rfl rfl (vl (cm rfl rfl rfl rfl) rfl (en (nx ?_))))))))))
    by_cases h5 : (szTake ((a.high.length : Nat) : Int) (szTake ((a.low.length : Nat) : Int) left)) < (0 : Int)
    · have eh5 := szTake_t h5
      refine ct rfl (decide_eq_true h5) (sq (rg (a_ rfl rfl (en (nx (rt (xr (ret1 rfl rfl (fun w_ hs_ => ⟨?_, hs_.below⟩)))))))))
      exact ri (by unfold szTake szRect; split <;> omega)
    · have eh5 := szTake_f h5
      refine cf rfl (decide_eq_false h5) (sk (nx (sq (rg (m_ rfl rfl (a_ rfl rfl (en (nx (rt (ret1 rfl rfl (fun w_ hs_ => ⟨?_, hs_.below⟩)))))))))))
      exact ri (by unfold szTake szRect; split <;> omega)
/-! laws.szPair -/
set_option maxRecDepth 20000 in
set_option maxHeartbeats 2000000 in
theorem laws_szPair (w : World) (left : Int) {Aa1 : Option Addr} {ca1 : Nat} {Aa2 : Option Addr} {ca2 : Nat} {a : Pair} {sa_ : List Nat} (ha : kPairS.Rel w [.int .i64 a.id, .slice Aa1 a.rect.low.length ca1, .slice Aa2 a.rect.high.length ca2] a [] sa_) (h0 : 0 ≤ left) (h1 : left ≤ 1152921504606846976) : Calls Tryz.prog 81 #[.agg #[.int .i64 a.id, .slice Aa1 a.rect.low.length ca1, .slice Aa2 a.rect.high.length ca2], .int .i64 left] w (fun e_ w2_ => e_ = .returned (.int .i64 (szTake (szPair a) left)) ∧ Below w.heap.size w w2_) := by
  skip
  refine fnc (X := X 12 w) (args := [.agg #[.int .i64 a.id, .slice Aa1 a.rect.low.length ca1, .slice Aa2 a.rect.high.length ca2], .int .i64 left]) (l := [(0, .agg #[.int .i64 a.id, .slice Aa1 a.rect.low.length ca1, .slice Aa2 a.rect.high.length ca2]), (1, .int .i64 left)]) (G := [dat kPairS [.int .i64 a.id, .slice Aa1 a.rect.low.length ca1, .slice Aa2 a.rect.high.length ca2] a ([]) sa_]) Tryz.func81 rfl rfl rfl ⟨rfl, rfl, trivial⟩ (s0d ha (s0n w)).1 ?_
  refine sq (rg (bx rfl rfl rfl rfl ?_))
  intro b1
  refine a_ rfl rfl (en (nx (sq (rg (vl (fa rfl rfl rfl) rfl (vl (ldb 0 rfl rfl rfl rfl rfl rfl rfl) rfl (m_ rfl rfl ?_)))))))
  refine gd 1 kPairS_p1_2 rfl (cs' := [.slice Aa1 a.rect.low.length ca1, .slice Aa2 a.rect.high.length ca2]) rfl fun s2 w_ rs2 us2 => ?_
  refine cs_ (v := .int .i64 (szTake (szRect a.rect) left)) (by kernel_rfl) rfl rfl rfl (fun w_ hs_ => laws_szRect w_ _ (hs_.at 0 rfl) (by omega) (by omega)) (a_ rfl rfl (en (nx (sq (sq (rg (m_ rfl rfl (vl (cm rfl rfl rfl rfl) rfl (en (nx ?_))))))))))
  by_cases h3 : (szTake (szRect a.rect) left) < (0 : Int)
  · have eh3 := szTake_t h3
    refine ct rfl (decide_eq_true h3) (sq (rg (a_ rfl rfl (en (nx (rt (xr (ret1 rfl rfl (fun w_ hs_ => ⟨?_, hs_.below⟩)))))))))
    exact ri (by unfold szTake szPair; split <;> omega)
  · have eh3 := szTake_f h3
    refine cf rfl (decide_eq_false h3) (sk (nx (sq (rg (m_ rfl rfl (a_ rfl rfl (en (nx (rt (ret1 rfl rfl (fun w_ hs_ => ⟨?_, hs_.below⟩)))))))))))
    exact ri (by unfold szTake szPair; split <;> omega)
/-! laws.szPairS -/
set_option maxRecDepth 20000 in
set_option maxHeartbeats 2000000 in
theorem laws_szPairS (w : World) (left : Int) {Aa : Option Addr} {ca : Nat} {a : List Pair} {sa_ : List Nat} (ha : (Kd.sl kPairS).Rel w [.slice Aa a.length ca] a [] sa_) (h0 : 0 ≤ left) (h1 : left ≤ 1152921504606846976) : Calls Tryz.prog 83 #[.slice Aa a.length ca, .int .i64 left] w (fun e_ w2_ => e_ = .returned (.int .i64 (szTake (szList szPair a) left)) ∧ Below w.heap.size w w2_) := by
  have La := Kd.sl_len ha; have Ca := Kd.sl_cap ha
  refine fnc (X := X 27 w) (args := [.slice Aa a.length ca, .int .i64 left]) (l := [(0, .slice Aa a.length ca), (1, .int .i64 left)]) (G := [dat (Kd.sl kPairS) [.slice Aa a.length ca] a ([]) sa_]) Tryz.func83 rfl rfl rfl ⟨rfl, rfl, trivial⟩ (s0d ha (s0n w)).1 ?_
  refine sq (rg (a_ rfl rfl (en (nx (sq (rg (m_ rfl rfl (m_ rfl rfl (vl (ln rfl rfl rfl) rfl (vl (rs (c := left - ((a.length : Nat) : Int)) rfl rfl rfl rfl (by omega) (by omega)) rfl (a_ rfl rfl (en (nx (sq (sq (rg (m_ rfl rfl (vl (cm rfl rfl rfl rfl) rfl (en (nx ?_))))))))))))))))))))
  by_cases h1 : left - ((a.length : Nat) : Int) < (0 : Int)
  · refine ct rfl (decide_eq_true h1) (sq (rg (a_ rfl rfl (en (nx (rt (xr (ret1 rfl rfl (fun w_ hs_ => ⟨?_, hs_.below⟩)))))))))
    exact ri (by have z := sum_nn szPair_nn a; unfold szTake szList; split <;> omega)
  · refine cf rfl (decide_eq_false h1) (sk (nx (sq (sq (rg (a_ rfl rfl (en (nx (bk ?_)))))))))
    refine lp (σ := Nat × Int) (fun z_ : Nat × Int => match z_ with | (k, v) => [(0, .slice Aa a.length ca), (1, .int .i64 v), (5, .int .i64 ((k : Nat) : Int))])
        (fun z_ : Nat × Int => match z_ with | (k, v) => [dat (Kd.sl kPairS) [.slice Aa a.length ca] a ([]) sa_])
        (fun z_ : Nat × Int => match z_ with | (k, v) => k ≤ a.length ∧ 0 ≤ v ∧ v = left - (a.length : Int) - sumTo szPair a k) (fun z_ : Nat × Int => match z_ with | (k, v) => a.length - k) (0, left - (a.length : Int)) [0] ⟨Nat.zero_le _, by omega, by simp [sumTo]⟩ ⟨rfl, rfl, rfl, trivial⟩ rfl ?_
    rintro ⟨k, v⟩ hp_
    obtain ⟨hk, hv0, hinv⟩ := hp_; have z1 := sumTo_nn szPair_nn a k; have z2 := sumTo_le szPair_nn a k
    refine sq (sq (rg (m_ rfl rfl (m_ rfl rfl (vl (ln rfl rfl rfl) rfl (vl (cm rfl rfl rfl rfl) rfl (en (nx ?_))))))))
    by_cases h2 : ((k : Nat) : Int) < ((a.length : Nat) : Int)
    · refine ct rfl (decide_eq_true h2) (sk (nx (sq (bk (sq (rg (m_ rfl rfl (m_ rfl rfl ?_))))))))
      refine gx 0 k rfl (by omega) fun y8 p3 cs_ s4 w7 m9 e5 r6 us4 => ?_
      obtain ⟨A10, c11, A12, c13, rfl⟩ := kPairS_sh r6
      refine vl (ix k e5 rfl rfl rfl rfl rfl (by omega)) rfl (vl (ldq 0 rfl rfl rfl rfl rfl rfl rfl) rfl (m_ rfl rfl ?_))
      refine gp 0 Kd.Sub.rfl rfl (cs' := [.int .i64 y8.id, .slice A10 y8.rect.low.length c11, .slice A12 y8.rect.high.length c13]) rfl fun s14 w_ rs14 us14 => ?_
      refine cs_ (v := .int .i64 (szTake (szPair y8) v)) (by kernel_rfl) rfl rfl rfl (fun w_ hs_ => laws_szPair w_ _ (hs_.at 0 rfl) (by omega) (by omega)) (a_ rfl rfl (en (nx (sq (rg (m_ rfl rfl (vl (cm rfl rfl rfl rfl) rfl (en (nx ?_)))))))))
      by_cases h15 : (szTake (szPair y8) v) < (0 : Int)
      · have eh15 := szTake_t h15
        refine ct rfl (decide_eq_true h15) (sq (rg (a_ rfl rfl (en (nx (rt (xrb (xr (xr (xrb (xr (ret1 rfl rfl (fun w_ hs_ => ⟨?_, hs_.below⟩)))))))))))))
        exact ri (by have z := sumTo_step (f := szPair) m9; have z3 := sumTo_le szPair_nn a (k + 1); unfold szTake szList; split <;> omega)
      · have eh15 := szTake_f h15
        exact cf rfl (decide_eq_false h15) (sk (xn (nx (rg (m_ rfl rfl (vl (ra (c := ((k + 1 : Nat) : Int)) rfl rfl rfl (by omega) (by omega) (by omega)) rfl (a_ rfl rfl (en (lpe (s := (k, v)) (k + 1, (szTake (szPair y8) v)) [2] ⟨by omega, by omega, by have z := sumTo_step (f := szPair) m9; omega⟩ (by show a.length - (k + 1) < a.length - k; omega) ⟨rfl, rfl, rfl, trivial⟩ rfl)))))))))
    · refine cf rfl (decide_eq_false h2) (xt (xq (xq (xb (nx (sq (rg (m_ rfl rfl (a_ rfl rfl (en (nx (rt (ret1 rfl rfl (fun w_ hs_ => ⟨?_, hs_.below⟩))))))))))))))
      exact ri (by have z := sumTo_end (f := szPair) (l := a) (k := k) (by omega); unfold szTake szList; split <;> omega)
/-! laws.szQuery -/
set_option maxRecDepth 20000 in
set_option maxHeartbeats 2000000 in
theorem laws_szQuery (w : World) (left : Int) {Aa1 : Option Addr} {ca1 : Nat} {Aa2 : Option Addr} {ca2 : Nat} {Aa3 : Option Addr} {ca3 : Nat} {a : Query} {sa_ : List Nat} (ha : kQueryS.Rel w [.int .i64 a.kind, .slice Aa1 a.rect.low.length ca1, .slice Aa2 a.rect.high.length ca2, .slice Aa3 a.point.length ca3, .int .i64 a.k] a [] sa_) (h0 : 0 ≤ left) (h1 : left ≤ 1152921504606846976) : Calls Tryz.prog 82 #[.agg #[.int .i64 a.kind, .slice Aa1 a.rect.low.length ca1, .slice Aa2 a.rect.high.length ca2, .slice Aa3 a.point.length ca3, .int .i64 a.k], .int .i64 left] w (fun e_ w2_ => e_ = .returned (.int .i64 (szTake (szQuery a) left)) ∧ Below w.heap.size w w2_) := by
  have n0 := szRect_nn a.rect
  refine fnc (X := X 18 w) (args := [.agg #[.int .i64 a.kind, .slice Aa1 a.rect.low.length ca1, .slice Aa2 a.rect.high.length ca2, .slice Aa3 a.point.length ca3, .int .i64 a.k], .int .i64 left]) (l := [(0, .agg #[.int .i64 a.kind, .slice Aa1 a.rect.low.length ca1, .slice Aa2 a.rect.high.length ca2, .slice Aa3 a.point.length ca3, .int .i64 a.k]), (1, .int .i64 left)]) (G := [dat kQueryS [.int .i64 a.kind, .slice Aa1 a.rect.low.length ca1, .slice Aa2 a.rect.high.length ca2, .slice Aa3 a.point.length ca3, .int .i64 a.k] a ([]) sa_]) Tryz.func82 rfl rfl rfl ⟨rfl, rfl, trivial⟩ (s0d ha (s0n w)).1 ?_
  refine sq (rg (bx rfl rfl rfl rfl ?_))
  intro b1
  refine a_ rfl rfl (en (nx (sq (rg (vl (fa rfl rfl rfl) rfl (vl (ldb 0 rfl rfl rfl rfl rfl rfl rfl) rfl (m_ rfl rfl ?_)))))))
  refine gd 1 kQueryS_p1_2 rfl (cs' := [.slice Aa1 a.rect.low.length ca1, .slice Aa2 a.rect.high.length ca2]) rfl fun s2 w_ rs2 us2 => ?_
  refine cs_ (v := .int .i64 (szTake (szRect a.rect) left)) (by kernel_rfl) rfl rfl rfl (fun w_ hs_ => laws_szRect w_ _ (hs_.at 0 rfl) (by omega) (by omega)) (a_ rfl rfl (en (nx (sq (sq (rg (m_ rfl rfl (vl (cm rfl rfl rfl rfl) rfl (en (nx ?_))))))))))
  by_cases h3 : (szTake (szRect a.rect) left) < (0 : Int)
  · have eh3 := szTake_t h3
    refine ct rfl (decide_eq_true h3) (sq (rg (a_ rfl rfl (en (nx (rt (xr (ret1 rfl rfl (fun w_ hs_ => ⟨?_, hs_.below⟩)))))))))
    exact ri (by unfold szTake szQuery; split <;> omega)
  · have eh3 := szTake_f h3
    refine cf rfl (decide_eq_false h3) (sk (nx (sq (rg (vl (fa rfl rfl rfl) rfl (vl (ldb (u := .slice Aa3 a.point.length ca3) 1 rfl rfl rfl rfl rfl rfl rfl) rfl (m_ rfl rfl ?_)))))))
    refine gd 2 kQueryS_p3_1 rfl (cs' := [.slice Aa3 a.point.length ca3]) rfl fun s4 w_ rs4 us4 => ?_
    have Ls4 := Kd.sl_len rs4; have Cs4 := Kd.sl_cap rs4
    refine cs_ (v := .int .i64 (szTake ((a.point.length : Nat) : Int) (szTake (szRect a.rect) left))) (by kernel_rfl) rfl rfl rfl (fun w_ hs_ => laws_szInt64S w_ _ (hs_.at 0 rfl) (by omega) (by omega)) (a_ rfl rfl (en (nx (sq (sq (rg (m_ rfl rfl (vl (cm rfl rfl rfl rfl) rfl (en (nx ?_))))))))))
    by_cases h5 : (szTake ((a.point.length : Nat) : Int) (szTake (szRect a.rect) left)) < (0 : Int)
    · have eh5 := szTake_t h5
      refine ct rfl (decide_eq_true h5) (sq (rg (a_ rfl rfl (en (nx (rt (xr (ret1 rfl rfl (fun w_ hs_ => ⟨?_, hs_.below⟩)))))))))
      exact ri (by unfold szTake szQuery; split <;> omega)
    · have eh5 := szTake_f h5
      refine cf rfl (decide_eq_false h5) (sk (nx (sq (rg (m_ rfl rfl (a_ rfl rfl (en (nx (rt (ret1 rfl rfl (fun w_ hs_ => ⟨?_, hs_.below⟩)))))))))))
      exact ri (by unfold szTake szQuery; split <;> omega)
/-! laws.szOp -/
set_option maxRecDepth 20000 in
set_option maxHeartbeats 2000000 in
theorem laws_szOp (w : World) (left : Int) {Aa2 : Option Addr} {ca2 : Nat} {Aa3 : Option Addr} {ca3 : Nat} {Aa5 : Option Addr} {ca5 : Nat} {Aa6 : Option Addr} {ca6 : Nat} {Aa7 : Option Addr} {ca7 : Nat} {a : Op} {sa_ : List Nat} (ha : kOpS.Rel w [.int .i64 a.kind, .int .i64 a.pair.id, .slice Aa2 a.pair.rect.low.length ca2, .slice Aa3 a.pair.rect.high.length ca3, .int .i64 a.query.kind, .slice Aa5 a.query.rect.low.length ca5, .slice Aa6 a.query.rect.high.length ca6, .slice Aa7 a.query.point.length ca7, .int .i64 a.query.k] a [] sa_) (h0 : 0 ≤ left) (h1 : left ≤ 1152921504606846976) : Calls Tryz.prog 43 #[.agg #[.int .i64 a.kind, .int .i64 a.pair.id, .slice Aa2 a.pair.rect.low.length ca2, .slice Aa3 a.pair.rect.high.length ca3, .int .i64 a.query.kind, .slice Aa5 a.query.rect.low.length ca5, .slice Aa6 a.query.rect.high.length ca6, .slice Aa7 a.query.point.length ca7, .int .i64 a.query.k], .int .i64 left] w (fun e_ w2_ => e_ = .returned (.int .i64 (szTake (szOp a) left)) ∧ Below w.heap.size w w2_) := by
  have n0 := szPair_nn a.pair; have n1 := szQuery_nn a.query
  refine fnc (X := X 18 w) (args := [.agg #[.int .i64 a.kind, .int .i64 a.pair.id, .slice Aa2 a.pair.rect.low.length ca2, .slice Aa3 a.pair.rect.high.length ca3, .int .i64 a.query.kind, .slice Aa5 a.query.rect.low.length ca5, .slice Aa6 a.query.rect.high.length ca6, .slice Aa7 a.query.point.length ca7, .int .i64 a.query.k], .int .i64 left]) (l := [(0, .agg #[.int .i64 a.kind, .int .i64 a.pair.id, .slice Aa2 a.pair.rect.low.length ca2, .slice Aa3 a.pair.rect.high.length ca3, .int .i64 a.query.kind, .slice Aa5 a.query.rect.low.length ca5, .slice Aa6 a.query.rect.high.length ca6, .slice Aa7 a.query.point.length ca7, .int .i64 a.query.k]), (1, .int .i64 left)]) (G := [dat kOpS [.int .i64 a.kind, .int .i64 a.pair.id, .slice Aa2 a.pair.rect.low.length ca2, .slice Aa3 a.pair.rect.high.length ca3, .int .i64 a.query.kind, .slice Aa5 a.query.rect.low.length ca5, .slice Aa6 a.query.rect.high.length ca6, .slice Aa7 a.query.point.length ca7, .int .i64 a.query.k] a ([]) sa_]) Tryz.func43 rfl rfl rfl ⟨rfl, rfl, trivial⟩ (s0d ha (s0n w)).1 ?_
  refine sq (rg (bx rfl rfl rfl rfl ?_))
  intro b1
  refine a_ rfl rfl (en (nx (sq (rg (vl (fa rfl rfl rfl) rfl (vl (ldb 0 rfl rfl rfl rfl rfl rfl rfl) rfl (m_ rfl rfl ?_)))))))
  refine gd 1 kOpS_p1_3 rfl (cs' := [.int .i64 a.pair.id, .slice Aa2 a.pair.rect.low.length ca2, .slice Aa3 a.pair.rect.high.length ca3]) rfl fun s2 w_ rs2 us2 => ?_
  refine cs_ (v := .int .i64 (szTake (szPair a.pair) left)) (by kernel_rfl) rfl rfl rfl (fun w_ hs_ => laws_szPair w_ _ (hs_.at 0 rfl) (by omega) (by omega)) (a_ rfl rfl (en (nx (sq (sq (rg (m_ rfl rfl (vl (cm rfl rfl rfl rfl) rfl (en (nx ?_))))))))))
  by_cases h3 : (szTake (szPair a.pair) left) < (0 : Int)
  · have eh3 := szTake_t h3
    refine ct rfl (decide_eq_true h3) (sq (rg (a_ rfl rfl (en (nx (rt (xr (ret1 rfl rfl (fun w_ hs_ => ⟨?_, hs_.below⟩)))))))))
    exact ri (by unfold szTake szOp; split <;> omega)
  · have eh3 := szTake_f h3
    refine cf rfl (decide_eq_false h3) (sk (nx (sq (rg (vl (fa rfl rfl rfl) rfl (vl (ldb 1 rfl rfl rfl rfl rfl rfl rfl) rfl (m_ rfl rfl ?_)))))))
    refine gd 2 kOpS_p4_5 rfl (cs' := [.int .i64 a.query.kind, .slice Aa5 a.query.rect.low.length ca5, .slice Aa6 a.query.rect.high.length ca6, .slice Aa7 a.query.point.length ca7, .int .i64 a.query.k]) rfl fun s4 w_ rs4 us4 => ?_
    refine cs_ (v := .int .i64 (szTake (szQuery a.query) (szTake (szPair a.pair) left))) (by kernel_rfl) rfl rfl rfl (fun w_ hs_ => laws_szQuery w_ _ (hs_.at 0 rfl) (by omega) (by omega)) (a_ rfl rfl (en (nx (sq (sq (rg (m_ rfl rfl (vl (cm rfl rfl rfl rfl) rfl (en (nx ?_))))))))))
    by_cases h5 : (szTake (szQuery a.query) (szTake (szPair a.pair) left)) < (0 : Int)
    · have eh5 := szTake_t h5
      refine ct rfl (decide_eq_true h5) (sq (rg (a_ rfl rfl (en (nx (rt (xr (ret1 rfl rfl (fun w_ hs_ => ⟨?_, hs_.below⟩)))))))))
      exact ri (by unfold szTake szOp; split <;> omega)
    · have eh5 := szTake_f h5
      refine cf rfl (decide_eq_false h5) (sk (nx (sq (rg (m_ rfl rfl (a_ rfl rfl (en (nx (rt (ret1 rfl rfl (fun w_ hs_ => ⟨?_, hs_.below⟩)))))))))))
      exact ri (by unfold szTake szOp; split <;> omega)
/-! laws.szAnswer -/
set_option maxRecDepth 20000 in
set_option maxHeartbeats 2000000 in
theorem laws_szAnswer (w : World) (left : Int) {Aa1 : Option Addr} {ca1 : Nat} {a : Answer} {sa_ : List Nat} (ha : kAnswerS.Rel w [.int .i64 a.code, .slice Aa1 a.pairs.length ca1] a [] sa_) (h0 : 0 ≤ left) (h1 : left ≤ 1152921504606846976) : Calls Tryz.prog 44 #[.agg #[.int .i64 a.code, .slice Aa1 a.pairs.length ca1], .int .i64 left] w (fun e_ w2_ => e_ = .returned (.int .i64 (szTake (szAnswer a) left)) ∧ Below w.heap.size w w2_) := by
  skip
  refine fnc (X := X 12 w) (args := [.agg #[.int .i64 a.code, .slice Aa1 a.pairs.length ca1], .int .i64 left]) (l := [(0, .agg #[.int .i64 a.code, .slice Aa1 a.pairs.length ca1]), (1, .int .i64 left)]) (G := [dat kAnswerS [.int .i64 a.code, .slice Aa1 a.pairs.length ca1] a ([]) sa_]) Tryz.func44 rfl rfl rfl ⟨rfl, rfl, trivial⟩ (s0d ha (s0n w)).1 ?_
  refine sq (rg (bx rfl rfl rfl rfl ?_))
  intro b1
  refine a_ rfl rfl (en (nx (sq (rg (vl (fa rfl rfl rfl) rfl (vl (ldb (u := .slice Aa1 a.pairs.length ca1) 0 rfl rfl rfl rfl rfl rfl rfl) rfl (m_ rfl rfl ?_)))))))
  refine gd 1 kAnswerS_p1_1 rfl (cs' := [.slice Aa1 a.pairs.length ca1]) rfl fun s2 w_ rs2 us2 => ?_
  have Ls2 := Kd.sl_len rs2; have Cs2 := Kd.sl_cap rs2
  refine cs_ (v := .int .i64 (szTake (szList szPair a.pairs) left)) (by kernel_rfl) rfl rfl rfl (fun w_ hs_ => laws_szPairS w_ _ (hs_.at 0 rfl) (by omega) (by omega)) (a_ rfl rfl (en (nx (sq (sq (rg (m_ rfl rfl (vl (cm rfl rfl rfl rfl) rfl (en (nx ?_))))))))))
  by_cases h3 : (szTake (szList szPair a.pairs) left) < (0 : Int)
  · have eh3 := szTake_t h3
    refine ct rfl (decide_eq_true h3) (sq (rg (a_ rfl rfl (en (nx (rt (xr (ret1 rfl rfl (fun w_ hs_ => ⟨?_, hs_.below⟩)))))))))
    exact ri (by unfold szTake szAnswer; split <;> omega)
  · have eh3 := szTake_f h3
    refine cf rfl (decide_eq_false h3) (sk (nx (sq (rg (m_ rfl rfl (a_ rfl rfl (en (nx (rt (ret1 rfl rfl (fun w_ hs_ => ⟨?_, hs_.below⟩)))))))))))
    exact ri (by unfold szTake szAnswer; split <;> omega)
/-! laws.szNote -/
set_option maxRecDepth 20000 in
set_option maxHeartbeats 2000000 in
theorem laws_szNote (w : World) (left : Int) {Aa5 : Option Addr} {ca5 : Nat} {Aa6 : Option Addr} {ca6 : Nat} {Aa8 : Option Addr} {ca8 : Nat} {Aa9 : Option Addr} {ca9 : Nat} {Aa10 : Option Addr} {ca10 : Nat} {Aa13 : Option Addr} {ca13 : Nat} {a : Note} {sa_ : List Nat} (ha : kNoteS.Rel w [.int .i64 a.at_, .int .i64 a.kind, .int .i64 a.client, .int .i64 a.op.kind, .int .i64 a.op.pair.id, .slice Aa5 a.op.pair.rect.low.length ca5, .slice Aa6 a.op.pair.rect.high.length ca6, .int .i64 a.op.query.kind, .slice Aa8 a.op.query.rect.low.length ca8, .slice Aa9 a.op.query.rect.high.length ca9, .slice Aa10 a.op.query.point.length ca10, .int .i64 a.op.query.k, .int .i64 a.answer.code, .slice Aa13 a.answer.pairs.length ca13] a [] sa_) (h0 : 0 ≤ left) (h1 : left ≤ 1152921504606846976) : Calls Tryz.prog 19 #[.agg #[.int .i64 a.at_, .int .i64 a.kind, .int .i64 a.client, .int .i64 a.op.kind, .int .i64 a.op.pair.id, .slice Aa5 a.op.pair.rect.low.length ca5, .slice Aa6 a.op.pair.rect.high.length ca6, .int .i64 a.op.query.kind, .slice Aa8 a.op.query.rect.low.length ca8, .slice Aa9 a.op.query.rect.high.length ca9, .slice Aa10 a.op.query.point.length ca10, .int .i64 a.op.query.k, .int .i64 a.answer.code, .slice Aa13 a.answer.pairs.length ca13], .int .i64 left] w (fun e_ w2_ => e_ = .returned (.int .i64 (szTake (szNote a) left)) ∧ Below w.heap.size w w2_) := by
  have n0 := szOp_nn a.op; have n1 := szAnswer_nn a.answer
  refine fnc (X := X 18 w) (args := [.agg #[.int .i64 a.at_, .int .i64 a.kind, .int .i64 a.client, .int .i64 a.op.kind, .int .i64 a.op.pair.id, .slice Aa5 a.op.pair.rect.low.length ca5, .slice Aa6 a.op.pair.rect.high.length ca6, .int .i64 a.op.query.kind, .slice Aa8 a.op.query.rect.low.length ca8, .slice Aa9 a.op.query.rect.high.length ca9, .slice Aa10 a.op.query.point.length ca10, .int .i64 a.op.query.k, .int .i64 a.answer.code, .slice Aa13 a.answer.pairs.length ca13], .int .i64 left]) (l := [(0, .agg #[.int .i64 a.at_, .int .i64 a.kind, .int .i64 a.client, .int .i64 a.op.kind, .int .i64 a.op.pair.id, .slice Aa5 a.op.pair.rect.low.length ca5, .slice Aa6 a.op.pair.rect.high.length ca6, .int .i64 a.op.query.kind, .slice Aa8 a.op.query.rect.low.length ca8, .slice Aa9 a.op.query.rect.high.length ca9, .slice Aa10 a.op.query.point.length ca10, .int .i64 a.op.query.k, .int .i64 a.answer.code, .slice Aa13 a.answer.pairs.length ca13]), (1, .int .i64 left)]) (G := [dat kNoteS [.int .i64 a.at_, .int .i64 a.kind, .int .i64 a.client, .int .i64 a.op.kind, .int .i64 a.op.pair.id, .slice Aa5 a.op.pair.rect.low.length ca5, .slice Aa6 a.op.pair.rect.high.length ca6, .int .i64 a.op.query.kind, .slice Aa8 a.op.query.rect.low.length ca8, .slice Aa9 a.op.query.rect.high.length ca9, .slice Aa10 a.op.query.point.length ca10, .int .i64 a.op.query.k, .int .i64 a.answer.code, .slice Aa13 a.answer.pairs.length ca13] a ([]) sa_]) Tryz.func19 rfl rfl rfl ⟨rfl, rfl, trivial⟩ (s0d ha (s0n w)).1 ?_
  refine sq (rg (bx rfl rfl rfl rfl ?_))
  intro b1
  refine a_ rfl rfl (en (nx (sq (rg (vl (fa rfl rfl rfl) rfl (vl (ldb 0 rfl rfl rfl rfl rfl rfl rfl) rfl (m_ rfl rfl ?_)))))))
  refine gd 1 kNoteS_p3_9 rfl (cs' := [.int .i64 a.op.kind, .int .i64 a.op.pair.id, .slice Aa5 a.op.pair.rect.low.length ca5, .slice Aa6 a.op.pair.rect.high.length ca6, .int .i64 a.op.query.kind, .slice Aa8 a.op.query.rect.low.length ca8, .slice Aa9 a.op.query.rect.high.length ca9, .slice Aa10 a.op.query.point.length ca10, .int .i64 a.op.query.k]) rfl fun s2 w_ rs2 us2 => ?_
  refine cs_ (v := .int .i64 (szTake (szOp a.op) left)) (by kernel_rfl) rfl rfl rfl (fun w_ hs_ => laws_szOp w_ _ (hs_.at 0 rfl) (by omega) (by omega)) (a_ rfl rfl (en (nx (sq (sq (rg (m_ rfl rfl (vl (cm rfl rfl rfl rfl) rfl (en (nx ?_))))))))))
  by_cases h3 : (szTake (szOp a.op) left) < (0 : Int)
  · have eh3 := szTake_t h3
    refine ct rfl (decide_eq_true h3) (sq (rg (a_ rfl rfl (en (nx (rt (xr (ret1 rfl rfl (fun w_ hs_ => ⟨?_, hs_.below⟩)))))))))
    exact ri (by unfold szTake szNote; split <;> omega)
  · have eh3 := szTake_f h3
    refine cf rfl (decide_eq_false h3) (sk (nx (sq (rg (vl (fa rfl rfl rfl) rfl (vl (ldb 1 rfl rfl rfl rfl rfl rfl rfl) rfl (m_ rfl rfl ?_)))))))
    refine gd 2 kNoteS_p12_2 rfl (cs' := [.int .i64 a.answer.code, .slice Aa13 a.answer.pairs.length ca13]) rfl fun s4 w_ rs4 us4 => ?_
    refine cs_ (v := .int .i64 (szTake (szAnswer a.answer) (szTake (szOp a.op) left))) (by kernel_rfl) rfl rfl rfl (fun w_ hs_ => laws_szAnswer w_ _ (hs_.at 0 rfl) (by omega) (by omega)) (a_ rfl rfl (en (nx (sq (sq (rg (m_ rfl rfl (vl (cm rfl rfl rfl rfl) rfl (en (nx ?_))))))))))
    by_cases h5 : (szTake (szAnswer a.answer) (szTake (szOp a.op) left)) < (0 : Int)
    · have eh5 := szTake_t h5
      refine ct rfl (decide_eq_true h5) (sq (rg (a_ rfl rfl (en (nx (rt (xr (ret1 rfl rfl (fun w_ hs_ => ⟨?_, hs_.below⟩)))))))))
      exact ri (by unfold szTake szNote; split <;> omega)
    · have eh5 := szTake_f h5
      refine cf rfl (decide_eq_false h5) (sk (nx (sq (rg (m_ rfl rfl (a_ rfl rfl (en (nx (rt (ret1 rfl rfl (fun w_ hs_ => ⟨?_, hs_.below⟩)))))))))))
      exact ri (by unfold szTake szNote; split <;> omega)
/-! laws.szNoteS -/
set_option maxRecDepth 20000 in
set_option maxHeartbeats 2000000 in
theorem laws_szNoteS (w : World) (left : Int) {Aa : Option Addr} {ca : Nat} {a : List Note} {sa_ : List Nat} (ha : (Kd.sl kNoteS).Rel w [.slice Aa a.length ca] a [] sa_) (h0 : 0 ≤ left) (h1 : left ≤ 1152921504606846976) : Calls Tryz.prog 6 #[.slice Aa a.length ca, .int .i64 left] w (fun e_ w2_ => e_ = .returned (.int .i64 (szTake (szList szNote a) left)) ∧ Below w.heap.size w w2_) := by
  have La := Kd.sl_len ha; have Ca := Kd.sl_cap ha
  refine fnc (X := X 27 w) (args := [.slice Aa a.length ca, .int .i64 left]) (l := [(0, .slice Aa a.length ca), (1, .int .i64 left)]) (G := [dat (Kd.sl kNoteS) [.slice Aa a.length ca] a ([]) sa_]) Tryz.func6 rfl rfl rfl ⟨rfl, rfl, trivial⟩ (s0d ha (s0n w)).1 ?_
  refine sq (rg (a_ rfl rfl (en (nx (sq (rg (m_ rfl rfl (m_ rfl rfl (vl (ln rfl rfl rfl) rfl (vl (rs (c := left - ((a.length : Nat) : Int)) rfl rfl rfl rfl (by omega) (by omega)) rfl (a_ rfl rfl (en (nx (sq (sq (rg (m_ rfl rfl (vl (cm rfl rfl rfl rfl) rfl (en (nx ?_))))))))))))))))))))
  by_cases h1 : left - ((a.length : Nat) : Int) < (0 : Int)
  · refine ct rfl (decide_eq_true h1) (sq (rg (a_ rfl rfl (en (nx (rt (xr (ret1 rfl rfl (fun w_ hs_ => ⟨?_, hs_.below⟩)))))))))
    exact ri (by have z := sum_nn szNote_nn a; unfold szTake szList; split <;> omega)
  · refine cf rfl (decide_eq_false h1) (sk (nx (sq (sq (rg (a_ rfl rfl (en (nx (bk ?_)))))))))
    refine lp (σ := Nat × Int) (fun z_ : Nat × Int => match z_ with | (k, v) => [(0, .slice Aa a.length ca), (1, .int .i64 v), (5, .int .i64 ((k : Nat) : Int))])
        (fun z_ : Nat × Int => match z_ with | (k, v) => [dat (Kd.sl kNoteS) [.slice Aa a.length ca] a ([]) sa_])
        (fun z_ : Nat × Int => match z_ with | (k, v) => k ≤ a.length ∧ 0 ≤ v ∧ v = left - (a.length : Int) - sumTo szNote a k) (fun z_ : Nat × Int => match z_ with | (k, v) => a.length - k) (0, left - (a.length : Int)) [0] ⟨Nat.zero_le _, by omega, by simp [sumTo]⟩ ⟨rfl, rfl, rfl, trivial⟩ rfl ?_
    rintro ⟨k, v⟩ hp_
    obtain ⟨hk, hv0, hinv⟩ := hp_; have z1 := sumTo_nn szNote_nn a k; have z2 := sumTo_le szNote_nn a k
    refine sq (sq (rg (m_ rfl rfl (m_ rfl rfl (vl (ln rfl rfl rfl) rfl (vl (cm rfl rfl rfl rfl) rfl (en (nx ?_))))))))
    by_cases h2 : ((k : Nat) : Int) < ((a.length : Nat) : Int)
    · refine ct rfl (decide_eq_true h2) (sk (nx (sq (bk (sq (rg (m_ rfl rfl (m_ rfl rfl ?_))))))))
      refine gx 0 k rfl (by omega) fun y8 p3 cs_ s4 w7 m9 e5 r6 us4 => ?_
      obtain ⟨A10, c11, A12, c13, A14, c15, A16, c17, A18, c19, A20, c21, rfl⟩ := kNoteS_sh r6
      refine vl (ix k e5 rfl rfl rfl rfl rfl (by omega)) rfl (vl (ldq 0 rfl rfl rfl rfl rfl rfl rfl) rfl (m_ rfl rfl ?_))
      refine gp 0 Kd.Sub.rfl rfl (cs' := [.int .i64 y8.at_, .int .i64 y8.kind, .int .i64 y8.client, .int .i64 y8.op.kind, .int .i64 y8.op.pair.id, .slice A10 y8.op.pair.rect.low.length c11, .slice A12 y8.op.pair.rect.high.length c13, .int .i64 y8.op.query.kind, .slice A14 y8.op.query.rect.low.length c15, .slice A16 y8.op.query.rect.high.length c17, .slice A18 y8.op.query.point.length c19, .int .i64 y8.op.query.k, .int .i64 y8.answer.code, .slice A20 y8.answer.pairs.length c21]) rfl fun s22 w_ rs22 us22 => ?_
      refine cs_ (v := .int .i64 (szTake (szNote y8) v)) (by kernel_rfl) rfl rfl rfl (fun w_ hs_ => laws_szNote w_ _ (hs_.at 0 rfl) (by omega) (by omega)) (a_ rfl rfl (en (nx (sq (rg (m_ rfl rfl (vl (cm rfl rfl rfl rfl) rfl (en (nx ?_)))))))))
      by_cases h23 : (szTake (szNote y8) v) < (0 : Int)
      · have eh23 := szTake_t h23
        refine ct rfl (decide_eq_true h23) (sq (rg (a_ rfl rfl (en (nx (rt (xrb (xr (xr (xrb (xr (ret1 rfl rfl (fun w_ hs_ => ⟨?_, hs_.below⟩)))))))))))))
        exact ri (by have z := sumTo_step (f := szNote) m9; have z3 := sumTo_le szNote_nn a (k + 1); unfold szTake szList; split <;> omega)
      · have eh23 := szTake_f h23
        exact cf rfl (decide_eq_false h23) (sk (xn (nx (rg (m_ rfl rfl (vl (ra (c := ((k + 1 : Nat) : Int)) rfl rfl rfl (by omega) (by omega) (by omega)) rfl (a_ rfl rfl (en (lpe (s := (k, v)) (k + 1, (szTake (szNote y8) v)) [2] ⟨by omega, by omega, by have z := sumTo_step (f := szNote) m9; omega⟩ (by show a.length - (k + 1) < a.length - k; omega) ⟨rfl, rfl, rfl, trivial⟩ rfl)))))))))
    · refine cf rfl (decide_eq_false h2) (xt (xq (xq (xb (nx (sq (rg (m_ rfl rfl (a_ rfl rfl (en (nx (rt (ret1 rfl rfl (fun w_ hs_ => ⟨?_, hs_.below⟩))))))))))))))
      exact ri (by have z := sumTo_end (f := szNote) (l := a) (k := k) (by omega); unfold szTake szList; split <;> omega)
theorem szList_mem {α : Type} {f : α → Int} (hf : ∀ x, 0 ≤ f x) {l : List α} {k : Nat} {y : α} (h : l[k]? = some y) : f y ≤ szList f l := by
  have h1 := sumTo_step (f := f) h
  have h2 := sumTo_le hf l (k + 1)
  have h3 := sumTo_nn hf l k
  unfold szList; omega
theorem szList_len {α : Type} {f : α → Int} (hf : ∀ x, 0 ≤ f x) (l : List α) : (l.length : Int) ≤ szList f l := by have := sum_nn hf l; unfold szList; omega
def zRect : Rect := ⟨[], []⟩
def zPair : Pair := ⟨0, zRect⟩
def zQuery : Query := ⟨0, zRect, [], 0⟩
def zOp : Op := ⟨0, zPair, zQuery⟩
def zAnswer : Answer := ⟨0, []⟩
def zNote : Note := ⟨0, 0, 0, zOp, zAnswer⟩
/-! laws.toInt64S -/
set_option maxRecDepth 20000 in
set_option maxHeartbeats 2000000 in
theorem laws_toInt64S (w : World) {Aa : Option Addr} {ca : Nat} {a : List Int} {sa_ : List Nat} (ha : (Kd.sl Kd.i64).Rel w [.slice Aa a.length ca] a [] sa_) (hz : (a.length : Int) ≤ 1048576) : Calls Tryz.prog 126 #[.slice Aa a.length ca] w (Made (Kd.row 2 Kd.i64) w a []) := by
  have La := Kd.sl_len ha; have Ca := Kd.sl_cap ha
  refine fnc (X := X 22 w) (args := [.slice Aa a.length ca]) (l := [(0, .slice Aa a.length ca)]) (G := [dat (Kd.sl Kd.i64) [.slice Aa a.length ca] a ([]) sa_]) Tryz.func126 rfl rfl rfl ⟨rfl, trivial⟩ (s0d ha (s0n w)).1 ?_
  refine sq (rg (a_ rfl rfl (en (nx (sq (rg (m_ rfl rfl (vl (ln rfl rfl rfl) rfl (mk (dk := Kd.i64) (z := 0) rfl info2 rfl (fun _ => ⟨rfl, rfl, rfl⟩) rfl rfl (by omega) (by omega) rfl ?_)))))))))
  intro b1
  refine a_ rfl rfl (en (nx (sq (sq (rg (a_ rfl rfl (en (nx (bk ?_)))))))))
  refine lp (σ := Nat × List Nat × List Nat) (fun z_ : Nat × List Nat × List Nat => match z_ with | (k, o, s) => [(0, .slice Aa a.length ca), (3, .slice (some ⟨b1, 0, none⟩) a.length a.length), (4, .int .i64 ((k : Nat) : Int))])
      (fun z_ : Nat × List Nat × List Nat => match z_ with | (k, o, s) => [dat (Kd.row 2 Kd.i64) [.slice (some ⟨b1, 0, none⟩) a.length a.length] (a.take k ++ List.replicate (a.length - k) 0) o s, dat (Kd.sl Kd.i64) [.slice Aa a.length ca] a ([]) sa_])
      (fun z_ : Nat × List Nat × List Nat => match z_ with | (k, o, s) => k ≤ a.length ∧ ∀ q ∈ s, w.heap.size ≤ q) (fun z_ : Nat × List Nat × List Nat => match z_ with | (k, o, s) => a.length - k) (0, [b1], []) [0, 0] ⟨Nat.zero_le _, by simp⟩ ⟨rfl, rfl, rfl, trivial⟩ rfl ?_
  rintro ⟨k, o, s⟩ hp_
  obtain ⟨hk, hinv⟩ := hp_
  refine sq (sq (rg (m_ rfl rfl (m_ rfl rfl (vl (ln rfl rfl rfl) rfl (vl (cm rfl rfl rfl rfl) rfl (en (nx ?_))))))))
  by_cases h2 : ((k : Nat) : Int) < ((a.length : Nat) : Int)
  · refine ct rfl (decide_eq_true h2) (sk (nx (sq (bk (rg (m_ rfl rfl (m_ rfl rfl (m_ rfl rfl (m_ rfl rfl ?_)))))))))
    refine gx 1 k rfl (by omega) fun y8 p3 cs_ s4 w7 m9 e5 r6 us4 => ?_
    obtain ⟨rfl, -, -⟩ := r6
    refine vl (ix k e5 rfl rfl rfl rfl rfl (by omega)) rfl (vl (ldq (u := .int .i64 y8) 0 rfl rfl rfl rfl rfl rfl rfl) rfl (vl (ix k rfl rfl rfl rfl rfl rfl (by omega)) rfl (gs Kd.i64 [.int .i64 y8] y8 (fun _ => ⟨rfl, rfl, rfl⟩) (f2 (ste k rfl rfl rfl rfl rfl (by first | omega | (simp; omega)) (fun o10 s11 t12 => ?_))))))
    exact gr (a.take (k + 1) ++ List.replicate (a.length - (k + 1)) 0) (rowStep m9) (en (xn (nx (rg (m_ rfl rfl (vl (ra (c := ((k + 1 : Nat) : Int)) rfl rfl rfl (by omega) (by omega) (by omega)) rfl (a_ rfl rfl (en (lpe (s := (k, o, s)) (k + 1, o10, s11) [0, 1] ⟨by omega, fun q hq => (t12 q hq).elim (hinv q) (fun h => by cases h)⟩ (by show a.length - (k + 1) < a.length - k; omega) ⟨rfl, rfl, rfl, trivial⟩ rfl)))))))))
  · exact cf rfl (decide_eq_false h2) (xt (xq (xq (xb (nx (sq (rg (m_ rfl rfl (a_ rfl rfl (en (nx (rt (gr a (rowEnd (by omega)) (ret1 rfl rfl (fun w_ hs_ => made hs_ rfl (fun q hq => .inr (hinv q hq)))))))))))))))))
/-! laws.toRect -/
set_option maxRecDepth 20000 in
set_option maxHeartbeats 2000000 in
theorem laws_toRect (w : World) {Aa0 : Option Addr} {ca0 : Nat} {Aa1 : Option Addr} {ca1 : Nat} {a : Rect} {sa_ : List Nat} (ha : kRectS.Rel w [.slice Aa0 a.low.length ca0, .slice Aa1 a.high.length ca1] a [] sa_) (hz : szRect a ≤ 1048576) : Calls Tryz.prog 125 #[.agg #[.slice Aa0 a.low.length ca0, .slice Aa1 a.high.length ca1]] w (Made kRectO w a []) := by
  unfold szRect at hz
  refine fnc (X := X 13 w) (args := [.agg #[.slice Aa0 a.low.length ca0, .slice Aa1 a.high.length ca1]]) (l := [(0, .agg #[.slice Aa0 a.low.length ca0, .slice Aa1 a.high.length ca1])]) (G := [dat kRectS [.slice Aa0 a.low.length ca0, .slice Aa1 a.high.length ca1] a ([]) sa_]) Tryz.func125 rfl rfl rfl ⟨rfl, trivial⟩ (s0d ha (s0n w)).1 ?_
  refine sq (rg (bx rfl rfl rfl rfl ?_))
  intro b1
  refine al zero58 rfl rfl rfl ?_
  intro b2
  refine en (nx (sq (rg (al zero58 rfl rfl rfl ?_))))
  intro b3
  refine en (nx (sq (rg (vl (fa rfl rfl rfl) rfl (vl (ldb (u := .slice Aa0 a.low.length ca0) 2 rfl rfl rfl rfl rfl rfl rfl) rfl ?_)))))
  refine gd 3 kRectS_p0_1 rfl (cs' := [.slice Aa0 a.low.length ca0]) rfl fun s4 w_ rs4 us4 => ?_
  have Ls4 := Kd.sl_len rs4; have Cs4 := Kd.sl_cap rs4
  refine cm_ (dk := (Kd.row 2 Kd.i64)) (x := a.low) (S := []) (by kernel_rfl) rfl rfl rfl sn0 (fun w_ hs_ => laws_toInt64S w_ (hs_.at 0 rfl) (by omega)) (fun cs_ o7 s8 w_ r9 t10 => ?_)
  obtain ⟨A5, c6, rfl⟩ := Kd.row_sh r9
  refine vl (fa rfl rfl rfl) rfl (f2 (sto rfl rfl rfl rfl rfl rfl rfl (cs' := [.slice A5 a.low.length c6, .slice none 0 0]) rfl (en (nx (sq (rg (vl (fa rfl rfl rfl) rfl (vl (ldb (u := .slice Aa1 a.high.length ca1) 4 rfl rfl rfl rfl rfl rfl rfl) rfl ?_))))))))
  refine gd 5 kRectS_p1_1 rfl (cs' := [.slice Aa1 a.high.length ca1]) rfl fun s12 w_ rs12 us12 => ?_
  have Ls12 := Kd.sl_len rs12; have Cs12 := Kd.sl_cap rs12
  refine cm_ (dk := (Kd.row 2 Kd.i64)) (x := a.high) (S := []) (by kernel_rfl) rfl rfl rfl sn0 (fun w_ hs_ => laws_toInt64S w_ (hs_.at 0 rfl) (by omega)) (fun cs_ o15 s16 w_ r17 t18 => ?_)
  obtain ⟨A13, c14, rfl⟩ := Kd.row_sh r17
  exact vl (fa rfl rfl rfl) rfl (f2 (sto rfl rfl rfl rfl rfl rfl rfl (cs' := [.slice A5 a.low.length c6, .slice A13 a.high.length c14]) rfl (en (nx (sq (rg (vl (ldb 0 rfl rfl rfl rfl rfl rfl rfl) rfl (f5 (sto rfl rfl rfl rfl rfl rfl rfl (cs' := [.slice A5 a.low.length c6, .slice A13 a.high.length c14]) rfl (en (nx (rt (f2 (f4 (gj (da := (Kd.via (Kd.row 2 Kd.i64) Rect.low)) (db := (Kd.via (Kd.row 2 Kd.i64) Rect.high)) (x := a) (cs := [.slice A5 a.low.length c6, .slice A13 a.high.length c14]) rfl (retc 1 rfl rfl rfl rfl rfl rfl (fun w_ hs_ => made hs_ rfl (see_app t10 t18))))))))))))))))))
/-! laws.toPair -/
set_option maxRecDepth 20000 in
set_option maxHeartbeats 2000000 in
theorem laws_toPair (w : World) {Aa1 : Option Addr} {ca1 : Nat} {Aa2 : Option Addr} {ca2 : Nat} {a : Pair} {sa_ : List Nat} (ha : kPairS.Rel w [.int .i64 a.id, .slice Aa1 a.rect.low.length ca1, .slice Aa2 a.rect.high.length ca2] a [] sa_) (hz : szPair a ≤ 1048576) : Calls Tryz.prog 88 #[.agg #[.int .i64 a.id, .slice Aa1 a.rect.low.length ca1, .slice Aa2 a.rect.high.length ca2]] w (Made kPairO w a []) := by
  unfold szPair at hz
  refine fnc (X := X 12 w) (args := [.agg #[.int .i64 a.id, .slice Aa1 a.rect.low.length ca1, .slice Aa2 a.rect.high.length ca2]]) (l := [(0, .agg #[.int .i64 a.id, .slice Aa1 a.rect.low.length ca1, .slice Aa2 a.rect.high.length ca2])]) (G := [dat kPairS [.int .i64 a.id, .slice Aa1 a.rect.low.length ca1, .slice Aa2 a.rect.high.length ca2] a ([]) sa_]) Tryz.func88 rfl rfl rfl ⟨rfl, trivial⟩ (s0d ha (s0n w)).1 ?_
  refine sq (rg (bx rfl rfl rfl rfl ?_))
  intro b1
  refine al zero60 rfl rfl rfl ?_
  intro b2
  refine en (nx (sq (rg (al zero60 rfl rfl rfl ?_))))
  intro b3
  refine en (nx (sq (rg (vl (fa rfl rfl rfl) rfl (vl (ldb (u := .int .i64 a.id) 2 rfl rfl rfl rfl rfl rfl rfl) rfl (vl (fa rfl rfl rfl) rfl (sto rfl rfl rfl rfl rfl rfl rfl (cs' := [.int .i64 a.id, .slice none 0 0, .slice none 0 0]) rfl (en (nx (sq (rg (vl (fa rfl rfl rfl) rfl (vl (ldb 2 rfl rfl rfl rfl rfl rfl rfl) rfl ?_)))))))))))))
  refine gd 3 kPairS_p1_2 rfl (cs' := [.slice Aa1 a.rect.low.length ca1, .slice Aa2 a.rect.high.length ca2]) rfl fun s4 w_ rs4 us4 => ?_
  refine cm_ (dk := kRectO) (x := a.rect) (S := []) (by kernel_rfl) rfl rfl rfl sn0 (fun w_ hs_ => laws_toRect w_ (hs_.at 0 rfl) (by omega)) (fun cs_ o9 s10 w_ r11 t12 => ?_)
  obtain ⟨A5, c6, A7, c8, rfl⟩ := kRectO_sh r11
  exact vl (fa rfl rfl rfl) rfl (f2 (sto rfl rfl rfl rfl rfl rfl rfl (cs' := [.int .i64 a.id, .slice A5 a.rect.low.length c6, .slice A7 a.rect.high.length c8]) rfl (en (nx (sq (rg (vl (ldb 0 rfl rfl rfl rfl rfl rfl rfl) rfl (f3 (sto rfl rfl rfl rfl rfl rfl rfl (cs' := [.int .i64 a.id, .slice A5 a.rect.low.length c6, .slice A7 a.rect.high.length c8]) rfl (en (nx (rt (f2 (gs Kd.i64 [.int .i64 a.id] a.id (fun _ => ⟨rfl, rfl, rfl⟩) (gj (da := (Kd.via Kd.i64 Pair.id)) (db := (Kd.via kRectO Pair.rect)) (x := a) (cs := [.int .i64 a.id, .slice A5 a.rect.low.length c6, .slice A7 a.rect.high.length c8]) rfl (retc 1 rfl rfl rfl rfl rfl rfl (fun w_ hs_ => made hs_ rfl (see_app see_nil t12))))))))))))))))))
/-! laws.toPairS -/
set_option maxRecDepth 20000 in
set_option maxHeartbeats 2000000 in
theorem laws_toPairS (w : World) {Aa : Option Addr} {ca : Nat} {a : List Pair} {sa_ : List Nat} (ha : (Kd.sl kPairS).Rel w [.slice Aa a.length ca] a [] sa_) (hz : szList szPair a ≤ 1048576) : Calls Tryz.prog 90 #[.slice Aa a.length ca] w (Made (Kd.row 60 kPairO) w a []) := by
  have La := Kd.sl_len ha; have Ca := Kd.sl_cap ha
  have zl := szList_len szPair_nn a
  refine fnc (X := X 23 w) (args := [.slice Aa a.length ca]) (l := [(0, .slice Aa a.length ca)]) (G := [dat (Kd.sl kPairS) [.slice Aa a.length ca] a ([]) sa_]) Tryz.func90 rfl rfl rfl ⟨rfl, trivial⟩ (s0d ha (s0n w)).1 ?_
  refine sq (rg (a_ rfl rfl (en (nx (sq (rg (m_ rfl rfl (vl (ln rfl rfl rfl) rfl (mk (dk := kPairO) (z := zPair) rfl info60 rfl (fun _ => ⟨[_], _, [], [], [], [], rfl, rfl, rfl, ⟨rfl, rfl, rfl⟩, ⟨[_], _, [], [], [], [], rfl, rfl, rfl, .inl ⟨rfl, rfl, rfl, rfl⟩, .inl ⟨rfl, rfl, rfl, rfl⟩⟩⟩) rfl rfl (by omega) (by omega) rfl ?_)))))))))
  intro b1
  refine a_ rfl rfl (en (nx (sq (sq (rg (a_ rfl rfl (en (nx (bk ?_)))))))))
  refine lp (σ := Nat × List Nat × List Nat) (fun z_ : Nat × List Nat × List Nat => match z_ with | (k, o, s) => [(0, .slice Aa a.length ca), (3, .slice (some ⟨b1, 0, none⟩) a.length a.length), (4, .int .i64 ((k : Nat) : Int))])
      (fun z_ : Nat × List Nat × List Nat => match z_ with | (k, o, s) => [dat (Kd.row 60 kPairO) [.slice (some ⟨b1, 0, none⟩) a.length a.length] (a.take k ++ List.replicate (a.length - k) zPair) o s, dat (Kd.sl kPairS) [.slice Aa a.length ca] a ([]) sa_])
      (fun z_ : Nat × List Nat × List Nat => match z_ with | (k, o, s) => k ≤ a.length ∧ ∀ q ∈ s, w.heap.size ≤ q) (fun z_ : Nat × List Nat × List Nat => match z_ with | (k, o, s) => a.length - k) (0, [b1], []) [0, 0] ⟨Nat.zero_le _, by simp⟩ ⟨rfl, rfl, rfl, trivial⟩ rfl ?_
  rintro ⟨k, o, s⟩ hp_
  obtain ⟨hk, hinv⟩ := hp_
  refine sq (sq (rg (m_ rfl rfl (m_ rfl rfl (vl (ln rfl rfl rfl) rfl (vl (cm rfl rfl rfl rfl) rfl (en (nx ?_))))))))
  by_cases h2 : ((k : Nat) : Int) < ((a.length : Nat) : Int)
  · refine ct rfl (decide_eq_true h2) (sk (nx (sq (bk (rg (m_ rfl rfl (m_ rfl rfl (m_ rfl rfl (m_ rfl rfl ?_)))))))))
    refine gx 1 k rfl (by omega) fun y8 p3 cs_ s4 w7 m9 e5 r6 us4 => ?_
    obtain ⟨A10, c11, A12, c13, rfl⟩ := kPairS_sh r6
    refine vl (ix k e5 rfl rfl rfl rfl rfl (by omega)) rfl (vl (ldq 0 rfl rfl rfl rfl rfl rfl rfl) rfl ?_)
    refine gp 0 Kd.Sub.rfl rfl (cs' := [.int .i64 y8.id, .slice A10 y8.rect.low.length c11, .slice A12 y8.rect.high.length c13]) rfl fun s14 w_ rs14 us14 => ?_
    refine cm_ (dk := kPairO) (x := y8) (S := []) (by kernel_rfl) rfl rfl rfl sn0 (fun w_ hs_ => laws_toPair w_ (hs_.at 0 rfl) (by have z := szList_mem szPair_nn m9; omega)) (fun cs_ o19 s20 w_ r21 t22 => ?_)
    obtain ⟨A15, c16, A17, c18, rfl⟩ := kPairO_sh r21
    refine vl (ix k rfl rfl rfl rfl rfl rfl (by omega)) rfl (f3 (ste k rfl rfl rfl rfl rfl (by first | omega | (simp; omega)) (fun o24 s25 t26 => ?_)))
    exact gr (a.take (k + 1) ++ List.replicate (a.length - (k + 1)) zPair) (rowStep m9) (en (xn (nx (rg (m_ rfl rfl (vl (ra (c := ((k + 1 : Nat) : Int)) rfl rfl rfl (by omega) (by omega) (by omega)) rfl (a_ rfl rfl (en (lpe (s := (k, o, s)) (k + 1, o24, s25) [0, 2] ⟨by omega, fun q hq => (t26 q hq).elim (hinv q) (fun h => (t22 q h).resolve_left (by simp))⟩ (by show a.length - (k + 1) < a.length - k; omega) ⟨rfl, rfl, rfl, trivial⟩ rfl)))))))))
  · exact cf rfl (decide_eq_false h2) (xt (xq (xq (xb (nx (sq (rg (m_ rfl rfl (a_ rfl rfl (en (nx (rt (gr a (rowEnd (by omega)) (ret1 rfl rfl (fun w_ hs_ => made hs_ rfl (fun q hq => .inr (hinv q hq)))))))))))))))))
/-! laws.toQuery -/
set_option maxRecDepth 20000 in
set_option maxHeartbeats 2000000 in
theorem laws_toQuery (w : World) {Aa1 : Option Addr} {ca1 : Nat} {Aa2 : Option Addr} {ca2 : Nat} {Aa3 : Option Addr} {ca3 : Nat} {a : Query} {sa_ : List Nat} (ha : kQueryS.Rel w [.int .i64 a.kind, .slice Aa1 a.rect.low.length ca1, .slice Aa2 a.rect.high.length ca2, .slice Aa3 a.point.length ca3, .int .i64 a.k] a [] sa_) (hz : szQuery a ≤ 1048576) : Calls Tryz.prog 89 #[.agg #[.int .i64 a.kind, .slice Aa1 a.rect.low.length ca1, .slice Aa2 a.rect.high.length ca2, .slice Aa3 a.point.length ca3, .int .i64 a.k]] w (Made kQueryO w a []) := by
  unfold szQuery at hz; have z1 := szRect_nn a.rect
  refine fnc (X := X 19 w) (args := [.agg #[.int .i64 a.kind, .slice Aa1 a.rect.low.length ca1, .slice Aa2 a.rect.high.length ca2, .slice Aa3 a.point.length ca3, .int .i64 a.k]]) (l := [(0, .agg #[.int .i64 a.kind, .slice Aa1 a.rect.low.length ca1, .slice Aa2 a.rect.high.length ca2, .slice Aa3 a.point.length ca3, .int .i64 a.k])]) (G := [dat kQueryS [.int .i64 a.kind, .slice Aa1 a.rect.low.length ca1, .slice Aa2 a.rect.high.length ca2, .slice Aa3 a.point.length ca3, .int .i64 a.k] a ([]) sa_]) Tryz.func89 rfl rfl rfl ⟨rfl, trivial⟩ (s0d ha (s0n w)).1 ?_
  refine sq (rg (bx rfl rfl rfl rfl ?_))
  intro b1
  refine al zero62 rfl rfl rfl ?_
  intro b2
  refine en (nx (sq (rg (al zero62 rfl rfl rfl ?_))))
  intro b3
  refine en (nx (sq (rg (vl (fa rfl rfl rfl) rfl (vl (ldb (u := .int .i64 a.kind) 2 rfl rfl rfl rfl rfl rfl rfl) rfl (vl (fa rfl rfl rfl) rfl (sto rfl rfl rfl rfl rfl rfl rfl (cs' := [.int .i64 a.kind, .slice none 0 0, .slice none 0 0, .slice none 0 0, .int .i64 0]) rfl (en (nx (sq (rg (vl (fa rfl rfl rfl) rfl (vl (ldb 2 rfl rfl rfl rfl rfl rfl rfl) rfl ?_)))))))))))))
  refine gd 3 kQueryS_p1_2 rfl (cs' := [.slice Aa1 a.rect.low.length ca1, .slice Aa2 a.rect.high.length ca2]) rfl fun s4 w_ rs4 us4 => ?_
  refine cm_ (dk := kRectO) (x := a.rect) (S := []) (by kernel_rfl) rfl rfl rfl sn0 (fun w_ hs_ => laws_toRect w_ (hs_.at 0 rfl) (by omega)) (fun cs_ o9 s10 w_ r11 t12 => ?_)
  obtain ⟨A5, c6, A7, c8, rfl⟩ := kRectO_sh r11
  refine vl (fa rfl rfl rfl) rfl (f2 (sto rfl rfl rfl rfl rfl rfl rfl (cs' := [.int .i64 a.kind, .slice A5 a.rect.low.length c6, .slice A7 a.rect.high.length c8, .slice none 0 0, .int .i64 0]) rfl (en (nx (sq (rg (vl (fa rfl rfl rfl) rfl (vl (ldb (u := .slice Aa3 a.point.length ca3) 4 rfl rfl rfl rfl rfl rfl rfl) rfl ?_))))))))
  refine gd 5 kQueryS_p3_1 rfl (cs' := [.slice Aa3 a.point.length ca3]) rfl fun s14 w_ rs14 us14 => ?_
  have Ls14 := Kd.sl_len rs14; have Cs14 := Kd.sl_cap rs14
  refine cm_ (dk := (Kd.row 2 Kd.i64)) (x := a.point) (S := []) (by kernel_rfl) rfl rfl rfl sn0 (fun w_ hs_ => laws_toInt64S w_ (hs_.at 0 rfl) (by omega)) (fun cs_ o17 s18 w_ r19 t20 => ?_)
  obtain ⟨A15, c16, rfl⟩ := Kd.row_sh r19
  exact vl (fa rfl rfl rfl) rfl (f2 (sto rfl rfl rfl rfl rfl rfl rfl (cs' := [.int .i64 a.kind, .slice A5 a.rect.low.length c6, .slice A7 a.rect.high.length c8, .slice A15 a.point.length c16, .int .i64 0]) rfl (en (nx (sq (rg (vl (fa rfl rfl rfl) rfl (vl (ldb (u := .int .i64 a.k) 6 rfl rfl rfl rfl rfl rfl rfl) rfl (vl (fa rfl rfl rfl) rfl (sto rfl rfl rfl rfl rfl rfl rfl (cs' := [.int .i64 a.kind, .slice A5 a.rect.low.length c6, .slice A7 a.rect.high.length c8, .slice A15 a.point.length c16, .int .i64 a.k]) rfl (en (nx (sq (rg (vl (ldb 0 rfl rfl rfl rfl rfl rfl rfl) rfl (f5 (sto rfl rfl rfl rfl rfl rfl rfl (cs' := [.int .i64 a.kind, .slice A5 a.rect.low.length c6, .slice A7 a.rect.high.length c8, .slice A15 a.point.length c16, .int .i64 a.k]) rfl (en (nx (rt (gs Kd.i64 [.int .i64 a.k] a.k (fun _ => ⟨rfl, rfl, rfl⟩) (f3 (gj (da := (Kd.via (Kd.row 2 Kd.i64) Query.point)) (db := (Kd.via Kd.i64 Query.k)) (x := a) (cs := [.slice A15 a.point.length c16, .int .i64 a.k]) rfl (f4 (gj (da := (Kd.via kRectO Query.rect)) (db := ((Kd.via (Kd.row 2 Kd.i64) Query.point).cat (Kd.via Kd.i64 Query.k))) (x := a) (cs := [.slice A5 a.rect.low.length c6, .slice A7 a.rect.high.length c8, .slice A15 a.point.length c16, .int .i64 a.k]) rfl (gs Kd.i64 [.int .i64 a.kind] a.kind (fun _ => ⟨rfl, rfl, rfl⟩) (gj (da := (Kd.via Kd.i64 Query.kind)) (db := ((Kd.via kRectO Query.rect).cat ((Kd.via (Kd.row 2 Kd.i64) Query.point).cat (Kd.via Kd.i64 Query.k)))) (x := a) (cs := [.int .i64 a.kind, .slice A5 a.rect.low.length c6, .slice A7 a.rect.high.length c8, .slice A15 a.point.length c16, .int .i64 a.k]) rfl (retc 1 rfl rfl rfl rfl rfl rfl (fun w_ hs_ => made hs_ rfl (see_app see_nil (see_app t12 (see_app t20 see_nil))))))))))))))))))))))))))))))))
end Go.Proofs.YtkdiaknbndmajaaGreat.Sx
