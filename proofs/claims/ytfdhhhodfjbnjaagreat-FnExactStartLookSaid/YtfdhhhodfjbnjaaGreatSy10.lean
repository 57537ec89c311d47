/- What functions of the program answer, each at every input that its row names; walked through their code. -/
import Derived.Test.YtfdhhhodfjbnjaaGreatSy9
namespace Go.Proofs.YtfdhhhodfjbnjaaGreat.Sx
open Go Go.RowKit Go.Proofs
set_option linter.unusedVariables false
set_option linter.unusedSimpArgs false
def tab10 : Tab := { size := [(2, 1, false), (31, 2, true)], off := [((31, 0), 0), ((31, 1), 1)], elem := [] }
theorem tab_ok10 : tab10.check Tryz.prog = true := by kernel_rfl
noncomputable abbrev X10 (N : Nat) (w : World) : Cx := ⟨Tryz.prog, tab10, tab_ok10, wide, N, w, none, []⟩
theorem zero31 : (Tryz.prog.info? 31).bind (·.zero) = some (.agg #[.int .i64 0, .int .i64 0]) := by kernel_rfl
theorem bld31 : bld Tryz.prog 31 = some ([(0, 1), (1, 1)], [.int .i64 0, .int .i64 0]) := by kernel_rfl

structure IntResult where
  code : Int
  value : Int
  deriving DecidableEq
def kIntResultS : Kd IntResult := ((Kd.i64.via IntResult.code).cat (Kd.i64.via IntResult.value))
theorem kIntResultS_sh {w : World} {cs : List Value} {x : IntResult} {o s : List Nat} (h : kIntResultS.Rel w cs x o s) : cs = [.int .i64 x.code, .int .i64 x.value] := by
  obtain ⟨c10, c20, o10, o20, s10, s20, rfl, rfl, rfl, h0, k0⟩ := h
  obtain ⟨rfl, -, -⟩ := h0
  obtain ⟨rfl, -, -⟩ := k0
  exact rfl
theorem kIntResultS_self : Kd.Seals kIntResultS kIntResultS := (Kd.Seals.cat (Kd.Seals.via Kd.Seals.i64 _) (Kd.Seals.via Kd.Seals.i64 _))
theorem kIntResultS_pure : Kd.Pure kIntResultS := (Kd.Pure.cat (Kd.Pure.via Kd.Pure.i64 _) (Kd.Pure.via Kd.Pure.i64 _))
def kIntResultO : Kd IntResult := ((Kd.i64.via IntResult.code).cat (Kd.i64.via IntResult.value))
theorem kIntResultO_sh {w : World} {cs : List Value} {x : IntResult} {o s : List Nat} (h : kIntResultO.Rel w cs x o s) : cs = [.int .i64 x.code, .int .i64 x.value] := by
  obtain ⟨c10, c20, o10, o20, s10, s20, rfl, rfl, rfl, h0, k0⟩ := h
  obtain ⟨rfl, -, -⟩ := h0
  obtain ⟨rfl, -, -⟩ := k0
  exact rfl
theorem kIntResultO_seal : Kd.Seals kIntResultO kIntResultS := (Kd.Seals.cat (Kd.Seals.via Kd.Seals.i64 _) (Kd.Seals.via Kd.Seals.i64 _))
theorem IntResult_eq (a b : IntResult) : decide (a = b) = (decide (a.code = b.code) && decide (a.value = b.value)) := by
  cases a; cases b; rw [Bool.eq_iff_iff]; simp
theorem tree_0 {t : Tree} (h : treeFault t = 0) : Sound t.arena ∧ isPlace t.arena t.root = true ∧ treeRight t = true := by
  unfold treeFault at h
  split at h
  · rename_i h1
    split at h
    · rename_i h2
      split at h
      · rename_i h3; exact ⟨arena_0 h1, h2.2.1, h3⟩
      · cases h
    · cases h
  · rename_i h1; exact absurd h h1
def heightOf (t : Tree) : IntResult := if treeFault t = 0 then ⟨0, (nodeAt t.arena t.root).level + 1⟩ else ⟨treeFault t, 0⟩
/-! laws.eqIntResult -/
set_option maxRecDepth 20000 in
set_option maxHeartbeats 2000000 in
theorem laws_eqIntResult (w : World)  {a : IntResult} {sa_ : List Nat} (ha : kIntResultS.Rel w [.int .i64 a.code, .int .i64 a.value] a [] sa_)  {b : IntResult} {sb_ : List Nat} (hb : kIntResultS.Rel w [.int .i64 b.code, .int .i64 b.value] b [] sb_)  : Calls Tryz.prog 11 #[.agg #[.int .i64 a.code, .int .i64 a.value], .agg #[.int .i64 b.code, .int .i64 b.value]] w (fun e_ w2_ => e_ = .returned (.bool (decide (a = b))) ∧ Below w.heap.size w w2_) := by
  refine fnc (X := X10 15 w) (args := [.agg #[.int .i64 a.code, .int .i64 a.value], .agg #[.int .i64 b.code, .int .i64 b.value]]) (l := [(0, .agg #[.int .i64 a.code, .int .i64 a.value]), (1, .agg #[.int .i64 b.code, .int .i64 b.value])]) (G := [dat kIntResultS [.int .i64 b.code, .int .i64 b.value] b ([]) sb_, dat kIntResultS [.int .i64 a.code, .int .i64 a.value] a ([]) sa_]) Tryz.func11 rfl rfl rfl ⟨rfl, rfl, trivial⟩ (s0d hb (s0d ha (s0n w))).1 ?_
  refine sq (rg (bx rfl rfl rfl rfl ?_))
  intro b1
  refine bx rfl rfl rfl rfl ?_
  intro b2
  refine a_ rfl rfl (en (nx (sq (sq (rg (vl (fa rfl rfl rfl) rfl (vl (ldb (u := .int .i64 a.code) 1 rfl rfl rfl rfl rfl rfl rfl) rfl (vl (fa rfl rfl rfl) rfl (vl (ldb (u := .int .i64 b.code) 0 rfl rfl rfl rfl rfl rfl rfl) rfl (vl (cm rfl rfl rfl rfl) rfl (en (nx ?_))))))))))))
  by_cases h3 : a.code = b.code
  · refine cf rfl (bne_eq_false_iff_eq.2 h3) (sk (nx (sq (sq (rg (vl (fa rfl rfl rfl) rfl (vl (ldb (u := .int .i64 a.value) 1 rfl rfl rfl rfl rfl rfl rfl) rfl (vl (fa rfl rfl rfl) rfl (vl (ldb (u := .int .i64 b.value) 0 rfl rfl rfl rfl rfl rfl rfl) rfl (vl (cm rfl rfl rfl rfl) rfl (en (nx ?_))))))))))))
    by_cases h4 : a.value = b.value
    · refine cf rfl (bne_eq_false_iff_eq.2 h4) (sk (nx (sq (rg (a_ rfl rfl (en (nx (rt (ret1 rfl rfl (fun w_ hs_ => ⟨?_, hs_.below⟩))))))))))
      rw [IntResult_eq]; simp [h3, h4]
    · refine ct rfl (bne_iff_ne.2 h4) (sq (rg (a_ rfl rfl (en (nx (rt (xr (ret1 rfl rfl (fun w_ hs_ => ⟨?_, hs_.below⟩)))))))))
      rw [IntResult_eq]; simp [h3, h4]
  · refine ct rfl (bne_iff_ne.2 h3) (sq (rg (a_ rfl rfl (en (nx (rt (xr (ret1 rfl rfl (fun w_ hs_ => ⟨?_, hs_.below⟩)))))))))
    rw [IntResult_eq]; simp [h3]
def valued (c v : Int) : IntResult := if c = 0 then ⟨0, v⟩ else ⟨c, 0⟩
theorem valued_h {t : Tree} : valued (treeFault t) ((nodeAt t.arena t.root).level + 1) = heightOf t := rfl
/-! impl.valued -/
set_option maxRecDepth 20000 in
set_option maxHeartbeats 2000000 in
theorem impl_valued (w : World) (code : Int) (f : Int) {ff : FuncId} {cff bff : List Value} (hEf : enters Tryz.prog ff = true) (hff : ∀ (w1 : World) , code = 0 → Below w.heap.size w w1 → Calls Tryz.prog ff ((bff ++ ([] : List Value)) ++ cff).toArray w1 (fun e_ w2_ => e_ = .returned (.int .i64 (f )) ∧ Below w1.heap.size w1 w2_))  : Calls Tryz.prog 47 #[.int .i64 code, .func (.func ff) bff.toArray cff.toArray] w (Made kIntResultO w (valued code f) []) := by
  refine fnc (X := X10 12 w) (args := [.int .i64 code, .func (.func ff) bff.toArray cff.toArray]) (l := [(0, .int .i64 code), (1, .func (.func ff) bff.toArray cff.toArray)]) (G := []) Tryz.func47 rfl rfl rfl ⟨rfl, rfl, trivial⟩ (s0n w).1 ?_
  refine sq (rg (al zero31 rfl rfl rfl ?_))
  intro b1
  refine en (nx (sq (sq (rg (m_ rfl rfl (vl (cm rfl rfl rfl rfl) rfl (en (nx ?_))))))))
  by_cases h2 : code = (0 : Int)
  · exact cf rfl (bne_eq_false_iff_eq.2 h2) (sk (nx (sq (rg (m_ rfl rfl (cvb (v := .int .i64 (f )) hEf rfl rfl rfl rfl (fun w_ hs_ => hff w_  h2 hs_.below  ) (vl (bd bld31 rfl rfl rfl) rfl (sto rfl rfl rfl rfl rfl rfl rfl (cs' := [.int .i64 0, .int .i64 (f )]) rfl (en (nx (rt (gs Kd.i64 [.int .i64 (f )] ((⟨0, (f )⟩ : IntResult).value) (fun _ => ⟨rfl, rfl, rfl⟩) (gs Kd.i64 [.int .i64 0] ((⟨0, (f )⟩ : IntResult).code) (fun _ => ⟨rfl, rfl, rfl⟩) (gj (da := (Kd.via Kd.i64 IntResult.code)) (db := (Kd.via Kd.i64 IntResult.value)) (x := (⟨0, (f )⟩ : IntResult)) (cs := [.int .i64 0, .int .i64 (f )]) rfl (gr (valued code f) (by unfold valued; rw [if_pos h2]) (retc 1 rfl rfl rfl rfl rfl rfl (fun w_ hs_ => made hs_ rfl (see_app see_nil see_nil))))))))))))))))))
  · exact ct rfl (bne_iff_ne.2 h2) (sq (rg (m_ rfl rfl (vl (bd bld31 rfl rfl rfl) rfl (sto rfl rfl rfl rfl rfl rfl rfl (cs' := [.int .i64 code, .int .i64 0]) rfl (en (nx (rt (xr (gs Kd.i64 [.int .i64 0] ((⟨code, 0⟩ : IntResult).value) (fun _ => ⟨rfl, rfl, rfl⟩) (gs Kd.i64 [.int .i64 code] ((⟨code, 0⟩ : IntResult).code) (fun _ => ⟨rfl, rfl, rfl⟩) (gj (da := (Kd.via Kd.i64 IntResult.code)) (db := (Kd.via Kd.i64 IntResult.value)) (x := (⟨code, 0⟩ : IntResult)) (cs := [.int .i64 code, .int .i64 0]) rfl (gr (valued code f) (by unfold valued; rw [if_neg h2]) (retc 1 rfl rfl rfl rfl rfl rfl (fun w_ hs_ => made hs_ rfl (see_app see_nil see_nil))))))))))))))))
end Go.Proofs.YtfdhhhodfjbnjaaGreat.Sx
