/- What functions of the program answer, each at every input that its row names; walked through their code. -/
import Derived.Test.YtdhapgkmnjfgaaaGreatSy9
namespace Go.Proofs.YtdhapgkmnjfgaaaGreat.Sx
open Go Go.RowKit Go.Proofs
set_option linter.unusedVariables false
set_option linter.unusedSimpArgs false
def tab10 : Tab := { size := [(2, 1, false), (28, 8, true), (31, 1, false), (36, 8, true), (41, 2, true), (110, 4, true)], off := [((34, 1), 1), ((36, 1), 1), ((36, 2), 5), ((41, 0), 0), ((41, 1), 1), ((110, 0), 0)], elem := [(31, 110)] }
theorem tab_ok10 : tab10.check Tryz.prog = true := by kernel_rfl
noncomputable abbrev X10 (N : Nat) (w : World) : Cx := ⟨Tryz.prog, tab10, tab_ok10, wide, N, w, none⟩
theorem zero41 : (Tryz.prog.info? 41).bind (·.zero) = some (.agg #[.int .i64 0, .int .i64 0]) := by kernel_rfl
theorem bld41 : bld Tryz.prog 41 = some ([(0, 1), (1, 1)], [.int .i64 0, .int .i64 0]) := by kernel_rfl

structure IntResult where
  code : Int
  value : Int
  deriving DecidableEq
def kIntResultS : Kd IntResult := ((Kd.i64.via IntResult.code).cat (Kd.i64.via IntResult.value))
theorem kIntResultS_sh {w : World} {cs : List Value} {x : IntResult} {o s : List Nat} (h : kIntResultS.Rel w cs x o s) : cs = [.int .i64 x.code, .int .i64 x.value] := by
  obtain ⟨c10, c20, o10, o20, s10, s20, rfl, rfl, rfl, h0, k0⟩ := h
  obtain ⟨rfl, -, -⟩ := h0
  obtain ⟨rfl, -, -⟩ := k0
  exact rfl
theorem kIntResultS_self : Kd.Seals kIntResultS kIntResultS := (Kd.Seals.cat (Kd.Seals.via Kd.Seals.i64 _) (Kd.Seals.via Kd.Seals.i64 _))
theorem kIntResultS_pure : Kd.Pure kIntResultS := (Kd.Pure.cat (Kd.Pure.via Kd.Pure.i64 _) (Kd.Pure.via Kd.Pure.i64 _))
def kIntResultO : Kd IntResult := ((Kd.i64.via IntResult.code).cat (Kd.i64.via IntResult.value))
theorem kIntResultO_sh {w : World} {cs : List Value} {x : IntResult} {o s : List Nat} (h : kIntResultO.Rel w cs x o s) : cs = [.int .i64 x.code, .int .i64 x.value] := by
  obtain ⟨c10, c20, o10, o20, s10, s20, rfl, rfl, rfl, h0, k0⟩ := h
  obtain ⟨rfl, -, -⟩ := h0
  obtain ⟨rfl, -, -⟩ := k0
  exact rfl
theorem kIntResultO_seal : Kd.Seals kIntResultO kIntResultS := (Kd.Seals.cat (Kd.Seals.via Kd.Seals.i64 _) (Kd.Seals.via Kd.Seals.i64 _))
theorem IntResult_eq (a b : IntResult) : decide (a = b) = (decide (a.code = b.code) && decide (a.value = b.value)) := by
  cases a; cases b; rw [Bool.eq_iff_iff]; simp
theorem tree_0 {t : Tree} (h : treeFault t = 0) : Sound t.arena ∧ isPlace t.arena t.root = true ∧ treeRight t = true := by
  unfold treeFault at h
  split at h
  · rename_i h1
    split at h
    · rename_i h2
      split at h
      · rename_i h3; exact ⟨arena_0 h1, h2.2.1, h3⟩
      · cases h
    · cases h
  · rename_i h1; exact absurd h h1
def heightOf (t : Tree) : IntResult := if treeFault t = 0 then ⟨0, (nodeAt t.arena t.root).level + 1⟩ else ⟨treeFault t, 0⟩
/-! laws.eqIntResult -/
set_option maxRecDepth 20000 in
set_option maxHeartbeats 2000000 in
theorem laws_eqIntResult (w : World)  {a : IntResult} {sa_ : List Nat} (ha : kIntResultS.Rel w [.int .i64 a.code, .int .i64 a.value] a [] sa_)  {b : IntResult} {sb_ : List Nat} (hb : kIntResultS.Rel w [.int .i64 b.code, .int .i64 b.value] b [] sb_)  : Calls Tryz.prog 21 #[.agg #[.int .i64 a.code, .int .i64 a.value], .agg #[.int .i64 b.code, .int .i64 b.value]] w (fun e_ w2_ => e_ = .returned (.bool (decide (a = b))) ∧ Below w.heap.size w w2_) := by
  refine fnc (X := X10 15 w) (args := [.agg #[.int .i64 a.code, .int .i64 a.value], .agg #[.int .i64 b.code, .int .i64 b.value]]) (l := [(0, .agg #[.int .i64 a.code, .int .i64 a.value]), (1, .agg #[.int .i64 b.code, .int .i64 b.value])]) (G := [dat kIntResultS [.int .i64 b.code, .int .i64 b.value] b ([]) sb_, dat kIntResultS [.int .i64 a.code, .int .i64 a.value] a ([]) sa_]) Tryz.func21 rfl rfl rfl ⟨rfl, rfl, trivial⟩ (s0d hb (s0d ha (s0n w))).1 ?_
  refine sq (rg (bx rfl rfl rfl rfl ?_))
  intro b1
  refine bx rfl rfl rfl rfl ?_
  intro b2
  refine a_ rfl rfl (en (nx (sq (sq (rg (vl (fa rfl rfl rfl) rfl (vl (ldb (u := .int .i64 a.code) 1 rfl rfl rfl rfl rfl rfl rfl) rfl (vl (fa rfl rfl rfl) rfl (vl (ldb (u := .int .i64 b.code) 0 rfl rfl rfl rfl rfl rfl rfl) rfl (vl (cm rfl rfl rfl rfl) rfl (en (nx ?_))))))))))))
  by_cases h3 : a.code = b.code
  · refine cf rfl (bne_eq_false_iff_eq.2 h3) (sk (nx (sq (sq (rg (vl (fa rfl rfl rfl) rfl (vl (ldb (u := .int .i64 a.value) 1 rfl rfl rfl rfl rfl rfl rfl) rfl (vl (fa rfl rfl rfl) rfl (vl (ldb (u := .int .i64 b.value) 0 rfl rfl rfl rfl rfl rfl rfl) rfl (vl (cm rfl rfl rfl rfl) rfl (en (nx ?_))))))))))))
    by_cases h4 : a.value = b.value
    · refine cf rfl (bne_eq_false_iff_eq.2 h4) (sk (nx (sq (rg (a_ rfl rfl (en (nx (rt (ret1 rfl rfl (fun w_ hs_ => ⟨?_, hs_.below⟩))))))))))
      rw [IntResult_eq]; simp [h3, h4]
    · refine ct rfl (bne_iff_ne.2 h4) (sq (rg (a_ rfl rfl (en (nx (rt (xr (ret1 rfl rfl (fun w_ hs_ => ⟨?_, hs_.below⟩)))))))))
      rw [IntResult_eq]; simp [h3, h4]
  · refine ct rfl (bne_iff_ne.2 h3) (sq (rg (a_ rfl rfl (en (nx (rt (xr (ret1 rfl rfl (fun w_ hs_ => ⟨?_, hs_.below⟩)))))))))
    rw [IntResult_eq]; simp [h3]
/-! impl.HeightOf$1 -/
set_option maxRecDepth 20000 in
set_option maxHeartbeats 2000000 in
theorem impl_HeightOf_1 (w : World) {At2 : Option Addr} {ct2 : Nat} {At3 : Option Addr} {ct3 : Nat} {At4 : Option Addr} {ct4 : Nat} {t : Tree} {st_ : List Nat} {pt : Addr} (ht : (ptr kTreeS pt [.int .i64 t.style, .int .i64 t.arena.dims, .slice At2 t.arena.nodes.length ct2, .slice At3 t.arena.free.length ct3, .slice At4 t.arena.retired.length ct4, .int .i64 t.root, .int .i64 t.rootNsn, .int .i64 t.counter] t st_).P w) (hS : Sound t.arena) (hp : isPlace t.arena t.root = true) : Calls Tryz.prog 93 #[.pointer (some pt)] w (fun e_ w2_ => e_ = .returned (.int .i64 ((nodeAt t.arena t.root).level + 1)) ∧ Below w.heap.size w w2_) := by
  have hq := within_t hp; have hnl := node_0 (hS.node _ (nodeAt_mem hp).1); have hll := leaf_len hS hp; have hwk := wk_at hp; have hsl := hS.len
  refine fnc (X := X10 11 w) (args := [.pointer (some pt)]) (l := [(0, .pointer (some pt))]) (G := [ptr kTreeS pt [.int .i64 t.style, .int .i64 t.arena.dims, .slice At2 t.arena.nodes.length ct2, .slice At3 t.arena.free.length ct3, .slice At4 t.arena.retired.length ct4, .int .i64 t.root, .int .i64 t.rootNsn, .int .i64 t.counter] t st_]) Tryz.func93 rfl rfl rfl ⟨rfl, trivial⟩ (s0p ht (s0n w)).1 ?_
  refine sq (rg (a_ rfl rfl (en (nx (sq (rg (vl (fa rfl rfl rfl) rfl (vl (fb rfl rfl rfl) rfl (vl (ldp (u := .slice At2 t.arena.nodes.length ct2) 0 rfl rfl rfl rfl rfl rfl rfl) rfl (vl (fa rfl rfl rfl) rfl (vl (ldp (u := .int .i64 t.root) 0 rfl rfl rfl rfl rfl rfl rfl) rfl ?_)))))))))))
  refine gp 0 kTreeS_p2_1 rfl (cs' := [.slice At2 t.arena.nodes.length ct2]) rfl fun s1 w_ rs1 us1 => ?_
  have Ls1 := Kd.sl_len rs1; have Cs1 := Kd.sl_cap rs1
  refine gx 0 t.root.toNat rfl (by omega) fun y7 p2 cs_ s3 w6 m8 e4 r5 us3 => ?_
  obtain ⟨A9, c10, rfl⟩ := kNodeS_sh r5
  have ey7 := nodeAt_of m8; subst ey7
  refine vl (ixz t.root.toNat (by omega) e4 rfl rfl rfl rfl rfl (by omega)) rfl (vl (fa rfl rfl rfl) rfl (vl (ldp (u := .int .i64 ((nodeAt t.arena t.root).level)) 0 rfl rfl rfl rfl rfl rfl rfl) rfl (vl (ra (c := (nodeAt t.arena t.root).level + 1) rfl rfl rfl rfl (by omega) (by omega)) rfl (a_ rfl rfl (en (nx (rt (ret1 rfl rfl (fun w_ hs_ => ⟨?_, hs_.below⟩)))))))))
  rfl
/-! spec.HeightOf -/
set_option maxRecDepth 20000 in
set_option maxHeartbeats 2000000 in
theorem spec_HeightOf (w : World) {At2 : Option Addr} {ct2 : Nat} {At3 : Option Addr} {ct3 : Nat} {At4 : Option Addr} {ct4 : Nat} {t : Tree} {st_ : List Nat} (ht : kTreeS.Rel w [.int .i64 t.style, .int .i64 t.arena.dims, .slice At2 t.arena.nodes.length ct2, .slice At3 t.arena.free.length ct3, .slice At4 t.arena.retired.length ct4, .int .i64 t.root, .int .i64 t.rootNsn, .int .i64 t.counter] t [] st_)  : Calls Tryz.prog 19 #[.agg #[.int .i64 t.style, .int .i64 t.arena.dims, .slice At2 t.arena.nodes.length ct2, .slice At3 t.arena.free.length ct3, .slice At4 t.arena.retired.length ct4, .int .i64 t.root, .int .i64 t.rootNsn, .int .i64 t.counter]] w (Made kIntResultO w (heightOf t) []) := by
  refine fnc (X := X10 20 w) (args := [.agg #[.int .i64 t.style, .int .i64 t.arena.dims, .slice At2 t.arena.nodes.length ct2, .slice At3 t.arena.free.length ct3, .slice At4 t.arena.retired.length ct4, .int .i64 t.root, .int .i64 t.rootNsn, .int .i64 t.counter]]) (l := [(0, .agg #[.int .i64 t.style, .int .i64 t.arena.dims, .slice At2 t.arena.nodes.length ct2, .slice At3 t.arena.free.length ct3, .slice At4 t.arena.retired.length ct4, .int .i64 t.root, .int .i64 t.rootNsn, .int .i64 t.counter])]) (G := [dat kTreeS [.int .i64 t.style, .int .i64 t.arena.dims, .slice At2 t.arena.nodes.length ct2, .slice At3 t.arena.free.length ct3, .slice At4 t.arena.retired.length ct4, .int .i64 t.root, .int .i64 t.rootNsn, .int .i64 t.counter] t ([]) st_]) Tryz.func19 rfl rfl rfl ⟨rfl, trivial⟩ (s0d ht (s0n w)).1 ?_
  refine sq (rg (bx rfl rfl rfl rfl ?_))
  intro b1
  refine al zero41 rfl rfl rfl ?_
  intro b2
  refine en (nx (sq (sq (rg (vl (ldb 1 rfl rfl rfl rfl rfl rfl rfl) rfl (cs_ (v := .int .i64 (treeFault t)) (by kernel_rfl) rfl rfl rfl (fun w_ hs_ => spec_TreeFault w_ (hs_.at 2 rfl)) (a_ rfl rfl (en (nx (sq (rg (m_ rfl rfl (vl (cm rfl rfl rfl rfl) rfl (en (nx ?_)))))))))))))))
  by_cases h3 : (treeFault t) = (0 : Int)
  · obtain ⟨hS, hp, hr⟩ := tree_0 h3; have hq := within_t hp; have hnl := node_0 (hS.node _ (nodeAt_mem hp).1); have hsl := hS.len
    refine cf rfl (bne_eq_false_iff_eq.2 h3) (sk (nx (sq (rg (vl (fa rfl rfl rfl) rfl (vl (fa rfl rfl rfl) rfl (vl (ldb (u := .slice At2 t.arena.nodes.length ct2) 1 rfl rfl rfl rfl rfl rfl rfl) rfl (vl (fa rfl rfl rfl) rfl (vl (ldb (u := .int .i64 t.root) 1 rfl rfl rfl rfl rfl rfl rfl) rfl ?_)))))))))
    refine gd 2 kTreeS_p2_1 rfl (cs' := [.slice At2 t.arena.nodes.length ct2]) rfl fun s4 w_ rs4 us4 => ?_
    have Ls4 := Kd.sl_len rs4; have Cs4 := Kd.sl_cap rs4
    refine gx 0 t.root.toNat rfl (by omega) fun y10 p5 cs_ s6 w9 m11 e7 r8 us6 => ?_
    obtain ⟨A12, c13, rfl⟩ := kNodeS_sh r8
    have ey10 := nodeAt_of m11; subst ey10
    exact vl (ixz t.root.toNat (by omega) e7 rfl rfl rfl rfl rfl (by omega)) rfl (vl (fa rfl rfl rfl) rfl (vl (ldp (u := .int .i64 ((nodeAt t.arena t.root).level)) 0 rfl rfl rfl rfl rfl rfl rfl) rfl (vl (ra (c := (nodeAt t.arena t.root).level + 1) rfl rfl rfl rfl (by omega) (by omega)) rfl (vl (bd bld41 rfl rfl rfl) rfl (f2 (sto rfl rfl rfl rfl rfl rfl rfl (cs' := [.int .i64 0, .int .i64 ((nodeAt t.arena t.root).level + 1)]) rfl (en (nx (rt (gs Kd.i64 [.int .i64 ((nodeAt t.arena t.root).level + 1)] ((⟨0, (nodeAt t.arena t.root).level + 1⟩ : IntResult).value) (fun _ => ⟨rfl, rfl, rfl⟩) (gs Kd.i64 [.int .i64 0] ((⟨0, (nodeAt t.arena t.root).level + 1⟩ : IntResult).code) (fun _ => ⟨rfl, rfl, rfl⟩) (gj (da := (Kd.via Kd.i64 IntResult.code)) (db := (Kd.via Kd.i64 IntResult.value)) (x := (⟨0, (nodeAt t.arena t.root).level + 1⟩ : IntResult)) (cs := [.int .i64 0, .int .i64 ((nodeAt t.arena t.root).level + 1)]) rfl (gr (heightOf t) (by unfold heightOf; rw [if_pos h3]) (retc 1 rfl rfl rfl rfl rfl rfl (fun w_ hs_ => made hs_ rfl (see_app see_nil see_nil))))))))))))))))
  · exact ct rfl (bne_iff_ne.2 h3) (sq (rg (m_ rfl rfl (vl (bd bld41 rfl rfl rfl) rfl (sto rfl rfl rfl rfl rfl rfl rfl (cs' := [.int .i64 (treeFault t), .int .i64 0]) rfl (en (nx (rt (xr (gs Kd.i64 [.int .i64 0] ((⟨(treeFault t), 0⟩ : IntResult).value) (fun _ => ⟨rfl, rfl, rfl⟩) (gs Kd.i64 [.int .i64 (treeFault t)] ((⟨(treeFault t), 0⟩ : IntResult).code) (fun _ => ⟨rfl, rfl, rfl⟩) (gj (da := (Kd.via Kd.i64 IntResult.code)) (db := (Kd.via Kd.i64 IntResult.value)) (x := (⟨(treeFault t), 0⟩ : IntResult)) (cs := [.int .i64 (treeFault t), .int .i64 0]) rfl (gr (heightOf t) (by unfold heightOf; rw [if_neg h3]) (retc 1 rfl rfl rfl rfl rfl rfl (fun w_ hs_ => made hs_ rfl (see_app see_nil see_nil))))))))))))))))
def valued (c v : Int) : IntResult := if c = 0 then ⟨0, v⟩ else ⟨c, 0⟩
theorem valued_h {t : Tree} : valued (treeFault t) ((nodeAt t.arena t.root).level + 1) = heightOf t := rfl
/-! impl.valued -/
set_option maxRecDepth 20000 in
set_option maxHeartbeats 2000000 in
theorem impl_valued (w : World) (code : Int) (f : Int) {ff : FuncId} {cff : List Value} (hEf : enters Tryz.prog ff = true) (hff : ∀ (w1 : World) , code = 0 → Below w.heap.size w w1 → Calls Tryz.prog ff (([] : List Value) ++ cff).toArray w1 (fun e_ w2_ => e_ = .returned (.int .i64 (f )) ∧ Below w1.heap.size w1 w2_))  : Calls Tryz.prog 92 #[.int .i64 code, .func (.func ff) #[] cff.toArray] w (Made kIntResultO w (valued code f) []) := by
  refine fnc (X := X10 12 w) (args := [.int .i64 code, .func (.func ff) #[] cff.toArray]) (l := [(0, .int .i64 code), (1, .func (.func ff) #[] cff.toArray)]) (G := []) Tryz.func92 rfl rfl rfl ⟨rfl, rfl, trivial⟩ (s0n w).1 ?_
  refine sq (rg (al zero41 rfl rfl rfl ?_))
  intro b1
  refine en (nx (sq (sq (rg (m_ rfl rfl (vl (cm rfl rfl rfl rfl) rfl (en (nx ?_))))))))
  by_cases h2 : code = (0 : Int)
  · exact cf rfl (bne_eq_false_iff_eq.2 h2) (sk (nx (sq (rg (m_ rfl rfl (cv_ (v := .int .i64 (f )) hEf rfl rfl rfl rfl (fun w_ hs_ => hff w_  h2 hs_.below  ) (vl (bd bld41 rfl rfl rfl) rfl (sto rfl rfl rfl rfl rfl rfl rfl (cs' := [.int .i64 0, .int .i64 (f )]) rfl (en (nx (rt (gs Kd.i64 [.int .i64 (f )] ((⟨0, (f )⟩ : IntResult).value) (fun _ => ⟨rfl, rfl, rfl⟩) (gs Kd.i64 [.int .i64 0] ((⟨0, (f )⟩ : IntResult).code) (fun _ => ⟨rfl, rfl, rfl⟩) (gj (da := (Kd.via Kd.i64 IntResult.code)) (db := (Kd.via Kd.i64 IntResult.value)) (x := (⟨0, (f )⟩ : IntResult)) (cs := [.int .i64 0, .int .i64 (f )]) rfl (gr (valued code f) (by unfold valued; rw [if_pos h2]) (retc 1 rfl rfl rfl rfl rfl rfl (fun w_ hs_ => made hs_ rfl (see_app see_nil see_nil))))))))))))))))))
  · exact ct rfl (bne_iff_ne.2 h2) (sq (rg (m_ rfl rfl (vl (bd bld41 rfl rfl rfl) rfl (sto rfl rfl rfl rfl rfl rfl rfl (cs' := [.int .i64 code, .int .i64 0]) rfl (en (nx (rt (xr (gs Kd.i64 [.int .i64 0] ((⟨code, 0⟩ : IntResult).value) (fun _ => ⟨rfl, rfl, rfl⟩) (gs Kd.i64 [.int .i64 code] ((⟨code, 0⟩ : IntResult).code) (fun _ => ⟨rfl, rfl, rfl⟩) (gj (da := (Kd.via Kd.i64 IntResult.code)) (db := (Kd.via Kd.i64 IntResult.value)) (x := (⟨code, 0⟩ : IntResult)) (cs := [.int .i64 code, .int .i64 0]) rfl (gr (valued code f) (by unfold valued; rw [if_neg h2]) (retc 1 rfl rfl rfl rfl rfl rfl (fun w_ hs_ => made hs_ rfl (see_app see_nil see_nil))))))))))))))))
/-! impl.HeightOf -/
set_option maxRecDepth 20000 in
set_option maxHeartbeats 2000000 in
theorem impl_HeightOf (w : World) {At2 : Option Addr} {ct2 : Nat} {At3 : Option Addr} {ct3 : Nat} {At4 : Option Addr} {ct4 : Nat} {t : Tree} {st_ : List Nat} (ht : kTreeS.Rel w [.int .i64 t.style, .int .i64 t.arena.dims, .slice At2 t.arena.nodes.length ct2, .slice At3 t.arena.free.length ct3, .slice At4 t.arena.retired.length ct4, .int .i64 t.root, .int .i64 t.rootNsn, .int .i64 t.counter] t [] st_)  : Calls Tryz.prog 20 #[.agg #[.int .i64 t.style, .int .i64 t.arena.dims, .slice At2 t.arena.nodes.length ct2, .slice At3 t.arena.free.length ct3, .slice At4 t.arena.retired.length ct4, .int .i64 t.root, .int .i64 t.rootNsn, .int .i64 t.counter]] w (Made kIntResultO w (heightOf t) []) := by
  refine fnc (X := X10 7 w) (args := [.agg #[.int .i64 t.style, .int .i64 t.arena.dims, .slice At2 t.arena.nodes.length ct2, .slice At3 t.arena.free.length ct3, .slice At4 t.arena.retired.length ct4, .int .i64 t.root, .int .i64 t.rootNsn, .int .i64 t.counter]]) (l := [(0, .agg #[.int .i64 t.style, .int .i64 t.arena.dims, .slice At2 t.arena.nodes.length ct2, .slice At3 t.arena.free.length ct3, .slice At4 t.arena.retired.length ct4, .int .i64 t.root, .int .i64 t.rootNsn, .int .i64 t.counter])]) (G := [dat kTreeS [.int .i64 t.style, .int .i64 t.arena.dims, .slice At2 t.arena.nodes.length ct2, .slice At3 t.arena.free.length ct3, .slice At4 t.arena.retired.length ct4, .int .i64 t.root, .int .i64 t.rootNsn, .int .i64 t.counter] t ([]) st_]) Tryz.func20 rfl rfl rfl ⟨rfl, trivial⟩ (s0d ht (s0n w)).1 ?_
  refine sq (rg (bx rfl rfl rfl rfl ?_))
  intro b1
  refine al zero41 rfl rfl rfl ?_
  intro b2
  refine en (nx (sq (rg (vl (ldb 1 rfl rfl rfl rfl rfl rfl rfl) rfl ?_))))
  refine cs_ (v := .int .i64 (treeFault t)) (by kernel_rfl) rfl rfl rfl (fun w_ hs_ => impl_TreeFault w_ (hs_.at 2 rfl)) (vl (mf rfl rfl rfl) rfl (cm_ (dk := kIntResultO) (x := (valued (treeFault t) ((nodeAt t.arena t.root).level + 1))) (S := []) (by kernel_rfl) rfl rfl rfl sn0 (fun w_ hs_ => impl_valued w_ _ ((nodeAt t.arena t.root).level + 1) (by kernel_rfl) (fun w1  mc_ b_  => impl_HeightOf_1 w1  (ptr_blk ((hs_.step b_).at 1 rfl) ((hs_.step b_).at 2 rfl) rfl) (tree_0 mc_).1 (tree_0 mc_).2.1)) (fun cs_ o3 s4 w_ r5 t6 => ?_)))
  obtain ⟨rfl⟩ := kIntResultO_sh r5
  exact f1 (sto rfl rfl rfl rfl rfl rfl rfl (cs' := [.int .i64 ((valued (treeFault t) ((nodeAt t.arena t.root).level + 1)).code), .int .i64 ((valued (treeFault t) ((nodeAt t.arena t.root).level + 1)).value)]) rfl (en (nx (rt (f1 (gr (heightOf t) valued_h (retc 1 rfl rfl rfl rfl rfl rfl (fun w_ hs_ => made hs_ rfl t6))))))))
/-! laws.FnExactHeightOf -/
set_option maxRecDepth 20000 in
set_option maxHeartbeats 2000000 in
theorem laws_FnExactHeightOf (w : World) {AaT2 : Option Addr} {caT2 : Nat} {AaT3 : Option Addr} {caT3 : Nat} {AaT4 : Option Addr} {caT4 : Nat} {aT : Tree} {saT_ : List Nat} (haT : kTreeS.Rel w [.int .i64 aT.style, .int .i64 aT.arena.dims, .slice AaT2 aT.arena.nodes.length caT2, .slice AaT3 aT.arena.free.length caT3, .slice AaT4 aT.arena.retired.length caT4, .int .i64 aT.root, .int .i64 aT.rootNsn, .int .i64 aT.counter] aT [] saT_)  : Calls Tryz.prog 4 #[.agg #[.int .i64 aT.style, .int .i64 aT.arena.dims, .slice AaT2 aT.arena.nodes.length caT2, .slice AaT3 aT.arena.free.length caT3, .slice AaT4 aT.arena.retired.length caT4, .int .i64 aT.root, .int .i64 aT.rootNsn, .int .i64 aT.counter]] w (fun e_ w2_ => e_ = .returned (.bool true) ∧ Below w.heap.size w w2_) := by
  have n0 := szTree_nn aT
  refine fnc (X := X10 28 w) (args := [.agg #[.int .i64 aT.style, .int .i64 aT.arena.dims, .slice AaT2 aT.arena.nodes.length caT2, .slice AaT3 aT.arena.free.length caT3, .slice AaT4 aT.arena.retired.length caT4, .int .i64 aT.root, .int .i64 aT.rootNsn, .int .i64 aT.counter]]) (l := [(0, .agg #[.int .i64 aT.style, .int .i64 aT.arena.dims, .slice AaT2 aT.arena.nodes.length caT2, .slice AaT3 aT.arena.free.length caT3, .slice AaT4 aT.arena.retired.length caT4, .int .i64 aT.root, .int .i64 aT.rootNsn, .int .i64 aT.counter])]) (G := [dat kTreeS [.int .i64 aT.style, .int .i64 aT.arena.dims, .slice AaT2 aT.arena.nodes.length caT2, .slice AaT3 aT.arena.free.length caT3, .slice AaT4 aT.arena.retired.length caT4, .int .i64 aT.root, .int .i64 aT.rootNsn, .int .i64 aT.counter] aT ([]) saT_]) Tryz.func4 rfl rfl rfl ⟨rfl, trivial⟩ (s0d haT (s0n w)).1 ?_
  refine sq (rg (bx rfl rfl rfl rfl ?_))
  intro b1
  refine a_ rfl rfl (en (nx (sq (rg (a_ rfl rfl (en (nx (sq (rg (vl (ldb 0 rfl rfl rfl rfl rfl rfl rfl) rfl (m_ rfl rfl (cs_ (v := .int .i64 (szTake (szTree aT) 1048576)) (by kernel_rfl) rfl rfl rfl (fun w_ hs_ => laws_szTree w_ _ (hs_.at 1 rfl) (by omega) (by omega)) (a_ rfl rfl (en (nx (sq (sq (rg (m_ rfl rfl (vl (cm rfl rfl rfl rfl) rfl (en (nx ?_))))))))))))))))))))))
  by_cases h2 : (szTake (szTree aT) 1048576) < (0 : Int)
  · have eh2 := szTake_t h2
    refine ct rfl (decide_eq_true h2) (sq (rg (a_ rfl rfl (en (nx (rt (xr (ret1 rfl rfl (fun w_ hs_ => ⟨?_, hs_.below⟩)))))))))
    rfl
  · have eh2 := szTake_f h2
    refine cf rfl (decide_eq_false h2) (sk (nx (sq (rg (vl (ldb 0 rfl rfl rfl rfl rfl rfl rfl) rfl (cm_ (dk := kTreeO) (x := aT) (S := []) (by kernel_rfl) rfl rfl rfl sn0 (fun w_ hs_ => laws_toTree w_ (hs_.at 1 rfl) (by omega)) (fun cs_ o9 s10 w_ r11 t12 => ?_)))))))
    obtain ⟨A3, c4, A5, c6, A7, c8, rfl⟩ := kTreeO_sh r11
    refine cm_ (dk := kIntResultO) (x := (heightOf aT)) (S := []) (by kernel_rfl) rfl rfl rfl sn0 (fun w_ hs_ => bor kTreeO_seal (hs_.at 0 rfl) fun _ lb0_ => spec_HeightOf w_ lb0_) (fun cs_ o14 s15 w_ r16 t17 => ?_)
    obtain ⟨rfl⟩ := kIntResultO_sh r16
    refine al zero41 rfl rfl rfl ?_
    intro b19
    refine sto rfl rfl rfl rfl rfl rfl rfl (cs' := [.int .i64 ((heightOf aT).code), .int .i64 ((heightOf aT).value)]) rfl (en (nx (sq (rg (vl (ldb 3 rfl rfl rfl rfl rfl rfl rfl) rfl (cm_ (dk := kTreeO) (x := aT) (S := []) (by kernel_rfl) rfl rfl rfl sn0 (fun w_ hs_ => laws_toTree w_ (hs_.at 4 rfl) (by omega)) (fun cs_ o26 s27 w_ r28 t29 => ?_)))))))
    obtain ⟨A20, c21, A22, c23, A24, c25, rfl⟩ := kTreeO_sh r28
    refine al zero36 rfl rfl rfl ?_
    intro b31
    refine sto rfl rfl rfl rfl rfl rfl rfl (cs' := [.int .i64 aT.style, .int .i64 aT.arena.dims, .slice A20 aT.arena.nodes.length c21, .slice A22 aT.arena.free.length c23, .slice A24 aT.arena.retired.length c25, .int .i64 aT.root, .int .i64 aT.rootNsn, .int .i64 aT.counter]) rfl (en (nx (sq (rg (vl (ldb 0 rfl rfl rfl rfl rfl rfl rfl) rfl (cm_ (dk := kIntResultO) (x := (heightOf aT)) (S := []) (by kernel_rfl) rfl rfl rfl sn0 (fun w_ hs_ => bor kTreeO_seal (hs_.at 1 rfl) fun _ lb0_ => impl_HeightOf w_ lb0_) (fun cs_ o32 s33 w_ r34 t35 => ?_)))))))
    obtain ⟨rfl⟩ := kIntResultO_sh r34
    refine al zero41 rfl rfl rfl ?_
    intro b37
    refine sto rfl rfl rfl rfl rfl rfl rfl (cs' := [.int .i64 ((heightOf aT).code), .int .i64 ((heightOf aT).value)]) rfl (en (nx (sq (sq (rg (vl (ldb 0 rfl rfl rfl rfl rfl rfl rfl) rfl (vl (ldb 4 rfl rfl rfl rfl rfl rfl rfl) rfl (cs_ (v := .bool (decide ((heightOf aT) = (heightOf aT)))) (by kernel_rfl) rfl rfl rfl (fun w_ hs_ => bor kIntResultO_seal (hs_.at 1 rfl) fun _ lb0_ => bor kIntResultO_seal (hs_.at 1 rfl) fun _ lb1_ => laws_eqIntResult w_ lb0_ lb1_) (vl (nt rfl rfl) rfl (en (nx (cf rfl (not_f (decide_eq_true rfl)) (sk (nx (sq (sq ?_))))))))))))))))
    refine r0 (qv 0 rfl (ldb 2 rfl rfl rfl rfl rfl rfl rfl) rfl (by kernel_rfl) (qv 1 rfl (ldb 7 rfl rfl rfl rfl rfl rfl rfl) rfl (by kernel_rfl) (q1 2 [0, 0, 0, 0, 0, 0, 0, 0, 0] rfl (by kernel_rfl) rfl (cm_ (dk := kTreeO) (x := aT) (S := []) (by kernel_rfl) rfl rfl rfl sn0 (fun w_ hs_ => by exact laws_toTree w_ (hs_.at 8 rfl) (by omega)) (fun cs_ o50 s51 w_ r52 t53 => ?_)))))
    obtain ⟨A44, c45, A46, c47, A48, c49, rfl⟩ := kTreeO_sh r52
    refine qn (q1 3 [1, 1, 1, 1, 1, 1, 1, 1, 1] rfl (by kernel_rfl) rfl (cs_ (v := .bool (decide (aT = aT))) (by kernel_rfl) rfl rfl rfl (fun w_ hs_ => by exact bor kTreeO_seal (hs_.at 4 rfl) fun _ lb0_ => bor kTreeO_seal (hs_.at 0 rfl) fun _ lb1_ => laws_eqTree w_ lb0_ lb1_) (qn (qv 4 rfl (nt rfl rfl) rfl (by kernel_rfl) (qe [1, 1, 1, 1, 1, 1, 1, 1, 1] (by kernel_rfl) rfl (nx (cf rfl (not_f (decide_eq_true rfl)) (sk (nx (sq (rg (a_ rfl rfl (en (nx (rt (ret1 rfl rfl (fun w_ hs_ => ⟨?_, hs_.below⟩)))))))))))))))))
    rfl
end Go.Proofs.YtdhapgkmnjfgaaaGreat.Sx
