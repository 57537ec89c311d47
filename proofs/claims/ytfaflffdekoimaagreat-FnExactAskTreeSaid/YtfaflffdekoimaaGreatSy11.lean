/- What functions of the program answer, each at every input that its row names; walked through their code. -/
import Derived.Test.YtfaflffdekoimaaGreatSy10
namespace Go.Proofs.YtfaflffdekoimaaGreat.Sx
open Go Go.RowKit Go.Proofs
set_option linter.unusedVariables false
set_option linter.unusedSimpArgs false
def tab11 : Tab := { size := [(2, 1, false), (23, 1, false), (39, 1, false), (40, 1, false), (42, 4, true), (114, 1, false), (116, 4, true), (118, 2, true), (140, 4, true)], off := [((42, 1), 1), ((42, 2), 2), ((42, 3), 3), ((44, 1), 1), ((46, 0), 0), ((46, 1), 1), ((116, 0), 0), ((116, 1), 1), ((116, 2), 2), ((116, 3), 3), ((118, 0), 0), ((118, 1), 1), ((140, 0), 0), ((140, 1), 2), ((140, 2), 3)], elem := [(23, 2), (39, 116), (40, 118), (114, 140)] }
theorem tab_ok11 : tab11.check Tryz.prog = true := by kernel_rfl
noncomputable abbrev X11 (N : Nat) (w : World) : Cx := ⟨Tryz.prog, tab11, tab_ok11, wide, N, w, none, []⟩

structure IntsResult where
  code : Int
  ids : List Int
  deriving DecidableEq
def kIntsResultS : Kd IntsResult := ((Kd.i64.via IntsResult.code).cat ((Kd.sl Kd.i64).via IntsResult.ids))
theorem kIntsResultS_sh {w : World} {cs : List Value} {x : IntsResult} {o s : List Nat} (h : kIntsResultS.Rel w cs x o s) : ∃ (A1 : Option Addr) (c1 : Nat), cs = [.int .i64 x.code, .slice A1 x.ids.length c1] := by
  obtain ⟨c10, c20, o10, o20, s10, s20, rfl, rfl, rfl, h0, k0⟩ := h
  obtain ⟨rfl, -, -⟩ := h0
  obtain ⟨-, A1_, c1_, rfl, -⟩ := k0
  exact ⟨_, _, rfl⟩
theorem kIntsResultS_p1_1 : Kd.Sub kIntsResultS 1 (Kd.sl Kd.i64) (fun x => x.ids) := (Kd.Sub.right (Kd.Sub.rfl.via IntsResult.ids) _)
theorem kIntsResultS_self : Kd.Seals kIntsResultS kIntsResultS := (Kd.Seals.cat (Kd.Seals.via Kd.Seals.i64 _) (Kd.Seals.via Kd.Seals.refl_sl _))
theorem kIntsResultS_pure : Kd.Pure kIntsResultS := (Kd.Pure.cat (Kd.Pure.via Kd.Pure.i64 _) (Kd.Pure.via (Kd.Pure.sl _) _))
def kIntsResultO : Kd IntsResult := ((Kd.i64.via IntsResult.code).cat ((Kd.row 2 Kd.i64).via IntsResult.ids))
theorem kIntsResultO_sh {w : World} {cs : List Value} {x : IntsResult} {o s : List Nat} (h : kIntsResultO.Rel w cs x o s) : ∃ (A1 : Option Addr) (c1 : Nat), cs = [.int .i64 x.code, .slice A1 x.ids.length c1] := by
  obtain ⟨c10, c20, o10, o20, s10, s20, rfl, rfl, rfl, h0, k0⟩ := h
  obtain ⟨rfl, -, -⟩ := h0
  obtain ⟨A1_, c1_, rfl⟩ := Kd.row_sh k0
  exact ⟨_, _, rfl⟩
theorem kIntsResultO_seal : Kd.Seals kIntsResultO kIntsResultS := (Kd.Seals.cat (Kd.Seals.via Kd.Seals.i64 _) (Kd.Seals.via (Kd.Seals.row Kd.Seals.i64 _) _))
theorem IntsResult_eq (a b : IntsResult) : decide (a = b) = (decide (a.code = b.code) && decide (a.ids = b.ids)) := by
  cases a; cases b; rw [Bool.eq_iff_iff]; simp
def reachOf (t : Tree) : IntsResult := if treeFault t = 0 then ⟨0, wk t⟩ else ⟨treeFault t, []⟩
theorem shape_wk {t : Tree} (h : treeRight t = true) : shapeOf t = wk t := by unfold shapeOf; rw [if_pos h]
theorem vi {k : IntKind} {a b : Int} (h : a = b) : Value.int k a = Value.int k b := by rw [h]
def mkV_IntsResult (k : Int) (a : IntsResult) : IntsResult := ⟨a.code, mkL mI cI (k) a.ids⟩
def cntV_IntsResult (a : IntsResult) : Int := 0 + (a.ids.length : Int)
theorem cntV_IntsResult_nn (a : IntsResult) : 0 ≤ cntV_IntsResult a := by
  unfold cntV_IntsResult; omega
/-! laws.markInt64S -/
set_option maxRecDepth 20000 in
set_option maxHeartbeats 2000000 in
theorem laws_markInt64S (w : World) (k : Int) {Aa : Option Addr} {ca : Nat} {a : List Int} {oa_ sa_ : List Nat} (hst : St (nul w) w [dat (Kd.row 2 Kd.i64) [.slice Aa a.length ca] a oa_ sa_]) (hk0 : 0 ≤ k) (hk1 : k + ((a.length : Nat) : Int) ≤ 1152921504606846976) : Calls Tryz.prog 37 #[.slice Aa a.length ca, .int .i64 k] w (TurnO (Kd.row 2 Kd.i64) [.slice Aa a.length ca] (.int .i64 (k + ((a.length : Nat) : Int))) w oa_ (mkL mI cI k a) (sa_)) := by
  have La := Kd.row_len (hst.at 0 rfl); have Ca := Kd.row_cap (hst.at 0 rfl)
  refine fnc (X := X11 19 (nul w)) (args := [.slice Aa a.length ca, .int .i64 k]) (l := [(0, .slice Aa a.length ca), (1, .int .i64 k)]) (G := [frm w oa_, dat (Kd.row 2 Kd.i64) [.slice Aa a.length ca] a oa_ sa_]) Tryz.func37 rfl rfl rfl ⟨rfl, rfl, trivial⟩ (⟨hst.fr oa_ (by simp [owns, dat, ptr]), trivial⟩ : _ ∧ True).1 ?_
  refine sq (rg (a_ rfl rfl (en (nx (sq (sq (rg (a_ rfl rfl (en (nx (bk ?_)))))))))))
  refine lp (σ := Nat × Int × List Nat × List Nat) (fun z_ : Nat × Int × List Nat × List Nat => match z_ with | (i, v, o_, s_) => [(0, .slice Aa a.length ca), (1, .int .i64 v), (5, .int .i64 ((i : Nat) : Int))])
      (fun z_ : Nat × Int × List Nat × List Nat => match z_ with | (i, v, o_, s_) => [dat (Kd.row 2 Kd.i64) [.slice Aa a.length ca] (mkL mI cI k (a.take i) ++ a.drop i) o_ s_, frm w oa_])
      (fun z_ : Nat × Int × List Nat × List Nat => match z_ with | (i, v, o_, s_) => i ≤ a.length ∧ v = k + sumTo cI a i ∧ ∀ q ∈ s_, q ∈ sa_ ∨ w.heap.size ≤ q) (fun z_ : Nat × Int × List Nat × List Nat => match z_ with | (i, v, o_, s_) => a.length - i) (0, k, oa_, sa_) [1, 0] ⟨Nat.zero_le _, by simp [sumTo], fun q h => .inl h⟩ ⟨rfl, rfl, rfl, trivial⟩ rfl ?_
  rintro ⟨i, v, o_, s_⟩ hp_
  obtain ⟨hi, hv, hsee⟩ := hp_; have z0 := sumTo_nn cI_nn a i; have zt := sumTo_le cI_nn a i; have ze := cI_sum a; have zj := cI_to hi
  refine sq (sq (rg (m_ rfl rfl (m_ rfl rfl (vl (ln rfl rfl rfl) rfl (vl (cm rfl rfl rfl rfl) rfl (en (nx ?_))))))))
  by_cases h1 : ((i : Nat) : Int) < ((a.length : Nat) : Int)
  · obtain ⟨ba, rfl⟩ := Kd.row_pos (hst.at 0 rfl) (by omega)
    refine ct rfl (decide_eq_true h1) (sk (nx (sq (bk (sq (rg (m_ rfl rfl (m_ rfl rfl (m_ rfl rfl (vl (ix i rfl rfl rfl rfl rfl rfl (by omega)) rfl (gs Kd.i64 [.int .i64 v] v (fun _ => ⟨rfl, rfl, rfl⟩) (f1 (ste i rfl rfl rfl rfl rfl (by rw [List.length_append, mkL_len, List.length_take, List.length_drop]; omega) (fun o2 s3 t4 => ?_))))))))))))))
    exact gr (mkL mI cI k (a.take (i + 1)) ++ a.drop (i + 1)) (mk_step (List.getElem?_eq_getElem (by omega)) (by simp only [mI]; exact hv)) (en (nx (rg (m_ rfl rfl (vl (ra (c := v + 1) rfl rfl rfl rfl (by omega) (by omega)) rfl (a_ rfl rfl (en (xn (nx (rg (m_ rfl rfl (vl (ra (c := ((i + 1 : Nat) : Int)) rfl rfl rfl (by omega) (by omega) (by omega)) rfl (a_ rfl rfl (en (lpe (s := (i, v, o_, s_)) (i + 1, v + 1, o2, s3) [0, 0] ⟨by omega, by have zs := sumTo_step (f := cI) (List.getElem?_eq_getElem (show i < a.length by omega)); simp only [cI] at zs; omega, by grind⟩ (by show a.length - (i + 1) < a.length - i; omega) ⟨rfl, rfl, rfl, trivial⟩ rfl)))))))))))))))
  · exact cf rfl (decide_eq_false h1) (xt (xq (xq (xb (nx (sq (rg (m_ rfl rfl (a_ rfl rfl (en (nx (rt (gr (mkL mI cI k a) (mk_end (by omega)) (ret1 rfl rfl (fun w_ hs_ => turno hs_ 0 rfl (by exact vi (by have z := sumTo_end (f := cI) (l := a) (k := i) (by omega); omega)) (by grind))))))))))))))))
/-! laws.heldInt64S -/
set_option maxRecDepth 20000 in
set_option maxHeartbeats 2000000 in
theorem laws_heldInt64S (w : World) (k : Int) {Aa0 : Option Addr} {na0 ca0 : Nat} {a : List Int} {sa_ : List Nat} (ha : (Kd.sl Kd.i64).Rel w [.slice Aa0 na0 ca0] (mkL mI cI k a) [] sa_) (hk0 : 0 ≤ k) (hk1 : k + ((a.length : Nat) : Int) ≤ 1152921504606846976) : Calls Tryz.prog 72 #[.slice Aa0 na0 ca0, .int .i64 k] w (fun e_ w2_ => e_ = .returned (.int .i64 (k + ((a.length : Nat) : Int))) ∧ Below w.heap.size w w2_) := by
  have La := Kd.sl_len ha; have Ea := Kd.sl_n ha; rw [mkL_len] at La Ea
  refine fnc (X := X11 21 w) (args := [.slice Aa0 na0 ca0, .int .i64 k]) (l := [(0, .slice Aa0 na0 ca0), (1, .int .i64 k)]) (G := [dat (Kd.sl Kd.i64) [.slice Aa0 na0 ca0] (mkL mI cI k a) ([]) sa_]) Tryz.func72 rfl rfl rfl ⟨rfl, rfl, trivial⟩ (s0d ha (s0n w)).1 ?_
  refine sq (rg (a_ rfl rfl (en (nx (sq (sq (rg (a_ rfl rfl (en (nx (bk ?_)))))))))))
  refine lp (σ := Nat × Int) (fun z_ : Nat × Int => match z_ with | (i, v) => [(0, .slice Aa0 na0 ca0), (1, .int .i64 v), (5, .int .i64 ((i : Nat) : Int))])
      (fun z_ : Nat × Int => match z_ with | (i, v) => [dat (Kd.sl Kd.i64) [.slice Aa0 na0 ca0] (mkL mI cI k a) ([]) sa_])
      (fun z_ : Nat × Int => match z_ with | (i, v) => i ≤ a.length ∧ v = k + sumTo cI a i) (fun z_ : Nat × Int => match z_ with | (i, v) => a.length - i) (0, k) [0] ⟨Nat.zero_le _, by simp [sumTo]⟩ ⟨rfl, rfl, rfl, trivial⟩ rfl ?_
  rintro ⟨i, v⟩ hp_
  obtain ⟨hi, hv⟩ := hp_; have z0 := sumTo_nn cI_nn a i; have zt := sumTo_le cI_nn a i; have ze := cI_sum a; have zj := cI_to hi
  refine sq (sq (rg (m_ rfl rfl (m_ rfl rfl (vl (ln rfl rfl rfl) rfl (vl (cm rfl rfl rfl rfl) rfl (en (nx ?_))))))))
  by_cases h1 : ((i : Nat) : Int) < ((na0 : Nat) : Int)
  · refine ct rfl (decide_eq_true h1) (sk (nx (sq (bk (sq (sq (rg (m_ rfl rfl (m_ rfl rfl ?_)))))))))
    refine gx 0 i rfl (by first | omega | (rw [mkL_len]; omega)) fun y7 p2 cs_ s3 w6 m8 e4 r5 us3 => ?_
    obtain ⟨rfl, -, -⟩ := r5
    obtain ⟨y9, hy9⟩ := mkL_some m8
    have zy9 := mkL_at' m8 hy9 hv
    have zs := sumTo_step (f := cI) hy9; have zl := sumTo_le cI_nn a (i + 1); have z0 := sumTo_nn cI_nn a i; have ze := cI_sum a; have zc : cI y9 = 1 := rfl
    refine vl (ix i e4 rfl rfl rfl rfl rfl (by first | omega | (rw [mkL_len]; omega))) rfl (vl (ldq (u := .int .i64 y7) 0 rfl rfl rfl rfl rfl rfl rfl) rfl (m_ rfl rfl (vl (cm rfl rfl rfl rfl) rfl (en (nx ?_)))))
    by_cases h10 : y7 = v
    · exact cf rfl (bne_eq_false_iff_eq.2 h10) (sk (nx (rg (m_ rfl rfl (vl (ra (c := v + 1) rfl rfl rfl rfl (by omega) (by omega)) rfl (a_ rfl rfl (en (xn (nx (rg (m_ rfl rfl (vl (ra (c := ((i + 1 : Nat) : Int)) rfl rfl rfl (by omega) (by omega) (by omega)) rfl (a_ rfl rfl (en (lpe (s := (i, v)) (i + 1, v + 1) [1] ⟨by omega, by omega⟩ (by show a.length - (i + 1) < a.length - i; omega) ⟨rfl, rfl, rfl, trivial⟩ rfl)))))))))))))))
    · exact absurd zy9 h10
  · refine cf rfl (decide_eq_false h1) (xt (xq (xq (xb (nx (sq (rg (m_ rfl rfl (a_ rfl rfl (en (nx (rt (ret1 rfl rfl (fun w_ hs_ => ⟨?_, hs_.below⟩))))))))))))))
    exact ri (by have z := sumTo_end (f := cI) (l := a) (k := i) (by omega); omega)
def mkE_Entry (k : Int) (a : Entry) : Entry := ⟨⟨mkL mI cI (k) a.rect.low, mkL mI cI (k + (a.rect.low.length : Int)) a.rect.high⟩, k + (a.rect.low.length : Int) + (a.rect.high.length : Int), k + (a.rect.low.length : Int) + (a.rect.high.length : Int) + 1⟩
def cntE_Entry (a : Entry) : Int := 0 + (a.rect.low.length : Int) + (a.rect.high.length : Int) + 1 + 1
theorem cntE_Entry_nn (a : Entry) : 0 ≤ cntE_Entry a := by
  unfold cntE_Entry; omega
def mkE_Node (k : Int) (a : Node) : Node := ⟨k, k + 1, k + 1 + 1, mkL mkE_Entry cntE_Entry (k + 1 + 1 + 1) a.entries⟩
def cntE_Node (a : Node) : Int := 0 + 1 + 1 + 1 + (a.entries.map cntE_Entry).sum
theorem cntE_Node_nn (a : Node) : 0 ≤ cntE_Node a := by
  have := sum_nn cntE_Entry_nn a.entries
  unfold cntE_Node; omega
def mkE_Retired (k : Int) (a : Retired) : Retired := ⟨k, mkL mI cI (k + 1) a.watch⟩
def cntE_Retired (a : Retired) : Int := 0 + 1 + (a.watch.length : Int)
theorem cntE_Retired_nn (a : Retired) : 0 ≤ cntE_Retired a := by
  unfold cntE_Retired; omega
def mkV_Arena (k : Int) (a : Arena) : Arena := ⟨a.dims, mkL mkE_Node cntE_Node (k) a.nodes, mkL mI cI (k + (a.nodes.map cntE_Node).sum) a.free, mkL mkE_Retired cntE_Retired (k + (a.nodes.map cntE_Node).sum + (a.free.length : Int)) a.retired⟩
def cntV_Arena (a : Arena) : Int := 0 + (a.nodes.map cntE_Node).sum + (a.free.length : Int) + (a.retired.map cntE_Retired).sum
theorem cntV_Arena_nn (a : Arena) : 0 ≤ cntV_Arena a := by
  have := sum_nn cntE_Node_nn a.nodes
  have := sum_nn cntE_Retired_nn a.retired
  unfold cntV_Arena; omega
def mkV_Tree (k : Int) (a : Tree) : Tree := ⟨a.style, ⟨a.arena.dims, mkL mkE_Node cntE_Node (k) a.arena.nodes, mkL mI cI (k + (a.arena.nodes.map cntE_Node).sum) a.arena.free, mkL mkE_Retired cntE_Retired (k + (a.arena.nodes.map cntE_Node).sum + (a.arena.free.length : Int)) a.arena.retired⟩, a.root, a.rootNsn, a.counter⟩
def cntV_Tree (a : Tree) : Int := 0 + (a.arena.nodes.map cntE_Node).sum + (a.arena.free.length : Int) + (a.arena.retired.map cntE_Retired).sum
theorem cntV_Tree_nn (a : Tree) : 0 ≤ cntV_Tree a := by
  have := sum_nn cntE_Node_nn a.arena.nodes
  have := sum_nn cntE_Retired_nn a.arena.retired
  unfold cntV_Tree; omega
/-! laws.markEntryS -/
set_option maxRecDepth 20000 in
set_option maxHeartbeats 2000000 in
theorem laws_markEntryS (w : World) (k : Int) {Aa : Option Addr} {ca : Nat} {a : List Entry} {oa_ sa_ : List Nat} (hst : St (nul w) w [dat (Kd.row 140 kEntryO) [.slice Aa a.length ca] a oa_ sa_]) (hk0 : 0 ≤ k) (hk1 : k + (a.map cntE_Entry).sum ≤ 1152921504606846976) : Calls Tryz.prog 116 #[.slice Aa a.length ca, .int .i64 k] w (TurnO (Kd.row 140 kEntryO) [.slice Aa a.length ca] (.int .i64 (k + (a.map cntE_Entry).sum)) w oa_ (mkL mkE_Entry cntE_Entry k a) (sa_)) := by
  have La := Kd.row_len (hst.at 0 rfl); have Ca := Kd.row_cap (hst.at 0 rfl)
  refine fnc (X := X11 43 (nul w)) (args := [.slice Aa a.length ca, .int .i64 k]) (l := [(0, .slice Aa a.length ca), (1, .int .i64 k)]) (G := [frm w oa_, dat (Kd.row 140 kEntryO) [.slice Aa a.length ca] a oa_ sa_]) Tryz.func116 rfl rfl rfl ⟨rfl, rfl, trivial⟩ (⟨hst.fr oa_ (by simp [owns, dat, ptr]), trivial⟩ : _ ∧ True).1 ?_
  refine sq (rg (a_ rfl rfl (en (nx (sq (sq (rg (a_ rfl rfl (en (nx (bk ?_)))))))))))
  refine lp (σ := Nat × Int × List Nat × List Nat) (fun z_ : Nat × Int × List Nat × List Nat => match z_ with | (i, v, o_, s_) => [(0, .slice Aa a.length ca), (1, .int .i64 v), (5, .int .i64 ((i : Nat) : Int))])
      (fun z_ : Nat × Int × List Nat × List Nat => match z_ with | (i, v, o_, s_) => [dat (Kd.row 140 kEntryO) [.slice Aa a.length ca] (mkL mkE_Entry cntE_Entry k (a.take i) ++ a.drop i) o_ s_, frm w oa_])
      (fun z_ : Nat × Int × List Nat × List Nat => match z_ with | (i, v, o_, s_) => i ≤ a.length ∧ v = k + sumTo cntE_Entry a i ∧ ∀ q ∈ s_, q ∈ sa_ ∨ w.heap.size ≤ q) (fun z_ : Nat × Int × List Nat × List Nat => match z_ with | (i, v, o_, s_) => a.length - i) (0, k, oa_, sa_) [1, 0] ⟨Nat.zero_le _, by simp [sumTo], fun q h => .inl h⟩ ⟨rfl, rfl, rfl, trivial⟩ rfl ?_
  rintro ⟨i, v, o_, s_⟩ hp_
  obtain ⟨hi, hv, hsee⟩ := hp_; have z0 := sumTo_nn cntE_Entry_nn a i; have zt := sumTo_le cntE_Entry_nn a i
  refine sq (sq (rg (m_ rfl rfl (m_ rfl rfl (vl (ln rfl rfl rfl) rfl (vl (cm rfl rfl rfl rfl) rfl (en (nx ?_))))))))
  by_cases h1 : ((i : Nat) : Int) < ((a.length : Nat) : Int)
  · obtain ⟨ba, rfl⟩ := Kd.row_pos (hst.at 0 rfl) (by omega)
    refine ct rfl (decide_eq_true h1) (sk (nx (sq (bk (sq (rg (m_ rfl rfl (m_ rfl rfl (vl (ix i rfl rfl rfl rfl rfl rfl (by omega)) rfl ?_)))))))))
    refine foc i (by rw [List.length_append, mkL_len, List.length_take, List.length_drop]; omega) fun y2 ci_ o3 s4 o5 s6 w_ m7 r8 us4 us6 => ?_
    obtain ⟨A9, c10, A11, c12, rfl⟩ := kEntryO_sh r8
    refine f1 (gsp (da := (Kd.via kRectO Entry.rect)) rfl rfl (fun o13 o14 s15 s16 us15 us16 => ?_))
    refine gv (f1 (gsp (da := (Kd.via Kd.i64 Entry.ref)) rfl rfl (fun o17 o18 s19 s20 us19 us20 => ?_)))
    refine gv (f1 (gv (f2 (gsp (da := (Kd.via (Kd.row 2 Kd.i64) Rect.low)) rfl rfl (fun o21 o22 s23 s24 us23 us24 => ?_)))))
    refine gv (f1 (gv ?_))
    have zs := sumTo_step (f := cntE_Entry) (mk_raw m7); have zl := sumTo_le cntE_Entry_nn a (i + 1); have z0 := sumTo_nn cntE_Entry_nn a i; have zc : cntE_Entry y2 = 0 + (y2.rect.low.length : Int) + (y2.rect.high.length : Int) + 1 + 1 := rfl
    refine vl (fa rfl rfl rfl) rfl (vl (fb rfl rfl rfl) rfl (vl (ldh (u := .slice A9 y2.rect.low.length c10) 4 (off := 0) rfl rfl rfl rfl pa1 rfl rfl rfl) rfl (m_ rfl rfl (f1 (cto (dk := (Kd.row 2 Kd.i64)) (cs := [.slice A9 y2.rect.low.length c10]) (x := (mkL mI cI v y2.rect.low)) (v := .int .i64 (v + ((y2.rect.low.length : Nat) : Int))) (S := (s23)) (by kernel_rfl) rfl rfl rfl (snt 0 rfl) w.heap.size (fun w_ hs_ => (hs_.mod 5 rfl).size) (fun w_ hs_ => laws_markInt64S w_ _ ((hs_.pk [0] rfl).nl) (by omega) (by omega)) (fun o25 s26 t27 => ?_))))))
    refine a_ rfl rfl (en (nx (sq (rg (m_ rfl rfl (m_ rfl rfl (vl (ix i rfl rfl rfl rfl rfl rfl (by omega)) rfl (vl (fa rfl rfl rfl) rfl (vl (fb rfl rfl rfl) rfl (vl (ldh (u := .slice A11 y2.rect.high.length c12) 4 (off := 1) rfl rfl rfl rfl pa1 rfl rfl rfl) rfl (m_ rfl rfl (f1 (cto (dk := (Kd.row 2 Kd.i64)) (cs := [.slice A11 y2.rect.high.length c12]) (x := (mkL mI cI (v + ((y2.rect.low.length : Nat) : Int)) y2.rect.high)) (v := .int .i64 ((v + ((y2.rect.low.length : Nat) : Int)) + ((y2.rect.high.length : Nat) : Int))) (S := (s24)) (by kernel_rfl) rfl rfl rfl (snt 0 rfl) w.heap.size (fun w_ hs_ => (hs_.mod 5 rfl).size) (fun w_ hs_ => laws_markInt64S w_ _ ((hs_.pk [0] rfl).nl) (by omega) (by omega)) (fun o28 s29 t30 => ?_))))))))))))))
    refine a_ rfl rfl (en (nx (sq (rg (m_ rfl rfl (m_ rfl rfl (m_ rfl rfl (vl (ix i rfl rfl rfl rfl rfl rfl (by omega)) rfl (vl (fa rfl rfl rfl) rfl (f4 (sth (off := 2) rfl rfl pa1 rfl rfl rfl rfl rfl (ci' := [.slice A9 y2.rect.low.length c10, .slice A11 y2.rect.high.length c12, .int .i64 ((v + ((y2.rect.low.length : Nat) : Int)) + ((y2.rect.high.length : Nat) : Int)), .int .i64 y2.nsn]) rfl (en (nx (sq (rg (m_ rfl rfl (vl (ra (c := ((v + ((y2.rect.low.length : Nat) : Int)) + ((y2.rect.high.length : Nat) : Int)) + 1) rfl rfl rfl rfl (by omega) (by omega)) rfl (a_ rfl rfl (en (nx (sq (rg (m_ rfl rfl (m_ rfl rfl (m_ rfl rfl (vl (ix i rfl rfl rfl rfl rfl rfl (by omega)) rfl (vl (fa rfl rfl rfl) rfl (sth (off := 3) rfl rfl pa1 rfl rfl rfl rfl rfl (ci' := [.slice A9 y2.rect.low.length c10, .slice A11 y2.rect.high.length c12, .int .i64 ((v + ((y2.rect.low.length : Nat) : Int)) + ((y2.rect.high.length : Nat) : Int)), .int .i64 (((v + ((y2.rect.low.length : Nat) : Int)) + ((y2.rect.high.length : Nat) : Int)) + 1)]) rfl (en (nx (rg (m_ rfl rfl (vl (ra (c := ((v + ((y2.rect.low.length : Nat) : Int)) + ((y2.rect.high.length : Nat) : Int)) + 1 + 1) rfl rfl rfl rfl (by omega) (by omega)) rfl (a_ rfl rfl (en (xn (nx (rg (m_ rfl rfl (vl (ra (c := ((i + 1 : Nat) : Int)) rfl rfl rfl (by omega) (by omega) (by omega)) rfl (a_ rfl rfl (en (gs Kd.i64 [.int .i64 (((v + ((y2.rect.low.length : Nat) : Int)) + ((y2.rect.high.length : Nat) : Int)) + 1)] ((mkE_Entry v y2).nsn) (fun _ => ⟨rfl, rfl, rfl⟩) (gs Kd.i64 [.int .i64 ((v + ((y2.rect.low.length : Nat) : Int)) + ((y2.rect.high.length : Nat) : Int))] ((mkE_Entry v y2).ref) (fun _ => ⟨rfl, rfl, rfl⟩) (gj (da := (Kd.via Kd.i64 Entry.ref)) (db := (Kd.via Kd.i64 Entry.nsn)) (x := (mkE_Entry v y2)) (cs := [.int .i64 ((v + ((y2.rect.low.length : Nat) : Int)) + ((y2.rect.high.length : Nat) : Int)), .int .i64 (((v + ((y2.rect.low.length : Nat) : Int)) + ((y2.rect.high.length : Nat) : Int)) + 1)]) rfl (f2 (f3 (gj (da := (Kd.via (Kd.row 2 Kd.i64) Rect.low)) (db := (Kd.via (Kd.row 2 Kd.i64) Rect.high)) (x := ((mkE_Entry v y2).rect)) (cs := [.slice A9 y2.rect.low.length c10, .slice A11 y2.rect.high.length c12]) rfl (gj (da := (Kd.via kRectO Entry.rect)) (db := ((Kd.via Kd.i64 Entry.ref).cat (Kd.via Kd.i64 Entry.nsn))) (x := (mkE_Entry v y2)) (cs := [.slice A9 y2.rect.low.length c10, .slice A11 y2.rect.high.length c12, .int .i64 ((v + ((y2.rect.low.length : Nat) : Int)) + ((y2.rect.high.length : Nat) : Int)), .int .i64 (((v + ((y2.rect.low.length : Nat) : Int)) + ((y2.rect.high.length : Nat) : Int)) + 1)]) rfl (f1 (unf (fun o31 s32 t33 => ?_))))))))))))))))))))))))))))))))))))))))))))))))))))
    refine gr (mkL mkE_Entry cntE_Entry k (a.take (i + 1)) ++ a.drop (i + 1)) (mk_step (mk_raw m7) (by rw [← hv])) ?_
    exact lpe (s := (i, v, o_, s_)) (i + 1, ((v + ((y2.rect.low.length : Nat) : Int)) + ((y2.rect.high.length : Nat) : Int)) + 1 + 1, o31, s32) [0, 2] ⟨by omega, by omega, by grind⟩ (by show a.length - (i + 1) < a.length - i; omega) ⟨rfl, rfl, rfl, trivial⟩ rfl
  · exact cf rfl (decide_eq_false h1) (xt (xq (xq (xb (nx (sq (rg (m_ rfl rfl (a_ rfl rfl (en (nx (rt (gr (mkL mkE_Entry cntE_Entry k a) (mk_end (by omega)) (ret1 rfl rfl (fun w_ hs_ => turno hs_ 0 rfl (by exact vi (by have z := sumTo_end (f := cntE_Entry) (l := a) (k := i) (by omega); omega)) (by grind))))))))))))))))
/-! laws.markNodeS -/
set_option maxRecDepth 20000 in
set_option maxHeartbeats 2000000 in
theorem laws_markNodeS (w : World) (k : Int) {Aa : Option Addr} {ca : Nat} {a : List Node} {oa_ sa_ : List Nat} (hst : St (nul w) w [dat (Kd.row 116 kNodeO) [.slice Aa a.length ca] a oa_ sa_]) (hk0 : 0 ≤ k) (hk1 : k + (a.map cntE_Node).sum ≤ 1152921504606846976) : Calls Tryz.prog 70 #[.slice Aa a.length ca, .int .i64 k] w (TurnO (Kd.row 116 kNodeO) [.slice Aa a.length ca] (.int .i64 (k + (a.map cntE_Node).sum)) w oa_ (mkL mkE_Node cntE_Node k a) (sa_)) := by
  have La := Kd.row_len (hst.at 0 rfl); have Ca := Kd.row_cap (hst.at 0 rfl)
  refine fnc (X := X11 41 (nul w)) (args := [.slice Aa a.length ca, .int .i64 k]) (l := [(0, .slice Aa a.length ca), (1, .int .i64 k)]) (G := [frm w oa_, dat (Kd.row 116 kNodeO) [.slice Aa a.length ca] a oa_ sa_]) Tryz.func70 rfl rfl rfl ⟨rfl, rfl, trivial⟩ (⟨hst.fr oa_ (by simp [owns, dat, ptr]), trivial⟩ : _ ∧ True).1 ?_
  refine sq (rg (a_ rfl rfl (en (nx (sq (sq (rg (a_ rfl rfl (en (nx (bk ?_)))))))))))
  refine lp (σ := Nat × Int × List Nat × List Nat) (fun z_ : Nat × Int × List Nat × List Nat => match z_ with | (i, v, o_, s_) => [(0, .slice Aa a.length ca), (1, .int .i64 v), (5, .int .i64 ((i : Nat) : Int))])
      (fun z_ : Nat × Int × List Nat × List Nat => match z_ with | (i, v, o_, s_) => [dat (Kd.row 116 kNodeO) [.slice Aa a.length ca] (mkL mkE_Node cntE_Node k (a.take i) ++ a.drop i) o_ s_, frm w oa_])
      (fun z_ : Nat × Int × List Nat × List Nat => match z_ with | (i, v, o_, s_) => i ≤ a.length ∧ v = k + sumTo cntE_Node a i ∧ ∀ q ∈ s_, q ∈ sa_ ∨ w.heap.size ≤ q) (fun z_ : Nat × Int × List Nat × List Nat => match z_ with | (i, v, o_, s_) => a.length - i) (0, k, oa_, sa_) [1, 0] ⟨Nat.zero_le _, by simp [sumTo], fun q h => .inl h⟩ ⟨rfl, rfl, rfl, trivial⟩ rfl ?_
  rintro ⟨i, v, o_, s_⟩ hp_
  obtain ⟨hi, hv, hsee⟩ := hp_; have z0 := sumTo_nn cntE_Node_nn a i; have zt := sumTo_le cntE_Node_nn a i
  refine sq (sq (rg (m_ rfl rfl (m_ rfl rfl (vl (ln rfl rfl rfl) rfl (vl (cm rfl rfl rfl rfl) rfl (en (nx ?_))))))))
  by_cases h1 : ((i : Nat) : Int) < ((a.length : Nat) : Int)
  · obtain ⟨ba, rfl⟩ := Kd.row_pos (hst.at 0 rfl) (by omega)
    refine ct rfl (decide_eq_true h1) (sk (nx (sq (bk (sq (rg (m_ rfl rfl (m_ rfl rfl (m_ rfl rfl (vl (ix i rfl rfl rfl rfl rfl rfl (by omega)) rfl ?_))))))))))
    refine foc i (by rw [List.length_append, mkL_len, List.length_take, List.length_drop]; omega) fun y2 ci_ o3 s4 o5 s6 w_ m7 r8 us4 us6 => ?_
    obtain ⟨A9, c10, rfl⟩ := kNodeO_sh r8
    refine f1 (gsp (da := (Kd.via Kd.i64 Node.level)) rfl rfl (fun o11 o12 s13 s14 us13 us14 => ?_))
    refine gv (f1 (gsp (da := (Kd.via Kd.i64 Node.nsn)) rfl rfl (fun o15 o16 s17 s18 us17 us18 => ?_)))
    refine gv (f1 (gsp (da := (Kd.via Kd.i64 Node.right)) rfl rfl (fun o19 o20 s21 s22 us21 us22 => ?_)))
    refine gv (f1 (gv ?_))
    have zs := sumTo_step (f := cntE_Node) (mk_raw m7); have zl := sumTo_le cntE_Node_nn a (i + 1); have z0 := sumTo_nn cntE_Node_nn a i; have zc : cntE_Node y2 = 0 + 1 + 1 + 1 + (y2.entries.map cntE_Entry).sum := rfl; have zn0 := sum_nn cntE_Entry_nn y2.entries
    refine vl (fa rfl rfl rfl) rfl (f4 (sth (off := 0) rfl rfl pa1 rfl rfl rfl rfl rfl (ci' := [.int .i64 v, .int .i64 y2.nsn, .int .i64 y2.right, .slice A9 y2.entries.length c10]) rfl (en (nx (sq (rg (m_ rfl rfl (vl (ra (c := v + 1) rfl rfl rfl rfl (by omega) (by omega)) rfl (a_ rfl rfl (en (nx (sq (rg (m_ rfl rfl (m_ rfl rfl (m_ rfl rfl (vl (ix i rfl rfl rfl rfl rfl rfl (by omega)) rfl (vl (fa rfl rfl rfl) rfl (sth (off := 1) rfl rfl pa1 rfl rfl rfl rfl rfl (ci' := [.int .i64 v, .int .i64 (v + 1), .int .i64 y2.right, .slice A9 y2.entries.length c10]) rfl (en (nx (sq (rg (m_ rfl rfl (vl (ra (c := v + 1 + 1) rfl rfl rfl rfl (by omega) (by omega)) rfl (a_ rfl rfl (en (nx (sq (rg (m_ rfl rfl (m_ rfl rfl (m_ rfl rfl (vl (ix i rfl rfl rfl rfl rfl rfl (by omega)) rfl (vl (fa rfl rfl rfl) rfl (sth (off := 2) rfl rfl pa1 rfl rfl rfl rfl rfl (ci' := [.int .i64 v, .int .i64 (v + 1), .int .i64 (v + 1 + 1), .slice A9 y2.entries.length c10]) rfl (en (nx (sq (rg (m_ rfl rfl (vl (ra (c := v + 1 + 1 + 1) rfl rfl rfl rfl (by omega) (by omega)) rfl (a_ rfl rfl (en (nx (rg (m_ rfl rfl (m_ rfl rfl (vl (ix i rfl rfl rfl rfl rfl rfl (by omega)) rfl (vl (fa rfl rfl rfl) rfl (vl (ldh (u := .slice A9 y2.entries.length c10) 0 (off := 3) rfl rfl rfl rfl pa1 rfl rfl rfl) rfl (m_ rfl rfl (f1 (cto (dk := (Kd.row 140 kEntryO)) (cs := [.slice A9 y2.entries.length c10]) (x := (mkL mkE_Entry cntE_Entry (v + 1 + 1 + 1) y2.entries)) (v := .int .i64 (v + 1 + 1 + 1 + (y2.entries.map cntE_Entry).sum)) (S := (s22)) (by kernel_rfl) rfl rfl rfl (snt 0 rfl) w.heap.size (fun w_ hs_ => (hs_.mod 5 rfl).size) (fun w_ hs_ => laws_markEntryS w_ _ ((hs_.pk [0] rfl).nl) (by omega) (by omega)) (fun o23 s24 t25 => ?_)))))))))))))))))))))))))))))))))))))))))))))))))))))))
    refine a_ rfl rfl (en (xn (nx (rg (m_ rfl rfl (vl (ra (c := ((i + 1 : Nat) : Int)) rfl rfl rfl (by omega) (by omega) (by omega)) rfl (a_ rfl rfl (en (gs Kd.i64 [.int .i64 (v + 1 + 1)] ((mkE_Node v y2).right) (fun _ => ⟨rfl, rfl, rfl⟩) (gj (da := (Kd.via Kd.i64 Node.right)) (db := (Kd.via (Kd.row 140 kEntryO) Node.entries)) (x := (mkE_Node v y2)) (cs := [.int .i64 (v + 1 + 1), .slice A9 y2.entries.length c10]) rfl (gs Kd.i64 [.int .i64 (v + 1)] ((mkE_Node v y2).nsn) (fun _ => ⟨rfl, rfl, rfl⟩) (gj (da := (Kd.via Kd.i64 Node.nsn)) (db := ((Kd.via Kd.i64 Node.right).cat (Kd.via (Kd.row 140 kEntryO) Node.entries))) (x := (mkE_Node v y2)) (cs := [.int .i64 (v + 1), .int .i64 (v + 1 + 1), .slice A9 y2.entries.length c10]) rfl (gs Kd.i64 [.int .i64 v] ((mkE_Node v y2).level) (fun _ => ⟨rfl, rfl, rfl⟩) (gj (da := (Kd.via Kd.i64 Node.level)) (db := ((Kd.via Kd.i64 Node.nsn).cat ((Kd.via Kd.i64 Node.right).cat (Kd.via (Kd.row 140 kEntryO) Node.entries)))) (x := (mkE_Node v y2)) (cs := [.int .i64 v, .int .i64 (v + 1), .int .i64 (v + 1 + 1), .slice A9 y2.entries.length c10]) rfl (f1 (unf (fun o26 s27 t28 => ?_)))))))))))))))))
    refine gr (mkL mkE_Node cntE_Node k (a.take (i + 1)) ++ a.drop (i + 1)) (mk_step (mk_raw m7) (by rw [← hv])) ?_
    exact lpe (s := (i, v, o_, s_)) (i + 1, (v + 1 + 1 + 1 + (y2.entries.map cntE_Entry).sum), o26, s27) [0, 3] ⟨by omega, by omega, by grind⟩ (by show a.length - (i + 1) < a.length - i; omega) ⟨rfl, rfl, rfl, trivial⟩ rfl
  · exact cf rfl (decide_eq_false h1) (xt (xq (xq (xb (nx (sq (rg (m_ rfl rfl (a_ rfl rfl (en (nx (rt (gr (mkL mkE_Node cntE_Node k a) (mk_end (by omega)) (ret1 rfl rfl (fun w_ hs_ => turno hs_ 0 rfl (by exact vi (by have z := sumTo_end (f := cntE_Node) (l := a) (k := i) (by omega); omega)) (by grind))))))))))))))))
/-! laws.markRetiredS -/
set_option maxRecDepth 20000 in
set_option maxHeartbeats 2000000 in
theorem laws_markRetiredS (w : World) (k : Int) {Aa : Option Addr} {ca : Nat} {a : List Retired} {oa_ sa_ : List Nat} (hst : St (nul w) w [dat (Kd.row 118 kRetiredO) [.slice Aa a.length ca] a oa_ sa_]) (hk0 : 0 ≤ k) (hk1 : k + (a.map cntE_Retired).sum ≤ 1152921504606846976) : Calls Tryz.prog 71 #[.slice Aa a.length ca, .int .i64 k] w (TurnO (Kd.row 118 kRetiredO) [.slice Aa a.length ca] (.int .i64 (k + (a.map cntE_Retired).sum)) w oa_ (mkL mkE_Retired cntE_Retired k a) (sa_)) := by
  have La := Kd.row_len (hst.at 0 rfl); have Ca := Kd.row_cap (hst.at 0 rfl)
  refine fnc (X := X11 27 (nul w)) (args := [.slice Aa a.length ca, .int .i64 k]) (l := [(0, .slice Aa a.length ca), (1, .int .i64 k)]) (G := [frm w oa_, dat (Kd.row 118 kRetiredO) [.slice Aa a.length ca] a oa_ sa_]) Tryz.func71 rfl rfl rfl ⟨rfl, rfl, trivial⟩ (⟨hst.fr oa_ (by simp [owns, dat, ptr]), trivial⟩ : _ ∧ True).1 ?_
  refine sq (rg (a_ rfl rfl (en (nx (sq (sq (rg (a_ rfl rfl (en (nx (bk ?_)))))))))))
  refine lp (σ := Nat × Int × List Nat × List Nat) (fun z_ : Nat × Int × List Nat × List Nat => match z_ with | (i, v, o_, s_) => [(0, .slice Aa a.length ca), (1, .int .i64 v), (5, .int .i64 ((i : Nat) : Int))])
      (fun z_ : Nat × Int × List Nat × List Nat => match z_ with | (i, v, o_, s_) => [dat (Kd.row 118 kRetiredO) [.slice Aa a.length ca] (mkL mkE_Retired cntE_Retired k (a.take i) ++ a.drop i) o_ s_, frm w oa_])
      (fun z_ : Nat × Int × List Nat × List Nat => match z_ with | (i, v, o_, s_) => i ≤ a.length ∧ v = k + sumTo cntE_Retired a i ∧ ∀ q ∈ s_, q ∈ sa_ ∨ w.heap.size ≤ q) (fun z_ : Nat × Int × List Nat × List Nat => match z_ with | (i, v, o_, s_) => a.length - i) (0, k, oa_, sa_) [1, 0] ⟨Nat.zero_le _, by simp [sumTo], fun q h => .inl h⟩ ⟨rfl, rfl, rfl, trivial⟩ rfl ?_
  rintro ⟨i, v, o_, s_⟩ hp_
  obtain ⟨hi, hv, hsee⟩ := hp_; have z0 := sumTo_nn cntE_Retired_nn a i; have zt := sumTo_le cntE_Retired_nn a i
  refine sq (sq (rg (m_ rfl rfl (m_ rfl rfl (vl (ln rfl rfl rfl) rfl (vl (cm rfl rfl rfl rfl) rfl (en (nx ?_))))))))
  by_cases h1 : ((i : Nat) : Int) < ((a.length : Nat) : Int)
  · obtain ⟨ba, rfl⟩ := Kd.row_pos (hst.at 0 rfl) (by omega)
    refine ct rfl (decide_eq_true h1) (sk (nx (sq (bk (sq (rg (m_ rfl rfl (m_ rfl rfl (m_ rfl rfl (vl (ix i rfl rfl rfl rfl rfl rfl (by omega)) rfl ?_))))))))))
    refine foc i (by rw [List.length_append, mkL_len, List.length_take, List.length_drop]; omega) fun y2 ci_ o3 s4 o5 s6 w_ m7 r8 us4 us6 => ?_
    obtain ⟨A9, c10, rfl⟩ := kRetiredO_sh r8
    refine f1 (gsp (da := (Kd.via Kd.i64 Retired.id)) rfl rfl (fun o11 o12 s13 s14 us13 us14 => ?_))
    refine gv (f1 (gv ?_))
    have zs := sumTo_step (f := cntE_Retired) (mk_raw m7); have zl := sumTo_le cntE_Retired_nn a (i + 1); have z0 := sumTo_nn cntE_Retired_nn a i; have zc : cntE_Retired y2 = 0 + 1 + (y2.watch.length : Int) := rfl
    refine vl (fa rfl rfl rfl) rfl (f2 (sth (off := 0) rfl rfl pa1 rfl rfl rfl rfl rfl (ci' := [.int .i64 v, .slice A9 y2.watch.length c10]) rfl (en (nx (sq (rg (m_ rfl rfl (vl (ra (c := v + 1) rfl rfl rfl rfl (by omega) (by omega)) rfl (a_ rfl rfl (en (nx (rg (m_ rfl rfl (m_ rfl rfl (vl (ix i rfl rfl rfl rfl rfl rfl (by omega)) rfl (vl (fa rfl rfl rfl) rfl (vl (ldh (u := .slice A9 y2.watch.length c10) 0 (off := 1) rfl rfl rfl rfl pa1 rfl rfl rfl) rfl (m_ rfl rfl (f1 (cto (dk := (Kd.row 2 Kd.i64)) (cs := [.slice A9 y2.watch.length c10]) (x := (mkL mI cI (v + 1) y2.watch)) (v := .int .i64 (v + 1 + ((y2.watch.length : Nat) : Int))) (S := (s14)) (by kernel_rfl) rfl rfl rfl (snt 0 rfl) w.heap.size (fun w_ hs_ => (hs_.mod 3 rfl).size) (fun w_ hs_ => laws_markInt64S w_ _ ((hs_.pk [0] rfl).nl) (by omega) (by omega)) (fun o15 s16 t17 => ?_)))))))))))))))))))))
    refine a_ rfl rfl (en (xn (nx (rg (m_ rfl rfl (vl (ra (c := ((i + 1 : Nat) : Int)) rfl rfl rfl (by omega) (by omega) (by omega)) rfl (a_ rfl rfl (en (gs Kd.i64 [.int .i64 v] ((mkE_Retired v y2).id) (fun _ => ⟨rfl, rfl, rfl⟩) (gj (da := (Kd.via Kd.i64 Retired.id)) (db := (Kd.via (Kd.row 2 Kd.i64) Retired.watch)) (x := (mkE_Retired v y2)) (cs := [.int .i64 v, .slice A9 y2.watch.length c10]) rfl (f1 (unf (fun o18 s19 t20 => ?_)))))))))))))
    refine gr (mkL mkE_Retired cntE_Retired k (a.take (i + 1)) ++ a.drop (i + 1)) (mk_step (mk_raw m7) (by rw [← hv])) ?_
    exact lpe (s := (i, v, o_, s_)) (i + 1, (v + 1 + ((y2.watch.length : Nat) : Int)), o18, s19) [0, 1] ⟨by omega, by omega, by grind⟩ (by show a.length - (i + 1) < a.length - i; omega) ⟨rfl, rfl, rfl, trivial⟩ rfl
  · exact cf rfl (decide_eq_false h1) (xt (xq (xq (xb (nx (sq (rg (m_ rfl rfl (a_ rfl rfl (en (nx (rt (gr (mkL mkE_Retired cntE_Retired k a) (mk_end (by omega)) (ret1 rfl rfl (fun w_ hs_ => turno hs_ 0 rfl (by exact vi (by have z := sumTo_end (f := cntE_Retired) (l := a) (k := i) (by omega); omega)) (by grind))))))))))))))))
/-! laws.markArena -/
set_option maxRecDepth 20000 in
set_option maxHeartbeats 2000000 in
theorem laws_markArena (w : World) (k : Int) {Aa1 : Option Addr} {ca1 : Nat} {Aa2 : Option Addr} {ca2 : Nat} {Aa3 : Option Addr} {ca3 : Nat} {a : Arena} {oa_ sa_ : List Nat} (hst : St (nul w) w [dat kArenaO [.int .i64 a.dims, .slice Aa1 a.nodes.length ca1, .slice Aa2 a.free.length ca2, .slice Aa3 a.retired.length ca3] a oa_ sa_]) (hk0 : 0 ≤ k) (hk1 : k + (0 + (a.nodes.map cntE_Node).sum + (a.free.length : Int) + (a.retired.map cntE_Retired).sum) ≤ 1152921504606846976) : Calls Tryz.prog 35 #[.agg #[.int .i64 a.dims, .slice Aa1 a.nodes.length ca1, .slice Aa2 a.free.length ca2, .slice Aa3 a.retired.length ca3], .int .i64 k] w (TurnO kArenaO [.int .i64 a.dims, .slice Aa1 a.nodes.length ca1, .slice Aa2 a.free.length ca2, .slice Aa3 a.retired.length ca3] (.int .i64 (k + (a.nodes.map cntE_Node).sum + (a.free.length : Int) + (a.retired.map cntE_Retired).sum)) w oa_ (mkV_Arena k a) (sa_)) := by
  have zn0 := sum_nn cntE_Node_nn a.nodes; have zn1 := sum_nn cntE_Retired_nn a.retired
  refine fnc (X := X11 18 (nul w)) (args := [.agg #[.int .i64 a.dims, .slice Aa1 a.nodes.length ca1, .slice Aa2 a.free.length ca2, .slice Aa3 a.retired.length ca3], .int .i64 k]) (l := [(0, .agg #[.int .i64 a.dims, .slice Aa1 a.nodes.length ca1, .slice Aa2 a.free.length ca2, .slice Aa3 a.retired.length ca3]), (1, .int .i64 k)]) (G := [frm w oa_, dat kArenaO [.int .i64 a.dims, .slice Aa1 a.nodes.length ca1, .slice Aa2 a.free.length ca2, .slice Aa3 a.retired.length ca3] a oa_ sa_]) Tryz.func35 rfl rfl rfl ⟨rfl, rfl, trivial⟩ (⟨hst.fr oa_ (by simp [owns, dat, ptr]), trivial⟩ : _ ∧ True).1 ?_
  refine f1 (gsp (da := (Kd.via Kd.i64 Arena.dims)) rfl rfl (fun o1 o2 s3 s4 us3 us4 => ?_))
  refine gv (f1 (gsp (da := (Kd.via (Kd.row 116 kNodeO) Arena.nodes)) rfl rfl (fun o5 o6 s7 s8 us7 us8 => ?_)))
  refine gv (f1 (gsp (da := (Kd.via (Kd.row 2 Kd.i64) Arena.free)) rfl rfl (fun o9 o10 s11 s12 us11 us12 => ?_)))
  refine gv (f1 (gv ?_))
  refine sq (rg (bx rfl rfl rfl rfl ?_))
  intro b13
  refine a_ rfl rfl (en (nx (sq (rg (vl (fa rfl rfl rfl) rfl (vl (ldb (u := .slice Aa1 a.nodes.length ca1) 0 rfl rfl rfl rfl rfl rfl rfl) rfl (m_ rfl rfl (f3 (cto (dk := (Kd.row 116 kNodeO)) (cs := [.slice Aa1 a.nodes.length ca1]) (x := (mkL mkE_Node cntE_Node k a.nodes)) (v := .int .i64 (k + (a.nodes.map cntE_Node).sum)) (S := (s7)) (by kernel_rfl) rfl rfl rfl (snt 0 rfl) w.heap.size (fun w_ hs_ => (hs_.mod 5 rfl).size) (fun w_ hs_ => laws_markNodeS w_ _ ((hs_.pk [0] rfl).nl) (by omega) (by omega)) (fun o14 s15 t16 => ?_))))))))))
  refine a_ rfl rfl (en (nx (sq (rg (vl (fa rfl rfl rfl) rfl (vl (ldb (u := .slice Aa2 a.free.length ca2) 1 rfl rfl rfl rfl rfl rfl rfl) rfl (m_ rfl rfl (f3 (cto (dk := (Kd.row 2 Kd.i64)) (cs := [.slice Aa2 a.free.length ca2]) (x := (mkL mI cI (k + (a.nodes.map cntE_Node).sum) a.free)) (v := .int .i64 ((k + (a.nodes.map cntE_Node).sum) + ((a.free.length : Nat) : Int))) (S := (s11)) (by kernel_rfl) rfl rfl rfl (snt 0 rfl) w.heap.size (fun w_ hs_ => (hs_.mod 5 rfl).size) (fun w_ hs_ => laws_markInt64S w_ _ ((hs_.pk [0] rfl).nl) (by omega) (by omega)) (fun o17 s18 t19 => ?_))))))))))
  refine a_ rfl rfl (en (nx (sq (rg (vl (fa rfl rfl rfl) rfl (vl (ldb (u := .slice Aa3 a.retired.length ca3) 2 rfl rfl rfl rfl rfl rfl rfl) rfl (m_ rfl rfl (f3 (cto (dk := (Kd.row 118 kRetiredO)) (cs := [.slice Aa3 a.retired.length ca3]) (x := (mkL mkE_Retired cntE_Retired ((k + (a.nodes.map cntE_Node).sum) + ((a.free.length : Nat) : Int)) a.retired)) (v := .int .i64 (((k + (a.nodes.map cntE_Node).sum) + ((a.free.length : Nat) : Int)) + (a.retired.map cntE_Retired).sum)) (S := (s12)) (by kernel_rfl) rfl rfl rfl (snt 0 rfl) w.heap.size (fun w_ hs_ => (hs_.mod 5 rfl).size) (fun w_ hs_ => laws_markRetiredS w_ _ ((hs_.pk [0] rfl).nl) (by omega) (by omega)) (fun o20 s21 t22 => ?_))))))))))
  exact a_ rfl rfl (en (nx (sq (rg (m_ rfl rfl (a_ rfl rfl (en (nx (rt (f1 (gj (da := (Kd.via (Kd.row 2 Kd.i64) Arena.free)) (db := (Kd.via (Kd.row 118 kRetiredO) Arena.retired)) (x := (mkV_Arena k a)) (cs := [.slice Aa2 a.free.length ca2, .slice Aa3 a.retired.length ca3]) rfl (f1 (gj (da := (Kd.via (Kd.row 116 kNodeO) Arena.nodes)) (db := ((Kd.via (Kd.row 2 Kd.i64) Arena.free).cat (Kd.via (Kd.row 118 kRetiredO) Arena.retired))) (x := (mkV_Arena k a)) (cs := [.slice Aa1 a.nodes.length ca1, .slice Aa2 a.free.length ca2, .slice Aa3 a.retired.length ca3]) rfl (gs Kd.i64 [.int .i64 a.dims] ((mkV_Arena k a).dims) (fun _ => ⟨rfl, rfl, rfl⟩) (gj (da := (Kd.via Kd.i64 Arena.dims)) (db := ((Kd.via (Kd.row 116 kNodeO) Arena.nodes).cat ((Kd.via (Kd.row 2 Kd.i64) Arena.free).cat (Kd.via (Kd.row 118 kRetiredO) Arena.retired)))) (x := (mkV_Arena k a)) (cs := [.int .i64 a.dims, .slice Aa1 a.nodes.length ca1, .slice Aa2 a.free.length ca2, .slice Aa3 a.retired.length ca3]) rfl (ret1 rfl rfl (fun w_ hs_ => turno hs_ 2 rfl (by exact vi (by omega)) (see_app see_nil (see_app (by grind) (see_app (by grind) (by grind)))))))))))))))))))))
/-! laws.markTree -/
set_option maxRecDepth 20000 in
set_option maxHeartbeats 2000000 in
theorem laws_markTree (w : World) (k : Int) {Aa2 : Option Addr} {ca2 : Nat} {Aa3 : Option Addr} {ca3 : Nat} {Aa4 : Option Addr} {ca4 : Nat} {a : Tree} {oa_ sa_ : List Nat} (hst : St (nul w) w [dat kTreeO [.int .i64 a.style, .int .i64 a.arena.dims, .slice Aa2 a.arena.nodes.length ca2, .slice Aa3 a.arena.free.length ca3, .slice Aa4 a.arena.retired.length ca4, .int .i64 a.root, .int .i64 a.rootNsn, .int .i64 a.counter] a oa_ sa_]) (hk0 : 0 ≤ k) (hk1 : k + (0 + (a.arena.nodes.map cntE_Node).sum + (a.arena.free.length : Int) + (a.arena.retired.map cntE_Retired).sum) ≤ 1152921504606846976) : Calls Tryz.prog 13 #[.agg #[.int .i64 a.style, .int .i64 a.arena.dims, .slice Aa2 a.arena.nodes.length ca2, .slice Aa3 a.arena.free.length ca3, .slice Aa4 a.arena.retired.length ca4, .int .i64 a.root, .int .i64 a.rootNsn, .int .i64 a.counter], .int .i64 k] w (TurnO kTreeO [.int .i64 a.style, .int .i64 a.arena.dims, .slice Aa2 a.arena.nodes.length ca2, .slice Aa3 a.arena.free.length ca3, .slice Aa4 a.arena.retired.length ca4, .int .i64 a.root, .int .i64 a.rootNsn, .int .i64 a.counter] (.int .i64 (k + (a.arena.nodes.map cntE_Node).sum + (a.arena.free.length : Int) + (a.arena.retired.map cntE_Retired).sum)) w oa_ (mkV_Tree k a) (sa_)) := by
  have zn0 := sum_nn cntE_Node_nn a.arena.nodes; have zn1 := sum_nn cntE_Retired_nn a.arena.retired
  refine fnc (X := X11 10 (nul w)) (args := [.agg #[.int .i64 a.style, .int .i64 a.arena.dims, .slice Aa2 a.arena.nodes.length ca2, .slice Aa3 a.arena.free.length ca3, .slice Aa4 a.arena.retired.length ca4, .int .i64 a.root, .int .i64 a.rootNsn, .int .i64 a.counter], .int .i64 k]) (l := [(0, .agg #[.int .i64 a.style, .int .i64 a.arena.dims, .slice Aa2 a.arena.nodes.length ca2, .slice Aa3 a.arena.free.length ca3, .slice Aa4 a.arena.retired.length ca4, .int .i64 a.root, .int .i64 a.rootNsn, .int .i64 a.counter]), (1, .int .i64 k)]) (G := [frm w oa_, dat kTreeO [.int .i64 a.style, .int .i64 a.arena.dims, .slice Aa2 a.arena.nodes.length ca2, .slice Aa3 a.arena.free.length ca3, .slice Aa4 a.arena.retired.length ca4, .int .i64 a.root, .int .i64 a.rootNsn, .int .i64 a.counter] a oa_ sa_]) Tryz.func13 rfl rfl rfl ⟨rfl, rfl, trivial⟩ (⟨hst.fr oa_ (by simp [owns, dat, ptr]), trivial⟩ : _ ∧ True).1 ?_
  refine f1 (gsp (da := (Kd.via Kd.i64 Tree.style)) rfl rfl (fun o1 o2 s3 s4 us3 us4 => ?_))
  refine gv (f1 (gsp (da := (Kd.via kArenaO Tree.arena)) rfl rfl (fun o5 o6 s7 s8 us7 us8 => ?_)))
  refine gv (f1 (gsp (da := (Kd.via Kd.i64 Tree.root)) rfl rfl (fun o9 o10 s11 s12 us11 us12 => ?_)))
  refine gv (f1 (gsp (da := (Kd.via Kd.i64 Tree.rootNsn)) rfl rfl (fun o13 o14 s15 s16 us15 us16 => ?_)))
  refine gv (f1 (gv ?_))
  refine sq (rg (bx rfl rfl rfl rfl ?_))
  intro b17
  refine a_ rfl rfl (en (nx (sq (rg (vl (fa rfl rfl rfl) rfl (vl (ldb 0 rfl rfl rfl rfl rfl rfl rfl) rfl (m_ rfl rfl (f4 (cto (dk := kArenaO) (cs := [.int .i64 a.arena.dims, .slice Aa2 a.arena.nodes.length ca2, .slice Aa3 a.arena.free.length ca3, .slice Aa4 a.arena.retired.length ca4]) (x := (mkV_Arena k a.arena)) (v := .int .i64 (k + (a.arena.nodes.map cntE_Node).sum + (a.arena.free.length : Int) + (a.arena.retired.map cntE_Retired).sum)) (S := (s7)) (by kernel_rfl) rfl rfl rfl (snt 0 rfl) w.heap.size (fun w_ hs_ => (hs_.mod 6 rfl).size) (fun w_ hs_ => laws_markArena w_ _ ((hs_.pk [0] rfl).nl) (by omega) (by omega)) (fun o18 s19 t20 => ?_))))))))))
  exact a_ rfl rfl (en (nx (sq (rg (m_ rfl rfl (a_ rfl rfl (en (nx (rt (gs Kd.i64 [.int .i64 a.counter] ((mkV_Tree k a).counter) (fun _ => ⟨rfl, rfl, rfl⟩) (gs Kd.i64 [.int .i64 a.rootNsn] ((mkV_Tree k a).rootNsn) (fun _ => ⟨rfl, rfl, rfl⟩) (gj (da := (Kd.via Kd.i64 Tree.rootNsn)) (db := (Kd.via Kd.i64 Tree.counter)) (x := (mkV_Tree k a)) (cs := [.int .i64 a.rootNsn, .int .i64 a.counter]) rfl (gs Kd.i64 [.int .i64 a.root] ((mkV_Tree k a).root) (fun _ => ⟨rfl, rfl, rfl⟩) (gj (da := (Kd.via Kd.i64 Tree.root)) (db := ((Kd.via Kd.i64 Tree.rootNsn).cat (Kd.via Kd.i64 Tree.counter))) (x := (mkV_Tree k a)) (cs := [.int .i64 a.root, .int .i64 a.rootNsn, .int .i64 a.counter]) rfl (f1 (gj (da := (Kd.via kArenaO Tree.arena)) (db := ((Kd.via Kd.i64 Tree.root).cat ((Kd.via Kd.i64 Tree.rootNsn).cat (Kd.via Kd.i64 Tree.counter)))) (x := (mkV_Tree k a)) (cs := [.int .i64 a.arena.dims, .slice Aa2 a.arena.nodes.length ca2, .slice Aa3 a.arena.free.length ca3, .slice Aa4 a.arena.retired.length ca4, .int .i64 a.root, .int .i64 a.rootNsn, .int .i64 a.counter]) rfl (gs Kd.i64 [.int .i64 a.style] ((mkV_Tree k a).style) (fun _ => ⟨rfl, rfl, rfl⟩) (gj (da := (Kd.via Kd.i64 Tree.style)) (db := ((Kd.via kArenaO Tree.arena).cat ((Kd.via Kd.i64 Tree.root).cat ((Kd.via Kd.i64 Tree.rootNsn).cat (Kd.via Kd.i64 Tree.counter))))) (x := (mkV_Tree k a)) (cs := [.int .i64 a.style, .int .i64 a.arena.dims, .slice Aa2 a.arena.nodes.length ca2, .slice Aa3 a.arena.free.length ca3, .slice Aa4 a.arena.retired.length ca4, .int .i64 a.root, .int .i64 a.rootNsn, .int .i64 a.counter]) rfl (ret1 rfl rfl (fun w_ hs_ => turno hs_ 5 rfl (by exact vi (by omega)) (see_app see_nil (see_app (by grind) (see_app see_nil (see_app see_nil see_nil))))))))))))))))))))))))
theorem cntE_Entry_sz (e : Entry) : cntE_Entry e ≤ 32 * (1 + szEntry e) := by unfold cntE_Entry szEntry szRect; omega
theorem cntE_Retired_sz (e : Retired) : cntE_Retired e ≤ 32 * (1 + szRetired e) := by unfold cntE_Retired szRetired; omega
theorem cntE_Node_sz (n : Node) : cntE_Node n ≤ 32 * (1 + szNode n) := by
  have h1 := cnt_list cntE_Entry_sz n.entries
  unfold cntE_Node szNode; omega
theorem cntTree_sz (t : Tree) : 0 ≤ (t.arena.nodes.map cntE_Node).sum ∧ 0 ≤ (t.arena.retired.map cntE_Retired).sum ∧ (t.arena.nodes.map cntE_Node).sum + (t.arena.free.length : Int) + (t.arena.retired.map cntE_Retired).sum ≤ 32 * szTree t := by
  have h1 := cnt_list cntE_Node_sz t.arena.nodes
  have h2 := cnt_list cntE_Retired_sz t.arena.retired
  refine ⟨sum_nn cntE_Node_nn _, sum_nn cntE_Retired_nn _, ?_⟩
  unfold szTree szArena; omega
theorem reach_cnt (t : Tree) : (reachOf t).ids.length ≤ 40 := by
  unfold reachOf
  split
  · rename_i h; obtain ⟨hS, hp, -⟩ := tree_0 h; exact (leaf_len hS hp).2
  · simp
end Go.Proofs.YtfaflffdekoimaaGreat.Sx
