/- What functions of the program answer, each at every input that its row names; walked through their code. -/
import Derived.Test.YtkdiaknbndmajaaGreatSy6
namespace Go.Proofs.YtkdiaknbndmajaaGreat.Sx
open Go Go.RowKit Go.Proofs
set_option linter.unusedVariables false
set_option linter.unusedSimpArgs false
def tab6 : Tab := { size := [(2, 1, false), (24, 1, false), (40, 1, false), (58, 2, true), (60, 3, true), (67, 14, true)], off := [((26, 0), 0), ((26, 1), 1), ((58, 0), 0), ((58, 1), 1), ((60, 0), 0), ((60, 1), 1), ((62, 0), 0), ((62, 1), 1), ((62, 2), 3), ((62, 3), 4), ((64, 0), 0), ((64, 1), 1), ((64, 2), 4), ((65, 0), 0), ((65, 1), 1), ((67, 0), 0), ((67, 1), 1), ((67, 2), 2), ((67, 3), 3), ((67, 4), 12)], elem := [(24, 60), (28, 67), (40, 2)] }
theorem tab_ok6 : tab6.check Tryz.prog = true := by kernel_rfl
noncomputable abbrev X6 (N : Nat) (w : World) : Cx := ⟨Tryz.prog, tab6, tab_ok6, wide, N, w, none, []⟩

structure PairsResult where
  code : Int
  pairs : List Pair
  deriving DecidableEq
def kPairsResultS : Kd PairsResult := ((Kd.i64.via PairsResult.code).cat ((Kd.sl kPairS).via PairsResult.pairs))
theorem kPairsResultS_sh {w : World} {cs : List Value} {x : PairsResult} {o s : List Nat} (h : kPairsResultS.Rel w cs x o s) : ∃ (A1 : Option Addr) (c1 : Nat), cs = [.int .i64 x.code, .slice A1 x.pairs.length c1] := by
  obtain ⟨c10, c20, o10, o20, s10, s20, rfl, rfl, rfl, h0, k0⟩ := h
  obtain ⟨rfl, -, -⟩ := h0
  obtain ⟨-, A1_, c1_, rfl, -⟩ := k0
  exact ⟨_, _, rfl⟩
theorem kPairsResultS_p1_1 : Kd.Sub kPairsResultS 1 (Kd.sl kPairS) (fun x => x.pairs) := (Kd.Sub.right (Kd.Sub.rfl.via PairsResult.pairs) _)
theorem kPairsResultS_self : Kd.Seals kPairsResultS kPairsResultS := (Kd.Seals.cat (Kd.Seals.via Kd.Seals.i64 _) (Kd.Seals.via Kd.Seals.refl_sl _))
theorem kPairsResultS_pure : Kd.Pure kPairsResultS := (Kd.Pure.cat (Kd.Pure.via Kd.Pure.i64 _) (Kd.Pure.via (Kd.Pure.sl _) _))
def kPairsResultO : Kd PairsResult := ((Kd.i64.via PairsResult.code).cat ((Kd.row 60 kPairO).via PairsResult.pairs))
theorem kPairsResultO_sh {w : World} {cs : List Value} {x : PairsResult} {o s : List Nat} (h : kPairsResultO.Rel w cs x o s) : ∃ (A1 : Option Addr) (c1 : Nat), cs = [.int .i64 x.code, .slice A1 x.pairs.length c1] := by
  obtain ⟨c10, c20, o10, o20, s10, s20, rfl, rfl, rfl, h0, k0⟩ := h
  obtain ⟨rfl, -, -⟩ := h0
  obtain ⟨A1_, c1_, rfl⟩ := Kd.row_sh k0
  exact ⟨_, _, rfl⟩
theorem kPairsResultO_seal : Kd.Seals kPairsResultO kPairsResultS := (Kd.Seals.cat (Kd.Seals.via Kd.Seals.i64 _) (Kd.Seals.via (Kd.Seals.row kPairO_seal _) _))
theorem PairsResult_eq (a b : PairsResult) : decide (a = b) = (decide (a.code = b.code) && decide (a.pairs = b.pairs)) := by
  cases a; cases b; rw [Bool.eq_iff_iff]; simp [and_assoc]
/-! laws.eqPairsResult -/
set_option maxRecDepth 20000 in
set_option maxHeartbeats 2000000 in
theorem laws_eqPairsResult (w : World) {Aa1 : Option Addr} {ca1 : Nat} {a : PairsResult} {sa_ : List Nat} (ha : kPairsResultS.Rel w [.int .i64 a.code, .slice Aa1 a.pairs.length ca1] a [] sa_) {Ab1 : Option Addr} {cb1 : Nat} {b : PairsResult} {sb_ : List Nat} (hb : kPairsResultS.Rel w [.int .i64 b.code, .slice Ab1 b.pairs.length cb1] b [] sb_)  : Calls Tryz.prog 10 #[.agg #[.int .i64 a.code, .slice Aa1 a.pairs.length ca1], .agg #[.int .i64 b.code, .slice Ab1 b.pairs.length cb1]] w (fun e_ w2_ => e_ = .returned (.bool (decide (a = b))) ∧ Below w.heap.size w w2_) := by
  refine fnc (X := X6 16 w) (args := [.agg #[.int .i64 a.code, .slice Aa1 a.pairs.length ca1], .agg #[.int .i64 b.code, .slice Ab1 b.pairs.length cb1]]) (l := [(0, .agg #[.int .i64 a.code, .slice Aa1 a.pairs.length ca1]), (1, .agg #[.int .i64 b.code, .slice Ab1 b.pairs.length cb1])]) (G := [dat kPairsResultS [.int .i64 b.code, .slice Ab1 b.pairs.length cb1] b ([]) sb_, dat kPairsResultS [.int .i64 a.code, .slice Aa1 a.pairs.length ca1] a ([]) sa_]) Tryz.func10 rfl rfl rfl ⟨rfl, rfl, trivial⟩ (s0d hb (s0d ha (s0n w))).1 ?_
  refine sq (rg (bx rfl rfl rfl rfl ?_))
  intro b1
  refine bx rfl rfl rfl rfl ?_
  intro b2
  refine a_ rfl rfl (en (nx (sq (sq (rg (vl (fa rfl rfl rfl) rfl (vl (ldb (u := .int .i64 a.code) 1 rfl rfl rfl rfl rfl rfl rfl) rfl (vl (fa rfl rfl rfl) rfl (vl (ldb (u := .int .i64 b.code) 0 rfl rfl rfl rfl rfl rfl rfl) rfl (vl (cm rfl rfl rfl rfl) rfl (en (nx ?_))))))))))))
  by_cases h3 : a.code = b.code
  · refine cf rfl (bne_eq_false_iff_eq.2 h3) (sk (nx (sq (sq (rg (vl (fa rfl rfl rfl) rfl (vl (ldb (u := .slice Aa1 a.pairs.length ca1) 1 rfl rfl rfl rfl rfl rfl rfl) rfl (vl (fa rfl rfl rfl) rfl (vl (ldb (u := .slice Ab1 b.pairs.length cb1) 0 rfl rfl rfl rfl rfl rfl rfl) rfl ?_)))))))))
    refine gd 3 kPairsResultS_p1_1 rfl (cs' := [.slice Aa1 a.pairs.length ca1]) rfl fun s4 w_ rs4 us4 => ?_
    have Ls4 := Kd.sl_len rs4; have Cs4 := Kd.sl_cap rs4
    refine gd 3 kPairsResultS_p1_1 rfl (cs' := [.slice Ab1 b.pairs.length cb1]) rfl fun s5 w_ rs5 us5 => ?_
    have Ls5 := Kd.sl_len rs5; have Cs5 := Kd.sl_cap rs5
    refine cs_ (v := .bool (decide (a.pairs = b.pairs))) (by kernel_rfl) rfl rfl rfl (fun w_ hs_ => laws_eqPairS w_ (hs_.at 1 rfl) (hs_.at 0 rfl)) (vl (nt rfl rfl) rfl (en (nx ?_)))
    by_cases h6 : decide (a.pairs = b.pairs) = true
    · refine cf rfl (not_f h6) (sk (nx (sq (rg (a_ rfl rfl (en (nx (rt (ret1 rfl rfl (fun w_ hs_ => ⟨?_, hs_.below⟩))))))))))
      rw [PairsResult_eq]; simp [h3, h6]
    · refine ct rfl (not_t (Bool.eq_false_iff.2 h6)) (sq (rg (a_ rfl rfl (en (nx (rt (xr (ret1 rfl rfl (fun w_ hs_ => ⟨?_, hs_.below⟩)))))))))
      rw [PairsResult_eq]; simp [h3, h6]
  · refine ct rfl (bne_iff_ne.2 h3) (sq (rg (a_ rfl rfl (en (nx (rt (xr (ret1 rfl rfl (fun w_ hs_ => ⟨?_, hs_.below⟩)))))))))
    rw [PairsResult_eq]; simp [h3]
theorem vi {k : IntKind} {a b : Int} (h : a = b) : Value.int k a = Value.int k b := by rw [h]
def mkE_Pair (k : Int) (a : Pair) : Pair := ⟨k, ⟨mkL mI cI (k + 1) a.rect.low, mkL mI cI (k + 1 + (a.rect.low.length : Int)) a.rect.high⟩⟩
def cntE_Pair (a : Pair) : Int := 0 + 1 + (a.rect.low.length : Int) + (a.rect.high.length : Int)
theorem cntE_Pair_nn (a : Pair) : 0 ≤ cntE_Pair a := by
  unfold cntE_Pair; omega
def mkV_PairsResult (k : Int) (a : PairsResult) : PairsResult := ⟨a.code, mkL mkE_Pair cntE_Pair (k) a.pairs⟩
def cntV_PairsResult (a : PairsResult) : Int := 0 + (a.pairs.map cntE_Pair).sum
theorem cntV_PairsResult_nn (a : PairsResult) : 0 ≤ cntV_PairsResult a := by
  have := sum_nn cntE_Pair_nn a.pairs
  unfold cntV_PairsResult; omega
/-! laws.markInt64S -/
set_option maxRecDepth 20000 in
set_option maxHeartbeats 2000000 in
theorem laws_markInt64S (w : World) (k : Int) {Aa : Option Addr} {ca : Nat} {a : List Int} {oa_ sa_ : List Nat} (hst : St (nul w) w [dat (Kd.row 2 Kd.i64) [.slice Aa a.length ca] a oa_ sa_]) (hk0 : 0 ≤ k) (hk1 : k + ((a.length : Nat) : Int) ≤ 1152921504606846976) : Calls Tryz.prog 30 #[.slice Aa a.length ca, .int .i64 k] w (TurnO (Kd.row 2 Kd.i64) [.slice Aa a.length ca] (.int .i64 (k + ((a.length : Nat) : Int))) w oa_ (mkL mI cI k a) (sa_)) := by
  have La := Kd.row_len (hst.at 0 rfl); have Ca := Kd.row_cap (hst.at 0 rfl)
  refine fnc (X := X6 19 (nul w)) (args := [.slice Aa a.length ca, .int .i64 k]) (l := [(0, .slice Aa a.length ca), (1, .int .i64 k)]) (G := [frm w oa_, dat (Kd.row 2 Kd.i64) [.slice Aa a.length ca] a oa_ sa_]) Tryz.func30 rfl rfl rfl ⟨rfl, rfl, trivial⟩ (⟨hst.fr oa_ (by simp [owns, dat, ptr]), trivial⟩ : _ ∧ True).1 ?_
  refine sq (rg (a_ rfl rfl (en (nx (sq (sq (rg (a_ rfl rfl (en (nx (bk ?_)))))))))))
  refine lp (σ := Nat × Int × List Nat × List Nat) (fun z_ : Nat × Int × List Nat × List Nat => match z_ with | (i, v, o_, s_) => [(0, .slice Aa a.length ca), (1, .int .i64 v), (5, .int .i64 ((i : Nat) : Int))])
      (fun z_ : Nat × Int × List Nat × List Nat => match z_ with | (i, v, o_, s_) => [dat (Kd.row 2 Kd.i64) [.slice Aa a.length ca] (mkL mI cI k (a.take i) ++ a.drop i) o_ s_, frm w oa_])
      (fun z_ : Nat × Int × List Nat × List Nat => match z_ with | (i, v, o_, s_) => i ≤ a.length ∧ v = k + sumTo cI a i ∧ ∀ q ∈ s_, q ∈ sa_ ∨ w.heap.size ≤ q) (fun z_ : Nat × Int × List Nat × List Nat => match z_ with | (i, v, o_, s_) => a.length - i) (0, k, oa_, sa_) [1, 0] ⟨Nat.zero_le _, by simp [sumTo], fun q h => .inl h⟩ ⟨rfl, rfl, rfl, trivial⟩ rfl ?_
  rintro ⟨i, v, o_, s_⟩ hp_
  obtain ⟨hi, hv, hsee⟩ := hp_; have z0 := sumTo_nn cI_nn a i; have zt := sumTo_le cI_nn a i; have ze := cI_sum a; have zj := cI_to hi
  refine sq (sq (rg (m_ rfl rfl (m_ rfl rfl (vl (ln rfl rfl rfl) rfl (vl (cm rfl rfl rfl rfl) rfl (en (nx ?_))))))))
  by_cases h1 : ((i : Nat) : Int) < ((a.length : Nat) : Int)
  · obtain ⟨ba, rfl⟩ := Kd.row_pos (hst.at 0 rfl) (by omega)
    refine ct rfl (decide_eq_true h1) (sk (nx (sq (bk (sq (rg (m_ rfl rfl (m_ rfl rfl (m_ rfl rfl (vl (ix i rfl rfl rfl rfl rfl rfl (by omega)) rfl (gs Kd.i64 [.int .i64 v] v (fun _ => ⟨rfl, rfl, rfl⟩) (f1 (ste i rfl rfl rfl rfl rfl (by rw [List.length_append, mkL_len, List.length_take, List.length_drop]; omega) (fun o2 s3 t4 => ?_))))))))))))))
    exact gr (mkL mI cI k (a.take (i + 1)) ++ a.drop (i + 1)) (mk_step (List.getElem?_eq_getElem (by omega)) (by simp only [mI]; exact hv)) (en (nx (rg (m_ rfl rfl (vl (ra (c := v + 1) rfl rfl rfl rfl (by omega) (by omega)) rfl (a_ rfl rfl (en (xn (nx (rg (m_ rfl rfl (vl (ra (c := ((i + 1 : Nat) : Int)) rfl rfl rfl (by omega) (by omega) (by omega)) rfl (a_ rfl rfl (en (lpe (s := (i, v, o_, s_)) (i + 1, v + 1, o2, s3) [0, 0] ⟨by omega, by have zs := sumTo_step (f := cI) (List.getElem?_eq_getElem (show i < a.length by omega)); simp only [cI] at zs; omega, by grind⟩ (by show a.length - (i + 1) < a.length - i; omega) ⟨rfl, rfl, rfl, trivial⟩ rfl)))))))))))))))
  · exact cf rfl (decide_eq_false h1) (xt (xq (xq (xb (nx (sq (rg (m_ rfl rfl (a_ rfl rfl (en (nx (rt (gr (mkL mI cI k a) (mk_end (by omega)) (ret1 rfl rfl (fun w_ hs_ => turno hs_ 0 rfl (by exact vi (by have z := sumTo_end (f := cI) (l := a) (k := i) (by omega); omega)) (by grind))))))))))))))))
/-! laws.heldInt64S -/
set_option maxRecDepth 20000 in
set_option maxHeartbeats 2000000 in
theorem laws_heldInt64S (w : World) (k : Int) {Aa0 : Option Addr} {na0 ca0 : Nat} {a : List Int} {sa_ : List Nat} (ha : (Kd.sl Kd.i64).Rel w [.slice Aa0 na0 ca0] (mkL mI cI k a) [] sa_) (hk0 : 0 ≤ k) (hk1 : k + ((a.length : Nat) : Int) ≤ 1152921504606846976) : Calls Tryz.prog 63 #[.slice Aa0 na0 ca0, .int .i64 k] w (fun e_ w2_ => e_ = .returned (.int .i64 (k + ((a.length : Nat) : Int))) ∧ Below w.heap.size w w2_) := by
  have La := Kd.sl_len ha; have Ea := Kd.sl_n ha; rw [mkL_len] at La Ea
  refine fnc (X := X6 21 w) (args := [.slice Aa0 na0 ca0, .int .i64 k]) (l := [(0, .slice Aa0 na0 ca0), (1, .int .i64 k)]) (G := [dat (Kd.sl Kd.i64) [.slice Aa0 na0 ca0] (mkL mI cI k a) ([]) sa_]) Tryz.func63 rfl rfl rfl ⟨rfl, rfl, trivial⟩ (s0d ha (s0n w)).1 ?_
  refine sq (rg (a_ rfl rfl (en (nx (sq (sq (rg (a_ rfl rfl (en (nx (bk ?_)))))))))))
  refine lp (σ := Nat × Int) (fun z_ : Nat × Int => match z_ with | (i, v) => [(0, .slice Aa0 na0 ca0), (1, .int .i64 v), (5, .int .i64 ((i : Nat) : Int))])
      (fun z_ : Nat × Int => match z_ with | (i, v) => [dat (Kd.sl Kd.i64) [.slice Aa0 na0 ca0] (mkL mI cI k a) ([]) sa_])
      (fun z_ : Nat × Int => match z_ with | (i, v) => i ≤ a.length ∧ v = k + sumTo cI a i) (fun z_ : Nat × Int => match z_ with | (i, v) => a.length - i) (0, k) [0] ⟨Nat.zero_le _, by simp [sumTo]⟩ ⟨rfl, rfl, rfl, trivial⟩ rfl ?_
  rintro ⟨i, v⟩ hp_
  obtain ⟨hi, hv⟩ := hp_; have z0 := sumTo_nn cI_nn a i; have zt := sumTo_le cI_nn a i; have ze := cI_sum a; have zj := cI_to hi
  refine sq (sq (rg (m_ rfl rfl (m_ rfl rfl (vl (ln rfl rfl rfl) rfl (vl (cm rfl rfl rfl rfl) rfl (en (nx ?_))))))))
  by_cases h1 : ((i : Nat) : Int) < ((na0 : Nat) : Int)
  · refine ct rfl (decide_eq_true h1) (sk (nx (sq (bk (sq (sq (rg (m_ rfl rfl (m_ rfl rfl ?_)))))))))
    refine gx 0 i rfl (by first | omega | (rw [mkL_len]; omega)) fun y7 p2 cs_ s3 w6 m8 e4 r5 us3 => ?_
    obtain ⟨rfl, -, -⟩ := r5
    obtain ⟨y9, hy9⟩ := mkL_some m8
    have zy9 := mkL_at' m8 hy9 hv
    have zs := sumTo_step (f := cI) hy9; have zl := sumTo_le cI_nn a (i + 1); have z0 := sumTo_nn cI_nn a i; have ze := cI_sum a; have zc : cI y9 = 1 := rfl
    refine vl (ix i e4 rfl rfl rfl rfl rfl (by first | omega | (rw [mkL_len]; omega))) rfl (vl (ldq (u := .int .i64 y7) 0 rfl rfl rfl rfl rfl rfl rfl) rfl (m_ rfl rfl (vl (cm rfl rfl rfl rfl) rfl (en (nx ?_)))))
    by_cases h10 : y7 = v
    · exact cf rfl (bne_eq_false_iff_eq.2 h10) (sk (nx (rg (m_ rfl rfl (vl (ra (c := v + 1) rfl rfl rfl rfl (by omega) (by omega)) rfl (a_ rfl rfl (en (xn (nx (rg (m_ rfl rfl (vl (ra (c := ((i + 1 : Nat) : Int)) rfl rfl rfl (by omega) (by omega) (by omega)) rfl (a_ rfl rfl (en (lpe (s := (i, v)) (i + 1, v + 1) [1] ⟨by omega, by omega⟩ (by show a.length - (i + 1) < a.length - i; omega) ⟨rfl, rfl, rfl, trivial⟩ rfl)))))))))))))))
    · exact absurd zy9 h10
  · refine cf rfl (decide_eq_false h1) (xt (xq (xq (xb (nx (sq (rg (m_ rfl rfl (a_ rfl rfl (en (nx (rt (ret1 rfl rfl (fun w_ hs_ => ⟨?_, hs_.below⟩))))))))))))))
    exact ri (by have z := sumTo_end (f := cI) (l := a) (k := i) (by omega); omega)
/-! laws.markPairS -/
set_option maxRecDepth 20000 in
set_option maxHeartbeats 2000000 in
theorem laws_markPairS (w : World) (k : Int) {Aa : Option Addr} {ca : Nat} {a : List Pair} {oa_ sa_ : List Nat} (hst : St (nul w) w [dat (Kd.row 60 kPairO) [.slice Aa a.length ca] a oa_ sa_]) (hk0 : 0 ≤ k) (hk1 : k + (a.map cntE_Pair).sum ≤ 1152921504606846976) : Calls Tryz.prog 31 #[.slice Aa a.length ca, .int .i64 k] w (TurnO (Kd.row 60 kPairO) [.slice Aa a.length ca] (.int .i64 (k + (a.map cntE_Pair).sum)) w oa_ (mkL mkE_Pair cntE_Pair k a) (sa_)) := by
  have La := Kd.row_len (hst.at 0 rfl); have Ca := Kd.row_cap (hst.at 0 rfl)
  refine fnc (X := X6 36 (nul w)) (args := [.slice Aa a.length ca, .int .i64 k]) (l := [(0, .slice Aa a.length ca), (1, .int .i64 k)]) (G := [frm w oa_, dat (Kd.row 60 kPairO) [.slice Aa a.length ca] a oa_ sa_]) Tryz.func31 rfl rfl rfl ⟨rfl, rfl, trivial⟩ (⟨hst.fr oa_ (by simp [owns, dat, ptr]), trivial⟩ : _ ∧ True).1 ?_
  refine sq (rg (a_ rfl rfl (en (nx (sq (sq (rg (a_ rfl rfl (en (nx (bk ?_)))))))))))
  refine lp (σ := Nat × Int × List Nat × List Nat) (fun z_ : Nat × Int × List Nat × List Nat => match z_ with | (i, v, o_, s_) => [(0, .slice Aa a.length ca), (1, .int .i64 v), (5, .int .i64 ((i : Nat) : Int))])
      (fun z_ : Nat × Int × List Nat × List Nat => match z_ with | (i, v, o_, s_) => [dat (Kd.row 60 kPairO) [.slice Aa a.length ca] (mkL mkE_Pair cntE_Pair k (a.take i) ++ a.drop i) o_ s_, frm w oa_])
      (fun z_ : Nat × Int × List Nat × List Nat => match z_ with | (i, v, o_, s_) => i ≤ a.length ∧ v = k + sumTo cntE_Pair a i ∧ ∀ q ∈ s_, q ∈ sa_ ∨ w.heap.size ≤ q) (fun z_ : Nat × Int × List Nat × List Nat => match z_ with | (i, v, o_, s_) => a.length - i) (0, k, oa_, sa_) [1, 0] ⟨Nat.zero_le _, by simp [sumTo], fun q h => .inl h⟩ ⟨rfl, rfl, rfl, trivial⟩ rfl ?_
  rintro ⟨i, v, o_, s_⟩ hp_
  obtain ⟨hi, hv, hsee⟩ := hp_; have z0 := sumTo_nn cntE_Pair_nn a i; have zt := sumTo_le cntE_Pair_nn a i
  refine sq (sq (rg (m_ rfl rfl (m_ rfl rfl (vl (ln rfl rfl rfl) rfl (vl (cm rfl rfl rfl rfl) rfl (en (nx ?_))))))))
  by_cases h1 : ((i : Nat) : Int) < ((a.length : Nat) : Int)
  · obtain ⟨ba, rfl⟩ := Kd.row_pos (hst.at 0 rfl) (by omega)
    refine ct rfl (decide_eq_true h1) (sk (nx (sq (bk (sq (rg (m_ rfl rfl (m_ rfl rfl (m_ rfl rfl (vl (ix i rfl rfl rfl rfl rfl rfl (by omega)) rfl ?_))))))))))
    refine foc i (by rw [List.length_append, mkL_len, List.length_take, List.length_drop]; omega) fun y2 ci_ o3 s4 o5 s6 w_ m7 r8 us4 us6 => ?_
    obtain ⟨A9, c10, A11, c12, rfl⟩ := kPairO_sh r8
    refine f1 (gsp (da := (Kd.via Kd.i64 Pair.id)) rfl rfl (fun o13 o14 s15 s16 us15 us16 => ?_))
    refine gv (f1 (gv (gsp (da := (Kd.via (Kd.row 2 Kd.i64) Rect.low)) rfl rfl (fun o17 o18 s19 s20 us19 us20 => ?_))))
    refine gv (f1 (gv ?_))
    have zs := sumTo_step (f := cntE_Pair) (mk_raw m7); have zl := sumTo_le cntE_Pair_nn a (i + 1); have z0 := sumTo_nn cntE_Pair_nn a i; have zc : cntE_Pair y2 = 0 + 1 + (y2.rect.low.length : Int) + (y2.rect.high.length : Int) := rfl
    refine vl (fa rfl rfl rfl) rfl (f3 (sth (off := 0) rfl rfl pa1 rfl rfl rfl rfl rfl (ci' := [.int .i64 v, .slice A9 y2.rect.low.length c10, .slice A11 y2.rect.high.length c12]) rfl (en (nx (sq (rg (m_ rfl rfl (vl (ra (c := v + 1) rfl rfl rfl rfl (by omega) (by omega)) rfl (a_ rfl rfl (en (nx (sq (rg (m_ rfl rfl (m_ rfl rfl (vl (ix i rfl rfl rfl rfl rfl rfl (by omega)) rfl (vl (fa rfl rfl rfl) rfl (vl (fb rfl rfl rfl) rfl (vl (ldh (u := .slice A9 y2.rect.low.length c10) 0 (off := 1) rfl rfl rfl rfl pa1 rfl rfl rfl) rfl (m_ rfl rfl (f2 (cto (dk := (Kd.row 2 Kd.i64)) (cs := [.slice A9 y2.rect.low.length c10]) (x := (mkL mI cI (v + 1) y2.rect.low)) (v := .int .i64 (v + 1 + ((y2.rect.low.length : Nat) : Int))) (S := (s19)) (by kernel_rfl) rfl rfl rfl (snt 0 rfl) w.heap.size (fun w_ hs_ => (hs_.mod 4 rfl).size) (fun w_ hs_ => laws_markInt64S w_ _ ((hs_.pk [0] rfl).nl) (by omega) (by omega)) (fun o21 s22 t23 => ?_)))))))))))))))))))))))
    refine a_ rfl rfl (en (nx (rg (m_ rfl rfl (m_ rfl rfl (vl (ix i rfl rfl rfl rfl rfl rfl (by omega)) rfl (vl (fa rfl rfl rfl) rfl (vl (fb rfl rfl rfl) rfl (vl (ldh (u := .slice A11 y2.rect.high.length c12) 1 (off := 2) rfl rfl rfl rfl pa1 rfl rfl rfl) rfl (m_ rfl rfl (f2 (cto (dk := (Kd.row 2 Kd.i64)) (cs := [.slice A11 y2.rect.high.length c12]) (x := (mkL mI cI (v + 1 + ((y2.rect.low.length : Nat) : Int)) y2.rect.high)) (v := .int .i64 ((v + 1 + ((y2.rect.low.length : Nat) : Int)) + ((y2.rect.high.length : Nat) : Int))) (S := (s20)) (by kernel_rfl) rfl rfl rfl (snt 0 rfl) w.heap.size (fun w_ hs_ => (hs_.mod 4 rfl).size) (fun w_ hs_ => laws_markInt64S w_ _ ((hs_.pk [0] rfl).nl) (by omega) (by omega)) (fun o24 s25 t26 => ?_)))))))))))))
    refine a_ rfl rfl (en (xn (nx (rg (m_ rfl rfl (vl (ra (c := ((i + 1 : Nat) : Int)) rfl rfl rfl (by omega) (by omega) (by omega)) rfl (a_ rfl rfl (en (f1 (gj (da := (Kd.via (Kd.row 2 Kd.i64) Rect.low)) (db := (Kd.via (Kd.row 2 Kd.i64) Rect.high)) (x := ((mkE_Pair v y2).rect)) (cs := [.slice A9 y2.rect.low.length c10, .slice A11 y2.rect.high.length c12]) rfl (gs Kd.i64 [.int .i64 v] ((mkE_Pair v y2).id) (fun _ => ⟨rfl, rfl, rfl⟩) (gj (da := (Kd.via Kd.i64 Pair.id)) (db := (Kd.via kRectO Pair.rect)) (x := (mkE_Pair v y2)) (cs := [.int .i64 v, .slice A9 y2.rect.low.length c10, .slice A11 y2.rect.high.length c12]) rfl (f1 (unf (fun o27 s28 t29 => ?_)))))))))))))))
    refine gr (mkL mkE_Pair cntE_Pair k (a.take (i + 1)) ++ a.drop (i + 1)) (mk_step (mk_raw m7) (by rw [← hv])) ?_
    exact lpe (s := (i, v, o_, s_)) (i + 1, ((v + 1 + ((y2.rect.low.length : Nat) : Int)) + ((y2.rect.high.length : Nat) : Int)), o27, s28) [0, 1] ⟨by omega, by omega, by grind⟩ (by show a.length - (i + 1) < a.length - i; omega) ⟨rfl, rfl, rfl, trivial⟩ rfl
  · exact cf rfl (decide_eq_false h1) (xt (xq (xq (xb (nx (sq (rg (m_ rfl rfl (a_ rfl rfl (en (nx (rt (gr (mkL mkE_Pair cntE_Pair k a) (mk_end (by omega)) (ret1 rfl rfl (fun w_ hs_ => turno hs_ 0 rfl (by exact vi (by have z := sumTo_end (f := cntE_Pair) (l := a) (k := i) (by omega); omega)) (by grind))))))))))))))))
/-! laws.heldPairS -/
set_option maxRecDepth 20000 in
set_option maxHeartbeats 2000000 in
theorem laws_heldPairS (w : World) (k : Int) {Aa0 : Option Addr} {na0 ca0 : Nat} {a : List Pair} {sa_ : List Nat} (ha : (Kd.sl kPairS).Rel w [.slice Aa0 na0 ca0] (mkL mkE_Pair cntE_Pair k a) [] sa_) (hk0 : 0 ≤ k) (hk1 : k + (a.map cntE_Pair).sum ≤ 1152921504606846976) : Calls Tryz.prog 32 #[.slice Aa0 na0 ca0, .int .i64 k] w (fun e_ w2_ => e_ = .returned (.int .i64 (k + (a.map cntE_Pair).sum)) ∧ Below w.heap.size w w2_) := by
  have La := Kd.sl_len ha; have Ea := Kd.sl_n ha; rw [mkL_len] at La Ea
  refine fnc (X := X6 42 w) (args := [.slice Aa0 na0 ca0, .int .i64 k]) (l := [(0, .slice Aa0 na0 ca0), (1, .int .i64 k)]) (G := [dat (Kd.sl kPairS) [.slice Aa0 na0 ca0] (mkL mkE_Pair cntE_Pair k a) ([]) sa_]) Tryz.func32 rfl rfl rfl ⟨rfl, rfl, trivial⟩ (s0d ha (s0n w)).1 ?_
  refine sq (rg (a_ rfl rfl (en (nx (sq (sq (rg (a_ rfl rfl (en (nx (bk ?_)))))))))))
  refine lp (σ := Nat × Int) (fun z_ : Nat × Int => match z_ with | (i, v) => [(0, .slice Aa0 na0 ca0), (1, .int .i64 v), (5, .int .i64 ((i : Nat) : Int))])
      (fun z_ : Nat × Int => match z_ with | (i, v) => [dat (Kd.sl kPairS) [.slice Aa0 na0 ca0] (mkL mkE_Pair cntE_Pair k a) ([]) sa_])
      (fun z_ : Nat × Int => match z_ with | (i, v) => i ≤ a.length ∧ v = k + sumTo cntE_Pair a i) (fun z_ : Nat × Int => match z_ with | (i, v) => a.length - i) (0, k) [0] ⟨Nat.zero_le _, by simp [sumTo]⟩ ⟨rfl, rfl, rfl, trivial⟩ rfl ?_
  rintro ⟨i, v⟩ hp_
  obtain ⟨hi, hv⟩ := hp_; have z0 := sumTo_nn cntE_Pair_nn a i; have zt := sumTo_le cntE_Pair_nn a i
  refine sq (sq (rg (m_ rfl rfl (m_ rfl rfl (vl (ln rfl rfl rfl) rfl (vl (cm rfl rfl rfl rfl) rfl (en (nx ?_))))))))
  by_cases h1 : ((i : Nat) : Int) < ((na0 : Nat) : Int)
  · refine ct rfl (decide_eq_true h1) (sk (nx (sq (bk (sq (sq (rg (m_ rfl rfl (m_ rfl rfl ?_)))))))))
    refine gx 0 i rfl (by first | omega | (rw [mkL_len]; omega)) fun y7 p2 cs_ s3 w6 m8 e4 r5 us3 => ?_
    obtain ⟨A9, c10, A11, c12, rfl⟩ := kPairS_sh r5
    obtain ⟨y13, hy13⟩ := mkL_some m8
    have zy13 := mkL_at' m8 hy13 hv; subst zy13
    have zs := sumTo_step (f := cntE_Pair) hy13; have zl := sumTo_le cntE_Pair_nn a (i + 1); have z0 := sumTo_nn cntE_Pair_nn a i; have zc : cntE_Pair y13 = 0 + 1 + (y13.rect.low.length : Int) + (y13.rect.high.length : Int) := rfl
    refine vl (ix i e4 rfl rfl rfl rfl rfl (by first | omega | (rw [mkL_len]; omega))) rfl (vl (fa rfl rfl rfl) rfl (vl (ldp (u := .int .i64 ((mkE_Pair v y13).id)) 0 rfl rfl rfl rfl rfl rfl rfl) rfl (m_ rfl rfl (vl (cm rfl rfl rfl rfl) rfl (en (nx ?_))))))
    by_cases h14 : (mkE_Pair v y13).id = v
    · refine cf rfl (bne_eq_false_iff_eq.2 h14) (sk (nx (sq (rg (m_ rfl rfl (vl (ra (c := v + 1) rfl rfl rfl rfl (by omega) (by omega)) rfl (a_ rfl rfl (en (nx (sq (rg (m_ rfl rfl (m_ rfl rfl (vl (ix i e4 rfl rfl rfl rfl rfl (by first | omega | (rw [mkL_len]; omega))) rfl (vl (fa rfl rfl rfl) rfl (vl (fb rfl rfl rfl) rfl (vl (ldp (u := .slice A9 ((mkE_Pair v y13).rect.low.length) c10) 0 rfl rfl rfl rfl rfl rfl rfl) rfl (m_ rfl rfl ?_))))))))))))))))))
      refine gp 0 kPairS_p1_1 rfl (cs' := [.slice A9 ((mkE_Pair v y13).rect.low.length) c10]) rfl fun s15 w_ rs15 us15 => ?_
      have Ls15 := Kd.sl_len rs15; have Cs15 := Kd.sl_cap rs15
      refine gr (mkL mI cI (v + 1) y13.rect.low) rfl (cs_ (v := .int .i64 (v + 1 + ((y13.rect.low.length : Nat) : Int))) (by kernel_rfl) rfl rfl rfl (fun w_ hs_ => laws_heldInt64S w_ _ (hs_.at 0 rfl) (by omega) (by omega)) (a_ rfl rfl (en (nx (sq (sq (rg (m_ rfl rfl (vl (cm rfl rfl rfl rfl) rfl (en (nx ?_)))))))))))
      by_cases h16 : (v + 1 + ((y13.rect.low.length : Nat) : Int)) < (0 : Int)
      · exfalso; omega
      · refine cf rfl (decide_eq_false h16) (sk (nx (sq (rg (m_ rfl rfl (m_ rfl rfl (vl (ix i e4 rfl rfl rfl rfl rfl (by first | omega | (rw [mkL_len]; omega))) rfl (vl (fa rfl rfl rfl) rfl (vl (fb rfl rfl rfl) rfl (vl (ldp (u := .slice A11 ((mkE_Pair v y13).rect.high.length) c12) 1 rfl rfl rfl rfl rfl rfl rfl) rfl (m_ rfl rfl ?_)))))))))))
        refine gp 1 kPairS_p2_1 rfl (cs' := [.slice A11 ((mkE_Pair v y13).rect.high.length) c12]) rfl fun s17 w_ rs17 us17 => ?_
        have Ls17 := Kd.sl_len rs17; have Cs17 := Kd.sl_cap rs17
        refine gr (mkL mI cI (v + 1 + (y13.rect.low.length : Int)) y13.rect.high) rfl (cs_ (v := .int .i64 ((v + 1 + ((y13.rect.low.length : Nat) : Int)) + ((y13.rect.high.length : Nat) : Int))) (by kernel_rfl) rfl rfl rfl (fun w_ hs_ => laws_heldInt64S w_ _ (hs_.at 0 rfl) (by omega) (by omega)) (a_ rfl rfl (en (nx (sq (rg (m_ rfl rfl (vl (cm rfl rfl rfl rfl) rfl (en (nx ?_))))))))))
        by_cases h18 : ((v + 1 + ((y13.rect.low.length : Nat) : Int)) + ((y13.rect.high.length : Nat) : Int)) < (0 : Int)
        · exfalso; omega
        · exact cf rfl (decide_eq_false h18) (sk (xn (nx (rg (m_ rfl rfl (vl (ra (c := ((i + 1 : Nat) : Int)) rfl rfl rfl (by omega) (by omega) (by omega)) rfl (a_ rfl rfl (en (lpe (s := (i, v)) (i + 1, ((v + 1 + ((y13.rect.low.length : Nat) : Int)) + ((y13.rect.high.length : Nat) : Int))) [3] ⟨by omega, by omega⟩ (by show a.length - (i + 1) < a.length - i; omega) ⟨rfl, rfl, rfl, trivial⟩ rfl)))))))))
    · exact absurd rfl h14
  · refine cf rfl (decide_eq_false h1) (xt (xq (xq (xb (nx (sq (rg (m_ rfl rfl (a_ rfl rfl (en (nx (rt (ret1 rfl rfl (fun w_ hs_ => ⟨?_, hs_.below⟩))))))))))))))
    exact ri (by have z := sumTo_end (f := cntE_Pair) (l := a) (k := i) (by omega); omega)
/-! laws.markPairsResult -/
set_option maxRecDepth 20000 in
set_option maxHeartbeats 2000000 in
theorem laws_markPairsResult (w : World) (k : Int) {Aa1 : Option Addr} {ca1 : Nat} {a : PairsResult} {oa_ sa_ : List Nat} (hst : St (nul w) w [dat kPairsResultO [.int .i64 a.code, .slice Aa1 a.pairs.length ca1] a oa_ sa_]) (hk0 : 0 ≤ k) (hk1 : k + (0 + (a.pairs.map cntE_Pair).sum) ≤ 1152921504606846976) : Calls Tryz.prog 13 #[.agg #[.int .i64 a.code, .slice Aa1 a.pairs.length ca1], .int .i64 k] w (TurnO kPairsResultO [.int .i64 a.code, .slice Aa1 a.pairs.length ca1] (.int .i64 (k + (a.pairs.map cntE_Pair).sum)) w oa_ (mkV_PairsResult k a) (sa_)) := by
  have zn0 := sum_nn cntE_Pair_nn a.pairs
  refine fnc (X := X6 10 (nul w)) (args := [.agg #[.int .i64 a.code, .slice Aa1 a.pairs.length ca1], .int .i64 k]) (l := [(0, .agg #[.int .i64 a.code, .slice Aa1 a.pairs.length ca1]), (1, .int .i64 k)]) (G := [frm w oa_, dat kPairsResultO [.int .i64 a.code, .slice Aa1 a.pairs.length ca1] a oa_ sa_]) Tryz.func13 rfl rfl rfl ⟨rfl, rfl, trivial⟩ (⟨hst.fr oa_ (by simp [owns, dat, ptr]), trivial⟩ : _ ∧ True).1 ?_
  refine f1 (gsp (da := (Kd.via Kd.i64 PairsResult.code)) rfl rfl (fun o1 o2 s3 s4 us3 us4 => ?_))
  refine gv (f1 (gv ?_))
  refine sq (rg (bx rfl rfl rfl rfl ?_))
  intro b5
  refine a_ rfl rfl (en (nx (sq (rg (vl (fa rfl rfl rfl) rfl (vl (ldb (u := .slice Aa1 a.pairs.length ca1) 0 rfl rfl rfl rfl rfl rfl rfl) rfl (m_ rfl rfl (f1 (cto (dk := (Kd.row 60 kPairO)) (cs := [.slice Aa1 a.pairs.length ca1]) (x := (mkL mkE_Pair cntE_Pair k a.pairs)) (v := .int .i64 (k + (a.pairs.map cntE_Pair).sum)) (S := (s4)) (by kernel_rfl) rfl rfl rfl (snt 0 rfl) w.heap.size (fun w_ hs_ => (hs_.mod 3 rfl).size) (fun w_ hs_ => laws_markPairS w_ _ ((hs_.pk [0] rfl).nl) (by omega) (by omega)) (fun o6 s7 t8 => ?_))))))))))
  exact a_ rfl rfl (en (nx (sq (rg (m_ rfl rfl (a_ rfl rfl (en (nx (rt (gs Kd.i64 [.int .i64 a.code] ((mkV_PairsResult k a).code) (fun _ => ⟨rfl, rfl, rfl⟩) (gj (da := (Kd.via Kd.i64 PairsResult.code)) (db := (Kd.via (Kd.row 60 kPairO) PairsResult.pairs)) (x := (mkV_PairsResult k a)) (cs := [.int .i64 a.code, .slice Aa1 a.pairs.length ca1]) rfl (ret1 rfl rfl (fun w_ hs_ => turno hs_ 2 rfl (by exact vi (by omega)) (see_app see_nil (by grind)))))))))))))))
/-! laws.heldPairsResult -/
set_option maxRecDepth 20000 in
set_option maxHeartbeats 2000000 in
theorem laws_heldPairsResult (w : World) (k : Int) {Aa1 : Option Addr} {na1 ca1 : Nat} {a : PairsResult} {sa_ : List Nat} (ha : kPairsResultS.Rel w [.int .i64 ((mkV_PairsResult k a).code), .slice Aa1 na1 ca1] (mkV_PairsResult k a) [] sa_) (hk0 : 0 ≤ k) (hk1 : k + (0 + (a.pairs.map cntE_Pair).sum) ≤ 1152921504606846976) : Calls Tryz.prog 14 #[.agg #[.int .i64 ((mkV_PairsResult k a).code), .slice Aa1 na1 ca1], .int .i64 k] w (fun e_ w2_ => e_ = .returned (.int .i64 (k + (a.pairs.map cntE_Pair).sum)) ∧ Below w.heap.size w w2_) := by
  have zn0 := sum_nn cntE_Pair_nn a.pairs
  refine fnc (X := X6 12 w) (args := [.agg #[.int .i64 ((mkV_PairsResult k a).code), .slice Aa1 na1 ca1], .int .i64 k]) (l := [(0, .agg #[.int .i64 ((mkV_PairsResult k a).code), .slice Aa1 na1 ca1]), (1, .int .i64 k)]) (G := [dat kPairsResultS [.int .i64 ((mkV_PairsResult k a).code), .slice Aa1 na1 ca1] (mkV_PairsResult k a) ([]) sa_]) Tryz.func14 rfl rfl rfl ⟨rfl, rfl, trivial⟩ (s0d ha (s0n w)).1 ?_
  refine sq (rg (bx rfl rfl rfl rfl ?_))
  intro b1
  refine a_ rfl rfl (en (nx (sq (rg (vl (fa rfl rfl rfl) rfl (vl (ldb (u := .slice Aa1 na1 ca1) 0 rfl rfl rfl rfl rfl rfl rfl) rfl (m_ rfl rfl ?_)))))))
  refine gd 1 kPairsResultS_p1_1 rfl (cs' := [.slice Aa1 na1 ca1]) rfl fun s2 w_ rs2 us2 => ?_
  have Ls2 := Kd.sl_len rs2; have Cs2 := Kd.sl_cap rs2
  refine gr (mkL mkE_Pair cntE_Pair k a.pairs) rfl (cs_ (v := .int .i64 (k + (a.pairs.map cntE_Pair).sum)) (by kernel_rfl) rfl rfl rfl (fun w_ hs_ => laws_heldPairS w_ _ (hs_.at 0 rfl) (by omega) (by omega)) (a_ rfl rfl (en (nx (sq (sq (rg (m_ rfl rfl (vl (cm rfl rfl rfl rfl) rfl (en (nx ?_)))))))))))
  by_cases h3 : (k + (a.pairs.map cntE_Pair).sum) < (0 : Int)
  · exfalso; omega
  · refine cf rfl (decide_eq_false h3) (sk (nx (sq (rg (m_ rfl rfl (a_ rfl rfl (en (nx (rt (ret1 rfl rfl (fun w_ hs_ => ⟨?_, hs_.below⟩)))))))))))
    exact ri (by omega)
def mkE_Note (k : Int) (a : Note) : Note := ⟨k, k + 1, k + 1 + 1, ⟨k + 1 + 1 + 1, ⟨k + 1 + 1 + 1 + 1, ⟨mkL mI cI (k + 1 + 1 + 1 + 1 + 1) a.op.pair.rect.low, mkL mI cI (k + 1 + 1 + 1 + 1 + 1 + (a.op.pair.rect.low.length : Int)) a.op.pair.rect.high⟩⟩, ⟨k + 1 + 1 + 1 + 1 + 1 + (a.op.pair.rect.low.length : Int) + (a.op.pair.rect.high.length : Int), ⟨mkL mI cI (k + 1 + 1 + 1 + 1 + 1 + (a.op.pair.rect.low.length : Int) + (a.op.pair.rect.high.length : Int) + 1) a.op.query.rect.low, mkL mI cI (k + 1 + 1 + 1 + 1 + 1 + (a.op.pair.rect.low.length : Int) + (a.op.pair.rect.high.length : Int) + 1 + (a.op.query.rect.low.length : Int)) a.op.query.rect.high⟩, mkL mI cI (k + 1 + 1 + 1 + 1 + 1 + (a.op.pair.rect.low.length : Int) + (a.op.pair.rect.high.length : Int) + 1 + (a.op.query.rect.low.length : Int) + (a.op.query.rect.high.length : Int)) a.op.query.point, k + 1 + 1 + 1 + 1 + 1 + (a.op.pair.rect.low.length : Int) + (a.op.pair.rect.high.length : Int) + 1 + (a.op.query.rect.low.length : Int) + (a.op.query.rect.high.length : Int) + (a.op.query.point.length : Int)⟩⟩, ⟨k + 1 + 1 + 1 + 1 + 1 + (a.op.pair.rect.low.length : Int) + (a.op.pair.rect.high.length : Int) + 1 + (a.op.query.rect.low.length : Int) + (a.op.query.rect.high.length : Int) + (a.op.query.point.length : Int) + 1, mkL mkE_Pair cntE_Pair (k + 1 + 1 + 1 + 1 + 1 + (a.op.pair.rect.low.length : Int) + (a.op.pair.rect.high.length : Int) + 1 + (a.op.query.rect.low.length : Int) + (a.op.query.rect.high.length : Int) + (a.op.query.point.length : Int) + 1 + 1) a.answer.pairs⟩⟩
def cntE_Note (a : Note) : Int := 0 + 1 + 1 + 1 + 1 + 1 + (a.op.pair.rect.low.length : Int) + (a.op.pair.rect.high.length : Int) + 1 + (a.op.query.rect.low.length : Int) + (a.op.query.rect.high.length : Int) + (a.op.query.point.length : Int) + 1 + 1 + (a.answer.pairs.map cntE_Pair).sum
theorem cntE_Note_nn (a : Note) : 0 ≤ cntE_Note a := by
  have := sum_nn cntE_Pair_nn a.answer.pairs
  unfold cntE_Note; omega
/-! laws.markNoteS -/
set_option maxRecDepth 20000 in
set_option maxHeartbeats 2000000 in
theorem laws_markNoteS (w : World) (k : Int) {Aa : Option Addr} {ca : Nat} {a : List Note} {oa_ sa_ : List Nat} (hst : St (nul w) w [dat (Kd.row 67 kNoteO) [.slice Aa a.length ca] a oa_ sa_]) (hk0 : 0 ≤ k) (hk1 : k + (a.map cntE_Note).sum ≤ 1152921504606846976) : Calls Tryz.prog 12 #[.slice Aa a.length ca, .int .i64 k] w (TurnO (Kd.row 67 kNoteO) [.slice Aa a.length ca] (.int .i64 (k + (a.map cntE_Note).sum)) w oa_ (mkL mkE_Note cntE_Note k a) (sa_)) := by
  have La := Kd.row_len (hst.at 0 rfl); have Ca := Kd.row_cap (hst.at 0 rfl)
  refine fnc (X := X6 134 (nul w)) (args := [.slice Aa a.length ca, .int .i64 k]) (l := [(0, .slice Aa a.length ca), (1, .int .i64 k)]) (G := [frm w oa_, dat (Kd.row 67 kNoteO) [.slice Aa a.length ca] a oa_ sa_]) Tryz.func12 rfl rfl rfl ⟨rfl, rfl, trivial⟩ (⟨hst.fr oa_ (by simp [owns, dat, ptr]), trivial⟩ : _ ∧ True).1 ?_
  refine sq (rg (a_ rfl rfl (en (nx (sq (sq (rg (a_ rfl rfl (en (nx (bk ?_)))))))))))
  refine lp (σ := Nat × Int × List Nat × List Nat) (fun z_ : Nat × Int × List Nat × List Nat => match z_ with | (i, v, o_, s_) => [(0, .slice Aa a.length ca), (1, .int .i64 v), (5, .int .i64 ((i : Nat) : Int))])
      (fun z_ : Nat × Int × List Nat × List Nat => match z_ with | (i, v, o_, s_) => [dat (Kd.row 67 kNoteO) [.slice Aa a.length ca] (mkL mkE_Note cntE_Note k (a.take i) ++ a.drop i) o_ s_, frm w oa_])
      (fun z_ : Nat × Int × List Nat × List Nat => match z_ with | (i, v, o_, s_) => i ≤ a.length ∧ v = k + sumTo cntE_Note a i ∧ ∀ q ∈ s_, q ∈ sa_ ∨ w.heap.size ≤ q) (fun z_ : Nat × Int × List Nat × List Nat => match z_ with | (i, v, o_, s_) => a.length - i) (0, k, oa_, sa_) [1, 0] ⟨Nat.zero_le _, by simp [sumTo], fun q h => .inl h⟩ ⟨rfl, rfl, rfl, trivial⟩ rfl ?_
  rintro ⟨i, v, o_, s_⟩ hp_
  obtain ⟨hi, hv, hsee⟩ := hp_; have z0 := sumTo_nn cntE_Note_nn a i; have zt := sumTo_le cntE_Note_nn a i
  refine sq (sq (rg (m_ rfl rfl (m_ rfl rfl (vl (ln rfl rfl rfl) rfl (vl (cm rfl rfl rfl rfl) rfl (en (nx ?_))))))))
  by_cases h1 : ((i : Nat) : Int) < ((a.length : Nat) : Int)
  · obtain ⟨ba, rfl⟩ := Kd.row_pos (hst.at 0 rfl) (by omega)
    refine ct rfl (decide_eq_true h1) (sk (nx (sq (bk (sq (rg (m_ rfl rfl (m_ rfl rfl (m_ rfl rfl (vl (ix i rfl rfl rfl rfl rfl rfl (by omega)) rfl ?_))))))))))
    refine foc i (by rw [List.length_append, mkL_len, List.length_take, List.length_drop]; omega) fun y2 ci_ o3 s4 o5 s6 w_ m7 r8 us4 us6 => ?_
    obtain ⟨A9, c10, A11, c12, A13, c14, A15, c16, A17, c18, A19, c20, rfl⟩ := kNoteO_sh r8
    refine f1 (gsp (da := (Kd.via Kd.i64 Note.at_)) rfl rfl (fun o21 o22 s23 s24 us23 us24 => ?_))
    refine gv (f1 (gsp (da := (Kd.via Kd.i64 Note.kind)) rfl rfl (fun o25 o26 s27 s28 us27 us28 => ?_)))
    refine gv (f1 (gsp (da := (Kd.via Kd.i64 Note.client)) rfl rfl (fun o29 o30 s31 s32 us31 us32 => ?_)))
    refine gv (f1 (gsp (da := (Kd.via kOpO Note.op)) rfl rfl (fun o33 o34 s35 s36 us35 us36 => ?_)))
    refine gv (f1 (gv (f1 (gsp (da := (Kd.via Kd.i64 Op.kind)) rfl rfl (fun o37 o38 s39 s40 us39 us40 => ?_)))))
    refine gv (f1 (gsp (da := (Kd.via kPairO Op.pair)) rfl rfl (fun o41 o42 s43 s44 us43 us44 => ?_)))
    refine gv (f1 (gv (f1 (gsp (da := (Kd.via Kd.i64 Pair.id)) rfl rfl (fun o45 o46 s47 s48 us47 us48 => ?_)))))
    refine gv (f1 (gv (gsp (da := (Kd.via (Kd.row 2 Kd.i64) Rect.low)) rfl rfl (fun o49 o50 s51 s52 us51 us52 => ?_))))
    refine gv (f1 (gv (f3 (gsp (da := (Kd.via Kd.i64 Query.kind)) rfl rfl (fun o53 o54 s55 s56 us55 us56 => ?_)))))
    refine gv (f1 (gsp (da := (Kd.via kRectO Query.rect)) rfl rfl (fun o57 o58 s59 s60 us59 us60 => ?_)))
    refine gv (f1 (gsp (da := (Kd.via (Kd.row 2 Kd.i64) Query.point)) rfl rfl (fun o61 o62 s63 s64 us63 us64 => ?_)))
    refine gv (f1 (gv (f2 (gsp (da := (Kd.via (Kd.row 2 Kd.i64) Rect.low)) rfl rfl (fun o65 o66 s67 s68 us67 us68 => ?_)))))
    refine gv (f1 (gv (f9 (gsp (da := (Kd.via Kd.i64 Answer.code)) rfl rfl (fun o69 o70 s71 s72 us71 us72 => ?_)))))
    refine gv (f1 (gv ?_))
    have zs := sumTo_step (f := cntE_Note) (mk_raw m7); have zl := sumTo_le cntE_Note_nn a (i + 1); have z0 := sumTo_nn cntE_Note_nn a i; have zc : cntE_Note y2 = 0 + 1 + 1 + 1 + 1 + 1 + (y2.op.pair.rect.low.length : Int) + (y2.op.pair.rect.high.length : Int) + 1 + (y2.op.query.rect.low.length : Int) + (y2.op.query.rect.high.length : Int) + (y2.op.query.point.length : Int) + 1 + 1 + (y2.answer.pairs.map cntE_Pair).sum := rfl; have zn0 := sum_nn cntE_Pair_nn y2.answer.pairs
    refine vl (fa rfl rfl rfl) rfl (f14 (sth (off := 0) rfl rfl pa1 rfl rfl rfl rfl rfl (ci' := [.int .i64 v, .int .i64 y2.kind, .int .i64 y2.client, .int .i64 y2.op.kind, .int .i64 y2.op.pair.id, .slice A9 y2.op.pair.rect.low.length c10, .slice A11 y2.op.pair.rect.high.length c12, .int .i64 y2.op.query.kind, .slice A13 y2.op.query.rect.low.length c14, .slice A15 y2.op.query.rect.high.length c16, .slice A17 y2.op.query.point.length c18, .int .i64 y2.op.query.k, .int .i64 y2.answer.code, .slice A19 y2.answer.pairs.length c20]) rfl (en (nx (sq (rg (m_ rfl rfl (vl (ra (c := v + 1) rfl rfl rfl rfl (by omega) (by omega)) rfl (a_ rfl rfl (en (nx (sq (rg (m_ rfl rfl (m_ rfl rfl (m_ rfl rfl (vl (ix i rfl rfl rfl rfl rfl rfl (by omega)) rfl (vl (fa rfl rfl rfl) rfl (sth (off := 1) rfl rfl pa1 rfl rfl rfl rfl rfl (ci' := [.int .i64 v, .int .i64 (v + 1), .int .i64 y2.client, .int .i64 y2.op.kind, .int .i64 y2.op.pair.id, .slice A9 y2.op.pair.rect.low.length c10, .slice A11 y2.op.pair.rect.high.length c12, .int .i64 y2.op.query.kind, .slice A13 y2.op.query.rect.low.length c14, .slice A15 y2.op.query.rect.high.length c16, .slice A17 y2.op.query.point.length c18, .int .i64 y2.op.query.k, .int .i64 y2.answer.code, .slice A19 y2.answer.pairs.length c20]) rfl (en (nx (sq (rg (m_ rfl rfl (vl (ra (c := v + 1 + 1) rfl rfl rfl rfl (by omega) (by omega)) rfl (a_ rfl rfl (en (nx (sq (rg (m_ rfl rfl (m_ rfl rfl (m_ rfl rfl (vl (ix i rfl rfl rfl rfl rfl rfl (by omega)) rfl (vl (fa rfl rfl rfl) rfl (sth (off := 2) rfl rfl pa1 rfl rfl rfl rfl rfl (ci' := [.int .i64 v, .int .i64 (v + 1), .int .i64 (v + 1 + 1), .int .i64 y2.op.kind, .int .i64 y2.op.pair.id, .slice A9 y2.op.pair.rect.low.length c10, .slice A11 y2.op.pair.rect.high.length c12, .int .i64 y2.op.query.kind, .slice A13 y2.op.query.rect.low.length c14, .slice A15 y2.op.query.rect.high.length c16, .slice A17 y2.op.query.point.length c18, .int .i64 y2.op.query.k, .int .i64 y2.answer.code, .slice A19 y2.answer.pairs.length c20]) rfl (en (nx (sq (rg (m_ rfl rfl (vl (ra (c := v + 1 + 1 + 1) rfl rfl rfl rfl (by omega) (by omega)) rfl (a_ rfl rfl (en (nx (sq (rg (m_ rfl rfl (m_ rfl rfl (m_ rfl rfl (vl (ix i rfl rfl rfl rfl rfl rfl (by omega)) rfl (vl (fa rfl rfl rfl) rfl (vl (fb rfl rfl rfl) rfl (sth (off := 3) rfl rfl pa1 rfl rfl rfl rfl rfl (ci' := [.int .i64 v, .int .i64 (v + 1), .int .i64 (v + 1 + 1), .int .i64 (v + 1 + 1 + 1), .int .i64 y2.op.pair.id, .slice A9 y2.op.pair.rect.low.length c10, .slice A11 y2.op.pair.rect.high.length c12, .int .i64 y2.op.query.kind, .slice A13 y2.op.query.rect.low.length c14, .slice A15 y2.op.query.rect.high.length c16, .slice A17 y2.op.query.point.length c18, .int .i64 y2.op.query.k, .int .i64 y2.answer.code, .slice A19 y2.answer.pairs.length c20]) rfl (en (nx (sq (rg (m_ rfl rfl (vl (ra (c := v + 1 + 1 + 1 + 1) rfl rfl rfl rfl (by omega) (by omega)) rfl (a_ rfl rfl (en (nx (sq (rg (m_ rfl rfl (m_ rfl rfl (m_ rfl rfl (vl (ix i rfl rfl rfl rfl rfl rfl (by omega)) rfl (vl (fa rfl rfl rfl) rfl (vl (fb rfl rfl rfl) rfl (vl (fb rfl rfl rfl) rfl (sth (off := 4) rfl rfl pa1 rfl rfl rfl rfl rfl (ci' := [.int .i64 v, .int .i64 (v + 1), .int .i64 (v + 1 + 1), .int .i64 (v + 1 + 1 + 1), .int .i64 (v + 1 + 1 + 1 + 1), .slice A9 y2.op.pair.rect.low.length c10, .slice A11 y2.op.pair.rect.high.length c12, .int .i64 y2.op.query.kind, .slice A13 y2.op.query.rect.low.length c14, .slice A15 y2.op.query.rect.high.length c16, .slice A17 y2.op.query.point.length c18, .int .i64 y2.op.query.k, .int .i64 y2.answer.code, .slice A19 y2.answer.pairs.length c20]) rfl (en (nx (sq (rg (m_ rfl rfl (vl (ra (c := v + 1 + 1 + 1 + 1 + 1) rfl rfl rfl rfl (by omega) (by omega)) rfl (a_ rfl rfl (en (nx (sq (rg (m_ rfl rfl (m_ rfl rfl (vl (ix i rfl rfl rfl rfl rfl rfl (by omega)) rfl (vl (fa rfl rfl rfl) rfl (vl (fb rfl rfl rfl) rfl (vl (fb rfl rfl rfl) rfl (vl (fb rfl rfl rfl) rfl (vl (ldh (u := .slice A9 y2.op.pair.rect.low.length c10) 0 (off := 5) rfl rfl rfl rfl pa1 rfl rfl rfl) rfl (m_ rfl rfl (f9 (cto (dk := (Kd.row 2 Kd.i64)) (cs := [.slice A9 y2.op.pair.rect.low.length c10]) (x := (mkL mI cI (v + 1 + 1 + 1 + 1 + 1) y2.op.pair.rect.low)) (v := .int .i64 (v + 1 + 1 + 1 + 1 + 1 + ((y2.op.pair.rect.low.length : Nat) : Int))) (S := (s51)) (by kernel_rfl) rfl rfl rfl (snt 0 rfl) w.heap.size (fun w_ hs_ => (hs_.mod 15 rfl).size) (fun w_ hs_ => laws_markInt64S w_ _ ((hs_.pk [0] rfl).nl) (by omega) (by omega)) (fun o73 s74 t75 => ?_))))))))))))))))))))))))))))))))))))))))))))))))))))))))))))))))))))))))))))))))))))))))))))))))
    refine a_ rfl rfl (en (nx (sq (rg (m_ rfl rfl (m_ rfl rfl (vl (ix i rfl rfl rfl rfl rfl rfl (by omega)) rfl (vl (fa rfl rfl rfl) rfl (vl (fb rfl rfl rfl) rfl (vl (fb rfl rfl rfl) rfl (vl (fb rfl rfl rfl) rfl (vl (ldh (u := .slice A11 y2.op.pair.rect.high.length c12) 1 (off := 6) rfl rfl rfl rfl pa1 rfl rfl rfl) rfl (m_ rfl rfl (f9 (cto (dk := (Kd.row 2 Kd.i64)) (cs := [.slice A11 y2.op.pair.rect.high.length c12]) (x := (mkL mI cI (v + 1 + 1 + 1 + 1 + 1 + ((y2.op.pair.rect.low.length : Nat) : Int)) y2.op.pair.rect.high)) (v := .int .i64 ((v + 1 + 1 + 1 + 1 + 1 + ((y2.op.pair.rect.low.length : Nat) : Int)) + ((y2.op.pair.rect.high.length : Nat) : Int))) (S := (s52)) (by kernel_rfl) rfl rfl rfl (snt 0 rfl) w.heap.size (fun w_ hs_ => (hs_.mod 15 rfl).size) (fun w_ hs_ => laws_markInt64S w_ _ ((hs_.pk [0] rfl).nl) (by omega) (by omega)) (fun o76 s77 t78 => ?_))))))))))))))))
    refine a_ rfl rfl (en (nx (sq (rg (m_ rfl rfl (m_ rfl rfl (m_ rfl rfl (vl (ix i rfl rfl rfl rfl rfl rfl (by omega)) rfl (vl (fa rfl rfl rfl) rfl (vl (fb rfl rfl rfl) rfl (vl (fb rfl rfl rfl) rfl (f2 (sth (off := 7) rfl rfl pa1 rfl rfl rfl rfl rfl (ci' := [.int .i64 v, .int .i64 (v + 1), .int .i64 (v + 1 + 1), .int .i64 (v + 1 + 1 + 1), .int .i64 (v + 1 + 1 + 1 + 1), .slice A9 y2.op.pair.rect.low.length c10, .slice A11 y2.op.pair.rect.high.length c12, .int .i64 ((v + 1 + 1 + 1 + 1 + 1 + ((y2.op.pair.rect.low.length : Nat) : Int)) + ((y2.op.pair.rect.high.length : Nat) : Int)), .slice A13 y2.op.query.rect.low.length c14, .slice A15 y2.op.query.rect.high.length c16, .slice A17 y2.op.query.point.length c18, .int .i64 y2.op.query.k, .int .i64 y2.answer.code, .slice A19 y2.answer.pairs.length c20]) rfl (en (nx (sq (rg (m_ rfl rfl (vl (ra (c := ((v + 1 + 1 + 1 + 1 + 1 + ((y2.op.pair.rect.low.length : Nat) : Int)) + ((y2.op.pair.rect.high.length : Nat) : Int)) + 1) rfl rfl rfl rfl (by omega) (by omega)) rfl (a_ rfl rfl (en (nx (sq (rg (m_ rfl rfl (m_ rfl rfl (vl (ix i rfl rfl rfl rfl rfl rfl (by omega)) rfl (vl (fa rfl rfl rfl) rfl (vl (fb rfl rfl rfl) rfl (vl (fb rfl rfl rfl) rfl (vl (fb rfl rfl rfl) rfl (vl (ldh (u := .slice A13 y2.op.query.rect.low.length c14) 0 (off := 8) rfl rfl rfl rfl pa1 rfl rfl rfl) rfl (m_ rfl rfl (f6 (cto (dk := (Kd.row 2 Kd.i64)) (cs := [.slice A13 y2.op.query.rect.low.length c14]) (x := (mkL mI cI (((v + 1 + 1 + 1 + 1 + 1 + ((y2.op.pair.rect.low.length : Nat) : Int)) + ((y2.op.pair.rect.high.length : Nat) : Int)) + 1) y2.op.query.rect.low)) (v := .int .i64 (((v + 1 + 1 + 1 + 1 + 1 + ((y2.op.pair.rect.low.length : Nat) : Int)) + ((y2.op.pair.rect.high.length : Nat) : Int)) + 1 + ((y2.op.query.rect.low.length : Nat) : Int))) (S := (s67)) (by kernel_rfl) rfl rfl rfl (snt 0 rfl) w.heap.size (fun w_ hs_ => (hs_.mod 15 rfl).size) (fun w_ hs_ => laws_markInt64S w_ _ ((hs_.pk [0] rfl).nl) (by omega) (by omega)) (fun o79 s80 t81 => ?_))))))))))))))))))))))))))))))))))))
    refine a_ rfl rfl (en (nx (sq (rg (m_ rfl rfl (m_ rfl rfl (vl (ix i rfl rfl rfl rfl rfl rfl (by omega)) rfl (vl (fa rfl rfl rfl) rfl (vl (fb rfl rfl rfl) rfl (vl (fb rfl rfl rfl) rfl (vl (fb rfl rfl rfl) rfl (vl (ldh (u := .slice A15 y2.op.query.rect.high.length c16) 1 (off := 9) rfl rfl rfl rfl pa1 rfl rfl rfl) rfl (m_ rfl rfl (f6 (cto (dk := (Kd.row 2 Kd.i64)) (cs := [.slice A15 y2.op.query.rect.high.length c16]) (x := (mkL mI cI (((v + 1 + 1 + 1 + 1 + 1 + ((y2.op.pair.rect.low.length : Nat) : Int)) + ((y2.op.pair.rect.high.length : Nat) : Int)) + 1 + ((y2.op.query.rect.low.length : Nat) : Int)) y2.op.query.rect.high)) (v := .int .i64 ((((v + 1 + 1 + 1 + 1 + 1 + ((y2.op.pair.rect.low.length : Nat) : Int)) + ((y2.op.pair.rect.high.length : Nat) : Int)) + 1 + ((y2.op.query.rect.low.length : Nat) : Int)) + ((y2.op.query.rect.high.length : Nat) : Int))) (S := (s68)) (by kernel_rfl) rfl rfl rfl (snt 0 rfl) w.heap.size (fun w_ hs_ => (hs_.mod 15 rfl).size) (fun w_ hs_ => laws_markInt64S w_ _ ((hs_.pk [0] rfl).nl) (by omega) (by omega)) (fun o82 s83 t84 => ?_))))))))))))))))
    refine a_ rfl rfl (en (nx (sq (rg (m_ rfl rfl (m_ rfl rfl (vl (ix i rfl rfl rfl rfl rfl rfl (by omega)) rfl (vl (fa rfl rfl rfl) rfl (vl (fb rfl rfl rfl) rfl (vl (fb rfl rfl rfl) rfl (vl (ldh (u := .slice A17 y2.op.query.point.length c18) 2 (off := 10) rfl rfl rfl rfl pa1 rfl rfl rfl) rfl (m_ rfl rfl (f8 (cto (dk := (Kd.row 2 Kd.i64)) (cs := [.slice A17 y2.op.query.point.length c18]) (x := (mkL mI cI ((((v + 1 + 1 + 1 + 1 + 1 + ((y2.op.pair.rect.low.length : Nat) : Int)) + ((y2.op.pair.rect.high.length : Nat) : Int)) + 1 + ((y2.op.query.rect.low.length : Nat) : Int)) + ((y2.op.query.rect.high.length : Nat) : Int)) y2.op.query.point)) (v := .int .i64 (((((v + 1 + 1 + 1 + 1 + 1 + ((y2.op.pair.rect.low.length : Nat) : Int)) + ((y2.op.pair.rect.high.length : Nat) : Int)) + 1 + ((y2.op.query.rect.low.length : Nat) : Int)) + ((y2.op.query.rect.high.length : Nat) : Int)) + ((y2.op.query.point.length : Nat) : Int))) (S := (s63)) (by kernel_rfl) rfl rfl rfl (snt 0 rfl) w.heap.size (fun w_ hs_ => (hs_.mod 15 rfl).size) (fun w_ hs_ => laws_markInt64S w_ _ ((hs_.pk [0] rfl).nl) (by omega) (by omega)) (fun o85 s86 t87 => ?_)))))))))))))))
    refine a_ rfl rfl (en (nx (sq (rg (m_ rfl rfl (m_ rfl rfl (m_ rfl rfl (vl (ix i rfl rfl rfl rfl rfl rfl (by omega)) rfl (vl (fa rfl rfl rfl) rfl (vl (fb rfl rfl rfl) rfl (vl (fb rfl rfl rfl) rfl (f3 (sth (off := 11) rfl rfl pa1 rfl rfl rfl rfl rfl (ci' := [.int .i64 v, .int .i64 (v + 1), .int .i64 (v + 1 + 1), .int .i64 (v + 1 + 1 + 1), .int .i64 (v + 1 + 1 + 1 + 1), .slice A9 y2.op.pair.rect.low.length c10, .slice A11 y2.op.pair.rect.high.length c12, .int .i64 ((v + 1 + 1 + 1 + 1 + 1 + ((y2.op.pair.rect.low.length : Nat) : Int)) + ((y2.op.pair.rect.high.length : Nat) : Int)), .slice A13 y2.op.query.rect.low.length c14, .slice A15 y2.op.query.rect.high.length c16, .slice A17 y2.op.query.point.length c18, .int .i64 (((((v + 1 + 1 + 1 + 1 + 1 + ((y2.op.pair.rect.low.length : Nat) : Int)) + ((y2.op.pair.rect.high.length : Nat) : Int)) + 1 + ((y2.op.query.rect.low.length : Nat) : Int)) + ((y2.op.query.rect.high.length : Nat) : Int)) + ((y2.op.query.point.length : Nat) : Int)), .int .i64 y2.answer.code, .slice A19 y2.answer.pairs.length c20]) rfl (en (nx (sq (rg (m_ rfl rfl (vl (ra (c := (((((v + 1 + 1 + 1 + 1 + 1 + ((y2.op.pair.rect.low.length : Nat) : Int)) + ((y2.op.pair.rect.high.length : Nat) : Int)) + 1 + ((y2.op.query.rect.low.length : Nat) : Int)) + ((y2.op.query.rect.high.length : Nat) : Int)) + ((y2.op.query.point.length : Nat) : Int)) + 1) rfl rfl rfl rfl (by omega) (by omega)) rfl (a_ rfl rfl (en (nx (sq (rg (m_ rfl rfl (m_ rfl rfl (m_ rfl rfl (vl (ix i rfl rfl rfl rfl rfl rfl (by omega)) rfl (vl (fa rfl rfl rfl) rfl (vl (fb rfl rfl rfl) rfl (sth (off := 12) rfl rfl pa1 rfl rfl rfl rfl rfl (ci' := [.int .i64 v, .int .i64 (v + 1), .int .i64 (v + 1 + 1), .int .i64 (v + 1 + 1 + 1), .int .i64 (v + 1 + 1 + 1 + 1), .slice A9 y2.op.pair.rect.low.length c10, .slice A11 y2.op.pair.rect.high.length c12, .int .i64 ((v + 1 + 1 + 1 + 1 + 1 + ((y2.op.pair.rect.low.length : Nat) : Int)) + ((y2.op.pair.rect.high.length : Nat) : Int)), .slice A13 y2.op.query.rect.low.length c14, .slice A15 y2.op.query.rect.high.length c16, .slice A17 y2.op.query.point.length c18, .int .i64 (((((v + 1 + 1 + 1 + 1 + 1 + ((y2.op.pair.rect.low.length : Nat) : Int)) + ((y2.op.pair.rect.high.length : Nat) : Int)) + 1 + ((y2.op.query.rect.low.length : Nat) : Int)) + ((y2.op.query.rect.high.length : Nat) : Int)) + ((y2.op.query.point.length : Nat) : Int)), .int .i64 ((((((v + 1 + 1 + 1 + 1 + 1 + ((y2.op.pair.rect.low.length : Nat) : Int)) + ((y2.op.pair.rect.high.length : Nat) : Int)) + 1 + ((y2.op.query.rect.low.length : Nat) : Int)) + ((y2.op.query.rect.high.length : Nat) : Int)) + ((y2.op.query.point.length : Nat) : Int)) + 1), .slice A19 y2.answer.pairs.length c20]) rfl (en (nx (sq (rg (m_ rfl rfl (vl (ra (c := (((((v + 1 + 1 + 1 + 1 + 1 + ((y2.op.pair.rect.low.length : Nat) : Int)) + ((y2.op.pair.rect.high.length : Nat) : Int)) + 1 + ((y2.op.query.rect.low.length : Nat) : Int)) + ((y2.op.query.rect.high.length : Nat) : Int)) + ((y2.op.query.point.length : Nat) : Int)) + 1 + 1) rfl rfl rfl rfl (by omega) (by omega)) rfl (a_ rfl rfl (en (nx (rg (m_ rfl rfl (m_ rfl rfl (vl (ix i rfl rfl rfl rfl rfl rfl (by omega)) rfl (vl (fa rfl rfl rfl) rfl (vl (fb rfl rfl rfl) rfl (vl (ldh (u := .slice A19 y2.answer.pairs.length c20) 0 (off := 13) rfl rfl rfl rfl pa1 rfl rfl rfl) rfl (m_ rfl rfl (f6 (cto (dk := (Kd.row 60 kPairO)) (cs := [.slice A19 y2.answer.pairs.length c20]) (x := (mkL mkE_Pair cntE_Pair ((((((v + 1 + 1 + 1 + 1 + 1 + ((y2.op.pair.rect.low.length : Nat) : Int)) + ((y2.op.pair.rect.high.length : Nat) : Int)) + 1 + ((y2.op.query.rect.low.length : Nat) : Int)) + ((y2.op.query.rect.high.length : Nat) : Int)) + ((y2.op.query.point.length : Nat) : Int)) + 1 + 1) y2.answer.pairs)) (v := .int .i64 ((((((v + 1 + 1 + 1 + 1 + 1 + ((y2.op.pair.rect.low.length : Nat) : Int)) + ((y2.op.pair.rect.high.length : Nat) : Int)) + 1 + ((y2.op.query.rect.low.length : Nat) : Int)) + ((y2.op.query.rect.high.length : Nat) : Int)) + ((y2.op.query.point.length : Nat) : Int)) + 1 + 1 + (y2.answer.pairs.map cntE_Pair).sum)) (S := (s72)) (by kernel_rfl) rfl rfl rfl (snt 0 rfl) w.heap.size (fun w_ hs_ => (hs_.mod 15 rfl).size) (fun w_ hs_ => laws_markPairS w_ _ ((hs_.pk [0] rfl).nl) (by omega) (by omega)) (fun o88 s89 t90 => ?_)))))))))))))))))))))))))))))))))))))))))))))))))))
    refine a_ rfl rfl (en (xn (nx (rg (m_ rfl rfl (vl (ra (c := ((i + 1 : Nat) : Int)) rfl rfl rfl (by omega) (by omega) (by omega)) rfl (a_ rfl rfl (en (gs Kd.i64 [.int .i64 ((((((v + 1 + 1 + 1 + 1 + 1 + ((y2.op.pair.rect.low.length : Nat) : Int)) + ((y2.op.pair.rect.high.length : Nat) : Int)) + 1 + ((y2.op.query.rect.low.length : Nat) : Int)) + ((y2.op.query.rect.high.length : Nat) : Int)) + ((y2.op.query.point.length : Nat) : Int)) + 1)] (((mkE_Note v y2).answer).code) (fun _ => ⟨rfl, rfl, rfl⟩) (gj (da := (Kd.via Kd.i64 Answer.code)) (db := (Kd.via (Kd.row 60 kPairO) Answer.pairs)) (x := ((mkE_Note v y2).answer)) (cs := [.int .i64 ((((((v + 1 + 1 + 1 + 1 + 1 + ((y2.op.pair.rect.low.length : Nat) : Int)) + ((y2.op.pair.rect.high.length : Nat) : Int)) + 1 + ((y2.op.query.rect.low.length : Nat) : Int)) + ((y2.op.query.rect.high.length : Nat) : Int)) + ((y2.op.query.point.length : Nat) : Int)) + 1), .slice A19 y2.answer.pairs.length c20]) rfl (gs Kd.i64 [.int .i64 (((((v + 1 + 1 + 1 + 1 + 1 + ((y2.op.pair.rect.low.length : Nat) : Int)) + ((y2.op.pair.rect.high.length : Nat) : Int)) + 1 + ((y2.op.query.rect.low.length : Nat) : Int)) + ((y2.op.query.rect.high.length : Nat) : Int)) + ((y2.op.query.point.length : Nat) : Int))] ((((mkE_Note v y2).op).query).k) (fun _ => ⟨rfl, rfl, rfl⟩) (f3 (gj (da := (Kd.via (Kd.row 2 Kd.i64) Query.point)) (db := (Kd.via Kd.i64 Query.k)) (x := (((mkE_Note v y2).op).query)) (cs := [.slice A17 y2.op.query.point.length c18, .int .i64 (((((v + 1 + 1 + 1 + 1 + 1 + ((y2.op.pair.rect.low.length : Nat) : Int)) + ((y2.op.pair.rect.high.length : Nat) : Int)) + 1 + ((y2.op.query.rect.low.length : Nat) : Int)) + ((y2.op.query.rect.high.length : Nat) : Int)) + ((y2.op.query.point.length : Nat) : Int))]) rfl (f3 (f4 (gj (da := (Kd.via (Kd.row 2 Kd.i64) Rect.low)) (db := (Kd.via (Kd.row 2 Kd.i64) Rect.high)) (x := ((((mkE_Note v y2).op).query).rect)) (cs := [.slice A13 y2.op.query.rect.low.length c14, .slice A15 y2.op.query.rect.high.length c16]) rfl (gj (da := (Kd.via kRectO Query.rect)) (db := ((Kd.via (Kd.row 2 Kd.i64) Query.point).cat (Kd.via Kd.i64 Query.k))) (x := (((mkE_Note v y2).op).query)) (cs := [.slice A13 y2.op.query.rect.low.length c14, .slice A15 y2.op.query.rect.high.length c16, .slice A17 y2.op.query.point.length c18, .int .i64 (((((v + 1 + 1 + 1 + 1 + 1 + ((y2.op.pair.rect.low.length : Nat) : Int)) + ((y2.op.pair.rect.high.length : Nat) : Int)) + 1 + ((y2.op.query.rect.low.length : Nat) : Int)) + ((y2.op.query.rect.high.length : Nat) : Int)) + ((y2.op.query.point.length : Nat) : Int))]) rfl (gs Kd.i64 [.int .i64 ((v + 1 + 1 + 1 + 1 + 1 + ((y2.op.pair.rect.low.length : Nat) : Int)) + ((y2.op.pair.rect.high.length : Nat) : Int))] ((((mkE_Note v y2).op).query).kind) (fun _ => ⟨rfl, rfl, rfl⟩) (gj (da := (Kd.via Kd.i64 Query.kind)) (db := ((Kd.via kRectO Query.rect).cat ((Kd.via (Kd.row 2 Kd.i64) Query.point).cat (Kd.via Kd.i64 Query.k)))) (x := (((mkE_Note v y2).op).query)) (cs := [.int .i64 ((v + 1 + 1 + 1 + 1 + 1 + ((y2.op.pair.rect.low.length : Nat) : Int)) + ((y2.op.pair.rect.high.length : Nat) : Int)), .slice A13 y2.op.query.rect.low.length c14, .slice A15 y2.op.query.rect.high.length c16, .slice A17 y2.op.query.point.length c18, .int .i64 (((((v + 1 + 1 + 1 + 1 + 1 + ((y2.op.pair.rect.low.length : Nat) : Int)) + ((y2.op.pair.rect.high.length : Nat) : Int)) + 1 + ((y2.op.query.rect.low.length : Nat) : Int)) + ((y2.op.query.rect.high.length : Nat) : Int)) + ((y2.op.query.point.length : Nat) : Int))]) rfl (f3 (f4 (gj (da := (Kd.via (Kd.row 2 Kd.i64) Rect.low)) (db := (Kd.via (Kd.row 2 Kd.i64) Rect.high)) (x := ((((mkE_Note v y2).op).pair).rect)) (cs := [.slice A9 y2.op.pair.rect.low.length c10, .slice A11 y2.op.pair.rect.high.length c12]) rfl (gs Kd.i64 [.int .i64 (v + 1 + 1 + 1 + 1)] ((((mkE_Note v y2).op).pair).id) (fun _ => ⟨rfl, rfl, rfl⟩) (gj (da := (Kd.via Kd.i64 Pair.id)) (db := (Kd.via kRectO Pair.rect)) (x := (((mkE_Note v y2).op).pair)) (cs := [.int .i64 (v + 1 + 1 + 1 + 1), .slice A9 y2.op.pair.rect.low.length c10, .slice A11 y2.op.pair.rect.high.length c12]) rfl (gj (da := (Kd.via kPairO Op.pair)) (db := (Kd.via kQueryO Op.query)) (x := ((mkE_Note v y2).op)) (cs := [.int .i64 (v + 1 + 1 + 1 + 1), .slice A9 y2.op.pair.rect.low.length c10, .slice A11 y2.op.pair.rect.high.length c12, .int .i64 ((v + 1 + 1 + 1 + 1 + 1 + ((y2.op.pair.rect.low.length : Nat) : Int)) + ((y2.op.pair.rect.high.length : Nat) : Int)), .slice A13 y2.op.query.rect.low.length c14, .slice A15 y2.op.query.rect.high.length c16, .slice A17 y2.op.query.point.length c18, .int .i64 (((((v + 1 + 1 + 1 + 1 + 1 + ((y2.op.pair.rect.low.length : Nat) : Int)) + ((y2.op.pair.rect.high.length : Nat) : Int)) + 1 + ((y2.op.query.rect.low.length : Nat) : Int)) + ((y2.op.query.rect.high.length : Nat) : Int)) + ((y2.op.query.point.length : Nat) : Int))]) rfl (gs Kd.i64 [.int .i64 (v + 1 + 1 + 1)] (((mkE_Note v y2).op).kind) (fun _ => ⟨rfl, rfl, rfl⟩) (gj (da := (Kd.via Kd.i64 Op.kind)) (db := ((Kd.via kPairO Op.pair).cat (Kd.via kQueryO Op.query))) (x := ((mkE_Note v y2).op)) (cs := [.int .i64 (v + 1 + 1 + 1), .int .i64 (v + 1 + 1 + 1 + 1), .slice A9 y2.op.pair.rect.low.length c10, .slice A11 y2.op.pair.rect.high.length c12, .int .i64 ((v + 1 + 1 + 1 + 1 + 1 + ((y2.op.pair.rect.low.length : Nat) : Int)) + ((y2.op.pair.rect.high.length : Nat) : Int)), .slice A13 y2.op.query.rect.low.length c14, .slice A15 y2.op.query.rect.high.length c16, .slice A17 y2.op.query.point.length c18, .int .i64 (((((v + 1 + 1 + 1 + 1 + 1 + ((y2.op.pair.rect.low.length : Nat) : Int)) + ((y2.op.pair.rect.high.length : Nat) : Int)) + 1 + ((y2.op.query.rect.low.length : Nat) : Int)) + ((y2.op.query.rect.high.length : Nat) : Int)) + ((y2.op.query.point.length : Nat) : Int))]) rfl (gj (da := (Kd.via kOpO Note.op)) (db := (Kd.via kAnswerO Note.answer)) (x := (mkE_Note v y2)) (cs := [.int .i64 (v + 1 + 1 + 1), .int .i64 (v + 1 + 1 + 1 + 1), .slice A9 y2.op.pair.rect.low.length c10, .slice A11 y2.op.pair.rect.high.length c12, .int .i64 ((v + 1 + 1 + 1 + 1 + 1 + ((y2.op.pair.rect.low.length : Nat) : Int)) + ((y2.op.pair.rect.high.length : Nat) : Int)), .slice A13 y2.op.query.rect.low.length c14, .slice A15 y2.op.query.rect.high.length c16, .slice A17 y2.op.query.point.length c18, .int .i64 (((((v + 1 + 1 + 1 + 1 + 1 + ((y2.op.pair.rect.low.length : Nat) : Int)) + ((y2.op.pair.rect.high.length : Nat) : Int)) + 1 + ((y2.op.query.rect.low.length : Nat) : Int)) + ((y2.op.query.rect.high.length : Nat) : Int)) + ((y2.op.query.point.length : Nat) : Int)), .int .i64 ((((((v + 1 + 1 + 1 + 1 + 1 + ((y2.op.pair.rect.low.length : Nat) : Int)) + ((y2.op.pair.rect.high.length : Nat) : Int)) + 1 + ((y2.op.query.rect.low.length : Nat) : Int)) + ((y2.op.query.rect.high.length : Nat) : Int)) + ((y2.op.query.point.length : Nat) : Int)) + 1), .slice A19 y2.answer.pairs.length c20]) rfl (gs Kd.i64 [.int .i64 (v + 1 + 1)] ((mkE_Note v y2).client) (fun _ => ⟨rfl, rfl, rfl⟩) (gj (da := (Kd.via Kd.i64 Note.client)) (db := ((Kd.via kOpO Note.op).cat (Kd.via kAnswerO Note.answer))) (x := (mkE_Note v y2)) (cs := [.int .i64 (v + 1 + 1), .int .i64 (v + 1 + 1 + 1), .int .i64 (v + 1 + 1 + 1 + 1), .slice A9 y2.op.pair.rect.low.length c10, .slice A11 y2.op.pair.rect.high.length c12, .int .i64 ((v + 1 + 1 + 1 + 1 + 1 + ((y2.op.pair.rect.low.length : Nat) : Int)) + ((y2.op.pair.rect.high.length : Nat) : Int)), .slice A13 y2.op.query.rect.low.length c14, .slice A15 y2.op.query.rect.high.length c16, .slice A17 y2.op.query.point.length c18, .int .i64 (((((v + 1 + 1 + 1 + 1 + 1 + ((y2.op.pair.rect.low.length : Nat) : Int)) + ((y2.op.pair.rect.high.length : Nat) : Int)) + 1 + ((y2.op.query.rect.low.length : Nat) : Int)) + ((y2.op.query.rect.high.length : Nat) : Int)) + ((y2.op.query.point.length : Nat) : Int)), .int .i64 ((((((v + 1 + 1 + 1 + 1 + 1 + ((y2.op.pair.rect.low.length : Nat) : Int)) + ((y2.op.pair.rect.high.length : Nat) : Int)) + 1 + ((y2.op.query.rect.low.length : Nat) : Int)) + ((y2.op.query.rect.high.length : Nat) : Int)) + ((y2.op.query.point.length : Nat) : Int)) + 1), .slice A19 y2.answer.pairs.length c20]) rfl (gs Kd.i64 [.int .i64 (v + 1)] ((mkE_Note v y2).kind) (fun _ => ⟨rfl, rfl, rfl⟩) (gj (da := (Kd.via Kd.i64 Note.kind)) (db := ((Kd.via Kd.i64 Note.client).cat ((Kd.via kOpO Note.op).cat (Kd.via kAnswerO Note.answer)))) (x := (mkE_Note v y2)) (cs := [.int .i64 (v + 1), .int .i64 (v + 1 + 1), .int .i64 (v + 1 + 1 + 1), .int .i64 (v + 1 + 1 + 1 + 1), .slice A9 y2.op.pair.rect.low.length c10, .slice A11 y2.op.pair.rect.high.length c12, .int .i64 ((v + 1 + 1 + 1 + 1 + 1 + ((y2.op.pair.rect.low.length : Nat) : Int)) + ((y2.op.pair.rect.high.length : Nat) : Int)), .slice A13 y2.op.query.rect.low.length c14, .slice A15 y2.op.query.rect.high.length c16, .slice A17 y2.op.query.point.length c18, .int .i64 (((((v + 1 + 1 + 1 + 1 + 1 + ((y2.op.pair.rect.low.length : Nat) : Int)) + ((y2.op.pair.rect.high.length : Nat) : Int)) + 1 + ((y2.op.query.rect.low.length : Nat) : Int)) + ((y2.op.query.rect.high.length : Nat) : Int)) + ((y2.op.query.point.length : Nat) : Int)), .int .i64 ((((((v + 1 + 1 + 1 + 1 + 1 + ((y2.op.pair.rect.low.length : Nat) : Int)) + ((y2.op.pair.rect.high.length : Nat) : Int)) + 1 + ((y2.op.query.rect.low.length : Nat) : Int)) + ((y2.op.query.rect.high.length : Nat) : Int)) + ((y2.op.query.point.length : Nat) : Int)) + 1), .slice A19 y2.answer.pairs.length c20]) rfl (gs Kd.i64 [.int .i64 v] ((mkE_Note v y2).at_) (fun _ => ⟨rfl, rfl, rfl⟩) (gj (da := (Kd.via Kd.i64 Note.at_)) (db := ((Kd.via Kd.i64 Note.kind).cat ((Kd.via Kd.i64 Note.client).cat ((Kd.via kOpO Note.op).cat (Kd.via kAnswerO Note.answer))))) (x := (mkE_Note v y2)) (cs := [.int .i64 v, .int .i64 (v + 1), .int .i64 (v + 1 + 1), .int .i64 (v + 1 + 1 + 1), .int .i64 (v + 1 + 1 + 1 + 1), .slice A9 y2.op.pair.rect.low.length c10, .slice A11 y2.op.pair.rect.high.length c12, .int .i64 ((v + 1 + 1 + 1 + 1 + 1 + ((y2.op.pair.rect.low.length : Nat) : Int)) + ((y2.op.pair.rect.high.length : Nat) : Int)), .slice A13 y2.op.query.rect.low.length c14, .slice A15 y2.op.query.rect.high.length c16, .slice A17 y2.op.query.point.length c18, .int .i64 (((((v + 1 + 1 + 1 + 1 + 1 + ((y2.op.pair.rect.low.length : Nat) : Int)) + ((y2.op.pair.rect.high.length : Nat) : Int)) + 1 + ((y2.op.query.rect.low.length : Nat) : Int)) + ((y2.op.query.rect.high.length : Nat) : Int)) + ((y2.op.query.point.length : Nat) : Int)), .int .i64 ((((((v + 1 + 1 + 1 + 1 + 1 + ((y2.op.pair.rect.low.length : Nat) : Int)) + ((y2.op.pair.rect.high.length : Nat) : Int)) + 1 + ((y2.op.query.rect.low.length : Nat) : Int)) + ((y2.op.query.rect.high.length : Nat) : Int)) + ((y2.op.query.point.length : Nat) : Int)) + 1), .slice A19 y2.answer.pairs.length c20]) rfl (f1 (unf (fun o91 s92 t93 => ?_)))))))))))))))))))))))))))))))))))))
    refine gr (mkL mkE_Note cntE_Note k (a.take (i + 1)) ++ a.drop (i + 1)) (mk_step (mk_raw m7) (by rw [← hv])) ?_
    exact lpe (s := (i, v, o_, s_)) (i + 1, ((((((v + 1 + 1 + 1 + 1 + 1 + ((y2.op.pair.rect.low.length : Nat) : Int)) + ((y2.op.pair.rect.high.length : Nat) : Int)) + 1 + ((y2.op.query.rect.low.length : Nat) : Int)) + ((y2.op.query.rect.high.length : Nat) : Int)) + ((y2.op.query.point.length : Nat) : Int)) + 1 + 1 + (y2.answer.pairs.map cntE_Pair).sum), o91, s92) [0, 8] ⟨by omega, by omega, by grind⟩ (by show a.length - (i + 1) < a.length - i; omega) ⟨rfl, rfl, rfl, trivial⟩ rfl
  · exact cf rfl (decide_eq_false h1) (xt (xq (xq (xb (nx (sq (rg (m_ rfl rfl (a_ rfl rfl (en (nx (rt (gr (mkL mkE_Note cntE_Note k a) (mk_end (by omega)) (ret1 rfl rfl (fun w_ hs_ => turno hs_ 0 rfl (by exact vi (by have z := sumTo_end (f := cntE_Note) (l := a) (k := i) (by omega); omega)) (by grind))))))))))))))))
/-! slices.Clone[[]int64,int64] -/
set_option maxRecDepth 20000 in
set_option maxHeartbeats 2000000 in
theorem slices_Clone_int64_int64 (w : World) {As : Option Addr} {cs : Nat} {s : List Int} {ss_ : List Nat} (hs : (Kd.sl Kd.i64).Rel w [.slice As s.length cs] s [] ss_) (hz : (s.length : Int) ≤ 1048576) : Calls Tryz.prog 129 #[.slice As s.length cs] w (Made (Kd.row 2 Kd.i64) w s []) := by
  have Ls := Kd.sl_len hs; have Cs := Kd.sl_cap hs
  refine fnc (X := X6 8 w) (args := [.slice As s.length cs]) (l := [(0, .slice As s.length cs)]) (G := [dat (Kd.sl Kd.i64) [.slice As s.length cs] s ([]) ss_]) Tryz.func129 rfl rfl rfl ⟨rfl, trivial⟩ (s0d hs (s0n w)).1 ?_
  refine sq (rg (a_ rfl rfl (en (nx (sq (sq (rg (m_ rfl rfl (vl (cmN rfl rfl rfl rfl) rfl (en (nx ?_)))))))))))
  by_cases h1 : As.isNone = true
  · exact ct rfl h1 (sq (rg (a_ rfl rfl (en (nx (rt (xr (gs (Kd.row 2 Kd.i64) [.slice none 0 0] [] (fun _ => .inl ⟨rfl, rfl, rfl, rfl⟩) (gr s (by rw [Option.isNone_iff_eq_none] at h1; subst h1; exact (Kd.sl_nil hs).symm)  (ret1 rfl rfl (fun w_ hs_ => made hs_ rfl (by grind))))))))))))
  · refine cf rfl (Bool.eq_false_iff.2 h1) (sk (nx (sq (rg (bs0 (dk := Kd.i64) rfl info2 rfl rfl ?_)))))
    intro b2
    refine m_ rfl rfl ?_
    refine f1 (f1 (aps0 pure_i64 s rfl info2 rfl rfl (by decide) rfl rfl rfl rfl (by omega) (by omega) rfl (fun A3 c4 o5 s6 t7 => ?_)))
    exact a_ rfl rfl (en (nx (rt (gr s rfl (ret1 rfl rfl (fun w_ hs_ => made hs_ rfl (by grind)))))))
/-! (impl.Rect).cloned -/
set_option maxRecDepth 20000 in
set_option maxHeartbeats 2000000 in
theorem impl_Rect_cloned (w : World) {Ar0 : Option Addr} {cr0 : Nat} {Ar1 : Option Addr} {cr1 : Nat} {r : Rect} {sr_ : List Nat} (hr : kRectS.Rel w [.slice Ar0 r.low.length cr0, .slice Ar1 r.high.length cr1] r [] sr_) (hz : szRect r ≤ 1048576) : Calls Tryz.prog 96 #[.agg #[.slice Ar0 r.low.length cr0, .slice Ar1 r.high.length cr1]] w (Made kRectO w r []) := by
  unfold szRect at hz
  refine fnc (X := X6 10 w) (args := [.agg #[.slice Ar0 r.low.length cr0, .slice Ar1 r.high.length cr1]]) (l := [(0, .agg #[.slice Ar0 r.low.length cr0, .slice Ar1 r.high.length cr1])]) (G := [dat kRectS [.slice Ar0 r.low.length cr0, .slice Ar1 r.high.length cr1] r ([]) sr_]) Tryz.func96 rfl rfl rfl ⟨rfl, trivial⟩ (s0d hr (s0n w)).1 ?_
  refine sq (rg (bx rfl rfl rfl rfl ?_))
  intro b1
  refine al zero58 rfl rfl rfl ?_
  intro b2
  refine en (nx (sq ?_))
  refine gd 2 kRectS_p0_1 rfl (cs' := [.slice Ar0 r.low.length cr0]) rfl fun s3 w_ rs3 us3 => ?_
  have Ls3 := Kd.sl_len rs3; have Cs3 := Kd.sl_cap rs3
  refine gd 3 kRectS_p1_1 rfl (cs' := [.slice Ar1 r.high.length cr1]) rfl fun s6 w_ rs6 us6 => ?_
  have Ls6 := Kd.sl_len rs6; have Cs6 := Kd.sl_cap rs6
  refine rd (Gq := [dat (Kd.sl Kd.i64) [.slice Ar1 r.high.length cr1] r.high ([]) s6, dat (Kd.sl Kd.i64) [.slice Ar0 r.low.length cr0] r.low ([]) s3, blk b1 [.slice Ar0 r.low.length cr0, .slice Ar1 r.high.length cr1] 58, dat kRectS [.slice Ar0 r.low.length cr0, .slice Ar1 r.high.length cr1] r ([]) sr_]) [0, 0, 1, 1] rfl (qv 0 rfl (fa rfl rfl rfl) rfl (by kernel_rfl) (qv 1 rfl (ldb (u := .slice Ar0 r.low.length cr0) 2 rfl rfl rfl rfl rfl rfl rfl) rfl (by kernel_rfl) (qv 3 rfl (fa rfl rfl rfl) rfl (by kernel_rfl) (qv 4 rfl (ldb (u := .slice Ar1 r.high.length cr1) 2 rfl rfl rfl rfl rfl rfl rfl) rfl (by kernel_rfl) (q1 2 [0, 0, 1, 1] rfl (by kernel_rfl) rfl (cm_ (dk := (Kd.row 2 Kd.i64)) (x := r.low) (S := []) (by kernel_rfl) rfl rfl rfl sn0 (fun w_ hs_ => by exact slices_Clone_int64_int64 w_ (hs_.at 1 rfl) (by omega)) (fun cs_ o13 s14 w_ r15 t16 => ?_)))))))
  obtain ⟨A11, c12, rfl⟩ := Kd.row_sh r15
  refine qn (q1 5 [1, 1, 2, 2] rfl (by kernel_rfl) rfl (cm_ (dk := (Kd.row 2 Kd.i64)) (x := r.high) (S := []) (by kernel_rfl) rfl rfl rfl sn0 (fun w_ hs_ => by exact slices_Clone_int64_int64 w_ (hs_.at 1 rfl) (by omega)) (fun cs_ o20 s21 w_ r22 t23 => ?_)))
  obtain ⟨A18, c19, rfl⟩ := Kd.row_sh r22
  exact qn (qv 6 rfl (bd bld58 rfl rfl rfl) rfl (by kernel_rfl) (q1 7 [2, 2, 3, 3] rfl (by kernel_rfl) rfl (f4 (sto rfl rfl rfl rfl rfl rfl rfl (cs' := [.slice A11 r.low.length c12, .slice A18 r.high.length c19]) rfl (qn (qe [3, 3, 3, 3] (by kernel_rfl) rfl (nx (rt (f1 (f2 (gj (da := (Kd.via (Kd.row 2 Kd.i64) Rect.low)) (db := (Kd.via (Kd.row 2 Kd.i64) Rect.high)) (x := r) (cs := [.slice A11 r.low.length c12, .slice A18 r.high.length c19]) rfl (retc 1 rfl rfl rfl rfl rfl rfl (fun w_ hs_ => made hs_ rfl (see_app t16 t23))))))))))))))
/-! impl.clonedPairs -/
set_option maxRecDepth 20000 in
set_option maxHeartbeats 2000000 in
theorem impl_clonedPairs (w : World) {Alist : Option Addr} {clist : Nat} {list : List Pair} {slist_ : List Nat} (hlist : (Kd.sl kPairS).Rel w [.slice Alist list.length clist] list [] slist_) (hz : list.length ≤ 1048576) (hz2 : ∀ p ∈ list, szPair p ≤ 1048576) : Calls Tryz.prog 55 #[.slice Alist list.length clist] w (Made (Kd.row 60 kPairO) w list []) := by
  have Llist := Kd.sl_len hlist; have Clist := Kd.sl_cap hlist
  refine fnc (X := X6 24 w) (args := [.slice Alist list.length clist]) (l := [(0, .slice Alist list.length clist)]) (G := [dat (Kd.sl kPairS) [.slice Alist list.length clist] list ([]) slist_]) Tryz.func55 rfl rfl rfl ⟨rfl, trivial⟩ (s0d hlist (s0n w)).1 ?_
  refine sq (rg (a_ rfl rfl (en (nx (sq (rg (bs0 (dk := kPairO) rfl info60 rfl rfl ?_)))))))
  intro b1
  refine a_ rfl rfl (en (nx (sq (sq (rg (m_ rfl rfl (vl (ln rfl rfl rfl) rfl (m_ rfl rfl (en (nx (bk ?_)))))))))))
  refine lp (σ := Nat × List Pair × Option Addr × Nat × List Nat × List Nat) (fun z_ : Nat × List Pair × Option Addr × Nat × List Nat × List Nat => match z_ with | (k, out, A_, c_, o_, s_) => [(3, .slice A_ out.length c_), (7, .slice Alist list.length clist), (8, .int .i64 ((list.length : Nat) : Int)), (9, .int .i64 ((k : Nat) : Int))])
      (fun z_ : Nat × List Pair × Option Addr × Nat × List Nat × List Nat => match z_ with | (k, out, A_, c_, o_, s_) => [dat (Kd.row 60 kPairO) [.slice A_ out.length c_] out o_ s_, dat (Kd.sl kPairS) [.slice Alist list.length clist] list ([]) slist_])
      (fun z_ : Nat × List Pair × Option Addr × Nat × List Nat × List Nat => match z_ with | (k, out, A_, c_, o_, s_) => k ≤ list.length ∧ (out = list.take k) ∧ (∀ q ∈ s_, w.heap.size ≤ q) ∧ out.length ≤ k) (fun z_ : Nat × List Pair × Option Addr × Nat × List Nat × List Nat => match z_ with | (k, out, A_, c_, o_, s_) => list.length - k) (0, [], (some ⟨b1, 0, none⟩), 0, [b1], []) [0, 0] ⟨Nat.zero_le _, by simp, by simp, by simp⟩ ⟨rfl, rfl, rfl, rfl, trivial⟩ rfl ?_
  rintro ⟨k, out, A_, c_, o_, s_⟩ hp_
  obtain ⟨hk, hinv, hsee, hlen⟩ := hp_
  refine sq (rg (vl (cm rfl rfl rfl rfl) rfl (en (nx (sq ?_)))))
  by_cases h2 : ((k : Nat) : Int) < ((list.length : Nat) : Int)
  · refine ct rfl (decide_eq_true h2) (sk (nx (sq (bk (sq (rg ?_))))))
    refine gx 1 k rfl (by omega) fun y8 p3 cs_ s4 w7 m9 e5 r6 us4 => ?_
    obtain ⟨A10, c11, A12, c13, rfl⟩ := kPairS_sh r6
    refine vl (ix k e5 rfl rfl rfl rfl rfl (by omega)) rfl (vl (ldq 0 rfl rfl rfl rfl rfl rfl rfl) rfl (al zero60 rfl rfl rfl ?_))
    intro b14
    refine sto rfl rfl rfl rfl rfl rfl rfl (cs' := [.int .i64 y8.id, .slice A10 y8.rect.low.length c11, .slice A12 y8.rect.high.length c13]) rfl (en (nx ?_))
    refine gp 1 kPairS_p1_2 rfl (cs' := [.slice A10 y8.rect.low.length c11, .slice A12 y8.rect.high.length c13]) rfl fun s15 w_ rs15 us15 => ?_
    refine rd (Gq := [dat kRectS [.slice A10 y8.rect.low.length c11, .slice A12 y8.rect.high.length c13] y8.rect ([]) s15, blk b14 [.int .i64 y8.id, .slice A10 y8.rect.low.length c11, .slice A12 y8.rect.high.length c13] 60, ptr kPairS p3 [.int .i64 y8.id, .slice A10 y8.rect.low.length c11, .slice A12 y8.rect.high.length c13] y8 s4, dat (Kd.sl kPairS) [.slice Alist list.length clist] list ([]) slist_]) [0, 0, 0, 1] rfl (qv 0 rfl (mv rfl rfl) rfl (by kernel_rfl) (qv 1 rfl (fa rfl rfl rfl) rfl (by kernel_rfl) (qv 2 rfl (ldb (u := .int .i64 y8.id) 1 rfl rfl rfl rfl rfl rfl rfl) rfl (by kernel_rfl) (qv 3 rfl (fa rfl rfl rfl) rfl (by kernel_rfl) (qv 4 rfl (ldb 1 rfl rfl rfl rfl rfl rfl rfl) rfl (by kernel_rfl) (q1 5 [0, 0, 0, 1] rfl (by kernel_rfl) rfl (cm_ (dk := kRectO) (x := y8.rect) (S := []) (by kernel_rfl) rfl rfl rfl sn0 (fun w_ hs_ => by exact impl_Rect_cloned w_ (hs_.at 0 rfl) (by have z := hz2 _ (List.mem_of_getElem? m9); unfold szPair at z; omega)) (fun cs_ o24 s25 w_ r26 t27 => ?_))))))))
    obtain ⟨A20, c21, A22, c23, rfl⟩ := kRectO_sh r26
    refine qn (qv 6 rfl (bd bld60 rfl rfl rfl) rfl (by kernel_rfl) (q1 7 [1, 1, 1, 2] rfl (by kernel_rfl) rfl (gs Kd.i64 [.int .i64 y8.id] y8.id (fun _ => ⟨rfl, rfl, rfl⟩) (gj (da := (Kd.via Kd.i64 Pair.id)) (db := (Kd.via kRectO Pair.rect)) (x := y8) (cs := [.int .i64 y8.id, .slice A20 y8.rect.low.length c21, .slice A22 y8.rect.high.length c23]) rfl (bs1 (dk := kPairO) rfl info60 (by decide) rfl rfl rfl rfl ?_)))))
    intro b29
    refine qn (q1 8 [1, 1, 1, 2] rfl (by kernel_rfl) rfl ?_)
    refine f4 (ap (out ++ [y8]) rfl info60 rfl rfl (by decide) rfl rfl rfl rfl (by simp only [List.length_append, List.length_cons, List.length_nil]; omega) (by simp only [List.length_append, List.length_cons, List.length_nil]; omega) rfl (fun A30 c31 o32 s33 t34 => ?_))
    exact qn (qv 9 rfl (as_ rfl rfl) rfl (by kernel_rfl) (qe [1, 1, 1, 1] (by kernel_rfl) rfl (xn (nx (rg (vl (ra (c := ((k + 1 : Nat) : Int)) rfl rfl rfl (by omega) (by omega) (by omega)) rfl (m_ rfl rfl (en (lpe (s := (k, out, A_, c_, o_, s_)) (k + 1, (out ++ [y8]), A30, c31, o32, s33) [0, 3] ⟨by omega, (by rw [take_snoc m9, ← hinv]), by grind, by first | omega | (simp only [List.length_append, List.length_cons, List.length_nil]; omega)⟩ (by show list.length - (k + 1) < list.length - k; omega) ⟨rfl, rfl, rfl, rfl, trivial⟩ rfl)))))))))
  · exact cf rfl (decide_eq_false h2) (xt (xq (xq (xb (nx (sq (rg (m_ rfl rfl (a_ rfl rfl (en (nx (rt (gr list (by rw [hinv, List.take_of_length_le (by omega)]) (ret1 rfl rfl (fun w_ hs_ => made hs_ rfl (by grind))))))))))))))))
/-! spec.l2Copies -/
set_option maxRecDepth 20000 in
set_option maxHeartbeats 2000000 in
theorem spec_l2Copies (w : World) {Alist : Option Addr} {clist : Nat} {list : List Pair} {slist_ : List Nat} (hlist : (Kd.sl kPairS).Rel w [.slice Alist list.length clist] list [] slist_) (hz : list.length ≤ 1048576) (hz2 : ∀ p ∈ list, szPair p ≤ 1048576) : Calls Tryz.prog 22 #[.slice Alist list.length clist] w (Made (Kd.row 60 kPairO) w list []) := by
  have Llist := Kd.sl_len hlist; have Clist := Kd.sl_cap hlist
  refine fnc (X := X6 20 w) (args := [.slice Alist list.length clist]) (l := [(0, .slice Alist list.length clist)]) (G := [dat (Kd.sl kPairS) [.slice Alist list.length clist] list ([]) slist_]) Tryz.func22 rfl rfl rfl ⟨rfl, trivial⟩ (s0d hlist (s0n w)).1 ?_
  refine sq (rg (a_ rfl rfl (en (nx (sq (rg (bs0 (dk := kPairO) rfl info60 rfl rfl ?_)))))))
  intro b1
  refine a_ rfl rfl (en (nx (sq (sq (rg (a_ rfl rfl (en (nx (bk ?_)))))))))
  refine lp (σ := Nat × List Pair × Option Addr × Nat × List Nat × List Nat) (fun z_ : Nat × List Pair × Option Addr × Nat × List Nat × List Nat => match z_ with | (k, out, A_, c_, o_, s_) => [(0, .slice Alist list.length clist), (3, .slice A_ out.length c_), (4, .int .i64 ((k : Nat) : Int))])
      (fun z_ : Nat × List Pair × Option Addr × Nat × List Nat × List Nat => match z_ with | (k, out, A_, c_, o_, s_) => [dat (Kd.row 60 kPairO) [.slice A_ out.length c_] out o_ s_, dat (Kd.sl kPairS) [.slice Alist list.length clist] list ([]) slist_])
      (fun z_ : Nat × List Pair × Option Addr × Nat × List Nat × List Nat => match z_ with | (k, out, A_, c_, o_, s_) => k ≤ list.length ∧ (out = list.take k) ∧ (∀ q ∈ s_, w.heap.size ≤ q) ∧ out.length ≤ k) (fun z_ : Nat × List Pair × Option Addr × Nat × List Nat × List Nat => match z_ with | (k, out, A_, c_, o_, s_) => list.length - k) (0, [], (some ⟨b1, 0, none⟩), 0, [b1], []) [0, 0] ⟨Nat.zero_le _, by simp, by simp, by simp⟩ ⟨rfl, rfl, rfl, trivial⟩ rfl ?_
  rintro ⟨k, out, A_, c_, o_, s_⟩ hp_
  obtain ⟨hk, hinv, hsee, hlen⟩ := hp_
  refine sq (sq (rg (m_ rfl rfl (m_ rfl rfl (vl (ln rfl rfl rfl) rfl (vl (cm rfl rfl rfl rfl) rfl (en (nx ?_))))))))
  by_cases h2 : ((k : Nat) : Int) < ((list.length : Nat) : Int)
  · refine ct rfl (decide_eq_true h2) (sk (nx (sq (bk (rg (m_ rfl rfl (m_ rfl rfl (m_ rfl rfl ?_))))))))
    refine gx 1 k rfl (by omega) fun y8 p3 cs_ s4 w7 m9 e5 r6 us4 => ?_
    obtain ⟨A10, c11, A12, c13, rfl⟩ := kPairS_sh r6
    refine vl (ix k e5 rfl rfl rfl rfl rfl (by omega)) rfl (cm_ (dk := kPairO) (x := y8) (S := []) (by kernel_rfl) rfl rfl rfl sn0 (fun w_ hs_ => spec_l2Copy w_ (hs_.at 0 rfl) (by have z := hz2 _ (List.mem_of_getElem? m9); omega)) (fun cs_ o18 s19 w_ r20 t21 => ?_))
    obtain ⟨A14, c15, A16, c17, rfl⟩ := kPairO_sh r20
    refine bs1 (dk := kPairO) rfl info60 (by decide) rfl rfl rfl rfl ?_
    intro b23
    refine f2 (ap (out ++ [y8]) rfl info60 rfl rfl (by decide) rfl rfl rfl rfl (by simp only [List.length_append, List.length_cons, List.length_nil]; omega) (by simp only [List.length_append, List.length_cons, List.length_nil]; omega) rfl (fun A24 c25 o26 s27 t28 => ?_))
    exact a_ rfl rfl (en (xn (nx (rg (m_ rfl rfl (vl (ra (c := ((k + 1 : Nat) : Int)) rfl rfl rfl (by omega) (by omega) (by omega)) rfl (a_ rfl rfl (en (lpe (s := (k, out, A_, c_, o_, s_)) (k + 1, (out ++ [y8]), A24, c25, o26, s27) [0, 1] ⟨by omega, (by rw [take_snoc m9, ← hinv]), by grind, by first | omega | (simp only [List.length_append, List.length_cons, List.length_nil]; omega)⟩ (by show list.length - (k + 1) < list.length - k; omega) ⟨rfl, rfl, rfl, trivial⟩ rfl)))))))))
  · exact cf rfl (decide_eq_false h2) (xt (xq (xq (xb (nx (sq (rg (m_ rfl rfl (a_ rfl rfl (en (nx (rt (gr list (by rw [hinv, List.take_of_length_le (by omega)]) (ret1 rfl rfl (fun w_ hs_ => made hs_ rfl (by grind))))))))))))))))
theorem turnOf_mem {l : List Pair} {n : Note} {x : Pair} (h : x ∈ turnOf l n) : x ∈ l ∨ x = n.op.pair := by
  unfold turnOf takeId at h
  split at h
  · split at h
    · rcases addTo_mem h with h | h
      · exact .inr h
      · exact .inl (List.mem_filter.1 h).1
    · split at h
      · exact .inl (List.mem_filter.1 h).1
      · exact .inl h
  · exact .inl h
theorem fold_mem : ∀ (l : List Note) {p : List Pair} {x : Pair}, x ∈ l.foldl turnOf p → x ∈ p ∨ ∃ n ∈ l, x = n.op.pair
  | [], _, _, h => .inl h
  | n :: l, p, x, h => by
    rcases fold_mem l (p := turnOf p n) h with h | ⟨m, hm, h⟩
    · rcases turnOf_mem h with h | h
      · exact .inl h
      · exact .inr ⟨n, List.mem_cons_self .., h⟩
    · exact .inr ⟨m, List.mem_cons_of_mem _ hm, h⟩
theorem fold_len : ∀ (l : List Note) (p : List Pair), (l.foldl turnOf p).length ≤ p.length + l.length
  | [], _ => by simp
  | n :: l, p => by
    have := fold_len l (turnOf p n)
    have := turnOf_len p n
    simp only [List.foldl_cons, List.length_cons]; omega
theorem model_mem {l : List Note} {t : Int} {x : Pair} (h : x ∈ modelAt l t) : ∃ n ∈ l, x = n.op.pair := by
  rcases fold_mem _ h with h | ⟨n, hn, h⟩
  · cases h
  · exact ⟨n, (List.takeWhile_sublist _).subset hn, h⟩
theorem model_sz {l : List Note} {d t : Int} (h : notesFault l d = 0) {x : Pair} (hx : x ∈ modelAt l t) : szPair x ≤ 6 := by
  obtain ⟨n, hn, rfl⟩ := model_mem hx
  exact (notes_0 h).2 n hn
theorem pairs_all {l : List Note} {t : Int} (h : idx (fun (x0 : Note) => decide (x0.at_ > t)) l < 0) : foldTurn (l.take l.length) = modelAt l t := by
  have h1 := idx_neg (p := fun (x0 : Note) => decide (x0.at_ > t)) (xs := l) (by omega)
  unfold modelAt
  rw [takeWhile_at (k := l.length) (fun j x _ hx => by have := h1 x (List.mem_of_getElem? hx); simp at this; simpa using this) (Nat.le_refl _) (fun y hy => by simp at hy)]
theorem pairs_at {l : List Note} {t : Int} {k : Nat} {y : Note} (hk : k < l.length) (hy : l[k]? = some y) (hp : decide (y.at_ > t) = true) (h : ∀ j x, j < k → l[j]? = some x → decide (x.at_ > t) = false) : foldTurn (l.take k) = modelAt l t := by
  unfold modelAt
  rw [takeWhile_at (k := k) (fun j x hj hx => by have := h j x hj hx; simp at this; simpa using this) (by omega) (fun z hz => by rw [hy] at hz; cases hz; simp at hp; simp; omega)]
def modelRes (notes : List Note) (dims at_ : Int) : PairsResult := if notesFault notes dims = 0 then if 60 < ((modelAt notes at_).length : Int) then ⟨2, []⟩ else ⟨0, modelAt notes at_⟩ else ⟨notesFault notes dims, []⟩
theorem sum_le {α : Type} {f : α → Int} {c : Int} : ∀ {l : List α}, (∀ x ∈ l, f x ≤ c) → (l.map f).sum ≤ c * (l.length : Int)
  | [], _ => by simp
  | a :: l, h => by
    have h1 := h a (List.mem_cons_self ..)
    have h2 := sum_le (l := l) (fun x hx => h x (List.mem_cons_of_mem _ hx))
    simp only [List.map_cons, List.sum_cons, List.length_cons]
    have : c * ((l.length + 1 : Nat) : Int) = c * (l.length : Int) + c := by rw [Int.natCast_add, Int.mul_add]; simp
    omega
theorem modelRes_cnt (notes : List Note) (dims at_ : Int) : 0 ≤ ((modelRes notes dims at_).pairs.map cntE_Pair).sum ∧ ((modelRes notes dims at_).pairs.map cntE_Pair).sum ≤ 1000 := by
  refine ⟨sum_nn cntE_Pair_nn _, ?_⟩
  unfold modelRes
  split
  · rename_i h
    split
    · simp
    · rename_i h2
      have h3 := sum_le (f := cntE_Pair) (c := 7) (l := modelAt notes at_) (fun x hx => by have := model_sz h hx; unfold szPair szRect at this; unfold cntE_Pair; omega)
      show ((modelAt notes at_).map cntE_Pair).sum ≤ 1000
      omega
  · simp
theorem cnt_list {α : Type} {f g : α → Int} (h : ∀ x, f x ≤ 32 * (1 + g x)) : ∀ l : List α, (l.map f).sum ≤ 32 * szList g l
  | [] => by simp [szList]
  | a :: l => by
    have h1 := h a
    have h2 := cnt_list h l
    unfold szList at *
    simp only [List.map_cons, List.sum_cons, List.length_cons]
    omega
theorem cntE_Pair_sz (p : Pair) : cntE_Pair p ≤ 32 * (1 + szPair p) := by unfold cntE_Pair szPair szRect; omega
theorem cntE_Note_sz (n : Note) : cntE_Note n ≤ 32 * (1 + szNote n) := by
  have h1 := cnt_list cntE_Pair_sz n.answer.pairs
  unfold cntE_Note szNote szOp szAnswer szQuery
  have h2 : szPair n.op.pair = (n.op.pair.rect.low.length : Int) + (n.op.pair.rect.high.length : Int) := rfl
  have h3 : szRect n.op.query.rect = (n.op.query.rect.low.length : Int) + (n.op.query.rect.high.length : Int) := rfl
  omega
/-! impl.behindNotes -/
set_option maxRecDepth 20000 in
set_option maxHeartbeats 2000000 in
theorem impl_behindNotes (w : World) {Anotes : Option Addr} {cnotes : Nat} {notes : List Note} {snotes_ : List Nat} (hnotes : (Kd.sl kNoteS).Rel w [.slice Anotes notes.length cnotes] notes [] snotes_) (hz : notes.length ≤ 600) : Calls Tryz.prog 115 #[.slice Anotes notes.length cnotes] w (Made (Kd.sl kPairS) w (foldTurn notes) (snotes_)) := by
  have Lnotes := Kd.sl_len hnotes; have Cnotes := Kd.sl_cap hnotes
  refine fnc (X := X6 18 w) (args := [.slice Anotes notes.length cnotes]) (l := [(0, .slice Anotes notes.length cnotes)]) (G := [dat (Kd.sl kNoteS) [.slice Anotes notes.length cnotes] notes ([]) snotes_]) Tryz.func115 rfl rfl rfl ⟨rfl, trivial⟩ (s0d hnotes (s0n w)).1 ?_
  refine sq (rg (a_ rfl rfl (en (nx (sq (rg (bs0 (dk := kPairS) rfl info60 rfl rfl ?_)))))))
  intro b1
  refine a_ rfl rfl (en (nx (sq (sq (rg (m_ rfl rfl (vl (ln rfl rfl rfl) rfl (m_ rfl rfl (en (nx (bk (gl (Kd.Seals.row kPairS_self _) (fun s2 us2 => ?_)))))))))))))
  refine lp (σ := Nat × List Pair × Option Addr × Nat × List Nat) (fun z_ : Nat × List Pair × Option Addr × Nat × List Nat => match z_ with | (k, pairs1, A_pairs1, c_pairs1, s_pairs1) => [(3, .slice A_pairs1 pairs1.length c_pairs1), (7, .slice Anotes notes.length cnotes), (8, .int .i64 ((notes.length : Nat) : Int)), (9, .int .i64 ((k : Nat) : Int))])
      (fun z_ : Nat × List Pair × Option Addr × Nat × List Nat => match z_ with | (k, pairs1, A_pairs1, c_pairs1, s_pairs1) => [dat (Kd.sl kPairS) [.slice A_pairs1 pairs1.length c_pairs1] pairs1 ([]) s_pairs1, dat (Kd.sl kNoteS) [.slice Anotes notes.length cnotes] notes ([]) snotes_])
      (fun z_ : Nat × List Pair × Option Addr × Nat × List Nat => match z_ with | (k, pairs1, A_pairs1, c_pairs1, s_pairs1) => (k ≤ notes.length ∧ pairs1 = foldTurn (notes.take k) ∧ pairs1.length ≤ k) ∧ (∀ q ∈ s_pairs1, q ∈ snotes_ ∨ w.heap.size ≤ q)) (fun z_ : Nat × List Pair × Option Addr × Nat × List Nat => match z_ with | (k, pairs1, A_pairs1, c_pairs1, s_pairs1) => notes.length - k) (0, [], (some ⟨b1, 0, none⟩), 0, s2) [0, 0] ⟨⟨Nat.zero_le _, rfl, by simp⟩, by grind⟩ ⟨rfl, rfl, rfl, rfl, trivial⟩ rfl ?_
  rintro ⟨k, pairs1, A_pairs1, c_pairs1, s_pairs1⟩ hp_
  obtain ⟨hinv1, hsee1pairs1⟩ := hp_
  refine sq (rg (vl (cm rfl rfl rfl rfl) rfl (en (nx (sq ?_)))))
  by_cases h3 : ((k : Nat) : Int) < ((notes.length : Nat) : Int)
  · refine ct rfl (decide_eq_true h3) (sk (nx (sq (bk (sq (rg ?_))))))
    refine gx 1 k rfl (by omega) fun y9 p4 cs_ s5 w8 m10 e6 r7 us5 => ?_
    obtain ⟨A11, c12, A13, c14, A15, c16, A17, c18, A19, c20, A21, c22, rfl⟩ := kNoteS_sh r7
    refine vl (ix k e6 rfl rfl rfl rfl rfl (by omega)) rfl (vl (ldq 0 rfl rfl rfl rfl rfl rfl rfl) rfl (al zero67 rfl rfl rfl ?_))
    intro b23
    refine sto rfl rfl rfl rfl rfl rfl rfl (cs' := [.int .i64 y9.at_, .int .i64 y9.kind, .int .i64 y9.client, .int .i64 y9.op.kind, .int .i64 y9.op.pair.id, .slice A11 y9.op.pair.rect.low.length c12, .slice A13 y9.op.pair.rect.high.length c14, .int .i64 y9.op.query.kind, .slice A15 y9.op.query.rect.low.length c16, .slice A17 y9.op.query.rect.high.length c18, .slice A19 y9.op.query.point.length c20, .int .i64 y9.op.query.k, .int .i64 y9.answer.code, .slice A21 y9.answer.pairs.length c22]) rfl (en (nx (rg (m_ rfl rfl (vl (ldb 0 rfl rfl rfl rfl rfl rfl rfl) rfl ?_)))))
    refine gp 1 Kd.Sub.rfl rfl (cs' := [.int .i64 y9.at_, .int .i64 y9.kind, .int .i64 y9.client, .int .i64 y9.op.kind, .int .i64 y9.op.pair.id, .slice A11 y9.op.pair.rect.low.length c12, .slice A13 y9.op.pair.rect.high.length c14, .int .i64 y9.op.query.kind, .slice A15 y9.op.query.rect.low.length c16, .slice A17 y9.op.query.rect.high.length c18, .slice A19 y9.op.query.point.length c20, .int .i64 y9.op.query.k, .int .i64 y9.answer.code, .slice A21 y9.answer.pairs.length c22]) rfl fun s24 w_ rs24 us24 => ?_
    refine cm_ (dk := (Kd.sl kPairS)) (x := (turnOf pairs1 y9)) (S := (s_pairs1 ++ s24)) (by kernel_rfl) rfl rfl rfl (sna (snt 3 rfl) (snt 0 rfl)) (fun w_ hs_ => impl_told w_ (hs_.at 3 rfl) (hs_.at 0 rfl) (by omega)) (fun cs_ o27 s28 w_ r29 t30 => ?_)
    obtain ⟨rfl, A25, c26, rfl, Cr29, Lr29, -⟩ := r29
    refine a_ rfl rfl (en (xn (nx (rg (vl (ra (c := ((k + 1 : Nat) : Int)) rfl rfl rfl (by omega) (by omega) (by omega)) rfl (m_ rfl rfl (en ?_)))))))
    exact lpe (s := (k, pairs1, A_pairs1, c_pairs1, s_pairs1)) (k + 1, (turnOf pairs1 y9), A25, c26, s28) [0, 4] ⟨⟨by omega, by rw [foldTurn_snoc m10, ← hinv1.2.1], by have z := turnOf_len pairs1 y9; omega⟩, by grind⟩ (by show notes.length - (k + 1) < notes.length - k; omega) ⟨rfl, rfl, rfl, rfl, trivial⟩ rfl
  · exact cf rfl (decide_eq_false h3) (xt (xq (xq (xb (nx (sq (rg (m_ rfl rfl (a_ rfl rfl (en (nx (rt (gr (foldTurn notes) (by rw [hinv1.2.1, List.take_of_length_le (by omega)]) (ret1 rfl rfl (fun w_ hs_ => made hs_ rfl (by grind))))))))))))))))
/-! slices.IndexFunc[[]impl.Note,impl.Note] -/
set_option maxRecDepth 20000 in
set_option maxHeartbeats 2000000 in
theorem slices_IndexFunc_impl_Note_impl_Note (w : World) (p : Note → Bool) {fp : FuncId} {cfp : List Value} (hEp : enters Tryz.prog fp = true) {As : Option Addr} {cs : Nat} {s : List Note} {ss_ : List Nat} (hs : (Kd.sl kNoteS).Rel w [.slice As s.length cs] s [] ss_) (hfp : ∀ (w1 : World) (x0 : Note), x0 ∈ s → Below w.heap.size w w1 → ∀ (A0_13 : Option Addr) (c0_13 : Nat), ∀ (A0_10 : Option Addr) (c0_10 : Nat), ∀ (A0_9 : Option Addr) (c0_9 : Nat), ∀ (A0_8 : Option Addr) (c0_8 : Nat), ∀ (A0_6 : Option Addr) (c0_6 : Nat), ∀ (A0_5 : Option Addr) (c0_5 : Nat), ∀ s0_ : List Nat, kNoteS.Rel w1 [.int .i64 x0.at_, .int .i64 x0.kind, .int .i64 x0.client, .int .i64 x0.op.kind, .int .i64 x0.op.pair.id, .slice A0_5 x0.op.pair.rect.low.length c0_5, .slice A0_6 x0.op.pair.rect.high.length c0_6, .int .i64 x0.op.query.kind, .slice A0_8 x0.op.query.rect.low.length c0_8, .slice A0_9 x0.op.query.rect.high.length c0_9, .slice A0_10 x0.op.query.point.length c0_10, .int .i64 x0.op.query.k, .int .i64 x0.answer.code, .slice A0_13 x0.answer.pairs.length c0_13] x0 [] s0_ → Calls Tryz.prog fp (([.agg #[.int .i64 x0.at_, .int .i64 x0.kind, .int .i64 x0.client, .int .i64 x0.op.kind, .int .i64 x0.op.pair.id, .slice A0_5 x0.op.pair.rect.low.length c0_5, .slice A0_6 x0.op.pair.rect.high.length c0_6, .int .i64 x0.op.query.kind, .slice A0_8 x0.op.query.rect.low.length c0_8, .slice A0_9 x0.op.query.rect.high.length c0_9, .slice A0_10 x0.op.query.point.length c0_10, .int .i64 x0.op.query.k, .int .i64 x0.answer.code, .slice A0_13 x0.answer.pairs.length c0_13]] : List Value) ++ cfp).toArray w1 (fun e_ w2_ => e_ = .returned (.bool (p x0)) ∧ Below w1.heap.size w1 w2_))  : Calls Tryz.prog 111 #[.slice As s.length cs, .func (.func fp) #[] cfp.toArray] w (fun e_ w2_ => e_ = .returned (.int .i64 (idx p s)) ∧ Below w.heap.size w w2_) := by
  have Ls := Kd.sl_len hs; have Cs := Kd.sl_cap hs
  refine fnc (X := X6 19 w) (args := [.slice As s.length cs, .func (.func fp) #[] cfp.toArray]) (l := [(0, .slice As s.length cs), (1, .func (.func fp) #[] cfp.toArray)]) (G := [dat (Kd.sl kNoteS) [.slice As s.length cs] s ([]) ss_]) Tryz.func111 rfl rfl rfl ⟨rfl, rfl, trivial⟩ (s0d hs (s0n w)).1 ?_
  refine sq (rg (a_ rfl rfl (en (nx (sq (sq (rg (m_ rfl rfl (vl (ln rfl rfl rfl) rfl (m_ rfl rfl (en (nx (bk ?_)))))))))))))
  refine lp (σ := Nat) (fun k : Nat => [(0, .slice As s.length cs), (1, .func (.func fp) #[] cfp.toArray), (7, .int .i64 ((s.length : Nat) : Int)), (8, .int .i64 ((k : Nat) : Int))])
      (fun k : Nat => [dat (Kd.sl kNoteS) [.slice As s.length cs] s ([]) ss_])
      (fun k : Nat => k ≤ s.length ∧ ∀ j x, j < k → s[j]? = some x → p x = false) (fun k : Nat => s.length - k) 0 [0] ⟨Nat.zero_le _, by simp⟩ ⟨rfl, rfl, rfl, rfl, trivial⟩ rfl ?_
  intro k hp_
  obtain ⟨hk, hinv⟩ := hp_
  refine sq (rg (vl (cm rfl rfl rfl rfl) rfl (en (nx (sq ?_)))))
  by_cases h1 : ((k : Nat) : Int) < ((s.length : Nat) : Int)
  · refine ct rfl (decide_eq_true h1) (sk (nx (sq (bk (sq (rg (m_ rfl rfl (a_ rfl rfl (en (nx (sq (rg (m_ rfl rfl (m_ rfl rfl (m_ rfl rfl ?_)))))))))))))))
    refine gx 0 k rfl (by omega) fun y7 p2 cs_ s3 w6 m8 e4 r5 us3 => ?_
    obtain ⟨A9, c10, A11, c12, A13, c14, A15, c16, A17, c18, A19, c20, rfl⟩ := kNoteS_sh r5
    refine vl (ix k e4 rfl rfl rfl rfl rfl (by omega)) rfl (vl (ldq 0 rfl rfl rfl rfl rfl rfl rfl) rfl ?_)
    refine gp 0 Kd.Sub.rfl rfl (cs' := [.int .i64 y7.at_, .int .i64 y7.kind, .int .i64 y7.client, .int .i64 y7.op.kind, .int .i64 y7.op.pair.id, .slice A9 y7.op.pair.rect.low.length c10, .slice A11 y7.op.pair.rect.high.length c12, .int .i64 y7.op.query.kind, .slice A13 y7.op.query.rect.low.length c14, .slice A15 y7.op.query.rect.high.length c16, .slice A17 y7.op.query.point.length c18, .int .i64 y7.op.query.k, .int .i64 y7.answer.code, .slice A19 y7.answer.pairs.length c20]) rfl fun s21 w_ rs21 us21 => ?_
    refine cv_ (v := .bool (p y7)) hEp rfl rfl rfl rfl (fun w_ hs_ => hfp w_ y7 (List.mem_of_getElem? m8) hs_.below _ _ _ _ _ _ _ _ _ _ _ _ _ (hs_.at 0 rfl)) (en (nx ?_))
    by_cases h22 : p y7 = true
    · refine ct rfl h22 (sq (rg (m_ rfl rfl (a_ rfl rfl (en (nx (rt (xrb (xr (xr (xrb (xr (ret1 rfl rfl (fun w_ hs_ => ⟨?_, hs_.below⟩))))))))))))))
      rw [idx_some hinv m8 h22]
    · exact cf rfl (Bool.eq_false_iff.2 h22) (sk (xn (nx (rg (vl (ra (c := ((k + 1 : Nat) : Int)) rfl rfl rfl (by omega) (by omega) (by omega)) rfl (m_ rfl rfl (en (lpe (s := k) (k + 1) [2] ⟨by omega, idx_step hinv m8 (Bool.eq_false_iff.2 h22)⟩ (by omega) ⟨rfl, rfl, rfl, rfl, trivial⟩ rfl))))))))
  · refine cf rfl (decide_eq_false h1) (xt (xq (xq (xb (nx (sq (rg (a_ rfl rfl (en (nx (rt (ret1 rfl rfl (fun w_ hs_ => ⟨?_, hs_.below⟩)))))))))))))
    rw [idx_none hinv (by omega)]
/-! slices.ContainsFunc[[]impl.Note,impl.Note] -/
set_option maxRecDepth 20000 in
set_option maxHeartbeats 2000000 in
theorem slices_ContainsFunc_impl_Note_impl_Note (w : World) (p : Note → Bool) {fp : FuncId} {cfp : List Value} (hEp : enters Tryz.prog fp = true) {As : Option Addr} {cs : Nat} {s : List Note} {ss_ : List Nat} (hs : (Kd.sl kNoteS).Rel w [.slice As s.length cs] s [] ss_) (hfp : ∀ (w1 : World) (x0 : Note), x0 ∈ s → Below w.heap.size w w1 → ∀ (A0_13 : Option Addr) (c0_13 : Nat), ∀ (A0_10 : Option Addr) (c0_10 : Nat), ∀ (A0_9 : Option Addr) (c0_9 : Nat), ∀ (A0_8 : Option Addr) (c0_8 : Nat), ∀ (A0_6 : Option Addr) (c0_6 : Nat), ∀ (A0_5 : Option Addr) (c0_5 : Nat), ∀ s0_ : List Nat, kNoteS.Rel w1 [.int .i64 x0.at_, .int .i64 x0.kind, .int .i64 x0.client, .int .i64 x0.op.kind, .int .i64 x0.op.pair.id, .slice A0_5 x0.op.pair.rect.low.length c0_5, .slice A0_6 x0.op.pair.rect.high.length c0_6, .int .i64 x0.op.query.kind, .slice A0_8 x0.op.query.rect.low.length c0_8, .slice A0_9 x0.op.query.rect.high.length c0_9, .slice A0_10 x0.op.query.point.length c0_10, .int .i64 x0.op.query.k, .int .i64 x0.answer.code, .slice A0_13 x0.answer.pairs.length c0_13] x0 [] s0_ → Calls Tryz.prog fp (([.agg #[.int .i64 x0.at_, .int .i64 x0.kind, .int .i64 x0.client, .int .i64 x0.op.kind, .int .i64 x0.op.pair.id, .slice A0_5 x0.op.pair.rect.low.length c0_5, .slice A0_6 x0.op.pair.rect.high.length c0_6, .int .i64 x0.op.query.kind, .slice A0_8 x0.op.query.rect.low.length c0_8, .slice A0_9 x0.op.query.rect.high.length c0_9, .slice A0_10 x0.op.query.point.length c0_10, .int .i64 x0.op.query.k, .int .i64 x0.answer.code, .slice A0_13 x0.answer.pairs.length c0_13]] : List Value) ++ cfp).toArray w1 (fun e_ w2_ => e_ = .returned (.bool (p x0)) ∧ Below w1.heap.size w1 w2_))  : Calls Tryz.prog 73 #[.slice As s.length cs, .func (.func fp) #[] cfp.toArray] w (fun e_ w2_ => e_ = .returned (.bool (List.any s p)) ∧ Below w.heap.size w w2_) := by
  have Ls := Kd.sl_len hs; have Cs := Kd.sl_cap hs
  refine fnc (X := X6 9 w) (args := [.slice As s.length cs, .func (.func fp) #[] cfp.toArray]) (l := [(0, .slice As s.length cs), (1, .func (.func fp) #[] cfp.toArray)]) (G := [dat (Kd.sl kNoteS) [.slice As s.length cs] s ([]) ss_]) Tryz.func73 rfl rfl rfl ⟨rfl, rfl, trivial⟩ (s0d hs (s0n w)).1 ?_
  refine sq (rg (a_ rfl rfl (en (nx (sq (rg (m_ rfl rfl (m_ rfl rfl (cs_ (v := .int .i64 (idx p s)) (by kernel_rfl) rfl rfl rfl (fun w_ hs_ => slices_IndexFunc_impl_Note_impl_Note w_ p hEp (hs_.at 0 rfl) (fun w1 x0 m0_ b_ => hfp w1 x0 m0_ (hs_.below.trans (b_.mono hs_.below.size)))) (vl (cm rfl rfl rfl rfl) rfl (a_ rfl rfl (en (nx (rt (ret1 rfl rfl (fun w_ hs_ => ⟨?_, hs_.below⟩))))))))))))))))
  rw [idx_ge]
/-! impl.pairsAt$1 -/
set_option maxRecDepth 20000 in
set_option maxHeartbeats 2000000 in
theorem impl_pairsAt_1 (w : World) {An5 : Option Addr} {cn5 : Nat} {An6 : Option Addr} {cn6 : Nat} {An8 : Option Addr} {cn8 : Nat} {An9 : Option Addr} {cn9 : Nat} {An10 : Option Addr} {cn10 : Nat} {An13 : Option Addr} {cn13 : Nat} {n : Note} {sn_ : List Nat} (hn : kNoteS.Rel w [.int .i64 n.at_, .int .i64 n.kind, .int .i64 n.client, .int .i64 n.op.kind, .int .i64 n.op.pair.id, .slice An5 n.op.pair.rect.low.length cn5, .slice An6 n.op.pair.rect.high.length cn6, .int .i64 n.op.query.kind, .slice An8 n.op.query.rect.low.length cn8, .slice An9 n.op.query.rect.high.length cn9, .slice An10 n.op.query.point.length cn10, .int .i64 n.op.query.k, .int .i64 n.answer.code, .slice An13 n.answer.pairs.length cn13] n [] sn_)  {at_ : Int} {sat__ : List Nat} {pat_ : Addr} (hat_ : (ptr Kd.i64 pat_ [.int .i64 at_] at_ sat__).P w)  : Calls Tryz.prog 114 #[.agg #[.int .i64 n.at_, .int .i64 n.kind, .int .i64 n.client, .int .i64 n.op.kind, .int .i64 n.op.pair.id, .slice An5 n.op.pair.rect.low.length cn5, .slice An6 n.op.pair.rect.high.length cn6, .int .i64 n.op.query.kind, .slice An8 n.op.query.rect.low.length cn8, .slice An9 n.op.query.rect.high.length cn9, .slice An10 n.op.query.point.length cn10, .int .i64 n.op.query.k, .int .i64 n.answer.code, .slice An13 n.answer.pairs.length cn13], .pointer (some pat_)] w (fun e_ w2_ => e_ = .returned (.bool (decide (n.at_ > at_))) ∧ Below w.heap.size w w2_) := by
  refine fnc (X := X6 8 w) (args := [.agg #[.int .i64 n.at_, .int .i64 n.kind, .int .i64 n.client, .int .i64 n.op.kind, .int .i64 n.op.pair.id, .slice An5 n.op.pair.rect.low.length cn5, .slice An6 n.op.pair.rect.high.length cn6, .int .i64 n.op.query.kind, .slice An8 n.op.query.rect.low.length cn8, .slice An9 n.op.query.rect.high.length cn9, .slice An10 n.op.query.point.length cn10, .int .i64 n.op.query.k, .int .i64 n.answer.code, .slice An13 n.answer.pairs.length cn13], .pointer (some pat_)]) (l := [(0, .agg #[.int .i64 n.at_, .int .i64 n.kind, .int .i64 n.client, .int .i64 n.op.kind, .int .i64 n.op.pair.id, .slice An5 n.op.pair.rect.low.length cn5, .slice An6 n.op.pair.rect.high.length cn6, .int .i64 n.op.query.kind, .slice An8 n.op.query.rect.low.length cn8, .slice An9 n.op.query.rect.high.length cn9, .slice An10 n.op.query.point.length cn10, .int .i64 n.op.query.k, .int .i64 n.answer.code, .slice An13 n.answer.pairs.length cn13]), (1, .pointer (some pat_))]) (G := [ptr Kd.i64 pat_ [.int .i64 at_] at_ sat__, dat kNoteS [.int .i64 n.at_, .int .i64 n.kind, .int .i64 n.client, .int .i64 n.op.kind, .int .i64 n.op.pair.id, .slice An5 n.op.pair.rect.low.length cn5, .slice An6 n.op.pair.rect.high.length cn6, .int .i64 n.op.query.kind, .slice An8 n.op.query.rect.low.length cn8, .slice An9 n.op.query.rect.high.length cn9, .slice An10 n.op.query.point.length cn10, .int .i64 n.op.query.k, .int .i64 n.answer.code, .slice An13 n.answer.pairs.length cn13] n ([]) sn_]) Tryz.func114 rfl rfl rfl ⟨rfl, rfl, trivial⟩ (s0p hat_ (s0d hn (s0n w))).1 ?_
  refine sq (rg (bx rfl rfl rfl rfl ?_))
  intro b1
  refine a_ rfl rfl (en (nx (sq (rg (vl (fa rfl rfl rfl) rfl (vl (ldb (u := .int .i64 n.at_) 0 rfl rfl rfl rfl rfl rfl rfl) rfl (vl (ldq (u := .int .i64 at_) 1 rfl rfl rfl rfl rfl rfl rfl) rfl (vl (cm rfl rfl rfl rfl) rfl (a_ rfl rfl (en (nx (rt (ret1 rfl rfl (fun w_ hs_ => ⟨?_, hs_.below⟩))))))))))))))
  rfl
/-! impl.pairsAt -/
set_option maxRecDepth 20000 in
set_option maxHeartbeats 2000000 in
theorem impl_pairsAt (w : World) (at_ : Int) {Anotes : Option Addr} {cnotes : Nat} {notes : List Note} {snotes_ : List Nat} (hnotes : (Kd.sl kNoteS).Rel w [.slice Anotes notes.length cnotes] notes [] snotes_) (hz : notes.length ≤ 600) : Calls Tryz.prog 77 #[.slice Anotes notes.length cnotes, .int .i64 at_] w (Made (Kd.sl kPairS) w (modelAt notes at_) (snotes_)) := by
  have Lnotes := Kd.sl_len hnotes; have Cnotes := Kd.sl_cap hnotes
  have hcn := Kd.sl_cap hnotes
  refine fnc (X := X6 17 w) (args := [.slice Anotes notes.length cnotes, .int .i64 at_]) (l := [(0, .slice Anotes notes.length cnotes), (1, .int .i64 at_)]) (G := [dat (Kd.sl kNoteS) [.slice Anotes notes.length cnotes] notes ([]) snotes_]) Tryz.func77 rfl rfl rfl ⟨rfl, rfl, trivial⟩ (s0d hnotes (s0n w)).1 ?_
  refine sq (rg (bx rfl rfl rfl rfl ?_))
  intro b1
  refine a_ rfl rfl (en (nx (sq (rg (m_ rfl rfl (vl (mf rfl rfl rfl) rfl (gs Kd.i64 [.int .i64 at_] at_ (fun _ => ⟨rfl, rfl, rfl⟩) ?_)))))))
  refine cs_ (v := .int .i64 (idx (fun (x0 : Note) => decide (x0.at_ > at_)) notes)) (by kernel_rfl) rfl rfl rfl (fun w_ hs_ => slices_IndexFunc_impl_Note_impl_Note w_ (fun (x0 : Note) => decide (x0.at_ > at_)) (by kernel_rfl) (hs_.at 2 rfl) (fun w1 x0 m0_ b_ _ _ _ _ _ _ _ _ _ _ _ _ _ r0_ => impl_pairsAt_1 w1  r0_ (ptr_blk ((hs_.step b_).at 1 rfl) ((hs_.step b_).at 0 rfl) rfl))) (a_ rfl rfl (en (nx (sq (sq (rg (m_ rfl rfl (vl (cm rfl rfl rfl rfl) rfl (en (nx ?_))))))))))
  by_cases h2 : (idx (fun (x0 : Note) => decide (x0.at_ > at_)) notes) < (0 : Int)
  · refine ct rfl (decide_eq_true h2) (rg (m_ rfl rfl (vl (ln rfl rfl rfl) rfl (a_ rfl rfl (en (nx (sq (rg (m_ rfl rfl (m_ rfl rfl (vl (evr (v' := .slice Anotes ((notes.take notes.length).length) cnotes) (shi (i := notes.length) rfl rfl rfl rfl rfl (by omega)) (sl_eq (by first | (simp; done) | (simp; omega)))) rfl ?_)))))))))))
    refine gct 2 notes.length rfl (by omega) fun s3 w_ rs3 us3 => ?_
    have Ls3 := Kd.sl_len rs3
    refine cm_ (dk := (Kd.sl kPairS)) (x := (foldTurn (notes.take notes.length))) (S := (s3)) (by kernel_rfl) rfl rfl rfl (snt 0 rfl) (fun w_ hs_ => impl_behindNotes w_ (hs_.at 0 rfl) (by first | omega | (rw [List.length_take]; omega))) (fun cs_ o6 s7 w_ r8 t9 => ?_)
    obtain ⟨rfl, A4, c5, rfl, Cr8, Lr8, -⟩ := r8
    exact a_ rfl rfl (en (nx (rt (gr (modelAt notes at_) (by first | exact pairs_all h2 | exact pairs_at lh2 mh2 ph2 fh2) (ret1 rfl rfl (fun w_ hs_ => made hs_ rfl (by grind)))))))
  · obtain ⟨kh2, yh2, eh2, lh2, mh2, ph2, fh2⟩ := idx_pos (Int.not_lt.1 h2); rw [eh2] at h2; rw [eh2]
    refine cf rfl (decide_eq_false h2) (sk (nx (sq (rg (m_ rfl rfl (m_ rfl rfl (vl (evr (v' := .slice Anotes ((notes.take kh2).length) cnotes) (shi (i := kh2) rfl rfl rfl rfl rfl (by omega)) (sl_eq (by first | (simp; done) | (simp; omega)))) rfl ?_)))))))
    refine gct 2 kh2 rfl (by omega) fun s11 w_ rs11 us11 => ?_
    have Ls11 := Kd.sl_len rs11
    refine cm_ (dk := (Kd.sl kPairS)) (x := (foldTurn (notes.take kh2))) (S := (s11)) (by kernel_rfl) rfl rfl rfl (snt 0 rfl) (fun w_ hs_ => impl_behindNotes w_ (hs_.at 0 rfl) (by first | omega | (rw [List.length_take]; omega))) (fun cs_ o14 s15 w_ r16 t17 => ?_)
    obtain ⟨rfl, A12, c13, rfl, Cr16, Lr16, -⟩ := r16
    exact a_ rfl rfl (en (nx (rt (gr (modelAt notes at_) (by first | exact pairs_all h2 | exact pairs_at lh2 mh2 ph2 fh2) (ret1 rfl rfl (fun w_ hs_ => made hs_ rfl (by grind)))))))
end Go.Proofs.YtkdiaknbndmajaaGreat.Sx
