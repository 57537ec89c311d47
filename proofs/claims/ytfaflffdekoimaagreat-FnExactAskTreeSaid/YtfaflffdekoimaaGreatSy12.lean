/- What functions of the program answer, each at every input that its row names; walked through their code. -/
import Derived.Test.YtfaflffdekoimaaGreatSy11
namespace Go.Proofs.YtfaflffdekoimaaGreat.Sx
open Go Go.RowKit Go.Proofs
set_option linter.unusedVariables false
set_option linter.unusedSimpArgs false
def tab12 : Tab := { size := [(2, 1, false), (23, 1, false), (35, 1, false), (46, 2, true), (91, 3, true)], off := [((37, 0), 0), ((37, 1), 1), ((46, 0), 0), ((46, 1), 1), ((91, 0), 0), ((91, 1), 1)], elem := [(35, 91)] }
theorem tab_ok12 : tab12.check Tryz.prog = true := by kernel_rfl
noncomputable abbrev X12 (N : Nat) (w : World) : Cx := ⟨Tryz.prog, tab12, tab_ok12, wide, N, w, none, []⟩
theorem zero91 : (Tryz.prog.info? 91).bind (·.zero) = some (.agg #[.int .i64 0, .slice none 0 0, .slice none 0 0]) := by kernel_rfl

structure PairsResult where
  code : Int
  pairs : List Pair
  deriving DecidableEq
def kPairsResultS : Kd PairsResult := ((Kd.i64.via PairsResult.code).cat ((Kd.sl kPairS).via PairsResult.pairs))
theorem kPairsResultS_sh {w : World} {cs : List Value} {x : PairsResult} {o s : List Nat} (h : kPairsResultS.Rel w cs x o s) : ∃ (A1 : Option Addr) (c1 : Nat), cs = [.int .i64 x.code, .slice A1 x.pairs.length c1] := by
  obtain ⟨c10, c20, o10, o20, s10, s20, rfl, rfl, rfl, h0, k0⟩ := h
  obtain ⟨rfl, -, -⟩ := h0
  obtain ⟨-, A1_, c1_, rfl, -⟩ := k0
  exact ⟨_, _, rfl⟩
theorem kPairsResultS_p1_1 : Kd.Sub kPairsResultS 1 (Kd.sl kPairS) (fun x => x.pairs) := (Kd.Sub.right (Kd.Sub.rfl.via PairsResult.pairs) _)
theorem kPairsResultS_self : Kd.Seals kPairsResultS kPairsResultS := (Kd.Seals.cat (Kd.Seals.via Kd.Seals.i64 _) (Kd.Seals.via Kd.Seals.refl_sl _))
theorem kPairsResultS_pure : Kd.Pure kPairsResultS := (Kd.Pure.cat (Kd.Pure.via Kd.Pure.i64 _) (Kd.Pure.via (Kd.Pure.sl _) _))
def kPairsResultO : Kd PairsResult := ((Kd.i64.via PairsResult.code).cat ((Kd.row 91 kPairO).via PairsResult.pairs))
theorem kPairsResultO_sh {w : World} {cs : List Value} {x : PairsResult} {o s : List Nat} (h : kPairsResultO.Rel w cs x o s) : ∃ (A1 : Option Addr) (c1 : Nat), cs = [.int .i64 x.code, .slice A1 x.pairs.length c1] := by
  obtain ⟨c10, c20, o10, o20, s10, s20, rfl, rfl, rfl, h0, k0⟩ := h
  obtain ⟨rfl, -, -⟩ := h0
  obtain ⟨A1_, c1_, rfl⟩ := Kd.row_sh k0
  exact ⟨_, _, rfl⟩
theorem kPairsResultO_seal : Kd.Seals kPairsResultO kPairsResultS := (Kd.Seals.cat (Kd.Seals.via Kd.Seals.i64 _) (Kd.Seals.via (Kd.Seals.row kPairO_seal _) _))
theorem PairsResult_eq (a b : PairsResult) : decide (a = b) = (decide (a.code = b.code) && decide (a.pairs = b.pairs)) := by
  cases a; cases b; rw [Bool.eq_iff_iff]; simp
def szPair (a : Pair) : Int := szRect a.rect
theorem szPair_nn (a : Pair) : 0 ≤ szPair a := by have := szRect_nn a.rect; unfold szPair; omega
def zPair : Pair := (⟨0, zRect⟩ : Pair)
/-! laws.eqPair -/
set_option maxRecDepth 20000 in
set_option maxHeartbeats 2000000 in
theorem laws_eqPair (w : World) {Aa1 : Option Addr} {ca1 : Nat} {Aa2 : Option Addr} {ca2 : Nat} {a : Pair} {sa_ : List Nat} (ha : kPairS.Rel w [.int .i64 a.id, .slice Aa1 a.rect.low.length ca1, .slice Aa2 a.rect.high.length ca2] a [] sa_) {Ab1 : Option Addr} {cb1 : Nat} {Ab2 : Option Addr} {cb2 : Nat} {b : Pair} {sb_ : List Nat} (hb : kPairS.Rel w [.int .i64 b.id, .slice Ab1 b.rect.low.length cb1, .slice Ab2 b.rect.high.length cb2] b [] sb_)  : Calls Tryz.prog 67 #[.agg #[.int .i64 a.id, .slice Aa1 a.rect.low.length ca1, .slice Aa2 a.rect.high.length ca2], .agg #[.int .i64 b.id, .slice Ab1 b.rect.low.length cb1, .slice Ab2 b.rect.high.length cb2]] w (fun e_ w2_ => e_ = .returned (.bool (decide (a = b))) ∧ Below w.heap.size w w2_) := by
  refine fnc (X := X12 16 w) (args := [.agg #[.int .i64 a.id, .slice Aa1 a.rect.low.length ca1, .slice Aa2 a.rect.high.length ca2], .agg #[.int .i64 b.id, .slice Ab1 b.rect.low.length cb1, .slice Ab2 b.rect.high.length cb2]]) (l := [(0, .agg #[.int .i64 a.id, .slice Aa1 a.rect.low.length ca1, .slice Aa2 a.rect.high.length ca2]), (1, .agg #[.int .i64 b.id, .slice Ab1 b.rect.low.length cb1, .slice Ab2 b.rect.high.length cb2])]) (G := [dat kPairS [.int .i64 b.id, .slice Ab1 b.rect.low.length cb1, .slice Ab2 b.rect.high.length cb2] b ([]) sb_, dat kPairS [.int .i64 a.id, .slice Aa1 a.rect.low.length ca1, .slice Aa2 a.rect.high.length ca2] a ([]) sa_]) Tryz.func67 rfl rfl rfl ⟨rfl, rfl, trivial⟩ (s0d hb (s0d ha (s0n w))).1 ?_
  refine sq (rg (bx rfl rfl rfl rfl ?_))
  intro b1
  refine bx rfl rfl rfl rfl ?_
  intro b2
  refine a_ rfl rfl (en (nx (sq (sq (rg (vl (fa rfl rfl rfl) rfl (vl (ldb (u := .int .i64 a.id) 1 rfl rfl rfl rfl rfl rfl rfl) rfl (vl (fa rfl rfl rfl) rfl (vl (ldb (u := .int .i64 b.id) 0 rfl rfl rfl rfl rfl rfl rfl) rfl (vl (cm rfl rfl rfl rfl) rfl (en (nx ?_))))))))))))
  by_cases h3 : a.id = b.id
  · refine cf rfl (bne_eq_false_iff_eq.2 h3) (sk (nx (sq (sq (rg (vl (fa rfl rfl rfl) rfl (vl (ldb 1 rfl rfl rfl rfl rfl rfl rfl) rfl (vl (fa rfl rfl rfl) rfl (vl (ldb 0 rfl rfl rfl rfl rfl rfl rfl) rfl ?_)))))))))
    refine gd 3 kPairS_p1_2 rfl (cs' := [.slice Aa1 a.rect.low.length ca1, .slice Aa2 a.rect.high.length ca2]) rfl fun s4 w_ rs4 us4 => ?_
    refine gd 3 kPairS_p1_2 rfl (cs' := [.slice Ab1 b.rect.low.length cb1, .slice Ab2 b.rect.high.length cb2]) rfl fun s5 w_ rs5 us5 => ?_
    refine cs_ (v := .bool (decide (a.rect = b.rect))) (by kernel_rfl) rfl rfl rfl (fun w_ hs_ => laws_eqRect w_ (hs_.at 1 rfl) (hs_.at 0 rfl)) (vl (nt rfl rfl) rfl (en (nx ?_)))
    by_cases h6 : decide (a.rect = b.rect) = true
    · refine cf rfl (not_f h6) (sk (nx (sq (rg (a_ rfl rfl (en (nx (rt (ret1 rfl rfl (fun w_ hs_ => ⟨?_, hs_.below⟩))))))))))
      rw [Pair_eq]; simp [h3, h6]
    · refine ct rfl (not_t (Bool.eq_false_iff.2 h6)) (sq (rg (a_ rfl rfl (en (nx (rt (xr (ret1 rfl rfl (fun w_ hs_ => ⟨?_, hs_.below⟩)))))))))
      rw [Pair_eq]; simp [h3, h6]
  · refine ct rfl (bne_iff_ne.2 h3) (sq (rg (a_ rfl rfl (en (nx (rt (xr (ret1 rfl rfl (fun w_ hs_ => ⟨?_, hs_.below⟩)))))))))
    rw [Pair_eq]; simp [h3]
/-! laws.eqPairS -/
set_option maxRecDepth 20000 in
set_option maxHeartbeats 2000000 in
theorem laws_eqPairS (w : World) {Aa : Option Addr} {ca : Nat} {a : List Pair} {sa_ : List Nat} (ha : (Kd.sl kPairS).Rel w [.slice Aa a.length ca] a [] sa_) {Ab : Option Addr} {cb : Nat} {b : List Pair} {sb_ : List Nat} (hb : (Kd.sl kPairS).Rel w [.slice Ab b.length cb] b [] sb_)  : Calls Tryz.prog 31 #[.slice Aa a.length ca, .slice Ab b.length cb] w (fun e_ w2_ => e_ = .returned (.bool (decide (a = b))) ∧ Below w.heap.size w w2_) := by
  have La := Kd.sl_len ha; have Ca := Kd.sl_cap ha
  have Lb := Kd.sl_len hb; have Cb := Kd.sl_cap hb
  refine fnc (X := X12 27 w) (args := [.slice Aa a.length ca, .slice Ab b.length cb]) (l := [(0, .slice Aa a.length ca), (1, .slice Ab b.length cb)]) (G := [dat (Kd.sl kPairS) [.slice Ab b.length cb] b ([]) sb_, dat (Kd.sl kPairS) [.slice Aa a.length ca] a ([]) sa_]) Tryz.func31 rfl rfl rfl ⟨rfl, rfl, trivial⟩ (s0d hb (s0d ha (s0n w))).1 ?_
  refine sq (rg (a_ rfl rfl (en (nx (sq (sq (rg (m_ rfl rfl (vl (ln rfl rfl rfl) rfl (m_ rfl rfl (vl (ln rfl rfl rfl) rfl (vl (cm rfl rfl rfl rfl) rfl (en (nx ?_))))))))))))))
  by_cases h1 : ((a.length : Nat) : Int) = ((b.length : Nat) : Int)
  · refine cf rfl (bne_eq_false_iff_eq.2 h1) (sk (nx (sq (sq (rg (a_ rfl rfl (en (nx (bk ?_)))))))))
    refine lp (σ := Nat) (fun k : Nat => [(0, .slice Aa a.length ca), (1, .slice Ab b.length cb), (5, .int .i64 ((k : Nat) : Int))])
        (fun k : Nat => [dat (Kd.sl kPairS) [.slice Ab b.length cb] b ([]) sb_, dat (Kd.sl kPairS) [.slice Aa a.length ca] a ([]) sa_])
        (fun k : Nat => k ≤ a.length ∧ ∀ j x y, j < k → a[j]? = some x → b[j]? = some y → x = y) (fun k : Nat => a.length - k) 0 [0, 0] ⟨Nat.zero_le _, by simp⟩ ⟨rfl, rfl, rfl, trivial⟩ rfl ?_
    intro k hp_
    obtain ⟨hk, hinv⟩ := hp_
    refine sq (sq (rg (m_ rfl rfl (m_ rfl rfl (vl (ln rfl rfl rfl) rfl (vl (cm rfl rfl rfl rfl) rfl (en (nx ?_))))))))
    by_cases h2 : ((k : Nat) : Int) < ((a.length : Nat) : Int)
    · refine ct rfl (decide_eq_true h2) (sk (nx (sq (bk (sq ?_)))))
      refine gx 1 k rfl (by omega) fun y8 p3 cs_ s4 w7 m9 e5 r6 us4 => ?_
      obtain ⟨A10, c11, A12, c13, rfl⟩ := kPairS_sh r6
      refine gx 1 k rfl (by omega) fun y19 p14 cs_ s15 w18 m20 e16 r17 us15 => ?_
      obtain ⟨A21, c22, A23, c24, rfl⟩ := kPairS_sh r17
      refine gp 1 Kd.Sub.rfl rfl (cs' := [.int .i64 y8.id, .slice A10 y8.rect.low.length c11, .slice A12 y8.rect.high.length c13]) rfl fun s25 w_ rs25 us25 => ?_
      refine gp 1 Kd.Sub.rfl rfl (cs' := [.int .i64 y19.id, .slice A21 y19.rect.low.length c22, .slice A23 y19.rect.high.length c24]) rfl fun s26 w_ rs26 us26 => ?_
      refine r0 (qv 0 rfl (mv rfl rfl) rfl (by kernel_rfl) (qv 1 rfl (mv rfl rfl) rfl (by kernel_rfl) (qv 2 rfl (ix k e5 rfl rfl rfl rfl rfl (by omega)) rfl (by kernel_rfl) (qv 3 rfl (ldq 3 rfl rfl rfl rfl rfl rfl rfl) rfl (by kernel_rfl) (qv 4 rfl (mv rfl rfl) rfl (by kernel_rfl) (qv 5 rfl (mv rfl rfl) rfl (by kernel_rfl) (qv 6 rfl (ix k e16 rfl rfl rfl rfl rfl (by omega)) rfl (by kernel_rfl) (qv 7 rfl (ldq 2 rfl rfl rfl rfl rfl rfl rfl) rfl (by kernel_rfl) (q1 8 [0, 0, 0, 0, 0, 0] rfl (by kernel_rfl) rfl (cs_ (v := .bool (decide (y8 = y19))) (by kernel_rfl) rfl rfl rfl (fun w_ hs_ => by exact laws_eqPair w_ (hs_.at 1 rfl) (hs_.at 0 rfl)) (qn (qv 9 rfl (nt rfl rfl) rfl (by kernel_rfl) (qe [0, 0, 0, 0, 0, 0] (by kernel_rfl) rfl (nx ?_))))))))))))))
      by_cases h27 : decide (y8 = y19) = true
      · exact cf rfl (not_f h27) (sk (xn (nx (rg (m_ rfl rfl (vl (ra (c := ((k + 1 : Nat) : Int)) rfl rfl rfl (by omega) (by omega) (by omega)) rfl (a_ rfl rfl (en (lpe (s := k) (k + 1) [4, 4] ⟨by omega, eq_step hinv m9 m20 (by simpa using h27)⟩ (by omega) ⟨rfl, rfl, rfl, trivial⟩ rfl)))))))))
      · refine ct rfl (not_t (Bool.eq_false_iff.2 h27)) (sq (rg (a_ rfl rfl (en (nx (rt (xrb (xr (xr (xrb (xr (ret1 rfl rfl (fun w_ hs_ => ⟨?_, hs_.below⟩)))))))))))))
        exact rb (eqS_f m9 m20 (by simpa using h27)).symm
    · refine cf rfl (decide_eq_false h2) (xt (xq (xq (xb (nx (sq (rg (a_ rfl rfl (en (nx (rt (ret1 rfl rfl (fun w_ hs_ => ⟨?_, hs_.below⟩)))))))))))))
      exact rb (eqS_t (by omega) hinv (by omega)).symm
  · refine ct rfl (bne_iff_ne.2 h1) (sq (rg (a_ rfl rfl (en (nx (rt (xr (ret1 rfl rfl (fun w_ hs_ => ⟨?_, hs_.below⟩)))))))))
    exact rb (by rw [eq_comm, decide_eq_false_iff_not]; rintro rfl; exact h1 rfl)
/-! laws.eqPairsResult -/
set_option maxRecDepth 20000 in
set_option maxHeartbeats 2000000 in
theorem laws_eqPairsResult (w : World) {Aa1 : Option Addr} {ca1 : Nat} {a : PairsResult} {sa_ : List Nat} (ha : kPairsResultS.Rel w [.int .i64 a.code, .slice Aa1 a.pairs.length ca1] a [] sa_) {Ab1 : Option Addr} {cb1 : Nat} {b : PairsResult} {sb_ : List Nat} (hb : kPairsResultS.Rel w [.int .i64 b.code, .slice Ab1 b.pairs.length cb1] b [] sb_)  : Calls Tryz.prog 10 #[.agg #[.int .i64 a.code, .slice Aa1 a.pairs.length ca1], .agg #[.int .i64 b.code, .slice Ab1 b.pairs.length cb1]] w (fun e_ w2_ => e_ = .returned (.bool (decide (a = b))) ∧ Below w.heap.size w w2_) := by
  refine fnc (X := X12 16 w) (args := [.agg #[.int .i64 a.code, .slice Aa1 a.pairs.length ca1], .agg #[.int .i64 b.code, .slice Ab1 b.pairs.length cb1]]) (l := [(0, .agg #[.int .i64 a.code, .slice Aa1 a.pairs.length ca1]), (1, .agg #[.int .i64 b.code, .slice Ab1 b.pairs.length cb1])]) (G := [dat kPairsResultS [.int .i64 b.code, .slice Ab1 b.pairs.length cb1] b ([]) sb_, dat kPairsResultS [.int .i64 a.code, .slice Aa1 a.pairs.length ca1] a ([]) sa_]) Tryz.func10 rfl rfl rfl ⟨rfl, rfl, trivial⟩ (s0d hb (s0d ha (s0n w))).1 ?_
  refine sq (rg (bx rfl rfl rfl rfl ?_))
  intro b1
  refine bx rfl rfl rfl rfl ?_
  intro b2
  refine a_ rfl rfl (en (nx (sq (sq (rg (vl (fa rfl rfl rfl) rfl (vl (ldb (u := .int .i64 a.code) 1 rfl rfl rfl rfl rfl rfl rfl) rfl (vl (fa rfl rfl rfl) rfl (vl (ldb (u := .int .i64 b.code) 0 rfl rfl rfl rfl rfl rfl rfl) rfl (vl (cm rfl rfl rfl rfl) rfl (en (nx ?_))))))))))))
  by_cases h3 : a.code = b.code
  · refine cf rfl (bne_eq_false_iff_eq.2 h3) (sk (nx (sq (sq (rg (vl (fa rfl rfl rfl) rfl (vl (ldb (u := .slice Aa1 a.pairs.length ca1) 1 rfl rfl rfl rfl rfl rfl rfl) rfl (vl (fa rfl rfl rfl) rfl (vl (ldb (u := .slice Ab1 b.pairs.length cb1) 0 rfl rfl rfl rfl rfl rfl rfl) rfl ?_)))))))))
    refine gd 3 kPairsResultS_p1_1 rfl (cs' := [.slice Aa1 a.pairs.length ca1]) rfl fun s4 w_ rs4 us4 => ?_
    have Ls4 := Kd.sl_len rs4; have Cs4 := Kd.sl_cap rs4
    refine gd 3 kPairsResultS_p1_1 rfl (cs' := [.slice Ab1 b.pairs.length cb1]) rfl fun s5 w_ rs5 us5 => ?_
    have Ls5 := Kd.sl_len rs5; have Cs5 := Kd.sl_cap rs5
    refine cs_ (v := .bool (decide (a.pairs = b.pairs))) (by kernel_rfl) rfl rfl rfl (fun w_ hs_ => laws_eqPairS w_ (hs_.at 1 rfl) (hs_.at 0 rfl)) (vl (nt rfl rfl) rfl (en (nx ?_)))
    by_cases h6 : decide (a.pairs = b.pairs) = true
    · refine cf rfl (not_f h6) (sk (nx (sq (rg (a_ rfl rfl (en (nx (rt (ret1 rfl rfl (fun w_ hs_ => ⟨?_, hs_.below⟩))))))))))
      rw [PairsResult_eq]; simp [h3, h6]
    · refine ct rfl (not_t (Bool.eq_false_iff.2 h6)) (sq (rg (a_ rfl rfl (en (nx (rt (xr (ret1 rfl rfl (fun w_ hs_ => ⟨?_, hs_.below⟩)))))))))
      rw [PairsResult_eq]; simp [h3, h6]
  · refine ct rfl (bne_iff_ne.2 h3) (sq (rg (a_ rfl rfl (en (nx (rt (xr (ret1 rfl rfl (fun w_ hs_ => ⟨?_, hs_.below⟩)))))))))
    rw [PairsResult_eq]; simp [h3]
def mkE_Pair (k : Int) (a : Pair) : Pair := ⟨k, ⟨mkL mI cI (k + 1) a.rect.low, mkL mI cI (k + 1 + (a.rect.low.length : Int)) a.rect.high⟩⟩
def cntE_Pair (a : Pair) : Int := 0 + 1 + (a.rect.low.length : Int) + (a.rect.high.length : Int)
theorem cntE_Pair_nn (a : Pair) : 0 ≤ cntE_Pair a := by
  unfold cntE_Pair; omega
def mkV_PairsResult (k : Int) (a : PairsResult) : PairsResult := ⟨a.code, mkL mkE_Pair cntE_Pair (k) a.pairs⟩
def cntV_PairsResult (a : PairsResult) : Int := 0 + (a.pairs.map cntE_Pair).sum
theorem cntV_PairsResult_nn (a : PairsResult) : 0 ≤ cntV_PairsResult a := by
  have := sum_nn cntE_Pair_nn a.pairs
  unfold cntV_PairsResult; omega
/-! laws.markPairS -/
set_option maxRecDepth 20000 in
set_option maxHeartbeats 2000000 in
theorem laws_markPairS (w : World) (k : Int) {Aa : Option Addr} {ca : Nat} {a : List Pair} {oa_ sa_ : List Nat} (hst : St (nul w) w [dat (Kd.row 91 kPairO) [.slice Aa a.length ca] a oa_ sa_]) (hk0 : 0 ≤ k) (hk1 : k + (a.map cntE_Pair).sum ≤ 1152921504606846976) : Calls Tryz.prog 38 #[.slice Aa a.length ca, .int .i64 k] w (TurnO (Kd.row 91 kPairO) [.slice Aa a.length ca] (.int .i64 (k + (a.map cntE_Pair).sum)) w oa_ (mkL mkE_Pair cntE_Pair k a) (sa_)) := by
  have La := Kd.row_len (hst.at 0 rfl); have Ca := Kd.row_cap (hst.at 0 rfl)
  refine fnc (X := X12 36 (nul w)) (args := [.slice Aa a.length ca, .int .i64 k]) (l := [(0, .slice Aa a.length ca), (1, .int .i64 k)]) (G := [frm w oa_, dat (Kd.row 91 kPairO) [.slice Aa a.length ca] a oa_ sa_]) Tryz.func38 rfl rfl rfl ⟨rfl, rfl, trivial⟩ (⟨hst.fr oa_ (by simp [owns, dat, ptr]), trivial⟩ : _ ∧ True).1 ?_
  refine sq (rg (a_ rfl rfl (en (nx (sq (sq (rg (a_ rfl rfl (en (nx (bk ?_)))))))))))
  refine lp (σ := Nat × Int × List Nat × List Nat) (fun z_ : Nat × Int × List Nat × List Nat => match z_ with | (i, v, o_, s_) => [(0, .slice Aa a.length ca), (1, .int .i64 v), (5, .int .i64 ((i : Nat) : Int))])
      (fun z_ : Nat × Int × List Nat × List Nat => match z_ with | (i, v, o_, s_) => [dat (Kd.row 91 kPairO) [.slice Aa a.length ca] (mkL mkE_Pair cntE_Pair k (a.take i) ++ a.drop i) o_ s_, frm w oa_])
      (fun z_ : Nat × Int × List Nat × List Nat => match z_ with | (i, v, o_, s_) => i ≤ a.length ∧ v = k + sumTo cntE_Pair a i ∧ ∀ q ∈ s_, q ∈ sa_ ∨ w.heap.size ≤ q) (fun z_ : Nat × Int × List Nat × List Nat => match z_ with | (i, v, o_, s_) => a.length - i) (0, k, oa_, sa_) [1, 0] ⟨Nat.zero_le _, by simp [sumTo], fun q h => .inl h⟩ ⟨rfl, rfl, rfl, trivial⟩ rfl ?_
  rintro ⟨i, v, o_, s_⟩ hp_
  obtain ⟨hi, hv, hsee⟩ := hp_; have z0 := sumTo_nn cntE_Pair_nn a i; have zt := sumTo_le cntE_Pair_nn a i
  refine sq (sq (rg (m_ rfl rfl (m_ rfl rfl (vl (ln rfl rfl rfl) rfl (vl (cm rfl rfl rfl rfl) rfl (en (nx ?_))))))))
  by_cases h1 : ((i : Nat) : Int) < ((a.length : Nat) : Int)
  · obtain ⟨ba, rfl⟩ := Kd.row_pos (hst.at 0 rfl) (by omega)
    refine ct rfl (decide_eq_true h1) (sk (nx (sq (bk (sq (rg (m_ rfl rfl (m_ rfl rfl (m_ rfl rfl (vl (ix i rfl rfl rfl rfl rfl rfl (by omega)) rfl ?_))))))))))
    refine foc i (by rw [List.length_append, mkL_len, List.length_take, List.length_drop]; omega) fun y2 ci_ o3 s4 o5 s6 w_ m7 r8 us4 us6 => ?_
    obtain ⟨A9, c10, A11, c12, rfl⟩ := kPairO_sh r8
    refine f1 (gsp (da := (Kd.via Kd.i64 Pair.id)) rfl rfl (fun o13 o14 s15 s16 us15 us16 => ?_))
    refine gv (f1 (gv (gsp (da := (Kd.via (Kd.row 2 Kd.i64) Rect.low)) rfl rfl (fun o17 o18 s19 s20 us19 us20 => ?_))))
    refine gv (f1 (gv ?_))
    have zs := sumTo_step (f := cntE_Pair) (mk_raw m7); have zl := sumTo_le cntE_Pair_nn a (i + 1); have z0 := sumTo_nn cntE_Pair_nn a i; have zc : cntE_Pair y2 = 0 + 1 + (y2.rect.low.length : Int) + (y2.rect.high.length : Int) := rfl
    refine vl (fa rfl rfl rfl) rfl (f3 (sth (off := 0) rfl rfl pa1 rfl rfl rfl rfl rfl (ci' := [.int .i64 v, .slice A9 y2.rect.low.length c10, .slice A11 y2.rect.high.length c12]) rfl (en (nx (sq (rg (m_ rfl rfl (vl (ra (c := v + 1) rfl rfl rfl rfl (by omega) (by omega)) rfl (a_ rfl rfl (en (nx (sq (rg (m_ rfl rfl (m_ rfl rfl (vl (ix i rfl rfl rfl rfl rfl rfl (by omega)) rfl (vl (fa rfl rfl rfl) rfl (vl (fb rfl rfl rfl) rfl (vl (ldh (u := .slice A9 y2.rect.low.length c10) 0 (off := 1) rfl rfl rfl rfl pa1 rfl rfl rfl) rfl (m_ rfl rfl (f2 (cto (dk := (Kd.row 2 Kd.i64)) (cs := [.slice A9 y2.rect.low.length c10]) (x := (mkL mI cI (v + 1) y2.rect.low)) (v := .int .i64 (v + 1 + ((y2.rect.low.length : Nat) : Int))) (S := (s19)) (by kernel_rfl) rfl rfl rfl (snt 0 rfl) w.heap.size (fun w_ hs_ => (hs_.mod 4 rfl).size) (fun w_ hs_ => laws_markInt64S w_ _ ((hs_.pk [0] rfl).nl) (by omega) (by omega)) (fun o21 s22 t23 => ?_)))))))))))))))))))))))
    refine a_ rfl rfl (en (nx (rg (m_ rfl rfl (m_ rfl rfl (vl (ix i rfl rfl rfl rfl rfl rfl (by omega)) rfl (vl (fa rfl rfl rfl) rfl (vl (fb rfl rfl rfl) rfl (vl (ldh (u := .slice A11 y2.rect.high.length c12) 1 (off := 2) rfl rfl rfl rfl pa1 rfl rfl rfl) rfl (m_ rfl rfl (f2 (cto (dk := (Kd.row 2 Kd.i64)) (cs := [.slice A11 y2.rect.high.length c12]) (x := (mkL mI cI (v + 1 + ((y2.rect.low.length : Nat) : Int)) y2.rect.high)) (v := .int .i64 ((v + 1 + ((y2.rect.low.length : Nat) : Int)) + ((y2.rect.high.length : Nat) : Int))) (S := (s20)) (by kernel_rfl) rfl rfl rfl (snt 0 rfl) w.heap.size (fun w_ hs_ => (hs_.mod 4 rfl).size) (fun w_ hs_ => laws_markInt64S w_ _ ((hs_.pk [0] rfl).nl) (by omega) (by omega)) (fun o24 s25 t26 => ?_)))))))))))))
    refine a_ rfl rfl (en (xn (nx (rg (m_ rfl rfl (vl (ra (c := ((i + 1 : Nat) : Int)) rfl rfl rfl (by omega) (by omega) (by omega)) rfl (a_ rfl rfl (en (f1 (gj (da := (Kd.via (Kd.row 2 Kd.i64) Rect.low)) (db := (Kd.via (Kd.row 2 Kd.i64) Rect.high)) (x := ((mkE_Pair v y2).rect)) (cs := [.slice A9 y2.rect.low.length c10, .slice A11 y2.rect.high.length c12]) rfl (gs Kd.i64 [.int .i64 v] ((mkE_Pair v y2).id) (fun _ => ⟨rfl, rfl, rfl⟩) (gj (da := (Kd.via Kd.i64 Pair.id)) (db := (Kd.via kRectO Pair.rect)) (x := (mkE_Pair v y2)) (cs := [.int .i64 v, .slice A9 y2.rect.low.length c10, .slice A11 y2.rect.high.length c12]) rfl (f1 (unf (fun o27 s28 t29 => ?_)))))))))))))))
    refine gr (mkL mkE_Pair cntE_Pair k (a.take (i + 1)) ++ a.drop (i + 1)) (mk_step (mk_raw m7) (by rw [← hv])) ?_
    exact lpe (s := (i, v, o_, s_)) (i + 1, ((v + 1 + ((y2.rect.low.length : Nat) : Int)) + ((y2.rect.high.length : Nat) : Int)), o27, s28) [0, 1] ⟨by omega, by omega, by grind⟩ (by show a.length - (i + 1) < a.length - i; omega) ⟨rfl, rfl, rfl, trivial⟩ rfl
  · exact cf rfl (decide_eq_false h1) (xt (xq (xq (xb (nx (sq (rg (m_ rfl rfl (a_ rfl rfl (en (nx (rt (gr (mkL mkE_Pair cntE_Pair k a) (mk_end (by omega)) (ret1 rfl rfl (fun w_ hs_ => turno hs_ 0 rfl (by exact vi (by have z := sumTo_end (f := cntE_Pair) (l := a) (k := i) (by omega); omega)) (by grind))))))))))))))))
/-! laws.heldPairS -/
set_option maxRecDepth 20000 in
set_option maxHeartbeats 2000000 in
theorem laws_heldPairS (w : World) (k : Int) {Aa0 : Option Addr} {na0 ca0 : Nat} {a : List Pair} {sa_ : List Nat} (ha : (Kd.sl kPairS).Rel w [.slice Aa0 na0 ca0] (mkL mkE_Pair cntE_Pair k a) [] sa_) (hk0 : 0 ≤ k) (hk1 : k + (a.map cntE_Pair).sum ≤ 1152921504606846976) : Calls Tryz.prog 39 #[.slice Aa0 na0 ca0, .int .i64 k] w (fun e_ w2_ => e_ = .returned (.int .i64 (k + (a.map cntE_Pair).sum)) ∧ Below w.heap.size w w2_) := by
  have La := Kd.sl_len ha; have Ea := Kd.sl_n ha; rw [mkL_len] at La Ea
  refine fnc (X := X12 42 w) (args := [.slice Aa0 na0 ca0, .int .i64 k]) (l := [(0, .slice Aa0 na0 ca0), (1, .int .i64 k)]) (G := [dat (Kd.sl kPairS) [.slice Aa0 na0 ca0] (mkL mkE_Pair cntE_Pair k a) ([]) sa_]) Tryz.func39 rfl rfl rfl ⟨rfl, rfl, trivial⟩ (s0d ha (s0n w)).1 ?_
  refine sq (rg (a_ rfl rfl (en (nx (sq (sq (rg (a_ rfl rfl (en (nx (bk ?_)))))))))))
  refine lp (σ := Nat × Int) (fun z_ : Nat × Int => match z_ with | (i, v) => [(0, .slice Aa0 na0 ca0), (1, .int .i64 v), (5, .int .i64 ((i : Nat) : Int))])
      (fun z_ : Nat × Int => match z_ with | (i, v) => [dat (Kd.sl kPairS) [.slice Aa0 na0 ca0] (mkL mkE_Pair cntE_Pair k a) ([]) sa_])
      (fun z_ : Nat × Int => match z_ with | (i, v) => i ≤ a.length ∧ v = k + sumTo cntE_Pair a i) (fun z_ : Nat × Int => match z_ with | (i, v) => a.length - i) (0, k) [0] ⟨Nat.zero_le _, by simp [sumTo]⟩ ⟨rfl, rfl, rfl, trivial⟩ rfl ?_
  rintro ⟨i, v⟩ hp_
  obtain ⟨hi, hv⟩ := hp_; have z0 := sumTo_nn cntE_Pair_nn a i; have zt := sumTo_le cntE_Pair_nn a i
  refine sq (sq (rg (m_ rfl rfl (m_ rfl rfl (vl (ln rfl rfl rfl) rfl (vl (cm rfl rfl rfl rfl) rfl (en (nx ?_))))))))
  by_cases h1 : ((i : Nat) : Int) < ((na0 : Nat) : Int)
  · refine ct rfl (decide_eq_true h1) (sk (nx (sq (bk (sq (sq (rg (m_ rfl rfl (m_ rfl rfl ?_)))))))))
    refine gx 0 i rfl (by first | omega | (rw [mkL_len]; omega)) fun y7 p2 cs_ s3 w6 m8 e4 r5 us3 => ?_
    obtain ⟨A9, c10, A11, c12, rfl⟩ := kPairS_sh r5
    obtain ⟨y13, hy13⟩ := mkL_some m8
    have zy13 := mkL_at' m8 hy13 hv; subst zy13
    have zs := sumTo_step (f := cntE_Pair) hy13; have zl := sumTo_le cntE_Pair_nn a (i + 1); have z0 := sumTo_nn cntE_Pair_nn a i; have zc : cntE_Pair y13 = 0 + 1 + (y13.rect.low.length : Int) + (y13.rect.high.length : Int) := rfl
    refine vl (ix i e4 rfl rfl rfl rfl rfl (by first | omega | (rw [mkL_len]; omega))) rfl (vl (fa rfl rfl rfl) rfl (vl (ldp (u := .int .i64 ((mkE_Pair v y13).id)) 0 rfl rfl rfl rfl rfl rfl rfl) rfl (m_ rfl rfl (vl (cm rfl rfl rfl rfl) rfl (en (nx ?_))))))
    by_cases h14 : (mkE_Pair v y13).id = v
    · refine cf rfl (bne_eq_false_iff_eq.2 h14) (sk (nx (sq (rg (m_ rfl rfl (vl (ra (c := v + 1) rfl rfl rfl rfl (by omega) (by omega)) rfl (a_ rfl rfl (en (nx (sq (rg (m_ rfl rfl (m_ rfl rfl (vl (ix i e4 rfl rfl rfl rfl rfl (by first | omega | (rw [mkL_len]; omega))) rfl (vl (fa rfl rfl rfl) rfl (vl (fb rfl rfl rfl) rfl (vl (ldp (u := .slice A9 ((mkE_Pair v y13).rect.low.length) c10) 0 rfl rfl rfl rfl rfl rfl rfl) rfl (m_ rfl rfl ?_))))))))))))))))))
      refine gp 0 kPairS_p1_1 rfl (cs' := [.slice A9 ((mkE_Pair v y13).rect.low.length) c10]) rfl fun s15 w_ rs15 us15 => ?_
      have Ls15 := Kd.sl_len rs15; have Cs15 := Kd.sl_cap rs15
      refine gr (mkL mI cI (v + 1) y13.rect.low) rfl (cs_ (v := .int .i64 (v + 1 + ((y13.rect.low.length : Nat) : Int))) (by kernel_rfl) rfl rfl rfl (fun w_ hs_ => laws_heldInt64S w_ _ (hs_.at 0 rfl) (by omega) (by omega)) (a_ rfl rfl (en (nx (sq (sq (rg (m_ rfl rfl (vl (cm rfl rfl rfl rfl) rfl (en (nx ?_)))))))))))
      by_cases h16 : (v + 1 + ((y13.rect.low.length : Nat) : Int)) < (0 : Int)
      · exfalso; omega
      · refine cf rfl (decide_eq_false h16) (sk (nx (sq (rg (m_ rfl rfl (m_ rfl rfl (vl (ix i e4 rfl rfl rfl rfl rfl (by first | omega | (rw [mkL_len]; omega))) rfl (vl (fa rfl rfl rfl) rfl (vl (fb rfl rfl rfl) rfl (vl (ldp (u := .slice A11 ((mkE_Pair v y13).rect.high.length) c12) 1 rfl rfl rfl rfl rfl rfl rfl) rfl (m_ rfl rfl ?_)))))))))))
        refine gp 1 kPairS_p2_1 rfl (cs' := [.slice A11 ((mkE_Pair v y13).rect.high.length) c12]) rfl fun s17 w_ rs17 us17 => ?_
        have Ls17 := Kd.sl_len rs17; have Cs17 := Kd.sl_cap rs17
        refine gr (mkL mI cI (v + 1 + (y13.rect.low.length : Int)) y13.rect.high) rfl (cs_ (v := .int .i64 ((v + 1 + ((y13.rect.low.length : Nat) : Int)) + ((y13.rect.high.length : Nat) : Int))) (by kernel_rfl) rfl rfl rfl (fun w_ hs_ => laws_heldInt64S w_ _ (hs_.at 0 rfl) (by omega) (by omega)) (a_ rfl rfl (en (nx (sq (rg (m_ rfl rfl (vl (cm rfl rfl rfl rfl) rfl (en (nx ?_))))))))))
        by_cases h18 : ((v + 1 + ((y13.rect.low.length : Nat) : Int)) + ((y13.rect.high.length : Nat) : Int)) < (0 : Int)
        · exfalso; omega
        · exact cf rfl (decide_eq_false h18) (sk (xn (nx (rg (m_ rfl rfl (vl (ra (c := ((i + 1 : Nat) : Int)) rfl rfl rfl (by omega) (by omega) (by omega)) rfl (a_ rfl rfl (en (lpe (s := (i, v)) (i + 1, ((v + 1 + ((y13.rect.low.length : Nat) : Int)) + ((y13.rect.high.length : Nat) : Int))) [3] ⟨by omega, by omega⟩ (by show a.length - (i + 1) < a.length - i; omega) ⟨rfl, rfl, rfl, trivial⟩ rfl)))))))))
    · exact absurd rfl h14
  · refine cf rfl (decide_eq_false h1) (xt (xq (xq (xb (nx (sq (rg (m_ rfl rfl (a_ rfl rfl (en (nx (rt (ret1 rfl rfl (fun w_ hs_ => ⟨?_, hs_.below⟩))))))))))))))
    exact ri (by have z := sumTo_end (f := cntE_Pair) (l := a) (k := i) (by omega); omega)
/-! laws.markPairsResult -/
set_option maxRecDepth 20000 in
set_option maxHeartbeats 2000000 in
theorem laws_markPairsResult (w : World) (k : Int) {Aa1 : Option Addr} {ca1 : Nat} {a : PairsResult} {oa_ sa_ : List Nat} (hst : St (nul w) w [dat kPairsResultO [.int .i64 a.code, .slice Aa1 a.pairs.length ca1] a oa_ sa_]) (hk0 : 0 ≤ k) (hk1 : k + (0 + (a.pairs.map cntE_Pair).sum) ≤ 1152921504606846976) : Calls Tryz.prog 15 #[.agg #[.int .i64 a.code, .slice Aa1 a.pairs.length ca1], .int .i64 k] w (TurnO kPairsResultO [.int .i64 a.code, .slice Aa1 a.pairs.length ca1] (.int .i64 (k + (a.pairs.map cntE_Pair).sum)) w oa_ (mkV_PairsResult k a) (sa_)) := by
  have zn0 := sum_nn cntE_Pair_nn a.pairs
  refine fnc (X := X12 10 (nul w)) (args := [.agg #[.int .i64 a.code, .slice Aa1 a.pairs.length ca1], .int .i64 k]) (l := [(0, .agg #[.int .i64 a.code, .slice Aa1 a.pairs.length ca1]), (1, .int .i64 k)]) (G := [frm w oa_, dat kPairsResultO [.int .i64 a.code, .slice Aa1 a.pairs.length ca1] a oa_ sa_]) Tryz.func15 rfl rfl rfl ⟨rfl, rfl, trivial⟩ (⟨hst.fr oa_ (by simp [owns, dat, ptr]), trivial⟩ : _ ∧ True).1 ?_
  refine f1 (gsp (da := (Kd.via Kd.i64 PairsResult.code)) rfl rfl (fun o1 o2 s3 s4 us3 us4 => ?_))
  refine gv (f1 (gv ?_))
  refine sq (rg (bx rfl rfl rfl rfl ?_))
  intro b5
  refine a_ rfl rfl (en (nx (sq (rg (vl (fa rfl rfl rfl) rfl (vl (ldb (u := .slice Aa1 a.pairs.length ca1) 0 rfl rfl rfl rfl rfl rfl rfl) rfl (m_ rfl rfl (f1 (cto (dk := (Kd.row 91 kPairO)) (cs := [.slice Aa1 a.pairs.length ca1]) (x := (mkL mkE_Pair cntE_Pair k a.pairs)) (v := .int .i64 (k + (a.pairs.map cntE_Pair).sum)) (S := (s4)) (by kernel_rfl) rfl rfl rfl (snt 0 rfl) w.heap.size (fun w_ hs_ => (hs_.mod 3 rfl).size) (fun w_ hs_ => laws_markPairS w_ _ ((hs_.pk [0] rfl).nl) (by omega) (by omega)) (fun o6 s7 t8 => ?_))))))))))
  exact a_ rfl rfl (en (nx (sq (rg (m_ rfl rfl (a_ rfl rfl (en (nx (rt (gs Kd.i64 [.int .i64 a.code] ((mkV_PairsResult k a).code) (fun _ => ⟨rfl, rfl, rfl⟩) (gj (da := (Kd.via Kd.i64 PairsResult.code)) (db := (Kd.via (Kd.row 91 kPairO) PairsResult.pairs)) (x := (mkV_PairsResult k a)) (cs := [.int .i64 a.code, .slice Aa1 a.pairs.length ca1]) rfl (ret1 rfl rfl (fun w_ hs_ => turno hs_ 2 rfl (by exact vi (by omega)) (see_app see_nil (by grind)))))))))))))))
/-! laws.heldPairsResult -/
set_option maxRecDepth 20000 in
set_option maxHeartbeats 2000000 in
theorem laws_heldPairsResult (w : World) (k : Int) {Aa1 : Option Addr} {na1 ca1 : Nat} {a : PairsResult} {sa_ : List Nat} (ha : kPairsResultS.Rel w [.int .i64 ((mkV_PairsResult k a).code), .slice Aa1 na1 ca1] (mkV_PairsResult k a) [] sa_) (hk0 : 0 ≤ k) (hk1 : k + (0 + (a.pairs.map cntE_Pair).sum) ≤ 1152921504606846976) : Calls Tryz.prog 16 #[.agg #[.int .i64 ((mkV_PairsResult k a).code), .slice Aa1 na1 ca1], .int .i64 k] w (fun e_ w2_ => e_ = .returned (.int .i64 (k + (a.pairs.map cntE_Pair).sum)) ∧ Below w.heap.size w w2_) := by
  have zn0 := sum_nn cntE_Pair_nn a.pairs
  refine fnc (X := X12 12 w) (args := [.agg #[.int .i64 ((mkV_PairsResult k a).code), .slice Aa1 na1 ca1], .int .i64 k]) (l := [(0, .agg #[.int .i64 ((mkV_PairsResult k a).code), .slice Aa1 na1 ca1]), (1, .int .i64 k)]) (G := [dat kPairsResultS [.int .i64 ((mkV_PairsResult k a).code), .slice Aa1 na1 ca1] (mkV_PairsResult k a) ([]) sa_]) Tryz.func16 rfl rfl rfl ⟨rfl, rfl, trivial⟩ (s0d ha (s0n w)).1 ?_
  refine sq (rg (bx rfl rfl rfl rfl ?_))
  intro b1
  refine a_ rfl rfl (en (nx (sq (rg (vl (fa rfl rfl rfl) rfl (vl (ldb (u := .slice Aa1 na1 ca1) 0 rfl rfl rfl rfl rfl rfl rfl) rfl (m_ rfl rfl ?_)))))))
  refine gd 1 kPairsResultS_p1_1 rfl (cs' := [.slice Aa1 na1 ca1]) rfl fun s2 w_ rs2 us2 => ?_
  have Ls2 := Kd.sl_len rs2; have Cs2 := Kd.sl_cap rs2
  refine gr (mkL mkE_Pair cntE_Pair k a.pairs) rfl (cs_ (v := .int .i64 (k + (a.pairs.map cntE_Pair).sum)) (by kernel_rfl) rfl rfl rfl (fun w_ hs_ => laws_heldPairS w_ _ (hs_.at 0 rfl) (by omega) (by omega)) (a_ rfl rfl (en (nx (sq (sq (rg (m_ rfl rfl (vl (cm rfl rfl rfl rfl) rfl (en (nx ?_)))))))))))
  by_cases h3 : (k + (a.pairs.map cntE_Pair).sum) < (0 : Int)
  · exfalso; omega
  · refine cf rfl (decide_eq_false h3) (sk (nx (sq (rg (m_ rfl rfl (a_ rfl rfl (en (nx (rt (ret1 rfl rfl (fun w_ hs_ => ⟨?_, hs_.below⟩)))))))))))
    exact ri (by omega)
/-! spec.l2Copy -/
set_option maxRecDepth 20000 in
set_option maxHeartbeats 2000000 in
theorem spec_l2Copy (w : World) {Ap1 : Option Addr} {cp1 : Nat} {Ap2 : Option Addr} {cp2 : Nat} {p : Pair} {sp_ : List Nat} {pp : Addr} (hp : (ptr kPairS pp [.int .i64 p.id, .slice Ap1 p.rect.low.length cp1, .slice Ap2 p.rect.high.length cp2] p sp_).P w) (hz : szPair p ≤ 1048576) : Calls Tryz.prog 88 #[.pointer (some pp)] w (Made kPairO w p []) := by
  unfold szPair at hz
  refine fnc (X := X12 12 w) (args := [.pointer (some pp)]) (l := [(0, .pointer (some pp))]) (G := [ptr kPairS pp [.int .i64 p.id, .slice Ap1 p.rect.low.length cp1, .slice Ap2 p.rect.high.length cp2] p sp_]) Tryz.func88 rfl rfl rfl ⟨rfl, trivial⟩ (s0p hp (s0n w)).1 ?_
  refine sq (rg (al zero91 rfl rfl rfl ?_))
  intro b1
  refine en (nx (sq ?_))
  refine gq 1 kPairS_p1_2 rfl (cs' := [.slice Ap1 p.rect.low.length cp1, .slice Ap2 p.rect.high.length cp2]) rfl fun s2 w_ rs2 us2 => ?_
  refine rd (Gq := [ptr kRectS (pp.add 1) [.slice Ap1 p.rect.low.length cp1, .slice Ap2 p.rect.high.length cp2] p.rect s2, ptr kPairS pp [.int .i64 p.id, .slice Ap1 p.rect.low.length cp1, .slice Ap2 p.rect.high.length cp2] p sp_]) [0, 1] rfl (qv 0 rfl (mv rfl rfl) rfl (by kernel_rfl) (qv 1 rfl (nc rfl rfl) rfl (by kernel_rfl) (qv 2 rfl (fa rfl rfl rfl) rfl (by kernel_rfl) (qv 3 rfl (ldp (u := .int .i64 p.id) 1 rfl rfl rfl rfl rfl rfl rfl) rfl (by kernel_rfl) (qv 4 rfl (mv rfl rfl) rfl (by kernel_rfl) (qv 5 rfl (nc rfl rfl) rfl (by kernel_rfl) (qv 6 rfl (fa rfl rfl rfl) rfl (by kernel_rfl) (q1 7 [0, 1] rfl (by kernel_rfl) rfl (cm_ (dk := kRectO) (x := p.rect) (S := []) (by kernel_rfl) rfl rfl rfl sn0 (fun w_ hs_ => by exact spec_l1Copy w_ (hs_.at 0 rfl) (by omega)) (fun cs_ o11 s12 w_ r13 t14 => ?_))))))))))
  obtain ⟨A7, c8, A9, c10, rfl⟩ := kRectO_sh r13
  exact qn (qv 8 rfl (bd bld91 rfl rfl rfl) rfl (by kernel_rfl) (q1 9 [1, 2] rfl (by kernel_rfl) rfl (f2 (sto rfl rfl rfl rfl rfl rfl rfl (cs' := [.int .i64 p.id, .slice A7 p.rect.low.length c8, .slice A9 p.rect.high.length c10]) rfl (qn (qe [2, 2] (by kernel_rfl) rfl (nx (rt (f1 (gs Kd.i64 [.int .i64 p.id] p.id (fun _ => ⟨rfl, rfl, rfl⟩) (gj (da := (Kd.via Kd.i64 Pair.id)) (db := (Kd.via kRectO Pair.rect)) (x := p) (cs := [.int .i64 p.id, .slice A7 p.rect.low.length c8, .slice A9 p.rect.high.length c10]) rfl (retc 1 rfl rfl rfl rfl rfl rfl (fun w_ hs_ => made hs_ rfl (see_app see_nil t14))))))))))))))
/-! impl.clonedPairs -/
set_option maxRecDepth 20000 in
set_option maxHeartbeats 2000000 in
theorem impl_clonedPairs (w : World) {Alist : Option Addr} {clist : Nat} {list : List Pair} {slist_ : List Nat} (hlist : (Kd.sl kPairS).Rel w [.slice Alist list.length clist] list [] slist_) (hz : list.length ≤ 1048576) (hz2 : ∀ p ∈ list, szPair p ≤ 1048576) : Calls Tryz.prog 110 #[.slice Alist list.length clist] w (Made (Kd.row 91 kPairO) w list []) := by
  have Llist := Kd.sl_len hlist; have Clist := Kd.sl_cap hlist
  refine fnc (X := X12 24 w) (args := [.slice Alist list.length clist]) (l := [(0, .slice Alist list.length clist)]) (G := [dat (Kd.sl kPairS) [.slice Alist list.length clist] list ([]) slist_]) Tryz.func110 rfl rfl rfl ⟨rfl, trivial⟩ (s0d hlist (s0n w)).1 ?_
  refine sq (rg (a_ rfl rfl (en (nx (sq (rg (bs0 (dk := kPairO) rfl info91 rfl rfl ?_)))))))
  intro b1
  refine a_ rfl rfl (en (nx (sq (sq (rg (m_ rfl rfl (vl (ln rfl rfl rfl) rfl (m_ rfl rfl (en (nx (bk ?_)))))))))))
  refine lp (σ := Nat × List Pair × Option Addr × Nat × List Nat × List Nat) (fun z_ : Nat × List Pair × Option Addr × Nat × List Nat × List Nat => match z_ with | (k, out, A_, c_, o_, s_) => [(3, .slice A_ out.length c_), (7, .slice Alist list.length clist), (8, .int .i64 ((list.length : Nat) : Int)), (9, .int .i64 ((k : Nat) : Int))])
      (fun z_ : Nat × List Pair × Option Addr × Nat × List Nat × List Nat => match z_ with | (k, out, A_, c_, o_, s_) => [dat (Kd.row 91 kPairO) [.slice A_ out.length c_] out o_ s_, dat (Kd.sl kPairS) [.slice Alist list.length clist] list ([]) slist_])
      (fun z_ : Nat × List Pair × Option Addr × Nat × List Nat × List Nat => match z_ with | (k, out, A_, c_, o_, s_) => k ≤ list.length ∧ (out = list.take k) ∧ (∀ q ∈ s_, w.heap.size ≤ q) ∧ out.length ≤ k) (fun z_ : Nat × List Pair × Option Addr × Nat × List Nat × List Nat => match z_ with | (k, out, A_, c_, o_, s_) => list.length - k) (0, [], (some ⟨b1, 0, none⟩), 0, [b1], []) [0, 0] ⟨Nat.zero_le _, by simp, by simp, by simp⟩ ⟨rfl, rfl, rfl, rfl, trivial⟩ rfl ?_
  rintro ⟨k, out, A_, c_, o_, s_⟩ hp_
  obtain ⟨hk, hinv, hsee, hlen⟩ := hp_
  refine sq (rg (vl (cm rfl rfl rfl rfl) rfl (en (nx (sq ?_)))))
  by_cases h2 : ((k : Nat) : Int) < ((list.length : Nat) : Int)
  · refine ct rfl (decide_eq_true h2) (sk (nx (sq (bk (sq (rg ?_))))))
    refine gx 1 k rfl (by omega) fun y8 p3 cs_ s4 w7 m9 e5 r6 us4 => ?_
    obtain ⟨A10, c11, A12, c13, rfl⟩ := kPairS_sh r6
    refine vl (ix k e5 rfl rfl rfl rfl rfl (by omega)) rfl (vl (ldq 0 rfl rfl rfl rfl rfl rfl rfl) rfl (al zero91 rfl rfl rfl ?_))
    intro b14
    refine sto rfl rfl rfl rfl rfl rfl rfl (cs' := [.int .i64 y8.id, .slice A10 y8.rect.low.length c11, .slice A12 y8.rect.high.length c13]) rfl (en (nx ?_))
    refine gp 1 kPairS_p1_2 rfl (cs' := [.slice A10 y8.rect.low.length c11, .slice A12 y8.rect.high.length c13]) rfl fun s15 w_ rs15 us15 => ?_
    refine rd (Gq := [dat kRectS [.slice A10 y8.rect.low.length c11, .slice A12 y8.rect.high.length c13] y8.rect ([]) s15, blk b14 [.int .i64 y8.id, .slice A10 y8.rect.low.length c11, .slice A12 y8.rect.high.length c13] 91, ptr kPairS p3 [.int .i64 y8.id, .slice A10 y8.rect.low.length c11, .slice A12 y8.rect.high.length c13] y8 s4, dat (Kd.sl kPairS) [.slice Alist list.length clist] list ([]) slist_]) [0, 0, 0, 1] rfl (qv 0 rfl (mv rfl rfl) rfl (by kernel_rfl) (qv 1 rfl (fa rfl rfl rfl) rfl (by kernel_rfl) (qv 2 rfl (ldb (u := .int .i64 y8.id) 1 rfl rfl rfl rfl rfl rfl rfl) rfl (by kernel_rfl) (qv 3 rfl (fa rfl rfl rfl) rfl (by kernel_rfl) (qv 4 rfl (ldb 1 rfl rfl rfl rfl rfl rfl rfl) rfl (by kernel_rfl) (q1 5 [0, 0, 0, 1] rfl (by kernel_rfl) rfl (cm_ (dk := kRectO) (x := y8.rect) (S := []) (by kernel_rfl) rfl rfl rfl sn0 (fun w_ hs_ => by exact impl_Rect_cloned w_ (hs_.at 0 rfl) (by have z := hz2 _ (List.mem_of_getElem? m9); unfold szPair at z; omega)) (fun cs_ o24 s25 w_ r26 t27 => ?_))))))))
    obtain ⟨A20, c21, A22, c23, rfl⟩ := kRectO_sh r26
    refine qn (qv 6 rfl (bd bld91 rfl rfl rfl) rfl (by kernel_rfl) (q1 7 [1, 1, 1, 2] rfl (by kernel_rfl) rfl (gs Kd.i64 [.int .i64 y8.id] y8.id (fun _ => ⟨rfl, rfl, rfl⟩) (gj (da := (Kd.via Kd.i64 Pair.id)) (db := (Kd.via kRectO Pair.rect)) (x := y8) (cs := [.int .i64 y8.id, .slice A20 y8.rect.low.length c21, .slice A22 y8.rect.high.length c23]) rfl (bs1 (dk := kPairO) rfl info91 (by decide) rfl rfl rfl rfl ?_)))))
    intro b29
    refine qn (q1 8 [1, 1, 1, 2] rfl (by kernel_rfl) rfl ?_)
    refine f4 (ap (out ++ [y8]) rfl info91 rfl rfl (by decide) rfl rfl rfl rfl (by simp only [List.length_append, List.length_cons, List.length_nil]; omega) (by simp only [List.length_append, List.length_cons, List.length_nil]; omega) rfl (fun A30 c31 o32 s33 t34 => ?_))
    exact qn (qv 9 rfl (as_ rfl rfl) rfl (by kernel_rfl) (qe [1, 1, 1, 1] (by kernel_rfl) rfl (xn (nx (rg (vl (ra (c := ((k + 1 : Nat) : Int)) rfl rfl rfl (by omega) (by omega) (by omega)) rfl (m_ rfl rfl (en (lpe (s := (k, out, A_, c_, o_, s_)) (k + 1, (out ++ [y8]), A30, c31, o32, s33) [0, 3] ⟨by omega, (by rw [take_snoc m9, ← hinv]), by grind, by first | omega | (simp only [List.length_append, List.length_cons, List.length_nil]; omega)⟩ (by show list.length - (k + 1) < list.length - k; omega) ⟨rfl, rfl, rfl, rfl, trivial⟩ rfl)))))))))
  · exact cf rfl (decide_eq_false h2) (xt (xq (xq (xb (nx (sq (rg (m_ rfl rfl (a_ rfl rfl (en (nx (rt (gr list (by rw [hinv, List.take_of_length_le (by omega)]) (ret1 rfl rfl (fun w_ hs_ => made hs_ rfl (by grind))))))))))))))))
/-! spec.l2Copies -/
set_option maxRecDepth 20000 in
set_option maxHeartbeats 2000000 in
theorem spec_l2Copies (w : World) {Alist : Option Addr} {clist : Nat} {list : List Pair} {slist_ : List Nat} (hlist : (Kd.sl kPairS).Rel w [.slice Alist list.length clist] list [] slist_) (hz : list.length ≤ 1048576) (hz2 : ∀ p ∈ list, szPair p ≤ 1048576) : Calls Tryz.prog 51 #[.slice Alist list.length clist] w (Made (Kd.row 91 kPairO) w list []) := by
  have Llist := Kd.sl_len hlist; have Clist := Kd.sl_cap hlist
  refine fnc (X := X12 20 w) (args := [.slice Alist list.length clist]) (l := [(0, .slice Alist list.length clist)]) (G := [dat (Kd.sl kPairS) [.slice Alist list.length clist] list ([]) slist_]) Tryz.func51 rfl rfl rfl ⟨rfl, trivial⟩ (s0d hlist (s0n w)).1 ?_
  refine sq (rg (a_ rfl rfl (en (nx (sq (rg (bs0 (dk := kPairO) rfl info91 rfl rfl ?_)))))))
  intro b1
  refine a_ rfl rfl (en (nx (sq (sq (rg (a_ rfl rfl (en (nx (bk ?_)))))))))
  refine lp (σ := Nat × List Pair × Option Addr × Nat × List Nat × List Nat) (fun z_ : Nat × List Pair × Option Addr × Nat × List Nat × List Nat => match z_ with | (k, out, A_, c_, o_, s_) => [(0, .slice Alist list.length clist), (3, .slice A_ out.length c_), (4, .int .i64 ((k : Nat) : Int))])
      (fun z_ : Nat × List Pair × Option Addr × Nat × List Nat × List Nat => match z_ with | (k, out, A_, c_, o_, s_) => [dat (Kd.row 91 kPairO) [.slice A_ out.length c_] out o_ s_, dat (Kd.sl kPairS) [.slice Alist list.length clist] list ([]) slist_])
      (fun z_ : Nat × List Pair × Option Addr × Nat × List Nat × List Nat => match z_ with | (k, out, A_, c_, o_, s_) => k ≤ list.length ∧ (out = list.take k) ∧ (∀ q ∈ s_, w.heap.size ≤ q) ∧ out.length ≤ k) (fun z_ : Nat × List Pair × Option Addr × Nat × List Nat × List Nat => match z_ with | (k, out, A_, c_, o_, s_) => list.length - k) (0, [], (some ⟨b1, 0, none⟩), 0, [b1], []) [0, 0] ⟨Nat.zero_le _, by simp, by simp, by simp⟩ ⟨rfl, rfl, rfl, trivial⟩ rfl ?_
  rintro ⟨k, out, A_, c_, o_, s_⟩ hp_
  obtain ⟨hk, hinv, hsee, hlen⟩ := hp_
  refine sq (sq (rg (m_ rfl rfl (m_ rfl rfl (vl (ln rfl rfl rfl) rfl (vl (cm rfl rfl rfl rfl) rfl (en (nx ?_))))))))
  by_cases h2 : ((k : Nat) : Int) < ((list.length : Nat) : Int)
  · refine ct rfl (decide_eq_true h2) (sk (nx (sq (bk (rg (m_ rfl rfl (m_ rfl rfl (m_ rfl rfl ?_))))))))
    refine gx 1 k rfl (by omega) fun y8 p3 cs_ s4 w7 m9 e5 r6 us4 => ?_
    obtain ⟨A10, c11, A12, c13, rfl⟩ := kPairS_sh r6
    refine vl (ix k e5 rfl rfl rfl rfl rfl (by omega)) rfl (cm_ (dk := kPairO) (x := y8) (S := []) (by kernel_rfl) rfl rfl rfl sn0 (fun w_ hs_ => spec_l2Copy w_ (hs_.at 0 rfl) (by have z := hz2 _ (List.mem_of_getElem? m9); omega)) (fun cs_ o18 s19 w_ r20 t21 => ?_))
    obtain ⟨A14, c15, A16, c17, rfl⟩ := kPairO_sh r20
    refine bs1 (dk := kPairO) rfl info91 (by decide) rfl rfl rfl rfl ?_
    intro b23
    refine f2 (ap (out ++ [y8]) rfl info91 rfl rfl (by decide) rfl rfl rfl rfl (by simp only [List.length_append, List.length_cons, List.length_nil]; omega) (by simp only [List.length_append, List.length_cons, List.length_nil]; omega) rfl (fun A24 c25 o26 s27 t28 => ?_))
    exact a_ rfl rfl (en (xn (nx (rg (m_ rfl rfl (vl (ra (c := ((k + 1 : Nat) : Int)) rfl rfl rfl (by omega) (by omega) (by omega)) rfl (a_ rfl rfl (en (lpe (s := (k, out, A_, c_, o_, s_)) (k + 1, (out ++ [y8]), A24, c25, o26, s27) [0, 1] ⟨by omega, (by rw [take_snoc m9, ← hinv]), by grind, by first | omega | (simp only [List.length_append, List.length_cons, List.length_nil]; omega)⟩ (by show list.length - (k + 1) < list.length - k; omega) ⟨rfl, rfl, rfl, trivial⟩ rfl)))))))))
  · exact cf rfl (decide_eq_false h2) (xt (xq (xq (xb (nx (sq (rg (m_ rfl rfl (a_ rfl rfl (en (nx (rt (gr list (by rw [hinv, List.take_of_length_le (by omega)]) (ret1 rfl rfl (fun w_ hs_ => made hs_ rfl (by grind))))))))))))))))
def addTo : List Pair → Pair → List Pair
  | [], p => [p]
  | q :: r, p => if p.id < q.id then p :: q :: r else q :: addTo r p
theorem add_0 {l out : List Pair} {p : Pair} {k : Nat} (h : out ++ addTo (l.drop k) p = addTo l p) (hk : l.length ≤ k) : out ++ [p] = addTo l p := by
  rw [List.drop_of_length_le hk] at h; simpa [addTo] using h
theorem add_y {l out : List Pair} {p y : Pair} {k : Nat} (h : out ++ addTo (l.drop k) p = addTo l p) (hy : l[k]? = some y) (hn : p.id < y.id) : ((out ++ [p]) ++ [y]) ++ l.drop (k + 1) = addTo l p := by
  rw [drop_at hy] at h; simpa [addTo, hn] using h
theorem add_n {l out : List Pair} {p y : Pair} {k : Nat} (h : out ++ addTo (l.drop k) p = addTo l p) (hy : l[k]? = some y) (hn : ¬ p.id < y.id) : (out ++ [y]) ++ addTo (l.drop (k + 1)) p = addTo l p := by
  rw [drop_at hy] at h; simpa [addTo, hn] using h
theorem add_d {l out r : List Pair} {y : Pair} {k : Nat} (h : out ++ l.drop k = r) (hy : l[k]? = some y) : (out ++ [y]) ++ l.drop (k + 1) = r := by
  rw [drop_at hy] at h; simpa using h
theorem add_e {l out r : List Pair} {k : Nat} (h : out ++ l.drop k = r) (hk : l.length ≤ k) : out = r := by
  rw [List.drop_of_length_le hk] at h; simpa using h
/-! spec.l2Add -/
set_option maxRecDepth 20000 in
set_option maxHeartbeats 2000000 in
theorem spec_l2Add (w : World) {Alist : Option Addr} {clist : Nat} {list : List Pair} {slist_ : List Nat} (hlist : (Kd.sl kPairS).Rel w [.slice Alist list.length clist] list [] slist_) {Ap1 : Option Addr} {cp1 : Nat} {Ap2 : Option Addr} {cp2 : Nat} {p : Pair} {sp_ : List Nat} (hp : kPairS.Rel w [.int .i64 p.id, .slice Ap1 p.rect.low.length cp1, .slice Ap2 p.rect.high.length cp2] p [] sp_) (hz : list.length ≤ 1048576) : Calls Tryz.prog 83 #[.slice Alist list.length clist, .agg #[.int .i64 p.id, .slice Ap1 p.rect.low.length cp1, .slice Ap2 p.rect.high.length cp2]] w (Made (Kd.row 91 kPairS) w (addTo list p) (slist_ ++ sp_)) := by
  have Llist := Kd.sl_len hlist; have Clist := Kd.sl_cap hlist
  refine fnc (X := X12 45 w) (args := [.slice Alist list.length clist, .agg #[.int .i64 p.id, .slice Ap1 p.rect.low.length cp1, .slice Ap2 p.rect.high.length cp2]]) (l := [(0, .slice Alist list.length clist), (1, .agg #[.int .i64 p.id, .slice Ap1 p.rect.low.length cp1, .slice Ap2 p.rect.high.length cp2])]) (G := [dat kPairS [.int .i64 p.id, .slice Ap1 p.rect.low.length cp1, .slice Ap2 p.rect.high.length cp2] p ([]) sp_, dat (Kd.sl kPairS) [.slice Alist list.length clist] list ([]) slist_]) Tryz.func83 rfl rfl rfl ⟨rfl, rfl, trivial⟩ (s0d hp (s0d hlist (s0n w))).1 ?_
  refine sq (rg (bx rfl rfl rfl rfl ?_))
  intro b1
  refine a_ rfl rfl (en (nx (sq (rg (bs0 (dk := kPairS) rfl info91 rfl rfl ?_)))))
  intro b2
  refine a_ rfl rfl (en (nx (sq (rg (a_ rfl rfl (en (nx (sq (sq (rg (a_ rfl rfl (en (nx (bk ?_))))))))))))))
  refine lp (σ := Nat × Bool × List Pair × Option Addr × Nat × List Nat × List Nat) (fun z_ : Nat × Bool × List Pair × Option Addr × Nat × List Nat × List Nat => match z_ with | (k, done, out, A_, c_, o_, s_) => [(0, .slice Alist list.length clist), (3, .pointer (some ⟨b1, 0, none⟩)), (5, .slice A_ out.length c_), (6, .bool done), (7, .int .i64 ((k : Nat) : Int))])
      (fun z_ : Nat × Bool × List Pair × Option Addr × Nat × List Nat × List Nat => match z_ with | (k, done, out, A_, c_, o_, s_) => [dat (Kd.row 91 kPairS) [.slice A_ out.length c_] out o_ s_, blk b1 [.int .i64 p.id, .slice Ap1 p.rect.low.length cp1, .slice Ap2 p.rect.high.length cp2] 91, dat kPairS [.int .i64 p.id, .slice Ap1 p.rect.low.length cp1, .slice Ap2 p.rect.high.length cp2] p ([]) sp_, dat (Kd.sl kPairS) [.slice Alist list.length clist] list ([]) slist_])
      (fun z_ : Nat × Bool × List Pair × Option Addr × Nat × List Nat × List Nat => match z_ with | (k, done, out, A_, c_, o_, s_) => k ≤ list.length ∧ ((done = false ∧ out ++ addTo (list.drop k) p = addTo list p) ∨ (done = true ∧ out ++ list.drop k = addTo list p)) ∧ (∀ q ∈ s_, q ∈ slist_ ∨ q ∈ sp_ ∨ w.heap.size ≤ q) ∧ out.length ≤ k + done.toNat) (fun z_ : Nat × Bool × List Pair × Option Addr × Nat × List Nat × List Nat => match z_ with | (k, done, out, A_, c_, o_, s_) => list.length - k) (0, false, [], (some ⟨b2, 0, none⟩), 0, [b2], []) [0, 0, 0, 0] ⟨Nat.zero_le _, by simp, by simp, by simp⟩ ⟨rfl, rfl, rfl, rfl, rfl, trivial⟩ rfl ?_
  rintro ⟨k, done, out, A_, c_, o_, s_⟩ hp_
  obtain ⟨hk, hinv, hsee, hlen⟩ := hp_; have hd := Bool.toNat_le done
  refine sq (sq (rg (m_ rfl rfl (m_ rfl rfl (vl (ln rfl rfl rfl) rfl (vl (cm rfl rfl rfl rfl) rfl (en (nx ?_))))))))
  by_cases h3 : ((k : Nat) : Int) < ((list.length : Nat) : Int)
  · refine ct rfl (decide_eq_true h3) (sk (nx (sq (bk (sq (sq ?_))))))
    by_cases h4 : done = true
    · refine r0 (qv 0 rfl (mv rfl rfl) rfl (by kernel_rfl) (qv 1 rfl (nt rfl rfl) rfl (by kernel_rfl) (qv 2 rfl (mv rfl rfl) rfl (by kernel_rfl) (qs 3 rfl rfl rfl (not_f h4) (by kernel_rfl) (qs 4 rfl rfl rfl (not_f h4) (by kernel_rfl) (qs 5 rfl rfl rfl (not_f h4) (by kernel_rfl) (qs 6 rfl rfl rfl (not_f h4) (by kernel_rfl) (qs 7 rfl rfl rfl (not_f h4) (by kernel_rfl) (qs 8 rfl rfl rfl (not_f h4) (by kernel_rfl) (qs 9 rfl rfl rfl (not_f h4) (by kernel_rfl) (qs 10 rfl rfl rfl (not_f h4) (by kernel_rfl) (qv 11 rfl (pk (b := false) rfl rfl (not_f h4) rfl) rfl (by kernel_rfl) (qe [0, 0, 0, 0] (by kernel_rfl) rfl (nx (cf rfl rfl (sk (nx (rg (m_ rfl rfl (m_ rfl rfl (m_ rfl rfl ?_)))))))))))))))))))))
      refine gx 3 k rfl (by omega) fun y10 p5 cs_ s6 w9 m11 e7 r8 us6 => ?_
      obtain ⟨A12, c13, A14, c15, rfl⟩ := kPairS_sh r8
      refine vl (ix k e7 rfl rfl rfl rfl rfl (by omega)) rfl (vl (ldq 0 rfl rfl rfl rfl rfl rfl rfl) rfl ?_)
      refine gp 0 Kd.Sub.rfl rfl (cs' := [.int .i64 y10.id, .slice A12 y10.rect.low.length c13, .slice A14 y10.rect.high.length c15]) rfl fun s17 w_ rs17 us17 => ?_
      refine gd 0 Kd.Sub.rfl rfl (cs' := [.int .i64 y10.id, .slice A12 y10.rect.low.length c13, .slice A14 y10.rect.high.length c15]) rfl fun s18 w_ rs18 us18 => ?_
      refine bs1 (dk := kPairS) rfl info91 (by decide) rfl rfl rfl rfl ?_
      intro b16
      refine f3 (ap (out ++ [y10]) rfl info91 rfl rfl (by decide) rfl rfl rfl rfl (by simp only [List.length_append, List.length_cons, List.length_nil]; omega) (by simp only [List.length_append, List.length_cons, List.length_nil]; omega) rfl (fun A19 c20 o21 s22 t23 => ?_))
      exact a_ rfl rfl (en (xn (nx (rg (m_ rfl rfl (vl (ra (c := ((k + 1 : Nat) : Int)) rfl rfl rfl (by omega) (by omega) (by omega)) rfl (a_ rfl rfl (en (lpe (s := (k, done, out, A_, c_, o_, s_)) (k + 1, done, (out ++ [y10]), A19, c20, o21, s22) [0, 2, 2, 2] ⟨by omega, (by cases done <;> simp at hinv <;> first | contradiction | exact .inr ⟨rfl, add_d hinv m11⟩ | exact .inl ⟨rfl, add_n hinv m11 (by simpa using h4)⟩ | simp_all), by grind, by first | omega | (simp only [List.length_append, List.length_cons, List.length_nil]; omega) | (cases done <;> simp_all <;> omega)⟩ (by show list.length - (k + 1) < list.length - k; omega) ⟨rfl, rfl, rfl, rfl, rfl, trivial⟩ rfl)))))))))
    · refine gx 3 k rfl (by omega) fun y29 p24 cs_ s25 w28 m30 e26 r27 us25 => ?_
      obtain ⟨A31, c32, A33, c34, rfl⟩ := kPairS_sh r27
      refine r0 (qv 0 rfl (mv rfl rfl) rfl (by kernel_rfl) (qv 1 rfl (nt rfl rfl) rfl (by kernel_rfl) (qv 2 rfl (mv rfl rfl) rfl (by kernel_rfl) (qg 3 rfl (mv rfl rfl) rfl rfl (not_t (Bool.eq_false_iff.2 h4)) (by kernel_rfl) (qg 4 rfl (mv rfl rfl) rfl rfl (not_t (Bool.eq_false_iff.2 h4)) (by kernel_rfl) (qg 5 rfl (ix k e26 rfl rfl rfl rfl rfl (by omega)) rfl rfl (not_t (Bool.eq_false_iff.2 h4)) (by kernel_rfl) (qg 6 rfl (fa rfl rfl rfl) rfl rfl (not_t (Bool.eq_false_iff.2 h4)) (by kernel_rfl) (qg 7 rfl (ldp (u := .int .i64 y29.id) 0 rfl rfl rfl rfl rfl rfl rfl) rfl rfl (not_t (Bool.eq_false_iff.2 h4)) (by kernel_rfl) (qg 8 rfl (fa rfl rfl rfl) rfl rfl (not_t (Bool.eq_false_iff.2 h4)) (by kernel_rfl) (qg 9 rfl (ldb (u := .int .i64 p.id) 2 rfl rfl rfl rfl rfl rfl rfl) rfl rfl (not_t (Bool.eq_false_iff.2 h4)) (by kernel_rfl) (qg 10 rfl (cm rfl rfl rfl rfl) rfl rfl (not_t (Bool.eq_false_iff.2 h4)) (by kernel_rfl) (qv 11 rfl (pk (b := true) rfl rfl (not_t (Bool.eq_false_iff.2 h4)) rfl) rfl (by kernel_rfl) (qe [0, 0, 0, 0, 0] (by kernel_rfl) rfl (nx ?_))))))))))))))
      by_cases h35 : p.id < y29.id
      · refine ct rfl (decide_eq_true h35) (sq (rg (m_ rfl rfl (vl (ldb 2 rfl rfl rfl rfl rfl rfl rfl) rfl ?_))))
        refine gd 3 Kd.Sub.rfl rfl (cs' := [.int .i64 p.id, .slice Ap1 p.rect.low.length cp1, .slice Ap2 p.rect.high.length cp2]) rfl fun s37 w_ rs37 us37 => ?_
        refine bs1 (dk := kPairS) rfl info91 (by decide) rfl rfl rfl rfl ?_
        intro b36
        refine f2 (ap (out ++ [p]) rfl info91 rfl rfl (by decide) rfl rfl rfl rfl (by simp only [List.length_append, List.length_cons, List.length_nil]; omega) (by simp only [List.length_append, List.length_cons, List.length_nil]; omega) rfl (fun A38 c39 o40 s41 t42 => ?_))
        refine a_ rfl rfl (en (nx (rg (a_ rfl rfl (en (nx (rg (m_ rfl rfl (m_ rfl rfl (m_ rfl rfl (vl (ix k e26 rfl rfl rfl rfl rfl (by omega)) rfl (vl (ldq 1 rfl rfl rfl rfl rfl rfl rfl) rfl ?_))))))))))))
        refine gp 1 Kd.Sub.rfl rfl (cs' := [.int .i64 y29.id, .slice A31 y29.rect.low.length c32, .slice A33 y29.rect.high.length c34]) rfl fun s44 w_ rs44 us44 => ?_
        refine gd 0 Kd.Sub.rfl rfl (cs' := [.int .i64 y29.id, .slice A31 y29.rect.low.length c32, .slice A33 y29.rect.high.length c34]) rfl fun s45 w_ rs45 us45 => ?_
        refine bs1 (dk := kPairS) rfl info91 (by decide) rfl rfl rfl rfl ?_
        intro b43
        refine f2 (ap ((out ++ [p]) ++ [y29]) rfl info91 rfl rfl (by decide) rfl rfl rfl rfl (by simp only [List.length_append, List.length_cons, List.length_nil]; omega) (by simp only [List.length_append, List.length_cons, List.length_nil]; omega) rfl (fun A46 c47 o48 s49 t50 => ?_))
        exact a_ rfl rfl (en (xn (nx (rg (m_ rfl rfl (vl (ra (c := ((k + 1 : Nat) : Int)) rfl rfl rfl (by omega) (by omega) (by omega)) rfl (a_ rfl rfl (en (lpe (s := (k, done, out, A_, c_, o_, s_)) (k + 1, true, ((out ++ [p]) ++ [y29]), A46, c47, o48, s49) [0, 2, 2, 2] ⟨by omega, (by cases done <;> simp at hinv <;> first | contradiction | exact .inr ⟨rfl, add_y hinv m30 h35⟩ | simp_all), by grind, by first | omega | (simp only [List.length_append, List.length_cons, List.length_nil]; omega) | (cases done <;> simp_all <;> omega)⟩ (by show list.length - (k + 1) < list.length - k; omega) ⟨rfl, rfl, rfl, rfl, rfl, trivial⟩ rfl)))))))))
      · refine cf rfl (decide_eq_false h35) (sk (nx (rg (m_ rfl rfl (m_ rfl rfl (m_ rfl rfl (vl (ix k e26 rfl rfl rfl rfl rfl (by omega)) rfl (vl (ldq 0 rfl rfl rfl rfl rfl rfl rfl) rfl ?_))))))))
        refine gp 0 Kd.Sub.rfl rfl (cs' := [.int .i64 y29.id, .slice A31 y29.rect.low.length c32, .slice A33 y29.rect.high.length c34]) rfl fun s52 w_ rs52 us52 => ?_
        refine gd 0 Kd.Sub.rfl rfl (cs' := [.int .i64 y29.id, .slice A31 y29.rect.low.length c32, .slice A33 y29.rect.high.length c34]) rfl fun s53 w_ rs53 us53 => ?_
        refine bs1 (dk := kPairS) rfl info91 (by decide) rfl rfl rfl rfl ?_
        intro b51
        refine f3 (ap (out ++ [y29]) rfl info91 rfl rfl (by decide) rfl rfl rfl rfl (by simp only [List.length_append, List.length_cons, List.length_nil]; omega) (by simp only [List.length_append, List.length_cons, List.length_nil]; omega) rfl (fun A54 c55 o56 s57 t58 => ?_))
        exact a_ rfl rfl (en (xn (nx (rg (m_ rfl rfl (vl (ra (c := ((k + 1 : Nat) : Int)) rfl rfl rfl (by omega) (by omega) (by omega)) rfl (a_ rfl rfl (en (lpe (s := (k, done, out, A_, c_, o_, s_)) (k + 1, done, (out ++ [y29]), A54, c55, o56, s57) [0, 2, 2, 2] ⟨by omega, (by cases done <;> simp at hinv <;> first | contradiction | exact .inr ⟨rfl, add_d hinv m30⟩ | exact .inl ⟨rfl, add_n hinv m30 (by simpa using h35)⟩ | simp_all), by grind, by first | omega | (simp only [List.length_append, List.length_cons, List.length_nil]; omega) | (cases done <;> simp_all <;> omega)⟩ (by show list.length - (k + 1) < list.length - k; omega) ⟨rfl, rfl, rfl, rfl, rfl, trivial⟩ rfl)))))))))
  · refine cf rfl (decide_eq_false h3) (xt (xq (xq (xb (nx (sq (sq (rg (m_ rfl rfl (vl (nt rfl rfl) rfl (en (nx ?_))))))))))))
    by_cases h59 : done = true
    · exact cf rfl (not_f h59) (sk (nx (sq (rg (m_ rfl rfl (a_ rfl rfl (en (nx (rt (gr (addTo list p) (by cases done <;> simp at hinv <;> first | contradiction | exact add_0 hinv (by omega) | exact add_e hinv (by omega) | simp_all) (ret1 rfl rfl (fun w_ hs_ => made hs_ rfl (by grind)))))))))))))
    · refine ct rfl (not_t (Bool.eq_false_iff.2 h59)) (rg (m_ rfl rfl (vl (ldb 1 rfl rfl rfl rfl rfl rfl rfl) rfl ?_)))
      refine gd 2 Kd.Sub.rfl rfl (cs' := [.int .i64 p.id, .slice Ap1 p.rect.low.length cp1, .slice Ap2 p.rect.high.length cp2]) rfl fun s61 w_ rs61 us61 => ?_
      refine bs1 (dk := kPairS) rfl info91 (by decide) rfl rfl rfl rfl ?_
      intro b60
      refine f1 (ap (out ++ [p]) rfl info91 rfl rfl (by decide) rfl rfl rfl rfl (by simp only [List.length_append, List.length_cons, List.length_nil]; omega) (by simp only [List.length_append, List.length_cons, List.length_nil]; omega) rfl (fun A62 c63 o64 s65 t66 => ?_))
      exact a_ rfl rfl (en (nx (sq (rg (m_ rfl rfl (a_ rfl rfl (en (nx (rt (gr (addTo list p) (by cases done <;> simp at hinv <;> first | contradiction | exact add_0 hinv (by omega) | exact add_e hinv (by omega) | simp_all) (ret1 rfl rfl (fun w_ hs_ => made hs_ rfl (by grind)))))))))))))
theorem addTo_len (p : Pair) : ∀ l : List Pair, (addTo l p).length = l.length + 1
  | [] => rfl
  | q :: r => by unfold addTo; split <;> simp [addTo_len p r]
end Go.Proofs.YtfaflffdekoimaaGreat.Sx
