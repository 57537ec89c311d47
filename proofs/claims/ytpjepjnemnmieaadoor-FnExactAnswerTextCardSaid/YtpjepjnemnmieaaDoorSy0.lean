/- What functions of the program answer, each at every input that its row names; walked through their code. -/
import Derived.Test.YtpjepjnemnmieaaDoorSxb
import Derived.Test.YtpjepjnemnmieaaDoorProg
import Derived.KernelRfl
import Derived.Shelf.Strconv.Itoa4
import Derived.Shelf.Strconv.ErrVarParseInt
import Derived.Shelf.Strings.Prefix
import Derived.Lib.AtoiErrMem
import Derived.Lib.ItoaMem
import Derived.Lib.ParseIntBCases
import Derived.Lib.Strings
import Derived.Shelf.Strings.OnBuilder
namespace Go.Proofs.YtpjepjnemnmieaaDoor.Sx
open Go Go.RowKit Go.Proofs
set_option linter.unusedVariables false
set_option linter.unusedSimpArgs false
def tab : Tab := { size := [(2, 1, false), (9, 1, false), (29, 1, false), (31, 2, true), (33, 3, true), (36, 2, true), (38, 2, true), (40, 3, true), (49, 1, false), (51, 2, true), (54, 1, false), (56, 2, true)], off := [((31, 0), 0), ((31, 1), 1), ((33, 0), 0), ((33, 1), 1), ((36, 0), 0), ((36, 1), 1), ((38, 0), 0), ((38, 1), 1), ((40, 0), 0), ((40, 1), 1), ((51, 0), 0), ((51, 1), 1), ((56, 0), 0), ((56, 1), 1)], elem := [(22, 9), (29, 2), (49, 33), (54, 40), (96, 5)] }
theorem tab_ok : tab.check Tryd.prog = true := by kernel_rfl
theorem wide : Tryd.prog.follows .mixedOrders = true := by kernel_rfl
noncomputable abbrev X (N : Nat) (w : World) : Cx := ⟨Tryd.prog, tab, tab_ok, wide, N, w, none, []⟩
theorem zero36 : (Tryd.prog.info? 36).bind (·.zero) = some (.agg #[.int .i64 0, .string ByteArray.empty]) := by kernel_rfl
theorem zero38 : (Tryd.prog.info? 38).bind (·.zero) = some (.agg #[.slice none 0 0, .slice none 0 0]) := by kernel_rfl
theorem zero40 : (Tryd.prog.info? 40).bind (·.zero) = some (.agg #[.int .i64 0, .slice none 0 0, .slice none 0 0]) := by kernel_rfl
theorem zero56 : (Tryd.prog.info? 56).bind (·.zero) = some (.agg #[.int .i64 0, .slice none 0 0]) := by kernel_rfl
theorem info2 : (Tryd.prog.info? 2).map (fun i => (i.zero, i.size, i.bytes)) = some (some (.int .i64 0), 1, 8) := by kernel_rfl
theorem info5 : (Tryd.prog.info? 5).map (fun i => (i.zero, i.size, i.bytes)) = some (some (.int .u8 0), 1, 1) := by kernel_rfl
theorem info9 : (Tryd.prog.info? 9).map (fun i => (i.zero, i.size, i.bytes)) = some (some (.string ByteArray.empty), 1, 16) := by kernel_rfl
theorem info40 : (Tryd.prog.info? 40).map (fun i => (i.zero, i.size, i.bytes)) = some (some (.agg #[.int .i64 0, .slice none 0 0, .slice none 0 0]), 3, 56) := by kernel_rfl
theorem bld36 : bld Tryd.prog 36 = some ([(0, 1), (1, 1)], [.int .i64 0, .string ByteArray.empty]) := by kernel_rfl

structure Rect where
  low : List Int
  high : List Int
  deriving DecidableEq
def kRectS : Kd Rect := (((Kd.sl Kd.i64).via Rect.low).cat ((Kd.sl Kd.i64).via Rect.high))
theorem kRectS_sh {w : World} {cs : List Value} {x : Rect} {o s : List Nat} (h : kRectS.Rel w cs x o s) : ∃ (A0 : Option Addr) (c0 : Nat) (A1 : Option Addr) (c1 : Nat), cs = [.slice A0 x.low.length c0, .slice A1 x.high.length c1] := by
  obtain ⟨c10, c20, o10, o20, s10, s20, rfl, rfl, rfl, h0, k0⟩ := h
  obtain ⟨-, A0_, c0_, rfl, -⟩ := h0
  obtain ⟨-, A1_, c1_, rfl, -⟩ := k0
  exact ⟨_, _, _, _, rfl⟩
theorem kRectS_p0_1 : Kd.Sub kRectS 0 (Kd.sl Kd.i64) (fun x => x.low) := (Kd.Sub.left (Kd.Sub.rfl.via Rect.low) _ (by decide))
theorem kRectS_p1_1 : Kd.Sub kRectS 1 (Kd.sl Kd.i64) (fun x => x.high) := (Kd.Sub.right (Kd.Sub.rfl.via Rect.high) _)
theorem kRectS_self : Kd.Seals kRectS kRectS := (Kd.Seals.cat (Kd.Seals.via Kd.Seals.refl_sl _) (Kd.Seals.via Kd.Seals.refl_sl _))
theorem kRectS_pure : Kd.Pure kRectS := (Kd.Pure.cat (Kd.Pure.via (Kd.Pure.sl _) _) (Kd.Pure.via (Kd.Pure.sl _) _))
def kRectO : Kd Rect := (((Kd.row 2 Kd.i64).via Rect.low).cat ((Kd.row 2 Kd.i64).via Rect.high))
theorem kRectO_sh {w : World} {cs : List Value} {x : Rect} {o s : List Nat} (h : kRectO.Rel w cs x o s) : ∃ (A0 : Option Addr) (c0 : Nat) (A1 : Option Addr) (c1 : Nat), cs = [.slice A0 x.low.length c0, .slice A1 x.high.length c1] := by
  obtain ⟨c10, c20, o10, o20, s10, s20, rfl, rfl, rfl, h0, k0⟩ := h
  obtain ⟨A0_, c0_, rfl⟩ := Kd.row_sh h0
  obtain ⟨A1_, c1_, rfl⟩ := Kd.row_sh k0
  exact ⟨_, _, _, _, rfl⟩
theorem kRectO_seal : Kd.Seals kRectO kRectS := (Kd.Seals.cat (Kd.Seals.via (Kd.Seals.row Kd.Seals.i64 _) _) (Kd.Seals.via (Kd.Seals.row Kd.Seals.i64 _) _))
theorem Rect_eq (a b : Rect) : decide (a = b) = (decide (a.low = b.low) && decide (a.high = b.high)) := by
  cases a; cases b; rw [Bool.eq_iff_iff]; simp [and_assoc]
def within (n low high : Int) : Bool := decide (low ≤ n ∧ n ≤ high)
theorem within_t {n low high : Int} (h : within n low high = true) : low ≤ n ∧ n ≤ high := of_decide_eq_true h
theorem within_f {n low high : Int} (h : ¬ within n low high = true) : ¬ (low ≤ n ∧ n ≤ high) := fun k => h (decide_eq_true k)
def isDims (d : Int) : Bool := within d 2 3
/-! impl.within -/
set_option maxRecDepth 20000 in
set_option maxHeartbeats 2000000 in
theorem impl_within (w : World) (n : Int) (low : Int) (high : Int)  : Calls Tryd.prog 47 #[.int .i64 n, .int .i64 low, .int .i64 high] w (fun e_ w2_ => e_ = .returned (.bool (within n low high)) ∧ Below w.heap.size w w2_) := by
  refine fnc (X := X 15 w) (args := [.int .i64 n, .int .i64 low, .int .i64 high]) (l := [(0, .int .i64 n), (1, .int .i64 low), (2, .int .i64 high)]) (G := []) Tryd.func47 rfl rfl rfl ⟨rfl, rfl, rfl, trivial⟩ (s0n w).1 ?_
  refine sq (rg (a_ rfl rfl (en (nx (sq (rg (m_ rfl rfl (m_ rfl rfl (vl (cm rfl rfl rfl rfl) rfl (m_ rfl rfl ?_))))))))))
  by_cases h1 : low ≤ n
  · refine vg (mv rfl rfl) rfl rfl (decide_eq_true h1) (vg (mv rfl rfl) rfl rfl (decide_eq_true h1) (vg (cm rfl rfl rfl rfl) rfl rfl (decide_eq_true h1) (vl (pk (b := true) rfl rfl (decide_eq_true h1) rfl) rfl (a_ rfl rfl (en (nx (rt (ret1 rfl rfl (fun w_ hs_ => ⟨?_, hs_.below⟩)))))))))
    simp [within, h1]
  · refine sg rfl rfl (decide_eq_false h1) (sg rfl rfl (decide_eq_false h1) (sg rfl rfl (decide_eq_false h1) (vl (pk (b := false) rfl rfl (decide_eq_false h1) rfl) rfl (a_ rfl rfl (en (nx (rt (ret1 rfl rfl (fun w_ hs_ => ⟨?_, hs_.below⟩)))))))))
    simp [within, h1]
/-! spec.l1In -/
set_option maxRecDepth 20000 in
set_option maxHeartbeats 2000000 in
theorem spec_l1In (w : World) (n : Int) (low : Int) (high : Int)  : Calls Tryd.prog 44 #[.int .i64 n, .int .i64 low, .int .i64 high] w (fun e_ w2_ => e_ = .returned (.bool (within n low high)) ∧ Below w.heap.size w w2_) := by
  refine fnc (X := X 15 w) (args := [.int .i64 n, .int .i64 low, .int .i64 high]) (l := [(0, .int .i64 n), (1, .int .i64 low), (2, .int .i64 high)]) (G := []) Tryd.func44 rfl rfl rfl ⟨rfl, rfl, rfl, trivial⟩ (s0n w).1 ?_
  refine sq (rg (a_ rfl rfl (en (nx (sq (rg (m_ rfl rfl (m_ rfl rfl (vl (cm rfl rfl rfl rfl) rfl (m_ rfl rfl ?_))))))))))
  by_cases h1 : low ≤ n
  · refine vg (mv rfl rfl) rfl rfl (decide_eq_true h1) (vg (mv rfl rfl) rfl rfl (decide_eq_true h1) (vg (cm rfl rfl rfl rfl) rfl rfl (decide_eq_true h1) (vl (pk (b := true) rfl rfl (decide_eq_true h1) rfl) rfl (a_ rfl rfl (en (nx (rt (ret1 rfl rfl (fun w_ hs_ => ⟨?_, hs_.below⟩)))))))))
    simp [within, h1]
  · refine sg rfl rfl (decide_eq_false h1) (sg rfl rfl (decide_eq_false h1) (sg rfl rfl (decide_eq_false h1) (vl (pk (b := false) rfl rfl (decide_eq_false h1) rfl) rfl (a_ rfl rfl (en (nx (rt (ret1 rfl rfl (fun w_ hs_ => ⟨?_, hs_.below⟩)))))))))
    simp [within, h1]
/-! impl.isDims -/
set_option maxRecDepth 20000 in
set_option maxHeartbeats 2000000 in
theorem impl_isDims (w : World) (dims : Int)  : Calls Tryd.prog 80 #[.int .i64 dims] w (fun e_ w2_ => e_ = .returned (.bool (isDims dims)) ∧ Below w.heap.size w w2_) := by
  refine fnc (X := X 5 w) (args := [.int .i64 dims]) (l := [(0, .int .i64 dims)]) (G := []) Tryd.func80 rfl rfl rfl ⟨rfl, trivial⟩ (s0n w).1 ?_
  refine sq (rg (a_ rfl rfl (en (nx (sq (rg (m_ rfl rfl (cs_ (v := .bool (within dims 2 3)) (by kernel_rfl) rfl rfl rfl (fun w_ hs_ => impl_within w_ _ _ _) (a_ rfl rfl (en (nx (rt (ret1 rfl rfl (fun w_ hs_ => ⟨?_, hs_.below⟩))))))))))))))
  rfl
/-! slices.IndexFunc[[]int64,int64] -/
set_option maxRecDepth 20000 in
set_option maxHeartbeats 2000000 in
theorem slices_IndexFunc_int64_int64 (w : World) (p : Int → Bool) {fp : FuncId} {cfp : List Value} (hEp : enters Tryd.prog fp = true) {As : Option Addr} {cs : Nat} {s : List Int} {ss_ : List Nat} (hs : (Kd.sl Kd.i64).Rel w [.slice As s.length cs] s [] ss_) (hfp : ∀ (w1 : World) (x0 : Int), x0 ∈ s → Below w.heap.size w w1 → Calls Tryd.prog fp (([.int .i64 x0] : List Value) ++ cfp).toArray w1 (fun e_ w2_ => e_ = .returned (.bool (p x0)) ∧ Below w1.heap.size w1 w2_))  : Calls Tryd.prog 99 #[.slice As s.length cs, .func (.func fp) #[] cfp.toArray] w (fun e_ w2_ => e_ = .returned (.int .i64 (idx p s)) ∧ Below w.heap.size w w2_) := by
  have Ls := Kd.sl_len hs; have Cs := Kd.sl_cap hs
  refine fnc (X := X 19 w) (args := [.slice As s.length cs, .func (.func fp) #[] cfp.toArray]) (l := [(0, .slice As s.length cs), (1, .func (.func fp) #[] cfp.toArray)]) (G := [dat (Kd.sl Kd.i64) [.slice As s.length cs] s ([]) ss_]) Tryd.func99 rfl rfl rfl ⟨rfl, rfl, trivial⟩ (s0d hs (s0n w)).1 ?_
  refine sq (rg (a_ rfl rfl (en (nx (sq (sq (rg (m_ rfl rfl (vl (ln rfl rfl rfl) rfl (m_ rfl rfl (en (nx (bk ?_)))))))))))))
  refine lp (σ := Nat) (fun k : Nat => [(0, .slice As s.length cs), (1, .func (.func fp) #[] cfp.toArray), (7, .int .i64 ((s.length : Nat) : Int)), (8, .int .i64 ((k : Nat) : Int))])
      (fun k : Nat => [dat (Kd.sl Kd.i64) [.slice As s.length cs] s ([]) ss_])
      (fun k : Nat => k ≤ s.length ∧ ∀ j x, j < k → s[j]? = some x → p x = false) (fun k : Nat => s.length - k) 0 [0] ⟨Nat.zero_le _, by simp⟩ ⟨rfl, rfl, rfl, rfl, trivial⟩ rfl ?_
  intro k hp_
  obtain ⟨hk, hinv⟩ := hp_
  refine sq (rg (vl (cm rfl rfl rfl rfl) rfl (en (nx (sq ?_)))))
  by_cases h1 : ((k : Nat) : Int) < ((s.length : Nat) : Int)
  · refine ct rfl (decide_eq_true h1) (sk (nx (sq (bk (sq (rg (m_ rfl rfl (a_ rfl rfl (en (nx (sq (rg (m_ rfl rfl (m_ rfl rfl (m_ rfl rfl ?_)))))))))))))))
    refine gx 0 k rfl (by omega) fun y7 p2 cs_ s3 w6 m8 e4 r5 us3 => ?_
    obtain ⟨rfl, -, -⟩ := r5
    refine vl (ix k e4 rfl rfl rfl rfl rfl (by omega)) rfl (vl (ldq (u := .int .i64 y7) 0 rfl rfl rfl rfl rfl rfl rfl) rfl (cv_ (v := .bool (p y7)) hEp rfl rfl rfl rfl (fun w_ hs_ => hfp w_ y7 (List.mem_of_getElem? m8) hs_.below  ) (en (nx ?_))))
    by_cases h9 : p y7 = true
    · refine ct rfl h9 (sq (rg (m_ rfl rfl (a_ rfl rfl (en (nx (rt (xrb (xr (xr (xrb (xr (ret1 rfl rfl (fun w_ hs_ => ⟨?_, hs_.below⟩))))))))))))))
      rw [idx_some hinv m8 h9]
    · exact cf rfl (Bool.eq_false_iff.2 h9) (sk (xn (nx (rg (vl (ra (c := ((k + 1 : Nat) : Int)) rfl rfl rfl (by omega) (by omega) (by omega)) rfl (m_ rfl rfl (en (lpe (s := k) (k + 1) [1] ⟨by omega, idx_step hinv m8 (Bool.eq_false_iff.2 h9)⟩ (by omega) ⟨rfl, rfl, rfl, rfl, trivial⟩ rfl))))))))
  · refine cf rfl (decide_eq_false h1) (xt (xq (xq (xb (nx (sq (rg (a_ rfl rfl (en (nx (rt (ret1 rfl rfl (fun w_ hs_ => ⟨?_, hs_.below⟩)))))))))))))
    rw [idx_none hinv (by omega)]
/-! slices.ContainsFunc[[]int64,int64] -/
set_option maxRecDepth 20000 in
set_option maxHeartbeats 2000000 in
theorem slices_ContainsFunc_int64_int64 (w : World) (p : Int → Bool) {fp : FuncId} {cfp : List Value} (hEp : enters Tryd.prog fp = true) {As : Option Addr} {cs : Nat} {s : List Int} {ss_ : List Nat} (hs : (Kd.sl Kd.i64).Rel w [.slice As s.length cs] s [] ss_) (hfp : ∀ (w1 : World) (x0 : Int), x0 ∈ s → Below w.heap.size w w1 → Calls Tryd.prog fp (([.int .i64 x0] : List Value) ++ cfp).toArray w1 (fun e_ w2_ => e_ = .returned (.bool (p x0)) ∧ Below w1.heap.size w1 w2_))  : Calls Tryd.prog 81 #[.slice As s.length cs, .func (.func fp) #[] cfp.toArray] w (fun e_ w2_ => e_ = .returned (.bool (List.any s p)) ∧ Below w.heap.size w w2_) := by
  have Ls := Kd.sl_len hs; have Cs := Kd.sl_cap hs
  refine fnc (X := X 9 w) (args := [.slice As s.length cs, .func (.func fp) #[] cfp.toArray]) (l := [(0, .slice As s.length cs), (1, .func (.func fp) #[] cfp.toArray)]) (G := [dat (Kd.sl Kd.i64) [.slice As s.length cs] s ([]) ss_]) Tryd.func81 rfl rfl rfl ⟨rfl, rfl, trivial⟩ (s0d hs (s0n w)).1 ?_
  refine sq (rg (a_ rfl rfl (en (nx (sq (rg (m_ rfl rfl (m_ rfl rfl (cs_ (v := .int .i64 (idx p s)) (by kernel_rfl) rfl rfl rfl (fun w_ hs_ => slices_IndexFunc_int64_int64 w_ p hEp (hs_.at 0 rfl) (fun w1 x0 m0_ b_ => hfp w1 x0 m0_ (hs_.below.trans (b_.mono hs_.below.size)))) (vl (cm rfl rfl rfl rfl) rfl (a_ rfl rfl (en (nx (rt (ret1 rfl rfl (fun w_ hs_ => ⟨?_, hs_.below⟩))))))))))))))))
  rw [idx_ge]
/-! impl.PointFault$1 -/
set_option maxRecDepth 20000 in
set_option maxHeartbeats 2000000 in
theorem impl_PointFault_1 (w : World) (n : Int)  : Calls Tryd.prog 82 #[.int .i64 n] w (fun e_ w2_ => e_ = .returned (.bool (!within n (-1000) 1000)) ∧ Below w.heap.size w w2_) := by
  refine fnc (X := X 6 w) (args := [.int .i64 n]) (l := [(0, .int .i64 n)]) (G := []) Tryd.func82 rfl rfl rfl ⟨rfl, trivial⟩ (s0n w).1 ?_
  refine sq (rg (a_ rfl rfl (en (nx (sq (rg (m_ rfl rfl (cs_ (v := .bool (within n (-1000) 1000)) (by kernel_rfl) rfl rfl rfl (fun w_ hs_ => impl_within w_ _ _ _) (vl (nt rfl rfl) rfl (a_ rfl rfl (en (nx (rt (ret1 rfl rfl (fun w_ hs_ => ⟨?_, hs_.below⟩)))))))))))))))
  rfl
def pointFault (p : List Int) (dims : Int) : Int := if isDims dims = true then if (p.length : Int) = dims then if p.any (fun n => !within n (-1000) 1000) = true then 3 else 0 else 2 else 3
theorem pointFault_len {p : List Int} {d : Int} (h : pointFault p d = 0) : (p.length : Int) = d := by
  unfold pointFault at h
  split at h
  · split at h
    · assumption
    · simp at h
  · simp at h
def rectBad (lo hi : List Int) : Bool := (lo.zip hi).any (fun q => decide (q.2 < q.1))
theorem rectBad_t {lo hi : List Int} {k : Nat} {a b : Int} (ha : lo[k]? = some a) (hb : hi[k]? = some b) (h : b < a) : rectBad lo hi = true :=
  any_some (k := k) (y := (a, b)) (by rw [List.getElem?_zip_eq_some]; exact ⟨ha, hb⟩) (by simpa using h)
theorem rectBad_f {lo hi : List Int} {k : Nat} (h : ∀ j a b, j < k → lo[j]? = some a → hi[j]? = some b → a ≤ b) (hk : lo.length ≤ k) : rectBad lo hi = false :=
  any_none (k := k) (fun j x hj hx => by
    obtain ⟨h1, h2⟩ := List.getElem?_zip_eq_some.1 hx
    have := h j _ _ hj h1 h2
    simp; omega) (by simp; omega)
theorem rectStep {lo hi : List Int} {k : Nat} {x y : Int} (h : ∀ j a b, j < k → lo[j]? = some a → hi[j]? = some b → a ≤ b) (hx : lo[k]? = some x) (hy : hi[k]? = some y) (hn : ¬ y < x) : ∀ j a b, j < k + 1 → lo[j]? = some a → hi[j]? = some b → a ≤ b := fun j a b hj ha hb => by
  rcases Nat.lt_succ_iff_lt_or_eq.1 hj with hlt | rfl
  · exact h j a b hlt ha hb
  · rw [hx] at ha; rw [hy] at hb; cases ha; cases hb; omega
def rectFault (r : Rect) (dims : Int) : Int := if pointFault r.low dims = 0 then if pointFault r.high dims = 0 then if rectBad r.low r.high = true then 1 else 0 else pointFault r.high dims else pointFault r.low dims
/-! impl.PointFault -/
set_option maxRecDepth 20000 in
set_option maxHeartbeats 2000000 in
theorem impl_PointFault (w : World) (dims : Int) {Ap : Option Addr} {cp : Nat} {p : List Int} {sp_ : List Nat} (hp : (Kd.sl Kd.i64).Rel w [.slice Ap p.length cp] p [] sp_)  : Calls Tryd.prog 69 #[.slice Ap p.length cp, .int .i64 dims] w (fun e_ w2_ => e_ = .returned (.int .i64 (pointFault p dims)) ∧ Below w.heap.size w w2_) := by
  have Lp := Kd.sl_len hp; have Cp := Kd.sl_cap hp
  refine fnc (X := X 17 w) (args := [.slice Ap p.length cp, .int .i64 dims]) (l := [(0, .slice Ap p.length cp), (1, .int .i64 dims)]) (G := [dat (Kd.sl Kd.i64) [.slice Ap p.length cp] p ([]) sp_]) Tryd.func69 rfl rfl rfl ⟨rfl, rfl, trivial⟩ (s0d hp (s0n w)).1 ?_
  refine sq (rg (a_ rfl rfl (en (nx (sq (bk (sq (rg (m_ rfl rfl (cs_ (v := .bool (isDims dims)) (by kernel_rfl) rfl rfl rfl (fun w_ hs_ => impl_isDims w_ _) (vl (nt rfl rfl) rfl (a_ rfl rfl (en (nx ?_))))))))))))))
  by_cases h1 : isDims dims = true
  · refine cf rfl (not_f h1) (sq (rg (m_ rfl rfl (vl (ln rfl rfl rfl) rfl (m_ rfl rfl (vl (cm rfl rfl rfl rfl) rfl (a_ rfl rfl (en (nx ?_)))))))))
    by_cases h2 : ((p.length : Nat) : Int) = dims
    · refine cf rfl (bne_eq_false_iff_eq.2 h2) (sq (rg (m_ rfl rfl (cs_ (v := .bool (List.any p (fun (x0 : Int) => !within x0 (-1000) 1000))) (by kernel_rfl) rfl rfl rfl (fun w_ hs_ => slices_ContainsFunc_int64_int64 w_ (fun (x0 : Int) => !within x0 (-1000) 1000) (by kernel_rfl) (hs_.at 0 rfl) (fun w1 x0 m0_ b_  => impl_PointFault_1 w1 x0 )) (a_ rfl rfl (en (nx ?_)))))))
      by_cases h3 : List.any p (fun (x0 : Int) => !within x0 (-1000) 1000) = true
      · refine ct rfl h3 (sq (rg (a_ rfl rfl (en (nx (rt (xrb (xr (ret1 rfl rfl (fun w_ hs_ => ⟨?_, hs_.below⟩))))))))))
        simp [pointFault, h1, h2, h3]
      · refine cf rfl (Bool.eq_false_iff.2 h3) (sk (xn (nx (sq (rg (a_ rfl rfl (en (nx (rt (ret1 rfl rfl (fun w_ hs_ => ⟨?_, hs_.below⟩)))))))))))
        simp [pointFault, h1, h2, h3]
    · refine ct rfl (bne_iff_ne.2 h2) (sq (rg (a_ rfl rfl (en (nx (rt (xrb (xr (ret1 rfl rfl (fun w_ hs_ => ⟨?_, hs_.below⟩))))))))))
      simp [pointFault, h1, h2]
  · refine ct rfl (not_t (Bool.eq_false_iff.2 h1)) (sq (rg (a_ rfl rfl (en (nx (rt (xrb (xr (ret1 rfl rfl (fun w_ hs_ => ⟨?_, hs_.below⟩))))))))))
    simp [pointFault, h1]
/-! spec.PointFault -/
set_option maxRecDepth 20000 in
set_option maxHeartbeats 2000000 in
theorem spec_PointFault (w : World) (dims : Int) {Ap : Option Addr} {cp : Nat} {p : List Int} {sp_ : List Nat} (hp : (Kd.sl Kd.i64).Rel w [.slice Ap p.length cp] p [] sp_)  : Calls Tryd.prog 67 #[.slice Ap p.length cp, .int .i64 dims] w (fun e_ w2_ => e_ = .returned (.int .i64 (pointFault p dims)) ∧ Below w.heap.size w w2_) := by
  have Lp := Kd.sl_len hp; have Cp := Kd.sl_cap hp
  refine fnc (X := X 25 w) (args := [.slice Ap p.length cp, .int .i64 dims]) (l := [(0, .slice Ap p.length cp), (1, .int .i64 dims)]) (G := [dat (Kd.sl Kd.i64) [.slice Ap p.length cp] p ([]) sp_]) Tryd.func67 rfl rfl rfl ⟨rfl, rfl, trivial⟩ (s0d hp (s0n w)).1 ?_
  refine sq (rg (a_ rfl rfl (en (nx (sq (sq (rg (m_ rfl rfl (cs_ (v := .bool (within dims 2 3)) (by kernel_rfl) rfl rfl rfl (fun w_ hs_ => spec_l1In w_ _ _ _) (vl (nt rfl rfl) rfl (en (nx ?_))))))))))))
  by_cases h1 : within dims 2 3 = true
  · refine cf rfl (not_f h1) (sk (nx (sq (sq (rg (m_ rfl rfl (vl (ln rfl rfl rfl) rfl (m_ rfl rfl (vl (cm rfl rfl rfl rfl) rfl (en (nx ?_)))))))))))
    by_cases h2 : ((p.length : Nat) : Int) = dims
    · refine cf rfl (bne_eq_false_iff_eq.2 h2) (sk (nx (sq (sq (rg (a_ rfl rfl (en (nx (bk ?_)))))))))
      refine lp (σ := Nat) (fun k : Nat => [(0, .slice Ap p.length cp), (5, .int .i64 ((k : Nat) : Int))])
          (fun k : Nat => [dat (Kd.sl Kd.i64) [.slice Ap p.length cp] p ([]) sp_])
          (fun k : Nat => k ≤ p.length ∧ ∀ j x, j < k → p[j]? = some x → (!within x (-1000) 1000) = false) (fun k : Nat => p.length - k) 0 [0] ⟨Nat.zero_le _, by simp⟩ ⟨rfl, rfl, trivial⟩ rfl ?_
      intro k hp_
      obtain ⟨hk, hinv⟩ := hp_
      refine sq (sq (rg (m_ rfl rfl (m_ rfl rfl (vl (ln rfl rfl rfl) rfl (vl (cm rfl rfl rfl rfl) rfl (en (nx ?_))))))))
      by_cases h3 : ((k : Nat) : Int) < ((p.length : Nat) : Int)
      · refine ct rfl (decide_eq_true h3) (sk (nx (sq (bk (sq (rg (m_ rfl rfl (m_ rfl rfl ?_))))))))
        refine gx 0 k rfl (by omega) fun y9 p4 cs_ s5 w8 m10 e6 r7 us5 => ?_
        obtain ⟨rfl, -, -⟩ := r7
        refine vl (ix k e6 rfl rfl rfl rfl rfl (by omega)) rfl (vl (ldq (u := .int .i64 y9) 0 rfl rfl rfl rfl rfl rfl rfl) rfl (cs_ (v := .bool (within y9 (-1000) 1000)) (by kernel_rfl) rfl rfl rfl (fun w_ hs_ => spec_l1In w_ _ _ _) (vl (nt rfl rfl) rfl (en (nx ?_)))))
        by_cases h11 : within y9 (-1000) 1000 = true
        · exact cf rfl (not_f h11) (sk (xn (nx (rg (m_ rfl rfl (vl (ra (c := ((k + 1 : Nat) : Int)) rfl rfl rfl (by omega) (by omega) (by omega)) rfl (a_ rfl rfl (en (lpe (s := k) (k + 1) [1] ⟨by omega, idx_step hinv m10 (not_f h11)⟩ (by omega) ⟨rfl, rfl, trivial⟩ rfl)))))))))
        · refine ct rfl (not_t (Bool.eq_false_iff.2 h11)) (sq (rg (a_ rfl rfl (en (nx (rt (xrb (xr (xr (xrb (xr (ret1 rfl rfl (fun w_ hs_ => ⟨?_, hs_.below⟩)))))))))))))
          simp [pointFault, h1, h2, h3, any_some (p := fun n => !within n (-1000) 1000) m10 (not_t (Bool.eq_false_iff.2 h11))]
      · refine cf rfl (decide_eq_false h3) (xt (xq (xq (xb (nx (sq (rg (a_ rfl rfl (en (nx (rt (ret1 rfl rfl (fun w_ hs_ => ⟨?_, hs_.below⟩)))))))))))))
        simp [pointFault, h1, h2, h3, isDims, any_none (p := fun n => !within n (-1000) 1000) hinv (by omega)]
    · refine ct rfl (bne_iff_ne.2 h2) (sq (rg (a_ rfl rfl (en (nx (rt (xr (ret1 rfl rfl (fun w_ hs_ => ⟨?_, hs_.below⟩)))))))))
      simp [pointFault, isDims, h1, h2]
  · refine ct rfl (not_t (Bool.eq_false_iff.2 h1)) (sq (rg (a_ rfl rfl (en (nx (rt (xr (ret1 rfl rfl (fun w_ hs_ => ⟨?_, hs_.below⟩)))))))))
    simp [pointFault, isDims, h1]
/-! impl.RectFault -/
set_option maxRecDepth 20000 in
set_option maxHeartbeats 2000000 in
theorem impl_RectFault (w : World) (dims : Int) {Ar0 : Option Addr} {cr0 : Nat} {Ar1 : Option Addr} {cr1 : Nat} {r : Rect} {sr_ : List Nat} (hr : kRectS.Rel w [.slice Ar0 r.low.length cr0, .slice Ar1 r.high.length cr1] r [] sr_)  : Calls Tryd.prog 59 #[.agg #[.slice Ar0 r.low.length cr0, .slice Ar1 r.high.length cr1], .int .i64 dims] w (fun e_ w2_ => e_ = .returned (.int .i64 (rectFault r dims)) ∧ Below w.heap.size w w2_) := by
  refine fnc (X := X 39 w) (args := [.agg #[.slice Ar0 r.low.length cr0, .slice Ar1 r.high.length cr1], .int .i64 dims]) (l := [(0, .agg #[.slice Ar0 r.low.length cr0, .slice Ar1 r.high.length cr1]), (1, .int .i64 dims)]) (G := [dat kRectS [.slice Ar0 r.low.length cr0, .slice Ar1 r.high.length cr1] r ([]) sr_]) Tryd.func59 rfl rfl rfl ⟨rfl, rfl, trivial⟩ (s0d hr (s0n w)).1 ?_
  refine sq (rg (bx rfl rfl rfl rfl ?_))
  intro b1
  refine a_ rfl rfl (en (nx (sq (sq (rg (vl (fa rfl rfl rfl) rfl (vl (ldb (u := .slice Ar0 r.low.length cr0) 0 rfl rfl rfl rfl rfl rfl rfl) rfl (m_ rfl rfl ?_))))))))
  refine gd 1 kRectS_p0_1 rfl (cs' := [.slice Ar0 r.low.length cr0]) rfl fun s2 w_ rs2 us2 => ?_
  have Ls2 := Kd.sl_len rs2; have Cs2 := Kd.sl_cap rs2
  refine cs_ (v := .int .i64 (pointFault r.low dims)) (by kernel_rfl) rfl rfl rfl (fun w_ hs_ => impl_PointFault w_ _ (hs_.at 0 rfl)) (a_ rfl rfl (en (nx (sq (rg (m_ rfl rfl (vl (cm rfl rfl rfl rfl) rfl (en (nx ?_)))))))))
  by_cases h3 : (pointFault r.low dims) = (0 : Int)
  · have eh3 := pointFault_len h3
    refine cf rfl (bne_eq_false_iff_eq.2 h3) (sk (nx (sq (sq (rg (vl (fa rfl rfl rfl) rfl (vl (ldb (u := .slice Ar1 r.high.length cr1) 1 rfl rfl rfl rfl rfl rfl rfl) rfl (m_ rfl rfl ?_))))))))
    refine gd 2 kRectS_p1_1 rfl (cs' := [.slice Ar1 r.high.length cr1]) rfl fun s4 w_ rs4 us4 => ?_
    have Ls4 := Kd.sl_len rs4; have Cs4 := Kd.sl_cap rs4
    refine cs_ (v := .int .i64 (pointFault r.high dims)) (by kernel_rfl) rfl rfl rfl (fun w_ hs_ => impl_PointFault w_ _ (hs_.at 0 rfl)) (a_ rfl rfl (en (nx (sq (rg (m_ rfl rfl (vl (cm rfl rfl rfl rfl) rfl (en (nx ?_)))))))))
    by_cases h5 : (pointFault r.high dims) = (0 : Int)
    · have eh5 := pointFault_len h5
      refine cf rfl (bne_eq_false_iff_eq.2 h5) (sk (nx (sq (sq (rg (vl (fa rfl rfl rfl) rfl (vl (ldb (u := .slice Ar0 r.low.length cr0) 2 rfl rfl rfl rfl rfl rfl rfl) rfl (vl (ln rfl rfl rfl) rfl (m_ rfl rfl (en (nx (bk ?_))))))))))))
      refine lp (σ := Nat) (fun k : Nat => [(2, .pointer (some ⟨b1, 0, none⟩)), (24, .slice Ar0 r.low.length cr0), (25, .int .i64 ((r.low.length : Nat) : Int)), (26, .int .i64 ((k : Nat) : Int))])
          (fun k : Nat => [dat (Kd.sl Kd.i64) [.slice Ar1 r.high.length cr1] r.high ([]) s4, dat (Kd.sl Kd.i64) [.slice Ar0 r.low.length cr0] r.low ([]) s2, blk b1 [.slice Ar0 r.low.length cr0, .slice Ar1 r.high.length cr1] 38, dat kRectS [.slice Ar0 r.low.length cr0, .slice Ar1 r.high.length cr1] r ([]) sr_])
          (fun k : Nat => k ≤ r.low.length ∧ ∀ j a b, j < k → r.low[j]? = some a → r.high[j]? = some b → a ≤ b) (fun k : Nat => r.low.length - k) 0 [0, 0, 0, 0] ⟨Nat.zero_le _, by simp⟩ ⟨rfl, rfl, rfl, rfl, trivial⟩ rfl ?_
      intro k hp_
      obtain ⟨hk, hinv⟩ := hp_
      refine sq (rg (vl (cm rfl rfl rfl rfl) rfl (en (nx (sq ?_)))))
      by_cases h6 : ((k : Nat) : Int) < ((r.low.length : Nat) : Int)
      · refine ct rfl (decide_eq_true h6) (sk (nx (sq (bk (sq (rg (m_ rfl rfl ?_)))))))
        refine gx 1 k rfl (by omega) fun y12 p7 cs_ s8 w11 m13 e9 r10 us8 => ?_
        obtain ⟨rfl, -, -⟩ := r10
        refine vl (ix k e9 rfl rfl rfl rfl rfl (by omega)) rfl (vl (ldq (u := .int .i64 y12) 0 rfl rfl rfl rfl rfl rfl rfl) rfl (a_ rfl rfl (a_ rfl rfl (en (nx (sq (rg (m_ rfl rfl (vl (fa rfl rfl rfl) rfl (vl (ldb (u := .slice Ar1 r.high.length cr1) 3 rfl rfl rfl rfl rfl rfl rfl) rfl (m_ rfl rfl ?_)))))))))))
        refine gx 1 k rfl (by omega) fun y19 p14 cs_ s15 w18 m20 e16 r17 us15 => ?_
        obtain ⟨rfl, -, -⟩ := r17
        refine vl (ix k e16 rfl rfl rfl rfl rfl (by omega)) rfl (vl (ldq (u := .int .i64 y19) 0 rfl rfl rfl rfl rfl rfl rfl) rfl (vl (cm rfl rfl rfl rfl) rfl (en (nx ?_))))
        by_cases h21 : y19 < y12
        · refine ct rfl (decide_eq_true h21) (sq (rg (a_ rfl rfl (en (nx (rt (xrb (xr (xr (xrb (xr (ret1 rfl rfl (fun w_ hs_ => ⟨?_, hs_.below⟩)))))))))))))
          simp [rectFault, h3, h5, rectBad_t m13 m20 h21]
        · exact cf rfl (decide_eq_false h21) (sk (xn (nx (rg (vl (ra (c := ((k + 1 : Nat) : Int)) rfl rfl rfl (by omega) (by omega) (by omega)) rfl (m_ rfl rfl (en (lpe (s := k) (k + 1) [2, 2, 2, 2] ⟨by omega, rectStep hinv m13 m20 h21⟩ (by omega) ⟨rfl, rfl, rfl, rfl, trivial⟩ rfl))))))))
      · refine cf rfl (decide_eq_false h6) (xt (xq (xq (xb (nx (sq (rg (a_ rfl rfl (en (nx (rt (ret1 rfl rfl (fun w_ hs_ => ⟨?_, hs_.below⟩)))))))))))))
        simp [rectFault, h3, h5, rectBad_f hinv (by omega)]
    · refine ct rfl (bne_iff_ne.2 h5) (sq (rg (m_ rfl rfl (a_ rfl rfl (en (nx (rt (xr (ret1 rfl rfl (fun w_ hs_ => ⟨?_, hs_.below⟩))))))))))
      simp [rectFault, h3, h5]
  · refine ct rfl (bne_iff_ne.2 h3) (sq (rg (m_ rfl rfl (a_ rfl rfl (en (nx (rt (xr (ret1 rfl rfl (fun w_ hs_ => ⟨?_, hs_.below⟩))))))))))
    simp [rectFault, h3]
/-! spec.RectFault -/
set_option maxRecDepth 20000 in
set_option maxHeartbeats 2000000 in
theorem spec_RectFault (w : World) (dims : Int) {Ar0 : Option Addr} {cr0 : Nat} {Ar1 : Option Addr} {cr1 : Nat} {r : Rect} {sr_ : List Nat} (hr : kRectS.Rel w [.slice Ar0 r.low.length cr0, .slice Ar1 r.high.length cr1] r [] sr_)  : Calls Tryd.prog 55 #[.agg #[.slice Ar0 r.low.length cr0, .slice Ar1 r.high.length cr1], .int .i64 dims] w (fun e_ w2_ => e_ = .returned (.int .i64 (rectFault r dims)) ∧ Below w.heap.size w w2_) := by
  refine fnc (X := X 40 w) (args := [.agg #[.slice Ar0 r.low.length cr0, .slice Ar1 r.high.length cr1], .int .i64 dims]) (l := [(0, .agg #[.slice Ar0 r.low.length cr0, .slice Ar1 r.high.length cr1]), (1, .int .i64 dims)]) (G := [dat kRectS [.slice Ar0 r.low.length cr0, .slice Ar1 r.high.length cr1] r ([]) sr_]) Tryd.func55 rfl rfl rfl ⟨rfl, rfl, trivial⟩ (s0d hr (s0n w)).1 ?_
  refine sq (rg (bx rfl rfl rfl rfl ?_))
  intro b1
  refine a_ rfl rfl (en (nx (sq (sq (rg (vl (fa rfl rfl rfl) rfl (vl (ldb (u := .slice Ar0 r.low.length cr0) 0 rfl rfl rfl rfl rfl rfl rfl) rfl (m_ rfl rfl ?_))))))))
  refine gd 1 kRectS_p0_1 rfl (cs' := [.slice Ar0 r.low.length cr0]) rfl fun s2 w_ rs2 us2 => ?_
  have Ls2 := Kd.sl_len rs2; have Cs2 := Kd.sl_cap rs2
  refine cs_ (v := .int .i64 (pointFault r.low dims)) (by kernel_rfl) rfl rfl rfl (fun w_ hs_ => spec_PointFault w_ _ (hs_.at 0 rfl)) (a_ rfl rfl (en (nx (sq (rg (m_ rfl rfl (vl (cm rfl rfl rfl rfl) rfl (en (nx ?_)))))))))
  by_cases h3 : (pointFault r.low dims) = (0 : Int)
  · have eh3 := pointFault_len h3
    refine cf rfl (bne_eq_false_iff_eq.2 h3) (sk (nx (sq (sq (rg (vl (fa rfl rfl rfl) rfl (vl (ldb (u := .slice Ar1 r.high.length cr1) 1 rfl rfl rfl rfl rfl rfl rfl) rfl (m_ rfl rfl ?_))))))))
    refine gd 2 kRectS_p1_1 rfl (cs' := [.slice Ar1 r.high.length cr1]) rfl fun s4 w_ rs4 us4 => ?_
    have Ls4 := Kd.sl_len rs4; have Cs4 := Kd.sl_cap rs4
    refine cs_ (v := .int .i64 (pointFault r.high dims)) (by kernel_rfl) rfl rfl rfl (fun w_ hs_ => spec_PointFault w_ _ (hs_.at 0 rfl)) (a_ rfl rfl (en (nx (sq (rg (m_ rfl rfl (vl (cm rfl rfl rfl rfl) rfl (en (nx ?_)))))))))
    by_cases h5 : (pointFault r.high dims) = (0 : Int)
    · have eh5 := pointFault_len h5
      refine cf rfl (bne_eq_false_iff_eq.2 h5) (sk (nx (sq (sq (rg (a_ rfl rfl (en (nx (bk ?_)))))))))
      refine lp (σ := Nat) (fun k : Nat => [(2, .pointer (some ⟨b1, 0, none⟩)), (7, .int .i64 ((k : Nat) : Int))])
          (fun k : Nat => [dat (Kd.sl Kd.i64) [.slice Ar1 r.high.length cr1] r.high ([]) s4, dat (Kd.sl Kd.i64) [.slice Ar0 r.low.length cr0] r.low ([]) s2, blk b1 [.slice Ar0 r.low.length cr0, .slice Ar1 r.high.length cr1] 38, dat kRectS [.slice Ar0 r.low.length cr0, .slice Ar1 r.high.length cr1] r ([]) sr_])
          (fun k : Nat => k ≤ r.low.length ∧ ∀ j a b, j < k → r.low[j]? = some a → r.high[j]? = some b → a ≤ b) (fun k : Nat => r.low.length - k) 0 [0, 0, 0, 0] ⟨Nat.zero_le _, by simp⟩ ⟨rfl, rfl, trivial⟩ rfl ?_
      intro k hp_
      obtain ⟨hk, hinv⟩ := hp_
      refine sq (sq (rg (m_ rfl rfl (vl (fa rfl rfl rfl) rfl (vl (ldb (u := .slice Ar0 r.low.length cr0) 2 rfl rfl rfl rfl rfl rfl rfl) rfl (vl (ln rfl rfl rfl) rfl (vl (cm rfl rfl rfl rfl) rfl (en (nx ?_)))))))))
      by_cases h6 : ((k : Nat) : Int) < ((r.low.length : Nat) : Int)
      · refine ct rfl (decide_eq_true h6) (sk (nx (sq (bk (sq ?_)))))
        refine gx 1 k rfl (by omega) fun y12 p7 cs_ s8 w11 m13 e9 r10 us8 => ?_
        obtain ⟨rfl, -, -⟩ := r10
        refine gx 1 k rfl (by omega) fun y19 p14 cs_ s15 w18 m20 e16 r17 us15 => ?_
        obtain ⟨rfl, -, -⟩ := r17
        refine r0 (qv 0 rfl (fa rfl rfl rfl) rfl (by kernel_rfl) (qv 1 rfl (ldb (u := .slice Ar0 r.low.length cr0) 4 rfl rfl rfl rfl rfl rfl rfl) rfl (by kernel_rfl) (qv 2 rfl (mv rfl rfl) rfl (by kernel_rfl) (qv 3 rfl (ix k e9 rfl rfl rfl rfl rfl (by omega)) rfl (by kernel_rfl) (qv 4 rfl (ldq (u := .int .i64 y12) 1 rfl rfl rfl rfl rfl rfl rfl) rfl (by kernel_rfl) (qv 5 rfl (fa rfl rfl rfl) rfl (by kernel_rfl) (qv 6 rfl (ldb (u := .slice Ar1 r.high.length cr1) 4 rfl rfl rfl rfl rfl rfl rfl) rfl (by kernel_rfl) (qv 7 rfl (mv rfl rfl) rfl (by kernel_rfl) (qv 8 rfl (ix k e16 rfl rfl rfl rfl rfl (by omega)) rfl (by kernel_rfl) (qv 9 rfl (ldq (u := .int .i64 y19) 0 rfl rfl rfl rfl rfl rfl rfl) rfl (by kernel_rfl) (qv 10 rfl (cm rfl rfl rfl rfl) rfl (by kernel_rfl) (qe [0, 0, 0, 0, 0, 0] (by kernel_rfl) rfl (nx ?_)))))))))))))
        by_cases h21 : y19 < y12
        · refine ct rfl (decide_eq_true h21) (sq (rg (a_ rfl rfl (en (nx (rt (xrb (xr (xr (xrb (xr (ret1 rfl rfl (fun w_ hs_ => ⟨?_, hs_.below⟩)))))))))))))
          simp [rectFault, h3, h5, rectBad_t m13 m20 h21]
        · exact cf rfl (decide_eq_false h21) (sk (xn (nx (rg (m_ rfl rfl (vl (ra (c := ((k + 1 : Nat) : Int)) rfl rfl rfl (by omega) (by omega) (by omega)) rfl (a_ rfl rfl (en (lpe (s := k) (k + 1) [2, 2, 2, 2] ⟨by omega, rectStep hinv m13 m20 h21⟩ (by omega) ⟨rfl, rfl, trivial⟩ rfl)))))))))
      · refine cf rfl (decide_eq_false h6) (xt (xq (xq (xb (nx (sq (rg (a_ rfl rfl (en (nx (rt (ret1 rfl rfl (fun w_ hs_ => ⟨?_, hs_.below⟩)))))))))))))
        simp [rectFault, h3, h5, rectBad_f hinv (by omega)]
    · refine ct rfl (bne_iff_ne.2 h5) (sq (rg (m_ rfl rfl (a_ rfl rfl (en (nx (rt (xr (ret1 rfl rfl (fun w_ hs_ => ⟨?_, hs_.below⟩))))))))))
      simp [rectFault, h3, h5]
  · refine ct rfl (bne_iff_ne.2 h3) (sq (rg (m_ rfl rfl (a_ rfl rfl (en (nx (rt (xr (ret1 rfl rfl (fun w_ hs_ => ⟨?_, hs_.below⟩))))))))))
    simp [rectFault, h3]
/-! laws.eqInt64S -/
set_option maxRecDepth 20000 in
set_option maxHeartbeats 2000000 in
theorem laws_eqInt64S (w : World) {Aa : Option Addr} {ca : Nat} {a : List Int} {sa_ : List Nat} (ha : (Kd.sl Kd.i64).Rel w [.slice Aa a.length ca] a [] sa_) {Ab : Option Addr} {cb : Nat} {b : List Int} {sb_ : List Nat} (hb : (Kd.sl Kd.i64).Rel w [.slice Ab b.length cb] b [] sb_)  : Calls Tryd.prog 62 #[.slice Aa a.length ca, .slice Ab b.length cb] w (fun e_ w2_ => e_ = .returned (.bool (decide (a = b))) ∧ Below w.heap.size w w2_) := by
  have La := Kd.sl_len ha; have Ca := Kd.sl_cap ha
  have Lb := Kd.sl_len hb; have Cb := Kd.sl_cap hb
  refine fnc (X := X 26 w) (args := [.slice Aa a.length ca, .slice Ab b.length cb]) (l := [(0, .slice Aa a.length ca), (1, .slice Ab b.length cb)]) (G := [dat (Kd.sl Kd.i64) [.slice Ab b.length cb] b ([]) sb_, dat (Kd.sl Kd.i64) [.slice Aa a.length ca] a ([]) sa_]) Tryd.func62 rfl rfl rfl ⟨rfl, rfl, trivial⟩ (s0d hb (s0d ha (s0n w))).1 ?_
  refine sq (rg (a_ rfl rfl (en (nx (sq (sq (rg (m_ rfl rfl (vl (ln rfl rfl rfl) rfl (m_ rfl rfl (vl (ln rfl rfl rfl) rfl (vl (cm rfl rfl rfl rfl) rfl (en (nx ?_))))))))))))))
  by_cases h1 : ((a.length : Nat) : Int) = ((b.length : Nat) : Int)
  · refine cf rfl (bne_eq_false_iff_eq.2 h1) (sk (nx (sq (sq (rg (a_ rfl rfl (en (nx (bk ?_)))))))))
    refine lp (σ := Nat) (fun k : Nat => [(0, .slice Aa a.length ca), (1, .slice Ab b.length cb), (5, .int .i64 ((k : Nat) : Int))])
        (fun k : Nat => [dat (Kd.sl Kd.i64) [.slice Ab b.length cb] b ([]) sb_, dat (Kd.sl Kd.i64) [.slice Aa a.length ca] a ([]) sa_])
        (fun k : Nat => k ≤ a.length ∧ ∀ j x y, j < k → a[j]? = some x → b[j]? = some y → x = y) (fun k : Nat => a.length - k) 0 [0, 0] ⟨Nat.zero_le _, by simp⟩ ⟨rfl, rfl, rfl, trivial⟩ rfl ?_
    intro k hp_
    obtain ⟨hk, hinv⟩ := hp_
    refine sq (sq (rg (m_ rfl rfl (m_ rfl rfl (vl (ln rfl rfl rfl) rfl (vl (cm rfl rfl rfl rfl) rfl (en (nx ?_))))))))
    by_cases h2 : ((k : Nat) : Int) < ((a.length : Nat) : Int)
    · refine ct rfl (decide_eq_true h2) (sk (nx (sq (bk (sq ?_)))))
      refine gx 1 k rfl (by omega) fun y8 p3 cs_ s4 w7 m9 e5 r6 us4 => ?_
      obtain ⟨rfl, -, -⟩ := r6
      refine gx 1 k rfl (by omega) fun y15 p10 cs_ s11 w14 m16 e12 r13 us11 => ?_
      obtain ⟨rfl, -, -⟩ := r13
      refine r0 (qv 0 rfl (mv rfl rfl) rfl (by kernel_rfl) (qv 1 rfl (mv rfl rfl) rfl (by kernel_rfl) (qv 2 rfl (ix k e5 rfl rfl rfl rfl rfl (by omega)) rfl (by kernel_rfl) (qv 3 rfl (ldq (u := .int .i64 y8) 1 rfl rfl rfl rfl rfl rfl rfl) rfl (by kernel_rfl) (qv 4 rfl (mv rfl rfl) rfl (by kernel_rfl) (qv 5 rfl (mv rfl rfl) rfl (by kernel_rfl) (qv 6 rfl (ix k e12 rfl rfl rfl rfl rfl (by omega)) rfl (by kernel_rfl) (qv 7 rfl (ldq (u := .int .i64 y15) 0 rfl rfl rfl rfl rfl rfl rfl) rfl (by kernel_rfl) (qv 8 rfl (cm rfl rfl rfl rfl) rfl (by kernel_rfl) (qe [0, 0, 0, 0] (by kernel_rfl) rfl (nx ?_)))))))))))
      by_cases h17 : y8 = y15
      · exact cf rfl (bne_eq_false_iff_eq.2 h17) (sk (xn (nx (rg (m_ rfl rfl (vl (ra (c := ((k + 1 : Nat) : Int)) rfl rfl rfl (by omega) (by omega) (by omega)) rfl (a_ rfl rfl (en (lpe (s := k) (k + 1) [2, 2] ⟨by omega, eq_step hinv m9 m16 (by simpa using h17)⟩ (by omega) ⟨rfl, rfl, rfl, trivial⟩ rfl)))))))))
      · refine ct rfl (bne_iff_ne.2 h17) (sq (rg (a_ rfl rfl (en (nx (rt (xrb (xr (xr (xrb (xr (ret1 rfl rfl (fun w_ hs_ => ⟨?_, hs_.below⟩)))))))))))))
        exact rb (eqS_f m9 m16 (by simpa using h17)).symm
    · refine cf rfl (decide_eq_false h2) (xt (xq (xq (xb (nx (sq (rg (a_ rfl rfl (en (nx (rt (ret1 rfl rfl (fun w_ hs_ => ⟨?_, hs_.below⟩)))))))))))))
      exact rb (eqS_t (by omega) hinv (by omega)).symm
  · refine ct rfl (bne_iff_ne.2 h1) (sq (rg (a_ rfl rfl (en (nx (rt (xr (ret1 rfl rfl (fun w_ hs_ => ⟨?_, hs_.below⟩)))))))))
    exact rb (by rw [eq_comm, decide_eq_false_iff_not]; rintro rfl; exact h1 rfl)
/-! laws.szInt64S -/
set_option maxRecDepth 20000 in
set_option maxHeartbeats 2000000 in
theorem laws_szInt64S (w : World) (left : Int) {Aa : Option Addr} {ca : Nat} {a : List Int} {sa_ : List Nat} (ha : (Kd.sl Kd.i64).Rel w [.slice Aa a.length ca] a [] sa_) (h0 : 0 ≤ left) (h1 : left ≤ 1152921504606846976) : Calls Tryd.prog 54 #[.slice Aa a.length ca, .int .i64 left] w (fun e_ w2_ => e_ = .returned (.int .i64 (szTake ((a.length : Nat) : Int) left)) ∧ Below w.heap.size w w2_) := by
  have La := Kd.sl_len ha; have Ca := Kd.sl_cap ha
  refine fnc (X := X 12 w) (args := [.slice Aa a.length ca, .int .i64 left]) (l := [(0, .slice Aa a.length ca), (1, .int .i64 left)]) (G := [dat (Kd.sl Kd.i64) [.slice Aa a.length ca] a ([]) sa_]) Tryd.func54 rfl rfl rfl ⟨rfl, rfl, trivial⟩ (s0d ha (s0n w)).1 ?_
  refine sq (rg (a_ rfl rfl (en (nx (sq (rg (m_ rfl rfl (m_ rfl rfl (vl (ln rfl rfl rfl) rfl (vl (rs (c := left - ((a.length : Nat) : Int)) rfl rfl rfl rfl (by omega) (by omega)) rfl (a_ rfl rfl (en (nx (sq (sq (rg (m_ rfl rfl (vl (cm rfl rfl rfl rfl) rfl (en (nx ?_))))))))))))))))))))
  by_cases h1 : left - ((a.length : Nat) : Int) < (0 : Int)
  · refine ct rfl (decide_eq_true h1) (sq (rg (a_ rfl rfl (en (nx (rt (xr (ret1 rfl rfl (fun w_ hs_ => ⟨?_, hs_.below⟩)))))))))
    exact ri (by unfold szTake; split <;> omega)
  · refine cf rfl (decide_eq_false h1) (sk (nx (sq (rg (m_ rfl rfl (a_ rfl rfl (en (nx (rt (ret1 rfl rfl (fun w_ hs_ => ⟨?_, hs_.below⟩)))))))))))
    exact ri (by unfold szTake; split <;> omega)
def szList {α : Type} (f : α → Int) (l : List α) : Int := (l.length : Int) + (l.map f).sum
theorem szList_nn {α : Type} {f : α → Int} (hf : ∀ x, 0 ≤ f x) (l : List α) : 0 ≤ szList f l := by have := sum_nn hf l; unfold szList; omega
theorem szList_mem {α : Type} {f : α → Int} (hf : ∀ x, 0 ≤ f x) {l : List α} {k : Nat} {y : α} (h : l[k]? = some y) : f y ≤ szList f l := by
  have h1 := sumTo_step (f := f) h
  have h2 := sumTo_le hf l (k + 1)
  have h3 := sumTo_nn hf l k
  unfold szList; omega
theorem szList_len {α : Type} {f : α → Int} (hf : ∀ x, 0 ≤ f x) (l : List α) : (l.length : Int) ≤ szList f l := by have := sum_nn hf l; unfold szList; omega
theorem cnt_list {α : Type} {f g : α → Int} (h : ∀ x, f x ≤ 32 * (1 + g x)) : ∀ l : List α, (l.map f).sum ≤ 32 * szList g l
  | [] => by simp [szList]
  | a :: l => by
    have h1 := h a
    have h2 := cnt_list h l
    unfold szList at *
    simp only [List.map_cons, List.sum_cons, List.length_cons]
    omega
theorem sum_le {α : Type} {f : α → Int} {c : Int} : ∀ {l : List α}, (∀ x ∈ l, f x ≤ c) → (l.map f).sum ≤ c * (l.length : Int)
  | [], _ => by simp
  | a :: l, h => by
    have h1 := h a (List.mem_cons_self ..)
    have h2 := sum_le (l := l) (fun x hx => h x (List.mem_cons_of_mem _ hx))
    simp only [List.map_cons, List.sum_cons, List.length_cons]
    have : c * ((l.length + 1 : Nat) : Int) = c * (l.length : Int) + c := by rw [Int.natCast_add, Int.mul_add]; simp
    omega
/-! laws.toInt64S -/
set_option maxRecDepth 20000 in
set_option maxHeartbeats 2000000 in
theorem laws_toInt64S (w : World) {Aa : Option Addr} {ca : Nat} {a : List Int} {sa_ : List Nat} (ha : (Kd.sl Kd.i64).Rel w [.slice Aa a.length ca] a [] sa_) (hz : (a.length : Int) ≤ 1048576) : Calls Tryd.prog 57 #[.slice Aa a.length ca] w (Made (Kd.row 2 Kd.i64) w a []) := by
  have La := Kd.sl_len ha; have Ca := Kd.sl_cap ha
  refine fnc (X := X 22 w) (args := [.slice Aa a.length ca]) (l := [(0, .slice Aa a.length ca)]) (G := [dat (Kd.sl Kd.i64) [.slice Aa a.length ca] a ([]) sa_]) Tryd.func57 rfl rfl rfl ⟨rfl, trivial⟩ (s0d ha (s0n w)).1 ?_
  refine sq (rg (a_ rfl rfl (en (nx (sq (rg (m_ rfl rfl (vl (ln rfl rfl rfl) rfl (mk (dk := Kd.i64) (z := 0) rfl info2 rfl (fun _ => ⟨rfl, rfl, rfl⟩) rfl rfl (by omega) (by omega) rfl ?_)))))))))
  intro b1
  refine a_ rfl rfl (en (nx (sq (sq (rg (a_ rfl rfl (en (nx (bk ?_)))))))))
  refine lp (σ := Nat × List Nat × List Nat) (fun z_ : Nat × List Nat × List Nat => match z_ with | (k, o, s) => [(0, .slice Aa a.length ca), (3, .slice (some ⟨b1, 0, none⟩) a.length a.length), (4, .int .i64 ((k : Nat) : Int))])
      (fun z_ : Nat × List Nat × List Nat => match z_ with | (k, o, s) => [dat (Kd.row 2 Kd.i64) [.slice (some ⟨b1, 0, none⟩) a.length a.length] (a.take k ++ List.replicate (a.length - k) 0) o s, dat (Kd.sl Kd.i64) [.slice Aa a.length ca] a ([]) sa_])
      (fun z_ : Nat × List Nat × List Nat => match z_ with | (k, o, s) => k ≤ a.length ∧ ∀ q ∈ s, w.heap.size ≤ q) (fun z_ : Nat × List Nat × List Nat => match z_ with | (k, o, s) => a.length - k) (0, [b1], []) [0, 0] ⟨Nat.zero_le _, by simp⟩ ⟨rfl, rfl, rfl, trivial⟩ rfl ?_
  rintro ⟨k, o, s⟩ hp_
  obtain ⟨hk, hinv⟩ := hp_
  refine sq (sq (rg (m_ rfl rfl (m_ rfl rfl (vl (ln rfl rfl rfl) rfl (vl (cm rfl rfl rfl rfl) rfl (en (nx ?_))))))))
  by_cases h2 : ((k : Nat) : Int) < ((a.length : Nat) : Int)
  · refine ct rfl (decide_eq_true h2) (sk (nx (sq (bk (rg (m_ rfl rfl (m_ rfl rfl (m_ rfl rfl (m_ rfl rfl ?_)))))))))
    refine gx 1 k rfl (by omega) fun y8 p3 cs_ s4 w7 m9 e5 r6 us4 => ?_
    obtain ⟨rfl, -, -⟩ := r6
    refine vl (ix k e5 rfl rfl rfl rfl rfl (by omega)) rfl (vl (ldq (u := .int .i64 y8) 0 rfl rfl rfl rfl rfl rfl rfl) rfl (vl (ix k rfl rfl rfl rfl rfl rfl (by omega)) rfl (gs Kd.i64 [.int .i64 y8] y8 (fun _ => ⟨rfl, rfl, rfl⟩) (f2 (ste k rfl rfl rfl rfl rfl (by first | omega | (simp; omega)) (fun o10 s11 t12 => ?_))))))
    exact gr (a.take (k + 1) ++ List.replicate (a.length - (k + 1)) 0) (rowStep m9) (en (xn (nx (rg (m_ rfl rfl (vl (ra (c := ((k + 1 : Nat) : Int)) rfl rfl rfl (by omega) (by omega) (by omega)) rfl (a_ rfl rfl (en (lpe (s := (k, o, s)) (k + 1, o10, s11) [0, 1] ⟨by omega, fun q hq => (t12 q hq).elim (hinv q) (fun h => by cases h)⟩ (by show a.length - (k + 1) < a.length - k; omega) ⟨rfl, rfl, rfl, trivial⟩ rfl)))))))))
  · exact cf rfl (decide_eq_false h2) (xt (xq (xq (xb (nx (sq (rg (m_ rfl rfl (a_ rfl rfl (en (nx (rt (gr a (rowEnd (by omega)) (ret1 rfl rfl (fun w_ hs_ => made hs_ rfl (fun q hq => .inr (hinv q hq)))))))))))))))))
def szRect (a : Rect) : Int := (a.low.length : Int) + (a.high.length : Int)
theorem szRect_nn (a : Rect) : 0 ≤ szRect a := by unfold szRect; omega
def zRect : Rect := (⟨[], []⟩ : Rect)
/-! laws.eqRect -/
set_option maxRecDepth 20000 in
set_option maxHeartbeats 2000000 in
theorem laws_eqRect (w : World) {Aa0 : Option Addr} {ca0 : Nat} {Aa1 : Option Addr} {ca1 : Nat} {a : Rect} {sa_ : List Nat} (ha : kRectS.Rel w [.slice Aa0 a.low.length ca0, .slice Aa1 a.high.length ca1] a [] sa_) {Ab0 : Option Addr} {cb0 : Nat} {Ab1 : Option Addr} {cb1 : Nat} {b : Rect} {sb_ : List Nat} (hb : kRectS.Rel w [.slice Ab0 b.low.length cb0, .slice Ab1 b.high.length cb1] b [] sb_)  : Calls Tryd.prog 40 #[.agg #[.slice Aa0 a.low.length ca0, .slice Aa1 a.high.length ca1], .agg #[.slice Ab0 b.low.length cb0, .slice Ab1 b.high.length cb1]] w (fun e_ w2_ => e_ = .returned (.bool (decide (a = b))) ∧ Below w.heap.size w w2_) := by
  refine fnc (X := X 17 w) (args := [.agg #[.slice Aa0 a.low.length ca0, .slice Aa1 a.high.length ca1], .agg #[.slice Ab0 b.low.length cb0, .slice Ab1 b.high.length cb1]]) (l := [(0, .agg #[.slice Aa0 a.low.length ca0, .slice Aa1 a.high.length ca1]), (1, .agg #[.slice Ab0 b.low.length cb0, .slice Ab1 b.high.length cb1])]) (G := [dat kRectS [.slice Ab0 b.low.length cb0, .slice Ab1 b.high.length cb1] b ([]) sb_, dat kRectS [.slice Aa0 a.low.length ca0, .slice Aa1 a.high.length ca1] a ([]) sa_]) Tryd.func40 rfl rfl rfl ⟨rfl, rfl, trivial⟩ (s0d hb (s0d ha (s0n w))).1 ?_
  refine sq (rg (bx rfl rfl rfl rfl ?_))
  intro b1
  refine bx rfl rfl rfl rfl ?_
  intro b2
  refine a_ rfl rfl (en (nx (sq (sq (rg (vl (fa rfl rfl rfl) rfl (vl (ldb (u := .slice Aa0 a.low.length ca0) 1 rfl rfl rfl rfl rfl rfl rfl) rfl (vl (fa rfl rfl rfl) rfl (vl (ldb (u := .slice Ab0 b.low.length cb0) 0 rfl rfl rfl rfl rfl rfl rfl) rfl ?_)))))))))
  refine gd 3 kRectS_p0_1 rfl (cs' := [.slice Aa0 a.low.length ca0]) rfl fun s3 w_ rs3 us3 => ?_
  have Ls3 := Kd.sl_len rs3; have Cs3 := Kd.sl_cap rs3
  refine gd 3 kRectS_p0_1 rfl (cs' := [.slice Ab0 b.low.length cb0]) rfl fun s4 w_ rs4 us4 => ?_
  have Ls4 := Kd.sl_len rs4; have Cs4 := Kd.sl_cap rs4
  refine cs_ (v := .bool (decide (a.low = b.low))) (by kernel_rfl) rfl rfl rfl (fun w_ hs_ => laws_eqInt64S w_ (hs_.at 1 rfl) (hs_.at 0 rfl)) (vl (nt rfl rfl) rfl (en (nx ?_)))
  by_cases h5 : decide (a.low = b.low) = true
  · refine cf rfl (not_f h5) (sk (nx (sq (sq (rg (vl (fa rfl rfl rfl) rfl (vl (ldb (u := .slice Aa1 a.high.length ca1) 3 rfl rfl rfl rfl rfl rfl rfl) rfl (vl (fa rfl rfl rfl) rfl (vl (ldb (u := .slice Ab1 b.high.length cb1) 2 rfl rfl rfl rfl rfl rfl rfl) rfl ?_)))))))))
    refine gd 5 kRectS_p1_1 rfl (cs' := [.slice Aa1 a.high.length ca1]) rfl fun s6 w_ rs6 us6 => ?_
    have Ls6 := Kd.sl_len rs6; have Cs6 := Kd.sl_cap rs6
    refine gd 5 kRectS_p1_1 rfl (cs' := [.slice Ab1 b.high.length cb1]) rfl fun s7 w_ rs7 us7 => ?_
    have Ls7 := Kd.sl_len rs7; have Cs7 := Kd.sl_cap rs7
    refine cs_ (v := .bool (decide (a.high = b.high))) (by kernel_rfl) rfl rfl rfl (fun w_ hs_ => laws_eqInt64S w_ (hs_.at 1 rfl) (hs_.at 0 rfl)) (vl (nt rfl rfl) rfl (en (nx ?_)))
    by_cases h8 : decide (a.high = b.high) = true
    · refine cf rfl (not_f h8) (sk (nx (sq (rg (a_ rfl rfl (en (nx (rt (ret1 rfl rfl (fun w_ hs_ => ⟨?_, hs_.below⟩))))))))))
      rw [Rect_eq]; simp [h5, h8]
    · refine ct rfl (not_t (Bool.eq_false_iff.2 h8)) (sq (rg (a_ rfl rfl (en (nx (rt (xr (ret1 rfl rfl (fun w_ hs_ => ⟨?_, hs_.below⟩)))))))))
      rw [Rect_eq]; simp [h5, h8]
  · refine ct rfl (not_t (Bool.eq_false_iff.2 h5)) (sq (rg (a_ rfl rfl (en (nx (rt (xr (ret1 rfl rfl (fun w_ hs_ => ⟨?_, hs_.below⟩)))))))))
    rw [Rect_eq]; simp [h5]
/-! laws.szRect -/
set_option maxRecDepth 20000 in
set_option maxHeartbeats 2000000 in
theorem laws_szRect (w : World) (left : Int) {Aa0 : Option Addr} {ca0 : Nat} {Aa1 : Option Addr} {ca1 : Nat} {a : Rect} {sa_ : List Nat} (ha : kRectS.Rel w [.slice Aa0 a.low.length ca0, .slice Aa1 a.high.length ca1] a [] sa_) (h0 : 0 ≤ left) (h1 : left ≤ 1152921504606846976) : Calls Tryd.prog 32 #[.agg #[.slice Aa0 a.low.length ca0, .slice Aa1 a.high.length ca1], .int .i64 left] w (fun e_ w2_ => e_ = .returned (.int .i64 (szTake (szRect a) left)) ∧ Below w.heap.size w w2_) := by
  skip
  refine fnc (X := X 18 w) (args := [.agg #[.slice Aa0 a.low.length ca0, .slice Aa1 a.high.length ca1], .int .i64 left]) (l := [(0, .agg #[.slice Aa0 a.low.length ca0, .slice Aa1 a.high.length ca1]), (1, .int .i64 left)]) (G := [dat kRectS [.slice Aa0 a.low.length ca0, .slice Aa1 a.high.length ca1] a ([]) sa_]) Tryd.func32 rfl rfl rfl ⟨rfl, rfl, trivial⟩ (s0d ha (s0n w)).1 ?_
  refine sq (rg (bx rfl rfl rfl rfl ?_))
  intro b1
  refine a_ rfl rfl (en (nx (sq (rg (vl (fa rfl rfl rfl) rfl (vl (ldb (u := .slice Aa0 a.low.length ca0) 0 rfl rfl rfl rfl rfl rfl rfl) rfl (m_ rfl rfl ?_)))))))
  refine gd 1 kRectS_p0_1 rfl (cs' := [.slice Aa0 a.low.length ca0]) rfl fun s2 w_ rs2 us2 => ?_
  have Ls2 := Kd.sl_len rs2; have Cs2 := Kd.sl_cap rs2
  refine cs_ (v := .int .i64 (szTake ((a.low.length : Nat) : Int) left)) (by kernel_rfl) rfl rfl rfl (fun w_ hs_ => laws_szInt64S w_ _ (hs_.at 0 rfl) (by omega) (by omega)) (a_ rfl rfl (en (nx (sq (sq (rg (m_ rfl rfl (vl (cm rfl rfl rfl rfl) rfl (en (nx ?_))))))))))
  by_cases h3 : (szTake ((a.low.length : Nat) : Int) left) < (0 : Int)
  · have eh3 := szTake_t h3
    refine ct rfl (decide_eq_true h3) (sq (rg (a_ rfl rfl (en (nx (rt (xr (ret1 rfl rfl (fun w_ hs_ => ⟨?_, hs_.below⟩)))))))))
    exact ri (by unfold szTake szRect; split <;> omega)
  · have eh3 := szTake_f h3
    refine cf rfl (decide_eq_false h3) (sk (nx (sq (rg (vl (fa rfl rfl rfl) rfl (vl (ldb (u := .slice Aa1 a.high.length ca1) 1 rfl rfl rfl rfl rfl rfl rfl) rfl (m_ rfl rfl ?_)))))))
    refine gd 2 kRectS_p1_1 rfl (cs' := [.slice Aa1 a.high.length ca1]) rfl fun s4 w_ rs4 us4 => ?_
    have Ls4 := Kd.sl_len rs4; have Cs4 := Kd.sl_cap rs4
    refine cs_ (v := .int .i64 (szTake ((a.high.length : Nat) : Int) (szTake ((a.low.length : Nat) : Int) left))) (by kernel_rfl) rfl rfl rfl (fun w_ hs_ => laws_szInt64S w_ _ (hs_.at 0 rfl) (by omega) (by omega)) (a_ rfl rfl (en (nx (sq (sq (rg (m_ rfl rfl (vl (cm rfl rfl rfl rfl) rfl (en (nx ?_))))))))))
    by_cases h5 : (szTake ((a.high.length : Nat) : Int) (szTake ((a.low.length : Nat) : Int) left)) < (0 : Int)
    · have eh5 := szTake_t h5
      refine ct rfl (decide_eq_true h5) (sq (rg (a_ rfl rfl (en (nx (rt (xr (ret1 rfl rfl (fun w_ hs_ => ⟨?_, hs_.below⟩)))))))))
      exact ri (by unfold szTake szRect; split <;> omega)
    · have eh5 := szTake_f h5
      refine cf rfl (decide_eq_false h5) (sk (nx (sq (rg (m_ rfl rfl (a_ rfl rfl (en (nx (rt (ret1 rfl rfl (fun w_ hs_ => ⟨?_, hs_.below⟩)))))))))))
      exact ri (by unfold szTake szRect; split <;> omega)
/-! laws.toRect -/
set_option maxRecDepth 20000 in
set_option maxHeartbeats 2000000 in
theorem laws_toRect (w : World) {Aa0 : Option Addr} {ca0 : Nat} {Aa1 : Option Addr} {ca1 : Nat} {a : Rect} {sa_ : List Nat} (ha : kRectS.Rel w [.slice Aa0 a.low.length ca0, .slice Aa1 a.high.length ca1] a [] sa_) (hz : szRect a ≤ 1048576) : Calls Tryd.prog 35 #[.agg #[.slice Aa0 a.low.length ca0, .slice Aa1 a.high.length ca1]] w (Made kRectO w a []) := by
  unfold szRect at hz
  refine fnc (X := X 13 w) (args := [.agg #[.slice Aa0 a.low.length ca0, .slice Aa1 a.high.length ca1]]) (l := [(0, .agg #[.slice Aa0 a.low.length ca0, .slice Aa1 a.high.length ca1])]) (G := [dat kRectS [.slice Aa0 a.low.length ca0, .slice Aa1 a.high.length ca1] a ([]) sa_]) Tryd.func35 rfl rfl rfl ⟨rfl, trivial⟩ (s0d ha (s0n w)).1 ?_
  refine sq (rg (bx rfl rfl rfl rfl ?_))
  intro b1
  refine al zero38 rfl rfl rfl ?_
  intro b2
  refine en (nx (sq (rg (al zero38 rfl rfl rfl ?_))))
  intro b3
  refine en (nx (sq (rg (vl (fa rfl rfl rfl) rfl (vl (ldb (u := .slice Aa0 a.low.length ca0) 2 rfl rfl rfl rfl rfl rfl rfl) rfl ?_)))))
  refine gd 3 kRectS_p0_1 rfl (cs' := [.slice Aa0 a.low.length ca0]) rfl fun s4 w_ rs4 us4 => ?_
  have Ls4 := Kd.sl_len rs4; have Cs4 := Kd.sl_cap rs4
  refine cm_ (dk := (Kd.row 2 Kd.i64)) (x := a.low) (S := []) (by kernel_rfl) rfl rfl rfl sn0 (fun w_ hs_ => laws_toInt64S w_ (hs_.at 0 rfl) (by omega)) (fun cs_ o7 s8 w_ r9 t10 => ?_)
  obtain ⟨A5, c6, rfl⟩ := Kd.row_sh r9
  refine vl (fa rfl rfl rfl) rfl (f2 (sto rfl rfl rfl rfl rfl rfl rfl (cs' := [.slice A5 a.low.length c6, .slice none 0 0]) rfl (en (nx (sq (rg (vl (fa rfl rfl rfl) rfl (vl (ldb (u := .slice Aa1 a.high.length ca1) 4 rfl rfl rfl rfl rfl rfl rfl) rfl ?_))))))))
  refine gd 5 kRectS_p1_1 rfl (cs' := [.slice Aa1 a.high.length ca1]) rfl fun s12 w_ rs12 us12 => ?_
  have Ls12 := Kd.sl_len rs12; have Cs12 := Kd.sl_cap rs12
  refine cm_ (dk := (Kd.row 2 Kd.i64)) (x := a.high) (S := []) (by kernel_rfl) rfl rfl rfl sn0 (fun w_ hs_ => laws_toInt64S w_ (hs_.at 0 rfl) (by omega)) (fun cs_ o15 s16 w_ r17 t18 => ?_)
  obtain ⟨A13, c14, rfl⟩ := Kd.row_sh r17
  exact vl (fa rfl rfl rfl) rfl (f2 (sto rfl rfl rfl rfl rfl rfl rfl (cs' := [.slice A5 a.low.length c6, .slice A13 a.high.length c14]) rfl (en (nx (sq (rg (vl (ldb 0 rfl rfl rfl rfl rfl rfl rfl) rfl (f5 (sto rfl rfl rfl rfl rfl rfl rfl (cs' := [.slice A5 a.low.length c6, .slice A13 a.high.length c14]) rfl (en (nx (rt (f2 (f4 (gj (da := (Kd.via (Kd.row 2 Kd.i64) Rect.low)) (db := (Kd.via (Kd.row 2 Kd.i64) Rect.high)) (x := a) (cs := [.slice A5 a.low.length c6, .slice A13 a.high.length c14]) rfl (retc 1 rfl rfl rfl rfl rfl rfl (fun w_ hs_ => made hs_ rfl (see_app t10 t18))))))))))))))))))
section
open Go.Shelf
set_option maxRecDepth 100000
def renFormatInt : Go.Shelf.Ren := ⟨fun | 129 => 101 | 173 => 60 | 246 => 70 | 283 => 83 | 284 => 84 | 285 => 85 | 286 => 86 | 317 => 100 | 318 => 102 | 319 => 103 | 320 => 104 | 337 => 117 | 338 => 118 | n => n, fun | 0 => 0 | 2 => 2 | 3 => 3 | 4 => 4 | 5 => 5 | 9 => 9 | 20 => 20 | 37 => 96 | 46 => 122 | 51 => 134 | 53 => 112 | 171 => 111 | 173 => 115 | 212 => 133 | 213 => 135 | 232 => 156 | 233 => 157 | n => n, fun | 17 => 0 | 18 => 6 | 19 => 7 | n => n⟩
theorem laidFormatInt : LaysM.n173 Tryd.prog renFormatInt := {
  mixed := by kernel_rfl
  f129 := Tryd.func101.trans (congrArg some (by kernel_rfl))
  f173 := Tryd.func60.trans (congrArg some (by kernel_rfl))
  f246 := Tryd.func70.trans (congrArg some (by kernel_rfl))
  f283 := Tryd.func83.trans (congrArg some (by kernel_rfl))
  f284 := Tryd.func84.trans (congrArg some (by kernel_rfl))
  f285 := Tryd.func85.trans (congrArg some (by kernel_rfl))
  f286 := Tryd.func86.trans (congrArg some (by kernel_rfl))
  f317 := Tryd.func100.trans (congrArg some (by kernel_rfl))
  f318 := Tryd.func102.trans (congrArg some (by kernel_rfl))
  f319 := Tryd.func103.trans (congrArg some (by kernel_rfl))
  f320 := Tryd.func104.trans (congrArg some (by kernel_rfl))
  f337 := Tryd.func117.trans (congrArg some (by kernel_rfl))
  f338 := Tryd.func118.trans (congrArg some (by kernel_rfl))
  t0 := Tryd.underlying0
  a0 := Tryd.isAgg0
  z0 := Tryd.sizeOf0
  v0 := Tryd.zeroValue0
  t2 := Tryd.underlying2
  a2 := Tryd.isAgg2
  z2 := Tryd.sizeOf2
  v2 := Tryd.zeroValue2
  t3 := Tryd.underlying3
  a3 := Tryd.isAgg3
  z3 := Tryd.sizeOf3
  v3 := Tryd.zeroValue3
  t4 := Tryd.underlying4
  a4 := Tryd.isAgg4
  z4 := Tryd.sizeOf4
  v4 := Tryd.zeroValue4
  t5 := Tryd.underlying5
  a5 := Tryd.isAgg5
  z5 := Tryd.sizeOf5
  v5 := Tryd.zeroValue5
  t9 := Tryd.underlying9
  a9 := Tryd.isAgg9
  z9 := Tryd.sizeOf9
  v9 := Tryd.zeroValue9
  t20 := Tryd.underlying20
  a20 := Tryd.isAgg20
  z20 := Tryd.sizeOf20
  v20 := Tryd.zeroValue20
  t37 := Tryd.underlying96
  a37 := Tryd.isAgg96
  z37 := Tryd.sizeOf96
  v37 := Tryd.zeroValue96
  t46 := Tryd.underlying122
  a46 := Tryd.isAgg122
  z46 := Tryd.sizeOf122
  v46 := Tryd.zeroValue122
  t51 := Tryd.underlying134
  a51 := Tryd.isAgg134
  z51 := Tryd.sizeOf134
  v51 := Tryd.zeroValue134
  t53 := Tryd.underlying112
  a53 := Tryd.isAgg112
  z53 := Tryd.sizeOf112
  v53 := Tryd.zeroValue112
  t171 := Tryd.underlying111
  a171 := Tryd.isAgg111
  z171 := Tryd.sizeOf111
  v171 := Tryd.zeroValue111
  t173 := Tryd.underlying115
  a173 := Tryd.isAgg115
  z173 := Tryd.sizeOf115
  v173 := Tryd.zeroValue115
  t212 := Tryd.underlying133
  a212 := Tryd.isAgg133
  z212 := Tryd.sizeOf133
  v212 := Tryd.zeroValue133
  t213 := Tryd.underlying135
  a213 := Tryd.isAgg135
  z213 := Tryd.sizeOf135
  t232 := Tryd.underlying156
  a232 := Tryd.isAgg156
  z232 := Tryd.sizeOf156
  v232 := Tryd.zeroValue156
  t233 := Tryd.underlying157
  a233 := Tryd.isAgg157
  z233 := Tryd.sizeOf157
  v233 := Tryd.zeroValue157
  g17 := by kernel_rfl
  g18 := by kernel_rfl
  g19 := by kernel_rfl
  i0 := by kernel_rfl
  i2 := by kernel_rfl
  i3 := by kernel_rfl
  i4 := by kernel_rfl
  i5 := by kernel_rfl
  i9 := by kernel_rfl
  i20 := by kernel_rfl
  i37 := by kernel_rfl
  i46 := by kernel_rfl
  i51 := by kernel_rfl
  i53 := by kernel_rfl
  i171 := by kernel_rfl
  i173 := by kernel_rfl
  i212 := by kernel_rfl
  i232 := by kernel_rfl
  i233 := by kernel_rfl
  m17 := by kernel_rfl
  m18 := by kernel_rfl
  m19 := by kernel_rfl }
def renParseInt : Go.Shelf.Ren := ⟨fun | 129 => 101 | 171 => 111 | 174 => 64 | 205 => 110 | 243 => 119 | 245 => 76 | 246 => 70 | 247 => 75 | 279 => 91 | 280 => 92 | 281 => 93 | 282 => 94 | 283 => 83 | 284 => 84 | 285 => 85 | 286 => 86 | 287 => 90 | 316 => 109 | 317 => 100 | 318 => 102 | 319 => 103 | 320 => 104 | 321 => 107 | 322 => 108 | 337 => 117 | 338 => 118 | n => n, fun | 0 => 0 | 2 => 2 | 3 => 3 | 4 => 4 | 5 => 5 | 9 => 9 | 20 => 20 | 21 => 21 | 37 => 96 | 46 => 122 | 51 => 134 | 53 => 112 | 75 => 93 | 80 => 106 | 85 => 94 | 127 => 117 | 143 => 147 | 145 => 149 | 167 => 119 | 168 => 123 | 171 => 111 | 173 => 115 | 175 => 120 | 210 => 144 | 212 => 133 | 213 => 135 | 232 => 156 | 233 => 157 | n => n, fun | 15 => 1 | 16 => 2 | 17 => 0 | 18 => 6 | 19 => 7 | n => n⟩
theorem laidParseInt : LaysC.n174 Tryd.prog renParseInt := {
  mixed := by kernel_rfl
  f129 := Tryd.func101.trans (congrArg some (by kernel_rfl))
  f171 := Tryd.func111.trans (congrArg some (by kernel_rfl))
  f174 := Tryd.func64.trans (congrArg some (by kernel_rfl))
  f205 := Tryd.func110.trans (congrArg some (by kernel_rfl))
  f243 := Tryd.func119.trans (congrArg some (by kernel_rfl))
  f245 := Tryd.func76.trans (congrArg some (by kernel_rfl))
  f246 := Tryd.func70.trans (congrArg some (by kernel_rfl))
  f247 := Tryd.func75.trans (congrArg some (by kernel_rfl))
  f279 := Tryd.func91.trans (congrArg some (by kernel_rfl))
  f280 := Tryd.func92.trans (congrArg some (by kernel_rfl))
  f281 := Tryd.func93.trans (congrArg some (by kernel_rfl))
  f282 := Tryd.func94.trans (congrArg some (by kernel_rfl))
  f283 := Tryd.func83.trans (congrArg some (by kernel_rfl))
  f284 := Tryd.func84.trans (congrArg some (by kernel_rfl))
  f285 := Tryd.func85.trans (congrArg some (by kernel_rfl))
  f286 := Tryd.func86.trans (congrArg some (by kernel_rfl))
  f287 := Tryd.func90.trans (congrArg some (by kernel_rfl))
  f316 := Tryd.func109.trans (congrArg some (by kernel_rfl))
  f317 := Tryd.func100.trans (congrArg some (by kernel_rfl))
  f318 := Tryd.func102.trans (congrArg some (by kernel_rfl))
  f319 := Tryd.func103.trans (congrArg some (by kernel_rfl))
  f320 := Tryd.func104.trans (congrArg some (by kernel_rfl))
  f321 := Tryd.func107.trans (congrArg some (by kernel_rfl))
  f322 := Tryd.func108.trans (congrArg some (by kernel_rfl))
  f337 := Tryd.func117.trans (congrArg some (by kernel_rfl))
  f338 := Tryd.func118.trans (congrArg some (by kernel_rfl))
  t0 := Tryd.underlying0
  a0 := Tryd.isAgg0
  z0 := Tryd.sizeOf0
  v0 := Tryd.zeroValue0
  t2 := Tryd.underlying2
  a2 := Tryd.isAgg2
  z2 := Tryd.sizeOf2
  v2 := Tryd.zeroValue2
  t3 := Tryd.underlying3
  a3 := Tryd.isAgg3
  z3 := Tryd.sizeOf3
  v3 := Tryd.zeroValue3
  t4 := Tryd.underlying4
  a4 := Tryd.isAgg4
  z4 := Tryd.sizeOf4
  v4 := Tryd.zeroValue4
  t5 := Tryd.underlying5
  a5 := Tryd.isAgg5
  z5 := Tryd.sizeOf5
  v5 := Tryd.zeroValue5
  t9 := Tryd.underlying9
  a9 := Tryd.isAgg9
  z9 := Tryd.sizeOf9
  v9 := Tryd.zeroValue9
  t20 := Tryd.underlying20
  a20 := Tryd.isAgg20
  z20 := Tryd.sizeOf20
  v20 := Tryd.zeroValue20
  t21 := Tryd.underlying21
  a21 := Tryd.isAgg21
  z21 := Tryd.sizeOf21
  v21 := Tryd.zeroValue21
  t37 := Tryd.underlying96
  a37 := Tryd.isAgg96
  z37 := Tryd.sizeOf96
  v37 := Tryd.zeroValue96
  t46 := Tryd.underlying122
  a46 := Tryd.isAgg122
  z46 := Tryd.sizeOf122
  v46 := Tryd.zeroValue122
  t51 := Tryd.underlying134
  a51 := Tryd.isAgg134
  z51 := Tryd.sizeOf134
  v51 := Tryd.zeroValue134
  t53 := Tryd.underlying112
  a53 := Tryd.isAgg112
  z53 := Tryd.sizeOf112
  v53 := Tryd.zeroValue112
  t75 := Tryd.underlying93
  a75 := Tryd.isAgg93
  z75 := Tryd.sizeOf93
  v75 := Tryd.zeroValue93
  t85 := Tryd.underlying94
  a85 := Tryd.isAgg94
  z85 := Tryd.sizeOf94
  v85 := Tryd.zeroValue94
  t127 := Tryd.underlying117
  a127 := Tryd.isAgg117
  z127 := Tryd.sizeOf117
  v127 := Tryd.zeroValue117
  t143 := Tryd.underlying147
  a143 := Tryd.isAgg147
  z143 := Tryd.sizeOf147
  v143 := Tryd.zeroValue147
  t145 := Tryd.underlying149
  a145 := Tryd.isAgg149
  z145 := Tryd.sizeOf149
  v145 := Tryd.zeroValue149
  t167 := Tryd.underlying119
  a167 := Tryd.isAgg119
  z167 := Tryd.sizeOf119
  v167 := Tryd.zeroValue119
  t168 := Tryd.underlying123
  a168 := Tryd.isAgg123
  z168 := Tryd.sizeOf123
  v168 := Tryd.zeroValue123
  t171 := Tryd.underlying111
  a171 := Tryd.isAgg111
  z171 := Tryd.sizeOf111
  v171 := Tryd.zeroValue111
  t173 := Tryd.underlying115
  a173 := Tryd.isAgg115
  z173 := Tryd.sizeOf115
  v173 := Tryd.zeroValue115
  t175 := Tryd.underlying120
  a175 := Tryd.isAgg120
  z175 := Tryd.sizeOf120
  v175 := Tryd.zeroValue120
  t210 := Tryd.underlying144
  a210 := Tryd.isAgg144
  z210 := Tryd.sizeOf144
  v210 := Tryd.zeroValue144
  t212 := Tryd.underlying133
  a212 := Tryd.isAgg133
  z212 := Tryd.sizeOf133
  v212 := Tryd.zeroValue133
  t213 := Tryd.underlying135
  a213 := Tryd.isAgg135
  z213 := Tryd.sizeOf135
  t232 := Tryd.underlying156
  a232 := Tryd.isAgg156
  z232 := Tryd.sizeOf156
  v232 := Tryd.zeroValue156
  t233 := Tryd.underlying157
  a233 := Tryd.isAgg157
  z233 := Tryd.sizeOf157
  v233 := Tryd.zeroValue157
  g15 := by kernel_rfl
  g16 := by kernel_rfl
  g17 := by kernel_rfl
  g18 := by kernel_rfl
  g19 := by kernel_rfl
  t80 := Tryd.underlying106
  a80 := Tryd.isAgg106
  z80 := Tryd.sizeOf106
  v80 := Tryd.zeroValue106
  i0 := by kernel_rfl
  i2 := by kernel_rfl
  i3 := by kernel_rfl
  i4 := by kernel_rfl
  i5 := by kernel_rfl
  i9 := by kernel_rfl
  i20 := by kernel_rfl
  i21 := by kernel_rfl
  i37 := by kernel_rfl
  i46 := by kernel_rfl
  i51 := by kernel_rfl
  i53 := by kernel_rfl
  i75 := by kernel_rfl
  i80 := by kernel_rfl
  i85 := by kernel_rfl
  i127 := by kernel_rfl
  i143 := by kernel_rfl
  i145 := by kernel_rfl
  i167 := by kernel_rfl
  i168 := by kernel_rfl
  i171 := by kernel_rfl
  i173 := by kernel_rfl
  i175 := by kernel_rfl
  i210 := by kernel_rfl
  i212 := by kernel_rfl
  i232 := by kernel_rfl
  i233 := by kernel_rfl
  m15 := by kernel_rfl
  m16 := by kernel_rfl
  m17 := by kernel_rfl
  m18 := by kernel_rfl
  m19 := by kernel_rfl
  c0 := by kernel_rfl
  c2 := by kernel_rfl
  c3 := by kernel_rfl
  c4 := by kernel_rfl
  c5 := by kernel_rfl
  c9 := by kernel_rfl
  c20 := by kernel_rfl
  c21 := by kernel_rfl
  c37 := by kernel_rfl
  c46 := by kernel_rfl
  c51 := by kernel_rfl
  c53 := by kernel_rfl
  c75 := by kernel_rfl
  c80 := by kernel_rfl
  c85 := by kernel_rfl
  c127 := by kernel_rfl
  c143 := by kernel_rfl
  c145 := by kernel_rfl
  c167 := by kernel_rfl
  c168 := by kernel_rfl
  c171 := by kernel_rfl
  c173 := by kernel_rfl
  c175 := by kernel_rfl
  c210 := by kernel_rfl
  c212 := by kernel_rfl
  c213 := by kernel_rfl
  c232 := by kernel_rfl
  c233 := by kernel_rfl }
def renTrimPrefix : Go.Shelf.Ren := ⟨fun | 101 => 63 | 206 => 89 | 208 => 74 | n => n, fun | 3 => 3 | 4 => 4 | 9 => 9 | n => n, fun n => n⟩
theorem laidTrimPrefix : Lays.n101 Tryd.prog renTrimPrefix := {
  mixed := by kernel_rfl
  f101 := Tryd.func63.trans (congrArg some (by kernel_rfl))
  f206 := Tryd.func89.trans (congrArg some (by kernel_rfl))
  f208 := Tryd.func74.trans (congrArg some (by kernel_rfl))
  t3 := Tryd.underlying3
  a3 := Tryd.isAgg3
  z3 := Tryd.sizeOf3
  v3 := Tryd.zeroValue3
  t4 := Tryd.underlying4
  a4 := Tryd.isAgg4
  z4 := Tryd.sizeOf4
  v4 := Tryd.zeroValue4
  t9 := Tryd.underlying9
  a9 := Tryd.isAgg9
  z9 := Tryd.sizeOf9
  v9 := Tryd.zeroValue9 }
end
theorem below_grow (w : World) (k : Nat) (os : Array Obj) : Go.RowKit.Below w.heap.size w (Go.Sort.grow (w.drewN k) os) :=
  ⟨rfl, rfl, rfl, by simp [Go.Sort.grow, World.drewN], fun i hi => by simp [Go.Sort.grow, World.drewN, Array.getElem?_append_left hi]⟩
theorem var_below {P : Program} {w w' : World} {n : String} {cs : Array Value} (h : w.var? P n = some cs) (b : Below w.heap.size w w') : w'.var? P n = some cs := by
  unfold World.var? at *
  cases hg : P.globalNamed n with
  | none => rw [hg] at h; cases h
  | some g =>
    rw [hg] at h
    simp only [Option.bind_some] at h ⊢
    have hlt : g < w.heap.size := by
      apply Decidable.byContradiction
      intro hn
      rw [Array.getElem?_eq_none (by omega)] at h
      cases h
    rw [b.block g hlt]
    exact h
def TabP (w : World) : Prop := Go.Lib.TabIs Tryd.prog w "internal/strconv.uint64pow10" .u64 Go.Lib.pow10Tab
theorem TabP.mono {w w' : World} (h : TabP w) (b : Below w.heap.size w w') : TabP w' := var_below h b
def TabE (w : World) : Prop := (∃ tp p, w.var? Tryd.prog "strconv.ErrSyntax" = some #[.iface tp p]) ∧ ∃ tp p, w.var? Tryd.prog "strconv.ErrRange" = some #[.iface tp p]
theorem TabE.mono {w w' : World} (h : TabE w) (b : Below w.heap.size w w') : TabE w' := by
  obtain ⟨⟨t1, p1, h1⟩, t2, p2, h2⟩ := h
  exact ⟨⟨t1, p1, var_below h1 b⟩, t2, p2, var_below h2 b⟩
def itoaB (n : Int) : ByteArray := ⟨(Go.Lib.itoa n).toArray⟩
theorem fmtInt (w : World) (n : Int) (h0 : -9223372036854775808 ≤ n) (h1 : n ≤ 9223372036854775807) (ht : TabP w) : Calls Tryd.prog 60 #[.int .i64 n, .int .i64 10] w (fun e w' => e = .returned (.string (itoaB n)) ∧ Below w.heap.size w w') :=
  (Any.strconv_FormatInt_10 laidFormatInt n h0 h1 w ht).mono fun e w' ⟨he, k, os, hw⟩ => ⟨he, .of (hw ▸ below_grow w k os)⟩
def trimB (s p : ByteArray) : ByteArray := ⟨(Go.Lib.trimPrefix s.data.toList p.data.toList).toArray⟩
theorem trimPre (w : World) (s p : ByteArray) : Calls Tryd.prog 63 #[.string s, .string p] w (fun e w' => e = .returned (.string (trimB s p)) ∧ Below w.heap.size w w') :=
  (Any.strings_TrimPrefix laidTrimPrefix s p w).mono fun e w' ⟨he, hw⟩ => ⟨he, hw ▸ Below.refl _ _⟩

/-! ### numbers in decimal: what the reference reads, what strconv reads and writes -/
def dvl (l : List UInt8) : Nat := l.foldl (fun n c => n * 10 + (c.toNat - 48)) 0
def isDg (c : UInt8) : Bool := decide (48 ≤ c.toNat ∧ c.toNat ≤ 57)
theorem isDg_t {c : UInt8} (h : isDg c = true) : 48 ≤ c.toNat ∧ c.toNat ≤ 57 := of_decide_eq_true h
theorem dvl_snoc (l : List UInt8) (c : UInt8) : dvl (l ++ [c]) = dvl l * 10 + (c.toNat - 48) := by simp [dvl]
theorem ofNat_digit {c : UInt8} (h : isDg c = true) : UInt8.ofNat (48 + (c.toNat - 48)) = c := by
  have := isDg_t h
  have e : 48 + (c.toNat - 48) = c.toNat := by omega
  rw [e]; exact UInt8.ofNat_toNat
theorem snoc_cases {α : Type} (l : List α) : l = [] ∨ ∃ a c, l = a ++ [c] := by
  rcases List.eq_nil_or_concat l with h | ⟨a, c, h⟩
  · exact .inl h
  · exact .inr ⟨a, c, by simpa using h⟩
/-- Digits as they are written: a 0 ahead only where it stands alone. -/
def Canon (d : List UInt8) : Prop := 1 ≤ d.length ∧ d.all isDg = true ∧ (d.getD 0 0 = 48 → d.length = 1)
theorem dvl_pos : ∀ (n : Nat) (d : List UInt8), d.length = n → Canon d → d.getD 0 0 ≠ 48 → 1 ≤ dvl d
  | 0, d, hn, h, _ => by have := h.1; omega
  | n + 1, d, hn, h, h0 => by
    rcases snoc_cases d with rfl | ⟨a, c, rfl⟩
    · simp at hn
    · rw [dvl_snoc]
      obtain ⟨h1, h2, h3⟩ := h
      simp only [List.all_append, Bool.and_eq_true, List.all_cons, List.all_nil, Bool.and_true] at h2
      by_cases ha : a = []
      · subst ha
        simp only [List.nil_append, List.getD_cons_zero] at h0
        have := isDg_t h2.2
        have hne : c.toNat ≠ 48 := fun e => h0 (UInt8.toNat.inj (by simpa using e))
        simp only [dvl, List.foldl_nil]; omega
      · have hl : 1 ≤ a.length := List.length_pos_iff.2 ha
        have hg : (a ++ [c]).getD 0 0 = a.getD 0 0 := by cases a with | nil => exact absurd rfl ha | cons x r => rfl
        rw [hg] at h0
        have := dvl_pos n a (by simpa using hn) ⟨hl, h2.1, fun e => absurd e h0⟩ h0
        omega
theorem dec_dvl : ∀ (n : Nat) (d : List UInt8), d.length = n → Canon d → Go.Lib.decDigits (dvl d) = d
  | 0, d, hn, h => by have := h.1; omega
  | n + 1, d, hn, h => by
    rcases snoc_cases d with rfl | ⟨a, c, rfl⟩
    · simp at hn
    · rw [dvl_snoc]
      obtain ⟨h1, h2, h3⟩ := h
      simp only [List.all_append, Bool.and_eq_true, List.all_cons, List.all_nil, Bool.and_true] at h2
      have hc := isDg_t h2.2
      by_cases ha : a = []
      · subst ha
        rw [Go.Lib.decDigits, dif_pos (by simp only [dvl, List.foldl_nil]; omega)]
        simp only [dvl, List.foldl_nil, Nat.zero_mul, Nat.zero_add, List.nil_append]
        rw [ofNat_digit h2.2]
      · have hl : 1 ≤ a.length := List.length_pos_iff.2 ha
        have hg : (a ++ [c]).getD 0 0 = a.getD 0 0 := by cases a with | nil => exact absurd rfl ha | cons x r => rfl
        have h0 : a.getD 0 0 ≠ 48 := fun e => by have := h3 (hg.trans e); rw [List.length_append, List.length_singleton] at this; omega
        have hca : Canon a := ⟨hl, h2.1, fun e => absurd e h0⟩
        have hn' : a.length = n := by simpa using hn
        have hp := dvl_pos n a hn' hca h0
        generalize hA : dvl a = A at *
        have hlt : ¬ A * 10 + (c.toNat - 48) < 10 := by omega
        subst hA
        rw [Go.Lib.decDigits, dif_neg hlt]
        have e1 : (dvl a * 10 + (c.toNat - 48)) / 10 = dvl a := by omega
        have e2 : (dvl a * 10 + (c.toNat - 48)) % 10 = c.toNat - 48 := by omega
        rw [e1, e2, dec_dvl n a hn' hca, ofNat_digit h2.2]
theorem dig_toNat {u : Nat} (h : u < 10) : (UInt8.ofNat (48 + u)).toNat = 48 + u := by rw [UInt8.toNat_ofNat']; omega
theorem dec_canon : ∀ (u : Nat), Canon (Go.Lib.decDigits u) ∧ dvl (Go.Lib.decDigits u) = u := fun u => by
  induction u using Nat.strongRecOn with
  | _ u ih =>
    by_cases h : u < 10
    · rw [Go.Lib.decDigits, dif_pos h]
      have := dig_toNat h
      exact ⟨⟨by simp, by simp [isDg, this]; omega, by simp⟩, by simp [dvl]; omega⟩
    · rw [Go.Lib.decDigits, dif_neg h]
      obtain ⟨⟨h1, h2, h3⟩, h4⟩ := ih (u / 10) (by omega)
      have hd := dig_toNat (u := u % 10) (by omega)
      have hdg : isDg (UInt8.ofNat (48 + u % 10)) = true := by simp [isDg, hd]; omega
      refine ⟨⟨by simp, by rw [List.all_append, h2, List.all_cons, hdg]; rfl, fun e => ?_⟩, by rw [dvl_snoc, h4, hd]; omega⟩
      exfalso
      have hg : (Go.Lib.decDigits (u / 10) ++ [UInt8.ofNat (48 + u % 10)]).getD 0 0 = (Go.Lib.decDigits (u / 10)).getD 0 0 := by
        revert h1; cases Go.Lib.decDigits (u / 10) with | nil => intro h1; simp at h1 | cons x r => intro _; rfl
      have hl := h3 (hg.symm.trans e)
      have he := hg.symm.trans e
      have hz : Go.Lib.decDigits (u / 10) = [48] := by
        revert hl he; cases Go.Lib.decDigits (u / 10) with
        | nil => intro hl; simp at hl
        | cons x r => intro hl he; simp at hl he; subst hl; rw [he]
      rw [hz] at h4
      have : dvl [48] = 0 := by decide
      omega
theorem dec_head {u : Nat} (h : (Go.Lib.decDigits u).getD 0 0 = 48) : u = 0 := by
  obtain ⟨⟨h1, h2, h3⟩, h4⟩ := dec_canon u
  have hl := h3 h
  have hz : Go.Lib.decDigits u = [48] := by
    revert hl h; cases Go.Lib.decDigits u with
    | nil => intro _ hl; simp at hl
    | cons x r => intro h hl; simp at hl h; subst hl; rw [h]
  rw [hz] at h4
  exact h4.symm
theorem dvl_lt : ∀ (n : Nat) (d : List UInt8), d.length = n → d.all isDg = true → dvl d < 10 ^ n
  | 0, d, hn, _ => by obtain rfl : d = [] := List.length_eq_zero_iff.1 hn; simp [dvl]
  | n + 1, d, hn, h => by
    rcases snoc_cases d with rfl | ⟨a, c, rfl⟩
    · simp at hn
    · rw [dvl_snoc]
      simp only [List.all_append, Bool.and_eq_true, List.all_cons, List.all_nil, Bool.and_true] at h
      have hc := isDg_t h.2
      have := dvl_lt n a (by simpa using hn) h.1
      rw [Nat.pow_succ]; omega
theorem dvl_six {d : List UInt8} (hd : d.all isDg = true) (h : d.length ≤ 6) : dvl d < 1000000 := by
  have h1 := dvl_lt d.length d rfl hd
  have h2 : 10 ^ d.length ≤ 10 ^ 6 := Nat.pow_le_pow_right (by decide) h
  omega
theorem pum : ∀ (d : List UInt8) (acc : Nat), d.all isDg = true → acc * 10 ^ d.length + 10 ^ d.length ≤ 10 ^ 12 → Go.Lib.parseUintM (2 ^ 64 - 1) acc d = .ok (d.foldl (fun n c => n * 10 + (c.toNat - 48)) acc)
  | [], acc, _, _ => rfl
  | c :: r, acc, hd, hb => by
    simp only [List.all_cons, Bool.and_eq_true] at hd
    have hc := isDg_t hd.1
    rw [List.length_cons, Nat.pow_succ] at hb
    have hp : 1 ≤ 10 ^ r.length := Nat.one_le_pow _ _ (by decide)
    have hacc : acc * (10 ^ r.length * 10) ≤ 10 ^ 12 := by omega
    have h1 : acc ≤ 10 ^ 12 := Nat.le_trans (Nat.le_mul_of_pos_right _ (by omega)) hacc
    unfold Go.Lib.parseUintM
    rw [if_pos hc, if_neg (by omega), if_neg (by omega)]
    refine (pum r _ hd.2 ?_).trans rfl
    have e : (acc * 10 + (c.toNat - 48)) * 10 ^ r.length + 10 ^ r.length = (acc * 10) * 10 ^ r.length + (c.toNat - 48 + 1) * 10 ^ r.length := by
      rw [Nat.add_mul, Nat.add_mul (c.toNat - 48) 1]; omega
    have e2 : (c.toNat - 48 + 1) * 10 ^ r.length ≤ 10 * 10 ^ r.length := Nat.mul_le_mul_right _ (by omega)
    have e3 : acc * (10 ^ r.length * 10) = (acc * 10) * 10 ^ r.length := by rw [Nat.mul_comm (10 ^ r.length) 10, Nat.mul_assoc]
    omega
theorem pub {d : List UInt8} (h1 : 1 ≤ d.length) (hd : d.all isDg = true) (h6 : d.length ≤ 6) : Go.Lib.parseUintB 64 d = .ok (dvl d) := by
  unfold Go.Lib.parseUintB
  rw [if_neg (by intro e; subst e; simp at h1)]
  have h2 : 10 ^ d.length ≤ 10 ^ 6 := Nat.pow_le_pow_right (by decide) h6
  exact pum d 0 hd (by omega)

def digL : List UInt8 → List UInt8
  | c :: d :: r => if c = 45 then d :: r else c :: d :: r
  | l => l
def badL (l d : List UInt8) : Prop := d.length < 1 ∨ 6 < d.length ∨ ((d.getD 0 0 = 48) ∧ (1 < d.length ∨ 1 < l.length))
instance (l d : List UInt8) : Decidable (badL l d) := by unfold badL; infer_instance
/-- What the reference reads. -/
def numL (l : List UInt8) : Int × Bool :=
  if badL l (digL l) then (0, false)
  else if (digL l).all isDg = true then (if (digL l).length < l.length then -(dvl (digL l) : Int) else (dvl (digL l) : Int), true) else (0, false)
def piV (l : List UInt8) : Int := match Go.Lib.parseIntB 64 l with | .ok v => v | .«syntax» => 0 | .range => Go.Lib.intSat 64 l
def piOk (l : List UInt8) : Bool := match Go.Lib.parseIntB 64 l with | .ok _ => true | _ => false
theorem piOk_t {l : List UInt8} (h : piOk l = true) : Go.Lib.parseIntB 64 l = .ok (piV l) := by
  unfold piOk at h; unfold piV; split at h <;> simp_all
theorem piOk_f {l : List UInt8} (h : ¬ piOk l = true) : (Go.Lib.parseIntB 64 l = .«syntax» ∧ piV l = 0) ∨ (Go.Lib.parseIntB 64 l = .range ∧ piV l = Go.Lib.intSat 64 l) := by
  unfold piOk at h; unfold piV
  split at h
  · exact absurd rfl h
  · rename_i h2; generalize Go.Lib.parseIntB 64 l = z at *; cases z <;> simp_all
/-- What the program reads. -/
def numI (l : List UInt8) : Int × Bool :=
  if 6 < (Go.Lib.trimPrefix l [45]).length then (0, false) else (piV l, piOk l && decide (Go.Lib.itoa (piV l) = l))
theorem dg_ne {c : UInt8} (h : isDg c = true) : c.toNat ≠ 43 ∧ c.toNat ≠ 45 := by have := isDg_t h; omega
theorem numL_itoa {n : Int} (h : (Go.Lib.trimPrefix (Go.Lib.itoa n) [45]).length ≤ 6) : numL (Go.Lib.itoa n) = (n, true) ∧ Go.Lib.parseIntB 64 (Go.Lib.itoa n) = .ok n := by
  by_cases hn : n < 0
  · obtain ⟨u, hu1, rfl⟩ : ∃ u : Nat, 1 ≤ u ∧ n = -(u : Int) := ⟨n.natAbs, by omega, by omega⟩
    rw [Go.Lib.itoa_neg u hu1] at h ⊢
    obtain ⟨⟨h1, h2, h3⟩, h4⟩ := dec_canon u
    have hh : (Go.Lib.decDigits u).getD 0 0 ≠ 48 := fun e => by have := dec_head e; omega
    have ht : Go.Lib.trimPrefix (45 :: Go.Lib.decDigits u) [45] = Go.Lib.decDigits u := by simp [Go.Lib.trimPrefix, Go.Lib.hasPrefix]
    rw [ht] at h
    have hd : digL (45 :: Go.Lib.decDigits u) = Go.Lib.decDigits u := by
      revert h1; cases Go.Lib.decDigits u with | nil => intro h1; simp at h1 | cons x r => intro _; rfl
    have hsz := dvl_six h2 h
    constructor
    · unfold numL
      rw [hd, if_neg (fun hb => by unfold badL at hb; rcases hb with hb | hb | hb <;> first | omega | exact hh hb.1), if_pos h2, if_pos (by simp), h4]
    · rw [Go.Lib.parseIntB_minus, pub h1 h2 h, h4]
      rw [h4] at hsz
      simp [Go.Lib.signedC]; omega
  · obtain ⟨u, rfl⟩ : ∃ u : Nat, n = (u : Int) := ⟨n.toNat, by omega⟩
    rw [Go.Lib.itoa_nonneg] at h ⊢
    obtain ⟨⟨h1, h2, h3⟩, h4⟩ := dec_canon u
    generalize hD : Go.Lib.decDigits u = D at *
    match D, h1, h2, h3, h4, h with
    | c :: r, h1, h2, h3, h4, h =>
      have hc : isDg c = true := by simp only [List.all_cons, Bool.and_eq_true] at h2; exact h2.1
      have hne : c ≠ 45 := fun e => (dg_ne hc).2 (by rw [e]; rfl)
      have ht : Go.Lib.trimPrefix (c :: r) [45] = c :: r := by simp [Go.Lib.trimPrefix, Go.Lib.hasPrefix, Ne.symm hne]
      rw [ht] at h
      have hd : digL (c :: r) = c :: r := by cases r with | nil => rfl | cons x r => simp [digL, hne]
      have hsz := dvl_six h2 h
      constructor
      · unfold numL
        rw [hd, if_neg (fun hb => by unfold badL at hb; rcases hb with hb | hb | hb <;> first | omega | (have := h3 hb.1; omega)), if_pos h2, if_neg (by omega), h4]
      · rw [Go.Lib.parseIntB_plain 64 c r (dg_ne hc).1 (dg_ne hc).2, pub h1 h2 h, h4]
        rw [h4] at hsz
        simp [Go.Lib.signlessC]; omega
theorem numL_true {l : List UInt8} (h : (numL l).2 = true) : l = Go.Lib.itoa (numL l).1 ∧ (Go.Lib.trimPrefix l [45]).length ≤ 6 := by
  unfold numL at h ⊢
  split at h
  · cases h
  · rename_i hb
    rw [if_neg hb]
    split at h
    · rename_i hall
      rw [if_pos hall]
      unfold badL at hb
      have h1 : 1 ≤ (digL l).length := by omega
      have h6 : (digL l).length ≤ 6 := by omega
      have hz : (digL l).getD 0 0 = 48 → ¬ 1 < (digL l).length ∧ ¬ 1 < l.length := fun e => ⟨fun z => hb (.inr (.inr ⟨e, .inl z⟩)), fun z => hb (.inr (.inr ⟨e, .inr z⟩))⟩
      have hcan : Canon (digL l) := ⟨h1, hall, fun e => by have := (hz e).1; omega⟩
      have hdec := dec_dvl _ _ rfl hcan
      by_cases hneg : (digL l).length < l.length
      · rw [if_pos hneg]
        match l, hneg with
        | c :: d :: r, hneg =>
          by_cases hc : c = 45
          · subst hc
            have hdl : digL (45 :: d :: r) = d :: r := rfl
            rw [hdl] at h1 h6 hz hcan hdec hall
            have h0 : (d :: r).getD 0 0 ≠ 48 := fun e => (hz e).2 (by simp)
            have hp := dvl_pos _ _ rfl hcan h0
            rw [hdl, Go.Lib.itoa_neg _ hp, hdec]
            exact ⟨rfl, by simpa [Go.Lib.trimPrefix, Go.Lib.hasPrefix] using h6⟩
          · exfalso
            have : digL (c :: d :: r) = c :: d :: r := by simp [digL, hc]
            rw [this] at hneg; omega
        | [c], hneg => simp [digL] at hneg
        | [], hneg => simp [digL] at hneg
      · rw [if_neg hneg, Go.Lib.itoa_nonneg, hdec]
        have hdl : digL l = l := by
          match l, hneg with
          | c :: d :: r, hneg =>
            by_cases hc : c = 45
            · subst hc; exfalso; exact hneg (by simp [digL])
            · simp [digL, hc]
          | [c], _ => rfl
          | [], _ => rfl
        rw [hdl] at h1 h6 hall
        refine ⟨by rw [hdl], ?_⟩
        clear hb hz hcan hdec hneg h hdl
        match l, h1, hall, h6 with
        | c :: r, _, hall, h6 =>
          have hcd : isDg c = true := by simp only [List.all_cons, Bool.and_eq_true] at hall; exact hall.1
          have hne : c ≠ 45 := fun e => (dg_ne hcd).2 (by rw [e]; rfl)
          simpa [Go.Lib.trimPrefix, Go.Lib.hasPrefix, Ne.symm hne] using h6
    · cases h
theorem num_same (l : List UInt8) : (numI l).2 = (numL l).2 ∧ ((numL l).2 = true → (numI l).1 = (numL l).1) := by
  by_cases h : (numL l).2 = true
  · obtain ⟨h1, h2⟩ := numL_true h
    generalize hn : (numL l).1 = n at *
    subst h1
    obtain ⟨h3, h4⟩ := numL_itoa h2
    have hv : piV (Go.Lib.itoa n) = n := by unfold piV; rw [h4]
    have ho : piOk (Go.Lib.itoa n) = true := by unfold piOk; rw [h4]
    unfold numI
    rw [if_neg (by omega), h, hv, ho]
    simp
  · have hf : (numL l).2 = false := by simpa using h
    refine ⟨?_, fun z => absurd z h⟩
    rw [hf]
    unfold numI
    split
    · rfl
    · rename_i h6
      show (piOk l && decide (Go.Lib.itoa (piV l) = l)) = false
      cases ho : piOk l with
      | false => rfl
      | true =>
        rw [Bool.true_and]
        refine decide_eq_false fun e => h ?_
        have h7 : (Go.Lib.trimPrefix (Go.Lib.itoa (piV l)) [45]).length ≤ 6 := by rw [e]; omega
        have := (numL_itoa h7).1
        rw [e] at this
        rw [this]

/-! impl.decimal -/
set_option maxRecDepth 20000 in
set_option maxHeartbeats 2000000 in
theorem impl_decimal (w : World) (n : Int) (h0 : -9223372036854775808 ≤ n) (h1 : n ≤ 9223372036854775807) (ht : TabP w) : Calls Tryd.prog 38 #[.int .i64 n] w (fun e_ w2_ => e_ = .returned (.string (itoaB n)) ∧ Below w.heap.size w w2_) := by
  refine fnc (X := X 5 w) (args := [.int .i64 n]) (l := [(0, .int .i64 n)]) (G := []) Tryd.func38 rfl rfl rfl ⟨rfl, trivial⟩ (s0n w).1 ?_
  refine sq (rg (a_ rfl rfl (en (nx (sq (rg (m_ rfl rfl (cs_ (v := .string (itoaB n)) (by kernel_rfl) rfl rfl rfl (fun w_ hs_ => fmtInt w_ _ (by omega) (by omega) (ht.mono hs_.below)) (a_ rfl rfl (en (nx (rt (ret1 rfl rfl (fun w_ hs_ => ⟨?_, hs_.below⟩))))))))))))))
  rfl
structure Pair where
  id : Int
  rect : Rect
  deriving DecidableEq
structure TextResult where
  code : Int
  text : ByteArray
  deriving DecidableEq
structure Answer where
  code : Int
  pairs : List Pair
  deriving DecidableEq
def kPairS : Kd Pair := ((Kd.i64.via Pair.id).cat (kRectS.via Pair.rect))
theorem kPairS_sh {w : World} {cs : List Value} {x : Pair} {o s : List Nat} (h : kPairS.Rel w cs x o s) : ∃ (A1 : Option Addr) (c1 : Nat) (A2 : Option Addr) (c2 : Nat), cs = [.int .i64 x.id, .slice A1 x.rect.low.length c1, .slice A2 x.rect.high.length c2] := by
  obtain ⟨c10, c20, o10, o20, s10, s20, rfl, rfl, rfl, h0, k0⟩ := h
  obtain ⟨rfl, -, -⟩ := h0
  obtain ⟨_, _, _, _, rfl⟩ := kRectS_sh k0
  exact ⟨_, _, _, _, rfl⟩
theorem kPairS_p1_2 : Kd.Sub kPairS 1 kRectS (fun x => x.rect) := (Kd.Sub.right (Kd.Sub.rfl.via Pair.rect) _)
theorem kPairS_p1_1 : Kd.Sub kPairS 1 (Kd.sl Kd.i64) (fun x => x.rect.low) := (Kd.Sub.right (kRectS_p0_1.via Pair.rect) _)
theorem kPairS_p2_1 : Kd.Sub kPairS 2 (Kd.sl Kd.i64) (fun x => x.rect.high) := (Kd.Sub.right (kRectS_p1_1.via Pair.rect) _)
theorem kPairS_self : Kd.Seals kPairS kPairS := (Kd.Seals.cat (Kd.Seals.via Kd.Seals.i64 _) (Kd.Seals.via kRectS_self _))
theorem kPairS_pure : Kd.Pure kPairS := (Kd.Pure.cat (Kd.Pure.via Kd.Pure.i64 _) (Kd.Pure.via kRectS_pure _))
def kTextResultS : Kd TextResult := ((Kd.i64.via TextResult.code).cat (Kd.str.via TextResult.text))
theorem kTextResultS_sh {w : World} {cs : List Value} {x : TextResult} {o s : List Nat} (h : kTextResultS.Rel w cs x o s) : cs = [.int .i64 x.code, .string x.text] := by
  obtain ⟨c10, c20, o10, o20, s10, s20, rfl, rfl, rfl, h0, k0⟩ := h
  obtain ⟨rfl, -, -⟩ := h0
  obtain ⟨rfl, -, -⟩ := k0
  exact rfl
theorem kTextResultS_self : Kd.Seals kTextResultS kTextResultS := (Kd.Seals.cat (Kd.Seals.via Kd.Seals.i64 _) (Kd.Seals.via Kd.Seals.str _))
theorem kTextResultS_pure : Kd.Pure kTextResultS := (Kd.Pure.cat (Kd.Pure.via Kd.Pure.i64 _) (Kd.Pure.via Kd.Pure.str _))
def kAnswerS : Kd Answer := ((Kd.i64.via Answer.code).cat ((Kd.sl kPairS).via Answer.pairs))
theorem kAnswerS_sh {w : World} {cs : List Value} {x : Answer} {o s : List Nat} (h : kAnswerS.Rel w cs x o s) : ∃ (A1 : Option Addr) (c1 : Nat), cs = [.int .i64 x.code, .slice A1 x.pairs.length c1] := by
  obtain ⟨c10, c20, o10, o20, s10, s20, rfl, rfl, rfl, h0, k0⟩ := h
  obtain ⟨rfl, -, -⟩ := h0
  obtain ⟨-, A1_, c1_, rfl, -⟩ := k0
  exact ⟨_, _, rfl⟩
theorem kAnswerS_p1_1 : Kd.Sub kAnswerS 1 (Kd.sl kPairS) (fun x => x.pairs) := (Kd.Sub.right (Kd.Sub.rfl.via Answer.pairs) _)
theorem kAnswerS_self : Kd.Seals kAnswerS kAnswerS := (Kd.Seals.cat (Kd.Seals.via Kd.Seals.i64 _) (Kd.Seals.via Kd.Seals.refl_sl _))
theorem kAnswerS_pure : Kd.Pure kAnswerS := (Kd.Pure.cat (Kd.Pure.via Kd.Pure.i64 _) (Kd.Pure.via (Kd.Pure.sl _) _))
def kPairO : Kd Pair := ((Kd.i64.via Pair.id).cat (kRectO.via Pair.rect))
theorem kPairO_sh {w : World} {cs : List Value} {x : Pair} {o s : List Nat} (h : kPairO.Rel w cs x o s) : ∃ (A1 : Option Addr) (c1 : Nat) (A2 : Option Addr) (c2 : Nat), cs = [.int .i64 x.id, .slice A1 x.rect.low.length c1, .slice A2 x.rect.high.length c2] := by
  obtain ⟨c10, c20, o10, o20, s10, s20, rfl, rfl, rfl, h0, k0⟩ := h
  obtain ⟨rfl, -, -⟩ := h0
  obtain ⟨_, _, _, _, rfl⟩ := kRectO_sh k0
  exact ⟨_, _, _, _, rfl⟩
theorem kPairO_seal : Kd.Seals kPairO kPairS := (Kd.Seals.cat (Kd.Seals.via Kd.Seals.i64 _) (Kd.Seals.via kRectO_seal _))
def kTextResultO : Kd TextResult := ((Kd.i64.via TextResult.code).cat (Kd.str.via TextResult.text))
theorem kTextResultO_sh {w : World} {cs : List Value} {x : TextResult} {o s : List Nat} (h : kTextResultO.Rel w cs x o s) : cs = [.int .i64 x.code, .string x.text] := by
  obtain ⟨c10, c20, o10, o20, s10, s20, rfl, rfl, rfl, h0, k0⟩ := h
  obtain ⟨rfl, -, -⟩ := h0
  obtain ⟨rfl, -, -⟩ := k0
  exact rfl
theorem kTextResultO_seal : Kd.Seals kTextResultO kTextResultS := (Kd.Seals.cat (Kd.Seals.via Kd.Seals.i64 _) (Kd.Seals.via Kd.Seals.str _))
def kAnswerO : Kd Answer := ((Kd.i64.via Answer.code).cat ((Kd.row 40 kPairO).via Answer.pairs))
theorem kAnswerO_sh {w : World} {cs : List Value} {x : Answer} {o s : List Nat} (h : kAnswerO.Rel w cs x o s) : ∃ (A1 : Option Addr) (c1 : Nat), cs = [.int .i64 x.code, .slice A1 x.pairs.length c1] := by
  obtain ⟨c10, c20, o10, o20, s10, s20, rfl, rfl, rfl, h0, k0⟩ := h
  obtain ⟨rfl, -, -⟩ := h0
  obtain ⟨A1_, c1_, rfl⟩ := Kd.row_sh k0
  exact ⟨_, _, rfl⟩
theorem kAnswerO_seal : Kd.Seals kAnswerO kAnswerS := (Kd.Seals.cat (Kd.Seals.via Kd.Seals.i64 _) (Kd.Seals.via (Kd.Seals.row kPairO_seal _) _))
theorem Pair_eq (a b : Pair) : decide (a = b) = (decide (a.id = b.id) && decide (a.rect = b.rect)) := by
  cases a; cases b; rw [Bool.eq_iff_iff]; simp [and_assoc]
theorem TextResult_eq (a b : TextResult) : decide (a = b) = (decide (a.code = b.code) && decide (a.text = b.text)) := by
  cases a; cases b; rw [Bool.eq_iff_iff]; simp [and_assoc]
theorem Answer_eq (a b : Answer) : decide (a = b) = (decide (a.code = b.code) && decide (a.pairs = b.pairs)) := by
  cases a; cases b; rw [Bool.eq_iff_iff]; simp [and_assoc]
def szPair (a : Pair) : Int := szRect a.rect
theorem szPair_nn (a : Pair) : 0 ≤ szPair a := by have := szRect_nn a.rect; unfold szPair; omega
def zPair : Pair := (⟨0, zRect⟩ : Pair)
/-! laws.eqPair -/
set_option maxRecDepth 20000 in
set_option maxHeartbeats 2000000 in
theorem laws_eqPair (w : World) {Aa1 : Option Addr} {ca1 : Nat} {Aa2 : Option Addr} {ca2 : Nat} {a : Pair} {sa_ : List Nat} (ha : kPairS.Rel w [.int .i64 a.id, .slice Aa1 a.rect.low.length ca1, .slice Aa2 a.rect.high.length ca2] a [] sa_) {Ab1 : Option Addr} {cb1 : Nat} {Ab2 : Option Addr} {cb2 : Nat} {b : Pair} {sb_ : List Nat} (hb : kPairS.Rel w [.int .i64 b.id, .slice Ab1 b.rect.low.length cb1, .slice Ab2 b.rect.high.length cb2] b [] sb_)  : Calls Tryd.prog 17 #[.agg #[.int .i64 a.id, .slice Aa1 a.rect.low.length ca1, .slice Aa2 a.rect.high.length ca2], .agg #[.int .i64 b.id, .slice Ab1 b.rect.low.length cb1, .slice Ab2 b.rect.high.length cb2]] w (fun e_ w2_ => e_ = .returned (.bool (decide (a = b))) ∧ Below w.heap.size w w2_) := by
  refine fnc (X := X 16 w) (args := [.agg #[.int .i64 a.id, .slice Aa1 a.rect.low.length ca1, .slice Aa2 a.rect.high.length ca2], .agg #[.int .i64 b.id, .slice Ab1 b.rect.low.length cb1, .slice Ab2 b.rect.high.length cb2]]) (l := [(0, .agg #[.int .i64 a.id, .slice Aa1 a.rect.low.length ca1, .slice Aa2 a.rect.high.length ca2]), (1, .agg #[.int .i64 b.id, .slice Ab1 b.rect.low.length cb1, .slice Ab2 b.rect.high.length cb2])]) (G := [dat kPairS [.int .i64 b.id, .slice Ab1 b.rect.low.length cb1, .slice Ab2 b.rect.high.length cb2] b ([]) sb_, dat kPairS [.int .i64 a.id, .slice Aa1 a.rect.low.length ca1, .slice Aa2 a.rect.high.length ca2] a ([]) sa_]) Tryd.func17 rfl rfl rfl ⟨rfl, rfl, trivial⟩ (s0d hb (s0d ha (s0n w))).1 ?_
  refine sq (rg (bx rfl rfl rfl rfl ?_))
  intro b1
  refine bx rfl rfl rfl rfl ?_
  intro b2
  refine a_ rfl rfl (en (nx (sq (sq (rg (vl (fa rfl rfl rfl) rfl (vl (ldb (u := .int .i64 a.id) 1 rfl rfl rfl rfl rfl rfl rfl) rfl (vl (fa rfl rfl rfl) rfl (vl (ldb (u := .int .i64 b.id) 0 rfl rfl rfl rfl rfl rfl rfl) rfl (vl (cm rfl rfl rfl rfl) rfl (en (nx ?_))))))))))))
  by_cases h3 : a.id = b.id
  · refine cf rfl (bne_eq_false_iff_eq.2 h3) (sk (nx (sq (sq (rg (vl (fa rfl rfl rfl) rfl (vl (ldb 1 rfl rfl rfl rfl rfl rfl rfl) rfl (vl (fa rfl rfl rfl) rfl (vl (ldb 0 rfl rfl rfl rfl rfl rfl rfl) rfl ?_)))))))))
    refine gd 3 kPairS_p1_2 rfl (cs' := [.slice Aa1 a.rect.low.length ca1, .slice Aa2 a.rect.high.length ca2]) rfl fun s4 w_ rs4 us4 => ?_
    refine gd 3 kPairS_p1_2 rfl (cs' := [.slice Ab1 b.rect.low.length cb1, .slice Ab2 b.rect.high.length cb2]) rfl fun s5 w_ rs5 us5 => ?_
    refine cs_ (v := .bool (decide (a.rect = b.rect))) (by kernel_rfl) rfl rfl rfl (fun w_ hs_ => laws_eqRect w_ (hs_.at 1 rfl) (hs_.at 0 rfl)) (vl (nt rfl rfl) rfl (en (nx ?_)))
    by_cases h6 : decide (a.rect = b.rect) = true
    · refine cf rfl (not_f h6) (sk (nx (sq (rg (a_ rfl rfl (en (nx (rt (ret1 rfl rfl (fun w_ hs_ => ⟨?_, hs_.below⟩))))))))))
      rw [Pair_eq]; simp [h3, h6]
    · refine ct rfl (not_t (Bool.eq_false_iff.2 h6)) (sq (rg (a_ rfl rfl (en (nx (rt (xr (ret1 rfl rfl (fun w_ hs_ => ⟨?_, hs_.below⟩)))))))))
      rw [Pair_eq]; simp [h3, h6]
  · refine ct rfl (bne_iff_ne.2 h3) (sq (rg (a_ rfl rfl (en (nx (rt (xr (ret1 rfl rfl (fun w_ hs_ => ⟨?_, hs_.below⟩)))))))))
    rw [Pair_eq]; simp [h3]
/-! laws.szPair -/
set_option maxRecDepth 20000 in
set_option maxHeartbeats 2000000 in
theorem laws_szPair (w : World) (left : Int) {Aa1 : Option Addr} {ca1 : Nat} {Aa2 : Option Addr} {ca2 : Nat} {a : Pair} {sa_ : List Nat} (ha : kPairS.Rel w [.int .i64 a.id, .slice Aa1 a.rect.low.length ca1, .slice Aa2 a.rect.high.length ca2] a [] sa_) (h0 : 0 ≤ left) (h1 : left ≤ 1152921504606846976) : Calls Tryd.prog 12 #[.agg #[.int .i64 a.id, .slice Aa1 a.rect.low.length ca1, .slice Aa2 a.rect.high.length ca2], .int .i64 left] w (fun e_ w2_ => e_ = .returned (.int .i64 (szTake (szPair a) left)) ∧ Below w.heap.size w w2_) := by
  have n0 := szRect_nn a.rect
  refine fnc (X := X 12 w) (args := [.agg #[.int .i64 a.id, .slice Aa1 a.rect.low.length ca1, .slice Aa2 a.rect.high.length ca2], .int .i64 left]) (l := [(0, .agg #[.int .i64 a.id, .slice Aa1 a.rect.low.length ca1, .slice Aa2 a.rect.high.length ca2]), (1, .int .i64 left)]) (G := [dat kPairS [.int .i64 a.id, .slice Aa1 a.rect.low.length ca1, .slice Aa2 a.rect.high.length ca2] a ([]) sa_]) Tryd.func12 rfl rfl rfl ⟨rfl, rfl, trivial⟩ (s0d ha (s0n w)).1 ?_
  refine sq (rg (bx rfl rfl rfl rfl ?_))
  intro b1
  refine a_ rfl rfl (en (nx (sq (rg (vl (fa rfl rfl rfl) rfl (vl (ldb 0 rfl rfl rfl rfl rfl rfl rfl) rfl (m_ rfl rfl ?_)))))))
  refine gd 1 kPairS_p1_2 rfl (cs' := [.slice Aa1 a.rect.low.length ca1, .slice Aa2 a.rect.high.length ca2]) rfl fun s2 w_ rs2 us2 => ?_
  refine cs_ (v := .int .i64 (szTake (szRect a.rect) left)) (by kernel_rfl) rfl rfl rfl (fun w_ hs_ => laws_szRect w_ _ (hs_.at 0 rfl) (by omega) (by omega)) (a_ rfl rfl (en (nx (sq (sq (rg (m_ rfl rfl (vl (cm rfl rfl rfl rfl) rfl (en (nx ?_))))))))))
  by_cases h3 : (szTake (szRect a.rect) left) < (0 : Int)
  · have eh3 := szTake_t h3
    refine ct rfl (decide_eq_true h3) (sq (rg (a_ rfl rfl (en (nx (rt (xr (ret1 rfl rfl (fun w_ hs_ => ⟨?_, hs_.below⟩)))))))))
    exact ri (by unfold szTake szPair; split <;> omega)
  · have eh3 := szTake_f h3
    refine cf rfl (decide_eq_false h3) (sk (nx (sq (rg (m_ rfl rfl (a_ rfl rfl (en (nx (rt (ret1 rfl rfl (fun w_ hs_ => ⟨?_, hs_.below⟩)))))))))))
    exact ri (by unfold szTake szPair; split <;> omega)
/-! laws.toPair -/
set_option maxRecDepth 20000 in
set_option maxHeartbeats 2000000 in
theorem laws_toPair (w : World) {Aa1 : Option Addr} {ca1 : Nat} {Aa2 : Option Addr} {ca2 : Nat} {a : Pair} {sa_ : List Nat} (ha : kPairS.Rel w [.int .i64 a.id, .slice Aa1 a.rect.low.length ca1, .slice Aa2 a.rect.high.length ca2] a [] sa_) (hz : szPair a ≤ 1048576) : Calls Tryd.prog 14 #[.agg #[.int .i64 a.id, .slice Aa1 a.rect.low.length ca1, .slice Aa2 a.rect.high.length ca2]] w (Made kPairO w a []) := by
  unfold szPair at hz; have n0 := szRect_nn a.rect
  refine fnc (X := X 12 w) (args := [.agg #[.int .i64 a.id, .slice Aa1 a.rect.low.length ca1, .slice Aa2 a.rect.high.length ca2]]) (l := [(0, .agg #[.int .i64 a.id, .slice Aa1 a.rect.low.length ca1, .slice Aa2 a.rect.high.length ca2])]) (G := [dat kPairS [.int .i64 a.id, .slice Aa1 a.rect.low.length ca1, .slice Aa2 a.rect.high.length ca2] a ([]) sa_]) Tryd.func14 rfl rfl rfl ⟨rfl, trivial⟩ (s0d ha (s0n w)).1 ?_
  refine sq (rg (bx rfl rfl rfl rfl ?_))
  intro b1
  refine al zero40 rfl rfl rfl ?_
  intro b2
  refine en (nx (sq (rg (al zero40 rfl rfl rfl ?_))))
  intro b3
  refine en (nx (sq (rg (vl (fa rfl rfl rfl) rfl (vl (ldb (u := .int .i64 a.id) 2 rfl rfl rfl rfl rfl rfl rfl) rfl (vl (fa rfl rfl rfl) rfl (sto rfl rfl rfl rfl rfl rfl rfl (cs' := [.int .i64 a.id, .slice none 0 0, .slice none 0 0]) rfl (en (nx (sq (rg (vl (fa rfl rfl rfl) rfl (vl (ldb 2 rfl rfl rfl rfl rfl rfl rfl) rfl ?_)))))))))))))
  refine gd 3 kPairS_p1_2 rfl (cs' := [.slice Aa1 a.rect.low.length ca1, .slice Aa2 a.rect.high.length ca2]) rfl fun s4 w_ rs4 us4 => ?_
  refine cm_ (dk := kRectO) (x := a.rect) (S := []) (by kernel_rfl) rfl rfl rfl sn0 (fun w_ hs_ => laws_toRect w_ (hs_.at 0 rfl) (by omega)) (fun cs_ o9 s10 w_ r11 t12 => ?_)
  obtain ⟨A5, c6, A7, c8, rfl⟩ := kRectO_sh r11
  exact vl (fa rfl rfl rfl) rfl (f2 (sto rfl rfl rfl rfl rfl rfl rfl (cs' := [.int .i64 a.id, .slice A5 a.rect.low.length c6, .slice A7 a.rect.high.length c8]) rfl (en (nx (sq (rg (vl (ldb 0 rfl rfl rfl rfl rfl rfl rfl) rfl (f3 (sto rfl rfl rfl rfl rfl rfl rfl (cs' := [.int .i64 a.id, .slice A5 a.rect.low.length c6, .slice A7 a.rect.high.length c8]) rfl (en (nx (rt (f2 (gs Kd.i64 [.int .i64 a.id] a.id (fun _ => ⟨rfl, rfl, rfl⟩) (gj (da := (Kd.via Kd.i64 Pair.id)) (db := (Kd.via kRectO Pair.rect)) (x := a) (cs := [.int .i64 a.id, .slice A5 a.rect.low.length c6, .slice A7 a.rect.high.length c8]) rfl (retc 1 rfl rfl rfl rfl rfl rfl (fun w_ hs_ => made hs_ rfl (see_app see_nil t12))))))))))))))))))
/-! laws.eqPairS -/
set_option maxRecDepth 20000 in
set_option maxHeartbeats 2000000 in
theorem laws_eqPairS (w : World) {Aa : Option Addr} {ca : Nat} {a : List Pair} {sa_ : List Nat} (ha : (Kd.sl kPairS).Rel w [.slice Aa a.length ca] a [] sa_) {Ab : Option Addr} {cb : Nat} {b : List Pair} {sb_ : List Nat} (hb : (Kd.sl kPairS).Rel w [.slice Ab b.length cb] b [] sb_)  : Calls Tryd.prog 48 #[.slice Aa a.length ca, .slice Ab b.length cb] w (fun e_ w2_ => e_ = .returned (.bool (decide (a = b))) ∧ Below w.heap.size w w2_) := by
  have La := Kd.sl_len ha; have Ca := Kd.sl_cap ha
  have Lb := Kd.sl_len hb; have Cb := Kd.sl_cap hb
  refine fnc (X := X 27 w) (args := [.slice Aa a.length ca, .slice Ab b.length cb]) (l := [(0, .slice Aa a.length ca), (1, .slice Ab b.length cb)]) (G := [dat (Kd.sl kPairS) [.slice Ab b.length cb] b ([]) sb_, dat (Kd.sl kPairS) [.slice Aa a.length ca] a ([]) sa_]) Tryd.func48 rfl rfl rfl ⟨rfl, rfl, trivial⟩ (s0d hb (s0d ha (s0n w))).1 ?_
  refine sq (rg (a_ rfl rfl (en (nx (sq (sq (rg (m_ rfl rfl (vl (ln rfl rfl rfl) rfl (m_ rfl rfl (vl (ln rfl rfl rfl) rfl (vl (cm rfl rfl rfl rfl) rfl (en (nx ?_))))))))))))))
  by_cases h1 : ((a.length : Nat) : Int) = ((b.length : Nat) : Int)
  · refine cf rfl (bne_eq_false_iff_eq.2 h1) (sk (nx (sq (sq (rg (a_ rfl rfl (en (nx (bk ?_)))))))))
    refine lp (σ := Nat) (fun k : Nat => [(0, .slice Aa a.length ca), (1, .slice Ab b.length cb), (5, .int .i64 ((k : Nat) : Int))])
        (fun k : Nat => [dat (Kd.sl kPairS) [.slice Ab b.length cb] b ([]) sb_, dat (Kd.sl kPairS) [.slice Aa a.length ca] a ([]) sa_])
        (fun k : Nat => k ≤ a.length ∧ ∀ j x y, j < k → a[j]? = some x → b[j]? = some y → x = y) (fun k : Nat => a.length - k) 0 [0, 0] ⟨Nat.zero_le _, by simp⟩ ⟨rfl, rfl, rfl, trivial⟩ rfl ?_
    intro k hp_
    obtain ⟨hk, hinv⟩ := hp_
    refine sq (sq (rg (m_ rfl rfl (m_ rfl rfl (vl (ln rfl rfl rfl) rfl (vl (cm rfl rfl rfl rfl) rfl (en (nx ?_))))))))
    by_cases h2 : ((k : Nat) : Int) < ((a.length : Nat) : Int)
    · refine ct rfl (decide_eq_true h2) (sk (nx (sq (bk (sq ?_)))))
      refine gx 1 k rfl (by omega) fun y8 p3 cs_ s4 w7 m9 e5 r6 us4 => ?_
      obtain ⟨A10, c11, A12, c13, rfl⟩ := kPairS_sh r6
      refine gx 1 k rfl (by omega) fun y19 p14 cs_ s15 w18 m20 e16 r17 us15 => ?_
      obtain ⟨A21, c22, A23, c24, rfl⟩ := kPairS_sh r17
      refine gp 1 Kd.Sub.rfl rfl (cs' := [.int .i64 y8.id, .slice A10 y8.rect.low.length c11, .slice A12 y8.rect.high.length c13]) rfl fun s25 w_ rs25 us25 => ?_
      refine gp 1 Kd.Sub.rfl rfl (cs' := [.int .i64 y19.id, .slice A21 y19.rect.low.length c22, .slice A23 y19.rect.high.length c24]) rfl fun s26 w_ rs26 us26 => ?_
      refine r0 (qv 0 rfl (mv rfl rfl) rfl (by kernel_rfl) (qv 1 rfl (mv rfl rfl) rfl (by kernel_rfl) (qv 2 rfl (ix k e5 rfl rfl rfl rfl rfl (by omega)) rfl (by kernel_rfl) (qv 3 rfl (ldq 3 rfl rfl rfl rfl rfl rfl rfl) rfl (by kernel_rfl) (qv 4 rfl (mv rfl rfl) rfl (by kernel_rfl) (qv 5 rfl (mv rfl rfl) rfl (by kernel_rfl) (qv 6 rfl (ix k e16 rfl rfl rfl rfl rfl (by omega)) rfl (by kernel_rfl) (qv 7 rfl (ldq 2 rfl rfl rfl rfl rfl rfl rfl) rfl (by kernel_rfl) (q1 8 [0, 0, 0, 0, 0, 0] rfl (by kernel_rfl) rfl (cs_ (v := .bool (decide (y8 = y19))) (by kernel_rfl) rfl rfl rfl (fun w_ hs_ => by exact laws_eqPair w_ (hs_.at 1 rfl) (hs_.at 0 rfl)) (qn (qv 9 rfl (nt rfl rfl) rfl (by kernel_rfl) (qe [0, 0, 0, 0, 0, 0] (by kernel_rfl) rfl (nx ?_))))))))))))))
      by_cases h27 : decide (y8 = y19) = true
      · exact cf rfl (not_f h27) (sk (xn (nx (rg (m_ rfl rfl (vl (ra (c := ((k + 1 : Nat) : Int)) rfl rfl rfl (by omega) (by omega) (by omega)) rfl (a_ rfl rfl (en (lpe (s := k) (k + 1) [4, 4] ⟨by omega, eq_step hinv m9 m20 (by simpa using h27)⟩ (by omega) ⟨rfl, rfl, rfl, trivial⟩ rfl)))))))))
      · refine ct rfl (not_t (Bool.eq_false_iff.2 h27)) (sq (rg (a_ rfl rfl (en (nx (rt (xrb (xr (xr (xrb (xr (ret1 rfl rfl (fun w_ hs_ => ⟨?_, hs_.below⟩)))))))))))))
        exact rb (eqS_f m9 m20 (by simpa using h27)).symm
    · refine cf rfl (decide_eq_false h2) (xt (xq (xq (xb (nx (sq (rg (a_ rfl rfl (en (nx (rt (ret1 rfl rfl (fun w_ hs_ => ⟨?_, hs_.below⟩)))))))))))))
      exact rb (eqS_t (by omega) hinv (by omega)).symm
  · refine ct rfl (bne_iff_ne.2 h1) (sq (rg (a_ rfl rfl (en (nx (rt (xr (ret1 rfl rfl (fun w_ hs_ => ⟨?_, hs_.below⟩)))))))))
    exact rb (by rw [eq_comm, decide_eq_false_iff_not]; rintro rfl; exact h1 rfl)
/-! laws.szPairS -/
set_option maxRecDepth 20000 in
set_option maxHeartbeats 2000000 in
theorem laws_szPairS (w : World) (left : Int) {Aa : Option Addr} {ca : Nat} {a : List Pair} {sa_ : List Nat} (ha : (Kd.sl kPairS).Rel w [.slice Aa a.length ca] a [] sa_) (h0 : 0 ≤ left) (h1 : left ≤ 1152921504606846976) : Calls Tryd.prog 43 #[.slice Aa a.length ca, .int .i64 left] w (fun e_ w2_ => e_ = .returned (.int .i64 (szTake (szList szPair a) left)) ∧ Below w.heap.size w w2_) := by
  have La := Kd.sl_len ha; have Ca := Kd.sl_cap ha
  refine fnc (X := X 27 w) (args := [.slice Aa a.length ca, .int .i64 left]) (l := [(0, .slice Aa a.length ca), (1, .int .i64 left)]) (G := [dat (Kd.sl kPairS) [.slice Aa a.length ca] a ([]) sa_]) Tryd.func43 rfl rfl rfl ⟨rfl, rfl, trivial⟩ (s0d ha (s0n w)).1 ?_
  refine sq (rg (a_ rfl rfl (en (nx (sq (rg (m_ rfl rfl (m_ rfl rfl (vl (ln rfl rfl rfl) rfl (vl (rs (c := left - ((a.length : Nat) : Int)) rfl rfl rfl rfl (by omega) (by omega)) rfl (a_ rfl rfl (en (nx (sq (sq (rg (m_ rfl rfl (vl (cm rfl rfl rfl rfl) rfl (en (nx ?_))))))))))))))))))))
  by_cases h1 : left - ((a.length : Nat) : Int) < (0 : Int)
  · refine ct rfl (decide_eq_true h1) (sq (rg (a_ rfl rfl (en (nx (rt (xr (ret1 rfl rfl (fun w_ hs_ => ⟨?_, hs_.below⟩)))))))))
    exact ri (by have z := sum_nn szPair_nn a; unfold szTake szList; split <;> omega)
  · refine cf rfl (decide_eq_false h1) (sk (nx (sq (sq (rg (a_ rfl rfl (en (nx (bk ?_)))))))))
    refine lp (σ := Nat × Int) (fun z_ : Nat × Int => match z_ with | (k, v) => [(0, .slice Aa a.length ca), (1, .int .i64 v), (5, .int .i64 ((k : Nat) : Int))])
        (fun z_ : Nat × Int => match z_ with | (k, v) => [dat (Kd.sl kPairS) [.slice Aa a.length ca] a ([]) sa_])
        (fun z_ : Nat × Int => match z_ with | (k, v) => k ≤ a.length ∧ 0 ≤ v ∧ v = left - (a.length : Int) - sumTo szPair a k) (fun z_ : Nat × Int => match z_ with | (k, v) => a.length - k) (0, left - (a.length : Int)) [0] ⟨Nat.zero_le _, by omega, by simp [sumTo]⟩ ⟨rfl, rfl, rfl, trivial⟩ rfl ?_
    rintro ⟨k, v⟩ hp_
    obtain ⟨hk, hv0, hinv⟩ := hp_; have z1 := sumTo_nn szPair_nn a k; have z2 := sumTo_le szPair_nn a k
    refine sq (sq (rg (m_ rfl rfl (m_ rfl rfl (vl (ln rfl rfl rfl) rfl (vl (cm rfl rfl rfl rfl) rfl (en (nx ?_))))))))
    by_cases h2 : ((k : Nat) : Int) < ((a.length : Nat) : Int)
    · refine ct rfl (decide_eq_true h2) (sk (nx (sq (bk (sq (rg (m_ rfl rfl (m_ rfl rfl ?_))))))))
      refine gx 0 k rfl (by omega) fun y8 p3 cs_ s4 w7 m9 e5 r6 us4 => ?_
      obtain ⟨A10, c11, A12, c13, rfl⟩ := kPairS_sh r6
      refine vl (ix k e5 rfl rfl rfl rfl rfl (by omega)) rfl (vl (ldq 0 rfl rfl rfl rfl rfl rfl rfl) rfl (m_ rfl rfl ?_))
      refine gp 0 Kd.Sub.rfl rfl (cs' := [.int .i64 y8.id, .slice A10 y8.rect.low.length c11, .slice A12 y8.rect.high.length c13]) rfl fun s14 w_ rs14 us14 => ?_
      refine cs_ (v := .int .i64 (szTake (szPair y8) v)) (by kernel_rfl) rfl rfl rfl (fun w_ hs_ => laws_szPair w_ _ (hs_.at 0 rfl) (by omega) (by omega)) (a_ rfl rfl (en (nx (sq (rg (m_ rfl rfl (vl (cm rfl rfl rfl rfl) rfl (en (nx ?_)))))))))
      by_cases h15 : (szTake (szPair y8) v) < (0 : Int)
      · have eh15 := szTake_t h15
        refine ct rfl (decide_eq_true h15) (sq (rg (a_ rfl rfl (en (nx (rt (xrb (xr (xr (xrb (xr (ret1 rfl rfl (fun w_ hs_ => ⟨?_, hs_.below⟩)))))))))))))
        exact ri (by have z := sumTo_step (f := szPair) m9; have z3 := sumTo_le szPair_nn a (k + 1); unfold szTake szList; split <;> omega)
      · have eh15 := szTake_f h15
        exact cf rfl (decide_eq_false h15) (sk (xn (nx (rg (m_ rfl rfl (vl (ra (c := ((k + 1 : Nat) : Int)) rfl rfl rfl (by omega) (by omega) (by omega)) rfl (a_ rfl rfl (en (lpe (s := (k, v)) (k + 1, (szTake (szPair y8) v)) [2] ⟨by omega, by omega, by have z := sumTo_step (f := szPair) m9; omega⟩ (by show a.length - (k + 1) < a.length - k; omega) ⟨rfl, rfl, rfl, trivial⟩ rfl)))))))))
    · refine cf rfl (decide_eq_false h2) (xt (xq (xq (xb (nx (sq (rg (m_ rfl rfl (a_ rfl rfl (en (nx (rt (ret1 rfl rfl (fun w_ hs_ => ⟨?_, hs_.below⟩))))))))))))))
      exact ri (by have z := sumTo_end (f := szPair) (l := a) (k := k) (by omega); unfold szTake szList; split <;> omega)
/-! laws.toPairS -/
set_option maxRecDepth 20000 in
set_option maxHeartbeats 2000000 in
theorem laws_toPairS (w : World) {Aa : Option Addr} {ca : Nat} {a : List Pair} {sa_ : List Nat} (ha : (Kd.sl kPairS).Rel w [.slice Aa a.length ca] a [] sa_) (hz : szList szPair a ≤ 1048576) : Calls Tryd.prog 46 #[.slice Aa a.length ca] w (Made (Kd.row 40 kPairO) w a []) := by
  have La := Kd.sl_len ha; have Ca := Kd.sl_cap ha
  have zl := szList_len szPair_nn a
  refine fnc (X := X 23 w) (args := [.slice Aa a.length ca]) (l := [(0, .slice Aa a.length ca)]) (G := [dat (Kd.sl kPairS) [.slice Aa a.length ca] a ([]) sa_]) Tryd.func46 rfl rfl rfl ⟨rfl, trivial⟩ (s0d ha (s0n w)).1 ?_
  refine sq (rg (a_ rfl rfl (en (nx (sq (rg (m_ rfl rfl (vl (ln rfl rfl rfl) rfl (mk (dk := kPairO) (z := zPair) rfl info40 rfl (fun _ => ⟨[_], _, [], [], [], [], rfl, rfl, rfl, ⟨rfl, rfl, rfl⟩, ⟨[_], _, [], [], [], [], rfl, rfl, rfl, .inl ⟨rfl, rfl, rfl, rfl⟩, .inl ⟨rfl, rfl, rfl, rfl⟩⟩⟩) rfl rfl (by omega) (by omega) rfl ?_)))))))))
  intro b1
  refine a_ rfl rfl (en (nx (sq (sq (rg (a_ rfl rfl (en (nx (bk ?_)))))))))
  refine lp (σ := Nat × List Nat × List Nat) (fun z_ : Nat × List Nat × List Nat => match z_ with | (k, o, s) => [(0, .slice Aa a.length ca), (3, .slice (some ⟨b1, 0, none⟩) a.length a.length), (4, .int .i64 ((k : Nat) : Int))])
      (fun z_ : Nat × List Nat × List Nat => match z_ with | (k, o, s) => [dat (Kd.row 40 kPairO) [.slice (some ⟨b1, 0, none⟩) a.length a.length] (a.take k ++ List.replicate (a.length - k) zPair) o s, dat (Kd.sl kPairS) [.slice Aa a.length ca] a ([]) sa_])
      (fun z_ : Nat × List Nat × List Nat => match z_ with | (k, o, s) => k ≤ a.length ∧ ∀ q ∈ s, w.heap.size ≤ q) (fun z_ : Nat × List Nat × List Nat => match z_ with | (k, o, s) => a.length - k) (0, [b1], []) [0, 0] ⟨Nat.zero_le _, by simp⟩ ⟨rfl, rfl, rfl, trivial⟩ rfl ?_
  rintro ⟨k, o, s⟩ hp_
  obtain ⟨hk, hinv⟩ := hp_
  refine sq (sq (rg (m_ rfl rfl (m_ rfl rfl (vl (ln rfl rfl rfl) rfl (vl (cm rfl rfl rfl rfl) rfl (en (nx ?_))))))))
  by_cases h2 : ((k : Nat) : Int) < ((a.length : Nat) : Int)
  · refine ct rfl (decide_eq_true h2) (sk (nx (sq (bk (rg (m_ rfl rfl (m_ rfl rfl (m_ rfl rfl (m_ rfl rfl ?_)))))))))
    refine gx 1 k rfl (by omega) fun y8 p3 cs_ s4 w7 m9 e5 r6 us4 => ?_
    obtain ⟨A10, c11, A12, c13, rfl⟩ := kPairS_sh r6
    refine vl (ix k e5 rfl rfl rfl rfl rfl (by omega)) rfl (vl (ldq 0 rfl rfl rfl rfl rfl rfl rfl) rfl ?_)
    refine gp 0 Kd.Sub.rfl rfl (cs' := [.int .i64 y8.id, .slice A10 y8.rect.low.length c11, .slice A12 y8.rect.high.length c13]) rfl fun s14 w_ rs14 us14 => ?_
    refine cm_ (dk := kPairO) (x := y8) (S := []) (by kernel_rfl) rfl rfl rfl sn0 (fun w_ hs_ => laws_toPair w_ (hs_.at 0 rfl) (by have z := szList_mem szPair_nn m9; omega)) (fun cs_ o19 s20 w_ r21 t22 => ?_)
    obtain ⟨A15, c16, A17, c18, rfl⟩ := kPairO_sh r21
    refine vl (ix k rfl rfl rfl rfl rfl rfl (by omega)) rfl (f3 (ste k rfl rfl rfl rfl rfl (by first | omega | (simp; omega)) (fun o24 s25 t26 => ?_)))
    exact gr (a.take (k + 1) ++ List.replicate (a.length - (k + 1)) zPair) (rowStep m9) (en (xn (nx (rg (m_ rfl rfl (vl (ra (c := ((k + 1 : Nat) : Int)) rfl rfl rfl (by omega) (by omega) (by omega)) rfl (a_ rfl rfl (en (lpe (s := (k, o, s)) (k + 1, o24, s25) [0, 2] ⟨by omega, fun q hq => (t26 q hq).elim (hinv q) (fun h => (t22 q h).resolve_left (by simp))⟩ (by show a.length - (k + 1) < a.length - k; omega) ⟨rfl, rfl, rfl, trivial⟩ rfl)))))))))
  · exact cf rfl (decide_eq_false h2) (xt (xq (xq (xb (nx (sq (rg (m_ rfl rfl (a_ rfl rfl (en (nx (rt (gr a (rowEnd (by omega)) (ret1 rfl rfl (fun w_ hs_ => made hs_ rfl (fun q hq => .inr (hinv q hq)))))))))))))))))
/-! laws.eqTextResult -/
set_option maxRecDepth 20000 in
set_option maxHeartbeats 2000000 in
theorem laws_eqTextResult (w : World)  {a : TextResult} {sa_ : List Nat} (ha : kTextResultS.Rel w [.int .i64 a.code, .string a.text] a [] sa_)  {b : TextResult} {sb_ : List Nat} (hb : kTextResultS.Rel w [.int .i64 b.code, .string b.text] b [] sb_)  : Calls Tryd.prog 16 #[.agg #[.int .i64 a.code, .string a.text], .agg #[.int .i64 b.code, .string b.text]] w (fun e_ w2_ => e_ = .returned (.bool (decide (a = b))) ∧ Below w.heap.size w w2_) := by
  refine fnc (X := X 15 w) (args := [.agg #[.int .i64 a.code, .string a.text], .agg #[.int .i64 b.code, .string b.text]]) (l := [(0, .agg #[.int .i64 a.code, .string a.text]), (1, .agg #[.int .i64 b.code, .string b.text])]) (G := [dat kTextResultS [.int .i64 b.code, .string b.text] b ([]) sb_, dat kTextResultS [.int .i64 a.code, .string a.text] a ([]) sa_]) Tryd.func16 rfl rfl rfl ⟨rfl, rfl, trivial⟩ (s0d hb (s0d ha (s0n w))).1 ?_
  refine sq (rg (bx rfl rfl rfl rfl ?_))
  intro b1
  refine bx rfl rfl rfl rfl ?_
  intro b2
  refine a_ rfl rfl (en (nx (sq (sq (rg (vl (fa rfl rfl rfl) rfl (vl (ldb (u := .int .i64 a.code) 1 rfl rfl rfl rfl rfl rfl rfl) rfl (vl (fa rfl rfl rfl) rfl (vl (ldb (u := .int .i64 b.code) 0 rfl rfl rfl rfl rfl rfl rfl) rfl (vl (cm rfl rfl rfl rfl) rfl (en (nx ?_))))))))))))
  by_cases h3 : a.code = b.code
  · refine cf rfl (bne_eq_false_iff_eq.2 h3) (sk (nx (sq (sq (rg (vl (fa rfl rfl rfl) rfl (vl (ldb (u := .string a.text) 1 rfl rfl rfl rfl rfl rfl rfl) rfl (vl (fa rfl rfl rfl) rfl (vl (ldb (u := .string b.text) 0 rfl rfl rfl rfl rfl rfl rfl) rfl (vl (sqn rfl rfl rfl) rfl (en (nx ?_))))))))))))
    by_cases h4 : decide (a.text = b.text) = true
    · refine cf rfl (not_f h4) (sk (nx (sq (rg (a_ rfl rfl (en (nx (rt (ret1 rfl rfl (fun w_ hs_ => ⟨?_, hs_.below⟩))))))))))
      rw [TextResult_eq]; simp [h3, h4]
    · refine ct rfl (not_t (Bool.eq_false_iff.2 h4)) (sq (rg (a_ rfl rfl (en (nx (rt (xr (ret1 rfl rfl (fun w_ hs_ => ⟨?_, hs_.below⟩)))))))))
      rw [TextResult_eq]; simp [h3, h4]
  · refine ct rfl (bne_iff_ne.2 h3) (sq (rg (a_ rfl rfl (en (nx (rt (xr (ret1 rfl rfl (fun w_ hs_ => ⟨?_, hs_.below⟩)))))))))
    rw [TextResult_eq]; simp [h3]
def szAnswer (a : Answer) : Int := szList szPair a.pairs
theorem szAnswer_nn (a : Answer) : 0 ≤ szAnswer a := by have := szList_nn szPair_nn a.pairs; unfold szAnswer; omega
def zAnswer : Answer := (⟨0, []⟩ : Answer)
/-! laws.eqAnswer -/
set_option maxRecDepth 20000 in
set_option maxHeartbeats 2000000 in
theorem laws_eqAnswer (w : World) {Aa1 : Option Addr} {ca1 : Nat} {a : Answer} {sa_ : List Nat} (ha : kAnswerS.Rel w [.int .i64 a.code, .slice Aa1 a.pairs.length ca1] a [] sa_) {Ab1 : Option Addr} {cb1 : Nat} {b : Answer} {sb_ : List Nat} (hb : kAnswerS.Rel w [.int .i64 b.code, .slice Ab1 b.pairs.length cb1] b [] sb_)  : Calls Tryd.prog 25 #[.agg #[.int .i64 a.code, .slice Aa1 a.pairs.length ca1], .agg #[.int .i64 b.code, .slice Ab1 b.pairs.length cb1]] w (fun e_ w2_ => e_ = .returned (.bool (decide (a = b))) ∧ Below w.heap.size w w2_) := by
  refine fnc (X := X 16 w) (args := [.agg #[.int .i64 a.code, .slice Aa1 a.pairs.length ca1], .agg #[.int .i64 b.code, .slice Ab1 b.pairs.length cb1]]) (l := [(0, .agg #[.int .i64 a.code, .slice Aa1 a.pairs.length ca1]), (1, .agg #[.int .i64 b.code, .slice Ab1 b.pairs.length cb1])]) (G := [dat kAnswerS [.int .i64 b.code, .slice Ab1 b.pairs.length cb1] b ([]) sb_, dat kAnswerS [.int .i64 a.code, .slice Aa1 a.pairs.length ca1] a ([]) sa_]) Tryd.func25 rfl rfl rfl ⟨rfl, rfl, trivial⟩ (s0d hb (s0d ha (s0n w))).1 ?_
  refine sq (rg (bx rfl rfl rfl rfl ?_))
  intro b1
  refine bx rfl rfl rfl rfl ?_
  intro b2
  refine a_ rfl rfl (en (nx (sq (sq (rg (vl (fa rfl rfl rfl) rfl (vl (ldb (u := .int .i64 a.code) 1 rfl rfl rfl rfl rfl rfl rfl) rfl (vl (fa rfl rfl rfl) rfl (vl (ldb (u := .int .i64 b.code) 0 rfl rfl rfl rfl rfl rfl rfl) rfl (vl (cm rfl rfl rfl rfl) rfl (en (nx ?_))))))))))))
  by_cases h3 : a.code = b.code
  · refine cf rfl (bne_eq_false_iff_eq.2 h3) (sk (nx (sq (sq (rg (vl (fa rfl rfl rfl) rfl (vl (ldb (u := .slice Aa1 a.pairs.length ca1) 1 rfl rfl rfl rfl rfl rfl rfl) rfl (vl (fa rfl rfl rfl) rfl (vl (ldb (u := .slice Ab1 b.pairs.length cb1) 0 rfl rfl rfl rfl rfl rfl rfl) rfl ?_)))))))))
    refine gd 3 kAnswerS_p1_1 rfl (cs' := [.slice Aa1 a.pairs.length ca1]) rfl fun s4 w_ rs4 us4 => ?_
    have Ls4 := Kd.sl_len rs4; have Cs4 := Kd.sl_cap rs4
    refine gd 3 kAnswerS_p1_1 rfl (cs' := [.slice Ab1 b.pairs.length cb1]) rfl fun s5 w_ rs5 us5 => ?_
    have Ls5 := Kd.sl_len rs5; have Cs5 := Kd.sl_cap rs5
    refine cs_ (v := .bool (decide (a.pairs = b.pairs))) (by kernel_rfl) rfl rfl rfl (fun w_ hs_ => laws_eqPairS w_ (hs_.at 1 rfl) (hs_.at 0 rfl)) (vl (nt rfl rfl) rfl (en (nx ?_)))
    by_cases h6 : decide (a.pairs = b.pairs) = true
    · refine cf rfl (not_f h6) (sk (nx (sq (rg (a_ rfl rfl (en (nx (rt (ret1 rfl rfl (fun w_ hs_ => ⟨?_, hs_.below⟩))))))))))
      rw [Answer_eq]; simp [h3, h6]
    · refine ct rfl (not_t (Bool.eq_false_iff.2 h6)) (sq (rg (a_ rfl rfl (en (nx (rt (xr (ret1 rfl rfl (fun w_ hs_ => ⟨?_, hs_.below⟩)))))))))
      rw [Answer_eq]; simp [h3, h6]
  · refine ct rfl (bne_iff_ne.2 h3) (sq (rg (a_ rfl rfl (en (nx (rt (xr (ret1 rfl rfl (fun w_ hs_ => ⟨?_, hs_.below⟩)))))))))
    rw [Answer_eq]; simp [h3]
/-! laws.szAnswer -/
set_option maxRecDepth 20000 in
set_option maxHeartbeats 2000000 in
theorem laws_szAnswer (w : World) (left : Int) {Aa1 : Option Addr} {ca1 : Nat} {a : Answer} {sa_ : List Nat} (ha : kAnswerS.Rel w [.int .i64 a.code, .slice Aa1 a.pairs.length ca1] a [] sa_) (h0 : 0 ≤ left) (h1 : left ≤ 1152921504606846976) : Calls Tryd.prog 21 #[.agg #[.int .i64 a.code, .slice Aa1 a.pairs.length ca1], .int .i64 left] w (fun e_ w2_ => e_ = .returned (.int .i64 (szTake (szAnswer a) left)) ∧ Below w.heap.size w w2_) := by
  have n0 := szList_nn szPair_nn a.pairs
  refine fnc (X := X 12 w) (args := [.agg #[.int .i64 a.code, .slice Aa1 a.pairs.length ca1], .int .i64 left]) (l := [(0, .agg #[.int .i64 a.code, .slice Aa1 a.pairs.length ca1]), (1, .int .i64 left)]) (G := [dat kAnswerS [.int .i64 a.code, .slice Aa1 a.pairs.length ca1] a ([]) sa_]) Tryd.func21 rfl rfl rfl ⟨rfl, rfl, trivial⟩ (s0d ha (s0n w)).1 ?_
  refine sq (rg (bx rfl rfl rfl rfl ?_))
  intro b1
  refine a_ rfl rfl (en (nx (sq (rg (vl (fa rfl rfl rfl) rfl (vl (ldb (u := .slice Aa1 a.pairs.length ca1) 0 rfl rfl rfl rfl rfl rfl rfl) rfl (m_ rfl rfl ?_)))))))
  refine gd 1 kAnswerS_p1_1 rfl (cs' := [.slice Aa1 a.pairs.length ca1]) rfl fun s2 w_ rs2 us2 => ?_
  have Ls2 := Kd.sl_len rs2; have Cs2 := Kd.sl_cap rs2
  refine cs_ (v := .int .i64 (szTake (szList szPair a.pairs) left)) (by kernel_rfl) rfl rfl rfl (fun w_ hs_ => laws_szPairS w_ _ (hs_.at 0 rfl) (by omega) (by omega)) (a_ rfl rfl (en (nx (sq (sq (rg (m_ rfl rfl (vl (cm rfl rfl rfl rfl) rfl (en (nx ?_))))))))))
  by_cases h3 : (szTake (szList szPair a.pairs) left) < (0 : Int)
  · have eh3 := szTake_t h3
    refine ct rfl (decide_eq_true h3) (sq (rg (a_ rfl rfl (en (nx (rt (xr (ret1 rfl rfl (fun w_ hs_ => ⟨?_, hs_.below⟩)))))))))
    exact ri (by unfold szTake szAnswer; split <;> omega)
  · have eh3 := szTake_f h3
    refine cf rfl (decide_eq_false h3) (sk (nx (sq (rg (m_ rfl rfl (a_ rfl rfl (en (nx (rt (ret1 rfl rfl (fun w_ hs_ => ⟨?_, hs_.below⟩)))))))))))
    exact ri (by unfold szTake szAnswer; split <;> omega)
/-! laws.toAnswer -/
set_option maxRecDepth 20000 in
set_option maxHeartbeats 2000000 in
theorem laws_toAnswer (w : World) {Aa1 : Option Addr} {ca1 : Nat} {a : Answer} {sa_ : List Nat} (ha : kAnswerS.Rel w [.int .i64 a.code, .slice Aa1 a.pairs.length ca1] a [] sa_) (hz : szAnswer a ≤ 1048576) : Calls Tryd.prog 23 #[.agg #[.int .i64 a.code, .slice Aa1 a.pairs.length ca1]] w (Made kAnswerO w a []) := by
  unfold szAnswer at hz; have n0 := szList_nn szPair_nn a.pairs
  refine fnc (X := X 12 w) (args := [.agg #[.int .i64 a.code, .slice Aa1 a.pairs.length ca1]]) (l := [(0, .agg #[.int .i64 a.code, .slice Aa1 a.pairs.length ca1])]) (G := [dat kAnswerS [.int .i64 a.code, .slice Aa1 a.pairs.length ca1] a ([]) sa_]) Tryd.func23 rfl rfl rfl ⟨rfl, trivial⟩ (s0d ha (s0n w)).1 ?_
  refine sq (rg (bx rfl rfl rfl rfl ?_))
  intro b1
  refine al zero56 rfl rfl rfl ?_
  intro b2
  refine en (nx (sq (rg (al zero56 rfl rfl rfl ?_))))
  intro b3
  refine en (nx (sq (rg (vl (fa rfl rfl rfl) rfl (vl (ldb (u := .int .i64 a.code) 2 rfl rfl rfl rfl rfl rfl rfl) rfl (vl (fa rfl rfl rfl) rfl (sto rfl rfl rfl rfl rfl rfl rfl (cs' := [.int .i64 a.code, .slice none 0 0]) rfl (en (nx (sq (rg (vl (fa rfl rfl rfl) rfl (vl (ldb (u := .slice Aa1 a.pairs.length ca1) 2 rfl rfl rfl rfl rfl rfl rfl) rfl ?_)))))))))))))
  refine gd 3 kAnswerS_p1_1 rfl (cs' := [.slice Aa1 a.pairs.length ca1]) rfl fun s4 w_ rs4 us4 => ?_
  have Ls4 := Kd.sl_len rs4; have Cs4 := Kd.sl_cap rs4
  refine cm_ (dk := (Kd.row 40 kPairO)) (x := a.pairs) (S := []) (by kernel_rfl) rfl rfl rfl sn0 (fun w_ hs_ => laws_toPairS w_ (hs_.at 0 rfl) (by omega)) (fun cs_ o7 s8 w_ r9 t10 => ?_)
  obtain ⟨A5, c6, rfl⟩ := Kd.row_sh r9
  exact vl (fa rfl rfl rfl) rfl (f2 (sto rfl rfl rfl rfl rfl rfl rfl (cs' := [.int .i64 a.code, .slice A5 a.pairs.length c6]) rfl (en (nx (sq (rg (vl (ldb 0 rfl rfl rfl rfl rfl rfl rfl) rfl (f3 (sto rfl rfl rfl rfl rfl rfl rfl (cs' := [.int .i64 a.code, .slice A5 a.pairs.length c6]) rfl (en (nx (rt (f2 (gs Kd.i64 [.int .i64 a.code] a.code (fun _ => ⟨rfl, rfl, rfl⟩) (gj (da := (Kd.via Kd.i64 Answer.code)) (db := (Kd.via (Kd.row 40 kPairO) Answer.pairs)) (x := a) (cs := [.int .i64 a.code, .slice A5 a.pairs.length c6]) rfl (retc 1 rfl rfl rfl rfl rfl rfl (fun w_ hs_ => made hs_ rfl (see_app see_nil t10))))))))))))))))))
section
open Go.Shelf
set_option maxRecDepth 100000
def renJoin : Go.Shelf.Ren := ⟨fun | 156 => 61 | 165 => 71 | 166 => 72 | 169 => 73 | 240 => 87 | 241 => 88 | 276 => 105 | 277 => 106 | n => n, fun | 0 => 0 | 3 => 3 | 4 => 4 | 5 => 5 | 9 => 9 | 20 => 20 | 31 => 22 | 37 => 96 | 70 => 100 | 72 => 102 | 75 => 93 | 76 => 104 | 80 => 106 | 127 => 117 | 164 => 138 | n => n, fun n => n⟩
theorem laidJoin : Lays.n156 Tryd.prog renJoin := {
  mixed := by kernel_rfl
  f156 := Tryd.func61.trans (congrArg some (by kernel_rfl))
  f165 := Tryd.func71.trans (congrArg some (by kernel_rfl))
  f166 := Tryd.func72.trans (congrArg some (by kernel_rfl))
  f169 := Tryd.func73.trans (congrArg some (by kernel_rfl))
  f240 := Tryd.func87.trans (congrArg some (by kernel_rfl))
  f241 := Tryd.func88.trans (congrArg some (by kernel_rfl))
  f276 := Tryd.func105.trans (congrArg some (by kernel_rfl))
  f277 := Tryd.func106.trans (congrArg some (by kernel_rfl))
  t0 := Tryd.underlying0
  a0 := Tryd.isAgg0
  z0 := Tryd.sizeOf0
  v0 := Tryd.zeroValue0
  t3 := Tryd.underlying3
  a3 := Tryd.isAgg3
  z3 := Tryd.sizeOf3
  v3 := Tryd.zeroValue3
  t4 := Tryd.underlying4
  a4 := Tryd.isAgg4
  z4 := Tryd.sizeOf4
  v4 := Tryd.zeroValue4
  t9 := Tryd.underlying9
  a9 := Tryd.isAgg9
  z9 := Tryd.sizeOf9
  v9 := Tryd.zeroValue9
  t20 := Tryd.underlying20
  a20 := Tryd.isAgg20
  z20 := Tryd.sizeOf20
  v20 := Tryd.zeroValue20
  t31 := Tryd.underlying22
  a31 := Tryd.isAgg22
  z31 := Tryd.sizeOf22
  v31 := Tryd.zeroValue22
  t37 := Tryd.underlying96
  a37 := Tryd.isAgg96
  z37 := Tryd.sizeOf96
  v37 := Tryd.zeroValue96
  t70 := Tryd.underlying100
  a70 := Tryd.isAgg100
  z70 := Tryd.sizeOf100
  v70 := Tryd.zeroValue100
  t72 := Tryd.underlying102
  a72 := Tryd.isAgg102
  z72 := Tryd.sizeOf102
  v72 := Tryd.zeroValue102
  t75 := Tryd.underlying93
  a75 := Tryd.isAgg93
  z75 := Tryd.sizeOf93
  v75 := Tryd.zeroValue93
  t76 := Tryd.underlying104
  a76 := Tryd.isAgg104
  z76 := Tryd.sizeOf104
  v76 := Tryd.zeroValue104
  t127 := Tryd.underlying117
  a127 := Tryd.isAgg117
  z127 := Tryd.sizeOf117
  v127 := Tryd.zeroValue117
  t164 := Tryd.underlying138
  a164 := Tryd.isAgg138
  z164 := Tryd.sizeOf138
  v164 := Tryd.zeroValue138 }
theorem laidX : Builder.Extra Tryd.prog renJoin := {
  sizeBuilder := by kernel_rfl
  liesBuilder := by kernel_rfl
  t5 := Tryd.underlying5
  a5 := Tryd.isAgg5
  z5 := Tryd.sizeOf5
  v5 := Tryd.zeroValue5
  infoByte := by kernel_rfl
  cellsByte := by kernel_rfl
  sizeByte := by kernel_rfl
  neB5 := by decide }
end
/-! ### texts of numbers, points, pairs -/
theorem rstr {a b : ByteArray} (h : a = b) : Ending.returned (.string a) = .returned (.string b) := by rw [h]
theorem lit_le {a : ByteArray} {n : Nat} (h : Nat.ble a.size n = true) : a.size ≤ n := Nat.le_of_ble_eq_true h
theorem app_le {a b : ByteArray} {n m : Nat} (ha : a.size ≤ n) (hb : b.size ≤ m) : (a ++ b).size ≤ n + m := by rw [app_size]; omega
theorem sum_le2 {a b : ByteArray} {n m : Nat} (ha : a.size ≤ n) (hb : b.size ≤ m) (h : Nat.ble (n + m) 9223372036854775807 = true) : a.size + b.size ≤ 9223372036854775807 := by
  have := Nat.le_of_ble_eq_true h; omega
def decB (n : Int) : ByteArray := ⟨(Go.Lib.decDigits n.toNat).toArray⟩
theorem decB_list (n : Int) : (decB n).data.toList = Go.Lib.decDigits n.toNat := rfl
theorem itoaB_list (n : Int) : (itoaB n).data.toList = Go.Lib.itoa n := rfl
theorem chr_list (z : Int) : (chr z).data.toList = [UInt8.ofNat z.toNat] := rfl
theorem decB_lo {n : Int} (h0 : 0 ≤ n) (h : n < (10 : Int)) : chr (48 + n) = decB n := by
  apply bs_ext
  rw [chr_list, decB_list, Go.Lib.decDigits, dif_pos (by omega), show (48 + n).toNat = 48 + n.toNat by omega]
theorem decB_hi {n : Int} (h0 : 0 ≤ n) (h : ¬ n < (10 : Int)) : decB (n / 10) ++ chr (48 + n % 10) = decB n := by
  apply bs_ext
  rw [app_list, chr_list, decB_list, decB_list, Go.Lib.decDigits.eq_def n.toNat, dif_neg (by omega)]
  have e1 : (n / 10).toNat = n.toNat / 10 := by omega
  have e2 : (48 + n % 10).toNat = 48 + n.toNat % 10 := by omega
  rw [e1, e2]
theorem dec_len (u : Nat) : (Go.Lib.decDigits u).length ≤ u + 1 := by
  induction u using Nat.strongRecOn with
  | _ u ih =>
    rw [Go.Lib.decDigits]
    split
    · simp
    · have := ih (u / 10) (by omega)
      rw [List.length_append, List.length_singleton]; omega
theorem decB_size (n : Int) : (decB n).size ≤ n.toNat + 1 := by rw [← bs_len, decB_list]; exact dec_len _
theorem itoa_pos {n : Int} (h : ¬ n < (0 : Int)) : itoaB n = decB n := by
  apply bs_ext
  rw [itoaB_list, decB_list]; unfold Go.Lib.itoa; rw [if_neg h]
theorem itoa_neg' {n : Int} (h : n < (0 : Int)) : (⟨#[45]⟩ : ByteArray) ++ decB (-n) = itoaB n := by
  apply bs_ext
  rw [app_list, itoaB_list, decB_list]; unfold Go.Lib.itoa; rw [if_pos h, show (-n).toNat = n.natAbs by omega]; rfl
theorem itoaB_size (n : Int) : (itoaB n).size ≤ n.natAbs + 2 := by
  rw [← bs_len, itoaB_list]; unfold Go.Lib.itoa
  split
  · have := dec_len n.natAbs
    rw [List.length_cons]; omega
  · have := dec_len n.toNat; omega
def Sm1 (p : List Int) : Prop := ∀ x ∈ p, -1000 ≤ x ∧ x ≤ 1000
theorem itoa_sm {p : List Int} (h : Sm1 p) {x : Int} (hx : x ∈ p) : (itoaB x).size ≤ 1002 := by have := h x hx; have := itoaB_size x; omega
def ptL (p : List Int) : List UInt8 := Go.Lib.join (p.map Go.Lib.itoa) [44]
def ptB (p : List Int) : ByteArray := ⟨(ptL p).toArray⟩
theorem ptB_list (p : List Int) : (ptB p).data.toList = ptL p := rfl
theorem ptL_snoc {p : List Int} (x : Int) (h : p ≠ []) : ptL (p ++ [x]) = ptL p ++ 44 :: Go.Lib.itoa x := by
  cases p with
  | nil => exact absurd rfl h
  | cons a r => unfold ptL; rw [List.cons_append, List.map_cons, Go.Lib.join_cons, List.map_cons, Go.Lib.join_cons]; simp [Go.Lib.joinTail]
theorem ptB_one (x : Int) : ptB [x] = itoaB x := by
  apply bs_ext; rw [ptB_list, itoaB_list]; unfold ptL; rw [List.map_cons, List.map_nil, Go.Lib.join_one]
theorem pt_0 {p : List Int} {v : ByteArray} {k : Nat} {x : Int} (hv : v = ptB (p.take k)) (hx : p[k]? = some x) (h0 : ¬ (0 : Int) < ((k : Nat) : Int)) : v ++ itoaB x = ptB (p.take (k + 1)) := by
  obtain rfl : k = 0 := by omega
  subst hv
  rw [List.take_add_one, hx]
  show ptB [] ++ itoaB x = ptB [x]
  rw [ptB_one]
  apply bs_ext; rw [app_list]; rfl
theorem pt_s {p : List Int} {v : ByteArray} {k : Nat} {x : Int} (hv : v = ptB (p.take k)) (hk : k ≤ p.length) (hx : p[k]? = some x) (h0 : (0 : Int) < ((k : Nat) : Int)) : v ++ (⟨#[44]⟩ : ByteArray) ++ itoaB x = ptB (p.take (k + 1)) := by
  subst hv
  rw [List.take_add_one, hx]
  show _ = ptB (p.take k ++ [x])
  apply bs_ext
  rw [app_list, app_list, ptB_list, ptB_list, itoaB_list, ptL_snoc x (fun e => by have := congrArg List.length e; rw [List.length_take, List.length_nil] at this; omega)]
  simp
theorem ptL_len : ∀ {p : List Int}, Sm1 p → (ptL p).length ≤ p.length * 1003
  | [], _ => by simp [ptL, Go.Lib.join_nil]
  | a :: r, h => by
    have ha : (Go.Lib.itoa a).length ≤ 1002 := by have := itoa_sm h (List.mem_cons_self ..); rwa [← bs_len, itoaB_list] at this
    have hr : ∀ (l : List Int), (∀ x ∈ l, (Go.Lib.itoa x).length ≤ 1002) → (Go.Lib.joinTail [44] (l.map Go.Lib.itoa)).length ≤ l.length * 1003 := by
      intro l
      induction l with
      | nil => intro _; simp [Go.Lib.joinTail]
      | cons b l ih =>
        intro hb
        have h1 := hb b (List.mem_cons_self ..)
        have h2 := ih (fun x hx => hb x (List.mem_cons_of_mem _ hx))
        simp only [Go.Lib.joinTail, List.map_cons, List.flatten_cons, List.length_append, List.length_cons, List.length_nil] at *
        omega
    have h3 := hr r (fun x hx => by have := itoa_sm h (List.mem_cons_of_mem _ hx); rwa [← bs_len, itoaB_list] at this)
    unfold ptL
    rw [List.map_cons, Go.Lib.join_cons, List.length_append, List.length_cons]
    omega
theorem ptB_size {p : List Int} (h : Sm1 p) : (ptB p).size ≤ p.length * 1003 := by rw [← bs_len, ptB_list]; exact ptL_len h
theorem Sm1.take {p : List Int} (h : Sm1 p) (k : Nat) : Sm1 (p.take k) := fun x hx => h x (List.mem_of_mem_take hx)
def joinB (xs : List ByteArray) (sep : ByteArray) : ByteArray := ⟨(Go.Lib.join (xs.map (·.data.toList)) sep.data.toList).toArray⟩
theorem joinB_pt (p : List Int) : joinB (p.map itoaB) (⟨#[44]⟩ : ByteArray) = ptB p := by
  unfold joinB ptB ptL
  rw [List.map_map]; rfl
theorem elems_str {w : World} {cs : List Value} {xs : List ByteArray} {o s : List Nat} (h : Kd.Elems Kd.str w cs xs o s) : cs = xs.map Value.string := by
  induction h with
  | nil => rfl
  | cons h _ ih => obtain ⟨rfl, -, -⟩ := h; rw [ih]; rfl
theorem fault_sm {p : List Int} {d : Int} (h : pointFault p d = 0) : Sm1 p ∧ p.length ≤ 3 := by
  unfold pointFault at h
  split at h
  · rename_i hd
    split at h
    · rename_i hl
      split at h
      · cases h
      · rename_i ha
        have h3 : d ≤ 3 := by have := of_decide_eq_true hd; omega
        refine ⟨fun x hx => ?_, by omega⟩
        apply Decidable.byContradiction
        intro hn
        exact ha (List.any_eq_true.2 ⟨x, hx, by simp only [within, Bool.not_eq_true', decide_eq_false_iff_not]; exact hn⟩)
    · cases h
  · cases h
def pairFault (p : Pair) (dims : Int) : Int := if within p.id 0 999 = true then rectFault p.rect dims else 3
def PairSm (p : Pair) : Prop := 0 ≤ p.id ∧ p.id ≤ 999 ∧ (Sm1 p.rect.low ∧ p.rect.low.length ≤ 3) ∧ Sm1 p.rect.high ∧ p.rect.high.length ≤ 3
theorem pair_sm {p : Pair} {d : Int} (h : pairFault p d = 0) : PairSm p := by
  unfold pairFault at h
  split at h
  · rename_i hw
    have hw' : 0 ≤ p.id ∧ p.id ≤ 999 := of_decide_eq_true hw
    unfold rectFault at h
    split at h
    · rename_i h1
      split at h
      · rename_i h2
        exact ⟨hw'.1, hw'.2, fault_sm h1, fault_sm h2⟩
      · rename_i h2; exact absurd h h2
    · rename_i h1; exact absurd h h1
  · cases h
def pairB (p : Pair) : ByteArray := itoaB p.id ++ (⟨#[58]⟩ : ByteArray) ++ ptB p.rect.low ++ (⟨#[47]⟩ : ByteArray) ++ ptB p.rect.high
theorem pairB_dec {p : Pair} (h : 0 ≤ p.id) : decB p.id ++ (⟨#[58]⟩ : ByteArray) ++ ptB p.rect.low ++ (⟨#[47]⟩ : ByteArray) ++ ptB p.rect.high = pairB p := by
  unfold pairB; rw [itoa_pos (by omega)]
theorem pt_bd {p : List Int} (h : Sm1 p ∧ p.length ≤ 3) : (ptB p).size ≤ 3009 := by have := ptB_size h.1; omega
theorem id_bd {n : Int} (h0 : 0 ≤ n) (h : n ≤ 999) : (itoaB n).size ≤ 1001 := by have := itoaB_size n; omega
theorem id_bd' {n : Int} (h0 : 0 ≤ n) (h : n ≤ 999) : (decB n).size ≤ 1001 := by have := decB_size n; omega
theorem pairB_size {p : Pair} (h : PairSm p) : (pairB p).size ≤ 8000 := by
  obtain ⟨h1, h2, h3, h4⟩ := h
  have a1 := id_bd h1 h2; have a2 := pt_bd h3; have a3 := pt_bd h4
  have e1 : (⟨#[58]⟩ : ByteArray).size = 1 := rfl
  have e2 : (⟨#[47]⟩ : ByteArray).size = 1 := rfl
  unfold pairB
  rw [app_size, app_size, app_size, app_size]; omega
def pairTxt (p : Pair) : TextResult := if pairFault p ((p.rect.low.length : Nat) : Int) = 0 then ⟨0, pairB p⟩ else ⟨pairFault p ((p.rect.low.length : Nat) : Int), ByteArray.empty⟩
theorem app_assoc (a b c : ByteArray) : a ++ (b ++ c) = a ++ b ++ c := by apply bs_ext; rw [app_list, app_list, app_list, app_list, List.append_assoc]

/-! impl.isId -/
set_option maxRecDepth 20000 in
set_option maxHeartbeats 2000000 in
theorem impl_isId (w : World) (id : Int)  : Calls Tryd.prog 58 #[.int .i64 id] w (fun e_ w2_ => e_ = .returned (.bool (within id 0 999)) ∧ Below w.heap.size w w2_) := by
  refine fnc (X := X 5 w) (args := [.int .i64 id]) (l := [(0, .int .i64 id)]) (G := []) Tryd.func58 rfl rfl rfl ⟨rfl, trivial⟩ (s0n w).1 ?_
  refine sq (rg (a_ rfl rfl (en (nx (sq (rg (m_ rfl rfl (cs_ (v := .bool (within id 0 999)) (by kernel_rfl) rfl rfl rfl (fun w_ hs_ => impl_within w_ _ _ _) (a_ rfl rfl (en (nx (rt (ret1 rfl rfl (fun w_ hs_ => ⟨?_, hs_.below⟩))))))))))))))
  rfl
/-! impl.ownDims -/
set_option maxRecDepth 20000 in
set_option maxHeartbeats 2000000 in
theorem impl_ownDims (w : World) {Ar0 : Option Addr} {cr0 : Nat} {Ar1 : Option Addr} {cr1 : Nat} {r : Rect} {sr_ : List Nat} (hr : kRectS.Rel w [.slice Ar0 r.low.length cr0, .slice Ar1 r.high.length cr1] r [] sr_)  : Calls Tryd.prog 37 #[.agg #[.slice Ar0 r.low.length cr0, .slice Ar1 r.high.length cr1]] w (fun e_ w2_ => e_ = .returned (.int .i64 ((r.low.length : Nat) : Int)) ∧ Below w.heap.size w w2_) := by
  refine fnc (X := X 6 w) (args := [.agg #[.slice Ar0 r.low.length cr0, .slice Ar1 r.high.length cr1]]) (l := [(0, .agg #[.slice Ar0 r.low.length cr0, .slice Ar1 r.high.length cr1])]) (G := [dat kRectS [.slice Ar0 r.low.length cr0, .slice Ar1 r.high.length cr1] r ([]) sr_]) Tryd.func37 rfl rfl rfl ⟨rfl, trivial⟩ (s0d hr (s0n w)).1 ?_
  refine sq (rg (bx rfl rfl rfl rfl ?_))
  intro b1
  refine a_ rfl rfl (en (nx (sq (rg (vl (fa rfl rfl rfl) rfl (vl (ldb (u := .slice Ar0 r.low.length cr0) 0 rfl rfl rfl rfl rfl rfl rfl) rfl (vl (ln rfl rfl rfl) rfl (a_ rfl rfl (en (nx (rt (ret1 rfl rfl (fun w_ hs_ => ⟨?_, hs_.below⟩)))))))))))))
  rfl
/-! impl.pairFault -/
set_option maxRecDepth 20000 in
set_option maxHeartbeats 2000000 in
theorem impl_pairFault (w : World) (dims : Int) {Ap1 : Option Addr} {cp1 : Nat} {Ap2 : Option Addr} {cp2 : Nat} {p : Pair} {sp_ : List Nat} (hp : kPairS.Rel w [.int .i64 p.id, .slice Ap1 p.rect.low.length cp1, .slice Ap2 p.rect.high.length cp2] p [] sp_)  : Calls Tryd.prog 36 #[.agg #[.int .i64 p.id, .slice Ap1 p.rect.low.length cp1, .slice Ap2 p.rect.high.length cp2], .int .i64 dims] w (fun e_ w2_ => e_ = .returned (.int .i64 (pairFault p dims)) ∧ Below w.heap.size w w2_) := by
  refine fnc (X := X 13 w) (args := [.agg #[.int .i64 p.id, .slice Ap1 p.rect.low.length cp1, .slice Ap2 p.rect.high.length cp2], .int .i64 dims]) (l := [(0, .agg #[.int .i64 p.id, .slice Ap1 p.rect.low.length cp1, .slice Ap2 p.rect.high.length cp2]), (1, .int .i64 dims)]) (G := [dat kPairS [.int .i64 p.id, .slice Ap1 p.rect.low.length cp1, .slice Ap2 p.rect.high.length cp2] p ([]) sp_]) Tryd.func36 rfl rfl rfl ⟨rfl, rfl, trivial⟩ (s0d hp (s0n w)).1 ?_
  refine sq (rg (bx rfl rfl rfl rfl ?_))
  intro b1
  refine a_ rfl rfl (en (nx (sq (sq (rg (vl (fa rfl rfl rfl) rfl (vl (ldb (u := .int .i64 p.id) 0 rfl rfl rfl rfl rfl rfl rfl) rfl (cs_ (v := .bool (within p.id 0 999)) (by kernel_rfl) rfl rfl rfl (fun w_ hs_ => impl_isId w_ _) (vl (nt rfl rfl) rfl (en (nx ?_)))))))))))
  by_cases h2 : within p.id 0 999 = true
  · refine cf rfl (not_f h2) (sk (nx (sq (rg (vl (fa rfl rfl rfl) rfl (vl (ldb 0 rfl rfl rfl rfl rfl rfl rfl) rfl (m_ rfl rfl ?_)))))))
    refine gd 1 kPairS_p1_2 rfl (cs' := [.slice Ap1 p.rect.low.length cp1, .slice Ap2 p.rect.high.length cp2]) rfl fun s3 w_ rs3 us3 => ?_
    refine cs_ (v := .int .i64 (rectFault p.rect dims)) (by kernel_rfl) rfl rfl rfl (fun w_ hs_ => impl_RectFault w_ _ (hs_.at 0 rfl)) (a_ rfl rfl (en (nx (rt (ret1 rfl rfl (fun w_ hs_ => ⟨?_, hs_.below⟩))))))
    simp [pairFault, h2]
  · refine ct rfl (not_t (Bool.eq_false_iff.2 h2)) (sq (rg (a_ rfl rfl (en (nx (rt (xr (ret1 rfl rfl (fun w_ hs_ => ⟨?_, hs_.below⟩)))))))))
    simp [pairFault, h2]
/-! spec.l2Pair -/
set_option maxRecDepth 20000 in
set_option maxHeartbeats 2000000 in
theorem spec_l2Pair (w : World) (dims : Int) {Ap1 : Option Addr} {cp1 : Nat} {Ap2 : Option Addr} {cp2 : Nat} {p : Pair} {sp_ : List Nat} {pp : Addr} (hp : (ptr kPairS pp [.int .i64 p.id, .slice Ap1 p.rect.low.length cp1, .slice Ap2 p.rect.high.length cp2] p sp_).P w)  : Calls Tryd.prog 33 #[.pointer (some pp), .int .i64 dims] w (fun e_ w2_ => e_ = .returned (.int .i64 (pairFault p dims)) ∧ Below w.heap.size w w2_) := by
  refine fnc (X := X 17 w) (args := [.pointer (some pp), .int .i64 dims]) (l := [(0, .pointer (some pp)), (1, .int .i64 dims)]) (G := [ptr kPairS pp [.int .i64 p.id, .slice Ap1 p.rect.low.length cp1, .slice Ap2 p.rect.high.length cp2] p sp_]) Tryd.func33 rfl rfl rfl ⟨rfl, rfl, trivial⟩ (s0p hp (s0n w)).1 ?_
  refine sq (rg (a_ rfl rfl (en (nx (sq (sq (rg (m_ rfl rfl (vl (nc rfl rfl) rfl (vl (fa rfl rfl rfl) rfl (vl (ldp (u := .int .i64 p.id) 0 rfl rfl rfl rfl rfl rfl rfl) rfl (cs_ (v := .bool (within p.id 0 999)) (by kernel_rfl) rfl rfl rfl (fun w_ hs_ => spec_l1In w_ _ _ _) (vl (nt rfl rfl) rfl (en (nx ?_)))))))))))))))
  by_cases h1 : within p.id 0 999 = true
  · refine cf rfl (not_f h1) (sk (nx (sq (rg (m_ rfl rfl (vl (nc rfl rfl) rfl (vl (fa rfl rfl rfl) rfl (vl (ldp 0 rfl rfl rfl rfl rfl rfl rfl) rfl (m_ rfl rfl ?_)))))))))
    refine gp 0 kPairS_p1_2 rfl (cs' := [.slice Ap1 p.rect.low.length cp1, .slice Ap2 p.rect.high.length cp2]) rfl fun s2 w_ rs2 us2 => ?_
    refine cs_ (v := .int .i64 (rectFault p.rect dims)) (by kernel_rfl) rfl rfl rfl (fun w_ hs_ => spec_RectFault w_ _ (hs_.at 0 rfl)) (a_ rfl rfl (en (nx (rt (ret1 rfl rfl (fun w_ hs_ => ⟨?_, hs_.below⟩))))))
    simp [pairFault, h1]
  · refine ct rfl (not_t (Bool.eq_false_iff.2 h1)) (sq (rg (a_ rfl rfl (en (nx (rt (xr (ret1 rfl rfl (fun w_ hs_ => ⟨?_, hs_.below⟩)))))))))
    simp [pairFault, h1]
theorem joinC (w : World) (sep : ByteArray) {Aa : Option Addr} {ca : Nat} {xs : List ByteArray} {sa_ : List Nat} (ha : (Kd.sl Kd.str).Rel w [.slice Aa xs.length ca] xs [] sa_) (hN : xs.length ≤ 1000000) (hlen : (joinB xs sep).size ≤ 1000000) : Calls Tryd.prog 61 #[.slice Aa xs.length ca, .string sep] w (fun e w' => e = .returned (.string (joinB xs sep)) ∧ Below w.heap.size w w') := by
  obtain ⟨-, A', c', he, hc, hm, h2⟩ := ha
  simp only [List.cons.injEq, Value.slice.injEq, and_true] at he
  obtain ⟨rfl, -, rfl⟩ := he
  have hl : (Go.Lib.join (xs.map (·.data.toList)) sep.data.toList).length ≤ 1000000 := by rw [← bs_len] at hlen; exact hlen
  rcases h2 with ⟨rfl, -⟩ | ⟨b, off, el, s2, rfl, rfl, hb, hel, hcell⟩
  · exact (Any.strings_Join_none laidJoin laidX Aa ca sep w).mono fun e w' ⟨he, hw⟩ => ⟨by rw [he]; rfl, hw ▸ Below.refl _ _⟩
  · have he := elems_str hel
    subst he
    exact (Any.strings_Join laidJoin laidX b off ca xs sep w (fun j x hj => hcell j (.string x) (by rw [List.getElem?_map, hj]; rfl)) hb (by omega) hc (by omega)).mono fun e w' ⟨he, hw⟩ => ⟨by rw [he]; rfl, .of hw⟩
/-! spec.l1Digits -/
set_option maxRecDepth 20000 in
set_option maxHeartbeats 2000000 in
theorem spec_l1Digits_r (L : Nat) (ih : ∀ (m_ : Nat), m_ < L → ∀ (w : World) (n : Int) (h0 : 0 ≤ n) (h1 : n ≤ 1152921504606846976) (hL : n.toNat ≤ m_), Calls Tryd.prog 45 #[.int .i64 n] w (fun e_ w2_ => e_ = .returned (.string (decB n)) ∧ Below w.heap.size w w2_)) (w : World) (n : Int) (h0 : 0 ≤ n) (h1 : n ≤ 1152921504606846976) (hL : n.toNat ≤ L) : Calls Tryd.prog 45 #[.int .i64 n] w (fun e_ w2_ => e_ = .returned (.string (decB n)) ∧ Below w.heap.size w w2_) := by
  refine fnc (X := X 20 w) (args := [.int .i64 n]) (l := [(0, .int .i64 n)]) (G := []) Tryd.func45 rfl rfl rfl ⟨rfl, trivial⟩ (s0n w).1 ?_
  refine sq (rg (a_ rfl rfl (en (nx (sq (sq (rg (m_ rfl rfl (vl (cm rfl rfl rfl rfl) rfl (en (nx ?_)))))))))))
  by_cases h1 : n < (10 : Int)
  · refine ct rfl (decide_eq_true h1) (sq (rg (m_ rfl rfl (vl (ra (c := 48 + n) rfl rfl rfl rfl (by omega) (by omega)) rfl (vl (cv Tryd.underlying2 Tryd.underlying5 rfl rfl (wru (by omega) (by omega))) rfl (gs Kd.u8 [.int .u8 (48 + n)] (48 + n) (fun _ => ⟨rfl, rfl, rfl⟩) (bs1 (dk := Kd.u8) rfl info5 (by decide) rfl rfl rfl rfl ?_)))))))
    intro b2
    refine vl (cvs 0 (z := 48 + n) rfl Tryd.underlying96 Tryd.underlying5 Tryd.underlying9 rfl rfl) rfl (a_ rfl rfl (en (nx (rt (xr (ret1 rfl rfl (fun w_ hs_ => ⟨?_, hs_.below⟩)))))))
    exact rstr (decB_lo h0 h1)
  · refine cf rfl (decide_eq_false h1) (sk (nx (sq ?_)))
    refine rx (σ := Nat) (fun z_ : Nat => match z_ with | b3 => [(2, .string ((decB (n / 10)) ++ (chr (48 + (n % 10)))))])
        (fun z_ : Nat => match z_ with | b3 => [dat (Kd.row 5 Kd.u8) [.slice (some ⟨b3, 0, none⟩) 1 1] ([48 + (n % 10)]) (b3 :: []) ([])])
        (fun z_ : Nat => match z_ with | b3 => True) ?_ ?_
    · rintro b3 -
      refine nx (rt (ret1 rfl rfl (fun w_ hs_ => ⟨?_, hs_.below⟩)))
      exact rstr (decB_hi h0 h1)
    · refine r0 (qv 0 rfl (mv rfl rfl) rfl (by kernel_rfl) (qv 1 rfl (rqo rfl rfl rfl (by omega) (by omega) (by omega)) rfl (by kernel_rfl) (qv 3 rfl (mv rfl rfl) rfl (by kernel_rfl) (qv 4 rfl (rre rfl rfl rfl (by omega) (by omega)) rfl (by kernel_rfl) (qv 5 rfl (ra (c := 48 + (n % 10)) rfl rfl rfl rfl (by omega) (by omega)) rfl (by kernel_rfl) (qv 6 rfl (cv Tryd.underlying2 Tryd.underlying5 rfl rfl (wru (by omega) (by omega))) rfl (by kernel_rfl) ?_))))))
      refine qo 2 7 [] rfl rfl (by kernel_rfl) rfl ?_ ?_
      · refine cs_ (v := .string (decB (n / 10))) (by kernel_rfl) rfl rfl rfl (fun w_ hs_ => by exact (ih _ (show n.toNat / 10 < L by omega)) w_ _ (by omega) (by omega) (by omega)) (qn (q1 7 [] rfl (by kernel_rfl) rfl (gs Kd.u8 [.int .u8 (48 + (n % 10))] (48 + (n % 10)) (fun _ => ⟨rfl, rfl, rfl⟩) (bs1 (dk := Kd.u8) rfl info5 (by decide) rfl rfl rfl rfl ?_))))
        intro b5
        exact qn (qq (Gq' := [dat (Kd.row 5 Kd.u8) [.slice (some ⟨b5, 0, none⟩) 1 1] ([48 + (n % 10)]) (b5 :: []) ([])]) [] rfl (qv 8 rfl (cvs 0 (z := 48 + (n % 10)) rfl Tryd.underlying96 Tryd.underlying5 Tryd.underlying9 rfl rfl) rfl (by kernel_rfl) (qv 9 rfl (sad rfl rfl rfl (sum_le2 (n := 1152921504606846977) (m := 1) (Nat.le_trans (decB_size _) (by omega)) (lit_le (n := 1) rfl) rfl)) rfl (by kernel_rfl) (qv 10 rfl (as_ rfl rfl) rfl (by kernel_rfl) (qe [0] (by kernel_rfl) rfl (cx b5 [0] trivial ⟨rfl, trivial⟩ rfl))))))
      · refine gs Kd.u8 [.int .u8 (48 + (n % 10))] (48 + (n % 10)) (fun _ => ⟨rfl, rfl, rfl⟩) (bs1 (dk := Kd.u8) rfl info5 (by decide) rfl rfl rfl rfl ?_)
        intro b6
        exact qn (qq (Gq' := [dat (Kd.row 5 Kd.u8) [.slice (some ⟨b6, 0, none⟩) 1 1] ([48 + (n % 10)]) (b6 :: []) ([])]) [] rfl (qv 8 rfl (cvs 0 (z := 48 + (n % 10)) rfl Tryd.underlying96 Tryd.underlying5 Tryd.underlying9 rfl rfl) rfl (by kernel_rfl) (q1 2 [0] rfl (by kernel_rfl) rfl (cs_ (v := .string (decB (n / 10))) (by kernel_rfl) rfl rfl rfl (fun w_ hs_ => by exact (ih _ (show n.toNat / 10 < L by omega)) w_ _ (by omega) (by omega) (by omega)) (qn (qv 9 rfl (sad rfl rfl rfl (sum_le2 (n := 1152921504606846977) (m := 1) (Nat.le_trans (decB_size _) (by omega)) (lit_le (n := 1) rfl) rfl)) rfl (by kernel_rfl) (qv 10 rfl (as_ rfl rfl) rfl (by kernel_rfl) (qe [0] (by kernel_rfl) rfl (cx b6 [0] trivial ⟨rfl, trivial⟩ rfl)))))))))
theorem spec_l1Digits : ∀ (L : Nat) (w : World) (n : Int) (h0 : 0 ≤ n) (h1 : n ≤ 1152921504606846976) (hL : n.toNat ≤ L), Calls Tryd.prog 45 #[.int .i64 n] w (fun e_ w2_ => e_ = .returned (.string (decB n)) ∧ Below w.heap.size w w2_) := by
  intro L
  induction L using Nat.strongRecOn with
  | _ L ih => exact spec_l1Digits_r L ih
/-! spec.l13Signed -/
set_option maxRecDepth 20000 in
set_option maxHeartbeats 2000000 in
theorem spec_l13Signed (w : World) (n : Int) (h0 : -1152921504606846976 ≤ n) (h1 : n ≤ 1152921504606846976) : Calls Tryd.prog 68 #[.int .i64 n] w (fun e_ w2_ => e_ = .returned (.string (itoaB n)) ∧ Below w.heap.size w w2_) := by
  refine fnc (X := X 11 w) (args := [.int .i64 n]) (l := [(0, .int .i64 n)]) (G := []) Tryd.func68 rfl rfl rfl ⟨rfl, trivial⟩ (s0n w).1 ?_
  refine sq (rg (a_ rfl rfl (en (nx (sq (sq (rg (m_ rfl rfl (vl (cm rfl rfl rfl rfl) rfl (en (nx ?_)))))))))))
  by_cases h1 : n < (0 : Int)
  · refine ct rfl (decide_eq_true h1) (sq (rg (m_ rfl rfl (vl (ng (m := (-n)) rfl rfl (by rw [wr (by omega) (by omega)]; omega)) rfl (cs_ (v := .string (decB (-n))) (by kernel_rfl) rfl rfl rfl (fun w_ hs_ => (spec_l1Digits _) w_ _ (by omega) (by omega) (Nat.le_refl _)) (vl (sad rfl rfl rfl (sum_le2 (n := 1) (m := 1152921504606846977) (lit_le (a := (⟨#[45]⟩ : ByteArray)) (n := 1) rfl) (Nat.le_trans (decB_size _) (by omega)) rfl)) rfl (a_ rfl rfl (en (nx (rt (xr (ret1 rfl rfl (fun w_ hs_ => ⟨?_, hs_.below⟩)))))))))))))
    exact rstr (itoa_neg' h1)
  · refine cf rfl (decide_eq_false h1) (sk (nx (sq (rg (m_ rfl rfl (cs_ (v := .string (decB n)) (by kernel_rfl) rfl rfl rfl (fun w_ hs_ => (spec_l1Digits _) w_ _ (by omega) (by omega) (Nat.le_refl _)) (a_ rfl rfl (en (nx (rt (ret1 rfl rfl (fun w_ hs_ => ⟨?_, hs_.below⟩))))))))))))
    exact rstr ((itoa_pos h1).symm)
/-! spec.l13Point -/
set_option maxRecDepth 20000 in
set_option maxHeartbeats 2000000 in
theorem spec_l13Point (w : World) {Ap : Option Addr} {cp : Nat} {p : List Int} {sp_ : List Nat} (hp : (Kd.sl Kd.i64).Rel w [.slice Ap p.length cp] p [] sp_) (hs : Sm1 p ∧ p.length ≤ 3) : Calls Tryd.prog 56 #[.slice Ap p.length cp] w (fun e_ w2_ => e_ = .returned (.string (ptB p)) ∧ Below w.heap.size w w2_) := by
  have Lp := Kd.sl_len hp; have Cp := Kd.sl_cap hp
  refine fnc (X := X 23 w) (args := [.slice Ap p.length cp]) (l := [(0, .slice Ap p.length cp)]) (G := [dat (Kd.sl Kd.i64) [.slice Ap p.length cp] p ([]) sp_]) Tryd.func56 rfl rfl rfl ⟨rfl, trivial⟩ (s0d hp (s0n w)).1 ?_
  refine sq (rg (a_ rfl rfl (en (nx (sq (rg (a_ rfl rfl (en (nx (sq (sq (rg (a_ rfl rfl (en (nx (bk ?_))))))))))))))))
  refine lp (σ := Nat × ByteArray) (fun z_ : Nat × ByteArray => match z_ with | (k, v) => [(0, .slice Ap p.length cp), (3, .string v), (4, .int .i64 ((k : Nat) : Int))])
      (fun z_ : Nat × ByteArray => match z_ with | (k, v) => [dat (Kd.sl Kd.i64) [.slice Ap p.length cp] p ([]) sp_])
      (fun z_ : Nat × ByteArray => match z_ with | (k, v) => (k ≤ p.length ∧ v = ptB (p.take k))) (fun z_ : Nat × ByteArray => match z_ with | (k, v) => p.length - k) (0, (⟨#[]⟩ : ByteArray)) [0] ⟨Nat.zero_le _, rfl⟩ ⟨rfl, rfl, rfl, trivial⟩ rfl ?_
  rintro ⟨k, v⟩ hp_
  have hinv1 : k ≤ p.length ∧ v = ptB (p.take k) := hp_; have vb : v.size ≤ 3009 := (by rw [hinv1.2]; exact pt_bd ⟨hs.1.take k, by rw [List.length_take]; omega⟩)
  refine sq (sq (rg (m_ rfl rfl (m_ rfl rfl (vl (ln rfl rfl rfl) rfl (vl (cm rfl rfl rfl rfl) rfl (en (nx ?_))))))))
  by_cases h1 : ((k : Nat) : Int) < ((p.length : Nat) : Int)
  · refine ct rfl (decide_eq_true h1) (sk (nx (sq (bk (sq (sq (rg (m_ rfl rfl (vl (cm rfl rfl rfl rfl) rfl (en (nx ?_)))))))))))
    by_cases h2 : (0 : Int) < ((k : Nat) : Int)
    · refine ct rfl (decide_eq_true h2) (rg (m_ rfl rfl (vl (sad rfl rfl rfl (sum_le2 (n := 3009) (m := 1) vb (lit_le (a := (⟨#[44]⟩ : ByteArray)) (n := 1) rfl) rfl)) rfl (a_ rfl rfl (en (nx (rg (m_ rfl rfl (m_ rfl rfl (m_ rfl rfl ?_))))))))))
      refine gx 0 k rfl (by omega) fun y8 p3 cs_ s4 w7 m9 e5 r6 us4 => ?_
      obtain ⟨rfl, -, -⟩ := r6
      refine vl (ix k e5 rfl rfl rfl rfl rfl (by omega)) rfl (vl (ldq (u := .int .i64 y8) 0 rfl rfl rfl rfl rfl rfl rfl) rfl (cs_ (v := .string (itoaB y8)) (by kernel_rfl) rfl rfl rfl (fun w_ hs_ => spec_l13Signed w_ _ (by have := hs.1 _ (List.mem_of_getElem? (by assumption)); omega) (by have := hs.1 _ (List.mem_of_getElem? (by assumption)); omega)) (vl (sad rfl rfl rfl (sum_le2 (n := 3010) (m := 1002) (app_le (n := 3009) (m := 1) vb (lit_le (a := (⟨#[44]⟩ : ByteArray)) (n := 1) rfl)) (itoa_sm hs.1 (List.mem_of_getElem? (by assumption))) rfl)) rfl (a_ rfl rfl (en (xn (nx (rg (m_ rfl rfl (vl (ra (c := ((k + 1 : Nat) : Int)) rfl rfl rfl (by omega) (by omega) (by omega)) rfl (a_ rfl rfl (en ?_))))))))))))
      exact lpe (s := (k, v)) (k + 1, ((v ++ (⟨#[44]⟩ : ByteArray)) ++ (itoaB y8))) [1] ⟨by omega, pt_s hinv1.2 (by omega) m9 h2⟩ (by show p.length - (k + 1) < p.length - k; omega) ⟨rfl, rfl, rfl, trivial⟩ rfl
    · refine cf rfl (decide_eq_false h2) (sk (nx (rg (m_ rfl rfl (m_ rfl rfl (m_ rfl rfl ?_))))))
      refine gx 0 k rfl (by omega) fun y15 p10 cs_ s11 w14 m16 e12 r13 us11 => ?_
      obtain ⟨rfl, -, -⟩ := r13
      refine vl (ix k e12 rfl rfl rfl rfl rfl (by omega)) rfl (vl (ldq (u := .int .i64 y15) 0 rfl rfl rfl rfl rfl rfl rfl) rfl (cs_ (v := .string (itoaB y15)) (by kernel_rfl) rfl rfl rfl (fun w_ hs_ => spec_l13Signed w_ _ (by have := hs.1 _ (List.mem_of_getElem? (by assumption)); omega) (by have := hs.1 _ (List.mem_of_getElem? (by assumption)); omega)) (vl (sad rfl rfl rfl (sum_le2 (n := 3009) (m := 1002) vb (itoa_sm hs.1 (List.mem_of_getElem? (by assumption))) rfl)) rfl (a_ rfl rfl (en (xn (nx (rg (m_ rfl rfl (vl (ra (c := ((k + 1 : Nat) : Int)) rfl rfl rfl (by omega) (by omega) (by omega)) rfl (a_ rfl rfl (en ?_))))))))))))
      exact lpe (s := (k, v)) (k + 1, (v ++ (itoaB y15))) [1] ⟨by omega, pt_0 hinv1.2 m16 h2⟩ (by show p.length - (k + 1) < p.length - k; omega) ⟨rfl, rfl, rfl, trivial⟩ rfl
  · refine cf rfl (decide_eq_false h1) (xt (xq (xq (xb (nx (sq (rg (m_ rfl rfl (a_ rfl rfl (en (nx (rt (ret1 rfl rfl (fun w_ hs_ => ⟨?_, hs_.below⟩))))))))))))))
    exact rstr (by rw [hinv1.2, List.take_of_length_le (by omega)])
/-! impl.pointText -/
set_option maxRecDepth 20000 in
set_option maxHeartbeats 2000000 in
theorem impl_pointText (w : World) {Ap : Option Addr} {cp : Nat} {p : List Int} {sp_ : List Nat} (hp : (Kd.sl Kd.i64).Rel w [.slice Ap p.length cp] p [] sp_) (hs : Sm1 p ∧ p.length ≤ 3) (ht : TabP w) : Calls Tryd.prog 39 #[.slice Ap p.length cp] w (fun e_ w2_ => e_ = .returned (.string (ptB p)) ∧ Below w.heap.size w w2_) := by
  have Lp := Kd.sl_len hp; have Cp := Kd.sl_cap hp
  refine fnc (X := X 21 w) (args := [.slice Ap p.length cp]) (l := [(0, .slice Ap p.length cp)]) (G := [dat (Kd.sl Kd.i64) [.slice Ap p.length cp] p ([]) sp_]) Tryd.func39 rfl rfl rfl ⟨rfl, trivial⟩ (s0d hp (s0n w)).1 ?_
  refine sq (rg (a_ rfl rfl (en (nx (sq (rg (bs0 (dk := Kd.str) rfl info9 rfl rfl ?_)))))))
  intro b1
  refine a_ rfl rfl (en (nx (sq (sq (rg (m_ rfl rfl (vl (ln rfl rfl rfl) rfl (m_ rfl rfl (en (nx (bk ?_)))))))))))
  refine lp (σ := Nat × List ByteArray × Option Addr × Nat × List Nat × List Nat) (fun z_ : Nat × List ByteArray × Option Addr × Nat × List Nat × List Nat => match z_ with | (k, out1, A_out1, c_out1, o_out1, s_out1) => [(3, .slice A_out1 out1.length c_out1), (7, .slice Ap p.length cp), (8, .int .i64 ((p.length : Nat) : Int)), (9, .int .i64 ((k : Nat) : Int))])
      (fun z_ : Nat × List ByteArray × Option Addr × Nat × List Nat × List Nat => match z_ with | (k, out1, A_out1, c_out1, o_out1, s_out1) => [dat (Kd.row 9 Kd.str) [.slice A_out1 out1.length c_out1] out1 o_out1 s_out1, dat (Kd.sl Kd.i64) [.slice Ap p.length cp] p ([]) sp_])
      (fun z_ : Nat × List ByteArray × Option Addr × Nat × List Nat × List Nat => match z_ with | (k, out1, A_out1, c_out1, o_out1, s_out1) => (k ≤ p.length ∧ out1 = (p.take k).map itoaB) ∧ (∀ q ∈ s_out1, True)) (fun z_ : Nat × List ByteArray × Option Addr × Nat × List Nat × List Nat => match z_ with | (k, out1, A_out1, c_out1, o_out1, s_out1) => p.length - k) (0, [], (some ⟨b1, 0, none⟩), 0, [b1], []) [0, 0] ⟨⟨Nat.zero_le _, rfl⟩, by grind⟩ ⟨rfl, rfl, rfl, rfl, trivial⟩ rfl ?_
  rintro ⟨k, out1, A_out1, c_out1, o_out1, s_out1⟩ hp_
  obtain ⟨hinv1, hsee1out1⟩ := hp_; have zo : out1.length ≤ 3 := (by rw [hinv1.2, List.length_map, List.length_take]; omega)
  refine sq (rg (vl (cm rfl rfl rfl rfl) rfl (en (nx (sq ?_)))))
  by_cases h2 : ((k : Nat) : Int) < ((p.length : Nat) : Int)
  · refine ct rfl (decide_eq_true h2) (sk (nx (sq (bk (sq (rg ?_))))))
    refine gx 1 k rfl (by omega) fun y8 p3 cs_ s4 w7 m9 e5 r6 us4 => ?_
    obtain ⟨rfl, -, -⟩ := r6
    refine vl (ix k e5 rfl rfl rfl rfl rfl (by omega)) rfl (vl (ldq (u := .int .i64 y8) 0 rfl rfl rfl rfl rfl rfl rfl) rfl (a_ rfl rfl (en (nx (rg (m_ rfl rfl (m_ rfl rfl (cs_ (v := .string (itoaB y8)) (by kernel_rfl) rfl rfl rfl (fun w_ hs_ => impl_decimal w_ _ (by have := hs.1 _ (List.mem_of_getElem? (by assumption)); omega) (by have := hs.1 _ (List.mem_of_getElem? (by assumption)); omega) (ht.mono hs_.below)) (gs Kd.str [.string (itoaB y8)] (itoaB y8) (fun _ => ⟨rfl, rfl, rfl⟩) (bs1 (dk := Kd.str) rfl info9 (by decide) rfl rfl rfl rfl ?_))))))))))
    intro b10
    refine f2 (ap (out1 ++ [(itoaB y8)]) rfl info9 rfl rfl (by decide) rfl rfl rfl rfl (by simp only [List.length_append, List.length_cons, List.length_nil]; omega) (by simp only [List.length_append, List.length_cons, List.length_nil]; omega) rfl (fun A11 c12 o13 s14 t15 => ?_))
    refine a_ rfl rfl (en (xn (nx (rg (vl (ra (c := ((k + 1 : Nat) : Int)) rfl rfl rfl (by omega) (by omega) (by omega)) rfl (m_ rfl rfl (en ?_)))))))
    exact lpe (s := (k, out1, A_out1, c_out1, o_out1, s_out1)) (k + 1, (out1 ++ [(itoaB y8)]), A11, c12, o13, s14) [0, 1] ⟨⟨by omega, by rw [hinv1.2, List.take_add_one, m9]; simp⟩, by grind⟩ (by show p.length - (k + 1) < p.length - k; omega) ⟨rfl, rfl, rfl, rfl, trivial⟩ rfl
  · refine cf rfl (decide_eq_false h2) (xt (xq (xq (xb (nx (sq (rg (m_ rfl rfl (cs_ (v := .string (joinB out1 (⟨#[44]⟩ : ByteArray))) (by kernel_rfl) rfl rfl rfl (fun w_ hs_ => bor (Kd.Seals.row Kd.Seals.str _) (hs_.at 0 rfl) fun _ lb0_ => joinC w_ _ lb0_ (by omega) (by rw [hinv1.2, List.take_of_length_le (by omega), joinB_pt]; have := pt_bd hs; omega)) (a_ rfl rfl (en (nx (rt (ret1 rfl rfl (fun w_ hs_ => ⟨?_, hs_.below⟩)))))))))))))))
    exact rstr (by rw [hinv1.2, List.take_of_length_le (by omega)]; exact joinB_pt p)
/-! spec.l13Pair -/
set_option maxRecDepth 20000 in
set_option maxHeartbeats 2000000 in
theorem spec_l13Pair (w : World) {Ap1 : Option Addr} {cp1 : Nat} {Ap2 : Option Addr} {cp2 : Nat} {p : Pair} {sp_ : List Nat} {pp : Addr} (hp : (ptr kPairS pp [.int .i64 p.id, .slice Ap1 p.rect.low.length cp1, .slice Ap2 p.rect.high.length cp2] p sp_).P w) (hps : PairSm p) : Calls Tryd.prog 34 #[.pointer (some pp)] w (fun e_ w2_ => e_ = .returned (.string (pairB p)) ∧ Below w.heap.size w w2_) := by
  have hi := hps.1; have hi2 := hps.2.1
  refine fnc (X := X 24 w) (args := [.pointer (some pp)]) (l := [(0, .pointer (some pp))]) (G := [ptr kPairS pp [.int .i64 p.id, .slice Ap1 p.rect.low.length cp1, .slice Ap2 p.rect.high.length cp2] p sp_]) Tryd.func34 rfl rfl rfl ⟨rfl, trivial⟩ (s0p hp (s0n w)).1 ?_
  refine sq (rg (a_ rfl rfl (en (nx (sq ?_)))))
  refine gp 0 kPairS_p1_1 rfl (cs' := [.slice Ap1 p.rect.low.length cp1]) rfl fun s1 w_ rs1 us1 => ?_
  have Ls1 := Kd.sl_len rs1; have Cs1 := Kd.sl_cap rs1
  refine gp 1 kPairS_p2_1 rfl (cs' := [.slice Ap2 p.rect.high.length cp2]) rfl fun s2 w_ rs2 us2 => ?_
  have Ls2 := Kd.sl_len rs2; have Cs2 := Kd.sl_cap rs2
  refine r0 (qv 0 rfl (mv rfl rfl) rfl (by kernel_rfl) (qv 1 rfl (nc rfl rfl) rfl (by kernel_rfl) (qv 2 rfl (fa rfl rfl rfl) rfl (by kernel_rfl) (qv 3 rfl (ldp (u := .int .i64 p.id) 2 rfl rfl rfl rfl rfl rfl rfl) rfl (by kernel_rfl) (qv 6 rfl (mv rfl rfl) rfl (by kernel_rfl) (qv 7 rfl (nc rfl rfl) rfl (by kernel_rfl) (qv 8 rfl (fa rfl rfl rfl) rfl (by kernel_rfl) (qv 9 rfl (fb rfl rfl rfl) rfl (by kernel_rfl) (qv 10 rfl (ldp (u := .slice Ap1 p.rect.low.length cp1) 2 rfl rfl rfl rfl rfl rfl rfl) rfl (by kernel_rfl) (qv 14 rfl (mv rfl rfl) rfl (by kernel_rfl) (qv 15 rfl (nc rfl rfl) rfl (by kernel_rfl) (qv 16 rfl (fa rfl rfl rfl) rfl (by kernel_rfl) (qv 17 rfl (fb rfl rfl rfl) rfl (by kernel_rfl) (qv 18 rfl (ldp (u := .slice Ap2 p.rect.high.length cp2) 2 rfl rfl rfl rfl rfl rfl rfl) rfl (by kernel_rfl) (q1 4 [0, 0, 0] rfl (by kernel_rfl) rfl (cs_ (v := .string (decB p.id)) (by kernel_rfl) rfl rfl rfl (fun w_ hs_ => by exact (spec_l1Digits _) w_ _ (by omega) (by omega) (Nat.le_refl _)) (qn (qv 5 rfl (sad rfl rfl rfl (sum_le2 (n := 1001) (m := 1) (id_bd' hps.1 hps.2.1) (lit_le (a := (⟨#[58]⟩ : ByteArray)) (n := 1) rfl) rfl)) rfl (by kernel_rfl) (q1 11 [0, 0, 0] rfl (by kernel_rfl) rfl (cs_ (v := .string (ptB p.rect.low)) (by kernel_rfl) rfl rfl rfl (fun w_ hs_ => by exact spec_l13Point w_ (hs_.at 1 rfl) hps.2.2.1) (qn (qv 12 rfl (sad rfl rfl rfl (sum_le2 (n := 1002) (m := 3009) (app_le (n := 1001) (m := 1) (id_bd' hps.1 hps.2.1) (lit_le (a := (⟨#[58]⟩ : ByteArray)) (n := 1) rfl)) (pt_bd hps.2.2.1) rfl)) rfl (by kernel_rfl) (qv 13 rfl (sad rfl rfl rfl (sum_le2 (n := 4011) (m := 1) (app_le (n := 1002) (m := 3009) (app_le (n := 1001) (m := 1) (id_bd' hps.1 hps.2.1) (lit_le (a := (⟨#[58]⟩ : ByteArray)) (n := 1) rfl)) (pt_bd hps.2.2.1)) (lit_le (a := (⟨#[47]⟩ : ByteArray)) (n := 1) rfl) rfl)) rfl (by kernel_rfl) (q1 19 [0, 0, 0] rfl (by kernel_rfl) rfl (cs_ (v := .string (ptB p.rect.high)) (by kernel_rfl) rfl rfl rfl (fun w_ hs_ => by exact spec_l13Point w_ (hs_.at 0 rfl) hps.2.2.2) (qn (qv 20 rfl (sad rfl rfl rfl (sum_le2 (n := 4012) (m := 3009) (app_le (n := 4011) (m := 1) (app_le (n := 1002) (m := 3009) (app_le (n := 1001) (m := 1) (id_bd' hps.1 hps.2.1) (lit_le (a := (⟨#[58]⟩ : ByteArray)) (n := 1) rfl)) (pt_bd hps.2.2.1)) (lit_le (a := (⟨#[47]⟩ : ByteArray)) (n := 1) rfl)) (pt_bd hps.2.2.2) rfl)) rfl (by kernel_rfl) (qv 21 rfl (as_ rfl rfl) rfl (by kernel_rfl) (qe [0, 0, 0] (by kernel_rfl) rfl (nx (rt (ret1 rfl rfl (fun w_ hs_ => ⟨?_, hs_.below⟩)))))))))))))))))))))))))))))))))
  exact rstr (pairB_dec hps.1)
/-! spec.PairText -/
set_option maxRecDepth 20000 in
set_option maxHeartbeats 2000000 in
theorem spec_PairText (w : World) {Ap1 : Option Addr} {cp1 : Nat} {Ap2 : Option Addr} {cp2 : Nat} {p : Pair} {sp_ : List Nat} (hp : kPairS.Rel w [.int .i64 p.id, .slice Ap1 p.rect.low.length cp1, .slice Ap2 p.rect.high.length cp2] p [] sp_)  : Calls Tryd.prog 13 #[.agg #[.int .i64 p.id, .slice Ap1 p.rect.low.length cp1, .slice Ap2 p.rect.high.length cp2]] w (Made kTextResultO w (pairTxt p) []) := by
  refine fnc (X := X 15 w) (args := [.agg #[.int .i64 p.id, .slice Ap1 p.rect.low.length cp1, .slice Ap2 p.rect.high.length cp2]]) (l := [(0, .agg #[.int .i64 p.id, .slice Ap1 p.rect.low.length cp1, .slice Ap2 p.rect.high.length cp2])]) (G := [dat kPairS [.int .i64 p.id, .slice Ap1 p.rect.low.length cp1, .slice Ap2 p.rect.high.length cp2] p ([]) sp_]) Tryd.func13 rfl rfl rfl ⟨rfl, trivial⟩ (s0d hp (s0n w)).1 ?_
  refine sq (rg (bx rfl rfl rfl rfl ?_))
  intro b1
  refine al zero36 rfl rfl rfl ?_
  intro b2
  refine en (nx (sq (sq (rg (vl (fa rfl rfl rfl) rfl (vl (fa rfl rfl rfl) rfl (vl (ldb (u := .slice Ap1 p.rect.low.length cp1) 1 rfl rfl rfl rfl rfl rfl rfl) rfl (vl (ln rfl rfl rfl) rfl (cs_ (v := .int .i64 (pairFault p ((p.rect.low.length : Nat) : Int))) (by kernel_rfl) rfl rfl rfl (fun w_ hs_ => spec_l2Pair w_ _ (ptr_blk (hs_.at 1 rfl) (hs_.at 2 rfl) rfl)) (a_ rfl rfl (en (nx (sq (rg (m_ rfl rfl (vl (cm rfl rfl rfl rfl) rfl (en (nx ?_))))))))))))))))))
  by_cases h3 : (pairFault p ((p.rect.low.length : Nat) : Int)) = (0 : Int)
  · have hps := pair_sm h3; have hi := hps.1; have hi2 := hps.2.1
    exact cf rfl (bne_eq_false_iff_eq.2 h3) (sk (nx (sq (rg (cs_ (v := .string (pairB p)) (by kernel_rfl) rfl rfl rfl (fun w_ hs_ => spec_l13Pair w_ (ptr_blk (hs_.at 1 rfl) (hs_.at 2 rfl) rfl) hps) (vl (bd bld36 rfl rfl rfl) rfl (sto rfl rfl rfl rfl rfl rfl rfl (cs' := [.int .i64 0, .string (pairB p)]) rfl (en (nx (rt (gs Kd.str [.string (pairB p)] ((⟨0, (pairB p)⟩ : TextResult).text) (fun _ => ⟨rfl, rfl, rfl⟩) (gs Kd.i64 [.int .i64 0] ((⟨0, (pairB p)⟩ : TextResult).code) (fun _ => ⟨rfl, rfl, rfl⟩) (gj (da := (Kd.via Kd.i64 TextResult.code)) (db := (Kd.via Kd.str TextResult.text)) (x := (⟨0, (pairB p)⟩ : TextResult)) (cs := [.int .i64 0, .string (pairB p)]) rfl (gr (pairTxt p) (by unfold pairTxt; rw [if_pos h3] <;> rfl) (retc 1 rfl rfl rfl rfl rfl rfl (fun w_ hs_ => made hs_ rfl (see_app see_nil see_nil)))))))))))))))))
  · exact ct rfl (bne_iff_ne.2 h3) (sq (rg (m_ rfl rfl (vl (bd bld36 rfl rfl rfl) rfl (sto rfl rfl rfl rfl rfl rfl rfl (cs' := [.int .i64 (pairFault p ((p.rect.low.length : Nat) : Int)), .string ByteArray.empty]) rfl (en (nx (rt (xr (gs Kd.str [.string ByteArray.empty] ((⟨(pairFault p ((p.rect.low.length : Nat) : Int)), ByteArray.empty⟩ : TextResult).text) (fun _ => ⟨rfl, rfl, rfl⟩) (gs Kd.i64 [.int .i64 (pairFault p ((p.rect.low.length : Nat) : Int))] ((⟨(pairFault p ((p.rect.low.length : Nat) : Int)), ByteArray.empty⟩ : TextResult).code) (fun _ => ⟨rfl, rfl, rfl⟩) (gj (da := (Kd.via Kd.i64 TextResult.code)) (db := (Kd.via Kd.str TextResult.text)) (x := (⟨(pairFault p ((p.rect.low.length : Nat) : Int)), ByteArray.empty⟩ : TextResult)) (cs := [.int .i64 (pairFault p ((p.rect.low.length : Nat) : Int)), .string ByteArray.empty]) rfl (gr (pairTxt p) (by unfold pairTxt; rw [if_neg h3] <;> rfl) (retc 1 rfl rfl rfl rfl rfl rfl (fun w_ hs_ => made hs_ rfl (see_app see_nil see_nil))))))))))))))))
/-! impl.PairText -/
set_option maxRecDepth 20000 in
set_option maxHeartbeats 2000000 in
theorem impl_PairText (w : World) {Ap1 : Option Addr} {cp1 : Nat} {Ap2 : Option Addr} {cp2 : Nat} {p : Pair} {sp_ : List Nat} (hp : kPairS.Rel w [.int .i64 p.id, .slice Ap1 p.rect.low.length cp1, .slice Ap2 p.rect.high.length cp2] p [] sp_) (ht : TabP w) : Calls Tryd.prog 15 #[.agg #[.int .i64 p.id, .slice Ap1 p.rect.low.length cp1, .slice Ap2 p.rect.high.length cp2]] w (Made kTextResultO w (pairTxt p) []) := by
  refine fnc (X := X 29 w) (args := [.agg #[.int .i64 p.id, .slice Ap1 p.rect.low.length cp1, .slice Ap2 p.rect.high.length cp2]]) (l := [(0, .agg #[.int .i64 p.id, .slice Ap1 p.rect.low.length cp1, .slice Ap2 p.rect.high.length cp2])]) (G := [dat kPairS [.int .i64 p.id, .slice Ap1 p.rect.low.length cp1, .slice Ap2 p.rect.high.length cp2] p ([]) sp_]) Tryd.func15 rfl rfl rfl ⟨rfl, trivial⟩ (s0d hp (s0n w)).1 ?_
  refine sq (rg (bx rfl rfl rfl rfl ?_))
  intro b1
  refine al zero36 rfl rfl rfl ?_
  intro b2
  refine en (nx (sq (sq ?_)))
  refine gd 2 kPairS_p1_2 rfl (cs' := [.slice Ap1 p.rect.low.length cp1, .slice Ap2 p.rect.high.length cp2]) rfl fun s3 w_ rs3 us3 => ?_
  refine r0 (qv 0 rfl (ldb 2 rfl rfl rfl rfl rfl rfl rfl) rfl (by kernel_rfl) (qv 1 rfl (fa rfl rfl rfl) rfl (by kernel_rfl) (qv 2 rfl (ldb 2 rfl rfl rfl rfl rfl rfl rfl) rfl (by kernel_rfl) (q1 3 [0, 0, 0, 0] rfl (by kernel_rfl) rfl (cs_ (v := .int .i64 ((p.rect.low.length : Nat) : Int)) (by kernel_rfl) rfl rfl rfl (fun w_ hs_ => by exact impl_ownDims w_ (hs_.at 0 rfl)) (qn (q1 4 [0, 0, 0, 0] rfl (by kernel_rfl) rfl (cs_ (v := .int .i64 (pairFault p ((p.rect.low.length : Nat) : Int))) (by kernel_rfl) rfl rfl rfl (fun w_ hs_ => by exact impl_pairFault w_ _ (hs_.at 3 rfl)) (qn (qv 5 rfl (as_ rfl rfl) rfl (by kernel_rfl) (qe [0, 0, 0, 0] (by kernel_rfl) rfl (nx (sq (rg (m_ rfl rfl (vl (cm rfl rfl rfl rfl) rfl (en (nx ?_))))))))))))))))))
  by_cases h4 : (pairFault p ((p.rect.low.length : Nat) : Int)) = (0 : Int)
  · have hps := pair_sm h4; have hi := hps.1; have hi2 := hps.2.1
    refine cf rfl (bne_eq_false_iff_eq.2 h4) (sk (nx (sq ?_)))
    refine gd 0 kRectS_p0_1 rfl (cs' := [.slice Ap1 p.rect.low.length cp1]) rfl fun s5 w_ rs5 us5 => ?_
    have Ls5 := Kd.sl_len rs5; have Cs5 := Kd.sl_cap rs5
    refine gd 1 kRectS_p1_1 rfl (cs' := [.slice Ap2 p.rect.high.length cp2]) rfl fun s6 w_ rs6 us6 => ?_
    have Ls6 := Kd.sl_len rs6; have Cs6 := Kd.sl_cap rs6
    exact rd (Gq := [dat (Kd.sl Kd.i64) [.slice Ap2 p.rect.high.length cp2] p.rect.high ([]) s6, dat (Kd.sl Kd.i64) [.slice Ap1 p.rect.low.length cp1] p.rect.low ([]) s5, dat kRectS [.slice Ap1 p.rect.low.length cp1, .slice Ap2 p.rect.high.length cp2] p.rect ([]) s3, blk b1 [.int .i64 p.id, .slice Ap1 p.rect.low.length cp1, .slice Ap2 p.rect.high.length cp2] 40, dat kPairS [.int .i64 p.id, .slice Ap1 p.rect.low.length cp1, .slice Ap2 p.rect.high.length cp2] p ([]) sp_]) [0, 0, 0, 1, 1] rfl (qv 0 rfl (fa rfl rfl rfl) rfl (by kernel_rfl) (qv 1 rfl (ldb (u := .int .i64 p.id) 3 rfl rfl rfl rfl rfl rfl rfl) rfl (by kernel_rfl) (qv 4 rfl (fa rfl rfl rfl) rfl (by kernel_rfl) (qv 5 rfl (fa rfl rfl rfl) rfl (by kernel_rfl) (qv 6 rfl (ldb (u := .slice Ap1 p.rect.low.length cp1) 3 rfl rfl rfl rfl rfl rfl rfl) rfl (by kernel_rfl) (qv 10 rfl (fa rfl rfl rfl) rfl (by kernel_rfl) (qv 11 rfl (fa rfl rfl rfl) rfl (by kernel_rfl) (qv 12 rfl (ldb (u := .slice Ap2 p.rect.high.length cp2) 3 rfl rfl rfl rfl rfl rfl rfl) rfl (by kernel_rfl) (q1 2 [0, 0, 0, 1, 1] rfl (by kernel_rfl) rfl (cs_ (v := .string (itoaB p.id)) (by kernel_rfl) rfl rfl rfl (fun w_ hs_ => by exact impl_decimal w_ _ (by omega) (by omega) (ht.mono hs_.below)) (qn (qv 3 rfl (sad rfl rfl rfl (sum_le2 (n := 1001) (m := 1) (id_bd hps.1 hps.2.1) (lit_le (a := (⟨#[58]⟩ : ByteArray)) (n := 1) rfl) rfl)) rfl (by kernel_rfl) (q1 7 [0, 0, 0, 1, 1] rfl (by kernel_rfl) rfl (cs_ (v := .string (ptB p.rect.low)) (by kernel_rfl) rfl rfl rfl (fun w_ hs_ => by exact impl_pointText w_ (hs_.at 1 rfl) hps.2.2.1 (ht.mono hs_.below)) (qn (qv 8 rfl (sad rfl rfl rfl (sum_le2 (n := 1002) (m := 3009) (app_le (n := 1001) (m := 1) (id_bd hps.1 hps.2.1) (lit_le (a := (⟨#[58]⟩ : ByteArray)) (n := 1) rfl)) (pt_bd hps.2.2.1) rfl)) rfl (by kernel_rfl) (qv 9 rfl (sad rfl rfl rfl (sum_le2 (n := 4011) (m := 1) (app_le (n := 1002) (m := 3009) (app_le (n := 1001) (m := 1) (id_bd hps.1 hps.2.1) (lit_le (a := (⟨#[58]⟩ : ByteArray)) (n := 1) rfl)) (pt_bd hps.2.2.1)) (lit_le (a := (⟨#[47]⟩ : ByteArray)) (n := 1) rfl) rfl)) rfl (by kernel_rfl) (q1 13 [0, 0, 0, 1, 1] rfl (by kernel_rfl) rfl (cs_ (v := .string (ptB p.rect.high)) (by kernel_rfl) rfl rfl rfl (fun w_ hs_ => by exact impl_pointText w_ (hs_.at 0 rfl) hps.2.2.2 (ht.mono hs_.below)) (qn (qv 14 rfl (sad rfl rfl rfl (sum_le2 (n := 4012) (m := 3009) (app_le (n := 4011) (m := 1) (app_le (n := 1002) (m := 3009) (app_le (n := 1001) (m := 1) (id_bd hps.1 hps.2.1) (lit_le (a := (⟨#[58]⟩ : ByteArray)) (n := 1) rfl)) (pt_bd hps.2.2.1)) (lit_le (a := (⟨#[47]⟩ : ByteArray)) (n := 1) rfl)) (pt_bd hps.2.2.2) rfl)) rfl (by kernel_rfl) (qv 15 rfl (bd bld36 rfl rfl rfl) rfl (by kernel_rfl) (q1 16 [0, 0, 0, 1, 1] rfl (by kernel_rfl) rfl (f3 (sto rfl rfl rfl rfl rfl rfl rfl (cs' := [.int .i64 0, .string (((((itoaB p.id) ++ (⟨#[58]⟩ : ByteArray)) ++ (ptB p.rect.low)) ++ (⟨#[47]⟩ : ByteArray)) ++ (ptB p.rect.high))]) rfl (qn (qe [1, 1, 1, 1, 1] (by kernel_rfl) rfl (nx (rt (gs Kd.str [.string (((((itoaB p.id) ++ (⟨#[58]⟩ : ByteArray)) ++ (ptB p.rect.low)) ++ (⟨#[47]⟩ : ByteArray)) ++ (ptB p.rect.high))] ((⟨0, (((((itoaB p.id) ++ (⟨#[58]⟩ : ByteArray)) ++ (ptB p.rect.low)) ++ (⟨#[47]⟩ : ByteArray)) ++ (ptB p.rect.high))⟩ : TextResult).text) (fun _ => ⟨rfl, rfl, rfl⟩) (gs Kd.i64 [.int .i64 0] ((⟨0, (((((itoaB p.id) ++ (⟨#[58]⟩ : ByteArray)) ++ (ptB p.rect.low)) ++ (⟨#[47]⟩ : ByteArray)) ++ (ptB p.rect.high))⟩ : TextResult).code) (fun _ => ⟨rfl, rfl, rfl⟩) (gj (da := (Kd.via Kd.i64 TextResult.code)) (db := (Kd.via Kd.str TextResult.text)) (x := (⟨0, (((((itoaB p.id) ++ (⟨#[58]⟩ : ByteArray)) ++ (ptB p.rect.low)) ++ (⟨#[47]⟩ : ByteArray)) ++ (ptB p.rect.high))⟩ : TextResult)) (cs := [.int .i64 0, .string (((((itoaB p.id) ++ (⟨#[58]⟩ : ByteArray)) ++ (ptB p.rect.low)) ++ (⟨#[47]⟩ : ByteArray)) ++ (ptB p.rect.high))]) rfl (gr (pairTxt p) (by unfold pairTxt; rw [if_pos h4] <;> rfl) (retc 1 rfl rfl rfl rfl rfl rfl (fun w_ hs_ => made hs_ rfl (see_app see_nil see_nil))))))))))))))))))))))))))))))))))))
  · exact ct rfl (bne_iff_ne.2 h4) (sq (rg (m_ rfl rfl (vl (bd bld36 rfl rfl rfl) rfl (f1 (sto rfl rfl rfl rfl rfl rfl rfl (cs' := [.int .i64 (pairFault p ((p.rect.low.length : Nat) : Int)), .string ByteArray.empty]) rfl (en (nx (rt (xr (gs Kd.str [.string ByteArray.empty] ((⟨(pairFault p ((p.rect.low.length : Nat) : Int)), ByteArray.empty⟩ : TextResult).text) (fun _ => ⟨rfl, rfl, rfl⟩) (gs Kd.i64 [.int .i64 (pairFault p ((p.rect.low.length : Nat) : Int))] ((⟨(pairFault p ((p.rect.low.length : Nat) : Int)), ByteArray.empty⟩ : TextResult).code) (fun _ => ⟨rfl, rfl, rfl⟩) (gj (da := (Kd.via Kd.i64 TextResult.code)) (db := (Kd.via Kd.str TextResult.text)) (x := (⟨(pairFault p ((p.rect.low.length : Nat) : Int)), ByteArray.empty⟩ : TextResult)) (cs := [.int .i64 (pairFault p ((p.rect.low.length : Nat) : Int)), .string ByteArray.empty]) rfl (gr (pairTxt p) (by unfold pairTxt; rw [if_neg h4] <;> rfl) (retc 1 rfl rfl rfl rfl rfl rfl (fun w_ hs_ => made hs_ rfl (see_app see_nil see_nil)))))))))))))))))
def ansL : List Pair → ByteArray
  | l => l.foldl (fun t p => t ++ (⟨#[32]⟩ : ByteArray) ++ pairB p) (⟨#[121, 101, 115]⟩ : ByteArray)
theorem ansL_step {l : List Pair} {k : Nat} {p : Pair} {v : ByteArray} (hv : v = ansL (l.take k)) (hp : l[k]? = some p) : v ++ (⟨#[32]⟩ : ByteArray) ++ pairB p = ansL (l.take (k + 1)) := by
  subst hv; unfold ansL; rw [List.take_add_one, hp]; simp
theorem ansL_size : ∀ {l : List Pair} {k : Nat}, (∀ j p, j < k → l[j]? = some p → PairSm p) → (ansL (l.take k)).size ≤ 3 + k * 8001
  | l, 0, _ => by rw [List.take_zero]; exact Nat.le_of_ble_eq_true rfl
  | l, k + 1, h => by
    have ih := ansL_size (l := l) (k := k) (fun j p hj hp => h j p (by omega) hp)
    cases hx : l[k]? with
    | none => rw [List.take_add_one, hx]; rw [Option.toList_none, List.append_nil]; exact Nat.le_trans ih (Nat.add_le_add_left (Nat.mul_le_mul_right _ (Nat.le_succ k)) 3)
    | some p =>
      rw [← ansL_step rfl hx, app_size, app_size]
      have := pairB_size (h k p (by omega) hx)
      have e : (⟨#[32]⟩ : ByteArray).size = 1 := rfl
      omega
def ansTxt (a : Answer) : TextResult :=
  if within a.code 0 9 = true then
    if (a.pairs.length : Int) ≤ 1000 then
      if firstFault (fun p => pairFault p ((p.rect.low.length : Nat) : Int)) a.pairs = 0 then ⟨0, if a.code = 0 then ansL a.pairs else (⟨#[110, 111, 32]⟩ : ByteArray) ++ itoaB a.code⟩
      else ⟨firstFault (fun p => pairFault p ((p.rect.low.length : Nat) : Int)) a.pairs, ByteArray.empty⟩
    else ⟨2, ByteArray.empty⟩
  else ⟨3, ByteArray.empty⟩
theorem pairTxt_0 {p : Pair} (h : (pairTxt p).code = (0 : Int)) : pairFault p ((p.rect.low.length : Nat) : Int) = 0 ∧ PairSm p ∧ (pairTxt p).text = pairB p := by
  unfold pairTxt at h ⊢
  split at h
  · rename_i h0; rw [if_pos h0]; exact ⟨h0, pair_sm h0, rfl⟩
  · rename_i h0; exact absurd h h0
theorem pairTxt_n {p : Pair} (h : ¬ (pairTxt p).code = (0 : Int)) : pairFault p ((p.rect.low.length : Nat) : Int) ≠ 0 ∧ pairTxt p = ⟨pairFault p ((p.rect.low.length : Nat) : Int), ByteArray.empty⟩ := by
  unfold pairTxt at h ⊢
  split at h
  · exact absurd rfl h
  · rename_i h0; rw [if_neg h0]; exact ⟨h0, rfl⟩
theorem code_bd {n : Int} (h : within n 0 9 = true) : 0 ≤ n ∧ n ≤ 9 := of_decide_eq_true h
/-! spec.AnswerText -/
set_option maxRecDepth 20000 in
set_option maxHeartbeats 2000000 in
theorem spec_AnswerText (w : World) {Aa1 : Option Addr} {ca1 : Nat} {a : Answer} {sa_ : List Nat} (ha : kAnswerS.Rel w [.int .i64 a.code, .slice Aa1 a.pairs.length ca1] a [] sa_)  : Calls Tryd.prog 22 #[.agg #[.int .i64 a.code, .slice Aa1 a.pairs.length ca1]] w (Made kTextResultO w (ansTxt a) []) := by
  refine fnc (X := X 47 w) (args := [.agg #[.int .i64 a.code, .slice Aa1 a.pairs.length ca1]]) (l := [(0, .agg #[.int .i64 a.code, .slice Aa1 a.pairs.length ca1])]) (G := [dat kAnswerS [.int .i64 a.code, .slice Aa1 a.pairs.length ca1] a ([]) sa_]) Tryd.func22 rfl rfl rfl ⟨rfl, trivial⟩ (s0d ha (s0n w)).1 ?_
  refine sq (rg (bx rfl rfl rfl rfl ?_))
  intro b1
  refine al zero36 rfl rfl rfl ?_
  intro b2
  refine en (nx (sq (sq (rg (vl (fa rfl rfl rfl) rfl (vl (ldb (u := .int .i64 a.code) 1 rfl rfl rfl rfl rfl rfl rfl) rfl (cs_ (v := .bool (within a.code 0 9)) (by kernel_rfl) rfl rfl rfl (fun w_ hs_ => spec_l1In w_ _ _ _) (vl (nt rfl rfl) rfl (en (nx ?_))))))))))
  by_cases h3 : within a.code 0 9 = true
  · have cb := code_bd h3
    refine cf rfl (not_f h3) (sk (nx (sq (sq (rg (vl (fa rfl rfl rfl) rfl (vl (ldb (u := .slice Aa1 a.pairs.length ca1) 1 rfl rfl rfl rfl rfl rfl rfl) rfl (vl (ln rfl rfl rfl) rfl (vl (cm rfl rfl rfl rfl) rfl (en (nx ?_)))))))))))
    by_cases h4 : (1000 : Int) < ((a.pairs.length : Nat) : Int)
    · exact ct rfl (decide_eq_true h4) (sq (rg (vl (bd bld36 rfl rfl rfl) rfl (sto rfl rfl rfl rfl rfl rfl rfl (cs' := [.int .i64 2, .string ByteArray.empty]) rfl (en (nx (rt (xr (gs Kd.str [.string ByteArray.empty] ((⟨2, ByteArray.empty⟩ : TextResult).text) (fun _ => ⟨rfl, rfl, rfl⟩) (gs Kd.i64 [.int .i64 2] ((⟨2, ByteArray.empty⟩ : TextResult).code) (fun _ => ⟨rfl, rfl, rfl⟩) (gj (da := (Kd.via Kd.i64 TextResult.code)) (db := (Kd.via Kd.str TextResult.text)) (x := (⟨2, ByteArray.empty⟩ : TextResult)) (cs := [.int .i64 2, .string ByteArray.empty]) rfl (gr (ansTxt a) (by unfold ansTxt; rw [if_pos h3, if_neg (by omega)]) (retc 1 rfl rfl rfl rfl rfl rfl (fun w_ hs_ => made hs_ rfl (see_app see_nil see_nil)))))))))))))))
    · refine cf rfl (decide_eq_false h4) (sk (nx (sq (rg (a_ rfl rfl (en (nx (sq (sq (rg (a_ rfl rfl (en (nx (bk ?_))))))))))))))
      refine lp (σ := Nat × ByteArray) (fun z_ : Nat × ByteArray => match z_ with | (k, v) => [(1, .pointer (some ⟨b1, 0, none⟩)), (2, .pointer (some ⟨b2, 0, none⟩)), (3, .string v), (4, .int .i64 ((k : Nat) : Int))])
          (fun z_ : Nat × ByteArray => match z_ with | (k, v) => [blk b2 [.int .i64 0, .string ByteArray.empty] 36, blk b1 [.int .i64 a.code, .slice Aa1 a.pairs.length ca1] 56, dat kAnswerS [.int .i64 a.code, .slice Aa1 a.pairs.length ca1] a ([]) sa_])
          (fun z_ : Nat × ByteArray => match z_ with | (k, v) => (k ≤ a.pairs.length ∧ v = ansL (a.pairs.take k) ∧ ∀ j x, j < k → a.pairs[j]? = some x → pairFault x ((x.rect.low.length : Nat) : Int) = 0)) (fun z_ : Nat × ByteArray => match z_ with | (k, v) => a.pairs.length - k) (0, (⟨#[121, 101, 115]⟩ : ByteArray)) [0, 0, 0] ⟨Nat.zero_le _, rfl, by simp⟩ ⟨rfl, rfl, rfl, rfl, trivial⟩ rfl ?_
      rintro ⟨k, v⟩ hp_
      have hinv1 : (k ≤ a.pairs.length ∧ v = ansL (a.pairs.take k) ∧ ∀ j x, j < k → a.pairs[j]? = some x → pairFault x ((x.rect.low.length : Nat) : Int) = 0) := hp_; have vb : v.size ≤ 3 + 1000 * 8001 := (by rw [hinv1.2.1]; have := ansL_size (l := a.pairs) (k := k) (fun j p hj hp => pair_sm (hinv1.2.2 j p hj hp)); omega)
      refine sq (sq (rg (m_ rfl rfl (vl (fa rfl rfl rfl) rfl (vl (ldb (u := .slice Aa1 a.pairs.length ca1) 1 rfl rfl rfl rfl rfl rfl rfl) rfl (vl (ln rfl rfl rfl) rfl (vl (cm rfl rfl rfl rfl) rfl (en (nx ?_)))))))))
      by_cases h5 : ((k : Nat) : Int) < ((a.pairs.length : Nat) : Int)
      · refine ct rfl (decide_eq_true h5) (sk (nx (sq (bk (sq (rg (vl (fa rfl rfl rfl) rfl (vl (ldb (u := .slice Aa1 a.pairs.length ca1) 1 rfl rfl rfl rfl rfl rfl rfl) rfl (m_ rfl rfl ?_)))))))))
        refine gd 2 kAnswerS_p1_1 rfl (cs' := [.slice Aa1 a.pairs.length ca1]) rfl fun s6 w_ rs6 us6 => ?_
        have Ls6 := Kd.sl_len rs6; have Cs6 := Kd.sl_cap rs6
        refine gx 0 k rfl (by omega) fun y12 p7 cs_ s8 w11 m13 e9 r10 us8 => ?_
        obtain ⟨A14, c15, A16, c17, rfl⟩ := kPairS_sh r10
        refine vl (ix k e9 rfl rfl rfl rfl rfl (by omega)) rfl (vl (ldq 0 rfl rfl rfl rfl rfl rfl rfl) rfl ?_)
        refine gp 0 Kd.Sub.rfl rfl (cs' := [.int .i64 y12.id, .slice A14 y12.rect.low.length c15, .slice A16 y12.rect.high.length c17]) rfl fun s18 w_ rs18 us18 => ?_
        refine cm_ (dk := kTextResultO) (x := (pairTxt y12)) (S := []) (by kernel_rfl) rfl rfl rfl sn0 (fun w_ hs_ => spec_PairText w_ (hs_.at 0 rfl)) (fun cs_ o19 s20 w_ r21 t22 => ?_)
        obtain ⟨rfl⟩ := kTextResultO_sh r21
        refine al zero36 rfl rfl rfl ?_
        intro b24
        refine sto rfl rfl rfl rfl rfl rfl rfl (cs' := [.int .i64 ((pairTxt y12).code), .string ((pairTxt y12).text)]) rfl (en (nx (sq (sq (rg (vl (fa rfl rfl rfl) rfl (vl (ldb (u := .int .i64 ((pairTxt y12).code)) 0 rfl rfl rfl rfl rfl rfl rfl) rfl (vl (cm rfl rfl rfl rfl) rfl (en (nx ?_))))))))))
        by_cases h25 : (pairTxt y12).code = (0 : Int)
        · have pb := pairB_size (pairTxt_0 h25).2.1; rw [← (pairTxt_0 h25).2.2] at pb
          refine cf rfl (bne_eq_false_iff_eq.2 h25) (sk (nx (rg (m_ rfl rfl (vl (sad rfl rfl rfl (sum_le2 (n := 8001003) (m := 1) vb (lit_le (a := (⟨#[32]⟩ : ByteArray)) (n := 1) rfl) rfl)) rfl (vl (fa rfl rfl rfl) rfl (vl (ldb (u := .string ((pairTxt y12).text)) 0 rfl rfl rfl rfl rfl rfl rfl) rfl (vl (sad rfl rfl rfl (sum_le2 (n := 8001004) (m := 8000) (app_le (n := 8001003) (m := 1) vb (lit_le (a := (⟨#[32]⟩ : ByteArray)) (n := 1) rfl)) pb rfl)) rfl (a_ rfl rfl (en (xn (nx (rg (m_ rfl rfl (vl (ra (c := ((k + 1 : Nat) : Int)) rfl rfl rfl (by omega) (by omega) (by omega)) rfl (a_ rfl rfl (en ?_)))))))))))))))))
          exact lpe (s := (k, v)) (k + 1, ((v ++ (⟨#[32]⟩ : ByteArray)) ++ ((pairTxt y12).text))) [5, 5, 5] ⟨by omega, by have z := (pairTxt_0 h25).2.2; rw [z]; exact ansL_step hinv1.2.1 m13, zero_step (f := (fun (p : Pair) => pairFault p ((p.rect.low.length : Nat) : Int))) hinv1.2.2 m13 (pairTxt_0 h25).1⟩ (by show a.pairs.length - (k + 1) < a.pairs.length - k; omega) ⟨rfl, rfl, rfl, rfl, trivial⟩ rfl
        · exact ct rfl (bne_iff_ne.2 h25) (sq (rg (vl (ldb 0 rfl rfl rfl rfl rfl rfl rfl) rfl (f5 (sto rfl rfl rfl rfl rfl rfl rfl (cs' := [.int .i64 ((pairTxt y12).code), .string ((pairTxt y12).text)]) rfl (en (nx (rt (xr (xrb (xr (xr (xrb (xr (f2 (gr (ansTxt a) (by have z := firstFault_at (f := (fun (p : Pair) => pairFault p ((p.rect.low.length : Nat) : Int))) hinv1.2.2 m13 (pairTxt_n h25).1; unfold ansTxt; rw [if_pos h3, if_pos (by omega), if_neg (by rw [z]; exact (pairTxt_n h25).1), z]; first | exact (pairTxt_n h25).2 | (rw [(pairTxt_n h25).2])) (retc 1 rfl rfl rfl rfl rfl rfl (fun w_ hs_ => made hs_ rfl t22))))))))))))))))))
      · refine cf rfl (decide_eq_false h5) (xt (xq (xq (xb (nx (sq (sq (rg (vl (fa rfl rfl rfl) rfl (vl (ldb (u := .int .i64 a.code) 1 rfl rfl rfl rfl rfl rfl rfl) rfl (vl (cm rfl rfl rfl rfl) rfl (en (nx ?_)))))))))))))
        by_cases h26 : a.code = (0 : Int)
        · exact cf rfl (bne_eq_false_iff_eq.2 h26) (sk (nx (sq (rg (m_ rfl rfl (vl (bd bld36 rfl rfl rfl) rfl (sto rfl rfl rfl rfl rfl rfl rfl (cs' := [.int .i64 0, .string v]) rfl (en (nx (rt (gs Kd.str [.string v] ((⟨0, v⟩ : TextResult).text) (fun _ => ⟨rfl, rfl, rfl⟩) (gs Kd.i64 [.int .i64 0] ((⟨0, v⟩ : TextResult).code) (fun _ => ⟨rfl, rfl, rfl⟩) (gj (da := (Kd.via Kd.i64 TextResult.code)) (db := (Kd.via Kd.str TextResult.text)) (x := (⟨0, v⟩ : TextResult)) (cs := [.int .i64 0, .string v]) rfl (gr (ansTxt a) (by have z := firstFault_0 (f := (fun (p : Pair) => pairFault p ((p.rect.low.length : Nat) : Int))) hinv1.2.2 (by omega); unfold ansTxt; rw [if_pos h3, if_pos (by omega), if_pos z, if_pos h26, hinv1.2.1, List.take_of_length_le (by omega)]) (retc 1 rfl rfl rfl rfl rfl rfl (fun w_ hs_ => made hs_ rfl (see_app see_nil see_nil)))))))))))))))))
        · exact ct rfl (bne_iff_ne.2 h26) (rg (vl (fa rfl rfl rfl) rfl (vl (ldb (u := .int .i64 a.code) 1 rfl rfl rfl rfl rfl rfl rfl) rfl (cs_ (v := .string (decB a.code)) (by kernel_rfl) rfl rfl rfl (fun w_ hs_ => (spec_l1Digits _) w_ _ (by omega) (by omega) (Nat.le_refl _)) (vl (sad rfl rfl rfl (sum_le2 (n := 3) (m := 1001) (lit_le (a := (⟨#[110, 111, 32]⟩ : ByteArray)) (n := 3) rfl) (id_bd' (by omega) (by omega)) rfl)) rfl (a_ rfl rfl (en (nx (sq (rg (m_ rfl rfl (vl (bd bld36 rfl rfl rfl) rfl (sto rfl rfl rfl rfl rfl rfl rfl (cs' := [.int .i64 0, .string ((⟨#[110, 111, 32]⟩ : ByteArray) ++ (decB a.code))]) rfl (en (nx (rt (gs Kd.str [.string ((⟨#[110, 111, 32]⟩ : ByteArray) ++ (decB a.code))] ((⟨0, ((⟨#[110, 111, 32]⟩ : ByteArray) ++ (decB a.code))⟩ : TextResult).text) (fun _ => ⟨rfl, rfl, rfl⟩) (gs Kd.i64 [.int .i64 0] ((⟨0, ((⟨#[110, 111, 32]⟩ : ByteArray) ++ (decB a.code))⟩ : TextResult).code) (fun _ => ⟨rfl, rfl, rfl⟩) (gj (da := (Kd.via Kd.i64 TextResult.code)) (db := (Kd.via Kd.str TextResult.text)) (x := (⟨0, ((⟨#[110, 111, 32]⟩ : ByteArray) ++ (decB a.code))⟩ : TextResult)) (cs := [.int .i64 0, .string ((⟨#[110, 111, 32]⟩ : ByteArray) ++ (decB a.code))]) rfl (gr (ansTxt a) (by have z := firstFault_0 (f := (fun (p : Pair) => pairFault p ((p.rect.low.length : Nat) : Int))) hinv1.2.2 (by omega); unfold ansTxt; rw [if_pos h3, if_pos (by omega), if_pos z, if_neg h26, itoa_pos (n := a.code) (by omega)]) (retc 1 rfl rfl rfl rfl rfl rfl (fun w_ hs_ => made hs_ rfl (see_app see_nil see_nil)))))))))))))))))))))))
  · exact ct rfl (not_t (Bool.eq_false_iff.2 h3)) (sq (rg (vl (bd bld36 rfl rfl rfl) rfl (sto rfl rfl rfl rfl rfl rfl rfl (cs' := [.int .i64 3, .string ByteArray.empty]) rfl (en (nx (rt (xr (gs Kd.str [.string ByteArray.empty] ((⟨3, ByteArray.empty⟩ : TextResult).text) (fun _ => ⟨rfl, rfl, rfl⟩) (gs Kd.i64 [.int .i64 3] ((⟨3, ByteArray.empty⟩ : TextResult).code) (fun _ => ⟨rfl, rfl, rfl⟩) (gj (da := (Kd.via Kd.i64 TextResult.code)) (db := (Kd.via Kd.str TextResult.text)) (x := (⟨3, ByteArray.empty⟩ : TextResult)) (cs := [.int .i64 3, .string ByteArray.empty]) rfl (gr (ansTxt a) (by unfold ansTxt; rw [if_neg h3]) (retc 1 rfl rfl rfl rfl rfl rfl (fun w_ hs_ => made hs_ rfl (see_app see_nil see_nil)))))))))))))))
/-! impl.AnswerText -/
set_option maxRecDepth 20000 in
set_option maxHeartbeats 2000000 in
theorem impl_AnswerText (w : World) {Aa1 : Option Addr} {ca1 : Nat} {a : Answer} {sa_ : List Nat} (ha : kAnswerS.Rel w [.int .i64 a.code, .slice Aa1 a.pairs.length ca1] a [] sa_) (ht : TabP w) : Calls Tryd.prog 24 #[.agg #[.int .i64 a.code, .slice Aa1 a.pairs.length ca1]] w (Made kTextResultO w (ansTxt a) []) := by
  refine fnc (X := X 47 w) (args := [.agg #[.int .i64 a.code, .slice Aa1 a.pairs.length ca1]]) (l := [(0, .agg #[.int .i64 a.code, .slice Aa1 a.pairs.length ca1])]) (G := [dat kAnswerS [.int .i64 a.code, .slice Aa1 a.pairs.length ca1] a ([]) sa_]) Tryd.func24 rfl rfl rfl ⟨rfl, trivial⟩ (s0d ha (s0n w)).1 ?_
  refine sq (rg (bx rfl rfl rfl rfl ?_))
  intro b1
  refine al zero36 rfl rfl rfl ?_
  intro b2
  refine en (nx (sq (bk (sq (rg (vl (fa rfl rfl rfl) rfl (vl (ldb (u := .int .i64 a.code) 1 rfl rfl rfl rfl rfl rfl rfl) rfl (cs_ (v := .bool (within a.code 0 9)) (by kernel_rfl) rfl rfl rfl (fun w_ hs_ => impl_within w_ _ _ _) (vl (nt rfl rfl) rfl (a_ rfl rfl (en (nx ?_))))))))))))
  by_cases h3 : within a.code 0 9 = true
  · have cb := code_bd h3
    refine cf rfl (not_f h3) (sq (rg (vl (fa rfl rfl rfl) rfl (vl (ldb (u := .slice Aa1 a.pairs.length ca1) 1 rfl rfl rfl rfl rfl rfl rfl) rfl (vl (ln rfl rfl rfl) rfl (vl (cm rfl rfl rfl rfl) rfl (a_ rfl rfl (en (nx ?_)))))))))
    by_cases h4 : (1000 : Int) < ((a.pairs.length : Nat) : Int)
    · exact ct rfl (decide_eq_true h4) (sq (rg (vl (bd bld36 rfl rfl rfl) rfl (sto rfl rfl rfl rfl rfl rfl rfl (cs' := [.int .i64 2, .string ByteArray.empty]) rfl (en (nx (rt (xrb (xr (gs Kd.str [.string ByteArray.empty] ((⟨2, ByteArray.empty⟩ : TextResult).text) (fun _ => ⟨rfl, rfl, rfl⟩) (gs Kd.i64 [.int .i64 2] ((⟨2, ByteArray.empty⟩ : TextResult).code) (fun _ => ⟨rfl, rfl, rfl⟩) (gj (da := (Kd.via Kd.i64 TextResult.code)) (db := (Kd.via Kd.str TextResult.text)) (x := (⟨2, ByteArray.empty⟩ : TextResult)) (cs := [.int .i64 2, .string ByteArray.empty]) rfl (gr (ansTxt a) (by unfold ansTxt; rw [if_pos h3, if_neg (by omega)]) (retc 1 rfl rfl rfl rfl rfl rfl (fun w_ hs_ => made hs_ rfl (see_app see_nil see_nil))))))))))))))))
    · refine cf rfl (decide_eq_false h4) (sk (xn (nx (sq (rg (a_ rfl rfl (en (nx (sq (sq (rg (vl (fa rfl rfl rfl) rfl (vl (ldb (u := .slice Aa1 a.pairs.length ca1) 1 rfl rfl rfl rfl rfl rfl rfl) rfl (vl (ln rfl rfl rfl) rfl (m_ rfl rfl (en (nx (bk ?_))))))))))))))))))
      refine lp (σ := Nat × ByteArray) (fun z_ : Nat × ByteArray => match z_ with | (k, v) => [(1, .pointer (some ⟨b1, 0, none⟩)), (2, .pointer (some ⟨b2, 0, none⟩)), (3, .string v), (20, .slice Aa1 a.pairs.length ca1), (21, .int .i64 ((a.pairs.length : Nat) : Int)), (22, .int .i64 ((k : Nat) : Int))])
          (fun z_ : Nat × ByteArray => match z_ with | (k, v) => [blk b2 [.int .i64 0, .string ByteArray.empty] 36, blk b1 [.int .i64 a.code, .slice Aa1 a.pairs.length ca1] 56, dat kAnswerS [.int .i64 a.code, .slice Aa1 a.pairs.length ca1] a ([]) sa_])
          (fun z_ : Nat × ByteArray => match z_ with | (k, v) => (k ≤ a.pairs.length ∧ v = ansL (a.pairs.take k) ∧ ∀ j x, j < k → a.pairs[j]? = some x → pairFault x ((x.rect.low.length : Nat) : Int) = 0)) (fun z_ : Nat × ByteArray => match z_ with | (k, v) => a.pairs.length - k) (0, (⟨#[121, 101, 115]⟩ : ByteArray)) [0, 0, 0] ⟨Nat.zero_le _, rfl, by simp⟩ ⟨rfl, rfl, rfl, rfl, rfl, rfl, trivial⟩ rfl ?_
      rintro ⟨k, v⟩ hp_
      have hinv1 : (k ≤ a.pairs.length ∧ v = ansL (a.pairs.take k) ∧ ∀ j x, j < k → a.pairs[j]? = some x → pairFault x ((x.rect.low.length : Nat) : Int) = 0) := hp_; have vb : v.size ≤ 3 + 1000 * 8001 := (by rw [hinv1.2.1]; have := ansL_size (l := a.pairs) (k := k) (fun j p hj hp => pair_sm (hinv1.2.2 j p hj hp)); omega)
      refine sq (rg (vl (cm rfl rfl rfl rfl) rfl (en (nx (sq ?_)))))
      by_cases h5 : ((k : Nat) : Int) < ((a.pairs.length : Nat) : Int)
      · refine ct rfl (decide_eq_true h5) (sk (nx (sq (bk (sq (rg ?_))))))
        refine gd 2 kAnswerS_p1_1 rfl (cs' := [.slice Aa1 a.pairs.length ca1]) rfl fun s6 w_ rs6 us6 => ?_
        have Ls6 := Kd.sl_len rs6; have Cs6 := Kd.sl_cap rs6
        refine gx 0 k rfl (by omega) fun y12 p7 cs_ s8 w11 m13 e9 r10 us8 => ?_
        obtain ⟨A14, c15, A16, c17, rfl⟩ := kPairS_sh r10
        refine vl (ix k e9 rfl rfl rfl rfl rfl (by omega)) rfl (vl (ldq 0 rfl rfl rfl rfl rfl rfl rfl) rfl (al zero40 rfl rfl rfl ?_))
        intro b18
        refine sto rfl rfl rfl rfl rfl rfl rfl (cs' := [.int .i64 y12.id, .slice A14 y12.rect.low.length c15, .slice A16 y12.rect.high.length c17]) rfl (en (nx (sq (rg (vl (ldb 0 rfl rfl rfl rfl rfl rfl rfl) rfl ?_)))))
        refine gp 1 Kd.Sub.rfl rfl (cs' := [.int .i64 y12.id, .slice A14 y12.rect.low.length c15, .slice A16 y12.rect.high.length c17]) rfl fun s19 w_ rs19 us19 => ?_
        refine cm_ (dk := kTextResultO) (x := (pairTxt y12)) (S := []) (by kernel_rfl) rfl rfl rfl sn0 (fun w_ hs_ => impl_PairText w_ (hs_.at 0 rfl) (ht.mono hs_.below)) (fun cs_ o20 s21 w_ r22 t23 => ?_)
        obtain ⟨rfl⟩ := kTextResultO_sh r22
        refine al zero36 rfl rfl rfl ?_
        intro b25
        refine sto rfl rfl rfl rfl rfl rfl rfl (cs' := [.int .i64 ((pairTxt y12).code), .string ((pairTxt y12).text)]) rfl (en (nx (sq (sq (rg (vl (fa rfl rfl rfl) rfl (vl (ldb (u := .int .i64 ((pairTxt y12).code)) 0 rfl rfl rfl rfl rfl rfl rfl) rfl (vl (cm rfl rfl rfl rfl) rfl (en (nx ?_))))))))))
        by_cases h26 : (pairTxt y12).code = (0 : Int)
        · have pb := pairB_size (pairTxt_0 h26).2.1; rw [← (pairTxt_0 h26).2.2] at pb
          refine cf rfl (bne_eq_false_iff_eq.2 h26) (sk (nx (rg (m_ rfl rfl (vl (fa rfl rfl rfl) rfl (vl (ldb (u := .string ((pairTxt y12).text)) 0 rfl rfl rfl rfl rfl rfl rfl) rfl (vl (sad rfl rfl rfl (sum_le2 (n := 1) (m := 8000) (lit_le (a := (⟨#[32]⟩ : ByteArray)) (n := 1) rfl) pb rfl)) rfl (vl (sad rfl rfl rfl (sum_le2 (n := 8001003) (m := 8001) vb (app_le (n := 1) (m := 8000) (lit_le (a := (⟨#[32]⟩ : ByteArray)) (n := 1) rfl) pb) rfl)) rfl (a_ rfl rfl (en (xn (nx (rg (vl (ra (c := ((k + 1 : Nat) : Int)) rfl rfl rfl (by omega) (by omega) (by omega)) rfl (m_ rfl rfl (en ?_))))))))))))))))
          exact lpe (s := (k, v)) (k + 1, (v ++ ((⟨#[32]⟩ : ByteArray) ++ ((pairTxt y12).text)))) [6, 6, 6] ⟨by omega, by have z := (pairTxt_0 h26).2.2; rw [z]; exact (by rw [app_assoc]; exact ansL_step hinv1.2.1 m13), zero_step (f := (fun (p : Pair) => pairFault p ((p.rect.low.length : Nat) : Int))) hinv1.2.2 m13 (pairTxt_0 h26).1⟩ (by show a.pairs.length - (k + 1) < a.pairs.length - k; omega) ⟨rfl, rfl, rfl, rfl, rfl, rfl, trivial⟩ rfl
        · exact ct rfl (bne_iff_ne.2 h26) (sq (rg (vl (ldb 0 rfl rfl rfl rfl rfl rfl rfl) rfl (f6 (sto rfl rfl rfl rfl rfl rfl rfl (cs' := [.int .i64 ((pairTxt y12).code), .string ((pairTxt y12).text)]) rfl (en (nx (rt (xr (xrb (xr (xr (xrb (xr (f2 (gr (ansTxt a) (by have z := firstFault_at (f := (fun (p : Pair) => pairFault p ((p.rect.low.length : Nat) : Int))) hinv1.2.2 m13 (pairTxt_n h26).1; unfold ansTxt; rw [if_pos h3, if_pos (by omega), if_neg (by rw [z]; exact (pairTxt_n h26).1), z]; first | exact (pairTxt_n h26).2 | (rw [(pairTxt_n h26).2])) (retc 1 rfl rfl rfl rfl rfl rfl (fun w_ hs_ => made hs_ rfl t23))))))))))))))))))
      · refine cf rfl (decide_eq_false h5) (xt (xq (xq (xb (nx (sq (sq (rg (vl (fa rfl rfl rfl) rfl (vl (ldb (u := .int .i64 a.code) 1 rfl rfl rfl rfl rfl rfl rfl) rfl (vl (cm rfl rfl rfl rfl) rfl (en (nx ?_)))))))))))))
        by_cases h27 : a.code = (0 : Int)
        · exact cf rfl (bne_eq_false_iff_eq.2 h27) (sk (nx (sq (rg (m_ rfl rfl (vl (bd bld36 rfl rfl rfl) rfl (sto rfl rfl rfl rfl rfl rfl rfl (cs' := [.int .i64 0, .string v]) rfl (en (nx (rt (gs Kd.str [.string v] ((⟨0, v⟩ : TextResult).text) (fun _ => ⟨rfl, rfl, rfl⟩) (gs Kd.i64 [.int .i64 0] ((⟨0, v⟩ : TextResult).code) (fun _ => ⟨rfl, rfl, rfl⟩) (gj (da := (Kd.via Kd.i64 TextResult.code)) (db := (Kd.via Kd.str TextResult.text)) (x := (⟨0, v⟩ : TextResult)) (cs := [.int .i64 0, .string v]) rfl (gr (ansTxt a) (by have z := firstFault_0 (f := (fun (p : Pair) => pairFault p ((p.rect.low.length : Nat) : Int))) hinv1.2.2 (by omega); unfold ansTxt; rw [if_pos h3, if_pos (by omega), if_pos z, if_pos h27, hinv1.2.1, List.take_of_length_le (by omega)]) (retc 1 rfl rfl rfl rfl rfl rfl (fun w_ hs_ => made hs_ rfl (see_app see_nil see_nil)))))))))))))))))
        · exact ct rfl (bne_iff_ne.2 h27) (rg (vl (fa rfl rfl rfl) rfl (vl (ldb (u := .int .i64 a.code) 1 rfl rfl rfl rfl rfl rfl rfl) rfl (cs_ (v := .string (itoaB a.code)) (by kernel_rfl) rfl rfl rfl (fun w_ hs_ => impl_decimal w_ _ (by omega) (by omega) (ht.mono hs_.below)) (vl (sad rfl rfl rfl (sum_le2 (n := 3) (m := 1001) (lit_le (a := (⟨#[110, 111, 32]⟩ : ByteArray)) (n := 3) rfl) (id_bd (by omega) (by omega)) rfl)) rfl (a_ rfl rfl (en (nx (sq (rg (m_ rfl rfl (vl (bd bld36 rfl rfl rfl) rfl (sto rfl rfl rfl rfl rfl rfl rfl (cs' := [.int .i64 0, .string ((⟨#[110, 111, 32]⟩ : ByteArray) ++ (itoaB a.code))]) rfl (en (nx (rt (gs Kd.str [.string ((⟨#[110, 111, 32]⟩ : ByteArray) ++ (itoaB a.code))] ((⟨0, ((⟨#[110, 111, 32]⟩ : ByteArray) ++ (itoaB a.code))⟩ : TextResult).text) (fun _ => ⟨rfl, rfl, rfl⟩) (gs Kd.i64 [.int .i64 0] ((⟨0, ((⟨#[110, 111, 32]⟩ : ByteArray) ++ (itoaB a.code))⟩ : TextResult).code) (fun _ => ⟨rfl, rfl, rfl⟩) (gj (da := (Kd.via Kd.i64 TextResult.code)) (db := (Kd.via Kd.str TextResult.text)) (x := (⟨0, ((⟨#[110, 111, 32]⟩ : ByteArray) ++ (itoaB a.code))⟩ : TextResult)) (cs := [.int .i64 0, .string ((⟨#[110, 111, 32]⟩ : ByteArray) ++ (itoaB a.code))]) rfl (gr (ansTxt a) (by have z := firstFault_0 (f := (fun (p : Pair) => pairFault p ((p.rect.low.length : Nat) : Int))) hinv1.2.2 (by omega); unfold ansTxt; rw [if_pos h3, if_pos (by omega), if_pos z, if_neg h27]) (retc 1 rfl rfl rfl rfl rfl rfl (fun w_ hs_ => made hs_ rfl (see_app see_nil see_nil)))))))))))))))))))))))
  · exact ct rfl (not_t (Bool.eq_false_iff.2 h3)) (sq (rg (vl (bd bld36 rfl rfl rfl) rfl (sto rfl rfl rfl rfl rfl rfl rfl (cs' := [.int .i64 3, .string ByteArray.empty]) rfl (en (nx (rt (xrb (xr (gs Kd.str [.string ByteArray.empty] ((⟨3, ByteArray.empty⟩ : TextResult).text) (fun _ => ⟨rfl, rfl, rfl⟩) (gs Kd.i64 [.int .i64 3] ((⟨3, ByteArray.empty⟩ : TextResult).code) (fun _ => ⟨rfl, rfl, rfl⟩) (gj (da := (Kd.via Kd.i64 TextResult.code)) (db := (Kd.via Kd.str TextResult.text)) (x := (⟨3, ByteArray.empty⟩ : TextResult)) (cs := [.int .i64 3, .string ByteArray.empty]) rfl (gr (ansTxt a) (by unfold ansTxt; rw [if_neg h3]) (retc 1 rfl rfl rfl rfl rfl rfl (fun w_ hs_ => made hs_ rfl (see_app see_nil see_nil))))))))))))))))
/-! laws.FnExactAnswerText -/
set_option maxRecDepth 20000 in
set_option maxHeartbeats 2000000 in
theorem laws_FnExactAnswerText (w : World) {AaA1 : Option Addr} {caA1 : Nat} {aA : Answer} {saA_ : List Nat} (haA : kAnswerS.Rel w [.int .i64 aA.code, .slice AaA1 aA.pairs.length caA1] aA [] saA_) (ht : TabP w) : Calls Tryd.prog 6 #[.agg #[.int .i64 aA.code, .slice AaA1 aA.pairs.length caA1]] w (fun e_ w2_ => e_ = .returned (.bool true) ∧ Below w.heap.size w w2_) := by
  have n0 := szAnswer_nn aA
  refine fnc (X := X 28 w) (args := [.agg #[.int .i64 aA.code, .slice AaA1 aA.pairs.length caA1]]) (l := [(0, .agg #[.int .i64 aA.code, .slice AaA1 aA.pairs.length caA1])]) (G := [dat kAnswerS [.int .i64 aA.code, .slice AaA1 aA.pairs.length caA1] aA ([]) saA_]) Tryd.func6 rfl rfl rfl ⟨rfl, trivial⟩ (s0d haA (s0n w)).1 ?_
  refine sq (rg (bx rfl rfl rfl rfl ?_))
  intro b1
  refine a_ rfl rfl (en (nx (sq (rg (a_ rfl rfl (en (nx (sq (rg (vl (ldb 0 rfl rfl rfl rfl rfl rfl rfl) rfl (m_ rfl rfl (cs_ (v := .int .i64 (szTake (szAnswer aA) 1048576)) (by kernel_rfl) rfl rfl rfl (fun w_ hs_ => laws_szAnswer w_ _ (hs_.at 1 rfl) (by omega) (by omega)) (a_ rfl rfl (en (nx (sq (sq (rg (m_ rfl rfl (vl (cm rfl rfl rfl rfl) rfl (en (nx ?_))))))))))))))))))))))
  by_cases h2 : (szTake (szAnswer aA) 1048576) < (0 : Int)
  · have eh2 := szTake_t h2
    refine ct rfl (decide_eq_true h2) (sq (rg (a_ rfl rfl (en (nx (rt (xr (ret1 rfl rfl (fun w_ hs_ => ⟨?_, hs_.below⟩)))))))))
    rfl
  · have eh2 := szTake_f h2
    refine cf rfl (decide_eq_false h2) (sk (nx (sq (rg (vl (ldb 0 rfl rfl rfl rfl rfl rfl rfl) rfl (cm_ (dk := kAnswerO) (x := aA) (S := []) (by kernel_rfl) rfl rfl rfl sn0 (fun w_ hs_ => laws_toAnswer w_ (hs_.at 1 rfl) (by omega)) (fun cs_ o5 s6 w_ r7 t8 => ?_)))))))
    obtain ⟨A3, c4, rfl⟩ := kAnswerO_sh r7
    refine cm_ (dk := kTextResultO) (x := (ansTxt aA)) (S := []) (by kernel_rfl) rfl rfl rfl sn0 (fun w_ hs_ => bor kAnswerO_seal (hs_.at 0 rfl) fun _ lb0_ => spec_AnswerText w_ lb0_) (fun cs_ o10 s11 w_ r12 t13 => ?_)
    obtain ⟨rfl⟩ := kTextResultO_sh r12
    refine al zero36 rfl rfl rfl ?_
    intro b15
    refine sto rfl rfl rfl rfl rfl rfl rfl (cs' := [.int .i64 ((ansTxt aA).code), .string ((ansTxt aA).text)]) rfl (en (nx (sq (rg (vl (ldb 3 rfl rfl rfl rfl rfl rfl rfl) rfl (cm_ (dk := kAnswerO) (x := aA) (S := []) (by kernel_rfl) rfl rfl rfl sn0 (fun w_ hs_ => laws_toAnswer w_ (hs_.at 4 rfl) (by omega)) (fun cs_ o18 s19 w_ r20 t21 => ?_)))))))
    obtain ⟨A16, c17, rfl⟩ := kAnswerO_sh r20
    refine al zero56 rfl rfl rfl ?_
    intro b23
    refine sto rfl rfl rfl rfl rfl rfl rfl (cs' := [.int .i64 aA.code, .slice A16 aA.pairs.length c17]) rfl (en (nx (sq (rg (vl (ldb 0 rfl rfl rfl rfl rfl rfl rfl) rfl (cm_ (dk := kTextResultO) (x := (ansTxt aA)) (S := []) (by kernel_rfl) rfl rfl rfl sn0 (fun w_ hs_ => bor kAnswerO_seal (hs_.at 1 rfl) fun _ lb0_ => impl_AnswerText w_ lb0_ (ht.mono hs_.below)) (fun cs_ o24 s25 w_ r26 t27 => ?_)))))))
    obtain ⟨rfl⟩ := kTextResultO_sh r26
    refine al zero36 rfl rfl rfl ?_
    intro b29
    refine sto rfl rfl rfl rfl rfl rfl rfl (cs' := [.int .i64 ((ansTxt aA).code), .string ((ansTxt aA).text)]) rfl (en (nx (sq (sq (rg (vl (ldb 0 rfl rfl rfl rfl rfl rfl rfl) rfl (vl (ldb 4 rfl rfl rfl rfl rfl rfl rfl) rfl (cs_ (v := .bool (decide ((ansTxt aA) = (ansTxt aA)))) (by kernel_rfl) rfl rfl rfl (fun w_ hs_ => bor kTextResultO_seal (hs_.at 1 rfl) fun _ lb0_ => bor kTextResultO_seal (hs_.at 1 rfl) fun _ lb1_ => laws_eqTextResult w_ lb0_ lb1_) (vl (nt rfl rfl) rfl (en (nx (cf rfl (not_f (decide_eq_true rfl)) (sk (nx (sq (sq ?_))))))))))))))))
    refine r0 (qv 0 rfl (ldb 2 rfl rfl rfl rfl rfl rfl rfl) rfl (by kernel_rfl) (qv 1 rfl (ldb 7 rfl rfl rfl rfl rfl rfl rfl) rfl (by kernel_rfl) (q1 2 [0, 0, 0, 0, 0, 0, 0, 0, 0] rfl (by kernel_rfl) rfl (cm_ (dk := kAnswerO) (x := aA) (S := []) (by kernel_rfl) rfl rfl rfl sn0 (fun w_ hs_ => by exact laws_toAnswer w_ (hs_.at 8 rfl) (by omega)) (fun cs_ o34 s35 w_ r36 t37 => ?_)))))
    obtain ⟨A32, c33, rfl⟩ := kAnswerO_sh r36
    refine qn (q1 3 [1, 1, 1, 1, 1, 1, 1, 1, 1] rfl (by kernel_rfl) rfl (cs_ (v := .bool (decide (aA = aA))) (by kernel_rfl) rfl rfl rfl (fun w_ hs_ => by exact bor kAnswerO_seal (hs_.at 4 rfl) fun _ lb0_ => bor kAnswerO_seal (hs_.at 0 rfl) fun _ lb1_ => laws_eqAnswer w_ lb0_ lb1_) (qn (qv 4 rfl (nt rfl rfl) rfl (by kernel_rfl) (qe [1, 1, 1, 1, 1, 1, 1, 1, 1] (by kernel_rfl) rfl (nx (cf rfl (not_f (decide_eq_true rfl)) (sk (nx (sq (rg (a_ rfl rfl (en (nx (rt (ret1 rfl rfl (fun w_ hs_ => ⟨?_, hs_.below⟩)))))))))))))))))
    rfl
end Go.Proofs.YtpjepjnemnmieaaDoor.Sx
