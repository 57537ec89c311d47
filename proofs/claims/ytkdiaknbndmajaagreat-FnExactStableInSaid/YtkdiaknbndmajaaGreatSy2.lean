/- What functions of the program answer, each at every input that its row names; walked through their code. -/
import Derived.Test.YtkdiaknbndmajaaGreatSy1
namespace Go.Proofs.YtkdiaknbndmajaaGreat.Sx
open Go Go.RowKit Go.Proofs
set_option linter.unusedVariables false
set_option linter.unusedSimpArgs false
def tab1 : Tab := { size := [(2, 1, false), (40, 1, false), (58, 2, true), (60, 3, true), (67, 14, true)], off := [((58, 0), 0), ((58, 1), 1), ((60, 0), 0), ((60, 1), 1), ((64, 0), 0), ((64, 1), 1), ((65, 0), 0), ((67, 1), 1), ((67, 3), 3), ((67, 4), 12)], elem := [(24, 60), (28, 67), (40, 2)] }
theorem tab_ok1 : tab1.check Tryz.prog = true := by kernel_rfl
noncomputable abbrev X1 (N : Nat) (w : World) : Cx := ⟨Tryz.prog, tab1, tab_ok1, wide, N, w, none, []⟩
theorem bld58 : bld Tryz.prog 58 = some ([(0, 1), (1, 1)], [.slice none 0 0, .slice none 0 0]) := by kernel_rfl
theorem bld60 : bld Tryz.prog 60 = some ([(0, 1), (1, 2)], [.int .i64 0, .slice none 0 0, .slice none 0 0]) := by kernel_rfl

def Sorted (l : List Pair) : Prop := l.Pairwise (fun a b => a.id < b.id)
def takeId (l : List Pair) (id : Int) : List Pair := l.filter (fun p => !(p.id == id))
def addTo : List Pair → Pair → List Pair
  | [], p => [p]
  | q :: r, p => if p.id < q.id then p :: q :: r else q :: addTo r p
def turnOf (l : List Pair) (n : Note) : List Pair := if n.kind = 2 ∧ n.answer.code = 0 then (if n.op.kind = 1 then addTo (takeId l n.op.pair.id) n.op.pair else if n.op.kind = 2 then takeId l n.op.pair.id else l) else l
def fitsN (l : List Pair) (n : Note) : Bool :=
  if n.op.kind = 1 then (if 0 ≤ idx (fun x => x.id == n.op.pair.id) l then n.answer.code == 6 else n.answer.code == 0 || n.answer.code == 7)
  else if n.op.kind = 2 then (if l.any (fun q => decide (n.op.pair = q)) = true then n.answer.code == 0 else n.answer.code == 4) else false
/-! spec.l2At -/
set_option maxRecDepth 20000 in
set_option maxHeartbeats 2000000 in
theorem spec_l2At (w : World) (id : Int) {Alist : Option Addr} {clist : Nat} {list : List Pair} {slist_ : List Nat} (hlist : (Kd.sl kPairS).Rel w [.slice Alist list.length clist] list [] slist_)  : Calls Tryz.prog 34 #[.slice Alist list.length clist, .int .i64 id] w (fun e_ w2_ => e_ = .returned (.int .i64 (idx (fun (x : Pair) => x.id == id) list)) ∧ Below w.heap.size w w2_) := by
  have Llist := Kd.sl_len hlist; have Clist := Kd.sl_cap hlist
  refine fnc (X := X1 20 w) (args := [.slice Alist list.length clist, .int .i64 id]) (l := [(0, .slice Alist list.length clist), (1, .int .i64 id)]) (G := [dat (Kd.sl kPairS) [.slice Alist list.length clist] list ([]) slist_]) Tryz.func34 rfl rfl rfl ⟨rfl, rfl, trivial⟩ (s0d hlist (s0n w)).1 ?_
  refine sq (rg (a_ rfl rfl (en (nx (sq (sq (rg (a_ rfl rfl (en (nx (bk ?_)))))))))))
  refine lp (σ := Nat) (fun k : Nat => [(0, .slice Alist list.length clist), (1, .int .i64 id), (5, .int .i64 ((k : Nat) : Int))])
      (fun k : Nat => [dat (Kd.sl kPairS) [.slice Alist list.length clist] list ([]) slist_])
      (fun k : Nat => k ≤ list.length ∧ ∀ j x, j < k → list[j]? = some x → (x.id == id) = false) (fun k : Nat => list.length - k) 0 [0] ⟨Nat.zero_le _, by simp⟩ ⟨rfl, rfl, rfl, trivial⟩ rfl ?_
  intro k hp_
  obtain ⟨hk, hinv⟩ := hp_
  refine sq (sq (rg (m_ rfl rfl (m_ rfl rfl (vl (ln rfl rfl rfl) rfl (vl (cm rfl rfl rfl rfl) rfl (en (nx ?_))))))))
  by_cases h1 : ((k : Nat) : Int) < ((list.length : Nat) : Int)
  · refine ct rfl (decide_eq_true h1) (sk (nx (sq (bk (sq (rg (m_ rfl rfl (m_ rfl rfl ?_))))))))
    refine gx 0 k rfl (by omega) fun y7 p2 cs_ s3 w6 m8 e4 r5 us3 => ?_
    obtain ⟨A9, c10, A11, c12, rfl⟩ := kPairS_sh r5
    refine vl (ix k e4 rfl rfl rfl rfl rfl (by omega)) rfl (vl (fa rfl rfl rfl) rfl (vl (ldp (u := .int .i64 y7.id) 0 rfl rfl rfl rfl rfl rfl rfl) rfl (m_ rfl rfl (vl (cm rfl rfl rfl rfl) rfl (en (nx ?_))))))
    by_cases h13 : y7.id = id
    · refine ct rfl (beq_iff_eq.2 h13) (sq (rg (m_ rfl rfl (a_ rfl rfl (en (nx (rt (xrb (xr (xr (xrb (xr (ret1 rfl rfl (fun w_ hs_ => ⟨?_, hs_.below⟩))))))))))))))
      rw [idx_some (p := fun x : Pair => x.id == id) hinv m8 (beq_iff_eq.2 h13)]
    · exact cf rfl (beq_eq_false_iff_ne.2 h13) (sk (xn (nx (rg (m_ rfl rfl (vl (ra (c := ((k + 1 : Nat) : Int)) rfl rfl rfl (by omega) (by omega) (by omega)) rfl (a_ rfl rfl (en (lpe (s := k) (k + 1) [1] ⟨by omega, idx_step (p := fun x : Pair => x.id == id) hinv m8 (beq_eq_false_iff_ne.2 h13)⟩ (by omega) ⟨rfl, rfl, rfl, trivial⟩ rfl)))))))))
  · refine cf rfl (decide_eq_false h1) (xt (xq (xq (xb (nx (sq (rg (a_ rfl rfl (en (nx (rt (ret1 rfl rfl (fun w_ hs_ => ⟨?_, hs_.below⟩)))))))))))))
    rw [idx_none (p := fun x : Pair => x.id == id) hinv (by omega)]
/-! spec.l1Same -/
set_option maxRecDepth 20000 in
set_option maxHeartbeats 2000000 in
theorem spec_l1Same (w : World) {Aa : Option Addr} {ca : Nat} {a : List Int} {sa_ : List Nat} (ha : (Kd.sl Kd.i64).Rel w [.slice Aa a.length ca] a [] sa_) {Ab : Option Addr} {cb : Nat} {b : List Int} {sb_ : List Nat} (hb : (Kd.sl Kd.i64).Rel w [.slice Ab b.length cb] b [] sb_)  : Calls Tryz.prog 102 #[.slice Aa a.length ca, .slice Ab b.length cb] w (fun e_ w2_ => e_ = .returned (.bool (decide (a = b))) ∧ Below w.heap.size w w2_) := by
  have La := Kd.sl_len ha; have Ca := Kd.sl_cap ha
  have Lb := Kd.sl_len hb; have Cb := Kd.sl_cap hb
  refine fnc (X := X1 26 w) (args := [.slice Aa a.length ca, .slice Ab b.length cb]) (l := [(0, .slice Aa a.length ca), (1, .slice Ab b.length cb)]) (G := [dat (Kd.sl Kd.i64) [.slice Ab b.length cb] b ([]) sb_, dat (Kd.sl Kd.i64) [.slice Aa a.length ca] a ([]) sa_]) Tryz.func102 rfl rfl rfl ⟨rfl, rfl, trivial⟩ (s0d hb (s0d ha (s0n w))).1 ?_
  refine sq (rg (a_ rfl rfl (en (nx (sq (sq (rg (m_ rfl rfl (vl (ln rfl rfl rfl) rfl (m_ rfl rfl (vl (ln rfl rfl rfl) rfl (vl (cm rfl rfl rfl rfl) rfl (en (nx ?_))))))))))))))
  by_cases h1 : ((a.length : Nat) : Int) = ((b.length : Nat) : Int)
  · refine cf rfl (bne_eq_false_iff_eq.2 h1) (sk (nx (sq (sq (rg (a_ rfl rfl (en (nx (bk ?_)))))))))
    refine lp (σ := Nat) (fun k : Nat => [(0, .slice Aa a.length ca), (1, .slice Ab b.length cb), (5, .int .i64 ((k : Nat) : Int))])
        (fun k : Nat => [dat (Kd.sl Kd.i64) [.slice Ab b.length cb] b ([]) sb_, dat (Kd.sl Kd.i64) [.slice Aa a.length ca] a ([]) sa_])
        (fun k : Nat => k ≤ a.length ∧ ∀ j x y, j < k → a[j]? = some x → b[j]? = some y → x = y) (fun k : Nat => a.length - k) 0 [0, 0] ⟨Nat.zero_le _, by simp⟩ ⟨rfl, rfl, rfl, trivial⟩ rfl ?_
    intro k hp_
    obtain ⟨hk, hinv⟩ := hp_
    refine sq (sq (rg (m_ rfl rfl (m_ rfl rfl (vl (ln rfl rfl rfl) rfl (vl (cm rfl rfl rfl rfl) rfl (en (nx ?_))))))))
    by_cases h2 : ((k : Nat) : Int) < ((a.length : Nat) : Int)
    · refine ct rfl (decide_eq_true h2) (sk (nx (sq (bk (sq ?_)))))
      refine gx 1 k rfl (by omega) fun y8 p3 cs_ s4 w7 m9 e5 r6 us4 => ?_
      obtain ⟨rfl, -, -⟩ := r6
      refine gx 1 k rfl (by omega) fun y15 p10 cs_ s11 w14 m16 e12 r13 us11 => ?_
      obtain ⟨rfl, -, -⟩ := r13
      refine r0 (qv 0 rfl (mv rfl rfl) rfl (by kernel_rfl) (qv 1 rfl (mv rfl rfl) rfl (by kernel_rfl) (qv 2 rfl (ix k e5 rfl rfl rfl rfl rfl (by omega)) rfl (by kernel_rfl) (qv 3 rfl (ldq (u := .int .i64 y8) 1 rfl rfl rfl rfl rfl rfl rfl) rfl (by kernel_rfl) (qv 4 rfl (mv rfl rfl) rfl (by kernel_rfl) (qv 5 rfl (mv rfl rfl) rfl (by kernel_rfl) (qv 6 rfl (ix k e12 rfl rfl rfl rfl rfl (by omega)) rfl (by kernel_rfl) (qv 7 rfl (ldq (u := .int .i64 y15) 0 rfl rfl rfl rfl rfl rfl rfl) rfl (by kernel_rfl) (qv 8 rfl (cm rfl rfl rfl rfl) rfl (by kernel_rfl) (qe [0, 0, 0, 0] (by kernel_rfl) rfl (nx ?_)))))))))))
      by_cases h17 : y8 = y15
      · exact cf rfl (bne_eq_false_iff_eq.2 h17) (sk (xn (nx (rg (m_ rfl rfl (vl (ra (c := ((k + 1 : Nat) : Int)) rfl rfl rfl (by omega) (by omega) (by omega)) rfl (a_ rfl rfl (en (lpe (s := k) (k + 1) [2, 2] ⟨by omega, eq_step hinv m9 m16 (by simpa using h17)⟩ (by omega) ⟨rfl, rfl, rfl, trivial⟩ rfl)))))))))
      · refine ct rfl (bne_iff_ne.2 h17) (sq (rg (a_ rfl rfl (en (nx (rt (xrb (xr (xr (xrb (xr (ret1 rfl rfl (fun w_ hs_ => ⟨?_, hs_.below⟩)))))))))))))
        exact rb (eqS_f m9 m16 (by simpa using h17)).symm
    · refine cf rfl (decide_eq_false h2) (xt (xq (xq (xb (nx (sq (rg (a_ rfl rfl (en (nx (rt (ret1 rfl rfl (fun w_ hs_ => ⟨?_, hs_.below⟩)))))))))))))
      exact rb (eqS_t (by omega) hinv (by omega)).symm
  · refine ct rfl (bne_iff_ne.2 h1) (sq (rg (a_ rfl rfl (en (nx (rt (xr (ret1 rfl rfl (fun w_ hs_ => ⟨?_, hs_.below⟩)))))))))
    exact rb (by rw [eq_comm, decide_eq_false_iff_not]; rintro rfl; exact h1 rfl)
/-! slices.Equal[[]int64,int64] -/
set_option maxRecDepth 20000 in
set_option maxHeartbeats 2000000 in
theorem slices_Equal_int64_int64 (w : World) {Aa : Option Addr} {ca : Nat} {a : List Int} {sa_ : List Nat} (ha : (Kd.sl Kd.i64).Rel w [.slice Aa a.length ca] a [] sa_) {Ab : Option Addr} {cb : Nat} {b : List Int} {sb_ : List Nat} (hb : (Kd.sl Kd.i64).Rel w [.slice Ab b.length cb] b [] sb_)  : Calls Tryz.prog 137 #[.slice Aa a.length ca, .slice Ab b.length cb] w (fun e_ w2_ => e_ = .returned (.bool (decide (a = b))) ∧ Below w.heap.size w w2_) := by
  have La := Kd.sl_len ha; have Ca := Kd.sl_cap ha
  have Lb := Kd.sl_len hb; have Cb := Kd.sl_cap hb
  refine fnc (X := X1 26 w) (args := [.slice Aa a.length ca, .slice Ab b.length cb]) (l := [(0, .slice Aa a.length ca), (1, .slice Ab b.length cb)]) (G := [dat (Kd.sl Kd.i64) [.slice Ab b.length cb] b ([]) sb_, dat (Kd.sl Kd.i64) [.slice Aa a.length ca] a ([]) sa_]) Tryz.func137 rfl rfl rfl ⟨rfl, rfl, trivial⟩ (s0d hb (s0d ha (s0n w))).1 ?_
  refine sq (rg (a_ rfl rfl (en (nx (sq (sq (rg (m_ rfl rfl (vl (ln rfl rfl rfl) rfl (m_ rfl rfl (vl (ln rfl rfl rfl) rfl (vl (cm rfl rfl rfl rfl) rfl (en (nx ?_))))))))))))))
  by_cases h1 : ((a.length : Nat) : Int) = ((b.length : Nat) : Int)
  · refine cf rfl (bne_eq_false_iff_eq.2 h1) (sk (nx (sq (sq (rg (m_ rfl rfl (vl (ln rfl rfl rfl) rfl (m_ rfl rfl (en (nx (bk ?_)))))))))))
    refine lp (σ := Nat) (fun k : Nat => [(0, .slice Aa a.length ca), (1, .slice Ab b.length cb), (12, .int .i64 ((a.length : Nat) : Int)), (13, .int .i64 ((k : Nat) : Int))])
        (fun k : Nat => [dat (Kd.sl Kd.i64) [.slice Ab b.length cb] b ([]) sb_, dat (Kd.sl Kd.i64) [.slice Aa a.length ca] a ([]) sa_])
        (fun k : Nat => k ≤ a.length ∧ ∀ j x y, j < k → a[j]? = some x → b[j]? = some y → x = y) (fun k : Nat => a.length - k) 0 [0, 0] ⟨Nat.zero_le _, by simp⟩ ⟨rfl, rfl, rfl, rfl, trivial⟩ rfl ?_
    intro k hp_
    obtain ⟨hk, hinv⟩ := hp_
    refine sq (rg (vl (cm rfl rfl rfl rfl) rfl (en (nx (sq ?_)))))
    by_cases h2 : ((k : Nat) : Int) < ((a.length : Nat) : Int)
    · refine ct rfl (decide_eq_true h2) (sk (nx (sq (bk (sq (rg (m_ rfl rfl (a_ rfl rfl (en (nx (sq ?_)))))))))))
      refine gx 1 k rfl (by omega) fun y8 p3 cs_ s4 w7 m9 e5 r6 us4 => ?_
      obtain ⟨rfl, -, -⟩ := r6
      refine gx 1 k rfl (by omega) fun y15 p10 cs_ s11 w14 m16 e12 r13 us11 => ?_
      obtain ⟨rfl, -, -⟩ := r13
      refine r0 (qv 0 rfl (mv rfl rfl) rfl (by kernel_rfl) (qv 1 rfl (mv rfl rfl) rfl (by kernel_rfl) (qv 2 rfl (ix k e5 rfl rfl rfl rfl rfl (by omega)) rfl (by kernel_rfl) (qv 3 rfl (ldq (u := .int .i64 y8) 1 rfl rfl rfl rfl rfl rfl rfl) rfl (by kernel_rfl) (qv 4 rfl (mv rfl rfl) rfl (by kernel_rfl) (qv 5 rfl (mv rfl rfl) rfl (by kernel_rfl) (qv 6 rfl (ix k e12 rfl rfl rfl rfl rfl (by omega)) rfl (by kernel_rfl) (qv 7 rfl (ldq (u := .int .i64 y15) 0 rfl rfl rfl rfl rfl rfl rfl) rfl (by kernel_rfl) (qv 8 rfl (cm rfl rfl rfl rfl) rfl (by kernel_rfl) (qe [0, 0, 0, 0] (by kernel_rfl) rfl (nx ?_)))))))))))
      by_cases h17 : y8 = y15
      · exact cf rfl (bne_eq_false_iff_eq.2 h17) (sk (xn (nx (rg (vl (ra (c := ((k + 1 : Nat) : Int)) rfl rfl rfl (by omega) (by omega) (by omega)) rfl (m_ rfl rfl (en (lpe (s := k) (k + 1) [2, 2] ⟨by omega, eq_step hinv m9 m16 (by simpa using h17)⟩ (by omega) ⟨rfl, rfl, rfl, rfl, trivial⟩ rfl))))))))
      · refine ct rfl (bne_iff_ne.2 h17) (sq (rg (a_ rfl rfl (en (nx (rt (xrb (xr (xr (xrb (xr (ret1 rfl rfl (fun w_ hs_ => ⟨?_, hs_.below⟩)))))))))))))
        exact rb (eqS_f m9 m16 (by simpa using h17)).symm
    · refine cf rfl (decide_eq_false h2) (xt (xq (xq (xb (nx (sq (rg (a_ rfl rfl (en (nx (rt (ret1 rfl rfl (fun w_ hs_ => ⟨?_, hs_.below⟩)))))))))))))
      exact rb (eqS_t (by omega) hinv (by omega)).symm
  · refine ct rfl (bne_iff_ne.2 h1) (sq (rg (a_ rfl rfl (en (nx (rt (xr (ret1 rfl rfl (fun w_ hs_ => ⟨?_, hs_.below⟩)))))))))
    exact rb (by rw [eq_comm, decide_eq_false_iff_not]; rintro rfl; exact h1 rfl)
/-! spec.SameRects -/
set_option maxRecDepth 20000 in
set_option maxHeartbeats 2000000 in
theorem spec_SameRects (w : World) {Aa0 : Option Addr} {ca0 : Nat} {Aa1 : Option Addr} {ca1 : Nat} {a : Rect} {sa_ : List Nat} (ha : kRectS.Rel w [.slice Aa0 a.low.length ca0, .slice Aa1 a.high.length ca1] a [] sa_) {Ab0 : Option Addr} {cb0 : Nat} {Ab1 : Option Addr} {cb1 : Nat} {b : Rect} {sb_ : List Nat} (hb : kRectS.Rel w [.slice Ab0 b.low.length cb0, .slice Ab1 b.high.length cb1] b [] sb_)  : Calls Tryz.prog 65 #[.agg #[.slice Aa0 a.low.length ca0, .slice Aa1 a.high.length ca1], .agg #[.slice Ab0 b.low.length cb0, .slice Ab1 b.high.length cb1]] w (fun e_ w2_ => e_ = .returned (.bool (decide (a = b))) ∧ Below w.heap.size w w2_) := by
  refine fnc (X := X1 17 w) (args := [.agg #[.slice Aa0 a.low.length ca0, .slice Aa1 a.high.length ca1], .agg #[.slice Ab0 b.low.length cb0, .slice Ab1 b.high.length cb1]]) (l := [(0, .agg #[.slice Aa0 a.low.length ca0, .slice Aa1 a.high.length ca1]), (1, .agg #[.slice Ab0 b.low.length cb0, .slice Ab1 b.high.length cb1])]) (G := [dat kRectS [.slice Ab0 b.low.length cb0, .slice Ab1 b.high.length cb1] b ([]) sb_, dat kRectS [.slice Aa0 a.low.length ca0, .slice Aa1 a.high.length ca1] a ([]) sa_]) Tryz.func65 rfl rfl rfl ⟨rfl, rfl, trivial⟩ (s0d hb (s0d ha (s0n w))).1 ?_
  refine sq (rg (bx rfl rfl rfl rfl ?_))
  intro b1
  refine bx rfl rfl rfl rfl ?_
  intro b2
  refine a_ rfl rfl (en (nx (sq (rg (vl (fa rfl rfl rfl) rfl (vl (ldb (u := .slice Aa0 a.low.length ca0) 1 rfl rfl rfl rfl rfl rfl rfl) rfl (vl (fa rfl rfl rfl) rfl (vl (ldb (u := .slice Ab0 b.low.length cb0) 0 rfl rfl rfl rfl rfl rfl rfl) rfl ?_))))))))
  refine gd 3 kRectS_p0_1 rfl (cs' := [.slice Aa0 a.low.length ca0]) rfl fun s3 w_ rs3 us3 => ?_
  have Ls3 := Kd.sl_len rs3; have Cs3 := Kd.sl_cap rs3
  refine gd 3 kRectS_p0_1 rfl (cs' := [.slice Ab0 b.low.length cb0]) rfl fun s4 w_ rs4 us4 => ?_
  have Ls4 := Kd.sl_len rs4; have Cs4 := Kd.sl_cap rs4
  refine cs_ (v := .bool (decide (a.low = b.low))) (by kernel_rfl) rfl rfl rfl (fun w_ hs_ => spec_l1Same w_ (hs_.at 1 rfl) (hs_.at 0 rfl)) (m_ rfl rfl ?_)
  by_cases h5 : decide (a.low = b.low) = true
  · refine vg (fa rfl rfl rfl) rfl rfl h5 (vg (ldb (u := .slice Aa1 a.high.length ca1) 3 rfl rfl rfl rfl rfl rfl rfl) rfl rfl h5 (vg (fa rfl rfl rfl) rfl rfl h5 (vg (ldb (u := .slice Ab1 b.high.length cb1) 2 rfl rfl rfl rfl rfl rfl rfl) rfl rfl h5 (gw rfl rfl h5 ?_))))
    refine gd 5 kRectS_p1_1 rfl (cs' := [.slice Aa1 a.high.length ca1]) rfl fun s6 w_ rs6 us6 => ?_
    have Ls6 := Kd.sl_len rs6; have Cs6 := Kd.sl_cap rs6
    refine gd 5 kRectS_p1_1 rfl (cs' := [.slice Ab1 b.high.length cb1]) rfl fun s7 w_ rs7 us7 => ?_
    have Ls7 := Kd.sl_len rs7; have Cs7 := Kd.sl_cap rs7
    refine cs_ (v := .bool (decide (a.high = b.high))) (by kernel_rfl) rfl rfl rfl (fun w_ hs_ => spec_l1Same w_ (hs_.at 1 rfl) (hs_.at 0 rfl)) (vl (pk (b := true) rfl rfl h5 rfl) rfl (a_ rfl rfl (en (nx (rt (ret1 rfl rfl (fun w_ hs_ => ⟨?_, hs_.below⟩)))))))
    rw [Rect_eq]; simp [h5]
  · refine sg rfl rfl (Bool.eq_false_iff.2 h5) (sg rfl rfl (Bool.eq_false_iff.2 h5) (sg rfl rfl (Bool.eq_false_iff.2 h5) (sg rfl rfl (Bool.eq_false_iff.2 h5) (sg rfl rfl (Bool.eq_false_iff.2 h5) (vl (pk (b := false) rfl rfl (Bool.eq_false_iff.2 h5) rfl) rfl (a_ rfl rfl (en (nx (rt (ret1 rfl rfl (fun w_ hs_ => ⟨?_, hs_.below⟩)))))))))))
    rw [Rect_eq]; simp [h5]
/-! impl.SameRects -/
set_option maxRecDepth 20000 in
set_option maxHeartbeats 2000000 in
theorem impl_SameRects (w : World) {Aa0 : Option Addr} {ca0 : Nat} {Aa1 : Option Addr} {ca1 : Nat} {a : Rect} {sa_ : List Nat} (ha : kRectS.Rel w [.slice Aa0 a.low.length ca0, .slice Aa1 a.high.length ca1] a [] sa_) {Ab0 : Option Addr} {cb0 : Nat} {Ab1 : Option Addr} {cb1 : Nat} {b : Rect} {sb_ : List Nat} (hb : kRectS.Rel w [.slice Ab0 b.low.length cb0, .slice Ab1 b.high.length cb1] b [] sb_)  : Calls Tryz.prog 112 #[.agg #[.slice Aa0 a.low.length ca0, .slice Aa1 a.high.length ca1], .agg #[.slice Ab0 b.low.length cb0, .slice Ab1 b.high.length cb1]] w (fun e_ w2_ => e_ = .returned (.bool (decide (a = b))) ∧ Below w.heap.size w w2_) := by
  refine fnc (X := X1 17 w) (args := [.agg #[.slice Aa0 a.low.length ca0, .slice Aa1 a.high.length ca1], .agg #[.slice Ab0 b.low.length cb0, .slice Ab1 b.high.length cb1]]) (l := [(0, .agg #[.slice Aa0 a.low.length ca0, .slice Aa1 a.high.length ca1]), (1, .agg #[.slice Ab0 b.low.length cb0, .slice Ab1 b.high.length cb1])]) (G := [dat kRectS [.slice Ab0 b.low.length cb0, .slice Ab1 b.high.length cb1] b ([]) sb_, dat kRectS [.slice Aa0 a.low.length ca0, .slice Aa1 a.high.length ca1] a ([]) sa_]) Tryz.func112 rfl rfl rfl ⟨rfl, rfl, trivial⟩ (s0d hb (s0d ha (s0n w))).1 ?_
  refine sq (rg (bx rfl rfl rfl rfl ?_))
  intro b1
  refine bx rfl rfl rfl rfl ?_
  intro b2
  refine a_ rfl rfl (en (nx (sq (rg (vl (fa rfl rfl rfl) rfl (vl (ldb (u := .slice Aa0 a.low.length ca0) 1 rfl rfl rfl rfl rfl rfl rfl) rfl (vl (fa rfl rfl rfl) rfl (vl (ldb (u := .slice Ab0 b.low.length cb0) 0 rfl rfl rfl rfl rfl rfl rfl) rfl ?_))))))))
  refine gd 3 kRectS_p0_1 rfl (cs' := [.slice Aa0 a.low.length ca0]) rfl fun s3 w_ rs3 us3 => ?_
  have Ls3 := Kd.sl_len rs3; have Cs3 := Kd.sl_cap rs3
  refine gd 3 kRectS_p0_1 rfl (cs' := [.slice Ab0 b.low.length cb0]) rfl fun s4 w_ rs4 us4 => ?_
  have Ls4 := Kd.sl_len rs4; have Cs4 := Kd.sl_cap rs4
  refine cs_ (v := .bool (decide (a.low = b.low))) (by kernel_rfl) rfl rfl rfl (fun w_ hs_ => slices_Equal_int64_int64 w_ (hs_.at 1 rfl) (hs_.at 0 rfl)) (m_ rfl rfl ?_)
  by_cases h5 : decide (a.low = b.low) = true
  · refine vg (fa rfl rfl rfl) rfl rfl h5 (vg (ldb (u := .slice Aa1 a.high.length ca1) 3 rfl rfl rfl rfl rfl rfl rfl) rfl rfl h5 (vg (fa rfl rfl rfl) rfl rfl h5 (vg (ldb (u := .slice Ab1 b.high.length cb1) 2 rfl rfl rfl rfl rfl rfl rfl) rfl rfl h5 (gw rfl rfl h5 ?_))))
    refine gd 5 kRectS_p1_1 rfl (cs' := [.slice Aa1 a.high.length ca1]) rfl fun s6 w_ rs6 us6 => ?_
    have Ls6 := Kd.sl_len rs6; have Cs6 := Kd.sl_cap rs6
    refine gd 5 kRectS_p1_1 rfl (cs' := [.slice Ab1 b.high.length cb1]) rfl fun s7 w_ rs7 us7 => ?_
    have Ls7 := Kd.sl_len rs7; have Cs7 := Kd.sl_cap rs7
    refine cs_ (v := .bool (decide (a.high = b.high))) (by kernel_rfl) rfl rfl rfl (fun w_ hs_ => slices_Equal_int64_int64 w_ (hs_.at 1 rfl) (hs_.at 0 rfl)) (vl (pk (b := true) rfl rfl h5 rfl) rfl (a_ rfl rfl (en (nx (rt (ret1 rfl rfl (fun w_ hs_ => ⟨?_, hs_.below⟩)))))))
    rw [Rect_eq]; simp [h5]
  · refine sg rfl rfl (Bool.eq_false_iff.2 h5) (sg rfl rfl (Bool.eq_false_iff.2 h5) (sg rfl rfl (Bool.eq_false_iff.2 h5) (sg rfl rfl (Bool.eq_false_iff.2 h5) (sg rfl rfl (Bool.eq_false_iff.2 h5) (vl (pk (b := false) rfl rfl (Bool.eq_false_iff.2 h5) rfl) rfl (a_ rfl rfl (en (nx (rt (ret1 rfl rfl (fun w_ hs_ => ⟨?_, hs_.below⟩)))))))))))
    rw [Rect_eq]; simp [h5]
/-! impl.samePair -/
set_option maxRecDepth 20000 in
set_option maxHeartbeats 2000000 in
theorem impl_samePair (w : World) {Aa1 : Option Addr} {ca1 : Nat} {Aa2 : Option Addr} {ca2 : Nat} {a : Pair} {sa_ : List Nat} (ha : kPairS.Rel w [.int .i64 a.id, .slice Aa1 a.rect.low.length ca1, .slice Aa2 a.rect.high.length ca2] a [] sa_) {Ab1 : Option Addr} {cb1 : Nat} {Ab2 : Option Addr} {cb2 : Nat} {b : Pair} {sb_ : List Nat} (hb : kPairS.Rel w [.int .i64 b.id, .slice Ab1 b.rect.low.length cb1, .slice Ab2 b.rect.high.length cb2] b [] sb_)  : Calls Tryz.prog 75 #[.agg #[.int .i64 a.id, .slice Aa1 a.rect.low.length ca1, .slice Aa2 a.rect.high.length ca2], .agg #[.int .i64 b.id, .slice Ab1 b.rect.low.length cb1, .slice Ab2 b.rect.high.length cb2]] w (fun e_ w2_ => e_ = .returned (.bool (decide (a = b))) ∧ Below w.heap.size w w2_) := by
  refine fnc (X := X1 17 w) (args := [.agg #[.int .i64 a.id, .slice Aa1 a.rect.low.length ca1, .slice Aa2 a.rect.high.length ca2], .agg #[.int .i64 b.id, .slice Ab1 b.rect.low.length cb1, .slice Ab2 b.rect.high.length cb2]]) (l := [(0, .agg #[.int .i64 a.id, .slice Aa1 a.rect.low.length ca1, .slice Aa2 a.rect.high.length ca2]), (1, .agg #[.int .i64 b.id, .slice Ab1 b.rect.low.length cb1, .slice Ab2 b.rect.high.length cb2])]) (G := [dat kPairS [.int .i64 b.id, .slice Ab1 b.rect.low.length cb1, .slice Ab2 b.rect.high.length cb2] b ([]) sb_, dat kPairS [.int .i64 a.id, .slice Aa1 a.rect.low.length ca1, .slice Aa2 a.rect.high.length ca2] a ([]) sa_]) Tryz.func75 rfl rfl rfl ⟨rfl, rfl, trivial⟩ (s0d hb (s0d ha (s0n w))).1 ?_
  refine sq (rg (bx rfl rfl rfl rfl ?_))
  intro b1
  refine bx rfl rfl rfl rfl ?_
  intro b2
  refine a_ rfl rfl (en (nx (sq (rg (vl (fa rfl rfl rfl) rfl (vl (ldb (u := .int .i64 a.id) 1 rfl rfl rfl rfl rfl rfl rfl) rfl (vl (fa rfl rfl rfl) rfl (vl (ldb (u := .int .i64 b.id) 0 rfl rfl rfl rfl rfl rfl rfl) rfl (vl (cm rfl rfl rfl rfl) rfl (m_ rfl rfl ?_))))))))))
  by_cases h3 : a.id = b.id
  · refine vg (fa rfl rfl rfl) rfl rfl (beq_iff_eq.2 h3) (vg (ldb 1 rfl rfl rfl rfl rfl rfl rfl) rfl rfl (beq_iff_eq.2 h3) (vg (fa rfl rfl rfl) rfl rfl (beq_iff_eq.2 h3) (vg (ldb 0 rfl rfl rfl rfl rfl rfl rfl) rfl rfl (beq_iff_eq.2 h3) (gw rfl rfl (beq_iff_eq.2 h3) ?_))))
    refine gd 3 kPairS_p1_2 rfl (cs' := [.slice Aa1 a.rect.low.length ca1, .slice Aa2 a.rect.high.length ca2]) rfl fun s4 w_ rs4 us4 => ?_
    refine gd 3 kPairS_p1_2 rfl (cs' := [.slice Ab1 b.rect.low.length cb1, .slice Ab2 b.rect.high.length cb2]) rfl fun s5 w_ rs5 us5 => ?_
    refine cs_ (v := .bool (decide (a.rect = b.rect))) (by kernel_rfl) rfl rfl rfl (fun w_ hs_ => impl_SameRects w_ (hs_.at 1 rfl) (hs_.at 0 rfl)) (vl (pk (b := true) rfl rfl (beq_iff_eq.2 h3) rfl) rfl (a_ rfl rfl (en (nx (rt (ret1 rfl rfl (fun w_ hs_ => ⟨?_, hs_.below⟩)))))))
    exact rb (by rw [Pair_eq]; grind)
  · refine sg rfl rfl (beq_eq_false_iff_ne.2 h3) (sg rfl rfl (beq_eq_false_iff_ne.2 h3) (sg rfl rfl (beq_eq_false_iff_ne.2 h3) (sg rfl rfl (beq_eq_false_iff_ne.2 h3) (sg rfl rfl (beq_eq_false_iff_ne.2 h3) (vl (pk (b := false) rfl rfl (beq_eq_false_iff_ne.2 h3) rfl) rfl (a_ rfl rfl (en (nx (rt (ret1 rfl rfl (fun w_ hs_ => ⟨?_, hs_.below⟩)))))))))))
    exact rb (by rw [Pair_eq]; grind)
theorem Sorted.uniq {l : List Pair} (h : Sorted l) {i j : Nat} {a b : Pair} (hi : l[i]? = some a) (hj : l[j]? = some b) (he : a.id = b.id) : i = j := by
  unfold Sorted at h
  rw [List.pairwise_iff_getElem] at h
  obtain ⟨h1, rfl⟩ := List.getElem?_eq_some_iff.1 hi
  obtain ⟨h2, rfl⟩ := List.getElem?_eq_some_iff.1 hj
  rcases Nat.lt_trichotomy i j with hlt | rfl | hlt
  · have := h i j h1 h2 hlt; omega
  · rfl
  · have := h j i h2 h1 hlt; omega
theorem there_no {l : List Pair} {p : Pair} (h : ¬ (0 : Int) ≤ idx (fun x => x.id == p.id) l) : l.any (fun q => decide (p = q)) = false := by
  have h1 := idx_neg h
  rw [List.any_eq_false]
  intro q hq he
  have := h1 q hq
  simp at he this
  exact this (by rw [he])
theorem there_at {l : List Pair} {p y : Pair} {k : Nat} (hs : Sorted l) (hk : l[k]? = some y) (he : (y.id == p.id) = true) : l.any (fun q => decide (p = q)) = decide (y.rect = p.rect) := by
  simp only [beq_iff_eq] at he
  rw [Bool.eq_iff_iff, List.any_eq_true]
  simp only [decide_eq_true_eq]
  constructor
  · rintro ⟨q, hq, rfl⟩
    obtain ⟨j, hj⟩ := List.getElem?_of_mem hq
    have := hs.uniq hj hk (by omega)
    subst this
    rw [hk] at hj; cases hj; rfl
  · intro hr
    refine ⟨y, List.mem_of_getElem? hk, ?_⟩
    cases y; cases p; simp_all
/-! spec.l12There -/
set_option maxRecDepth 20000 in
set_option maxHeartbeats 2000000 in
theorem spec_l12There (w : World) {Apairs : Option Addr} {cpairs : Nat} {pairs : List Pair} {spairs_ : List Nat} (hpairs : (Kd.sl kPairS).Rel w [.slice Apairs pairs.length cpairs] pairs [] spairs_) {Ap1 : Option Addr} {cp1 : Nat} {Ap2 : Option Addr} {cp2 : Nat} {p : Pair} {sp_ : List Nat} {pp : Addr} (hp : (ptr kPairS pp [.int .i64 p.id, .slice Ap1 p.rect.low.length cp1, .slice Ap2 p.rect.high.length cp2] p sp_).P w) (hso : Sorted pairs) : Calls Tryz.prog 50 #[.slice Apairs pairs.length cpairs, .pointer (some pp)] w (fun e_ w2_ => e_ = .returned (.bool (List.any pairs (fun q => decide (p = q)))) ∧ Below w.heap.size w w2_) := by
  have Lpairs := Kd.sl_len hpairs; have Cpairs := Kd.sl_cap hpairs
  refine fnc (X := X1 26 w) (args := [.slice Apairs pairs.length cpairs, .pointer (some pp)]) (l := [(0, .slice Apairs pairs.length cpairs), (1, .pointer (some pp))]) (G := [ptr kPairS pp [.int .i64 p.id, .slice Ap1 p.rect.low.length cp1, .slice Ap2 p.rect.high.length cp2] p sp_, dat (Kd.sl kPairS) [.slice Apairs pairs.length cpairs] pairs ([]) spairs_]) Tryz.func50 rfl rfl rfl ⟨rfl, rfl, trivial⟩ (s0p hp (s0d hpairs (s0n w))).1 ?_
  refine sq (rg (a_ rfl rfl (en (nx (sq (rg (m_ rfl rfl (m_ rfl rfl (vl (nc rfl rfl) rfl (vl (fa rfl rfl rfl) rfl (vl (ldp (u := .int .i64 p.id) 0 rfl rfl rfl rfl rfl rfl rfl) rfl (cs_ (v := .int .i64 (idx (fun (x : Pair) => x.id == p.id) pairs)) (by kernel_rfl) rfl rfl rfl (fun w_ hs_ => spec_l2At w_ _ (hs_.at 1 rfl)) (a_ rfl rfl (en (nx (sq ?_))))))))))))))))
  by_cases h1 : (0 : Int) ≤ (idx (fun (x : Pair) => x.id == p.id) pairs)
  · obtain ⟨kh1, yh1, eh1, lh1, mh1, ph1, -⟩ := idx_pos h1; rw [eh1] at h1; rw [eh1]
    refine gx 1 kh1 rfl (by omega) fun y7 p2 cs_ s3 w6 m8 e4 r5 us3 => ?_
    obtain ⟨A9, c10, A11, c12, rfl⟩ := kPairS_sh r5
    refine gp 0 kPairS_p1_2 rfl (cs' := [.slice A9 y7.rect.low.length c10, .slice A11 y7.rect.high.length c12]) rfl fun s13 w_ rs13 us13 => ?_
    refine gp 2 kPairS_p1_2 rfl (cs' := [.slice Ap1 p.rect.low.length cp1, .slice Ap2 p.rect.high.length cp2]) rfl fun s14 w_ rs14 us14 => ?_
    refine r0 (qv 0 rfl (mv rfl rfl) rfl (by kernel_rfl) (qv 1 rfl (cm rfl rfl rfl rfl) rfl (by kernel_rfl) (qv 2 rfl (mv rfl rfl) rfl (by kernel_rfl) (qg 3 rfl (mv rfl rfl) rfl rfl (decide_eq_true h1) (by kernel_rfl) (qg 4 rfl (mv rfl rfl) rfl rfl (decide_eq_true h1) (by kernel_rfl) (qg 5 rfl (ix kh1 e4 rfl rfl rfl rfl rfl (by omega)) rfl rfl (decide_eq_true h1) (by kernel_rfl) (qg 6 rfl (fa rfl rfl rfl) rfl rfl (decide_eq_true h1) (by kernel_rfl) (qg 7 rfl (ldp 2 rfl rfl rfl rfl rfl rfl rfl) rfl rfl (decide_eq_true h1) (by kernel_rfl) (qg 8 rfl (mv rfl rfl) rfl rfl (decide_eq_true h1) (by kernel_rfl) (qg 9 rfl (nc rfl rfl) rfl rfl (decide_eq_true h1) (by kernel_rfl) (qg 10 rfl (fa rfl rfl rfl) rfl rfl (decide_eq_true h1) (by kernel_rfl) (qg 11 rfl (ldp 3 rfl rfl rfl rfl rfl rfl rfl) rfl rfl (decide_eq_true h1) (by kernel_rfl) (q1 12 [0, 0, 0, 0, 0] rfl (by kernel_rfl) rfl (gw rfl rfl (decide_eq_true h1) (cs_ (v := .bool (decide (y7.rect = p.rect))) (by kernel_rfl) rfl rfl rfl (fun w_ hs_ => by exact spec_SameRects w_ (hs_.at 1 rfl) (hs_.at 0 rfl)) (qn (qv 13 rfl (pk (b := true) rfl rfl (decide_eq_true h1) rfl) rfl (by kernel_rfl) (qv 14 rfl (as_ rfl rfl) rfl (by kernel_rfl) (qe [0, 0, 0, 0, 0] (by kernel_rfl) rfl (nx (rt (ret1 rfl rfl (fun w_ hs_ => ⟨?_, hs_.below⟩)))))))))))))))))))))))
    exact rb (by first | exact (there_no h1).symm | exact (there_at hso mh1 ph1).symm | (rw [there_at hso mh1 ph1]; grind))
  · refine r0 (qv 0 rfl (mv rfl rfl) rfl (by kernel_rfl) (qv 1 rfl (cm rfl rfl rfl rfl) rfl (by kernel_rfl) (qv 2 rfl (mv rfl rfl) rfl (by kernel_rfl) (qs 3 rfl rfl rfl (decide_eq_false h1) (by kernel_rfl) (qs 4 rfl rfl rfl (decide_eq_false h1) (by kernel_rfl) (qs 5 rfl rfl rfl (decide_eq_false h1) (by kernel_rfl) (qs 6 rfl rfl rfl (decide_eq_false h1) (by kernel_rfl) (qs 7 rfl rfl rfl (decide_eq_false h1) (by kernel_rfl) (qs 8 rfl rfl rfl (decide_eq_false h1) (by kernel_rfl) (qs 9 rfl rfl rfl (decide_eq_false h1) (by kernel_rfl) (qs 10 rfl rfl rfl (decide_eq_false h1) (by kernel_rfl) (qs 11 rfl rfl rfl (decide_eq_false h1) (by kernel_rfl) (qs 12 rfl rfl rfl (decide_eq_false h1) (by kernel_rfl) (qv 13 rfl (pk (b := false) rfl rfl (decide_eq_false h1) rfl) rfl (by kernel_rfl) (qv 14 rfl (as_ rfl rfl) rfl (by kernel_rfl) (qe [0, 0] (by kernel_rfl) rfl (nx (rt (ret1 rfl rfl (fun w_ hs_ => ⟨?_, hs_.below⟩))))))))))))))))))))
    exact rb (by first | exact (there_no h1).symm | exact (there_at hso mh1 ph1).symm | (rw [there_at hso mh1 ph1]; grind))
/-! spec.l1Ints -/
set_option maxRecDepth 20000 in
set_option maxHeartbeats 2000000 in
theorem spec_l1Ints (w : World) {Alist : Option Addr} {clist : Nat} {list : List Int} {slist_ : List Nat} (hlist : (Kd.sl Kd.i64).Rel w [.slice Alist list.length clist] list [] slist_) (hz : (list.length : Int) ≤ 1048576) : Calls Tryz.prog 124 #[.slice Alist list.length clist] w (Made (Kd.row 2 Kd.i64) w list []) := by
  have Llist := Kd.sl_len hlist; have Clist := Kd.sl_cap hlist
  refine fnc (X := X1 6 w) (args := [.slice Alist list.length clist]) (l := [(0, .slice Alist list.length clist)]) (G := [dat (Kd.sl Kd.i64) [.slice Alist list.length clist] list ([]) slist_]) Tryz.func124 rfl rfl rfl ⟨rfl, trivial⟩ (s0d hlist (s0n w)).1 ?_
  refine sq (rg (a_ rfl rfl (en (nx (sq (rg (bs0 (dk := Kd.i64) rfl info2 rfl rfl ?_)))))))
  intro b1
  refine m_ rfl rfl ?_
  refine f1 (f1 (aps0 pure_i64 list rfl info2 rfl rfl (by decide) rfl rfl rfl rfl (by omega) (by omega) rfl (fun A2 c3 o4 s5 t6 => ?_)))
  exact a_ rfl rfl (en (nx (rt (ret1 rfl rfl (fun w_ hs_ => made hs_ rfl (by grind))))))
/-! spec.l1Copy -/
set_option maxRecDepth 20000 in
set_option maxHeartbeats 2000000 in
theorem spec_l1Copy (w : World) {Ar0 : Option Addr} {cr0 : Nat} {Ar1 : Option Addr} {cr1 : Nat} {r : Rect} {sr_ : List Nat} {pr : Addr} (hr : (ptr kRectS pr [.slice Ar0 r.low.length cr0, .slice Ar1 r.high.length cr1] r sr_).P w) (hz : szRect r ≤ 1048576) : Calls Tryz.prog 87 #[.pointer (some pr)] w (Made kRectO w r []) := by
  unfold szRect at hz
  refine fnc (X := X1 14 w) (args := [.pointer (some pr)]) (l := [(0, .pointer (some pr))]) (G := [ptr kRectS pr [.slice Ar0 r.low.length cr0, .slice Ar1 r.high.length cr1] r sr_]) Tryz.func87 rfl rfl rfl ⟨rfl, trivial⟩ (s0p hr (s0n w)).1 ?_
  refine sq (rg (al zero58 rfl rfl rfl ?_))
  intro b1
  refine en (nx (sq ?_))
  refine gp 1 kRectS_p0_1 rfl (cs' := [.slice Ar0 r.low.length cr0]) rfl fun s2 w_ rs2 us2 => ?_
  have Ls2 := Kd.sl_len rs2; have Cs2 := Kd.sl_cap rs2
  refine gp 2 kRectS_p1_1 rfl (cs' := [.slice Ar1 r.high.length cr1]) rfl fun s5 w_ rs5 us5 => ?_
  have Ls5 := Kd.sl_len rs5; have Cs5 := Kd.sl_cap rs5
  refine rd (Gq := [dat (Kd.sl Kd.i64) [.slice Ar1 r.high.length cr1] r.high ([]) s5, dat (Kd.sl Kd.i64) [.slice Ar0 r.low.length cr0] r.low ([]) s2, ptr kRectS pr [.slice Ar0 r.low.length cr0, .slice Ar1 r.high.length cr1] r sr_]) [0, 0, 1] rfl (qv 0 rfl (mv rfl rfl) rfl (by kernel_rfl) (qv 1 rfl (nc rfl rfl) rfl (by kernel_rfl) (qv 2 rfl (fa rfl rfl rfl) rfl (by kernel_rfl) (qv 3 rfl (ldp (u := .slice Ar0 r.low.length cr0) 2 rfl rfl rfl rfl rfl rfl rfl) rfl (by kernel_rfl) (qv 5 rfl (mv rfl rfl) rfl (by kernel_rfl) (qv 6 rfl (nc rfl rfl) rfl (by kernel_rfl) (qv 7 rfl (fa rfl rfl rfl) rfl (by kernel_rfl) (qv 8 rfl (ldp (u := .slice Ar1 r.high.length cr1) 2 rfl rfl rfl rfl rfl rfl rfl) rfl (by kernel_rfl) (q1 4 [0, 0, 1] rfl (by kernel_rfl) rfl (cm_ (dk := (Kd.row 2 Kd.i64)) (x := r.low) (S := []) (by kernel_rfl) rfl rfl rfl sn0 (fun w_ hs_ => by exact spec_l1Ints w_ (hs_.at 1 rfl) (by omega)) (fun cs_ o12 s13 w_ r14 t15 => ?_)))))))))))
  obtain ⟨A10, c11, rfl⟩ := Kd.row_sh r14
  refine qn (q1 9 [1, 1, 2] rfl (by kernel_rfl) rfl (cm_ (dk := (Kd.row 2 Kd.i64)) (x := r.high) (S := []) (by kernel_rfl) rfl rfl rfl sn0 (fun w_ hs_ => by exact spec_l1Ints w_ (hs_.at 1 rfl) (by omega)) (fun cs_ o19 s20 w_ r21 t22 => ?_)))
  obtain ⟨A17, c18, rfl⟩ := Kd.row_sh r21
  exact qn (qv 10 rfl (bd bld58 rfl rfl rfl) rfl (by kernel_rfl) (q1 11 [2, 2, 3] rfl (by kernel_rfl) rfl (f4 (sto rfl rfl rfl rfl rfl rfl rfl (cs' := [.slice A10 r.low.length c11, .slice A17 r.high.length c18]) rfl (qn (qe [3, 3, 3] (by kernel_rfl) rfl (nx (rt (f1 (f2 (gj (da := (Kd.via (Kd.row 2 Kd.i64) Rect.low)) (db := (Kd.via (Kd.row 2 Kd.i64) Rect.high)) (x := r) (cs := [.slice A10 r.low.length c11, .slice A17 r.high.length c18]) rfl (retc 1 rfl rfl rfl rfl rfl rfl (fun w_ hs_ => made hs_ rfl (see_app t15 t22))))))))))))))
/-! spec.l2Copy -/
set_option maxRecDepth 20000 in
set_option maxHeartbeats 2000000 in
theorem spec_l2Copy (w : World) {Ap1 : Option Addr} {cp1 : Nat} {Ap2 : Option Addr} {cp2 : Nat} {p : Pair} {sp_ : List Nat} {pp : Addr} (hp : (ptr kPairS pp [.int .i64 p.id, .slice Ap1 p.rect.low.length cp1, .slice Ap2 p.rect.high.length cp2] p sp_).P w) (hz : szPair p ≤ 1048576) : Calls Tryz.prog 48 #[.pointer (some pp)] w (Made kPairO w p []) := by
  unfold szPair at hz
  refine fnc (X := X1 12 w) (args := [.pointer (some pp)]) (l := [(0, .pointer (some pp))]) (G := [ptr kPairS pp [.int .i64 p.id, .slice Ap1 p.rect.low.length cp1, .slice Ap2 p.rect.high.length cp2] p sp_]) Tryz.func48 rfl rfl rfl ⟨rfl, trivial⟩ (s0p hp (s0n w)).1 ?_
  refine sq (rg (al zero60 rfl rfl rfl ?_))
  intro b1
  refine en (nx (sq ?_))
  refine gq 1 kPairS_p1_2 rfl (cs' := [.slice Ap1 p.rect.low.length cp1, .slice Ap2 p.rect.high.length cp2]) rfl fun s2 w_ rs2 us2 => ?_
  refine rd (Gq := [ptr kRectS (pp.add 1) [.slice Ap1 p.rect.low.length cp1, .slice Ap2 p.rect.high.length cp2] p.rect s2, ptr kPairS pp [.int .i64 p.id, .slice Ap1 p.rect.low.length cp1, .slice Ap2 p.rect.high.length cp2] p sp_]) [0, 1] rfl (qv 0 rfl (mv rfl rfl) rfl (by kernel_rfl) (qv 1 rfl (nc rfl rfl) rfl (by kernel_rfl) (qv 2 rfl (fa rfl rfl rfl) rfl (by kernel_rfl) (qv 3 rfl (ldp (u := .int .i64 p.id) 1 rfl rfl rfl rfl rfl rfl rfl) rfl (by kernel_rfl) (qv 4 rfl (mv rfl rfl) rfl (by kernel_rfl) (qv 5 rfl (nc rfl rfl) rfl (by kernel_rfl) (qv 6 rfl (fa rfl rfl rfl) rfl (by kernel_rfl) (q1 7 [0, 1] rfl (by kernel_rfl) rfl (cm_ (dk := kRectO) (x := p.rect) (S := []) (by kernel_rfl) rfl rfl rfl sn0 (fun w_ hs_ => by exact spec_l1Copy w_ (hs_.at 0 rfl) (by omega)) (fun cs_ o11 s12 w_ r13 t14 => ?_))))))))))
  obtain ⟨A7, c8, A9, c10, rfl⟩ := kRectO_sh r13
  exact qn (qv 8 rfl (bd bld60 rfl rfl rfl) rfl (by kernel_rfl) (q1 9 [1, 2] rfl (by kernel_rfl) rfl (f2 (sto rfl rfl rfl rfl rfl rfl rfl (cs' := [.int .i64 p.id, .slice A7 p.rect.low.length c8, .slice A9 p.rect.high.length c10]) rfl (qn (qe [2, 2] (by kernel_rfl) rfl (nx (rt (f1 (gs Kd.i64 [.int .i64 p.id] p.id (fun _ => ⟨rfl, rfl, rfl⟩) (gj (da := (Kd.via Kd.i64 Pair.id)) (db := (Kd.via kRectO Pair.rect)) (x := p) (cs := [.int .i64 p.id, .slice A7 p.rect.low.length c8, .slice A9 p.rect.high.length c10]) rfl (retc 1 rfl rfl rfl rfl rfl rfl (fun w_ hs_ => made hs_ rfl (see_app see_nil t14))))))))))))))
theorem drop_at {α : Type} {l : List α} {k : Nat} {y : α} (h : l[k]? = some y) : l.drop k = y :: l.drop (k + 1) := by
  obtain ⟨h1, rfl⟩ := List.getElem?_eq_some_iff.1 h
  exact List.drop_eq_getElem_cons h1
theorem take_0 {l out : List Pair} {id : Int} {k : Nat} (h : out ++ takeId (l.drop k) id = takeId l id) (hk : l.length ≤ k) : out = takeId l id := by
  rw [List.drop_of_length_le hk] at h; simpa [takeId] using h
theorem take_y {l out : List Pair} {id : Int} {k : Nat} {y : Pair} (h : out ++ takeId (l.drop k) id = takeId l id) (hy : l[k]? = some y) (hn : ¬ y.id = id) : (out ++ [y]) ++ takeId (l.drop (k + 1)) id = takeId l id := by
  rw [drop_at hy] at h; simpa [takeId, hn] using h
theorem take_n {l out : List Pair} {id : Int} {k : Nat} {y : Pair} (h : out ++ takeId (l.drop k) id = takeId l id) (hy : l[k]? = some y) (hn : y.id = id) : out ++ takeId (l.drop (k + 1)) id = takeId l id := by
  rw [drop_at hy] at h; simpa [takeId, hn] using h
theorem add_0 {l out : List Pair} {p : Pair} {k : Nat} (h : out ++ addTo (l.drop k) p = addTo l p) (hk : l.length ≤ k) : out ++ [p] = addTo l p := by
  rw [List.drop_of_length_le hk] at h; simpa [addTo] using h
theorem add_y {l out : List Pair} {p y : Pair} {k : Nat} (h : out ++ addTo (l.drop k) p = addTo l p) (hy : l[k]? = some y) (hn : p.id < y.id) : ((out ++ [p]) ++ [y]) ++ l.drop (k + 1) = addTo l p := by
  rw [drop_at hy] at h; simpa [addTo, hn] using h
theorem add_n {l out : List Pair} {p y : Pair} {k : Nat} (h : out ++ addTo (l.drop k) p = addTo l p) (hy : l[k]? = some y) (hn : ¬ p.id < y.id) : (out ++ [y]) ++ addTo (l.drop (k + 1)) p = addTo l p := by
  rw [drop_at hy] at h; simpa [addTo, hn] using h
theorem add_d {l out r : List Pair} {y : Pair} {k : Nat} (h : out ++ l.drop k = r) (hy : l[k]? = some y) : (out ++ [y]) ++ l.drop (k + 1) = r := by
  rw [drop_at hy] at h; simpa using h
theorem add_e {l out r : List Pair} {k : Nat} (h : out ++ l.drop k = r) (hk : l.length ≤ k) : out = r := by
  rw [List.drop_of_length_le hk] at h; simpa using h
/-! spec.l2Take -/
set_option maxRecDepth 20000 in
set_option maxHeartbeats 2000000 in
theorem spec_l2Take (w : World) (id : Int) {Alist : Option Addr} {clist : Nat} {list : List Pair} {slist_ : List Nat} (hlist : (Kd.sl kPairS).Rel w [.slice Alist list.length clist] list [] slist_) (hz : list.length ≤ 1048576) : Calls Tryz.prog 86 #[.slice Alist list.length clist, .int .i64 id] w (Made (Kd.row 60 kPairS) w (takeId list id) (slist_)) := by
  have Llist := Kd.sl_len hlist; have Clist := Kd.sl_cap hlist
  refine fnc (X := X1 29 w) (args := [.slice Alist list.length clist, .int .i64 id]) (l := [(0, .slice Alist list.length clist), (1, .int .i64 id)]) (G := [dat (Kd.sl kPairS) [.slice Alist list.length clist] list ([]) slist_]) Tryz.func86 rfl rfl rfl ⟨rfl, rfl, trivial⟩ (s0d hlist (s0n w)).1 ?_
  refine sq (rg (a_ rfl rfl (en (nx (sq (rg (bs0 (dk := kPairS) rfl info60 rfl rfl ?_)))))))
  intro b1
  refine a_ rfl rfl (en (nx (sq (sq (rg (a_ rfl rfl (en (nx (bk ?_)))))))))
  refine lp (σ := Nat × List Pair × Option Addr × Nat × List Nat × List Nat) (fun z_ : Nat × List Pair × Option Addr × Nat × List Nat × List Nat => match z_ with | (k, out, A_, c_, o_, s_) => [(0, .slice Alist list.length clist), (1, .int .i64 id), (5, .slice A_ out.length c_), (6, .int .i64 ((k : Nat) : Int))])
      (fun z_ : Nat × List Pair × Option Addr × Nat × List Nat × List Nat => match z_ with | (k, out, A_, c_, o_, s_) => [dat (Kd.row 60 kPairS) [.slice A_ out.length c_] out o_ s_, dat (Kd.sl kPairS) [.slice Alist list.length clist] list ([]) slist_])
      (fun z_ : Nat × List Pair × Option Addr × Nat × List Nat × List Nat => match z_ with | (k, out, A_, c_, o_, s_) => k ≤ list.length ∧ (out ++ takeId (list.drop k) id = takeId list id) ∧ (∀ q ∈ s_, q ∈ slist_ ∨ w.heap.size ≤ q) ∧ out.length ≤ k) (fun z_ : Nat × List Pair × Option Addr × Nat × List Nat × List Nat => match z_ with | (k, out, A_, c_, o_, s_) => list.length - k) (0, [], (some ⟨b1, 0, none⟩), 0, [b1], []) [0, 0] ⟨Nat.zero_le _, by simp, by simp, by simp⟩ ⟨rfl, rfl, rfl, rfl, trivial⟩ rfl ?_
  rintro ⟨k, out, A_, c_, o_, s_⟩ hp_
  obtain ⟨hk, hinv, hsee, hlen⟩ := hp_
  refine sq (sq (rg (m_ rfl rfl (m_ rfl rfl (vl (ln rfl rfl rfl) rfl (vl (cm rfl rfl rfl rfl) rfl (en (nx ?_))))))))
  by_cases h2 : ((k : Nat) : Int) < ((list.length : Nat) : Int)
  · refine ct rfl (decide_eq_true h2) (sk (nx (sq (bk (sq (rg (m_ rfl rfl (m_ rfl rfl ?_))))))))
    refine gx 1 k rfl (by omega) fun y8 p3 cs_ s4 w7 m9 e5 r6 us4 => ?_
    obtain ⟨A10, c11, A12, c13, rfl⟩ := kPairS_sh r6
    refine vl (ix k e5 rfl rfl rfl rfl rfl (by omega)) rfl (vl (fa rfl rfl rfl) rfl (vl (ldp (u := .int .i64 y8.id) 0 rfl rfl rfl rfl rfl rfl rfl) rfl (m_ rfl rfl (vl (cm rfl rfl rfl rfl) rfl (en (nx ?_))))))
    by_cases h14 : y8.id = id
    · exact cf rfl (bne_eq_false_iff_eq.2 h14) (sk (xn (nx (rg (m_ rfl rfl (vl (ra (c := ((k + 1 : Nat) : Int)) rfl rfl rfl (by omega) (by omega) (by omega)) rfl (a_ rfl rfl (en (lpe (s := (k, out, A_, c_, o_, s_)) (k + 1, out, A_, c_, o_, s_) [1, 1] ⟨by omega, take_n hinv m9 (by simpa using h14), by grind, by first | omega | (simp only [List.length_append, List.length_cons, List.length_nil]; omega)⟩ (by show list.length - (k + 1) < list.length - k; omega) ⟨rfl, rfl, rfl, rfl, trivial⟩ rfl)))))))))
    · refine ct rfl (bne_iff_ne.2 h14) (rg (m_ rfl rfl (m_ rfl rfl (m_ rfl rfl (vl (ix k e5 rfl rfl rfl rfl rfl (by omega)) rfl (vl (ldq 0 rfl rfl rfl rfl rfl rfl rfl) rfl ?_))))))
      refine gp 0 Kd.Sub.rfl rfl (cs' := [.int .i64 y8.id, .slice A10 y8.rect.low.length c11, .slice A12 y8.rect.high.length c13]) rfl fun s16 w_ rs16 us16 => ?_
      refine gd 0 Kd.Sub.rfl rfl (cs' := [.int .i64 y8.id, .slice A10 y8.rect.low.length c11, .slice A12 y8.rect.high.length c13]) rfl fun s17 w_ rs17 us17 => ?_
      refine bs1 (dk := kPairS) rfl info60 (by decide) rfl rfl rfl rfl ?_
      intro b15
      refine f3 (ap (out ++ [y8]) rfl info60 rfl rfl (by decide) rfl rfl rfl rfl (by simp only [List.length_append, List.length_cons, List.length_nil]; omega) (by simp only [List.length_append, List.length_cons, List.length_nil]; omega) rfl (fun A18 c19 o20 s21 t22 => ?_))
      exact a_ rfl rfl (en (xn (nx (rg (m_ rfl rfl (vl (ra (c := ((k + 1 : Nat) : Int)) rfl rfl rfl (by omega) (by omega) (by omega)) rfl (a_ rfl rfl (en (lpe (s := (k, out, A_, c_, o_, s_)) (k + 1, (out ++ [y8]), A18, c19, o20, s21) [0, 2] ⟨by omega, take_y hinv m9 h14, by grind, by first | omega | (simp only [List.length_append, List.length_cons, List.length_nil]; omega)⟩ (by show list.length - (k + 1) < list.length - k; omega) ⟨rfl, rfl, rfl, rfl, trivial⟩ rfl)))))))))
  · exact cf rfl (decide_eq_false h2) (xt (xq (xq (xb (nx (sq (rg (m_ rfl rfl (a_ rfl rfl (en (nx (rt (gr (takeId list id) (take_0 hinv (by omega)) (ret1 rfl rfl (fun w_ hs_ => made hs_ rfl (by grind))))))))))))))))
/-! spec.l2Add -/
set_option maxRecDepth 20000 in
set_option maxHeartbeats 2000000 in
theorem spec_l2Add (w : World) {Alist : Option Addr} {clist : Nat} {list : List Pair} {slist_ : List Nat} (hlist : (Kd.sl kPairS).Rel w [.slice Alist list.length clist] list [] slist_) {Ap1 : Option Addr} {cp1 : Nat} {Ap2 : Option Addr} {cp2 : Nat} {p : Pair} {sp_ : List Nat} (hp : kPairS.Rel w [.int .i64 p.id, .slice Ap1 p.rect.low.length cp1, .slice Ap2 p.rect.high.length cp2] p [] sp_) (hz : list.length ≤ 1048576) : Calls Tryz.prog 85 #[.slice Alist list.length clist, .agg #[.int .i64 p.id, .slice Ap1 p.rect.low.length cp1, .slice Ap2 p.rect.high.length cp2]] w (Made (Kd.row 60 kPairS) w (addTo list p) (slist_ ++ sp_)) := by
  have Llist := Kd.sl_len hlist; have Clist := Kd.sl_cap hlist
  refine fnc (X := X1 45 w) (args := [.slice Alist list.length clist, .agg #[.int .i64 p.id, .slice Ap1 p.rect.low.length cp1, .slice Ap2 p.rect.high.length cp2]]) (l := [(0, .slice Alist list.length clist), (1, .agg #[.int .i64 p.id, .slice Ap1 p.rect.low.length cp1, .slice Ap2 p.rect.high.length cp2])]) (G := [dat kPairS [.int .i64 p.id, .slice Ap1 p.rect.low.length cp1, .slice Ap2 p.rect.high.length cp2] p ([]) sp_, dat (Kd.sl kPairS) [.slice Alist list.length clist] list ([]) slist_]) Tryz.func85 rfl rfl rfl ⟨rfl, rfl, trivial⟩ (s0d hp (s0d hlist (s0n w))).1 ?_
  refine sq (rg (bx rfl rfl rfl rfl ?_))
  intro b1
  refine a_ rfl rfl (en (nx (sq (rg (bs0 (dk := kPairS) rfl info60 rfl rfl ?_)))))
  intro b2
  refine a_ rfl rfl (en (nx (sq (rg (a_ rfl rfl (en (nx (sq (sq (rg (a_ rfl rfl (en (nx (bk ?_))))))))))))))
  refine lp (σ := Nat × Bool × List Pair × Option Addr × Nat × List Nat × List Nat) (fun z_ : Nat × Bool × List Pair × Option Addr × Nat × List Nat × List Nat => match z_ with | (k, done, out, A_, c_, o_, s_) => [(0, .slice Alist list.length clist), (3, .pointer (some ⟨b1, 0, none⟩)), (5, .slice A_ out.length c_), (6, .bool done), (7, .int .i64 ((k : Nat) : Int))])
      (fun z_ : Nat × Bool × List Pair × Option Addr × Nat × List Nat × List Nat => match z_ with | (k, done, out, A_, c_, o_, s_) => [dat (Kd.row 60 kPairS) [.slice A_ out.length c_] out o_ s_, blk b1 [.int .i64 p.id, .slice Ap1 p.rect.low.length cp1, .slice Ap2 p.rect.high.length cp2] 60, dat kPairS [.int .i64 p.id, .slice Ap1 p.rect.low.length cp1, .slice Ap2 p.rect.high.length cp2] p ([]) sp_, dat (Kd.sl kPairS) [.slice Alist list.length clist] list ([]) slist_])
      (fun z_ : Nat × Bool × List Pair × Option Addr × Nat × List Nat × List Nat => match z_ with | (k, done, out, A_, c_, o_, s_) => k ≤ list.length ∧ ((done = false ∧ out ++ addTo (list.drop k) p = addTo list p) ∨ (done = true ∧ out ++ list.drop k = addTo list p)) ∧ (∀ q ∈ s_, q ∈ slist_ ∨ q ∈ sp_ ∨ w.heap.size ≤ q) ∧ out.length ≤ k + done.toNat) (fun z_ : Nat × Bool × List Pair × Option Addr × Nat × List Nat × List Nat => match z_ with | (k, done, out, A_, c_, o_, s_) => list.length - k) (0, false, [], (some ⟨b2, 0, none⟩), 0, [b2], []) [0, 0, 0, 0] ⟨Nat.zero_le _, by simp, by simp, by simp⟩ ⟨rfl, rfl, rfl, rfl, rfl, trivial⟩ rfl ?_
  rintro ⟨k, done, out, A_, c_, o_, s_⟩ hp_
  obtain ⟨hk, hinv, hsee, hlen⟩ := hp_; have hd := Bool.toNat_le done
  refine sq (sq (rg (m_ rfl rfl (m_ rfl rfl (vl (ln rfl rfl rfl) rfl (vl (cm rfl rfl rfl rfl) rfl (en (nx ?_))))))))
  by_cases h3 : ((k : Nat) : Int) < ((list.length : Nat) : Int)
  · refine ct rfl (decide_eq_true h3) (sk (nx (sq (bk (sq (sq ?_))))))
    by_cases h4 : done = true
    · refine r0 (qv 0 rfl (mv rfl rfl) rfl (by kernel_rfl) (qv 1 rfl (nt rfl rfl) rfl (by kernel_rfl) (qv 2 rfl (mv rfl rfl) rfl (by kernel_rfl) (qs 3 rfl rfl rfl (not_f h4) (by kernel_rfl) (qs 4 rfl rfl rfl (not_f h4) (by kernel_rfl) (qs 5 rfl rfl rfl (not_f h4) (by kernel_rfl) (qs 6 rfl rfl rfl (not_f h4) (by kernel_rfl) (qs 7 rfl rfl rfl (not_f h4) (by kernel_rfl) (qs 8 rfl rfl rfl (not_f h4) (by kernel_rfl) (qs 9 rfl rfl rfl (not_f h4) (by kernel_rfl) (qs 10 rfl rfl rfl (not_f h4) (by kernel_rfl) (qv 11 rfl (pk (b := false) rfl rfl (not_f h4) rfl) rfl (by kernel_rfl) (qe [0, 0, 0, 0] (by kernel_rfl) rfl (nx (cf rfl rfl (sk (nx (rg (m_ rfl rfl (m_ rfl rfl (m_ rfl rfl ?_)))))))))))))))))))))
      refine gx 3 k rfl (by omega) fun y10 p5 cs_ s6 w9 m11 e7 r8 us6 => ?_
      obtain ⟨A12, c13, A14, c15, rfl⟩ := kPairS_sh r8
      refine vl (ix k e7 rfl rfl rfl rfl rfl (by omega)) rfl (vl (ldq 0 rfl rfl rfl rfl rfl rfl rfl) rfl ?_)
      refine gp 0 Kd.Sub.rfl rfl (cs' := [.int .i64 y10.id, .slice A12 y10.rect.low.length c13, .slice A14 y10.rect.high.length c15]) rfl fun s17 w_ rs17 us17 => ?_
      refine gd 0 Kd.Sub.rfl rfl (cs' := [.int .i64 y10.id, .slice A12 y10.rect.low.length c13, .slice A14 y10.rect.high.length c15]) rfl fun s18 w_ rs18 us18 => ?_
      refine bs1 (dk := kPairS) rfl info60 (by decide) rfl rfl rfl rfl ?_
      intro b16
      refine f3 (ap (out ++ [y10]) rfl info60 rfl rfl (by decide) rfl rfl rfl rfl (by simp only [List.length_append, List.length_cons, List.length_nil]; omega) (by simp only [List.length_append, List.length_cons, List.length_nil]; omega) rfl (fun A19 c20 o21 s22 t23 => ?_))
      exact a_ rfl rfl (en (xn (nx (rg (m_ rfl rfl (vl (ra (c := ((k + 1 : Nat) : Int)) rfl rfl rfl (by omega) (by omega) (by omega)) rfl (a_ rfl rfl (en (lpe (s := (k, done, out, A_, c_, o_, s_)) (k + 1, done, (out ++ [y10]), A19, c20, o21, s22) [0, 2, 2, 2] ⟨by omega, (by cases done <;> simp at hinv <;> first | contradiction | exact .inr ⟨rfl, add_d hinv m11⟩ | exact .inl ⟨rfl, add_n hinv m11 (by simpa using h4)⟩ | simp_all), by grind, by first | omega | (simp only [List.length_append, List.length_cons, List.length_nil]; omega) | (cases done <;> simp_all <;> omega)⟩ (by show list.length - (k + 1) < list.length - k; omega) ⟨rfl, rfl, rfl, rfl, rfl, trivial⟩ rfl)))))))))
    · refine gx 3 k rfl (by omega) fun y29 p24 cs_ s25 w28 m30 e26 r27 us25 => ?_
      obtain ⟨A31, c32, A33, c34, rfl⟩ := kPairS_sh r27
      refine r0 (qv 0 rfl (mv rfl rfl) rfl (by kernel_rfl) (qv 1 rfl (nt rfl rfl) rfl (by kernel_rfl) (qv 2 rfl (mv rfl rfl) rfl (by kernel_rfl) (qg 3 rfl (mv rfl rfl) rfl rfl (not_t (Bool.eq_false_iff.2 h4)) (by kernel_rfl) (qg 4 rfl (mv rfl rfl) rfl rfl (not_t (Bool.eq_false_iff.2 h4)) (by kernel_rfl) (qg 5 rfl (ix k e26 rfl rfl rfl rfl rfl (by omega)) rfl rfl (not_t (Bool.eq_false_iff.2 h4)) (by kernel_rfl) (qg 6 rfl (fa rfl rfl rfl) rfl rfl (not_t (Bool.eq_false_iff.2 h4)) (by kernel_rfl) (qg 7 rfl (ldp (u := .int .i64 y29.id) 0 rfl rfl rfl rfl rfl rfl rfl) rfl rfl (not_t (Bool.eq_false_iff.2 h4)) (by kernel_rfl) (qg 8 rfl (fa rfl rfl rfl) rfl rfl (not_t (Bool.eq_false_iff.2 h4)) (by kernel_rfl) (qg 9 rfl (ldb (u := .int .i64 p.id) 2 rfl rfl rfl rfl rfl rfl rfl) rfl rfl (not_t (Bool.eq_false_iff.2 h4)) (by kernel_rfl) (qg 10 rfl (cm rfl rfl rfl rfl) rfl rfl (not_t (Bool.eq_false_iff.2 h4)) (by kernel_rfl) (qv 11 rfl (pk (b := true) rfl rfl (not_t (Bool.eq_false_iff.2 h4)) rfl) rfl (by kernel_rfl) (qe [0, 0, 0, 0, 0] (by kernel_rfl) rfl (nx ?_))))))))))))))
      by_cases h35 : p.id < y29.id
      · refine ct rfl (decide_eq_true h35) (sq (rg (m_ rfl rfl (vl (ldb 2 rfl rfl rfl rfl rfl rfl rfl) rfl ?_))))
        refine gd 3 Kd.Sub.rfl rfl (cs' := [.int .i64 p.id, .slice Ap1 p.rect.low.length cp1, .slice Ap2 p.rect.high.length cp2]) rfl fun s37 w_ rs37 us37 => ?_
        refine bs1 (dk := kPairS) rfl info60 (by decide) rfl rfl rfl rfl ?_
        intro b36
        refine f2 (ap (out ++ [p]) rfl info60 rfl rfl (by decide) rfl rfl rfl rfl (by simp only [List.length_append, List.length_cons, List.length_nil]; omega) (by simp only [List.length_append, List.length_cons, List.length_nil]; omega) rfl (fun A38 c39 o40 s41 t42 => ?_))
        refine a_ rfl rfl (en (nx (rg (a_ rfl rfl (en (nx (rg (m_ rfl rfl (m_ rfl rfl (m_ rfl rfl (vl (ix k e26 rfl rfl rfl rfl rfl (by omega)) rfl (vl (ldq 1 rfl rfl rfl rfl rfl rfl rfl) rfl ?_))))))))))))
        refine gp 1 Kd.Sub.rfl rfl (cs' := [.int .i64 y29.id, .slice A31 y29.rect.low.length c32, .slice A33 y29.rect.high.length c34]) rfl fun s44 w_ rs44 us44 => ?_
        refine gd 0 Kd.Sub.rfl rfl (cs' := [.int .i64 y29.id, .slice A31 y29.rect.low.length c32, .slice A33 y29.rect.high.length c34]) rfl fun s45 w_ rs45 us45 => ?_
        refine bs1 (dk := kPairS) rfl info60 (by decide) rfl rfl rfl rfl ?_
        intro b43
        refine f2 (ap ((out ++ [p]) ++ [y29]) rfl info60 rfl rfl (by decide) rfl rfl rfl rfl (by simp only [List.length_append, List.length_cons, List.length_nil]; omega) (by simp only [List.length_append, List.length_cons, List.length_nil]; omega) rfl (fun A46 c47 o48 s49 t50 => ?_))
        exact a_ rfl rfl (en (xn (nx (rg (m_ rfl rfl (vl (ra (c := ((k + 1 : Nat) : Int)) rfl rfl rfl (by omega) (by omega) (by omega)) rfl (a_ rfl rfl (en (lpe (s := (k, done, out, A_, c_, o_, s_)) (k + 1, true, ((out ++ [p]) ++ [y29]), A46, c47, o48, s49) [0, 2, 2, 2] ⟨by omega, (by cases done <;> simp at hinv <;> first | contradiction | exact .inr ⟨rfl, add_y hinv m30 h35⟩ | simp_all), by grind, by first | omega | (simp only [List.length_append, List.length_cons, List.length_nil]; omega) | (cases done <;> simp_all <;> omega)⟩ (by show list.length - (k + 1) < list.length - k; omega) ⟨rfl, rfl, rfl, rfl, rfl, trivial⟩ rfl)))))))))
      · refine cf rfl (decide_eq_false h35) (sk (nx (rg (m_ rfl rfl (m_ rfl rfl (m_ rfl rfl (vl (ix k e26 rfl rfl rfl rfl rfl (by omega)) rfl (vl (ldq 0 rfl rfl rfl rfl rfl rfl rfl) rfl ?_))))))))
        refine gp 0 Kd.Sub.rfl rfl (cs' := [.int .i64 y29.id, .slice A31 y29.rect.low.length c32, .slice A33 y29.rect.high.length c34]) rfl fun s52 w_ rs52 us52 => ?_
        refine gd 0 Kd.Sub.rfl rfl (cs' := [.int .i64 y29.id, .slice A31 y29.rect.low.length c32, .slice A33 y29.rect.high.length c34]) rfl fun s53 w_ rs53 us53 => ?_
        refine bs1 (dk := kPairS) rfl info60 (by decide) rfl rfl rfl rfl ?_
        intro b51
        refine f3 (ap (out ++ [y29]) rfl info60 rfl rfl (by decide) rfl rfl rfl rfl (by simp only [List.length_append, List.length_cons, List.length_nil]; omega) (by simp only [List.length_append, List.length_cons, List.length_nil]; omega) rfl (fun A54 c55 o56 s57 t58 => ?_))
        exact a_ rfl rfl (en (xn (nx (rg (m_ rfl rfl (vl (ra (c := ((k + 1 : Nat) : Int)) rfl rfl rfl (by omega) (by omega) (by omega)) rfl (a_ rfl rfl (en (lpe (s := (k, done, out, A_, c_, o_, s_)) (k + 1, done, (out ++ [y29]), A54, c55, o56, s57) [0, 2, 2, 2] ⟨by omega, (by cases done <;> simp at hinv <;> first | contradiction | exact .inr ⟨rfl, add_d hinv m30⟩ | exact .inl ⟨rfl, add_n hinv m30 (by simpa using h35)⟩ | simp_all), by grind, by first | omega | (simp only [List.length_append, List.length_cons, List.length_nil]; omega) | (cases done <;> simp_all <;> omega)⟩ (by show list.length - (k + 1) < list.length - k; omega) ⟨rfl, rfl, rfl, rfl, rfl, trivial⟩ rfl)))))))))
  · refine cf rfl (decide_eq_false h3) (xt (xq (xq (xb (nx (sq (sq (rg (m_ rfl rfl (vl (nt rfl rfl) rfl (en (nx ?_))))))))))))
    by_cases h59 : done = true
    · exact cf rfl (not_f h59) (sk (nx (sq (rg (m_ rfl rfl (a_ rfl rfl (en (nx (rt (gr (addTo list p) (by cases done <;> simp at hinv <;> first | contradiction | exact add_0 hinv (by omega) | exact add_e hinv (by omega) | simp_all) (ret1 rfl rfl (fun w_ hs_ => made hs_ rfl (by grind)))))))))))))
    · refine ct rfl (not_t (Bool.eq_false_iff.2 h59)) (rg (m_ rfl rfl (vl (ldb 1 rfl rfl rfl rfl rfl rfl rfl) rfl ?_)))
      refine gd 2 Kd.Sub.rfl rfl (cs' := [.int .i64 p.id, .slice Ap1 p.rect.low.length cp1, .slice Ap2 p.rect.high.length cp2]) rfl fun s61 w_ rs61 us61 => ?_
      refine bs1 (dk := kPairS) rfl info60 (by decide) rfl rfl rfl rfl ?_
      intro b60
      refine f1 (ap (out ++ [p]) rfl info60 rfl rfl (by decide) rfl rfl rfl rfl (by simp only [List.length_append, List.length_cons, List.length_nil]; omega) (by simp only [List.length_append, List.length_cons, List.length_nil]; omega) rfl (fun A62 c63 o64 s65 t66 => ?_))
      exact a_ rfl rfl (en (nx (sq (rg (m_ rfl rfl (a_ rfl rfl (en (nx (rt (gr (addTo list p) (by cases done <;> simp at hinv <;> first | contradiction | exact add_0 hinv (by omega) | exact add_e hinv (by omega) | simp_all) (ret1 rfl rfl (fun w_ hs_ => made hs_ rfl (by grind)))))))))))))
theorem takeId_len (l : List Pair) (i : Int) : (takeId l i).length ≤ l.length := List.length_filter_le _ _
theorem addTo_len (p : Pair) : ∀ l : List Pair, (addTo l p).length = l.length + 1
  | [] => rfl
  | q :: r => by unfold addTo; split <;> simp [addTo_len p r]
theorem turnOf_len (l : List Pair) (n : Note) : (turnOf l n).length ≤ l.length + 1 := by
  have h1 := takeId_len l n.op.pair.id
  have h2 := addTo_len n.op.pair (takeId l n.op.pair.id)
  unfold turnOf; split
  · split
    · omega
    · split <;> omega
  · omega
theorem Sorted.take {l : List Pair} (h : Sorted l) (i : Int) : Sorted (takeId l i) := List.Pairwise.filter _ h
theorem addTo_mem {p x : Pair} : ∀ {l : List Pair}, x ∈ addTo l p → x = p ∨ x ∈ l
  | [], h => by simp [addTo] at h; exact .inl h
  | q :: r, h => by
    unfold addTo at h
    split at h
    · simpa using h
    · rcases List.mem_cons.1 h with rfl | h
      · exact .inr (List.mem_cons_self ..)
      · exact (addTo_mem h).imp_right (List.mem_cons_of_mem _)
theorem Sorted.add {p : Pair} : ∀ {l : List Pair}, Sorted l → (∀ x ∈ l, x.id ≠ p.id) → Sorted (addTo l p)
  | [], _, _ => List.pairwise_singleton _ _
  | q :: r, h, hn => by
    have h1 := List.pairwise_cons.1 h
    have hq := hn q (List.mem_cons_self ..)
    unfold addTo
    split
    · rename_i hlt
      exact List.pairwise_cons.2 ⟨fun x hx => by
        rcases List.mem_cons.1 hx with rfl | hx
        · exact hlt
        · have := h1.1 x hx; omega, h⟩
    · rename_i hlt
      refine List.pairwise_cons.2 ⟨fun x hx => ?_, Sorted.add h1.2 (fun x hx => hn x (List.mem_cons_of_mem _ hx))⟩
      rcases addTo_mem hx with rfl | hx
      · omega
      · exact h1.1 x hx
theorem Sorted.turn {l : List Pair} (h : Sorted l) (n : Note) : Sorted (turnOf l n) := by
  unfold turnOf; split
  · split
    · exact (h.take _).add (fun x hx => by unfold takeId at hx; simpa using (List.mem_filter.1 hx).2)
    · split
      · exact h.take _
      · exact h
  · exact h
def serialFrom : List Pair → List Note → Bool
  | _, [] => true
  | l, n :: r => if n.kind = 2 ∧ fitsN l n = false then false else serialFrom (turnOf l n) r
def isSerial (notes : List Note) (dims : Int) : Bool := if notesFault notes dims = 0 then serialFrom [] notes else false
theorem serial_no {l : List Pair} {notes : List Note} {k : Nat} {n : Note} (hn : notes[k]? = some n) (h1 : n.kind = 2) (h2 : fitsN l n = false) : serialFrom l (notes.drop k) = false := by
  rw [drop_at hn]; simp [serialFrom, h1, h2]
theorem serial_on {l : List Pair} {notes : List Note} {k : Nat} {n : Note} {r : Bool} (h : serialFrom l (notes.drop k) = r) (hn : notes[k]? = some n) (h1 : ¬ (n.kind = 2 ∧ fitsN l n = false)) : serialFrom (turnOf l n) (notes.drop (k + 1)) = r := by
  rw [drop_at hn] at h; simpa only [serialFrom, if_neg h1] using h
theorem serial_0 {l : List Pair} {notes : List Note} {k : Nat} {r : Bool} (h : serialFrom l (notes.drop k) = r) (hk : notes.length ≤ k) : r = true := by
  rw [List.drop_of_length_le hk] at h; simpa [serialFrom] using h.symm
theorem firstFault_all {α : Type} {f : α → Int} : ∀ {l : List α}, firstFault f l = 0 → ∀ x ∈ l, f x = 0
  | a :: l, h, x, hx => by
    have h0 : f a = 0 := by
      by_cases h0 : f a = 0
      · exact h0
      · have := firstFault_at (f := f) (xs := a :: l) (k := 0) (y := a) (by simp) rfl h0
        omega
    rcases List.mem_cons.1 hx with rfl | hx
    · exact h0
    · have h2 : firstFault f l = 0 := by
        by_cases h3 : ∃ (k : Nat) (y : α), l[k]? = some y ∧ ¬ f y = 0 ∧ ∀ j x, j < k → l[j]? = some x → f x = 0
        · obtain ⟨k, y, hy, hfy, hall⟩ := h3
          have h4 := firstFault_at (f := f) (xs := a :: l) (k := k + 1) (y := y) (fun j x hj hx => by
            cases j with
            | zero => simp at hx; rw [← hx]; exact h0
            | succ j => exact hall j x (by omega) (by simpa using hx)) (by simpa using hy) hfy
          omega
        · refine firstFault_0 (k := l.length) (fun j x hj hx => ?_) (Nat.le_refl _)
          induction j using Nat.strongRecOn generalizing x with
          | _ j ih =>
            by_cases h5 : f x = 0
            · exact h5
            · exact absurd ⟨j, x, hx, h5, fun i y hi hy => ih i hi y (by omega) hy⟩ h3
      exact firstFault_all h2 x hx
theorem rect_sz {r : Rect} {d : Int} (h : rectFault r d = 0) (hd : isDims d = true) : szRect r ≤ 6 := by
  have hd2 : d ≤ 3 := by simp [isDims, within] at hd; omega
  unfold rectFault at h
  split at h
  · rename_i h1
    split at h
    · rename_i h2
      have := pointFault_len h1
      have := pointFault_len h2
      unfold szRect; omega
    · contradiction
  · contradiction
theorem empty_sz {r : Rect} (h : rectEmpty r = true) : szRect r ≤ 6 := by simp only [rectEmpty, Bool.and_eq_true, decide_eq_true_eq] at h; unfold szRect; omega
theorem op_sz {o : Op} {d : Int} (h : opFault o d = 0) : szPair o.pair ≤ 6 := by
  unfold szPair
  unfold opFault at h
  split at h
  · rename_i hd
    split at h
    · rename_i hk
      by_cases h4 : o.kind = 4
      · have : noPair o.pair = true := by simpa [opKind, h4] using hk
        simp only [noPair, Bool.and_eq_true] at this
        exact empty_sz this.2
      · by_cases h3 : o.kind = 3
        · have : rectEmpty o.pair.rect = true := by have := hk; simp [opKind, h3] at this; exact this.2
          exact empty_sz this
        · simp only [h4, h3, if_false] at h
          split at h
          · exact rect_sz h hd
          · simp at h
    · simp at h
  · simp at h
theorem note_sz {n : Note} {d : Int} (h : noteFault n d = 0) : szPair n.op.pair ≤ 6 := by
  apply op_sz (d := d)
  unfold noteFault at h
  split at h
  · split at h
    · split at h
      · assumption
      · assumption
    · simp at h
  · simp at h
theorem notes_0 {l : List Note} {d : Int} (h : notesFault l d = 0) : l.length ≤ 600 ∧ ∀ n ∈ l, szPair n.op.pair ≤ 6 := by
  unfold notesFault at h
  split at h
  · split at h
    · split at h
      · rename_i h1
        exact ⟨by omega, fun n hn => note_sz (firstFault_all h1 n hn)⟩
      · contradiction
    · simp at h
  · simp at h
/-! spec.l12Turn -/
set_option maxRecDepth 20000 in
set_option maxHeartbeats 2000000 in
theorem spec_l12Turn (w : World) {Apairs : Option Addr} {cpairs : Nat} {pairs : List Pair} {spairs_ : List Nat} (hpairs : (Kd.sl kPairS).Rel w [.slice Apairs pairs.length cpairs] pairs [] spairs_) {An5 : Option Addr} {cn5 : Nat} {An6 : Option Addr} {cn6 : Nat} {An8 : Option Addr} {cn8 : Nat} {An9 : Option Addr} {cn9 : Nat} {An10 : Option Addr} {cn10 : Nat} {An13 : Option Addr} {cn13 : Nat} {n : Note} {sn_ : List Nat} {pn : Addr} (hn : (ptr kNoteS pn [.int .i64 n.at_, .int .i64 n.kind, .int .i64 n.client, .int .i64 n.op.kind, .int .i64 n.op.pair.id, .slice An5 n.op.pair.rect.low.length cn5, .slice An6 n.op.pair.rect.high.length cn6, .int .i64 n.op.query.kind, .slice An8 n.op.query.rect.low.length cn8, .slice An9 n.op.query.rect.high.length cn9, .slice An10 n.op.query.point.length cn10, .int .i64 n.op.query.k, .int .i64 n.answer.code, .slice An13 n.answer.pairs.length cn13] n sn_).P w) (hz : pairs.length ≤ 1048575) (hz2 : szPair n.op.pair ≤ 1048576) : Calls Tryz.prog 47 #[.slice Apairs pairs.length cpairs, .pointer (some pn)] w (Made (Kd.sl kPairS) w (turnOf pairs n) (spairs_ ++ sn_)) := by
  have Lpairs := Kd.sl_len hpairs; have Cpairs := Kd.sl_cap hpairs
  have z1 := takeId_len pairs n.op.pair.id
  refine fnc (X := X1 51 w) (args := [.slice Apairs pairs.length cpairs, .pointer (some pn)]) (l := [(0, .slice Apairs pairs.length cpairs), (1, .pointer (some pn))]) (G := [ptr kNoteS pn [.int .i64 n.at_, .int .i64 n.kind, .int .i64 n.client, .int .i64 n.op.kind, .int .i64 n.op.pair.id, .slice An5 n.op.pair.rect.low.length cn5, .slice An6 n.op.pair.rect.high.length cn6, .int .i64 n.op.query.kind, .slice An8 n.op.query.rect.low.length cn8, .slice An9 n.op.query.rect.high.length cn9, .slice An10 n.op.query.point.length cn10, .int .i64 n.op.query.k, .int .i64 n.answer.code, .slice An13 n.answer.pairs.length cn13] n sn_, dat (Kd.sl kPairS) [.slice Apairs pairs.length cpairs] pairs ([]) spairs_]) Tryz.func47 rfl rfl rfl ⟨rfl, rfl, trivial⟩ (s0p hn (s0d hpairs (s0n w))).1 ?_
  refine sq (rg (a_ rfl rfl (en (nx (sq (sq (rg (m_ rfl rfl (vl (nc rfl rfl) rfl (vl (fa rfl rfl rfl) rfl (vl (ldp (u := .int .i64 n.kind) 0 rfl rfl rfl rfl rfl rfl rfl) rfl (vl (cm rfl rfl rfl rfl) rfl (m_ rfl rfl ?_)))))))))))))
  by_cases h1 : n.kind = (2 : Int)
  · refine vg (mv rfl rfl) rfl rfl (bne_eq_false_iff_eq.2 h1) (vg (nc rfl rfl) rfl rfl (bne_eq_false_iff_eq.2 h1) (vg (fa rfl rfl rfl) rfl rfl (bne_eq_false_iff_eq.2 h1) (vg (fb rfl rfl rfl) rfl rfl (bne_eq_false_iff_eq.2 h1) (vg (ldp (u := .int .i64 n.answer.code) 0 rfl rfl rfl rfl rfl rfl rfl) rfl rfl (bne_eq_false_iff_eq.2 h1) (vg (cm rfl rfl rfl rfl) rfl rfl (bne_eq_false_iff_eq.2 h1) (vl (pk (b := false) rfl rfl (bne_eq_false_iff_eq.2 h1) rfl) rfl (en (nx ?_))))))))
    by_cases h2 : n.answer.code = (0 : Int)
    · refine cf rfl (bne_eq_false_iff_eq.2 h2) (sk (nx (sq (sq (rg (m_ rfl rfl (vl (nc rfl rfl) rfl (vl (fa rfl rfl rfl) rfl (vl (fb rfl rfl rfl) rfl (vl (ldp (u := .int .i64 n.op.kind) 0 rfl rfl rfl rfl rfl rfl rfl) rfl (en (nx (bk (sq (rg (vl (cm rfl rfl rfl rfl) rfl (a_ rfl rfl (en (nx ?_)))))))))))))))))))
      by_cases h3 : n.op.kind = (1 : Int)
      · refine ct rfl (beq_iff_eq.2 h3) (sq ?_)
        refine gq 0 kNoteS_p4_3 rfl (cs' := [.int .i64 n.op.pair.id, .slice An5 n.op.pair.rect.low.length cn5, .slice An6 n.op.pair.rect.high.length cn6]) rfl fun s6 w_ rs6 us6 => ?_
        refine r0 (qv 0 rfl (mv rfl rfl) rfl (by kernel_rfl) (qv 1 rfl (mv rfl rfl) rfl (by kernel_rfl) (qv 2 rfl (nc rfl rfl) rfl (by kernel_rfl) (qv 3 rfl (fa rfl rfl rfl) rfl (by kernel_rfl) (qv 4 rfl (fb rfl rfl rfl) rfl (by kernel_rfl) (qv 5 rfl (fb rfl rfl rfl) rfl (by kernel_rfl) (qv 6 rfl (ldp (u := .int .i64 n.op.pair.id) 1 rfl rfl rfl rfl rfl rfl rfl) rfl (by kernel_rfl) (qv 8 rfl (mv rfl rfl) rfl (by kernel_rfl) (qv 9 rfl (nc rfl rfl) rfl (by kernel_rfl) (qv 10 rfl (fa rfl rfl rfl) rfl (by kernel_rfl) (qv 11 rfl (fb rfl rfl rfl) rfl (by kernel_rfl) (q1 7 [0, 0, 0] rfl (by kernel_rfl) rfl (cm_ (dk := (Kd.row 60 kPairS)) (x := (takeId pairs n.op.pair.id)) (S := (spairs_)) (by kernel_rfl) rfl rfl rfl (snt 2 rfl) (fun w_ hs_ => by exact spec_l2Take w_ _ (hs_.at 2 rfl) (by omega)) (fun cs_ o17 s18 w_ r19 t20 => ?_))))))))))))))
        obtain ⟨A15, c16, rfl⟩ := Kd.row_sh r19
        refine qn (q1 12 [1, 1, 1] rfl (by kernel_rfl) rfl (cm_ (dk := kPairO) (x := n.op.pair) (S := []) (by kernel_rfl) rfl rfl rfl sn0 (fun w_ hs_ => by exact spec_l2Copy w_ (hs_.at 1 rfl) (by omega)) (fun cs_ o26 s27 w_ r28 t29 => ?_)))
        obtain ⟨A22, c23, A24, c25, rfl⟩ := kPairO_sh r28
        refine qn (q1 13 [2, 2, 2] rfl (by kernel_rfl) rfl (f1 (gl (Kd.Seals.row kPairS_self _) (fun s31 us31 => ?_))))
        refine f1 (gl kPairO_seal (fun s32 us32 => ?_))
        refine cm_ (dk := (Kd.row 60 kPairS)) (x := (addTo (takeId pairs n.op.pair.id) n.op.pair)) (S := (s31 ++ s32)) (by kernel_rfl) rfl rfl rfl (sna (snt 1 rfl) (snt 0 rfl)) (fun w_ hs_ => by exact spec_l2Add w_ (hs_.at 1 rfl) (hs_.at 0 rfl) (by omega)) (fun cs_ o35 s36 w_ r37 t38 => ?_)
        obtain ⟨A33, c34, rfl⟩ := Kd.row_sh r37
        refine qn (qv 14 rfl (as_ rfl rfl) rfl (by kernel_rfl) (qe [3, 3, 3] (by kernel_rfl) rfl (nx (rt (xrb (xr (gl (Kd.Seals.row kPairS_self _) (fun s40 us40 => ?_))))))))
        exact gr (turnOf pairs n) (by grind [turnOf]) (ret1 rfl rfl (fun w_ hs_ => made hs_ rfl (by grind)))
      · refine cf rfl (beq_eq_false_iff_ne.2 h3) (sq (rg (vl (cm rfl rfl rfl rfl) rfl (a_ rfl rfl (en (nx ?_))))))
        by_cases h41 : n.op.kind = (2 : Int)
        · refine ct rfl (beq_iff_eq.2 h41) (sq (rg (m_ rfl rfl (m_ rfl rfl (vl (nc rfl rfl) rfl (vl (fa rfl rfl rfl) rfl (vl (fb rfl rfl rfl) rfl (vl (fb rfl rfl rfl) rfl (vl (ldp (u := .int .i64 n.op.pair.id) 0 rfl rfl rfl rfl rfl rfl rfl) rfl (cm_ (dk := (Kd.row 60 kPairS)) (x := (takeId pairs n.op.pair.id)) (S := (spairs_)) (by kernel_rfl) rfl rfl rfl (snt 1 rfl) (fun w_ hs_ => spec_l2Take w_ _ (hs_.at 1 rfl) (by omega)) (fun cs_ o44 s45 w_ r46 t47 => ?_)))))))))))
          obtain ⟨A42, c43, rfl⟩ := Kd.row_sh r46
          refine a_ rfl rfl (en (nx (rt (xrb (xr (gl (Kd.Seals.row kPairS_self _) (fun s49 us49 => ?_)))))))
          exact gr (turnOf pairs n) (by grind [turnOf]) (ret1 rfl rfl (fun w_ hs_ => made hs_ rfl (by grind)))
        · exact cf rfl (beq_eq_false_iff_ne.2 h41) (sk (xn (nx (sq (rg (m_ rfl rfl (a_ rfl rfl (en (nx (rt (f1 (gr (turnOf pairs n) (by grind [turnOf]) (ret1 rfl rfl (fun w_ hs_ => made hs_ rfl (by grind)))))))))))))))
    · exact ct rfl (bne_iff_ne.2 h2) (sq (rg (m_ rfl rfl (a_ rfl rfl (en (nx (rt (xr (f1 (gr (turnOf pairs n) (by grind [turnOf]) (ret1 rfl rfl (fun w_ hs_ => made hs_ rfl (by grind)))))))))))))
  · exact sg rfl rfl (bne_iff_ne.2 h1) (sg rfl rfl (bne_iff_ne.2 h1) (sg rfl rfl (bne_iff_ne.2 h1) (sg rfl rfl (bne_iff_ne.2 h1) (sg rfl rfl (bne_iff_ne.2 h1) (sg rfl rfl (bne_iff_ne.2 h1) (vl (pk (b := true) rfl rfl (bne_iff_ne.2 h1) rfl) rfl (en (nx (ct rfl rfl (sq (rg (m_ rfl rfl (a_ rfl rfl (en (nx (rt (xr (f1 (gr (turnOf pairs n) (by grind [turnOf]) (ret1 rfl rfl (fun w_ hs_ => made hs_ rfl (by grind))))))))))))))))))))))
/-! spec.l12Fits -/
set_option maxRecDepth 20000 in
set_option maxHeartbeats 2000000 in
theorem spec_l12Fits (w : World) {Apairs : Option Addr} {cpairs : Nat} {pairs : List Pair} {spairs_ : List Nat} (hpairs : (Kd.sl kPairS).Rel w [.slice Apairs pairs.length cpairs] pairs [] spairs_) {An5 : Option Addr} {cn5 : Nat} {An6 : Option Addr} {cn6 : Nat} {An8 : Option Addr} {cn8 : Nat} {An9 : Option Addr} {cn9 : Nat} {An10 : Option Addr} {cn10 : Nat} {An13 : Option Addr} {cn13 : Nat} {n : Note} {sn_ : List Nat} {pn : Addr} (hn : (ptr kNoteS pn [.int .i64 n.at_, .int .i64 n.kind, .int .i64 n.client, .int .i64 n.op.kind, .int .i64 n.op.pair.id, .slice An5 n.op.pair.rect.low.length cn5, .slice An6 n.op.pair.rect.high.length cn6, .int .i64 n.op.query.kind, .slice An8 n.op.query.rect.low.length cn8, .slice An9 n.op.query.rect.high.length cn9, .slice An10 n.op.query.point.length cn10, .int .i64 n.op.query.k, .int .i64 n.answer.code, .slice An13 n.answer.pairs.length cn13] n sn_).P w) (hso : Sorted pairs) : Calls Tryz.prog 79 #[.slice Apairs pairs.length cpairs, .pointer (some pn)] w (fun e_ w2_ => e_ = .returned (.bool (fitsN pairs n)) ∧ Below w.heap.size w w2_) := by
  have Lpairs := Kd.sl_len hpairs; have Cpairs := Kd.sl_cap hpairs
  refine fnc (X := X1 61 w) (args := [.slice Apairs pairs.length cpairs, .pointer (some pn)]) (l := [(0, .slice Apairs pairs.length cpairs), (1, .pointer (some pn))]) (G := [ptr kNoteS pn [.int .i64 n.at_, .int .i64 n.kind, .int .i64 n.client, .int .i64 n.op.kind, .int .i64 n.op.pair.id, .slice An5 n.op.pair.rect.low.length cn5, .slice An6 n.op.pair.rect.high.length cn6, .int .i64 n.op.query.kind, .slice An8 n.op.query.rect.low.length cn8, .slice An9 n.op.query.rect.high.length cn9, .slice An10 n.op.query.point.length cn10, .int .i64 n.op.query.k, .int .i64 n.answer.code, .slice An13 n.answer.pairs.length cn13] n sn_, dat (Kd.sl kPairS) [.slice Apairs pairs.length cpairs] pairs ([]) spairs_]) Tryz.func79 rfl rfl rfl ⟨rfl, rfl, trivial⟩ (s0p hn (s0d hpairs (s0n w))).1 ?_
  refine sq (rg (a_ rfl rfl (en (nx (sq (sq (rg (m_ rfl rfl (vl (nc rfl rfl) rfl (vl (fa rfl rfl rfl) rfl (vl (fb rfl rfl rfl) rfl (vl (ldp (u := .int .i64 n.op.kind) 0 rfl rfl rfl rfl rfl rfl rfl) rfl (en (nx (bk (sq (rg (vl (cm rfl rfl rfl rfl) rfl (a_ rfl rfl (en (nx ?_)))))))))))))))))))))
  by_cases h1 : n.op.kind = (1 : Int)
  · refine ct rfl (beq_iff_eq.2 h1) (sq (sq (rg (m_ rfl rfl (m_ rfl rfl (vl (nc rfl rfl) rfl (vl (fa rfl rfl rfl) rfl (vl (fb rfl rfl rfl) rfl (vl (fb rfl rfl rfl) rfl (vl (ldp (u := .int .i64 n.op.pair.id) 0 rfl rfl rfl rfl rfl rfl rfl) rfl (cs_ (v := .int .i64 (idx (fun (x : Pair) => x.id == n.op.pair.id) pairs)) (by kernel_rfl) rfl rfl rfl (fun w_ hs_ => spec_l2At w_ _ (hs_.at 1 rfl)) (vl (cm rfl rfl rfl rfl) rfl (en (nx ?_))))))))))))))
    by_cases h2 : (0 : Int) ≤ (idx (fun (x : Pair) => x.id == n.op.pair.id) pairs)
    · refine ct rfl (decide_eq_true h2) (sq (rg (m_ rfl rfl (vl (nc rfl rfl) rfl (vl (fa rfl rfl rfl) rfl (vl (fb rfl rfl rfl) rfl (vl (ldp (u := .int .i64 n.answer.code) 0 rfl rfl rfl rfl rfl rfl rfl) rfl (vl (cm rfl rfl rfl rfl) rfl (a_ rfl rfl (en (nx (rt (xr (xrb (xr (ret1 rfl rfl (fun w_ hs_ => ⟨?_, hs_.below⟩)))))))))))))))))
      exact rb (by grind [fitsN])
    · refine cf rfl (decide_eq_false h2) (sk (nx (sq (rg (m_ rfl rfl (vl (nc rfl rfl) rfl (vl (fa rfl rfl rfl) rfl (vl (fb rfl rfl rfl) rfl (vl (ldp (u := .int .i64 n.answer.code) 0 rfl rfl rfl rfl rfl rfl rfl) rfl (vl (cm rfl rfl rfl rfl) rfl (m_ rfl rfl ?_)))))))))))
      by_cases h3 : n.answer.code = (0 : Int)
      · refine sg rfl rfl (beq_iff_eq.2 h3) (sg rfl rfl (beq_iff_eq.2 h3) (sg rfl rfl (beq_iff_eq.2 h3) (sg rfl rfl (beq_iff_eq.2 h3) (sg rfl rfl (beq_iff_eq.2 h3) (sg rfl rfl (beq_iff_eq.2 h3) (vl (pk (b := true) rfl rfl (beq_iff_eq.2 h3) rfl) rfl (a_ rfl rfl (en (nx (rt (xrb (xr (ret1 rfl rfl (fun w_ hs_ => ⟨?_, hs_.below⟩))))))))))))))
        exact rb (by grind [fitsN])
      · refine vg (mv rfl rfl) rfl rfl (beq_eq_false_iff_ne.2 h3) (vg (nc rfl rfl) rfl rfl (beq_eq_false_iff_ne.2 h3) (vg (fa rfl rfl rfl) rfl rfl (beq_eq_false_iff_ne.2 h3) (vg (fb rfl rfl rfl) rfl rfl (beq_eq_false_iff_ne.2 h3) (vg (ldp (u := .int .i64 n.answer.code) 0 rfl rfl rfl rfl rfl rfl rfl) rfl rfl (beq_eq_false_iff_ne.2 h3) (vg (cm rfl rfl rfl rfl) rfl rfl (beq_eq_false_iff_ne.2 h3) (vl (pk (b := false) rfl rfl (beq_eq_false_iff_ne.2 h3) rfl) rfl (a_ rfl rfl (en (nx (rt (xrb (xr (ret1 rfl rfl (fun w_ hs_ => ⟨?_, hs_.below⟩))))))))))))))
        exact rb (by grind [fitsN])
  · refine cf rfl (beq_eq_false_iff_ne.2 h1) (sq (rg (vl (cm rfl rfl rfl rfl) rfl (a_ rfl rfl (en (nx ?_))))))
    by_cases h4 : n.op.kind = (2 : Int)
    · refine ct rfl (beq_iff_eq.2 h4) (sq (sq (rg (m_ rfl rfl (m_ rfl rfl (vl (nc rfl rfl) rfl (vl (fa rfl rfl rfl) rfl (vl (fb rfl rfl rfl) rfl ?_))))))))
      refine gq 0 kNoteS_p4_3 rfl (cs' := [.int .i64 n.op.pair.id, .slice An5 n.op.pair.rect.low.length cn5, .slice An6 n.op.pair.rect.high.length cn6]) rfl fun s5 w_ rs5 us5 => ?_
      refine cs_ (v := .bool (List.any pairs (fun q => decide (n.op.pair = q)))) (by kernel_rfl) rfl rfl rfl (fun w_ hs_ => spec_l12There w_ (hs_.at 2 rfl) (hs_.at 0 rfl) hso) (en (nx ?_))
      by_cases h6 : List.any pairs (fun q => decide (n.op.pair = q)) = true
      · refine ct rfl h6 (sq (rg (m_ rfl rfl (vl (nc rfl rfl) rfl (vl (fa rfl rfl rfl) rfl (vl (fb rfl rfl rfl) rfl (vl (ldp (u := .int .i64 n.answer.code) 1 rfl rfl rfl rfl rfl rfl rfl) rfl (vl (cm rfl rfl rfl rfl) rfl (a_ rfl rfl (en (nx (rt (xr (xrb (xr (ret1 rfl rfl (fun w_ hs_ => ⟨?_, hs_.below⟩)))))))))))))))))
        exact rb (by grind [fitsN])
      · refine cf rfl (Bool.eq_false_iff.2 h6) (sk (nx (sq (rg (m_ rfl rfl (vl (nc rfl rfl) rfl (vl (fa rfl rfl rfl) rfl (vl (fb rfl rfl rfl) rfl (vl (ldp (u := .int .i64 n.answer.code) 1 rfl rfl rfl rfl rfl rfl rfl) rfl (vl (cm rfl rfl rfl rfl) rfl (a_ rfl rfl (en (nx (rt (xrb (xr (ret1 rfl rfl (fun w_ hs_ => ⟨?_, hs_.below⟩))))))))))))))))))
        exact rb (by grind [fitsN])
    · refine cf rfl (beq_eq_false_iff_ne.2 h4) (sk (xn (nx (sq (rg (a_ rfl rfl (en (nx (rt (ret1 rfl rfl (fun w_ hs_ => ⟨?_, hs_.below⟩)))))))))))
      exact rb (by grind [fitsN])
/-! spec.IsSerial -/
set_option maxRecDepth 20000 in
set_option maxHeartbeats 2000000 in
theorem spec_IsSerial (w : World) (dims : Int) {Anotes : Option Addr} {cnotes : Nat} {notes : List Note} {snotes_ : List Nat} (hnotes : (Kd.sl kNoteS).Rel w [.slice Anotes notes.length cnotes] notes [] snotes_)  : Calls Tryz.prog 41 #[.slice Anotes notes.length cnotes, .int .i64 dims] w (fun e_ w2_ => e_ = .returned (.bool (isSerial notes dims)) ∧ Below w.heap.size w w2_) := by
  have Lnotes := Kd.sl_len hnotes; have Cnotes := Kd.sl_cap hnotes
  refine fnc (X := X1 37 w) (args := [.slice Anotes notes.length cnotes, .int .i64 dims]) (l := [(0, .slice Anotes notes.length cnotes), (1, .int .i64 dims)]) (G := [dat (Kd.sl kNoteS) [.slice Anotes notes.length cnotes] notes ([]) snotes_]) Tryz.func41 rfl rfl rfl ⟨rfl, rfl, trivial⟩ (s0d hnotes (s0n w)).1 ?_
  refine sq (rg (a_ rfl rfl (en (nx (sq (sq (rg (m_ rfl rfl (m_ rfl rfl (cs_ (v := .int .i64 (notesFault notes dims)) (by kernel_rfl) rfl rfl rfl (fun w_ hs_ => spec_NotesFault w_ _ (hs_.at 0 rfl)) (vl (cm rfl rfl rfl rfl) rfl (en (nx ?_)))))))))))))
  by_cases h1 : (notesFault notes dims) = (0 : Int)
  · have zh1 := notes_0 h1
    refine cf rfl (bne_eq_false_iff_eq.2 h1) (sk (nx (sq (rg (bs0 (dk := kPairS) rfl info60 rfl rfl ?_)))))
    intro b2
    refine a_ rfl rfl (en (nx (sq (sq (rg (a_ rfl rfl (en (nx (bk (gl (Kd.Seals.row kPairS_self _) (fun s3 us3 => ?_)))))))))))
    refine lp (σ := Nat × List Pair × Option Addr × Nat × List Nat) (fun z_ : Nat × List Pair × Option Addr × Nat × List Nat => match z_ with | (k, pairs, A_, c_, s_) => [(0, .slice Anotes notes.length cnotes), (5, .slice A_ pairs.length c_), (6, .int .i64 ((k : Nat) : Int))])
        (fun z_ : Nat × List Pair × Option Addr × Nat × List Nat => match z_ with | (k, pairs, A_, c_, s_) => [dat (Kd.sl kPairS) [.slice A_ pairs.length c_] pairs ([]) s_, dat (Kd.sl kNoteS) [.slice Anotes notes.length cnotes] notes ([]) snotes_])
        (fun z_ : Nat × List Pair × Option Addr × Nat × List Nat => match z_ with | (k, pairs, A_, c_, s_) => k ≤ notes.length ∧ (Sorted pairs ∧ serialFrom pairs (notes.drop k) = serialFrom [] notes) ∧ (∀ q ∈ s_, q ∈ snotes_ ∨ w.heap.size ≤ q) ∧ pairs.length ≤ k) (fun z_ : Nat × List Pair × Option Addr × Nat × List Nat => match z_ with | (k, pairs, A_, c_, s_) => notes.length - k) (0, [], (some ⟨b2, 0, none⟩), 0, s3) [0, 0] ⟨Nat.zero_le _, ⟨.nil, rfl⟩, by grind, by simp⟩ ⟨rfl, rfl, rfl, trivial⟩ rfl ?_
    rintro ⟨k, pairs, A_, c_, s_⟩ hp_
    obtain ⟨hk, hinv, hsee, hlen⟩ := hp_
    refine sq (sq (rg (m_ rfl rfl (m_ rfl rfl (vl (ln rfl rfl rfl) rfl (vl (cm rfl rfl rfl rfl) rfl (en (nx ?_))))))))
    by_cases h4 : ((k : Nat) : Int) < ((notes.length : Nat) : Int)
    · refine ct rfl (decide_eq_true h4) (sk (nx (sq (bk (sq (sq (rg (m_ rfl rfl (m_ rfl rfl ?_)))))))))
      refine gx 1 k rfl (by omega) fun y10 p5 cs_ s6 w9 m11 e7 r8 us6 => ?_
      obtain ⟨A12, c13, A14, c15, A16, c17, A18, c19, A20, c21, A22, c23, rfl⟩ := kNoteS_sh r8
      refine vl (ix k e7 rfl rfl rfl rfl rfl (by omega)) rfl (vl (fa rfl rfl rfl) rfl (vl (ldp (u := .int .i64 y10.kind) 0 rfl rfl rfl rfl rfl rfl rfl) rfl (vl (cm rfl rfl rfl rfl) rfl (m_ rfl rfl ?_))))
      by_cases h24 : y10.kind = (2 : Int)
      · refine vg (mv rfl rfl) rfl rfl (beq_iff_eq.2 h24) (vg (mv rfl rfl) rfl rfl (beq_iff_eq.2 h24) (vg (mv rfl rfl) rfl rfl (beq_iff_eq.2 h24) (vg (ix k e7 rfl rfl rfl rfl rfl (by omega)) rfl rfl (beq_iff_eq.2 h24) (gw rfl rfl (beq_iff_eq.2 h24) (cs_ (v := .bool (fitsN pairs y10)) (by kernel_rfl) rfl rfl rfl (fun w_ hs_ => spec_l12Fits w_ (hs_.at 1 rfl) (hs_.at 0 rfl) hinv.1) (vg (nt rfl rfl) rfl rfl (beq_iff_eq.2 h24) (vl (pk (b := true) rfl rfl (beq_iff_eq.2 h24) rfl) rfl (en (nx ?_)))))))))
        by_cases h25 : fitsN pairs y10 = true
        · refine cf rfl (not_f h25) (sk (nx (rg (m_ rfl rfl (m_ rfl rfl (m_ rfl rfl (vl (ix k e7 rfl rfl rfl rfl rfl (by omega)) rfl (cm_ (dk := (Kd.sl kPairS)) (x := (turnOf pairs y10)) (S := (s_ ++ s6)) (by kernel_rfl) rfl rfl rfl (sna (snt 1 rfl) (snp 0 rfl)) (fun w_ hs_ => spec_l12Turn w_ (hs_.at 1 rfl) (hs_.at 0 rfl) (by omega) (by have z := notes_0 h1; have y := z.2 _ (List.mem_of_getElem? m11); omega)) (fun cs_ o28 s29 w_ r30 t31 => ?_)))))))))
          obtain ⟨rfl, A26, c27, rfl, Cr30, Lr30, -⟩ := r30
          exact a_ rfl rfl (en (xn (nx (rg (m_ rfl rfl (vl (ra (c := ((k + 1 : Nat) : Int)) rfl rfl rfl (by omega) (by omega) (by omega)) rfl (a_ rfl rfl (en (lpe (s := (k, pairs, A_, c_, s_)) (k + 1, (turnOf pairs y10), A26, c27, s29) [0, 2] ⟨by omega, ⟨(hinv.1).turn _, serial_on hinv.2 m11 (by grind)⟩, by grind, by have z := turnOf_len pairs y10; omega⟩ (by show notes.length - (k + 1) < notes.length - k; omega) ⟨rfl, rfl, rfl, trivial⟩ rfl)))))))))
        · refine ct rfl (not_t (Bool.eq_false_iff.2 h25)) (sq (rg (a_ rfl rfl (en (nx (rt (xr (xrb (xr (xr (xrb (xr (ret1 rfl rfl (fun w_ hs_ => ⟨?_, hs_.below⟩))))))))))))))
          exact rb (by have z := serial_no (l := pairs) m11 (by grind) (by grind); grind [isSerial])
      · refine sg rfl rfl (beq_eq_false_iff_ne.2 h24) (sg rfl rfl (beq_eq_false_iff_ne.2 h24) (sg rfl rfl (beq_eq_false_iff_ne.2 h24) (sg rfl rfl (beq_eq_false_iff_ne.2 h24) (sg rfl rfl (beq_eq_false_iff_ne.2 h24) (sg rfl rfl (beq_eq_false_iff_ne.2 h24) (vl (pk (b := false) rfl rfl (beq_eq_false_iff_ne.2 h24) rfl) rfl (en (nx (cf rfl rfl (sk (nx (rg (m_ rfl rfl (m_ rfl rfl (m_ rfl rfl (vl (ix k e7 rfl rfl rfl rfl rfl (by omega)) rfl (cm_ (dk := (Kd.sl kPairS)) (x := (turnOf pairs y10)) (S := (s_ ++ s6)) (by kernel_rfl) rfl rfl rfl (sna (snt 1 rfl) (snp 0 rfl)) (fun w_ hs_ => spec_l12Turn w_ (hs_.at 1 rfl) (hs_.at 0 rfl) (by omega) (by have z := notes_0 h1; have y := z.2 _ (List.mem_of_getElem? m11); omega)) (fun cs_ o35 s36 w_ r37 t38 => ?_))))))))))))))))))
        obtain ⟨rfl, A33, c34, rfl, Cr37, Lr37, -⟩ := r37
        exact a_ rfl rfl (en (xn (nx (rg (m_ rfl rfl (vl (ra (c := ((k + 1 : Nat) : Int)) rfl rfl rfl (by omega) (by omega) (by omega)) rfl (a_ rfl rfl (en (lpe (s := (k, pairs, A_, c_, s_)) (k + 1, (turnOf pairs y10), A33, c34, s36) [0, 2] ⟨by omega, ⟨(hinv.1).turn _, serial_on hinv.2 m11 (by grind)⟩, by grind, by have z := turnOf_len pairs y10; omega⟩ (by show notes.length - (k + 1) < notes.length - k; omega) ⟨rfl, rfl, rfl, trivial⟩ rfl)))))))))
    · refine cf rfl (decide_eq_false h4) (xt (xq (xq (xb (nx (sq (rg (a_ rfl rfl (en (nx (rt (ret1 rfl rfl (fun w_ hs_ => ⟨?_, hs_.below⟩)))))))))))))
      exact rb (by have z := serial_0 hinv.2 (by omega); grind [isSerial])
  · refine ct rfl (bne_iff_ne.2 h1) (sq (rg (a_ rfl rfl (en (nx (rt (xr (ret1 rfl rfl (fun w_ hs_ => ⟨?_, hs_.below⟩)))))))))
    exact rb (by grind [isSerial])
/-! slices.IndexFunc[[]impl.Pair,impl.Pair] -/
set_option maxRecDepth 20000 in
set_option maxHeartbeats 2000000 in
theorem slices_IndexFunc_impl_Pair_impl_Pair (w : World) (p : Pair → Bool) {fp : FuncId} {cfp : List Value} (hEp : enters Tryz.prog fp = true) {As : Option Addr} {cs : Nat} {s : List Pair} {ss_ : List Nat} (hs : (Kd.sl kPairS).Rel w [.slice As s.length cs] s [] ss_) (hfp : ∀ (w1 : World) (x0 : Pair), x0 ∈ s → Below w.heap.size w w1 → ∀ (A0_2 : Option Addr) (c0_2 : Nat), ∀ (A0_1 : Option Addr) (c0_1 : Nat), ∀ s0_ : List Nat, kPairS.Rel w1 [.int .i64 x0.id, .slice A0_1 x0.rect.low.length c0_1, .slice A0_2 x0.rect.high.length c0_2] x0 [] s0_ → Calls Tryz.prog fp (([.agg #[.int .i64 x0.id, .slice A0_1 x0.rect.low.length c0_1, .slice A0_2 x0.rect.high.length c0_2]] : List Value) ++ cfp).toArray w1 (fun e_ w2_ => e_ = .returned (.bool (p x0)) ∧ Below w1.heap.size w1 w2_))  : Calls Tryz.prog 93 #[.slice As s.length cs, .func (.func fp) #[] cfp.toArray] w (fun e_ w2_ => e_ = .returned (.int .i64 (idx p s)) ∧ Below w.heap.size w w2_) := by
  have Ls := Kd.sl_len hs; have Cs := Kd.sl_cap hs
  refine fnc (X := X1 19 w) (args := [.slice As s.length cs, .func (.func fp) #[] cfp.toArray]) (l := [(0, .slice As s.length cs), (1, .func (.func fp) #[] cfp.toArray)]) (G := [dat (Kd.sl kPairS) [.slice As s.length cs] s ([]) ss_]) Tryz.func93 rfl rfl rfl ⟨rfl, rfl, trivial⟩ (s0d hs (s0n w)).1 ?_
  refine sq (rg (a_ rfl rfl (en (nx (sq (sq (rg (m_ rfl rfl (vl (ln rfl rfl rfl) rfl (m_ rfl rfl (en (nx (bk ?_)))))))))))))
  refine lp (σ := Nat) (fun k : Nat => [(0, .slice As s.length cs), (1, .func (.func fp) #[] cfp.toArray), (7, .int .i64 ((s.length : Nat) : Int)), (8, .int .i64 ((k : Nat) : Int))])
      (fun k : Nat => [dat (Kd.sl kPairS) [.slice As s.length cs] s ([]) ss_])
      (fun k : Nat => k ≤ s.length ∧ ∀ j x, j < k → s[j]? = some x → p x = false) (fun k : Nat => s.length - k) 0 [0] ⟨Nat.zero_le _, by simp⟩ ⟨rfl, rfl, rfl, rfl, trivial⟩ rfl ?_
  intro k hp_
  obtain ⟨hk, hinv⟩ := hp_
  refine sq (rg (vl (cm rfl rfl rfl rfl) rfl (en (nx (sq ?_)))))
  by_cases h1 : ((k : Nat) : Int) < ((s.length : Nat) : Int)
  · refine ct rfl (decide_eq_true h1) (sk (nx (sq (bk (sq (rg (m_ rfl rfl (a_ rfl rfl (en (nx (sq (rg (m_ rfl rfl (m_ rfl rfl (m_ rfl rfl ?_)))))))))))))))
    refine gx 0 k rfl (by omega) fun y7 p2 cs_ s3 w6 m8 e4 r5 us3 => ?_
    obtain ⟨A9, c10, A11, c12, rfl⟩ := kPairS_sh r5
    refine vl (ix k e4 rfl rfl rfl rfl rfl (by omega)) rfl (vl (ldq 0 rfl rfl rfl rfl rfl rfl rfl) rfl ?_)
    refine gp 0 Kd.Sub.rfl rfl (cs' := [.int .i64 y7.id, .slice A9 y7.rect.low.length c10, .slice A11 y7.rect.high.length c12]) rfl fun s13 w_ rs13 us13 => ?_
    refine cv_ (v := .bool (p y7)) hEp rfl rfl rfl rfl (fun w_ hs_ => hfp w_ y7 (List.mem_of_getElem? m8) hs_.below _ _ _ _ _ (hs_.at 0 rfl)) (en (nx ?_))
    by_cases h14 : p y7 = true
    · refine ct rfl h14 (sq (rg (m_ rfl rfl (a_ rfl rfl (en (nx (rt (xrb (xr (xr (xrb (xr (ret1 rfl rfl (fun w_ hs_ => ⟨?_, hs_.below⟩))))))))))))))
      rw [idx_some hinv m8 h14]
    · exact cf rfl (Bool.eq_false_iff.2 h14) (sk (xn (nx (rg (vl (ra (c := ((k + 1 : Nat) : Int)) rfl rfl rfl (by omega) (by omega) (by omega)) rfl (m_ rfl rfl (en (lpe (s := k) (k + 1) [2] ⟨by omega, idx_step hinv m8 (Bool.eq_false_iff.2 h14)⟩ (by omega) ⟨rfl, rfl, rfl, rfl, trivial⟩ rfl))))))))
  · refine cf rfl (decide_eq_false h1) (xt (xq (xq (xb (nx (sq (rg (a_ rfl rfl (en (nx (rt (ret1 rfl rfl (fun w_ hs_ => ⟨?_, hs_.below⟩)))))))))))))
    rw [idx_none hinv (by omega)]
/-! slices.ContainsFunc[[]impl.Pair,impl.Pair] -/
set_option maxRecDepth 20000 in
set_option maxHeartbeats 2000000 in
theorem slices_ContainsFunc_impl_Pair_impl_Pair (w : World) (p : Pair → Bool) {fp : FuncId} {cfp : List Value} (hEp : enters Tryz.prog fp = true) {As : Option Addr} {cs : Nat} {s : List Pair} {ss_ : List Nat} (hs : (Kd.sl kPairS).Rel w [.slice As s.length cs] s [] ss_) (hfp : ∀ (w1 : World) (x0 : Pair), x0 ∈ s → Below w.heap.size w w1 → ∀ (A0_2 : Option Addr) (c0_2 : Nat), ∀ (A0_1 : Option Addr) (c0_1 : Nat), ∀ s0_ : List Nat, kPairS.Rel w1 [.int .i64 x0.id, .slice A0_1 x0.rect.low.length c0_1, .slice A0_2 x0.rect.high.length c0_2] x0 [] s0_ → Calls Tryz.prog fp (([.agg #[.int .i64 x0.id, .slice A0_1 x0.rect.low.length c0_1, .slice A0_2 x0.rect.high.length c0_2]] : List Value) ++ cfp).toArray w1 (fun e_ w2_ => e_ = .returned (.bool (p x0)) ∧ Below w1.heap.size w1 w2_))  : Calls Tryz.prog 98 #[.slice As s.length cs, .func (.func fp) #[] cfp.toArray] w (fun e_ w2_ => e_ = .returned (.bool (List.any s p)) ∧ Below w.heap.size w w2_) := by
  have Ls := Kd.sl_len hs; have Cs := Kd.sl_cap hs
  refine fnc (X := X1 9 w) (args := [.slice As s.length cs, .func (.func fp) #[] cfp.toArray]) (l := [(0, .slice As s.length cs), (1, .func (.func fp) #[] cfp.toArray)]) (G := [dat (Kd.sl kPairS) [.slice As s.length cs] s ([]) ss_]) Tryz.func98 rfl rfl rfl ⟨rfl, rfl, trivial⟩ (s0d hs (s0n w)).1 ?_
  refine sq (rg (a_ rfl rfl (en (nx (sq (rg (m_ rfl rfl (m_ rfl rfl (cs_ (v := .int .i64 (idx p s)) (by kernel_rfl) rfl rfl rfl (fun w_ hs_ => slices_IndexFunc_impl_Pair_impl_Pair w_ p hEp (hs_.at 0 rfl) (fun w1 x0 m0_ b_ => hfp w1 x0 m0_ (hs_.below.trans (b_.mono hs_.below.size)))) (vl (cm rfl rfl rfl rfl) rfl (a_ rfl rfl (en (nx (rt (ret1 rfl rfl (fun w_ hs_ => ⟨?_, hs_.below⟩))))))))))))))))
  rw [idx_ge]
/-! impl.indexOf$1 -/
set_option maxRecDepth 20000 in
set_option maxHeartbeats 2000000 in
theorem impl_indexOf_1 (w : World) {Ap1 : Option Addr} {cp1 : Nat} {Ap2 : Option Addr} {cp2 : Nat} {p : Pair} {sp_ : List Nat} (hp : kPairS.Rel w [.int .i64 p.id, .slice Ap1 p.rect.low.length cp1, .slice Ap2 p.rect.high.length cp2] p [] sp_)  {id : Int} {sid_ : List Nat} {pid : Addr} (hid : (ptr Kd.i64 pid [.int .i64 id] id sid_).P w)  : Calls Tryz.prog 138 #[.agg #[.int .i64 p.id, .slice Ap1 p.rect.low.length cp1, .slice Ap2 p.rect.high.length cp2], .pointer (some pid)] w (fun e_ w2_ => e_ = .returned (.bool (p.id == id)) ∧ Below w.heap.size w w2_) := by
  refine fnc (X := X1 8 w) (args := [.agg #[.int .i64 p.id, .slice Ap1 p.rect.low.length cp1, .slice Ap2 p.rect.high.length cp2], .pointer (some pid)]) (l := [(0, .agg #[.int .i64 p.id, .slice Ap1 p.rect.low.length cp1, .slice Ap2 p.rect.high.length cp2]), (1, .pointer (some pid))]) (G := [ptr Kd.i64 pid [.int .i64 id] id sid_, dat kPairS [.int .i64 p.id, .slice Ap1 p.rect.low.length cp1, .slice Ap2 p.rect.high.length cp2] p ([]) sp_]) Tryz.func138 rfl rfl rfl ⟨rfl, rfl, trivial⟩ (s0p hid (s0d hp (s0n w))).1 ?_
  refine sq (rg (bx rfl rfl rfl rfl ?_))
  intro b1
  refine a_ rfl rfl (en (nx (sq (rg (vl (fa rfl rfl rfl) rfl (vl (ldb (u := .int .i64 p.id) 0 rfl rfl rfl rfl rfl rfl rfl) rfl (vl (ldq (u := .int .i64 id) 1 rfl rfl rfl rfl rfl rfl rfl) rfl (vl (cm rfl rfl rfl rfl) rfl (a_ rfl rfl (en (nx (rt (ret1 rfl rfl (fun w_ hs_ => ⟨?_, hs_.below⟩))))))))))))))
  rfl
/-! impl.indexOf -/
set_option maxRecDepth 20000 in
set_option maxHeartbeats 2000000 in
theorem impl_indexOf (w : World) (id : Int) {Alist : Option Addr} {clist : Nat} {list : List Pair} {slist_ : List Nat} (hlist : (Kd.sl kPairS).Rel w [.slice Alist list.length clist] list [] slist_)  : Calls Tryz.prog 113 #[.slice Alist list.length clist, .int .i64 id] w (fun e_ w2_ => e_ = .returned (.int .i64 (idx (fun (x0 : Pair) => x0.id == id) list)) ∧ Below w.heap.size w w2_) := by
  have Llist := Kd.sl_len hlist; have Clist := Kd.sl_cap hlist
  refine fnc (X := X1 8 w) (args := [.slice Alist list.length clist, .int .i64 id]) (l := [(0, .slice Alist list.length clist), (1, .int .i64 id)]) (G := [dat (Kd.sl kPairS) [.slice Alist list.length clist] list ([]) slist_]) Tryz.func113 rfl rfl rfl ⟨rfl, rfl, trivial⟩ (s0d hlist (s0n w)).1 ?_
  refine sq (rg (bx rfl rfl rfl rfl ?_))
  intro b1
  refine a_ rfl rfl (en (nx (sq (rg (m_ rfl rfl (vl (mf rfl rfl rfl) rfl (gs Kd.i64 [.int .i64 id] id (fun _ => ⟨rfl, rfl, rfl⟩) ?_)))))))
  refine cs_ (v := .int .i64 (idx (fun (x0 : Pair) => x0.id == id) list)) (by kernel_rfl) rfl rfl rfl (fun w_ hs_ => slices_IndexFunc_impl_Pair_impl_Pair w_ (fun (x0 : Pair) => x0.id == id) (by kernel_rfl) (hs_.at 2 rfl) (fun w1 x0 m0_ b_ _ _ _ _ _ r0_ => impl_indexOf_1 w1  r0_ (ptr_blk ((hs_.step b_).at 1 rfl) ((hs_.step b_).at 0 rfl) rfl))) (a_ rfl rfl (en (nx (rt (ret1 rfl rfl (fun w_ hs_ => ⟨?_, hs_.below⟩))))))
  rfl
/-! impl.hasPairIn$1 -/
set_option maxRecDepth 20000 in
set_option maxHeartbeats 2000000 in
theorem impl_hasPairIn_1 (w : World) {Aq1 : Option Addr} {cq1 : Nat} {Aq2 : Option Addr} {cq2 : Nat} {q : Pair} {sq_ : List Nat} (hq : kPairS.Rel w [.int .i64 q.id, .slice Aq1 q.rect.low.length cq1, .slice Aq2 q.rect.high.length cq2] q [] sq_) {Ap1 : Option Addr} {cp1 : Nat} {Ap2 : Option Addr} {cp2 : Nat} {p : Pair} {sp_ : List Nat} {pp : Addr} (hp : (ptr kPairS pp [.int .i64 p.id, .slice Ap1 p.rect.low.length cp1, .slice Ap2 p.rect.high.length cp2] p sp_).P w)  : Calls Tryz.prog 99 #[.agg #[.int .i64 q.id, .slice Aq1 q.rect.low.length cq1, .slice Aq2 q.rect.high.length cq2], .pointer (some pp)] w (fun e_ w2_ => e_ = .returned (.bool (decide (p = q))) ∧ Below w.heap.size w w2_) := by
  refine fnc (X := X1 7 w) (args := [.agg #[.int .i64 q.id, .slice Aq1 q.rect.low.length cq1, .slice Aq2 q.rect.high.length cq2], .pointer (some pp)]) (l := [(0, .agg #[.int .i64 q.id, .slice Aq1 q.rect.low.length cq1, .slice Aq2 q.rect.high.length cq2]), (1, .pointer (some pp))]) (G := [ptr kPairS pp [.int .i64 p.id, .slice Ap1 p.rect.low.length cp1, .slice Ap2 p.rect.high.length cp2] p sp_, dat kPairS [.int .i64 q.id, .slice Aq1 q.rect.low.length cq1, .slice Aq2 q.rect.high.length cq2] q ([]) sq_]) Tryz.func99 rfl rfl rfl ⟨rfl, rfl, trivial⟩ (s0p hp (s0d hq (s0n w))).1 ?_
  refine sq (rg (bx rfl rfl rfl rfl ?_))
  intro b1
  refine a_ rfl rfl (en (nx (sq (rg (vl (ldq 1 rfl rfl rfl rfl rfl rfl rfl) rfl (vl (ldb 0 rfl rfl rfl rfl rfl rfl rfl) rfl ?_))))))
  refine gp 1 Kd.Sub.rfl rfl (cs' := [.int .i64 p.id, .slice Ap1 p.rect.low.length cp1, .slice Ap2 p.rect.high.length cp2]) rfl fun s2 w_ rs2 us2 => ?_
  refine cs_ (v := .bool (decide (p = q))) (by kernel_rfl) rfl rfl rfl (fun w_ hs_ => impl_samePair w_ (hs_.at 0 rfl) (hs_.at 3 rfl)) (a_ rfl rfl (en (nx (rt (ret1 rfl rfl (fun w_ hs_ => ⟨?_, hs_.below⟩))))))
  rfl
/-! impl.hasPairIn -/
set_option maxRecDepth 20000 in
set_option maxHeartbeats 2000000 in
theorem impl_hasPairIn (w : World) {Alist : Option Addr} {clist : Nat} {list : List Pair} {slist_ : List Nat} (hlist : (Kd.sl kPairS).Rel w [.slice Alist list.length clist] list [] slist_) {Ap1 : Option Addr} {cp1 : Nat} {Ap2 : Option Addr} {cp2 : Nat} {p : Pair} {sp_ : List Nat} (hp : kPairS.Rel w [.int .i64 p.id, .slice Ap1 p.rect.low.length cp1, .slice Ap2 p.rect.high.length cp2] p [] sp_)  : Calls Tryz.prog 59 #[.slice Alist list.length clist, .agg #[.int .i64 p.id, .slice Ap1 p.rect.low.length cp1, .slice Ap2 p.rect.high.length cp2]] w (fun e_ w2_ => e_ = .returned (.bool (List.any list (fun (x0 : Pair) => decide (p = x0)))) ∧ Below w.heap.size w w2_) := by
  have Llist := Kd.sl_len hlist; have Clist := Kd.sl_cap hlist
  refine fnc (X := X1 8 w) (args := [.slice Alist list.length clist, .agg #[.int .i64 p.id, .slice Ap1 p.rect.low.length cp1, .slice Ap2 p.rect.high.length cp2]]) (l := [(0, .slice Alist list.length clist), (1, .agg #[.int .i64 p.id, .slice Ap1 p.rect.low.length cp1, .slice Ap2 p.rect.high.length cp2])]) (G := [dat kPairS [.int .i64 p.id, .slice Ap1 p.rect.low.length cp1, .slice Ap2 p.rect.high.length cp2] p ([]) sp_, dat (Kd.sl kPairS) [.slice Alist list.length clist] list ([]) slist_]) Tryz.func59 rfl rfl rfl ⟨rfl, rfl, trivial⟩ (s0d hp (s0d hlist (s0n w))).1 ?_
  refine sq (rg (bx rfl rfl rfl rfl ?_))
  intro b1
  refine a_ rfl rfl (en (nx (sq (rg (m_ rfl rfl (vl (mf rfl rfl rfl) rfl (cs_ (v := .bool (List.any list (fun (x0 : Pair) => decide (p = x0)))) (by kernel_rfl) rfl rfl rfl (fun w_ hs_ => slices_ContainsFunc_impl_Pair_impl_Pair w_ (fun (x0 : Pair) => decide (p = x0)) (by kernel_rfl) (hs_.at 2 rfl) (fun w1 x0 m0_ b_ _ _ _ _ _ r0_ => impl_hasPairIn_1 w1  r0_ (ptr_blk ((hs_.step b_).at 0 rfl) ((hs_.step b_).at 1 rfl) rfl))) (a_ rfl rfl (en (nx (rt (ret1 rfl rfl (fun w_ hs_ => ⟨?_, hs_.below⟩)))))))))))))
  rfl
/-! (impl.Note).fitsTo -/
set_option maxRecDepth 20000 in
set_option maxHeartbeats 2000000 in
theorem impl_Note_fitsTo (w : World) {An5 : Option Addr} {cn5 : Nat} {An6 : Option Addr} {cn6 : Nat} {An8 : Option Addr} {cn8 : Nat} {An9 : Option Addr} {cn9 : Nat} {An10 : Option Addr} {cn10 : Nat} {An13 : Option Addr} {cn13 : Nat} {n : Note} {sn_ : List Nat} (hn : kNoteS.Rel w [.int .i64 n.at_, .int .i64 n.kind, .int .i64 n.client, .int .i64 n.op.kind, .int .i64 n.op.pair.id, .slice An5 n.op.pair.rect.low.length cn5, .slice An6 n.op.pair.rect.high.length cn6, .int .i64 n.op.query.kind, .slice An8 n.op.query.rect.low.length cn8, .slice An9 n.op.query.rect.high.length cn9, .slice An10 n.op.query.point.length cn10, .int .i64 n.op.query.k, .int .i64 n.answer.code, .slice An13 n.answer.pairs.length cn13] n [] sn_) {Apairs : Option Addr} {cpairs : Nat} {pairs : List Pair} {spairs_ : List Nat} (hpairs : (Kd.sl kPairS).Rel w [.slice Apairs pairs.length cpairs] pairs [] spairs_)  : Calls Tryz.prog 80 #[.agg #[.int .i64 n.at_, .int .i64 n.kind, .int .i64 n.client, .int .i64 n.op.kind, .int .i64 n.op.pair.id, .slice An5 n.op.pair.rect.low.length cn5, .slice An6 n.op.pair.rect.high.length cn6, .int .i64 n.op.query.kind, .slice An8 n.op.query.rect.low.length cn8, .slice An9 n.op.query.rect.high.length cn9, .slice An10 n.op.query.point.length cn10, .int .i64 n.op.query.k, .int .i64 n.answer.code, .slice An13 n.answer.pairs.length cn13], .slice Apairs pairs.length cpairs] w (fun e_ w2_ => e_ = .returned (.bool (fitsN pairs n)) ∧ Below w.heap.size w w2_) := by
  have Lpairs := Kd.sl_len hpairs; have Cpairs := Kd.sl_cap hpairs
  refine fnc (X := X1 57 w) (args := [.agg #[.int .i64 n.at_, .int .i64 n.kind, .int .i64 n.client, .int .i64 n.op.kind, .int .i64 n.op.pair.id, .slice An5 n.op.pair.rect.low.length cn5, .slice An6 n.op.pair.rect.high.length cn6, .int .i64 n.op.query.kind, .slice An8 n.op.query.rect.low.length cn8, .slice An9 n.op.query.rect.high.length cn9, .slice An10 n.op.query.point.length cn10, .int .i64 n.op.query.k, .int .i64 n.answer.code, .slice An13 n.answer.pairs.length cn13], .slice Apairs pairs.length cpairs]) (l := [(0, .agg #[.int .i64 n.at_, .int .i64 n.kind, .int .i64 n.client, .int .i64 n.op.kind, .int .i64 n.op.pair.id, .slice An5 n.op.pair.rect.low.length cn5, .slice An6 n.op.pair.rect.high.length cn6, .int .i64 n.op.query.kind, .slice An8 n.op.query.rect.low.length cn8, .slice An9 n.op.query.rect.high.length cn9, .slice An10 n.op.query.point.length cn10, .int .i64 n.op.query.k, .int .i64 n.answer.code, .slice An13 n.answer.pairs.length cn13]), (1, .slice Apairs pairs.length cpairs)]) (G := [dat (Kd.sl kPairS) [.slice Apairs pairs.length cpairs] pairs ([]) spairs_, dat kNoteS [.int .i64 n.at_, .int .i64 n.kind, .int .i64 n.client, .int .i64 n.op.kind, .int .i64 n.op.pair.id, .slice An5 n.op.pair.rect.low.length cn5, .slice An6 n.op.pair.rect.high.length cn6, .int .i64 n.op.query.kind, .slice An8 n.op.query.rect.low.length cn8, .slice An9 n.op.query.rect.high.length cn9, .slice An10 n.op.query.point.length cn10, .int .i64 n.op.query.k, .int .i64 n.answer.code, .slice An13 n.answer.pairs.length cn13] n ([]) sn_]) Tryz.func80 rfl rfl rfl ⟨rfl, rfl, trivial⟩ (s0d hpairs (s0d hn (s0n w))).1 ?_
  refine sq (rg (bx rfl rfl rfl rfl ?_))
  intro b1
  refine a_ rfl rfl (en (nx (sq (rg (vl (fa rfl rfl rfl) rfl (vl (fa rfl rfl rfl) rfl (vl (ldb (u := .int .i64 n.answer.code) 0 rfl rfl rfl rfl rfl rfl rfl) rfl (a_ rfl rfl (en (nx (sq (bk (sq (rg (vl (fa rfl rfl rfl) rfl (vl (fa rfl rfl rfl) rfl (vl (ldb (u := .int .i64 n.op.kind) 0 rfl rfl rfl rfl rfl rfl rfl) rfl (vl (cm rfl rfl rfl rfl) rfl (m_ rfl rfl ?_)))))))))))))))))))
  by_cases h2 : n.op.kind = (1 : Int)
  · refine vg (mv rfl rfl) rfl rfl (beq_iff_eq.2 h2) (vg (fa rfl rfl rfl) rfl rfl (beq_iff_eq.2 h2) (vg (fa rfl rfl rfl) rfl rfl (beq_iff_eq.2 h2) (vg (fa rfl rfl rfl) rfl rfl (beq_iff_eq.2 h2) (vg (ldb (u := .int .i64 n.op.pair.id) 0 rfl rfl rfl rfl rfl rfl rfl) rfl rfl (beq_iff_eq.2 h2) (gw rfl rfl (beq_iff_eq.2 h2) (cs_ (v := .int .i64 (idx (fun (x0 : Pair) => x0.id == n.op.pair.id) pairs)) (by kernel_rfl) rfl rfl rfl (fun w_ hs_ => impl_indexOf w_ _ (hs_.at 1 rfl)) (vg (cm rfl rfl rfl rfl) rfl rfl (beq_iff_eq.2 h2) (vl (pk (b := true) rfl rfl (beq_iff_eq.2 h2) rfl) rfl (a_ rfl rfl (en (nx ?_)))))))))))
    by_cases h3 : (0 : Int) ≤ (idx (fun (x0 : Pair) => x0.id == n.op.pair.id) pairs)
    · refine ct rfl (decide_eq_true h3) (sq (rg (m_ rfl rfl (vl (cm rfl rfl rfl rfl) rfl (a_ rfl rfl (en (nx (rt (xrb (xr (ret1 rfl rfl (fun w_ hs_ => ⟨?_, hs_.below⟩))))))))))))
      exact rb (by grind [fitsN])
    · refine cf rfl (decide_eq_false h3) (sq (rg (vl (fa rfl rfl rfl) rfl (vl (fa rfl rfl rfl) rfl (vl (ldb (u := .int .i64 n.op.kind) 0 rfl rfl rfl rfl rfl rfl rfl) rfl (vl (cm rfl rfl rfl rfl) rfl (a_ rfl rfl (en (nx (ct rfl (beq_iff_eq.2 h2) (sq (rg (m_ rfl rfl (vl (cm rfl rfl rfl rfl) rfl (m_ rfl rfl ?_)))))))))))))))
      by_cases h4 : n.answer.code = (0 : Int)
      · refine sg rfl rfl (beq_iff_eq.2 h4) (sg rfl rfl (beq_iff_eq.2 h4) (vl (pk (b := true) rfl rfl (beq_iff_eq.2 h4) rfl) rfl (a_ rfl rfl (en (nx (rt (xrb (xr (ret1 rfl rfl (fun w_ hs_ => ⟨?_, hs_.below⟩))))))))))
        exact rb (by grind [fitsN])
      · refine vg (mv rfl rfl) rfl rfl (beq_eq_false_iff_ne.2 h4) (vg (cm rfl rfl rfl rfl) rfl rfl (beq_eq_false_iff_ne.2 h4) (vl (pk (b := false) rfl rfl (beq_eq_false_iff_ne.2 h4) rfl) rfl (a_ rfl rfl (en (nx (rt (xrb (xr (ret1 rfl rfl (fun w_ hs_ => ⟨?_, hs_.below⟩))))))))))
        exact rb (by grind [fitsN])
  · refine sg rfl rfl (beq_eq_false_iff_ne.2 h2) (sg rfl rfl (beq_eq_false_iff_ne.2 h2) (sg rfl rfl (beq_eq_false_iff_ne.2 h2) (sg rfl rfl (beq_eq_false_iff_ne.2 h2) (sg rfl rfl (beq_eq_false_iff_ne.2 h2) (sg rfl rfl (beq_eq_false_iff_ne.2 h2) (sg rfl rfl (beq_eq_false_iff_ne.2 h2) (vl (pk (b := false) rfl rfl (beq_eq_false_iff_ne.2 h2) rfl) rfl (a_ rfl rfl (en (nx (cf rfl rfl (sq (rg (vl (fa rfl rfl rfl) rfl (vl (fa rfl rfl rfl) rfl (vl (ldb (u := .int .i64 n.op.kind) 0 rfl rfl rfl rfl rfl rfl rfl) rfl (vl (cm rfl rfl rfl rfl) rfl (a_ rfl rfl (en (nx (cf rfl (beq_eq_false_iff_ne.2 h2) (sq (rg (vl (fa rfl rfl rfl) rfl (vl (fa rfl rfl rfl) rfl (vl (ldb (u := .int .i64 n.op.kind) 0 rfl rfl rfl rfl rfl rfl rfl) rfl (vl (cm rfl rfl rfl rfl) rfl (m_ rfl rfl ?_))))))))))))))))))))))))))))
    by_cases h5 : n.op.kind = (2 : Int)
    · refine vg (mv rfl rfl) rfl rfl (beq_iff_eq.2 h5) (vg (fa rfl rfl rfl) rfl rfl (beq_iff_eq.2 h5) (vg (fa rfl rfl rfl) rfl rfl (beq_iff_eq.2 h5) (vg (ldb 0 rfl rfl rfl rfl rfl rfl rfl) rfl rfl (beq_iff_eq.2 h5) (gw rfl rfl (beq_iff_eq.2 h5) ?_))))
      refine gd 2 kNoteS_p4_3 rfl (cs' := [.int .i64 n.op.pair.id, .slice An5 n.op.pair.rect.low.length cn5, .slice An6 n.op.pair.rect.high.length cn6]) rfl fun s6 w_ rs6 us6 => ?_
      refine cs_ (v := .bool (List.any pairs (fun (x0 : Pair) => decide (n.op.pair = x0)))) (by kernel_rfl) rfl rfl rfl (fun w_ hs_ => impl_hasPairIn w_ (hs_.at 2 rfl) (hs_.at 0 rfl)) (vl (pk (b := true) rfl rfl (beq_iff_eq.2 h5) rfl) rfl (a_ rfl rfl (en (nx ?_))))
      by_cases h7 : List.any pairs (fun (x0 : Pair) => decide (n.op.pair = x0)) = true
      · refine ct rfl h7 (sq (rg (m_ rfl rfl (vl (cm rfl rfl rfl rfl) rfl (a_ rfl rfl (en (nx (rt (xrb (xr (ret1 rfl rfl (fun w_ hs_ => ⟨?_, hs_.below⟩))))))))))))
        exact rb (by grind [fitsN])
      · refine cf rfl (Bool.eq_false_iff.2 h7) (sq (rg (vl (fa rfl rfl rfl) rfl (vl (fa rfl rfl rfl) rfl (vl (ldb (u := .int .i64 n.op.kind) 1 rfl rfl rfl rfl rfl rfl rfl) rfl (vl (cm rfl rfl rfl rfl) rfl (a_ rfl rfl (en (nx (ct rfl (beq_iff_eq.2 h5) (sq (rg (m_ rfl rfl (vl (cm rfl rfl rfl rfl) rfl (a_ rfl rfl (en (nx (rt (xrb (xr (ret1 rfl rfl (fun w_ hs_ => ⟨?_, hs_.below⟩))))))))))))))))))))))
        exact rb (by grind [fitsN])
    · refine sg rfl rfl (beq_eq_false_iff_ne.2 h5) (sg rfl rfl (beq_eq_false_iff_ne.2 h5) (sg rfl rfl (beq_eq_false_iff_ne.2 h5) (sg rfl rfl (beq_eq_false_iff_ne.2 h5) (sg rfl rfl (beq_eq_false_iff_ne.2 h5) (vl (pk (b := false) rfl rfl (beq_eq_false_iff_ne.2 h5) rfl) rfl (a_ rfl rfl (en (nx (cf rfl rfl (sq (rg (vl (fa rfl rfl rfl) rfl (vl (fa rfl rfl rfl) rfl (vl (ldb (u := .int .i64 n.op.kind) 0 rfl rfl rfl rfl rfl rfl rfl) rfl (vl (cm rfl rfl rfl rfl) rfl (a_ rfl rfl (en (nx (cf rfl (beq_eq_false_iff_ne.2 h5) (sk (xn (nx (sq (rg (a_ rfl rfl (en (nx (rt (ret1 rfl rfl (fun w_ hs_ => ⟨?_, hs_.below⟩))))))))))))))))))))))))))))))
      exact rb (by grind [fitsN])
end Go.Proofs.YtkdiaknbndmajaaGreat.Sx
