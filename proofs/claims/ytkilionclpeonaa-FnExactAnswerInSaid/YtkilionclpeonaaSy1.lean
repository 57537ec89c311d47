/- What functions of the program answer, each at every input that its row names; walked through their code. -/
import Derived.Test.YtkilionclpeonaaSy0
namespace Go.Proofs.Ytkilionclpeonaa.Sx
open Go Go.RowKit Go.Proofs
set_option linter.unusedVariables false
set_option linter.unusedSimpArgs false
def tab1 : Tab := { size := [(2, 1, false), (35, 2, true), (68, 3, true)], off := [((68, 0), 0), ((68, 1), 1)], elem := [(30, 68)] }
theorem tab_ok1 : tab1.check Try.prog = true := by kernel_rfl
noncomputable abbrev X1 (N : Nat) (w : World) : Cx := ⟨Try.prog, tab1, tab_ok1, wide, N, w, none, []⟩
theorem bld68 : bld Try.prog 68 = some ([(0, 1), (1, 2)], [.int .i64 0, .slice none 0 0, .slice none 0 0]) := by kernel_rfl

/-! impl.isId -/
set_option maxRecDepth 20000 in
set_option maxHeartbeats 2000000 in
theorem impl_isId (w : World) (id : Int)  : Calls Try.prog 78 #[.int .i64 id] w (fun e_ w2_ => e_ = .returned (.bool (within id 0 999)) ∧ Below w.heap.size w w2_) := by
  refine fnc (X := X1 5 w) (args := [.int .i64 id]) (l := [(0, .int .i64 id)]) (G := []) Try.func78 rfl rfl rfl ⟨rfl, trivial⟩ (s0n w).1 ?_
  refine sq (rg (a_ rfl rfl (en (nx (sq (rg (m_ rfl rfl (cs_ (v := .bool (within id 0 999)) (by kernel_rfl) rfl rfl rfl (fun w_ hs_ => impl_within w_ _ _ _) (a_ rfl rfl (en (nx (rt (ret1 rfl rfl (fun w_ hs_ => ⟨?_, hs_.below⟩))))))))))))))
  rfl
def pairFault (p : Pair) (dims : Int) : Int := if within p.id 0 999 = true then rectFault p.rect dims else 3
/-! impl.pairFault -/
set_option maxRecDepth 20000 in
set_option maxHeartbeats 2000000 in
theorem impl_pairFault (w : World) (dims : Int) {Ap1 : Option Addr} {cp1 : Nat} {Ap2 : Option Addr} {cp2 : Nat} {p : Pair} {sp_ : List Nat} (hp : kPairS.Rel w [.int .i64 p.id, .slice Ap1 p.rect.low.length cp1, .slice Ap2 p.rect.high.length cp2] p [] sp_)  : Calls Try.prog 58 #[.agg #[.int .i64 p.id, .slice Ap1 p.rect.low.length cp1, .slice Ap2 p.rect.high.length cp2], .int .i64 dims] w (fun e_ w2_ => e_ = .returned (.int .i64 (pairFault p dims)) ∧ Below w.heap.size w w2_) := by
  refine fnc (X := X1 13 w) (args := [.agg #[.int .i64 p.id, .slice Ap1 p.rect.low.length cp1, .slice Ap2 p.rect.high.length cp2], .int .i64 dims]) (l := [(0, .agg #[.int .i64 p.id, .slice Ap1 p.rect.low.length cp1, .slice Ap2 p.rect.high.length cp2]), (1, .int .i64 dims)]) (G := [dat kPairS [.int .i64 p.id, .slice Ap1 p.rect.low.length cp1, .slice Ap2 p.rect.high.length cp2] p ([]) sp_]) Try.func58 rfl rfl rfl ⟨rfl, rfl, trivial⟩ (s0d hp (s0n w)).1 ?_
  refine sq (rg (bx rfl rfl rfl rfl ?_))
  intro b1
  refine a_ rfl rfl (en (nx (sq (sq (rg (vl (fa rfl rfl rfl) rfl (vl (ldb (u := .int .i64 p.id) 0 rfl rfl rfl rfl rfl rfl rfl) rfl (cs_ (v := .bool (within p.id 0 999)) (by kernel_rfl) rfl rfl rfl (fun w_ hs_ => impl_isId w_ _) (vl (nt rfl rfl) rfl (en (nx ?_)))))))))))
  by_cases h2 : within p.id 0 999 = true
  · refine cf rfl (not_f h2) (sk (nx (sq (rg (vl (fa rfl rfl rfl) rfl (vl (ldb 0 rfl rfl rfl rfl rfl rfl rfl) rfl (m_ rfl rfl ?_)))))))
    refine gd 1 kPairS_p1_2 rfl (cs' := [.slice Ap1 p.rect.low.length cp1, .slice Ap2 p.rect.high.length cp2]) rfl fun s3 w_ rs3 us3 => ?_
    refine cs_ (v := .int .i64 (rectFault p.rect dims)) (by kernel_rfl) rfl rfl rfl (fun w_ hs_ => impl_RectFault w_ _ (hs_.at 0 rfl)) (a_ rfl rfl (en (nx (rt (ret1 rfl rfl (fun w_ hs_ => ⟨?_, hs_.below⟩))))))
    simp [pairFault, h2]
  · refine ct rfl (not_t (Bool.eq_false_iff.2 h2)) (sq (rg (a_ rfl rfl (en (nx (rt (xr (ret1 rfl rfl (fun w_ hs_ => ⟨?_, hs_.below⟩)))))))))
    simp [pairFault, h2]
/-! spec.l2Pair -/
set_option maxRecDepth 20000 in
set_option maxHeartbeats 2000000 in
theorem spec_l2Pair (w : World) (dims : Int) {Ap1 : Option Addr} {cp1 : Nat} {Ap2 : Option Addr} {cp2 : Nat} {p : Pair} {sp_ : List Nat} {pp : Addr} (hp : (ptr kPairS pp [.int .i64 p.id, .slice Ap1 p.rect.low.length cp1, .slice Ap2 p.rect.high.length cp2] p sp_).P w)  : Calls Try.prog 51 #[.pointer (some pp), .int .i64 dims] w (fun e_ w2_ => e_ = .returned (.int .i64 (pairFault p dims)) ∧ Below w.heap.size w w2_) := by
  refine fnc (X := X1 17 w) (args := [.pointer (some pp), .int .i64 dims]) (l := [(0, .pointer (some pp)), (1, .int .i64 dims)]) (G := [ptr kPairS pp [.int .i64 p.id, .slice Ap1 p.rect.low.length cp1, .slice Ap2 p.rect.high.length cp2] p sp_]) Try.func51 rfl rfl rfl ⟨rfl, rfl, trivial⟩ (s0p hp (s0n w)).1 ?_
  refine sq (rg (a_ rfl rfl (en (nx (sq (sq (rg (m_ rfl rfl (vl (nc rfl rfl) rfl (vl (fa rfl rfl rfl) rfl (vl (ldp (u := .int .i64 p.id) 0 rfl rfl rfl rfl rfl rfl rfl) rfl (cs_ (v := .bool (within p.id 0 999)) (by kernel_rfl) rfl rfl rfl (fun w_ hs_ => spec_l1In w_ _ _ _) (vl (nt rfl rfl) rfl (en (nx ?_)))))))))))))))
  by_cases h1 : within p.id 0 999 = true
  · refine cf rfl (not_f h1) (sk (nx (sq (rg (m_ rfl rfl (vl (nc rfl rfl) rfl (vl (fa rfl rfl rfl) rfl (vl (ldp 0 rfl rfl rfl rfl rfl rfl rfl) rfl (m_ rfl rfl ?_)))))))))
    refine gp 0 kPairS_p1_2 rfl (cs' := [.slice Ap1 p.rect.low.length cp1, .slice Ap2 p.rect.high.length cp2]) rfl fun s2 w_ rs2 us2 => ?_
    refine cs_ (v := .int .i64 (rectFault p.rect dims)) (by kernel_rfl) rfl rfl rfl (fun w_ hs_ => spec_RectFault w_ _ (hs_.at 0 rfl)) (a_ rfl rfl (en (nx (rt (ret1 rfl rfl (fun w_ hs_ => ⟨?_, hs_.below⟩))))))
    simp [pairFault, h1]
  · refine ct rfl (not_t (Bool.eq_false_iff.2 h1)) (sq (rg (a_ rfl rfl (en (nx (rt (xr (ret1 rfl rfl (fun w_ hs_ => ⟨?_, hs_.below⟩)))))))))
    simp [pairFault, h1]
/-! spec.l2Copy -/
set_option maxRecDepth 20000 in
set_option maxHeartbeats 2000000 in
theorem spec_l2Copy (w : World) {Ap1 : Option Addr} {cp1 : Nat} {Ap2 : Option Addr} {cp2 : Nat} {p : Pair} {sp_ : List Nat} {pp : Addr} (hp : (ptr kPairS pp [.int .i64 p.id, .slice Ap1 p.rect.low.length cp1, .slice Ap2 p.rect.high.length cp2] p sp_).P w) (hz : szPair p ≤ 1048576) : Calls Try.prog 77 #[.pointer (some pp)] w (Made kPairO w p []) := by
  unfold szPair at hz
  refine fnc (X := X1 12 w) (args := [.pointer (some pp)]) (l := [(0, .pointer (some pp))]) (G := [ptr kPairS pp [.int .i64 p.id, .slice Ap1 p.rect.low.length cp1, .slice Ap2 p.rect.high.length cp2] p sp_]) Try.func77 rfl rfl rfl ⟨rfl, trivial⟩ (s0p hp (s0n w)).1 ?_
  refine sq (rg (al zero68 rfl rfl rfl ?_))
  intro b1
  refine en (nx (sq ?_))
  refine gq 1 kPairS_p1_2 rfl (cs' := [.slice Ap1 p.rect.low.length cp1, .slice Ap2 p.rect.high.length cp2]) rfl fun s2 w_ rs2 us2 => ?_
  refine rd (Gq := [ptr kRectS (pp.add 1) [.slice Ap1 p.rect.low.length cp1, .slice Ap2 p.rect.high.length cp2] p.rect s2, ptr kPairS pp [.int .i64 p.id, .slice Ap1 p.rect.low.length cp1, .slice Ap2 p.rect.high.length cp2] p sp_]) [0, 1] rfl (qv 0 rfl (mv rfl rfl) rfl (by kernel_rfl) (qv 1 rfl (nc rfl rfl) rfl (by kernel_rfl) (qv 2 rfl (fa rfl rfl rfl) rfl (by kernel_rfl) (qv 3 rfl (ldp (u := .int .i64 p.id) 1 rfl rfl rfl rfl rfl rfl rfl) rfl (by kernel_rfl) (qv 4 rfl (mv rfl rfl) rfl (by kernel_rfl) (qv 5 rfl (nc rfl rfl) rfl (by kernel_rfl) (qv 6 rfl (fa rfl rfl rfl) rfl (by kernel_rfl) (q1 7 [0, 1] rfl (by kernel_rfl) rfl (cm_ (dk := kRectO) (x := p.rect) (S := []) (by kernel_rfl) rfl rfl rfl sn0 (fun w_ hs_ => by exact spec_l1Copy w_ (hs_.at 0 rfl) (by omega)) (fun cs_ o11 s12 w_ r13 t14 => ?_))))))))))
  obtain ⟨A7, c8, A9, c10, rfl⟩ := kRectO_sh r13
  exact qn (qv 8 rfl (bd bld68 rfl rfl rfl) rfl (by kernel_rfl) (q1 9 [1, 2] rfl (by kernel_rfl) rfl (f2 (sto rfl rfl rfl rfl rfl rfl rfl (cs' := [.int .i64 p.id, .slice A7 p.rect.low.length c8, .slice A9 p.rect.high.length c10]) rfl (qn (qe [2, 2] (by kernel_rfl) rfl (nx (rt (f1 (gs Kd.i64 [.int .i64 p.id] p.id (fun _ => ⟨rfl, rfl, rfl⟩) (gj (da := (Kd.via Kd.i64 Pair.id)) (db := (Kd.via kRectO Pair.rect)) (x := p) (cs := [.int .i64 p.id, .slice A7 p.rect.low.length c8, .slice A9 p.rect.high.length c10]) rfl (retc 1 rfl rfl rfl rfl rfl rfl (fun w_ hs_ => made hs_ rfl (see_app see_nil t14))))))))))))))
def rises (l : List Pair) : Bool := !adj (fun a b => decide (b.id ≤ a.id)) l
theorem rises_t {l : List Pair} {k : Nat} (h : ∀ j a b, j < k → l[j]? = some a → l[j + 1]? = some b → decide (b.id ≤ a.id) = false) (hk : ¬ ((k + 1 : Nat) : Int) < ((l.length : Nat) : Int)) : rises l = true := by
  unfold rises; rw [adj_f h (by omega)]; rfl
theorem rises_f {l : List Pair} {k : Nat} {a b : Pair} (ha : l[k]? = some a) (hb : l[k + 1]? = some b) (h : b.id ≤ a.id) : rises l = false := by unfold rises; rw [adj_t ha hb (decide_eq_true h)]; rfl
def modelFault (l : List Pair) (dims : Int) : Int :=
  if isDims dims = true then
    if (l.length : Int) ≤ 60 then
      if firstFault (fun p => pairFault p dims) l = 0 then if rises l = true then 0 else 1 else firstFault (fun p => pairFault p dims) l
    else 2
  else 3
/-! impl.ModelFault -/
set_option maxRecDepth 20000 in
set_option maxHeartbeats 2000000 in
theorem impl_ModelFault (w : World) (dims : Int) {Alist : Option Addr} {clist : Nat} {list : List Pair} {slist_ : List Nat} (hlist : (Kd.sl kPairS).Rel w [.slice Alist list.length clist] list [] slist_)  : Calls Try.prog 33 #[.slice Alist list.length clist, .int .i64 dims] w (fun e_ w2_ => e_ = .returned (.int .i64 (modelFault list dims)) ∧ Below w.heap.size w w2_) := by
  have Llist := Kd.sl_len hlist; have Clist := Kd.sl_cap hlist
  refine fnc (X := X1 48 w) (args := [.slice Alist list.length clist, .int .i64 dims]) (l := [(0, .slice Alist list.length clist), (1, .int .i64 dims)]) (G := [dat (Kd.sl kPairS) [.slice Alist list.length clist] list ([]) slist_]) Try.func33 rfl rfl rfl ⟨rfl, rfl, trivial⟩ (s0d hlist (s0n w)).1 ?_
  refine sq (rg (a_ rfl rfl (en (nx (sq (bk (sq (rg (m_ rfl rfl (cs_ (v := .bool (isDims dims)) (by kernel_rfl) rfl rfl rfl (fun w_ hs_ => impl_isDims w_ _) (vl (nt rfl rfl) rfl (a_ rfl rfl (en (nx ?_))))))))))))))
  by_cases h1 : isDims dims = true
  · refine cf rfl (not_f h1) (sq (rg (m_ rfl rfl (vl (ln rfl rfl rfl) rfl (vl (cm rfl rfl rfl rfl) rfl (a_ rfl rfl (en (nx ?_))))))))
    by_cases h2 : (60 : Int) < ((list.length : Nat) : Int)
    · refine ct rfl (decide_eq_true h2) (sq (rg (a_ rfl rfl (en (nx (rt (xrb (xr (ret1 rfl rfl (fun w_ hs_ => ⟨?_, hs_.below⟩))))))))))
      exact ri (by grind [modelFault, isDims])
    · refine cf rfl (decide_eq_false h2) (sk (xn (nx (sq (sq (rg (m_ rfl rfl (vl (ln rfl rfl rfl) rfl (m_ rfl rfl (en (nx (bk ?_))))))))))))
      refine lp (σ := Nat) (fun k : Nat => [(0, .slice Alist list.length clist), (1, .int .i64 dims), (17, .slice Alist list.length clist), (18, .int .i64 ((list.length : Nat) : Int)), (19, .int .i64 ((k : Nat) : Int))])
          (fun k : Nat => [dat (Kd.sl kPairS) [.slice Alist list.length clist] list ([]) slist_])
          (fun k : Nat => k ≤ list.length ∧ ∀ j x, j < k → list[j]? = some x → pairFault x dims = 0) (fun k : Nat => list.length - k) 0 [0] ⟨Nat.zero_le _, by simp⟩ ⟨rfl, rfl, rfl, rfl, rfl, trivial⟩ rfl ?_
      intro k hp_
      obtain ⟨hk, hinv⟩ := hp_
      refine sq (rg (vl (cm rfl rfl rfl rfl) rfl (en (nx (sq ?_)))))
      by_cases h3 : ((k : Nat) : Int) < ((list.length : Nat) : Int)
      · refine ct rfl (decide_eq_true h3) (sk (nx (sq (bk (sq (rg ?_))))))
        refine gx 0 k rfl (by omega) fun y9 p4 cs_ s5 w8 m10 e6 r7 us5 => ?_
        obtain ⟨A11, c12, A13, c14, rfl⟩ := kPairS_sh r7
        refine vl (ix k e6 rfl rfl rfl rfl rfl (by omega)) rfl (vl (ldq 0 rfl rfl rfl rfl rfl rfl rfl) rfl (al zero68 rfl rfl rfl ?_))
        intro b15
        refine sto rfl rfl rfl rfl rfl rfl rfl (cs' := [.int .i64 y9.id, .slice A11 y9.rect.low.length c12, .slice A13 y9.rect.high.length c14]) rfl (en (nx (sq (rg (vl (ldb 0 rfl rfl rfl rfl rfl rfl rfl) rfl (m_ rfl rfl ?_))))))
        refine gp 1 Kd.Sub.rfl rfl (cs' := [.int .i64 y9.id, .slice A11 y9.rect.low.length c12, .slice A13 y9.rect.high.length c14]) rfl fun s16 w_ rs16 us16 => ?_
        refine cs_ (v := .int .i64 (pairFault y9 dims)) (by kernel_rfl) rfl rfl rfl (fun w_ hs_ => impl_pairFault w_ _ (hs_.at 0 rfl)) (a_ rfl rfl (en (nx (sq (rg (m_ rfl rfl (vl (cm rfl rfl rfl rfl) rfl (en (nx ?_)))))))))
        by_cases h17 : (pairFault y9 dims) = (0 : Int)
        · exact cf rfl (bne_eq_false_iff_eq.2 h17) (sk (xn (nx (rg (vl (ra (c := ((k + 1 : Nat) : Int)) rfl rfl rfl (by omega) (by omega) (by omega)) rfl (m_ rfl rfl (en (lpe (s := k) (k + 1) [3] ⟨by omega, zero_step (f := fun p => pairFault p dims) hinv m10 h17⟩ (by omega) ⟨rfl, rfl, rfl, rfl, rfl, trivial⟩ rfl))))))))
        · refine ct rfl (bne_iff_ne.2 h17) (sq (rg (m_ rfl rfl (a_ rfl rfl (en (nx (rt (xrb (xr (xr (xrb (xr (ret1 rfl rfl (fun w_ hs_ => ⟨?_, hs_.below⟩))))))))))))))
          exact ri (by have z := firstFault_at (f := fun p => pairFault p dims) hinv m10 h17; grind [modelFault, isDims])
      · refine cf rfl (decide_eq_false h3) (xt (xq (xq (xb (nx (sq (sq (rg (a_ rfl rfl (en (nx (bk ?_))))))))))))
        refine lp (σ := Nat) (fun k2 : Nat => [(0, .slice Alist list.length clist), (8, .int .i64 ((k2 + 1 : Nat) : Int))])
            (fun k2 : Nat => [dat (Kd.sl kPairS) [.slice Alist list.length clist] list ([]) slist_])
            (fun k2 : Nat => (k2 = 0 ∨ k2 + 1 ≤ list.length) ∧ ∀ j a b, j < k2 → list[j]? = some a → list[j + 1]? = some b → decide (b.id ≤ a.id) = false) (fun k2 : Nat => list.length - k2) 0 [0] ⟨.inl rfl, by simp⟩ ⟨rfl, rfl, trivial⟩ rfl ?_
        intro k2 hp_
        obtain ⟨hk2, hinv2⟩ := hp_
        refine sq (sq (rg (m_ rfl rfl (m_ rfl rfl (vl (ln rfl rfl rfl) rfl (vl (cm rfl rfl rfl rfl) rfl (en (nx ?_))))))))
        by_cases h18 : ((k2 + 1 : Nat) : Int) < ((list.length : Nat) : Int)
        · refine ct rfl (decide_eq_true h18) (sk (nx (sq (bk (sq ?_)))))
          refine gx 0 k2 rfl (by omega) fun y24 p19 cs_ s20 w23 m25 e21 r22 us20 => ?_
          obtain ⟨A26, c27, A28, c29, rfl⟩ := kPairS_sh r22
          refine gx 1 (k2 + 1) rfl (by omega) fun y35 p30 cs_ s31 w34 m36 e32 r33 us31 => ?_
          obtain ⟨A37, c38, A39, c40, rfl⟩ := kPairS_sh r33
          refine r0 (qv 0 rfl (mv rfl rfl) rfl (by kernel_rfl) (qv 1 rfl (mv rfl rfl) rfl (by kernel_rfl) (qv 2 rfl (rs (c := ((k2 : Nat) : Int)) rfl rfl rfl (by omega) (by omega) (by omega)) rfl (by kernel_rfl) (qv 3 rfl (ix k2 e21 rfl rfl rfl rfl rfl (by omega)) rfl (by kernel_rfl) (qv 4 rfl (fa rfl rfl rfl) rfl (by kernel_rfl) (qv 5 rfl (ldp (u := .int .i64 y24.id) 1 rfl rfl rfl rfl rfl rfl rfl) rfl (by kernel_rfl) (qv 6 rfl (mv rfl rfl) rfl (by kernel_rfl) (qv 7 rfl (mv rfl rfl) rfl (by kernel_rfl) (qv 8 rfl (ix (k2 + 1) e32 rfl rfl rfl rfl rfl (by omega)) rfl (by kernel_rfl) (qv 9 rfl (fa rfl rfl rfl) rfl (by kernel_rfl) (qv 10 rfl (ldp (u := .int .i64 y35.id) 0 rfl rfl rfl rfl rfl rfl rfl) rfl (by kernel_rfl) (qv 11 rfl (cm rfl rfl rfl rfl) rfl (by kernel_rfl) (qe [0, 0, 0] (by kernel_rfl) rfl (nx ?_))))))))))))))
          by_cases h41 : y35.id ≤ y24.id
          · refine ct rfl (decide_eq_true h41) (sq (rg (a_ rfl rfl (en (nx (rt (xrb (xr (xr (xrb (xr (ret1 rfl rfl (fun w_ hs_ => ⟨?_, hs_.below⟩)))))))))))))
            exact ri (by have z := firstFault_0 (f := fun p => pairFault p dims) hinv (by omega); have y := rises_f m25 m36 (by omega); grind [modelFault, isDims])
          · exact cf rfl (decide_eq_false h41) (sk (xn (nx (rg (m_ rfl rfl (vl (ra (c := ((k2 + 1 + 1 : Nat) : Int)) rfl rfl rfl (by omega) (by omega) (by omega)) rfl (a_ rfl rfl (en (lpe (s := k2) (k2 + 1) [2] ⟨.inr (by omega), adj_step hinv2 m25 m36 (decide_eq_false (by omega))⟩ (by omega) ⟨rfl, rfl, trivial⟩ rfl)))))))))
        · refine cf rfl (decide_eq_false h18) (xt (xq (xq (xb (nx (sq (rg (a_ rfl rfl (en (nx (rt (ret1 rfl rfl (fun w_ hs_ => ⟨?_, hs_.below⟩)))))))))))))
          exact ri (by have z := firstFault_0 (f := fun p => pairFault p dims) hinv (by omega); have y := rises_t hinv2 (by omega); grind [modelFault, isDims])
  · refine ct rfl (not_t (Bool.eq_false_iff.2 h1)) (sq (rg (a_ rfl rfl (en (nx (rt (xrb (xr (ret1 rfl rfl (fun w_ hs_ => ⟨?_, hs_.below⟩))))))))))
    exact ri (by grind [modelFault, isDims])
/-! spec.ModelFault -/
set_option maxRecDepth 20000 in
set_option maxHeartbeats 2000000 in
theorem spec_ModelFault (w : World) (dims : Int) {Alist : Option Addr} {clist : Nat} {list : List Pair} {slist_ : List Nat} (hlist : (Kd.sl kPairS).Rel w [.slice Alist list.length clist] list [] slist_)  : Calls Try.prog 27 #[.slice Alist list.length clist, .int .i64 dims] w (fun e_ w2_ => e_ = .returned (.int .i64 (modelFault list dims)) ∧ Below w.heap.size w w2_) := by
  have Llist := Kd.sl_len hlist; have Clist := Kd.sl_cap hlist
  refine fnc (X := X1 46 w) (args := [.slice Alist list.length clist, .int .i64 dims]) (l := [(0, .slice Alist list.length clist), (1, .int .i64 dims)]) (G := [dat (Kd.sl kPairS) [.slice Alist list.length clist] list ([]) slist_]) Try.func27 rfl rfl rfl ⟨rfl, rfl, trivial⟩ (s0d hlist (s0n w)).1 ?_
  refine sq (rg (a_ rfl rfl (en (nx (sq (sq (rg (m_ rfl rfl (cs_ (v := .bool (within dims 2 3)) (by kernel_rfl) rfl rfl rfl (fun w_ hs_ => spec_l1In w_ _ _ _) (vl (nt rfl rfl) rfl (en (nx ?_))))))))))))
  by_cases h1 : within dims 2 3 = true
  · refine cf rfl (not_f h1) (sk (nx (sq (sq (rg (m_ rfl rfl (vl (ln rfl rfl rfl) rfl (vl (cm rfl rfl rfl rfl) rfl (en (nx ?_))))))))))
    by_cases h2 : (60 : Int) < ((list.length : Nat) : Int)
    · refine ct rfl (decide_eq_true h2) (sq (rg (a_ rfl rfl (en (nx (rt (xr (ret1 rfl rfl (fun w_ hs_ => ⟨?_, hs_.below⟩)))))))))
      exact ri (by grind [modelFault, isDims])
    · refine cf rfl (decide_eq_false h2) (sk (nx (sq (sq (rg (a_ rfl rfl (en (nx (bk ?_)))))))))
      refine lp (σ := Nat) (fun k : Nat => [(0, .slice Alist list.length clist), (1, .int .i64 dims), (5, .int .i64 ((k : Nat) : Int))])
          (fun k : Nat => [dat (Kd.sl kPairS) [.slice Alist list.length clist] list ([]) slist_])
          (fun k : Nat => k ≤ list.length ∧ ∀ j x, j < k → list[j]? = some x → pairFault x dims = 0) (fun k : Nat => list.length - k) 0 [0] ⟨Nat.zero_le _, by simp⟩ ⟨rfl, rfl, rfl, trivial⟩ rfl ?_
      intro k hp_
      obtain ⟨hk, hinv⟩ := hp_
      refine sq (sq (rg (m_ rfl rfl (m_ rfl rfl (vl (ln rfl rfl rfl) rfl (vl (cm rfl rfl rfl rfl) rfl (en (nx ?_))))))))
      by_cases h3 : ((k : Nat) : Int) < ((list.length : Nat) : Int)
      · refine ct rfl (decide_eq_true h3) (sk (nx (sq (bk (sq (rg (m_ rfl rfl (m_ rfl rfl ?_))))))))
        refine gx 0 k rfl (by omega) fun y9 p4 cs_ s5 w8 m10 e6 r7 us5 => ?_
        obtain ⟨A11, c12, A13, c14, rfl⟩ := kPairS_sh r7
        refine vl (ix k e6 rfl rfl rfl rfl rfl (by omega)) rfl (m_ rfl rfl (cs_ (v := .int .i64 (pairFault y9 dims)) (by kernel_rfl) rfl rfl rfl (fun w_ hs_ => spec_l2Pair w_ _ (hs_.at 0 rfl)) (a_ rfl rfl (en (nx (sq (rg (m_ rfl rfl (vl (cm rfl rfl rfl rfl) rfl (en (nx ?_)))))))))))
        by_cases h15 : (pairFault y9 dims) = (0 : Int)
        · exact cf rfl (bne_eq_false_iff_eq.2 h15) (sk (xn (nx (rg (m_ rfl rfl (vl (ra (c := ((k + 1 : Nat) : Int)) rfl rfl rfl (by omega) (by omega) (by omega)) rfl (a_ rfl rfl (en (lpe (s := k) (k + 1) [1] ⟨by omega, zero_step (f := fun p => pairFault p dims) hinv m10 h15⟩ (by omega) ⟨rfl, rfl, rfl, trivial⟩ rfl)))))))))
        · refine ct rfl (bne_iff_ne.2 h15) (sq (rg (m_ rfl rfl (a_ rfl rfl (en (nx (rt (xrb (xr (xr (xrb (xr (ret1 rfl rfl (fun w_ hs_ => ⟨?_, hs_.below⟩))))))))))))))
          exact ri (by have z := firstFault_at (f := fun p => pairFault p dims) hinv m10 h15; grind [modelFault, isDims])
      · refine cf rfl (decide_eq_false h3) (xt (xq (xq (xb (nx (sq (sq (rg (a_ rfl rfl (en (nx (bk ?_))))))))))))
        refine lp (σ := Nat) (fun k2 : Nat => [(0, .slice Alist list.length clist), (7, .int .i64 ((k2 + 1 : Nat) : Int))])
            (fun k2 : Nat => [dat (Kd.sl kPairS) [.slice Alist list.length clist] list ([]) slist_])
            (fun k2 : Nat => (k2 = 0 ∨ k2 + 1 ≤ list.length) ∧ ∀ j a b, j < k2 → list[j]? = some a → list[j + 1]? = some b → decide (b.id ≤ a.id) = false) (fun k2 : Nat => list.length - k2) 0 [0] ⟨.inl rfl, by simp⟩ ⟨rfl, rfl, trivial⟩ rfl ?_
        intro k2 hp_
        obtain ⟨hk2, hinv2⟩ := hp_
        refine sq (sq (rg (m_ rfl rfl (m_ rfl rfl (vl (ln rfl rfl rfl) rfl (vl (cm rfl rfl rfl rfl) rfl (en (nx ?_))))))))
        by_cases h16 : ((k2 + 1 : Nat) : Int) < ((list.length : Nat) : Int)
        · refine ct rfl (decide_eq_true h16) (sk (nx (sq (bk (sq ?_)))))
          refine gx 0 (k2 + 1) rfl (by omega) fun y22 p17 cs_ s18 w21 m23 e19 r20 us18 => ?_
          obtain ⟨A24, c25, A26, c27, rfl⟩ := kPairS_sh r20
          refine gx 1 k2 rfl (by omega) fun y33 p28 cs_ s29 w32 m34 e30 r31 us29 => ?_
          obtain ⟨A35, c36, A37, c38, rfl⟩ := kPairS_sh r31
          refine r0 (qv 0 rfl (mv rfl rfl) rfl (by kernel_rfl) (qv 1 rfl (mv rfl rfl) rfl (by kernel_rfl) (qv 2 rfl (ix (k2 + 1) e19 rfl rfl rfl rfl rfl (by omega)) rfl (by kernel_rfl) (qv 3 rfl (fa rfl rfl rfl) rfl (by kernel_rfl) (qv 4 rfl (ldp (u := .int .i64 y22.id) 1 rfl rfl rfl rfl rfl rfl rfl) rfl (by kernel_rfl) (qv 5 rfl (mv rfl rfl) rfl (by kernel_rfl) (qv 6 rfl (mv rfl rfl) rfl (by kernel_rfl) (qv 7 rfl (rs (c := ((k2 : Nat) : Int)) rfl rfl rfl (by omega) (by omega) (by omega)) rfl (by kernel_rfl) (qv 8 rfl (ix k2 e30 rfl rfl rfl rfl rfl (by omega)) rfl (by kernel_rfl) (qv 9 rfl (fa rfl rfl rfl) rfl (by kernel_rfl) (qv 10 rfl (ldp (u := .int .i64 y33.id) 0 rfl rfl rfl rfl rfl rfl rfl) rfl (by kernel_rfl) (qv 11 rfl (cm rfl rfl rfl rfl) rfl (by kernel_rfl) (qe [0, 0, 0] (by kernel_rfl) rfl (nx ?_))))))))))))))
          by_cases h39 : y22.id ≤ y33.id
          · refine ct rfl (decide_eq_true h39) (sq (rg (a_ rfl rfl (en (nx (rt (xrb (xr (xr (xrb (xr (ret1 rfl rfl (fun w_ hs_ => ⟨?_, hs_.below⟩)))))))))))))
            exact ri (by have z := firstFault_0 (f := fun p => pairFault p dims) hinv (by omega); have y := rises_f m34 m23 (by omega); grind [modelFault, isDims])
          · exact cf rfl (decide_eq_false h39) (sk (xn (nx (rg (m_ rfl rfl (vl (ra (c := ((k2 + 1 + 1 : Nat) : Int)) rfl rfl rfl (by omega) (by omega) (by omega)) rfl (a_ rfl rfl (en (lpe (s := k2) (k2 + 1) [2] ⟨.inr (by omega), adj_step hinv2 m34 m23 (decide_eq_false (by omega))⟩ (by omega) ⟨rfl, rfl, trivial⟩ rfl)))))))))
        · refine cf rfl (decide_eq_false h16) (xt (xq (xq (xb (nx (sq (rg (a_ rfl rfl (en (nx (rt (ret1 rfl rfl (fun w_ hs_ => ⟨?_, hs_.below⟩)))))))))))))
          exact ri (by have z := firstFault_0 (f := fun p => pairFault p dims) hinv (by omega); have y := rises_t hinv2 (by omega); grind [modelFault, isDims])
  · refine ct rfl (not_t (Bool.eq_false_iff.2 h1)) (sq (rg (a_ rfl rfl (en (nx (rt (xr (ret1 rfl rfl (fun w_ hs_ => ⟨?_, hs_.below⟩)))))))))
    exact ri (by grind [modelFault, isDims])
/-! impl.clonedPairs -/
set_option maxRecDepth 20000 in
set_option maxHeartbeats 2000000 in
theorem impl_clonedPairs (w : World) {Alist : Option Addr} {clist : Nat} {list : List Pair} {slist_ : List Nat} (hlist : (Kd.sl kPairS).Rel w [.slice Alist list.length clist] list [] slist_) (hz : list.length ≤ 1048576) (hz2 : ∀ p ∈ list, szPair p ≤ 1048576) : Calls Try.prog 63 #[.slice Alist list.length clist] w (Made (Kd.row 68 kPairO) w list []) := by
  have Llist := Kd.sl_len hlist; have Clist := Kd.sl_cap hlist
  refine fnc (X := X1 24 w) (args := [.slice Alist list.length clist]) (l := [(0, .slice Alist list.length clist)]) (G := [dat (Kd.sl kPairS) [.slice Alist list.length clist] list ([]) slist_]) Try.func63 rfl rfl rfl ⟨rfl, trivial⟩ (s0d hlist (s0n w)).1 ?_
  refine sq (rg (a_ rfl rfl (en (nx (sq (rg (bs0 (dk := kPairO) rfl info68 rfl rfl ?_)))))))
  intro b1
  refine a_ rfl rfl (en (nx (sq (sq (rg (m_ rfl rfl (vl (ln rfl rfl rfl) rfl (m_ rfl rfl (en (nx (bk ?_)))))))))))
  refine lp (σ := Nat × List Pair × Option Addr × Nat × List Nat × List Nat) (fun z_ : Nat × List Pair × Option Addr × Nat × List Nat × List Nat => match z_ with | (k, out, A_, c_, o_, s_) => [(3, .slice A_ out.length c_), (7, .slice Alist list.length clist), (8, .int .i64 ((list.length : Nat) : Int)), (9, .int .i64 ((k : Nat) : Int))])
      (fun z_ : Nat × List Pair × Option Addr × Nat × List Nat × List Nat => match z_ with | (k, out, A_, c_, o_, s_) => [dat (Kd.row 68 kPairO) [.slice A_ out.length c_] out o_ s_, dat (Kd.sl kPairS) [.slice Alist list.length clist] list ([]) slist_])
      (fun z_ : Nat × List Pair × Option Addr × Nat × List Nat × List Nat => match z_ with | (k, out, A_, c_, o_, s_) => k ≤ list.length ∧ (out = list.take k) ∧ (∀ q ∈ s_, w.heap.size ≤ q) ∧ out.length ≤ k) (fun z_ : Nat × List Pair × Option Addr × Nat × List Nat × List Nat => match z_ with | (k, out, A_, c_, o_, s_) => list.length - k) (0, [], (some ⟨b1, 0, none⟩), 0, [b1], []) [0, 0] ⟨Nat.zero_le _, by simp, by simp, by simp⟩ ⟨rfl, rfl, rfl, rfl, trivial⟩ rfl ?_
  rintro ⟨k, out, A_, c_, o_, s_⟩ hp_
  obtain ⟨hk, hinv, hsee, hlen⟩ := hp_
  refine sq (rg (vl (cm rfl rfl rfl rfl) rfl (en (nx (sq ?_)))))
  by_cases h2 : ((k : Nat) : Int) < ((list.length : Nat) : Int)
  · refine ct rfl (decide_eq_true h2) (sk (nx (sq (bk (sq (rg ?_))))))
    refine gx 1 k rfl (by omega) fun y8 p3 cs_ s4 w7 m9 e5 r6 us4 => ?_
    obtain ⟨A10, c11, A12, c13, rfl⟩ := kPairS_sh r6
    refine vl (ix k e5 rfl rfl rfl rfl rfl (by omega)) rfl (vl (ldq 0 rfl rfl rfl rfl rfl rfl rfl) rfl (al zero68 rfl rfl rfl ?_))
    intro b14
    refine sto rfl rfl rfl rfl rfl rfl rfl (cs' := [.int .i64 y8.id, .slice A10 y8.rect.low.length c11, .slice A12 y8.rect.high.length c13]) rfl (en (nx ?_))
    refine gp 1 kPairS_p1_2 rfl (cs' := [.slice A10 y8.rect.low.length c11, .slice A12 y8.rect.high.length c13]) rfl fun s15 w_ rs15 us15 => ?_
    refine rd (Gq := [dat kRectS [.slice A10 y8.rect.low.length c11, .slice A12 y8.rect.high.length c13] y8.rect ([]) s15, blk b14 [.int .i64 y8.id, .slice A10 y8.rect.low.length c11, .slice A12 y8.rect.high.length c13] 68, ptr kPairS p3 [.int .i64 y8.id, .slice A10 y8.rect.low.length c11, .slice A12 y8.rect.high.length c13] y8 s4, dat (Kd.sl kPairS) [.slice Alist list.length clist] list ([]) slist_]) [0, 0, 0, 1] rfl (qv 0 rfl (mv rfl rfl) rfl (by kernel_rfl) (qv 1 rfl (fa rfl rfl rfl) rfl (by kernel_rfl) (qv 2 rfl (ldb (u := .int .i64 y8.id) 1 rfl rfl rfl rfl rfl rfl rfl) rfl (by kernel_rfl) (qv 3 rfl (fa rfl rfl rfl) rfl (by kernel_rfl) (qv 4 rfl (ldb 1 rfl rfl rfl rfl rfl rfl rfl) rfl (by kernel_rfl) (q1 5 [0, 0, 0, 1] rfl (by kernel_rfl) rfl (cm_ (dk := kRectO) (x := y8.rect) (S := []) (by kernel_rfl) rfl rfl rfl sn0 (fun w_ hs_ => by exact impl_Rect_cloned w_ (hs_.at 0 rfl) (by have z := hz2 _ (List.mem_of_getElem? m9); unfold szPair at z; omega)) (fun cs_ o24 s25 w_ r26 t27 => ?_))))))))
    obtain ⟨A20, c21, A22, c23, rfl⟩ := kRectO_sh r26
    refine qn (qv 6 rfl (bd bld68 rfl rfl rfl) rfl (by kernel_rfl) (q1 7 [1, 1, 1, 2] rfl (by kernel_rfl) rfl (gs Kd.i64 [.int .i64 y8.id] y8.id (fun _ => ⟨rfl, rfl, rfl⟩) (gj (da := (Kd.via Kd.i64 Pair.id)) (db := (Kd.via kRectO Pair.rect)) (x := y8) (cs := [.int .i64 y8.id, .slice A20 y8.rect.low.length c21, .slice A22 y8.rect.high.length c23]) rfl (bs1 (dk := kPairO) rfl info68 (by decide) rfl rfl rfl rfl ?_)))))
    intro b29
    refine qn (q1 8 [1, 1, 1, 2] rfl (by kernel_rfl) rfl ?_)
    refine f4 (ap (out ++ [y8]) rfl info68 rfl rfl (by decide) rfl rfl rfl rfl (by simp only [List.length_append, List.length_cons, List.length_nil]; omega) (by simp only [List.length_append, List.length_cons, List.length_nil]; omega) rfl (fun A30 c31 o32 s33 t34 => ?_))
    exact qn (qv 9 rfl (as_ rfl rfl) rfl (by kernel_rfl) (qe [1, 1, 1, 1] (by kernel_rfl) rfl (xn (nx (rg (vl (ra (c := ((k + 1 : Nat) : Int)) rfl rfl rfl (by omega) (by omega) (by omega)) rfl (m_ rfl rfl (en (lpe (s := (k, out, A_, c_, o_, s_)) (k + 1, (out ++ [y8]), A30, c31, o32, s33) [0, 3] ⟨by omega, (by rw [take_snoc m9, ← hinv]), by grind, by first | omega | (simp only [List.length_append, List.length_cons, List.length_nil]; omega)⟩ (by show list.length - (k + 1) < list.length - k; omega) ⟨rfl, rfl, rfl, rfl, trivial⟩ rfl)))))))))
  · exact cf rfl (decide_eq_false h2) (xt (xq (xq (xb (nx (sq (rg (m_ rfl rfl (a_ rfl rfl (en (nx (rt (gr list (by rw [hinv, List.take_of_length_le (by omega)]) (ret1 rfl rfl (fun w_ hs_ => made hs_ rfl (by grind))))))))))))))))
/-! spec.l2Copies -/
set_option maxRecDepth 20000 in
set_option maxHeartbeats 2000000 in
theorem spec_l2Copies (w : World) {Alist : Option Addr} {clist : Nat} {list : List Pair} {slist_ : List Nat} (hlist : (Kd.sl kPairS).Rel w [.slice Alist list.length clist] list [] slist_) (hz : list.length ≤ 1048576) (hz2 : ∀ p ∈ list, szPair p ≤ 1048576) : Calls Try.prog 56 #[.slice Alist list.length clist] w (Made (Kd.row 68 kPairO) w list []) := by
  have Llist := Kd.sl_len hlist; have Clist := Kd.sl_cap hlist
  refine fnc (X := X1 20 w) (args := [.slice Alist list.length clist]) (l := [(0, .slice Alist list.length clist)]) (G := [dat (Kd.sl kPairS) [.slice Alist list.length clist] list ([]) slist_]) Try.func56 rfl rfl rfl ⟨rfl, trivial⟩ (s0d hlist (s0n w)).1 ?_
  refine sq (rg (a_ rfl rfl (en (nx (sq (rg (bs0 (dk := kPairO) rfl info68 rfl rfl ?_)))))))
  intro b1
  refine a_ rfl rfl (en (nx (sq (sq (rg (a_ rfl rfl (en (nx (bk ?_)))))))))
  refine lp (σ := Nat × List Pair × Option Addr × Nat × List Nat × List Nat) (fun z_ : Nat × List Pair × Option Addr × Nat × List Nat × List Nat => match z_ with | (k, out, A_, c_, o_, s_) => [(0, .slice Alist list.length clist), (3, .slice A_ out.length c_), (4, .int .i64 ((k : Nat) : Int))])
      (fun z_ : Nat × List Pair × Option Addr × Nat × List Nat × List Nat => match z_ with | (k, out, A_, c_, o_, s_) => [dat (Kd.row 68 kPairO) [.slice A_ out.length c_] out o_ s_, dat (Kd.sl kPairS) [.slice Alist list.length clist] list ([]) slist_])
      (fun z_ : Nat × List Pair × Option Addr × Nat × List Nat × List Nat => match z_ with | (k, out, A_, c_, o_, s_) => k ≤ list.length ∧ (out = list.take k) ∧ (∀ q ∈ s_, w.heap.size ≤ q) ∧ out.length ≤ k) (fun z_ : Nat × List Pair × Option Addr × Nat × List Nat × List Nat => match z_ with | (k, out, A_, c_, o_, s_) => list.length - k) (0, [], (some ⟨b1, 0, none⟩), 0, [b1], []) [0, 0] ⟨Nat.zero_le _, by simp, by simp, by simp⟩ ⟨rfl, rfl, rfl, trivial⟩ rfl ?_
  rintro ⟨k, out, A_, c_, o_, s_⟩ hp_
  obtain ⟨hk, hinv, hsee, hlen⟩ := hp_
  refine sq (sq (rg (m_ rfl rfl (m_ rfl rfl (vl (ln rfl rfl rfl) rfl (vl (cm rfl rfl rfl rfl) rfl (en (nx ?_))))))))
  by_cases h2 : ((k : Nat) : Int) < ((list.length : Nat) : Int)
  · refine ct rfl (decide_eq_true h2) (sk (nx (sq (bk (rg (m_ rfl rfl (m_ rfl rfl (m_ rfl rfl ?_))))))))
    refine gx 1 k rfl (by omega) fun y8 p3 cs_ s4 w7 m9 e5 r6 us4 => ?_
    obtain ⟨A10, c11, A12, c13, rfl⟩ := kPairS_sh r6
    refine vl (ix k e5 rfl rfl rfl rfl rfl (by omega)) rfl (cm_ (dk := kPairO) (x := y8) (S := []) (by kernel_rfl) rfl rfl rfl sn0 (fun w_ hs_ => spec_l2Copy w_ (hs_.at 0 rfl) (by have z := hz2 _ (List.mem_of_getElem? m9); omega)) (fun cs_ o18 s19 w_ r20 t21 => ?_))
    obtain ⟨A14, c15, A16, c17, rfl⟩ := kPairO_sh r20
    refine bs1 (dk := kPairO) rfl info68 (by decide) rfl rfl rfl rfl ?_
    intro b23
    refine f2 (ap (out ++ [y8]) rfl info68 rfl rfl (by decide) rfl rfl rfl rfl (by simp only [List.length_append, List.length_cons, List.length_nil]; omega) (by simp only [List.length_append, List.length_cons, List.length_nil]; omega) rfl (fun A24 c25 o26 s27 t28 => ?_))
    exact a_ rfl rfl (en (xn (nx (rg (m_ rfl rfl (vl (ra (c := ((k + 1 : Nat) : Int)) rfl rfl rfl (by omega) (by omega) (by omega)) rfl (a_ rfl rfl (en (lpe (s := (k, out, A_, c_, o_, s_)) (k + 1, (out ++ [y8]), A24, c25, o26, s27) [0, 1] ⟨by omega, (by rw [take_snoc m9, ← hinv]), by grind, by first | omega | (simp only [List.length_append, List.length_cons, List.length_nil]; omega)⟩ (by show list.length - (k + 1) < list.length - k; omega) ⟨rfl, rfl, rfl, trivial⟩ rfl)))))))))
  · exact cf rfl (decide_eq_false h2) (xt (xq (xq (xb (nx (sq (rg (m_ rfl rfl (a_ rfl rfl (en (nx (rt (gr list (by rw [hinv, List.take_of_length_le (by omega)]) (ret1 rfl rfl (fun w_ hs_ => made hs_ rfl (by grind))))))))))))))))
end Go.Proofs.Ytkilionclpeonaa.Sx
