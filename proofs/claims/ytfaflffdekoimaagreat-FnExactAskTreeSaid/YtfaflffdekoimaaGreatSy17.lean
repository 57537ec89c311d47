/- What functions of the program answer, each at every input that its row names; walked through their code. -/
import Derived.Test.YtfaflffdekoimaaGreatSy16
namespace Go.Proofs.YtfaflffdekoimaaGreat.Sx
open Go Go.RowKit Go.Proofs
set_option linter.unusedVariables false
set_option linter.unusedSimpArgs false
def tab17 : Tab := { size := [(2, 1, false), (46, 2, true), (91, 3, true)], off := [((91, 0), 0), ((91, 1), 1)], elem := [(35, 91)] }
theorem tab_ok17 : tab17.check Tryz.prog = true := by kernel_rfl
noncomputable abbrev X17 (N : Nat) (w : World) : Cx := ⟨Tryz.prog, tab17, tab_ok17, wide, N, w, none, []⟩

def pairFault (p : Pair) (dims : Int) : Int := if within p.id 0 999 = true then rectFault p.rect dims else 3
/-! impl.pairFault -/
set_option maxRecDepth 20000 in
set_option maxHeartbeats 2000000 in
theorem impl_pairFault (w : World) (dims : Int) {Ap1 : Option Addr} {cp1 : Nat} {Ap2 : Option Addr} {cp2 : Nat} {p : Pair} {sp_ : List Nat} (hp : kPairS.Rel w [.int .i64 p.id, .slice Ap1 p.rect.low.length cp1, .slice Ap2 p.rect.high.length cp2] p [] sp_)  : Calls Tryz.prog 109 #[.agg #[.int .i64 p.id, .slice Ap1 p.rect.low.length cp1, .slice Ap2 p.rect.high.length cp2], .int .i64 dims] w (fun e_ w2_ => e_ = .returned (.int .i64 (pairFault p dims)) ∧ Below w.heap.size w w2_) := by
  refine fnc (X := X17 13 w) (args := [.agg #[.int .i64 p.id, .slice Ap1 p.rect.low.length cp1, .slice Ap2 p.rect.high.length cp2], .int .i64 dims]) (l := [(0, .agg #[.int .i64 p.id, .slice Ap1 p.rect.low.length cp1, .slice Ap2 p.rect.high.length cp2]), (1, .int .i64 dims)]) (G := [dat kPairS [.int .i64 p.id, .slice Ap1 p.rect.low.length cp1, .slice Ap2 p.rect.high.length cp2] p ([]) sp_]) Tryz.func109 rfl rfl rfl ⟨rfl, rfl, trivial⟩ (s0d hp (s0n w)).1 ?_
  refine sq (rg (bx rfl rfl rfl rfl ?_))
  intro b1
  refine a_ rfl rfl (en (nx (sq (sq (rg (vl (fa rfl rfl rfl) rfl (vl (ldb (u := .int .i64 p.id) 0 rfl rfl rfl rfl rfl rfl rfl) rfl (cs_ (v := .bool (within p.id 0 999)) (by kernel_rfl) rfl rfl rfl (fun w_ hs_ => impl_isId w_ _) (vl (nt rfl rfl) rfl (en (nx ?_)))))))))))
  by_cases h2 : within p.id 0 999 = true
  · refine cf rfl (not_f h2) (sk (nx (sq (rg (vl (fa rfl rfl rfl) rfl (vl (ldb 0 rfl rfl rfl rfl rfl rfl rfl) rfl (m_ rfl rfl ?_)))))))
    refine gd 1 kPairS_p1_2 rfl (cs' := [.slice Ap1 p.rect.low.length cp1, .slice Ap2 p.rect.high.length cp2]) rfl fun s3 w_ rs3 us3 => ?_
    refine cs_ (v := .int .i64 (rectFault p.rect dims)) (by kernel_rfl) rfl rfl rfl (fun w_ hs_ => impl_RectFault w_ _ (hs_.at 0 rfl)) (a_ rfl rfl (en (nx (rt (ret1 rfl rfl (fun w_ hs_ => ⟨?_, hs_.below⟩))))))
    simp [pairFault, h2]
  · refine ct rfl (not_t (Bool.eq_false_iff.2 h2)) (sq (rg (a_ rfl rfl (en (nx (rt (xr (ret1 rfl rfl (fun w_ hs_ => ⟨?_, hs_.below⟩)))))))))
    simp [pairFault, h2]
def risesP (l : List Pair) : Bool := !adj (fun a b => decide (b.id ≤ a.id)) l
theorem risesP_t {l : List Pair} {k : Nat} (h : ∀ j a b, j < k → l[j]? = some a → l[j + 1]? = some b → decide (b.id ≤ a.id) = false) (hk : ¬ ((k + 1 : Nat) : Int) < ((l.length : Nat) : Int)) : risesP l = true := by
  unfold risesP; rw [adj_f h (by omega)]; rfl
theorem risesP_f {l : List Pair} {k : Nat} {a b : Pair} (ha : l[k]? = some a) (hb : l[k + 1]? = some b) (h : b.id ≤ a.id) : risesP l = false := by unfold risesP; rw [adj_t ha hb (decide_eq_true h)]; rfl
def modelFault (l : List Pair) (dims : Int) : Int :=
  if isDims dims = true then
    if (l.length : Int) ≤ 60 then
      if firstFault (fun p => pairFault p dims) l = 0 then if risesP l = true then 0 else 1 else firstFault (fun p => pairFault p dims) l
    else 2
  else 3
/-! impl.ModelFault -/
set_option maxRecDepth 20000 in
set_option maxHeartbeats 2000000 in
theorem impl_ModelFault (w : World) (dims : Int) {Alist : Option Addr} {clist : Nat} {list : List Pair} {slist_ : List Nat} (hlist : (Kd.sl kPairS).Rel w [.slice Alist list.length clist] list [] slist_)  : Calls Tryz.prog 65 #[.slice Alist list.length clist, .int .i64 dims] w (fun e_ w2_ => e_ = .returned (.int .i64 (modelFault list dims)) ∧ Below w.heap.size w w2_) := by
  have Llist := Kd.sl_len hlist; have Clist := Kd.sl_cap hlist
  refine fnc (X := X17 48 w) (args := [.slice Alist list.length clist, .int .i64 dims]) (l := [(0, .slice Alist list.length clist), (1, .int .i64 dims)]) (G := [dat (Kd.sl kPairS) [.slice Alist list.length clist] list ([]) slist_]) Tryz.func65 rfl rfl rfl ⟨rfl, rfl, trivial⟩ (s0d hlist (s0n w)).1 ?_
  refine sq (rg (a_ rfl rfl (en (nx (sq (bk (sq (rg (m_ rfl rfl (cs_ (v := .bool (isDims dims)) (by kernel_rfl) rfl rfl rfl (fun w_ hs_ => impl_isDims w_ _) (vl (nt rfl rfl) rfl (a_ rfl rfl (en (nx ?_))))))))))))))
  by_cases h1 : isDims dims = true
  · refine cf rfl (not_f h1) (sq (rg (m_ rfl rfl (vl (ln rfl rfl rfl) rfl (vl (cm rfl rfl rfl rfl) rfl (a_ rfl rfl (en (nx ?_))))))))
    by_cases h2 : (60 : Int) < ((list.length : Nat) : Int)
    · refine ct rfl (decide_eq_true h2) (sq (rg (a_ rfl rfl (en (nx (rt (xrb (xr (ret1 rfl rfl (fun w_ hs_ => ⟨?_, hs_.below⟩))))))))))
      exact ri (by grind [modelFault, isDims])
    · refine cf rfl (decide_eq_false h2) (sk (xn (nx (sq (sq (rg (m_ rfl rfl (vl (ln rfl rfl rfl) rfl (m_ rfl rfl (en (nx (bk ?_))))))))))))
      refine lp (σ := Nat) (fun k : Nat => [(0, .slice Alist list.length clist), (1, .int .i64 dims), (17, .slice Alist list.length clist), (18, .int .i64 ((list.length : Nat) : Int)), (19, .int .i64 ((k : Nat) : Int))])
          (fun k : Nat => [dat (Kd.sl kPairS) [.slice Alist list.length clist] list ([]) slist_])
          (fun k : Nat => k ≤ list.length ∧ ∀ j x, j < k → list[j]? = some x → pairFault x dims = 0) (fun k : Nat => list.length - k) 0 [0] ⟨Nat.zero_le _, by simp⟩ ⟨rfl, rfl, rfl, rfl, rfl, trivial⟩ rfl ?_
      intro k hp_
      obtain ⟨hk, hinv⟩ := hp_
      refine sq (rg (vl (cm rfl rfl rfl rfl) rfl (en (nx (sq ?_)))))
      by_cases h3 : ((k : Nat) : Int) < ((list.length : Nat) : Int)
      · refine ct rfl (decide_eq_true h3) (sk (nx (sq (bk (sq (rg ?_))))))
        refine gx 0 k rfl (by omega) fun y9 p4 cs_ s5 w8 m10 e6 r7 us5 => ?_
        obtain ⟨A11, c12, A13, c14, rfl⟩ := kPairS_sh r7
        refine vl (ix k e6 rfl rfl rfl rfl rfl (by omega)) rfl (vl (ldq 0 rfl rfl rfl rfl rfl rfl rfl) rfl (al zero91 rfl rfl rfl ?_))
        intro b15
        refine sto rfl rfl rfl rfl rfl rfl rfl (cs' := [.int .i64 y9.id, .slice A11 y9.rect.low.length c12, .slice A13 y9.rect.high.length c14]) rfl (en (nx (sq (rg (vl (ldb 0 rfl rfl rfl rfl rfl rfl rfl) rfl (m_ rfl rfl ?_))))))
        refine gp 1 Kd.Sub.rfl rfl (cs' := [.int .i64 y9.id, .slice A11 y9.rect.low.length c12, .slice A13 y9.rect.high.length c14]) rfl fun s16 w_ rs16 us16 => ?_
        refine cs_ (v := .int .i64 (pairFault y9 dims)) (by kernel_rfl) rfl rfl rfl (fun w_ hs_ => impl_pairFault w_ _ (hs_.at 0 rfl)) (a_ rfl rfl (en (nx (sq (rg (m_ rfl rfl (vl (cm rfl rfl rfl rfl) rfl (en (nx ?_)))))))))
        by_cases h17 : (pairFault y9 dims) = (0 : Int)
        · exact cf rfl (bne_eq_false_iff_eq.2 h17) (sk (xn (nx (rg (vl (ra (c := ((k + 1 : Nat) : Int)) rfl rfl rfl (by omega) (by omega) (by omega)) rfl (m_ rfl rfl (en (lpe (s := k) (k + 1) [3] ⟨by omega, zero_step (f := fun p => pairFault p dims) hinv m10 h17⟩ (by omega) ⟨rfl, rfl, rfl, rfl, rfl, trivial⟩ rfl))))))))
        · refine ct rfl (bne_iff_ne.2 h17) (sq (rg (m_ rfl rfl (a_ rfl rfl (en (nx (rt (xrb (xr (xr (xrb (xr (ret1 rfl rfl (fun w_ hs_ => ⟨?_, hs_.below⟩))))))))))))))
          exact ri (by have z := firstFault_at (f := fun p => pairFault p dims) hinv m10 h17; grind [modelFault, isDims])
      · refine cf rfl (decide_eq_false h3) (xt (xq (xq (xb (nx (sq (sq (rg (a_ rfl rfl (en (nx (bk ?_))))))))))))
        refine lp (σ := Nat) (fun k2 : Nat => [(0, .slice Alist list.length clist), (8, .int .i64 ((k2 + 1 : Nat) : Int))])
            (fun k2 : Nat => [dat (Kd.sl kPairS) [.slice Alist list.length clist] list ([]) slist_])
            (fun k2 : Nat => (k2 = 0 ∨ k2 + 1 ≤ list.length) ∧ ∀ j a b, j < k2 → list[j]? = some a → list[j + 1]? = some b → decide (b.id ≤ a.id) = false) (fun k2 : Nat => list.length - k2) 0 [0] ⟨.inl rfl, by simp⟩ ⟨rfl, rfl, trivial⟩ rfl ?_
        intro k2 hp_
        obtain ⟨hk2, hinv2⟩ := hp_
        refine sq (sq (rg (m_ rfl rfl (m_ rfl rfl (vl (ln rfl rfl rfl) rfl (vl (cm rfl rfl rfl rfl) rfl (en (nx ?_))))))))
        by_cases h18 : ((k2 + 1 : Nat) : Int) < ((list.length : Nat) : Int)
        · refine ct rfl (decide_eq_true h18) (sk (nx (sq (bk (sq ?_)))))
          refine gx 0 k2 rfl (by omega) fun y24 p19 cs_ s20 w23 m25 e21 r22 us20 => ?_
          obtain ⟨A26, c27, A28, c29, rfl⟩ := kPairS_sh r22
          refine gx 1 (k2 + 1) rfl (by omega) fun y35 p30 cs_ s31 w34 m36 e32 r33 us31 => ?_
          obtain ⟨A37, c38, A39, c40, rfl⟩ := kPairS_sh r33
          refine r0 (qv 0 rfl (mv rfl rfl) rfl (by kernel_rfl) (qv 1 rfl (mv rfl rfl) rfl (by kernel_rfl) (qv 2 rfl (rs (c := ((k2 : Nat) : Int)) rfl rfl rfl (by omega) (by omega) (by omega)) rfl (by kernel_rfl) (qv 3 rfl (ix k2 e21 rfl rfl rfl rfl rfl (by omega)) rfl (by kernel_rfl) (qv 4 rfl (fa rfl rfl rfl) rfl (by kernel_rfl) (qv 5 rfl (ldp (u := .int .i64 y24.id) 1 rfl rfl rfl rfl rfl rfl rfl) rfl (by kernel_rfl) (qv 6 rfl (mv rfl rfl) rfl (by kernel_rfl) (qv 7 rfl (mv rfl rfl) rfl (by kernel_rfl) (qv 8 rfl (ix (k2 + 1) e32 rfl rfl rfl rfl rfl (by omega)) rfl (by kernel_rfl) (qv 9 rfl (fa rfl rfl rfl) rfl (by kernel_rfl) (qv 10 rfl (ldp (u := .int .i64 y35.id) 0 rfl rfl rfl rfl rfl rfl rfl) rfl (by kernel_rfl) (qv 11 rfl (cm rfl rfl rfl rfl) rfl (by kernel_rfl) (qe [0, 0, 0] (by kernel_rfl) rfl (nx ?_))))))))))))))
          by_cases h41 : y35.id ≤ y24.id
          · refine ct rfl (decide_eq_true h41) (sq (rg (a_ rfl rfl (en (nx (rt (xrb (xr (xr (xrb (xr (ret1 rfl rfl (fun w_ hs_ => ⟨?_, hs_.below⟩)))))))))))))
            exact ri (by have z := firstFault_0 (f := fun p => pairFault p dims) hinv (by omega); have y := risesP_f m25 m36 (by omega); grind [modelFault, isDims])
          · exact cf rfl (decide_eq_false h41) (sk (xn (nx (rg (m_ rfl rfl (vl (ra (c := ((k2 + 1 + 1 : Nat) : Int)) rfl rfl rfl (by omega) (by omega) (by omega)) rfl (a_ rfl rfl (en (lpe (s := k2) (k2 + 1) [2] ⟨.inr (by omega), adj_step hinv2 m25 m36 (decide_eq_false (by omega))⟩ (by omega) ⟨rfl, rfl, trivial⟩ rfl)))))))))
        · refine cf rfl (decide_eq_false h18) (xt (xq (xq (xb (nx (sq (rg (a_ rfl rfl (en (nx (rt (ret1 rfl rfl (fun w_ hs_ => ⟨?_, hs_.below⟩)))))))))))))
          exact ri (by have z := firstFault_0 (f := fun p => pairFault p dims) hinv (by omega); have y := risesP_t hinv2 (by omega); grind [modelFault, isDims])
  · refine ct rfl (not_t (Bool.eq_false_iff.2 h1)) (sq (rg (a_ rfl rfl (en (nx (rt (xrb (xr (ret1 rfl rfl (fun w_ hs_ => ⟨?_, hs_.below⟩))))))))))
    exact ri (by grind [modelFault, isDims])
end Go.Proofs.YtfaflffdekoimaaGreat.Sx
