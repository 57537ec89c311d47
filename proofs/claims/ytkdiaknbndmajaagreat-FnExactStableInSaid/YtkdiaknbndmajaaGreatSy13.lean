/- What functions of the program answer, each at every input that its row names; walked through their code. -/
import Derived.Test.YtkdiaknbndmajaaGreatSy12
namespace Go.Proofs.YtkdiaknbndmajaaGreat.Sx
open Go Go.RowKit Go.Proofs
set_option linter.unusedVariables false
set_option linter.unusedSimpArgs false
def tab12 : Tab := { size := [(2, 1, false), (24, 1, false), (26, 2, true), (60, 3, true), (69, 1, false)], off := [], elem := [(24, 60), (40, 2), (69, 24)] }
theorem tab_ok12 : tab12.check Tryz.prog = true := by kernel_rfl
noncomputable abbrev X12 (N : Nat) (w : World) : Cx := ⟨Tryz.prog, tab12, tab_ok12, wide, N, w, none, []⟩
theorem zero26 : (Tryz.prog.info? 26).bind (·.zero) = some (.agg #[.int .i64 0, .slice none 0 0]) := by kernel_rfl
theorem bld26 : bld Tryz.prog 26 = some ([(0, 1), (1, 1)], [.int .i64 0, .slice none 0 0]) := by kernel_rfl

/-! impl.stable$1$1 -/
set_option maxRecDepth 20000 in
set_option maxHeartbeats 2000000 in
theorem impl_stable_1_1 (w : World) {Alist : Option Addr} {clist : Nat} {list : List Pair} {slist_ : List Nat} (hlist : (Kd.sl kPairS).Rel w [.slice Alist list.length clist] list [] slist_) {Ap1 : Option Addr} {cp1 : Nat} {Ap2 : Option Addr} {cp2 : Nat} {p : Pair} {sp_ : List Nat} {pp : Addr} (hp : (ptr kPairS pp [.int .i64 p.id, .slice Ap1 p.rect.low.length cp1, .slice Ap2 p.rect.high.length cp2] p sp_).P w)  : Calls Tryz.prog 58 #[.slice Alist list.length clist, .pointer (some pp)] w (fun e_ w2_ => e_ = .returned (.bool (!inL list p)) ∧ Below w.heap.size w w2_) := by
  have Llist := Kd.sl_len hlist; have Clist := Kd.sl_cap hlist
  refine fnc (X := X12 8 w) (args := [.slice Alist list.length clist, .pointer (some pp)]) (l := [(0, .slice Alist list.length clist), (1, .pointer (some pp))]) (G := [ptr kPairS pp [.int .i64 p.id, .slice Ap1 p.rect.low.length cp1, .slice Ap2 p.rect.high.length cp2] p sp_, dat (Kd.sl kPairS) [.slice Alist list.length clist] list ([]) slist_]) Tryz.func58 rfl rfl rfl ⟨rfl, rfl, trivial⟩ (s0p hp (s0d hlist (s0n w))).1 ?_
  refine sq (rg (a_ rfl rfl (en (nx (sq (rg (m_ rfl rfl (vl (ldq 0 rfl rfl rfl rfl rfl rfl rfl) rfl ?_))))))))
  refine gp 0 Kd.Sub.rfl rfl (cs' := [.int .i64 p.id, .slice Ap1 p.rect.low.length cp1, .slice Ap2 p.rect.high.length cp2]) rfl fun s1 w_ rs1 us1 => ?_
  refine cs_ (v := .bool (List.any list (fun (x0 : Pair) => decide (p = x0)))) (by kernel_rfl) rfl rfl rfl (fun w_ hs_ => impl_hasPairIn w_ (hs_.at 2 rfl) (hs_.at 0 rfl)) (vl (nt rfl rfl) rfl (a_ rfl rfl (en (nx (rt (ret1 rfl rfl (fun w_ hs_ => ⟨?_, hs_.below⟩)))))))
  rfl
/-! impl.stable$1 -/
set_option maxRecDepth 20000 in
set_option maxHeartbeats 2000000 in
theorem impl_stable_1 (w : World) {Ap1 : Option Addr} {cp1 : Nat} {Ap2 : Option Addr} {cp2 : Nat} {p : Pair} {sp_ : List Nat} (hp : kPairS.Rel w [.int .i64 p.id, .slice Ap1 p.rect.low.length cp1, .slice Ap2 p.rect.high.length cp2] p [] sp_) {Amodels : Option Addr} {cmodels : Nat} {models : List (List Pair)} {smodels_ : List Nat} {pmodels : Addr} (hmodels : (ptr (Kd.sl (Kd.sl kPairS)) pmodels [.slice Amodels models.length cmodels] models smodels_).P w)  : Calls Tryz.prog 56 #[.agg #[.int .i64 p.id, .slice Ap1 p.rect.low.length cp1, .slice Ap2 p.rect.high.length cp2], .pointer (some pmodels)] w (fun e_ w2_ => e_ = .returned (.bool (List.any models (fun (l : List Pair) => !inL l p))) ∧ Below w.heap.size w w2_) := by
  refine fnc (X := X12 7 w) (args := [.agg #[.int .i64 p.id, .slice Ap1 p.rect.low.length cp1, .slice Ap2 p.rect.high.length cp2], .pointer (some pmodels)]) (l := [(0, .agg #[.int .i64 p.id, .slice Ap1 p.rect.low.length cp1, .slice Ap2 p.rect.high.length cp2]), (1, .pointer (some pmodels))]) (G := [ptr (Kd.sl (Kd.sl kPairS)) pmodels [.slice Amodels models.length cmodels] models smodels_, dat kPairS [.int .i64 p.id, .slice Ap1 p.rect.low.length cp1, .slice Ap2 p.rect.high.length cp2] p ([]) sp_]) Tryz.func56 rfl rfl rfl ⟨rfl, rfl, trivial⟩ (s0p hmodels (s0d hp (s0n w))).1 ?_
  refine sq (rg (bx rfl rfl rfl rfl ?_))
  intro b1
  refine a_ rfl rfl (en (nx (sq (rg (vl (ldq (u := .slice Amodels models.length cmodels) 1 rfl rfl rfl rfl rfl rfl rfl) rfl (vl (mf rfl rfl rfl) rfl ?_))))))
  refine gp 1 Kd.Sub.rfl rfl (cs' := [.slice Amodels models.length cmodels]) rfl fun s2 w_ rs2 us2 => ?_
  have Ls2 := Kd.sl_len rs2; have Cs2 := Kd.sl_cap rs2
  refine cs_ (v := .bool (List.any models (fun (x0 : List Pair) => !inL x0 p))) (by kernel_rfl) rfl rfl rfl (fun w_ hs_ => slices_ContainsFunc_impl_Pair_impl_Pair_x w_ (fun (x0 : List Pair) => !inL x0 p) (by kernel_rfl) (hs_.at 0 rfl) (fun w1 x0 m0_ b_ _ _ _ r0_ => impl_stable_1_1 w1  r0_ (ptr_blk ((hs_.step b_).at 1 rfl) ((hs_.step b_).at 3 rfl) rfl))) (a_ rfl rfl (en (nx (rt (ret1 rfl rfl (fun w_ hs_ => ⟨?_, hs_.below⟩))))))
  rfl
/-! impl.stable -/
set_option maxRecDepth 20000 in
set_option maxHeartbeats 2000000 in
theorem impl_stable (w : World) {Amodels : Option Addr} {cmodels : Nat} {models : List (List Pair)} {smodels_ : List Nat} (hmodels : (Kd.sl (Kd.sl kPairS)).Rel w [.slice Amodels models.length cmodels] models [] smodels_) (h0 : 0 < models.length) (yFs : ∀ l ∈ models, l.length ≤ 1048576 ∧ ∀ p ∈ l, szPair p ≤ 1048576) : Calls Tryz.prog 27 #[.slice Amodels models.length cmodels] w (Made (Kd.sl kPairS) w (stabM models) []) := by
  have Lmodels := Kd.sl_len hmodels; have Cmodels := Kd.sl_cap hmodels
  refine fnc (X := X12 9 w) (args := [.slice Amodels models.length cmodels]) (l := [(0, .slice Amodels models.length cmodels)]) (G := [dat (Kd.sl (Kd.sl kPairS)) [.slice Amodels models.length cmodels] models ([]) smodels_]) Tryz.func27 rfl rfl rfl ⟨rfl, trivial⟩ (s0d hmodels (s0n w)).1 ?_
  refine sq (rg (bx rfl rfl rfl rfl ?_))
  intro b1
  refine a_ rfl rfl (en (nx (sq (rg (vl (ldb (u := .slice Amodels models.length cmodels) 0 rfl rfl rfl rfl rfl rfl rfl) rfl ?_)))))
  refine gx 1 0 rfl (by omega) fun y7 p2 cs_ s3 w6 m8 e4 r5 us3 => ?_
  obtain ⟨-, A9, c10, rfl, -⟩ := r5
  refine vl (ix 0 e4 rfl rfl rfl rfl rfl (by omega)) rfl (vl (ldq (u := .slice A9 y7.length c10) 0 rfl rfl rfl rfl rfl rfl rfl) rfl ?_)
  refine gp 0 Kd.Sub.rfl rfl (cs' := [.slice A9 y7.length c10]) rfl fun s11 w_ rs11 us11 => ?_
  have Ls11 := Kd.sl_len rs11; have Cs11 := Kd.sl_cap rs11
  refine cm_ (dk := (Kd.row 60 kPairO)) (x := y7) (S := []) (by kernel_rfl) rfl rfl rfl sn0 (fun w_ hs_ => impl_clonedPairs w_ (hs_.at 0 rfl) (yFs _ (List.mem_of_getElem? m8)).1 (yFs _ (List.mem_of_getElem? m8)).2) (fun cs_ o14 s15 w_ r16 t17 => ?_)
  obtain ⟨A12, c13, rfl⟩ := Kd.row_sh r16
  refine vl (mf rfl rfl rfl) rfl (gle kPairO_seal (fun o19 s20 us20 => ?_))
  refine co (dk := (Kd.row 60 kPairS)) (x := (List.filter (fun x => !((fun (x0 : Pair) => List.any models (fun (l : List Pair) => !inL l x0)) x)) y7)) (S := (s20)) (by kernel_rfl) rfl rfl rfl (snt 0 rfl) (fun w_ hs_ => slices_DeleteFunc_impl_Pair_impl_Pair w_ (fun (x0 : Pair) => List.any models (fun (l : List Pair) => !inL l x0)) (by kernel_rfl) ((hs_.pk [0] rfl).nl) (fun w1 x0 m0_ b_ _ _ _ _ _ r0_ => impl_stable_1 w1  r0_ (ptr_blk (hs_.far b_ 2 rfl) (hs_.far b_ 3 rfl) rfl))) (fun cs_ o23 s24 w_ r25 t26 => ?_)
  obtain ⟨A21, c22, rfl⟩ := Kd.row_sh r25
  refine a_ rfl rfl (en (nx (rt (gl (Kd.Seals.row kPairS_self _) (fun s27 us27 => ?_)))))
  exact gr (stabM models) (stabM_del m8) (ret1 rfl rfl (fun w_ hs_ => made hs_ rfl (by grind)))
/-! spec.l12Stable -/
set_option maxRecDepth 20000 in
set_option maxHeartbeats 2000000 in
theorem spec_l12Stable (w : World) (lo : Int) (hi : Int) {Anotes : Option Addr} {cnotes : Nat} {notes : List Note} {snotes_ : List Nat} (hnotes : (Kd.sl kNoteS).Rel w [.slice Anotes notes.length cnotes] notes [] snotes_) {dims : Int} (yFt : timesFault notes dims lo hi = 0) : Calls Tryz.prog 23 #[.slice Anotes notes.length cnotes, .int .i64 lo, .int .i64 hi] w (Made (Kd.sl kPairS) w (stabOf notes lo hi) (snotes_)) := by
  have Lnotes := Kd.sl_len hnotes; have Cnotes := Kd.sl_cap hnotes
  have tt := times_ok yFt; have zz := notes_0 tt.1
  refine fnc (X := X12 53 w) (args := [.slice Anotes notes.length cnotes, .int .i64 lo, .int .i64 hi]) (l := [(0, .slice Anotes notes.length cnotes), (1, .int .i64 lo), (2, .int .i64 hi)]) (G := [dat (Kd.sl kNoteS) [.slice Anotes notes.length cnotes] notes ([]) snotes_]) Tryz.func23 rfl rfl rfl ⟨rfl, rfl, rfl, trivial⟩ (s0d hnotes (s0n w)).1 ?_
  refine sq (rg (a_ rfl rfl (en (nx (sq (rg (m_ rfl rfl (m_ rfl rfl (cm_ (dk := (Kd.sl kPairS)) (x := (modelAt notes lo)) (S := (snotes_)) (by kernel_rfl) rfl rfl rfl (snt 0 rfl) (fun w_ hs_ => spec_l12Model w_ _ (hs_.at 0 rfl) (by omega) zz.2) (fun cs_ o3 s4 w_ r5 t6 => ?_))))))))))
  obtain ⟨rfl, A1, c2, rfl, Cr5, Lr5, -⟩ := r5
  refine a_ rfl rfl (en (nx (sq (rg (m_ rfl rfl (m_ rfl rfl (m_ rfl rfl (cm_ (dk := (Kd.row 2 Kd.i64)) (x := (timesOf notes lo hi)) (S := []) (by kernel_rfl) rfl rfl rfl sn0 (fun w_ hs_ => spec_l12Times w_ _ _ (hs_.at 1 rfl) (by omega) (by omega) (by omega)) (fun cs_ o10 s11 w_ r12 t13 => ?_)))))))))
  obtain ⟨A8, c9, rfl⟩ := Kd.row_sh r12
  refine a_ rfl rfl (en (nx (sq (sq (rg (a_ rfl rfl (en (nx (bk (gl (Kd.Seals.row Kd.Seals.i64 _) (fun s15 us15 => ?_)))))))))))
  refine lp (σ := Nat × List Pair × Option Addr × Nat × List Nat) (fun z_ : Nat × List Pair × Option Addr × Nat × List Nat => match z_ with | (k, out, A_out, c_out, s_out) => [(0, .slice Anotes notes.length cnotes), (7, .slice A_out out.length c_out), (8, .slice A8 ((timesOf notes lo hi).length) c9), (9, .int .i64 ((k : Nat) : Int))])
      (fun z_ : Nat × List Pair × Option Addr × Nat × List Nat => match z_ with | (k, out, A_out, c_out, s_out) => [dat (Kd.sl kPairS) [.slice A_out out.length c_out] out ([]) s_out, dat (Kd.sl Kd.i64) [.slice A8 ((timesOf notes lo hi).length) c9] (timesOf notes lo hi) ([]) s15, dat (Kd.sl kNoteS) [.slice Anotes notes.length cnotes] notes ([]) snotes_])
      (fun z_ : Nat × List Pair × Option Addr × Nat × List Nat => match z_ with | (k, out, A_out, c_out, s_out) => (1 ≤ k ∧ k ≤ (timesOf notes lo hi).length ∧ out = (modelAt notes lo).filter (fun p => ((timesOf notes lo hi).take k).all (fun t => inL (modelAt notes t) p)) ∧ out.length ≤ 600) ∧ (∀ q ∈ s_out, q ∈ snotes_ ∨ w.heap.size ≤ q)) (fun z_ : Nat × List Pair × Option Addr × Nat × List Nat => match z_ with | (k, out, A_out, c_out, s_out) => (timesOf notes lo hi).length - k) (1, (modelAt notes lo), A1, c2, s4) [1, 0, 0] ⟨⟨Nat.le_refl _, by show 1 ≤ (timesOf notes lo hi).length; simp [timesOf], stab_0, by have z := model_len notes lo; omega⟩, by grind⟩ ⟨rfl, rfl, rfl, rfl, trivial⟩ rfl ?_
  rintro ⟨k, out, A_out, c_out, s_out⟩ hp_
  obtain ⟨hinv1, hsee1out⟩ := hp_; have tl := timesOf_len notes lo hi
  refine sq (sq (rg (m_ rfl rfl (m_ rfl rfl (vl (ln rfl rfl rfl) rfl (vl (cm rfl rfl rfl rfl) rfl (en (nx ?_))))))))
  by_cases h16 : ((k : Nat) : Int) < (((timesOf notes lo hi).length : Nat) : Int)
  · refine ct rfl (decide_eq_true h16) (sk (nx (sq (bk (sq (rg (m_ rfl rfl (m_ rfl rfl (m_ rfl rfl ?_)))))))))
    refine gx 1 k rfl (by omega) fun y22 p17 cs_ s18 w21 m23 e19 r20 us18 => ?_
    obtain ⟨rfl, -, -⟩ := r20
    refine vl (ix k e19 rfl rfl rfl rfl rfl (by omega)) rfl (vl (ldq (u := .int .i64 y22) 0 rfl rfl rfl rfl rfl rfl rfl) rfl (cm_ (dk := (Kd.sl kPairS)) (x := (modelAt notes y22)) (S := (snotes_)) (by kernel_rfl) rfl rfl rfl (snt 3 rfl) (fun w_ hs_ => spec_l12Model w_ _ (hs_.at 3 rfl) (by omega) zz.2) (fun cs_ o26 s27 w_ r28 t29 => ?_)))
    obtain ⟨rfl, A24, c25, rfl, Cr28, Lr28, -⟩ := r28
    refine a_ rfl rfl (en (nx (sq (rg (bs0 (dk := kPairS) rfl info60 rfl rfl ?_)))))
    intro b31
    refine a_ rfl rfl (en (nx (sq (sq (rg (a_ rfl rfl (en (nx (bk ?_)))))))))
    refine lp (σ := Nat × List Pair × Option Addr × Nat × List Nat × List Nat) (fun z_ : Nat × List Pair × Option Addr × Nat × List Nat × List Nat => match z_ with | (k2, left, A_left, c_left, o_left, s_left) => [(0, .slice Anotes notes.length cnotes), (7, .slice A_out out.length c_out), (8, .slice A8 ((timesOf notes lo hi).length) c9), (9, .int .i64 ((k : Nat) : Int)), (10, .slice A24 ((modelAt notes y22).length) c25), (11, .slice A_left left.length c_left), (12, .int .i64 ((k2 : Nat) : Int))])
        (fun z_ : Nat × List Pair × Option Addr × Nat × List Nat × List Nat => match z_ with | (k2, left, A_left, c_left, o_left, s_left) => [dat (Kd.row 60 kPairS) [.slice A_left left.length c_left] left o_left s_left, dat (Kd.sl kPairS) [.slice A24 ((modelAt notes y22).length) c25] (modelAt notes y22) ([]) s27, ptr Kd.i64 p17 [.int .i64 y22] y22 s18, dat (Kd.sl kPairS) [.slice A_out out.length c_out] out ([]) s_out, dat (Kd.sl Kd.i64) [.slice A8 ((timesOf notes lo hi).length) c9] (timesOf notes lo hi) ([]) s15, dat (Kd.sl kNoteS) [.slice Anotes notes.length cnotes] notes ([]) snotes_])
        (fun z_ : Nat × List Pair × Option Addr × Nat × List Nat × List Nat => match z_ with | (k2, left, A_left, c_left, o_left, s_left) => (k2 ≤ out.length ∧ left = (out.take k2).filter (fun p => inL (modelAt notes y22) p)) ∧ (∀ q ∈ s_left, q ∈ snotes_ ∨ w.heap.size ≤ q)) (fun z_ : Nat × List Pair × Option Addr × Nat × List Nat × List Nat => match z_ with | (k2, left, A_left, c_left, o_left, s_left) => out.length - k2) (0, [], (some ⟨b31, 0, none⟩), 0, [b31], []) [0, 0, 0, 0, 0, 0] ⟨⟨Nat.zero_le _, by simp⟩, by grind⟩ ⟨rfl, rfl, rfl, rfl, rfl, rfl, rfl, trivial⟩ rfl ?_
    rintro ⟨k2, left, A_left, c_left, o_left, s_left⟩ hp_
    obtain ⟨hinv2, hsee2left⟩ := hp_; have zl : left.length ≤ 600 := (by have z := List.length_filter_le (fun p => inL (modelAt notes y22) p) (out.take k2); rw [← hinv2.2, List.length_take] at z; omega)
    refine sq (sq (rg (m_ rfl rfl (m_ rfl rfl (vl (ln rfl rfl rfl) rfl (vl (cm rfl rfl rfl rfl) rfl (en (nx ?_))))))))
    by_cases h32 : ((k2 : Nat) : Int) < ((out.length : Nat) : Int)
    · refine ct rfl (decide_eq_true h32) (sk (nx (sq (bk (sq (rg (m_ rfl rfl (m_ rfl rfl (m_ rfl rfl ?_)))))))))
      refine gx 3 k2 rfl (by omega) fun y38 p33 cs_ s34 w37 m39 e35 r36 us34 => ?_
      obtain ⟨A40, c41, A42, c43, rfl⟩ := kPairS_sh r36
      refine vl (ix k2 e35 rfl rfl rfl rfl rfl (by omega)) rfl (cs_ (v := .bool (List.any (modelAt notes y22) (fun q => decide (y38 = q)))) (by kernel_rfl) rfl rfl rfl (fun w_ hs_ => l12ThereU w_ (hs_.at 2 rfl) (hs_.at 0 rfl) (Sorted.model _ _).uq) (en (nx ?_)))
      by_cases h44 : List.any (modelAt notes y22) (fun q => decide (y38 = q)) = true
      · refine ct rfl h44 (rg (m_ rfl rfl (m_ rfl rfl (m_ rfl rfl (vl (ix k2 e35 rfl rfl rfl rfl rfl (by omega)) rfl (vl (ldq 0 rfl rfl rfl rfl rfl rfl rfl) rfl ?_))))))
        refine gp 0 Kd.Sub.rfl rfl (cs' := [.int .i64 y38.id, .slice A40 y38.rect.low.length c41, .slice A42 y38.rect.high.length c43]) rfl fun s46 w_ rs46 us46 => ?_
        refine gd 0 Kd.Sub.rfl rfl (cs' := [.int .i64 y38.id, .slice A40 y38.rect.low.length c41, .slice A42 y38.rect.high.length c43]) rfl fun s47 w_ rs47 us47 => ?_
        refine bs1 (dk := kPairS) rfl info60 (by decide) rfl rfl rfl rfl ?_
        intro b45
        refine f3 (ap (left ++ [y38]) rfl info60 rfl rfl (by decide) rfl rfl rfl rfl (by simp only [List.length_append, List.length_cons, List.length_nil]; omega) (by simp only [List.length_append, List.length_cons, List.length_nil]; omega) rfl (fun A48 c49 o50 s51 t52 => ?_))
        refine a_ rfl rfl (en (xn (nx (rg (m_ rfl rfl (vl (ra (c := ((k2 + 1 : Nat) : Int)) rfl rfl rfl (by omega) (by omega) (by omega)) rfl (a_ rfl rfl (en ?_))))))))
        exact lpe (s := (k2, left, A_left, c_left, o_left, s_left)) (k2 + 1, (left ++ [y38]), A48, c49, o50, s51) [0, 2, 2, 2, 2, 2] ⟨⟨by omega, left_y hinv2.2 m39 (show inL _ _ = true from h44)⟩, by grind⟩ (by show out.length - (k2 + 1) < out.length - k2; omega) ⟨rfl, rfl, rfl, rfl, rfl, rfl, rfl, trivial⟩ rfl
      · refine cf rfl (Bool.eq_false_iff.2 h44) (sk (xn (nx (rg (m_ rfl rfl (vl (ra (c := ((k2 + 1 : Nat) : Int)) rfl rfl rfl (by omega) (by omega) (by omega)) rfl (a_ rfl rfl (en ?_))))))))
        exact lpe (s := (k2, left, A_left, c_left, o_left, s_left)) (k2 + 1, left, A_left, c_left, o_left, s_left) [1, 1, 1, 1, 1, 1] ⟨⟨by omega, left_n hinv2.2 m39 (show ¬ inL _ _ = true from h44)⟩, by grind⟩ (by show out.length - (k2 + 1) < out.length - k2; omega) ⟨rfl, rfl, rfl, rfl, rfl, rfl, rfl, trivial⟩ rfl
    · refine cf rfl (decide_eq_false h32) (xt (xq (xq (xb (nx (rg (m_ rfl rfl (a_ rfl rfl (en (xn (nx (rg (m_ rfl rfl (vl (ra (c := ((k + 1 : Nat) : Int)) rfl rfl rfl (by omega) (by omega) (by omega)) rfl (a_ rfl rfl (en (gl (Kd.Seals.row kPairS_self _) (fun s53 us53 => ?_))))))))))))))))))
      exact lpe (s := (k, out, A_out, c_out, s_out)) (k + 1, left, A_left, c_left, s53) [0, 3, 3] ⟨⟨by omega, by omega, stab_on hinv1.2.2.1 m23 hinv2.2 (by omega), by have z := List.length_filter_le (fun p => inL (modelAt notes y22) p) (out.take k2); rw [← hinv2.2, List.length_take] at z; omega⟩, by grind⟩ (by show (timesOf notes lo hi).length - (k + 1) < (timesOf notes lo hi).length - k; omega) ⟨rfl, rfl, rfl, rfl, trivial⟩ rfl
  · exact cf rfl (decide_eq_false h16) (xt (xq (xq (xb (nx (sq (rg (m_ rfl rfl (a_ rfl rfl (en (nx (rt (gr (stabOf notes lo hi) (stab_end yFt hinv1.2.2.1 (by omega)) (ret1 rfl rfl (fun w_ hs_ => made hs_ rfl (by grind))))))))))))))))
/-! spec.StableIn -/
set_option maxRecDepth 20000 in
set_option maxHeartbeats 2000000 in
theorem spec_StableIn (w : World) (dims : Int) (lo : Int) (hi : Int) {Anotes : Option Addr} {cnotes : Nat} {notes : List Note} {snotes_ : List Nat} (hnotes : (Kd.sl kNoteS).Rel w [.slice Anotes notes.length cnotes] notes [] snotes_)  : Calls Tryz.prog 7 #[.slice Anotes notes.length cnotes, .int .i64 dims, .int .i64 lo, .int .i64 hi] w (Made kPairsResultO w (stableRes notes dims lo hi) []) := by
  have Lnotes := Kd.sl_len hnotes; have Cnotes := Kd.sl_cap hnotes
  refine fnc (X := X12 31 w) (args := [.slice Anotes notes.length cnotes, .int .i64 dims, .int .i64 lo, .int .i64 hi]) (l := [(0, .slice Anotes notes.length cnotes), (1, .int .i64 dims), (2, .int .i64 lo), (3, .int .i64 hi)]) (G := [dat (Kd.sl kNoteS) [.slice Anotes notes.length cnotes] notes ([]) snotes_]) Tryz.func7 rfl rfl rfl ⟨rfl, rfl, rfl, rfl, trivial⟩ (s0d hnotes (s0n w)).1 ?_
  refine sq (rg (al zero26 rfl rfl rfl ?_))
  intro b1
  refine en (nx (sq (sq (rg (m_ rfl rfl (m_ rfl rfl (m_ rfl rfl (m_ rfl rfl (cs_ (v := .int .i64 (timesFault notes dims lo hi)) (by kernel_rfl) rfl rfl rfl (fun w_ hs_ => spec_l12Ask w_ _ _ _ (hs_.at 1 rfl)) (a_ rfl rfl (en (nx (sq (rg (m_ rfl rfl (vl (cm rfl rfl rfl rfl) rfl (en (nx ?_))))))))))))))))))
  by_cases h2 : (timesFault notes dims lo hi) = (0 : Int)
  · have tt := times_ok h2; have zz := notes_0 tt.1; have yFt := h2
    refine cf rfl (bne_eq_false_iff_eq.2 h2) (sk (nx (sq (sq (rg (m_ rfl rfl (m_ rfl rfl (cm_ (dk := (Kd.sl kPairS)) (x := (modelAt notes lo)) (S := (snotes_)) (by kernel_rfl) rfl rfl rfl (snt 1 rfl) (fun w_ hs_ => spec_l12Model w_ _ (hs_.at 1 rfl) (by omega) zz.2) (fun cs_ o5 s6 w_ r7 t8 => ?_)))))))))
    obtain ⟨rfl, A3, c4, rfl, Cr7, Lr7, -⟩ := r7
    refine vl (ln rfl rfl rfl) rfl (vl (cm rfl rfl rfl rfl) rfl (en (nx ?_)))
    by_cases h10 : (60 : Int) < (((modelAt notes lo).length : Nat) : Int)
    · exact ct rfl (decide_eq_true h10) (sq (rg (vl (bd bld26 rfl rfl rfl) rfl (f1 (sto rfl rfl rfl rfl rfl rfl rfl (cs' := [.int .i64 2, .slice none 0 0]) rfl (en (nx (rt (xr (gs (Kd.row 60 kPairO) [.slice none 0 0] ((⟨2, []⟩ : PairsResult).pairs) (fun _ => .inl ⟨rfl, rfl, rfl, rfl⟩) (gs Kd.i64 [.int .i64 2] ((⟨2, []⟩ : PairsResult).code) (fun _ => ⟨rfl, rfl, rfl⟩) (gj (da := (Kd.via Kd.i64 PairsResult.code)) (db := (Kd.via (Kd.row 60 kPairO) PairsResult.pairs)) (x := (⟨2, []⟩ : PairsResult)) (cs := [.int .i64 2, .slice none 0 0]) rfl (gr (stableRes notes dims lo hi) (by unfold stableRes; rw [if_pos h2, if_pos h10]) (retc 1 rfl rfl rfl rfl rfl rfl (fun w_ hs_ => made hs_ rfl (see_app see_nil see_nil))))))))))))))))
    · refine cf rfl (decide_eq_false h10) (sk (nx (sq (rg (m_ rfl rfl (m_ rfl rfl (m_ rfl rfl (cm_ (dk := (Kd.sl kPairS)) (x := (stabOf notes lo hi)) (S := (snotes_)) (by kernel_rfl) rfl rfl rfl (snt 2 rfl) (fun w_ hs_ => spec_l12Stable w_ _ _ (hs_.at 2 rfl) yFt) (fun cs_ o13 s14 w_ r15 t16 => ?_)))))))))
      obtain ⟨rfl, A11, c12, rfl, Cr15, Lr15, -⟩ := r15
      refine cm_ (dk := (Kd.row 60 kPairO)) (x := (stabOf notes lo hi)) (S := []) (by kernel_rfl) rfl rfl rfl sn0 (fun w_ hs_ => spec_l2Copies w_ (hs_.at 0 rfl) (by have z := List.length_filter_le (fun p => (modelsOf notes lo hi).all (fun l => inL l p)) (modelAt notes lo); have y := model_len notes lo; have q : (stabOf notes lo hi).length = (List.filter (fun p => (modelsOf notes lo hi).all (fun l => inL l p)) (modelAt notes lo)).length := rfl; omega) (fun p hp => by have z := model_sz (t := lo) tt.1 (List.mem_filter.1 hp).1; omega)) (fun cs_ o20 s21 w_ r22 t23 => ?_)
      obtain ⟨A18, c19, rfl⟩ := Kd.row_sh r22
      exact vl (bd bld26 rfl rfl rfl) rfl (f3 (sto rfl rfl rfl rfl rfl rfl rfl (cs' := [.int .i64 0, .slice A18 ((stabOf notes lo hi).length) c19]) rfl (en (nx (rt (f1 (gs Kd.i64 [.int .i64 0] ((⟨0, (stabOf notes lo hi)⟩ : PairsResult).code) (fun _ => ⟨rfl, rfl, rfl⟩) (gj (da := (Kd.via Kd.i64 PairsResult.code)) (db := (Kd.via (Kd.row 60 kPairO) PairsResult.pairs)) (x := (⟨0, (stabOf notes lo hi)⟩ : PairsResult)) (cs := [.int .i64 0, .slice A18 ((stabOf notes lo hi).length) c19]) rfl (gr (stableRes notes dims lo hi) (by unfold stableRes; rw [if_pos h2, if_neg h10]) (retc 1 rfl rfl rfl rfl rfl rfl (fun w_ hs_ => made hs_ rfl (see_app see_nil t23))))))))))))
  · exact ct rfl (bne_iff_ne.2 h2) (sq (rg (m_ rfl rfl (vl (bd bld26 rfl rfl rfl) rfl (sto rfl rfl rfl rfl rfl rfl rfl (cs' := [.int .i64 (timesFault notes dims lo hi), .slice none 0 0]) rfl (en (nx (rt (xr (gs (Kd.row 60 kPairO) [.slice none 0 0] ((⟨(timesFault notes dims lo hi), []⟩ : PairsResult).pairs) (fun _ => .inl ⟨rfl, rfl, rfl, rfl⟩) (gs Kd.i64 [.int .i64 (timesFault notes dims lo hi)] ((⟨(timesFault notes dims lo hi), []⟩ : PairsResult).code) (fun _ => ⟨rfl, rfl, rfl⟩) (gj (da := (Kd.via Kd.i64 PairsResult.code)) (db := (Kd.via (Kd.row 60 kPairO) PairsResult.pairs)) (x := (⟨(timesFault notes dims lo hi), []⟩ : PairsResult)) (cs := [.int .i64 (timesFault notes dims lo hi), .slice none 0 0]) rfl (gr (stableRes notes dims lo hi) (by unfold stableRes; rw [if_neg h2]) (retc 1 rfl rfl rfl rfl rfl rfl (fun w_ hs_ => made hs_ rfl (see_app see_nil see_nil))))))))))))))))
end Go.Proofs.YtkdiaknbndmajaaGreat.Sx
