/- What functions of the program answer, each at every input that its row names; walked through their code. -/
import Derived.Test.YtkdiaknbndmajaaGreatSy14
namespace Go.Proofs.YtkdiaknbndmajaaGreat.Sx
open Go Go.RowKit Go.Proofs
set_option linter.unusedVariables false
set_option linter.unusedSimpArgs false
def tab14 : Tab := { size := [(24, 1, false), (26, 2, true), (69, 1, false)], off := [], elem := [(24, 60), (69, 24)] }
theorem tab_ok14 : tab14.check Tryz.prog = true := by kernel_rfl
noncomputable abbrev X14 (N : Nat) (w : World) : Cx := ⟨Tryz.prog, tab14, tab_ok14, wide, N, w, none, []⟩

/-! impl.stable -/
set_option maxRecDepth 20000 in
set_option maxHeartbeats 2000000 in
theorem stable_own (w : World) {Amodels : Option Addr} {cmodels : Nat} {models : List (List Pair)} {smodels_ : List Nat} (hmodels : (Kd.sl (Kd.sl kPairS)).Rel w [.slice Amodels models.length cmodels] models [] smodels_) (h0 : 0 < models.length) (yFs : ∀ l ∈ models, l.length ≤ 1048576 ∧ ∀ p ∈ l, szPair p ≤ 1048576) : Calls Tryz.prog 27 #[.slice Amodels models.length cmodels] w (Made (Kd.row 60 kPairO) w (stabM models) []) := by
  have Lmodels := Kd.sl_len hmodels; have Cmodels := Kd.sl_cap hmodels
  refine fnc (X := X14 9 w) (args := [.slice Amodels models.length cmodels]) (l := [(0, .slice Amodels models.length cmodels)]) (G := [dat (Kd.sl (Kd.sl kPairS)) [.slice Amodels models.length cmodels] models ([]) smodels_]) Tryz.func27 rfl rfl rfl ⟨rfl, trivial⟩ (s0d hmodels (s0n w)).1 ?_
  refine sq (rg (bx rfl rfl rfl rfl ?_))
  intro b1
  refine a_ rfl rfl (en (nx (sq (rg (vl (ldb (u := .slice Amodels models.length cmodels) 0 rfl rfl rfl rfl rfl rfl rfl) rfl ?_)))))
  refine gx 1 0 rfl (by omega) fun y7 p2 cs_ s3 w6 m8 e4 r5 us3 => ?_
  obtain ⟨-, A9, c10, rfl, -⟩ := r5
  refine vl (ix 0 e4 rfl rfl rfl rfl rfl (by omega)) rfl (vl (ldq (u := .slice A9 y7.length c10) 0 rfl rfl rfl rfl rfl rfl rfl) rfl ?_)
  refine gp 0 Kd.Sub.rfl rfl (cs' := [.slice A9 y7.length c10]) rfl fun s11 w_ rs11 us11 => ?_
  have Ls11 := Kd.sl_len rs11; have Cs11 := Kd.sl_cap rs11
  refine cm_ (dk := (Kd.row 60 kPairO)) (x := y7) (S := []) (by kernel_rfl) rfl rfl rfl sn0 (fun w_ hs_ => impl_clonedPairs w_ (hs_.at 0 rfl) (yFs _ (List.mem_of_getElem? m8)).1 (yFs _ (List.mem_of_getElem? m8)).2) (fun cs_ o14 s15 w_ r16 t17 => ?_)
  obtain ⟨A12, c13, rfl⟩ := Kd.row_sh r16
  refine vl (mf rfl rfl rfl) rfl (co (dk := (Kd.row 60 kPairO)) (x := (List.filter (fun x => !((fun (x0 : Pair) => List.any models (fun (l : List Pair) => !inL l x0)) x)) y7)) (S := (s15)) (by kernel_rfl) rfl rfl rfl (snt 0 rfl) (fun w_ hs_ => del_own w_ (fun (x0 : Pair) => List.any models (fun (l : List Pair) => !inL l x0)) (by kernel_rfl) ((hs_.pk [0] rfl).nl) (fun w1 x0 m0_ b_ _ _ _ _ _ r0_ => impl_stable_1 w1  r0_ (ptr_blk (hs_.far b_ 2 rfl) (hs_.far b_ 3 rfl) rfl))) (fun cs_ o21 s22 w_ r23 t24 => ?_))
  obtain ⟨A19, c20, rfl⟩ := Kd.row_sh r23
  exact a_ rfl rfl (en (nx (rt (gr (stabM models) (stabM_del m8) (ret1 rfl rfl (fun w_ hs_ => made hs_ rfl (by grind)))))))
theorem stableRes_cnt (notes : List Note) (dims lo hi : Int) : 0 ≤ ((stableRes notes dims lo hi).pairs.map cntE_Pair).sum ∧ ((stableRes notes dims lo hi).pairs.map cntE_Pair).sum ≤ 1000 := by
  refine ⟨sum_nn cntE_Pair_nn _, ?_⟩
  unfold stableRes
  split
  · rename_i h
    split
    · simp
    · rename_i h2
      have tt := times_ok h
      have h3 := sum_le (f := cntE_Pair) (c := 7) (l := stabOf notes lo hi) (fun x hx => by have := model_sz (t := lo) tt.1 (List.mem_filter.1 hx).1; unfold szPair szRect at this; unfold cntE_Pair; omega)
      have h4 : (stabOf notes lo hi).length ≤ (modelAt notes lo).length := List.length_filter_le _ _
      show ((stabOf notes lo hi).map cntE_Pair).sum ≤ 1000
      omega
  · simp
theorem models_0 {notes : List Note} {lo hi : Int} {y : List Pair} (h : (modelsOf notes lo hi)[0]? = some y) : y = modelAt notes lo := by
  unfold modelsOf at h; simp at h; exact h.symm
theorem models_sz {notes : List Note} {d lo hi : Int} (h : notesFault notes d = 0) : ∀ l ∈ modelsOf notes lo hi, l.length ≤ 1048576 ∧ ∀ p ∈ l, szPair p ≤ 1048576 := fun l hl =>
  ⟨(models_fit h l hl).1, fun p hp => by have z := fit_sz ((models_fit h l hl).2 p hp) (dims_le (by unfold notesFault at h; grind)).1; unfold szPair; omega⟩
/-! impl.StableIn -/
set_option maxRecDepth 20000 in
set_option maxHeartbeats 2000000 in
theorem impl_StableIn (w : World) (dims : Int) (lo : Int) (hi : Int) {Anotes : Option Addr} {cnotes : Nat} {notes : List Note} {snotes_ : List Nat} (hnotes : (Kd.sl kNoteS).Rel w [.slice Anotes notes.length cnotes] notes [] snotes_)  : Calls Tryz.prog 9 #[.slice Anotes notes.length cnotes, .int .i64 dims, .int .i64 lo, .int .i64 hi] w (Made kPairsResultO w (stableRes notes dims lo hi) []) := by
  have Lnotes := Kd.sl_len hnotes; have Cnotes := Kd.sl_cap hnotes
  refine fnc (X := X14 33 w) (args := [.slice Anotes notes.length cnotes, .int .i64 dims, .int .i64 lo, .int .i64 hi]) (l := [(0, .slice Anotes notes.length cnotes), (1, .int .i64 dims), (2, .int .i64 lo), (3, .int .i64 hi)]) (G := [dat (Kd.sl kNoteS) [.slice Anotes notes.length cnotes] notes ([]) snotes_]) Tryz.func9 rfl rfl rfl ⟨rfl, rfl, rfl, rfl, trivial⟩ (s0d hnotes (s0n w)).1 ?_
  refine sq (rg (al zero26 rfl rfl rfl ?_))
  intro b1
  refine en (nx (sq (sq (rg (m_ rfl rfl (m_ rfl rfl (m_ rfl rfl (m_ rfl rfl (cs_ (v := .int .i64 (timesFault notes dims lo hi)) (by kernel_rfl) rfl rfl rfl (fun w_ hs_ => impl_timesFault w_ _ _ _ (hs_.at 1 rfl)) (a_ rfl rfl (en (nx (sq (rg (m_ rfl rfl (vl (cm rfl rfl rfl rfl) rfl (en (nx ?_))))))))))))))))))
  by_cases h2 : (timesFault notes dims lo hi) = (0 : Int)
  · have tt := times_ok h2; have zz := notes_0 tt.1; have yFt := h2; have ml : 0 < (modelsOf notes lo hi).length := by simp [modelsOf]
    refine cf rfl (bne_eq_false_iff_eq.2 h2) (sk (nx (sq (rg (m_ rfl rfl (m_ rfl rfl (m_ rfl rfl (cm_ (dk := (Kd.row 24 (Kd.sl kPairS))) (x := (modelsOf notes lo hi)) (S := (snotes_)) (by kernel_rfl) rfl rfl rfl (snt 1 rfl) (fun w_ hs_ => impl_models w_ _ _ (hs_.at 1 rfl) (by omega)) (fun cs_ o5 s6 w_ r7 t8 => ?_)))))))))
    obtain ⟨A3, c4, rfl⟩ := Kd.row_sh r7
    refine a_ rfl rfl (en (nx (sq (sq (rg (m_ rfl rfl (gl (Kd.Seals.row Kd.Seals.refl_sl _) (fun s10 us10 => ?_))))))))
    refine gx 0 0 rfl (by omega) fun y16 p11 cs_ s12 w15 m17 e13 r14 us12 => ?_
    obtain ⟨-, A18, c19, rfl, -⟩ := r14
    refine vl (ix 0 e13 rfl rfl rfl rfl rfl (by omega)) rfl (vl (ldq (u := .slice A18 y16.length c19) 0 rfl rfl rfl rfl rfl rfl rfl) rfl (vl (ln rfl rfl rfl) rfl (vl (cm rfl rfl rfl rfl) rfl (en (nx ?_)))))
    by_cases h20 : (60 : Int) < ((y16.length : Nat) : Int)
    · exact ct rfl (decide_eq_true h20) (sq (rg (vl (bd bld26 rfl rfl rfl) rfl (f2 (sto rfl rfl rfl rfl rfl rfl rfl (cs' := [.int .i64 2, .slice none 0 0]) rfl (en (nx (rt (xr (gs (Kd.row 60 kPairO) [.slice none 0 0] ((⟨2, []⟩ : PairsResult).pairs) (fun _ => .inl ⟨rfl, rfl, rfl, rfl⟩) (gs Kd.i64 [.int .i64 2] ((⟨2, []⟩ : PairsResult).code) (fun _ => ⟨rfl, rfl, rfl⟩) (gj (da := (Kd.via Kd.i64 PairsResult.code)) (db := (Kd.via (Kd.row 60 kPairO) PairsResult.pairs)) (x := (⟨2, []⟩ : PairsResult)) (cs := [.int .i64 2, .slice none 0 0]) rfl (gr (stableRes notes dims lo hi) (by unfold stableRes; rw [if_pos h2, ← models_0 m17, if_pos h20] <;> rfl) (retc 1 rfl rfl rfl rfl rfl rfl (fun w_ hs_ => made hs_ rfl (see_app see_nil see_nil))))))))))))))))
    · refine cf rfl (decide_eq_false h20) (sk (nx (sq (rg (m_ rfl rfl (cm_ (dk := (Kd.row 60 kPairO)) (x := (stabM (modelsOf notes lo hi))) (S := []) (by kernel_rfl) rfl rfl rfl sn0 (fun w_ hs_ => stable_own w_ (hs_.at 1 rfl) ml (models_sz tt.1)) (fun cs_ o23 s24 w_ r25 t26 => ?_)))))))
      obtain ⟨A21, c22, rfl⟩ := Kd.row_sh r25
      exact vl (bd bld26 rfl rfl rfl) rfl (f3 (sto rfl rfl rfl rfl rfl rfl rfl (cs' := [.int .i64 0, .slice A21 ((stabM (modelsOf notes lo hi)).length) c22]) rfl (en (nx (rt (f1 (gs Kd.i64 [.int .i64 0] ((⟨0, (stabM (modelsOf notes lo hi))⟩ : PairsResult).code) (fun _ => ⟨rfl, rfl, rfl⟩) (gj (da := (Kd.via Kd.i64 PairsResult.code)) (db := (Kd.via (Kd.row 60 kPairO) PairsResult.pairs)) (x := (⟨0, (stabM (modelsOf notes lo hi))⟩ : PairsResult)) (cs := [.int .i64 0, .slice A21 ((stabM (modelsOf notes lo hi)).length) c22]) rfl (gr (stableRes notes dims lo hi) (by unfold stableRes; rw [if_pos h2, ← models_0 m17, if_neg h20] <;> rfl) (retc 1 rfl rfl rfl rfl rfl rfl (fun w_ hs_ => made hs_ rfl (see_app see_nil t26))))))))))))
  · exact ct rfl (bne_iff_ne.2 h2) (sq (rg (m_ rfl rfl (vl (bd bld26 rfl rfl rfl) rfl (sto rfl rfl rfl rfl rfl rfl rfl (cs' := [.int .i64 (timesFault notes dims lo hi), .slice none 0 0]) rfl (en (nx (rt (xr (gs (Kd.row 60 kPairO) [.slice none 0 0] ((⟨(timesFault notes dims lo hi), []⟩ : PairsResult).pairs) (fun _ => .inl ⟨rfl, rfl, rfl, rfl⟩) (gs Kd.i64 [.int .i64 (timesFault notes dims lo hi)] ((⟨(timesFault notes dims lo hi), []⟩ : PairsResult).code) (fun _ => ⟨rfl, rfl, rfl⟩) (gj (da := (Kd.via Kd.i64 PairsResult.code)) (db := (Kd.via (Kd.row 60 kPairO) PairsResult.pairs)) (x := (⟨(timesFault notes dims lo hi), []⟩ : PairsResult)) (cs := [.int .i64 (timesFault notes dims lo hi), .slice none 0 0]) rfl (gr (stableRes notes dims lo hi) (by unfold stableRes; rw [if_neg h2]) (retc 1 rfl rfl rfl rfl rfl rfl (fun w_ hs_ => made hs_ rfl (see_app see_nil see_nil))))))))))))))))
end Go.Proofs.YtkdiaknbndmajaaGreat.Sx
