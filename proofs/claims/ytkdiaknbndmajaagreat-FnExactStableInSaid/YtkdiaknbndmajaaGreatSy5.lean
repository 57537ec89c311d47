/- What functions of the program answer, each at every input that its row names; walked through their code. -/
import Derived.Test.YtkdiaknbndmajaaGreatSy4
namespace Go.Proofs.YtkdiaknbndmajaaGreat.Sx
open Go Go.RowKit Go.Proofs
set_option linter.unusedVariables false
set_option linter.unusedSimpArgs false
def tab4 : Tab := { size := [(2, 1, false), (67, 14, true)], off := [((67, 0), 0)], elem := [(24, 60), (28, 67), (69, 24)] }
theorem tab_ok4 : tab4.check Tryz.prog = true := by kernel_rfl
noncomputable abbrev X4 (N : Nat) (w : World) : Cx := ⟨Tryz.prog, tab4, tab_ok4, wide, N, w, none, []⟩
theorem info24 : (Tryz.prog.info? 24).map (fun i => (i.zero, i.size, i.bytes)) = some (some (.slice none 0 0), 1, 24) := by kernel_rfl

mutual
def modelsG (hi : Int) : List Pair → Int → List Note → List (List Pair)
  | p, _, [] => [p]
  | p, a, n :: r => if n.at_ = a then modelsG hi (turnOf p n) a r else p :: (if n.at_ ≤ hi then modelsG hi (turnOf p n) n.at_ r else [])
end
def modelsO (hi : Int) (p : List Pair) : List Note → List (List Pair)
  | [] => []
  | n :: r => if n.at_ ≤ hi then modelsG hi (turnOf p n) n.at_ r else []
def restOf (notes : List Note) (at_ : Int) : List Note := notes.dropWhile (fun n => decide (n.at_ ≤ at_))
def modelsOf (notes : List Note) (lo hi : Int) : List (List Pair) := modelAt notes lo :: modelsO hi (modelAt notes lo) (restOf notes lo)
theorem dropWhile_at {α : Type} {p : α → Bool} : ∀ {l : List α} {k : Nat}, (∀ j x, j < k → l[j]? = some x → p x = true) → k ≤ l.length → (∀ y, l[k]? = some y → p y = false) → l.dropWhile p = l.drop k
  | [], k, _, hk, _ => by simp at hk; subst hk; rfl
  | a :: l, 0, _, _, h => by have := h a rfl; simp [List.dropWhile, this]
  | a :: l, k + 1, h1, hk, h2 => by
    have h0 := h1 0 a (by omega) rfl
    rw [List.dropWhile_cons, if_pos h0, List.drop_succ_cons, dropWhile_at (k := k) (fun j x hj hx => h1 (j + 1) x (by omega) (by simpa using hx)) (by simpa using hk) (fun y hy => h2 y (by simpa using hy))]
theorem models_in {l : List Note} {hi : Int} {p : List Pair} {k : Nat} {y : Note} {out r : List (List Pair)} (h : out ++ modelsO hi p (l.drop k) = r) (hy : l[k]? = some y) (hn : y.at_ ≤ hi) : out ++ modelsG hi p y.at_ (l.drop k) = r := by
  rw [drop_at hy] at h ⊢; simpa [modelsO, modelsG, hn] using h
theorem models_on {l : List Note} {hi a : Int} {p : List Pair} {k : Nat} {y : Note} {out r : List (List Pair)} (h : out ++ modelsG hi p a (l.drop k) = r) (hy : l[k]? = some y) (hn : y.at_ = a) : out ++ modelsG hi (turnOf p y) a (l.drop (k + 1)) = r := by
  rw [drop_at hy] at h; simpa [modelsG, hn] using h
theorem models_out {l : List Note} {hi a : Int} {p : List Pair} {k : Nat} {out r : List (List Pair)} (h : out ++ modelsG hi p a (l.drop k) = r) (hn : ∀ y, l[k]? = some y → ¬ y.at_ = a) : (out ++ [p]) ++ modelsO hi p (l.drop k) = r := by
  cases hl : l.drop k with
  | nil => rw [hl] at h; simpa [modelsO, modelsG] using h
  | cons n r' =>
    have hy : l[k]? = some n := by
      have : (l.drop k)[0]? = some n := by rw [hl]; rfl
      simpa using this
    rw [hl] at h
    have := hn n hy
    simpa [modelsO, modelsG, this] using h
theorem models_end {l : List Note} {hi : Int} {p : List Pair} {k : Nat} {out r : List (List Pair)} (h : out ++ modelsO hi p (l.drop k) = r) (hn : ∀ y, l[k]? = some y → ¬ y.at_ ≤ hi) : out = r := by
  cases hl : l.drop k with
  | nil => rw [hl] at h; simpa [modelsO] using h
  | cons n r' =>
    have hy : l[k]? = some n := by
      have : (l.drop k)[0]? = some n := by rw [hl]; rfl
      simpa using this
    rw [hl] at h
    simpa [modelsO, hn n hy] using h
theorem falls_pw : ∀ {l : List Note}, falls l = false → l.Pairwise (fun a b => a.at_ ≤ b.at_)
  | [], _ => .nil
  | [a], _ => List.pairwise_singleton _ _
  | a :: b :: l, h => by
    simp only [falls, adj, Bool.or_eq_false_iff, decide_eq_false_iff_not] at h
    have ih := falls_pw (l := b :: l) h.2
    refine List.pairwise_cons.2 ⟨fun x hx => ?_, ih⟩
    rcases List.mem_cons.1 hx with rfl | hx
    · omega
    · have := (List.pairwise_cons.1 ih).1 x hx; omega
def foldAt (p : List Pair) (l : List Note) (t : Int) : List Pair := (l.takeWhile (fun n => decide (n.at_ ≤ t))).foldl turnOf p
theorem foldAt_le {p : List Pair} {n : Note} {r : List Note} {t : Int} (h : n.at_ ≤ t) : foldAt p (n :: r) t = foldAt (turnOf p n) r t := by simp [foldAt, List.takeWhile, h]
theorem foldAt_gt {p : List Pair} {n : Note} {r : List Note} {t : Int} (h : ¬ n.at_ ≤ t) : foldAt p (n :: r) t = p := by simp [foldAt, List.takeWhile, h]
theorem any_congr' {α : Type} {f g : α → Bool} : ∀ {l : List α}, (∀ x ∈ l, f x = g x) → l.any f = l.any g
  | [], _ => rfl
  | a :: l, h => by rw [List.any_cons, List.any_cons, h a (List.mem_cons_self ..), any_congr' (fun x hx => h x (List.mem_cons_of_mem _ hx))]
theorem models_G {hi : Int} {P : List Pair → Bool} : ∀ (l : List Note) (p : List Pair) (a : Int), l.Pairwise (fun a b => a.at_ ≤ b.at_) → (∀ n ∈ l, a ≤ n.at_) →
    (modelsG hi p a l).any P = (P (foldAt p l a) || (l.filter (fun n => decide (n.at_ ≤ hi))).any (fun m => P (foldAt p l m.at_)))
  | [], p, a, _, _ => by simp [modelsG, foldAt]
  | n :: r, p, a, hs, ha => by
    have hs' := List.pairwise_cons.1 hs
    have hn := ha n (List.mem_cons_self ..)
    have key : ((r.filter (fun n => decide (n.at_ ≤ hi))).any fun m => P (foldAt p (n :: r) m.at_)) = (r.filter (fun n => decide (n.at_ ≤ hi))).any (fun m => P (foldAt (turnOf p n) r m.at_)) :=
      any_congr' (fun m hm => by rw [foldAt_le (hs'.1 m (List.mem_filter.1 hm).1)])
    unfold modelsG
    by_cases he : n.at_ = a
    · rw [if_pos he, models_G r (turnOf p n) a hs'.2 (fun m hm => ha m (List.mem_cons_of_mem _ hm)), foldAt_le (by omega)]
      by_cases hh : n.at_ ≤ hi
      · rw [List.filter_cons_of_pos (by simpa using hh), List.any_cons, key, foldAt_le (Int.le_refl _), he]
        cases P (foldAt (turnOf p n) r a) <;> simp
      · rw [List.filter_cons_of_neg (by simpa using hh), key]
    · rw [if_neg he, List.any_cons, foldAt_gt (by omega)]
      by_cases hh : n.at_ ≤ hi
      · rw [if_pos hh, models_G r (turnOf p n) n.at_ hs'.2 hs'.1, List.filter_cons_of_pos (by simpa using hh), List.any_cons, key, foldAt_le (Int.le_refl _)]
      · have e : r.filter (fun n => decide (n.at_ ≤ hi)) = [] := by
          rw [List.filter_eq_nil_iff]; intro m hm; have := hs'.1 m hm; simp; omega
        rw [if_neg hh, List.filter_cons_of_neg (by simpa using hh), e]; simp
theorem models_O {hi : Int} {P : List Pair → Bool} {l : List Note} {p : List Pair} (hs : l.Pairwise (fun a b => a.at_ ≤ b.at_)) :
    (modelsO hi p l).any P = (l.filter (fun n => decide (n.at_ ≤ hi))).any (fun m => P (foldAt p l m.at_)) := by
  cases l with
  | nil => simp [modelsO]
  | cons n r =>
    have hs' := List.pairwise_cons.1 hs
    have key : ((r.filter (fun n => decide (n.at_ ≤ hi))).any fun m => P (foldAt p (n :: r) m.at_)) = (r.filter (fun n => decide (n.at_ ≤ hi))).any (fun m => P (foldAt (turnOf p n) r m.at_)) :=
      any_congr' (fun m hm => by rw [foldAt_le (hs'.1 m (List.mem_filter.1 hm).1)])
    show (if n.at_ ≤ hi then modelsG hi (turnOf p n) n.at_ r else []).any P = _
    by_cases hh : n.at_ ≤ hi
    · rw [if_pos hh, models_G r (turnOf p n) n.at_ hs'.2 hs'.1, List.filter_cons_of_pos (by simpa using hh), List.any_cons, key, foldAt_le (Int.le_refl _)]
    · have e : r.filter (fun n => decide (n.at_ ≤ hi)) = [] := by
        rw [List.filter_eq_nil_iff]; intro m hm; have := hs'.1 m hm; simp; omega
      rw [if_neg hh, List.filter_cons_of_neg (by simpa using hh), e]; simp
theorem takeWhile_more {q r : Note → Bool} : ∀ {l : List Note}, (∀ n, r n = true → q n = true) → l.takeWhile q = l.takeWhile r ++ (l.dropWhile r).takeWhile q
  | [], _ => rfl
  | a :: l, h => by
    by_cases ha : r a = true
    · simp [List.takeWhile, List.dropWhile, ha, h a ha, takeWhile_more (l := l) h]
    · simp [List.takeWhile, List.dropWhile, ha]
theorem rest_pw {l : List Note} {lo : Int} (hs : l.Pairwise (fun a b => a.at_ ≤ b.at_)) : (restOf l lo).Pairwise (fun a b => a.at_ ≤ b.at_) := hs.sublist (List.dropWhile_sublist _)
theorem rest_gt : ∀ {l : List Note} {lo : Int}, l.Pairwise (fun a b => a.at_ ≤ b.at_) → ∀ n ∈ restOf l lo, lo < n.at_
  | [], _, _, n, hn => by simp [restOf] at hn
  | a :: l, lo, hs, n, hn => by
    have hs' := List.pairwise_cons.1 hs
    by_cases ha : a.at_ ≤ lo
    · exact rest_gt hs'.2 n (by simpa [restOf, List.dropWhile, ha] using hn)
    · have hn' : n ∈ a :: l := by simpa [restOf, List.dropWhile, ha] using hn
      rcases List.mem_cons.1 hn' with rfl | hn'
      · omega
      · have := hs'.1 n hn'; omega
theorem times_rest {l : List Note} {lo hi : Int} (hs : l.Pairwise (fun a b => a.at_ ≤ b.at_)) : l.filter (fun n => within n.at_ (lo + 1) hi) = (restOf l lo).filter (fun n => decide (n.at_ ≤ hi)) := by
  conv => lhs; rw [← List.takeWhile_append_dropWhile (p := fun n : Note => decide (n.at_ ≤ lo)) (l := l)]
  rw [List.filter_append]
  have e1 : (l.takeWhile (fun n : Note => decide (n.at_ ≤ lo))).filter (fun n => within n.at_ (lo + 1) hi) = [] := by
    rw [List.filter_eq_nil_iff]
    intro n hn
    have := List.all_eq_true.1 (List.all_takeWhile (l := l) (p := fun n : Note => decide (n.at_ ≤ lo))) n hn
    simp at this; simp [within]; omega
  rw [e1, List.nil_append]
  refine List.filter_congr (fun n hn => ?_)
  have := rest_gt hs n hn
  simp [within]; omega
theorem model_rest {l : List Note} {lo t : Int} (h : lo ≤ t) : modelAt l t = foldAt (modelAt l lo) (restOf l lo) t := by
  unfold modelAt foldTurn foldAt restOf
  rw [takeWhile_more (r := fun n => decide (n.at_ ≤ lo)) (q := fun n => decide (n.at_ ≤ t)) (fun n hn => by simp at hn ⊢; omega), List.foldl_append]
theorem models_any {l : List Note} {lo hi : Int} {P : List Pair → Bool} (hs : l.Pairwise (fun a b => a.at_ ≤ b.at_)) :
    (modelsOf l lo hi).any P = (timesOf l lo hi).any (fun t => P (modelAt l t)) := by
  unfold modelsOf timesOf
  rw [List.any_cons, List.any_cons, models_O (rest_pw hs), times_rest hs, List.any_map]
  congr 1
  refine any_congr' (fun n hn => ?_)
  have := rest_gt hs n (List.mem_filter.1 hn).1
  simp only [Function.comp]
  rw [model_rest (Int.le_of_lt this)]

/-! impl.models -/
set_option maxRecDepth 20000 in
set_option maxHeartbeats 2000000 in
theorem impl_models (w : World) (lo : Int) (hi : Int) {Anotes : Option Addr} {cnotes : Nat} {notes : List Note} {snotes_ : List Nat} (hnotes : (Kd.sl kNoteS).Rel w [.slice Anotes notes.length cnotes] notes [] snotes_) (hz : notes.length ≤ 600) : Calls Tryz.prog 26 #[.slice Anotes notes.length cnotes, .int .i64 lo, .int .i64 hi] w (Made (Kd.row 24 (Kd.sl kPairS)) w (modelsOf notes lo hi) (snotes_)) := by
  have Lnotes := Kd.sl_len hnotes; have Cnotes := Kd.sl_cap hnotes
  refine fnc (X := X4 82 w) (args := [.slice Anotes notes.length cnotes, .int .i64 lo, .int .i64 hi]) (l := [(0, .slice Anotes notes.length cnotes), (1, .int .i64 lo), (2, .int .i64 hi)]) (G := [dat (Kd.sl kNoteS) [.slice Anotes notes.length cnotes] notes ([]) snotes_]) Tryz.func26 rfl rfl rfl ⟨rfl, rfl, rfl, trivial⟩ (s0d hnotes (s0n w)).1 ?_
  refine sq (rg (a_ rfl rfl (en (nx (sq (rg (bs0 (dk := (Kd.sl kPairS)) rfl info24 rfl rfl ?_)))))))
  intro b1
  refine bs0 (dk := kPairS) rfl info60 rfl rfl ?_
  intro b2
  refine a_ rfl rfl (a_ rfl rfl (a_ rfl rfl (en (nx (sq (bk (gl (Kd.Seals.row kPairS_self _) (fun s3 us3 => ?_))))))))
  refine lp (σ := Nat × List Pair × Option Addr × Nat × List Nat) (fun z_ : Nat × List Pair × Option Addr × Nat × List Nat => match z_ with | (k, pairs1, A_pairs1, c_pairs1, s_pairs1) => [(0, .slice Anotes notes.length cnotes), (1, .int .i64 lo), (2, .int .i64 hi), (7, .slice (some ⟨b1, 0, none⟩) 0 0), (8, .slice A_pairs1 pairs1.length c_pairs1), (9, .int .i64 ((k : Nat) : Int))])
      (fun z_ : Nat × List Pair × Option Addr × Nat × List Nat => match z_ with | (k, pairs1, A_pairs1, c_pairs1, s_pairs1) => [dat (Kd.sl kPairS) [.slice A_pairs1 pairs1.length c_pairs1] pairs1 ([]) s_pairs1, dat (Kd.row 24 (Kd.sl kPairS)) [.slice (some ⟨b1, 0, none⟩) 0 0] ([]) ([b1]) ([]), dat (Kd.sl kNoteS) [.slice Anotes notes.length cnotes] notes ([]) snotes_])
      (fun z_ : Nat × List Pair × Option Addr × Nat × List Nat => match z_ with | (k, pairs1, A_pairs1, c_pairs1, s_pairs1) => (k ≤ notes.length ∧ pairs1 = foldTurn (notes.take k) ∧ (∀ j x, j < k → notes[j]? = some x → decide (x.at_ ≤ lo) = true) ∧ pairs1.length ≤ k) ∧ (∀ q ∈ s_pairs1, q ∈ snotes_ ∨ w.heap.size ≤ q)) (fun z_ : Nat × List Pair × Option Addr × Nat × List Nat => match z_ with | (k, pairs1, A_pairs1, c_pairs1, s_pairs1) => notes.length - k) (0, [], (some ⟨b2, 0, none⟩), 0, s3) [0, 0, 0] ⟨⟨Nat.zero_le _, rfl, by simp, by simp⟩, by grind⟩ ⟨rfl, rfl, rfl, rfl, rfl, rfl, trivial⟩ rfl ?_
  rintro ⟨k, pairs1, A_pairs1, c_pairs1, s_pairs1⟩ hp_
  obtain ⟨hinv1, hsee1pairs1⟩ := hp_
  refine sq (sq (rg (m_ rfl rfl (m_ rfl rfl (vl (ln rfl rfl rfl) rfl (vl (cm rfl rfl rfl rfl) rfl (m_ rfl rfl ?_)))))))
  by_cases h4 : ((k : Nat) : Int) < ((notes.length : Nat) : Int)
  · refine vg (mv rfl rfl) rfl rfl (decide_eq_true h4) (vg (mv rfl rfl) rfl rfl (decide_eq_true h4) ?_)
    refine gx 2 k rfl (by omega) fun y10 p5 cs_ s6 w9 m11 e7 r8 us6 => ?_
    obtain ⟨A12, c13, A14, c15, A16, c17, A18, c19, A20, c21, A22, c23, rfl⟩ := kNoteS_sh r8
    refine vg (ix k e7 rfl rfl rfl rfl rfl (by omega)) rfl rfl (decide_eq_true h4) (vg (fa rfl rfl rfl) rfl rfl (decide_eq_true h4) (vg (ldp (u := .int .i64 y10.at_) 0 rfl rfl rfl rfl rfl rfl rfl) rfl rfl (decide_eq_true h4) (vg (mv rfl rfl) rfl rfl (decide_eq_true h4) (vg (cm rfl rfl rfl rfl) rfl rfl (decide_eq_true h4) (vl (pk (b := true) rfl rfl (decide_eq_true h4) rfl) rfl (en (nx ?_)))))))
    by_cases h24 : y10.at_ ≤ lo
    · refine ct rfl (decide_eq_true h24) (sk (nx (sq (bk (rg (m_ rfl rfl (m_ rfl rfl (m_ rfl rfl (vl (ix k e7 rfl rfl rfl rfl rfl (by omega)) rfl (vl (ldq 0 rfl rfl rfl rfl rfl rfl rfl) rfl ?_))))))))))
      refine gp 0 Kd.Sub.rfl rfl (cs' := [.int .i64 y10.at_, .int .i64 y10.kind, .int .i64 y10.client, .int .i64 y10.op.kind, .int .i64 y10.op.pair.id, .slice A12 y10.op.pair.rect.low.length c13, .slice A14 y10.op.pair.rect.high.length c15, .int .i64 y10.op.query.kind, .slice A16 y10.op.query.rect.low.length c17, .slice A18 y10.op.query.rect.high.length c19, .slice A20 y10.op.query.point.length c21, .int .i64 y10.op.query.k, .int .i64 y10.answer.code, .slice A22 y10.answer.pairs.length c23]) rfl fun s25 w_ rs25 us25 => ?_
      refine cm_ (dk := (Kd.sl kPairS)) (x := (turnOf pairs1 y10)) (S := (s_pairs1 ++ s25)) (by kernel_rfl) rfl rfl rfl (sna (snt 2 rfl) (snt 0 rfl)) (fun w_ hs_ => impl_told w_ (hs_.at 2 rfl) (hs_.at 0 rfl) (by omega)) (fun cs_ o28 s29 w_ r30 t31 => ?_)
      obtain ⟨rfl, A26, c27, rfl, Cr30, Lr30, -⟩ := r30
      refine a_ rfl rfl (en (xn (nx (rg (m_ rfl rfl (vl (ra (c := ((k + 1 : Nat) : Int)) rfl rfl rfl (by omega) (by omega) (by omega)) rfl (a_ rfl rfl (en ?_))))))))
      exact lpe (s := (k, pairs1, A_pairs1, c_pairs1, s_pairs1)) (k + 1, (turnOf pairs1 y10), A26, c27, s29) [0, 3, 3] ⟨⟨by omega, by rw [foldTurn_snoc m11, ← hinv1.2.1], true_step hinv1.2.2.1 m11 (decide_eq_true h24), by have z := turnOf_len pairs1 y10; omega⟩, by grind⟩ (by show notes.length - (k + 1) < notes.length - k; omega) ⟨rfl, rfl, rfl, rfl, rfl, rfl, trivial⟩ rfl
    · refine cf rfl (decide_eq_false h24) (xt (xq (xq (xb (nx (sq (rg (m_ rfl rfl (m_ rfl rfl ?_)))))))))
      refine gd 1 Kd.Sub.rfl rfl (cs' := [.slice A_pairs1 pairs1.length c_pairs1]) rfl fun s34 w_ rs34 us34 => ?_
      refine bs1 (dk := (Kd.sl kPairS)) rfl info24 (by decide) rfl rfl rfl rfl ?_
      intro b33
      refine f3 (ap ([] ++ [pairs1]) rfl info24 rfl rfl (by decide) rfl rfl rfl rfl (by simp only [List.length_append, List.length_cons, List.length_nil]; omega) (by simp only [List.length_append, List.length_cons, List.length_nil]; omega) rfl (fun A35 c36 o37 s38 t39 => ?_))
      refine a_ rfl rfl (en (nx (sq (bk ?_))))
      have hmod := model_end hinv1.2.1 hinv1.2.2.1 hinv1.1 (fun y hy => by rw [m11] at hy; cases hy; exact decide_eq_false h24)
      have hrst : restOf notes lo = notes.drop k := dropWhile_at hinv1.2.2.1 hinv1.1 (fun y hy => by rw [m11] at hy; cases hy; exact decide_eq_false h24)
      refine lp (σ := Nat × List (List Pair) × Option Addr × Nat × List Nat × List Nat × List Pair × Option Addr × Nat × List Nat) (fun z_ : Nat × List (List Pair) × Option Addr × Nat × List Nat × List Nat × List Pair × Option Addr × Nat × List Nat => match z_ with | (k2, out2, A_out2, c_out2, o_out2, s_out2, pairs2, A_pairs2, c_pairs2, s_pairs2) => [(0, .slice Anotes notes.length cnotes), (2, .int .i64 hi), (7, .slice A_out2 out2.length c_out2), (8, .slice A_pairs2 pairs2.length c_pairs2), (9, .int .i64 ((k2 : Nat) : Int))])
          (fun z_ : Nat × List (List Pair) × Option Addr × Nat × List Nat × List Nat × List Pair × Option Addr × Nat × List Nat => match z_ with | (k2, out2, A_out2, c_out2, o_out2, s_out2, pairs2, A_pairs2, c_pairs2, s_pairs2) => [dat (Kd.row 24 (Kd.sl kPairS)) [.slice A_out2 out2.length c_out2] out2 o_out2 s_out2, dat (Kd.sl kPairS) [.slice A_pairs2 pairs2.length c_pairs2] pairs2 ([]) s_pairs2, dat (Kd.sl kNoteS) [.slice Anotes notes.length cnotes] notes ([]) snotes_])
          (fun z_ : Nat × List (List Pair) × Option Addr × Nat × List Nat × List Nat × List Pair × Option Addr × Nat × List Nat => match z_ with | (k2, out2, A_out2, c_out2, o_out2, s_out2, pairs2, A_pairs2, c_pairs2, s_pairs2) => (k2 ≤ notes.length ∧ out2 ++ modelsO hi pairs2 (notes.drop k2) = modelsOf notes lo hi ∧ pairs2.length ≤ k2 ∧ out2.length ≤ k2 + 1) ∧ (∀ q ∈ s_out2, q ∈ snotes_ ∨ w.heap.size ≤ q) ∧ (∀ q ∈ s_pairs2, q ∈ snotes_ ∨ w.heap.size ≤ q)) (fun z_ : Nat × List (List Pair) × Option Addr × Nat × List Nat × List Nat × List Pair × Option Addr × Nat × List Nat => match z_ with | (k2, out2, A_out2, c_out2, o_out2, s_out2, pairs2, A_pairs2, c_pairs2, s_pairs2) => notes.length - k2) (k, ([] ++ [pairs1]), A35, c36, o37, s38, pairs1, A_pairs1, c_pairs1, s_pairs1) [0, 1, 1] ⟨⟨by omega, by rw [modelsOf, hrst, hmod]; simp, by omega, by simp⟩, by grind, by grind⟩ ⟨rfl, rfl, rfl, rfl, rfl, trivial⟩ rfl ?_
      rintro ⟨k2, out2, A_out2, c_out2, o_out2, s_out2, pairs2, A_pairs2, c_pairs2, s_pairs2⟩ hp_
      obtain ⟨hinv2, hsee2out2, hsee2pairs2⟩ := hp_
      refine sq (sq (rg (m_ rfl rfl (m_ rfl rfl (vl (ln rfl rfl rfl) rfl (vl (cm rfl rfl rfl rfl) rfl (m_ rfl rfl ?_)))))))
      by_cases h40 : ((k2 : Nat) : Int) < ((notes.length : Nat) : Int)
      · refine vg (mv rfl rfl) rfl rfl (decide_eq_true h40) (vg (mv rfl rfl) rfl rfl (decide_eq_true h40) ?_)
        refine gx 2 k2 rfl (by omega) fun y46 p41 cs_ s42 w45 m47 e43 r44 us42 => ?_
        obtain ⟨A48, c49, A50, c51, A52, c53, A54, c55, A56, c57, A58, c59, rfl⟩ := kNoteS_sh r44
        refine vg (ix k2 e43 rfl rfl rfl rfl rfl (by omega)) rfl rfl (decide_eq_true h40) (vg (fa rfl rfl rfl) rfl rfl (decide_eq_true h40) (vg (ldp (u := .int .i64 y46.at_) 0 rfl rfl rfl rfl rfl rfl rfl) rfl rfl (decide_eq_true h40) (vg (mv rfl rfl) rfl rfl (decide_eq_true h40) (vg (cm rfl rfl rfl rfl) rfl rfl (decide_eq_true h40) (vl (pk (b := true) rfl rfl (decide_eq_true h40) rfl) rfl (en (nx ?_)))))))
        by_cases h60 : y46.at_ ≤ hi
        · refine ct rfl (decide_eq_true h60) (sk (nx (bk (sq (sq (rg (m_ rfl rfl (m_ rfl rfl (vl (ix k2 e43 rfl rfl rfl rfl rfl (by omega)) rfl (vl (fa rfl rfl rfl) rfl (vl (ldp (u := .int .i64 y46.at_) 0 rfl rfl rfl rfl rfl rfl rfl) rfl (a_ rfl rfl (en (nx (bk ?_)))))))))))))))
          refine lp (σ := Nat × List Pair × Option Addr × Nat × List Nat) (fun z_ : Nat × List Pair × Option Addr × Nat × List Nat => match z_ with | (k3, pairs3, A_pairs3, c_pairs3, s_pairs3) => [(0, .slice Anotes notes.length cnotes), (2, .int .i64 hi), (7, .slice A_out2 out2.length c_out2), (8, .slice A_pairs3 pairs3.length c_pairs3), (9, .int .i64 ((k3 : Nat) : Int)), (10, .int .i64 y46.at_), (43, .slice Anotes notes.length cnotes), (44, .int .i64 ((k2 : Nat) : Int)), (45, .pointer (some p41)), (46, .pointer (some (p41.add 0))), (47, .int .i64 y46.at_), (48, .int .i64 hi), (49, .bool (decide (y46.at_ ≤ hi)))])
              (fun z_ : Nat × List Pair × Option Addr × Nat × List Nat => match z_ with | (k3, pairs3, A_pairs3, c_pairs3, s_pairs3) => [dat (Kd.sl kPairS) [.slice A_pairs3 pairs3.length c_pairs3] pairs3 ([]) s_pairs3, ptr kNoteS p41 [.int .i64 y46.at_, .int .i64 y46.kind, .int .i64 y46.client, .int .i64 y46.op.kind, .int .i64 y46.op.pair.id, .slice A48 y46.op.pair.rect.low.length c49, .slice A50 y46.op.pair.rect.high.length c51, .int .i64 y46.op.query.kind, .slice A52 y46.op.query.rect.low.length c53, .slice A54 y46.op.query.rect.high.length c55, .slice A56 y46.op.query.point.length c57, .int .i64 y46.op.query.k, .int .i64 y46.answer.code, .slice A58 y46.answer.pairs.length c59] y46 s42, dat (Kd.row 24 (Kd.sl kPairS)) [.slice A_out2 out2.length c_out2] out2 o_out2 s_out2, dat (Kd.sl kNoteS) [.slice Anotes notes.length cnotes] notes ([]) snotes_])
              (fun z_ : Nat × List Pair × Option Addr × Nat × List Nat => match z_ with | (k3, pairs3, A_pairs3, c_pairs3, s_pairs3) => (k2 ≤ k3 ∧ k3 ≤ notes.length ∧ out2 ++ modelsG hi pairs3 y46.at_ (notes.drop k3) = modelsOf notes lo hi ∧ pairs3.length ≤ k3) ∧ (∀ q ∈ s_pairs3, q ∈ snotes_ ∨ w.heap.size ≤ q)) (fun z_ : Nat × List Pair × Option Addr × Nat × List Nat => match z_ with | (k3, pairs3, A_pairs3, c_pairs3, s_pairs3) => notes.length - k3) (k2, pairs2, A_pairs2, c_pairs2, s_pairs2) [2, 0, 0, 0] ⟨⟨Nat.le_refl _, by omega, models_in hinv2.2.1 m47 h60, by omega⟩, by grind⟩ ⟨rfl, rfl, rfl, rfl, rfl, rfl, rfl, rfl, rfl, rfl, rfl, rfl, rfl, trivial⟩ rfl ?_
          rintro ⟨k3, pairs3, A_pairs3, c_pairs3, s_pairs3⟩ hp_
          obtain ⟨hinv3, hsee3pairs3⟩ := hp_
          refine sq (sq (rg (m_ rfl rfl (m_ rfl rfl (vl (ln rfl rfl rfl) rfl (vl (cm rfl rfl rfl rfl) rfl (m_ rfl rfl ?_)))))))
          by_cases h61 : ((k3 : Nat) : Int) < ((notes.length : Nat) : Int)
          · refine vg (mv rfl rfl) rfl rfl (decide_eq_true h61) (vg (mv rfl rfl) rfl rfl (decide_eq_true h61) ?_)
            refine gx 3 k3 rfl (by omega) fun y67 p62 cs_ s63 w66 m68 e64 r65 us63 => ?_
            obtain ⟨A69, c70, A71, c72, A73, c74, A75, c76, A77, c78, A79, c80, rfl⟩ := kNoteS_sh r65
            refine vg (ix k3 e64 rfl rfl rfl rfl rfl (by omega)) rfl rfl (decide_eq_true h61) (vg (fa rfl rfl rfl) rfl rfl (decide_eq_true h61) (vg (ldp (u := .int .i64 y67.at_) 0 rfl rfl rfl rfl rfl rfl rfl) rfl rfl (decide_eq_true h61) (vg (mv rfl rfl) rfl rfl (decide_eq_true h61) (vg (cm rfl rfl rfl rfl) rfl rfl (decide_eq_true h61) (vl (pk (b := true) rfl rfl (decide_eq_true h61) rfl) rfl (en (nx ?_)))))))
            by_cases h81 : y67.at_ = y46.at_
            · refine ct rfl (beq_iff_eq.2 h81) (sk (nx (sq (bk (rg (m_ rfl rfl (m_ rfl rfl (m_ rfl rfl (vl (ix k3 e64 rfl rfl rfl rfl rfl (by omega)) rfl (vl (ldq 0 rfl rfl rfl rfl rfl rfl rfl) rfl ?_))))))))))
              refine gp 0 Kd.Sub.rfl rfl (cs' := [.int .i64 y67.at_, .int .i64 y67.kind, .int .i64 y67.client, .int .i64 y67.op.kind, .int .i64 y67.op.pair.id, .slice A69 y67.op.pair.rect.low.length c70, .slice A71 y67.op.pair.rect.high.length c72, .int .i64 y67.op.query.kind, .slice A73 y67.op.query.rect.low.length c74, .slice A75 y67.op.query.rect.high.length c76, .slice A77 y67.op.query.point.length c78, .int .i64 y67.op.query.k, .int .i64 y67.answer.code, .slice A79 y67.answer.pairs.length c80]) rfl fun s82 w_ rs82 us82 => ?_
              refine cm_ (dk := (Kd.sl kPairS)) (x := (turnOf pairs3 y67)) (S := (s_pairs3 ++ s82)) (by kernel_rfl) rfl rfl rfl (sna (snt 2 rfl) (snt 0 rfl)) (fun w_ hs_ => impl_told w_ (hs_.at 2 rfl) (hs_.at 0 rfl) (by omega)) (fun cs_ o85 s86 w_ r87 t88 => ?_)
              obtain ⟨rfl, A83, c84, rfl, Cr87, Lr87, -⟩ := r87
              refine a_ rfl rfl (en (xn (nx (rg (m_ rfl rfl (vl (ra (c := ((k3 + 1 : Nat) : Int)) rfl rfl rfl (by omega) (by omega) (by omega)) rfl (a_ rfl rfl (en ?_))))))))
              exact lpe (s := (k3, pairs3, A_pairs3, c_pairs3, s_pairs3)) (k3 + 1, (turnOf pairs3 y67), A83, c84, s86) [0, 3, 3, 3] ⟨⟨by omega, by omega, models_on hinv3.2.2.1 m68 h81, by have z := turnOf_len pairs3 y67; omega⟩, by grind⟩ (by show notes.length - (k3 + 1) < notes.length - k3; omega) ⟨rfl, rfl, rfl, rfl, rfl, rfl, rfl, rfl, rfl, rfl, rfl, rfl, rfl, trivial⟩ rfl
            · refine cf rfl (beq_eq_false_iff_ne.2 h81) (xt (xq (xq (xb (nx (rg (m_ rfl rfl (m_ rfl rfl ?_))))))))
              refine gd 1 Kd.Sub.rfl rfl (cs' := [.slice A_pairs3 pairs3.length c_pairs3]) rfl fun s91 w_ rs91 us91 => ?_
              refine bs1 (dk := (Kd.sl kPairS)) rfl info24 (by decide) rfl rfl rfl rfl ?_
              intro b90
              refine f4 (ap (out2 ++ [pairs3]) rfl info24 rfl rfl (by decide) rfl rfl rfl rfl (by simp only [List.length_append, List.length_cons, List.length_nil]; omega) (by simp only [List.length_append, List.length_cons, List.length_nil]; omega) rfl (fun A92 c93 o94 s95 t96 => ?_))
              refine a_ rfl rfl (en (xn ?_))
              have hne : k2 ≠ k3 := by rintro rfl; have e1 := m68; rw [m47] at e1; cases e1; exact h81 rfl
              exact lpe (s := (k2, out2, A_out2, c_out2, o_out2, s_out2, pairs2, A_pairs2, c_pairs2, s_pairs2)) (k3, (out2 ++ [pairs3]), A92, c93, o94, s95, pairs3, A_pairs3, c_pairs3, s_pairs3) [0, 1, 2] ⟨⟨by omega, models_out hinv3.2.2.1 (fun y hy => by rw [m68] at hy; cases hy; exact h81), by omega, by simp only [List.length_append, List.length_cons, List.length_nil]; omega⟩, by grind, by grind⟩ (by show notes.length - k3 < notes.length - k2; omega) ⟨rfl, rfl, rfl, rfl, rfl, trivial⟩ rfl
          · refine sg rfl rfl (decide_eq_false h61) (sg rfl rfl (decide_eq_false h61) (sg rfl rfl (decide_eq_false h61) (sg rfl rfl (decide_eq_false h61) (sg rfl rfl (decide_eq_false h61) (sg rfl rfl (decide_eq_false h61) (sg rfl rfl (decide_eq_false h61) (vl (pk (b := false) rfl rfl (decide_eq_false h61) rfl) rfl (en (nx (cf rfl rfl (xt (xq (xq (xb (nx (rg (m_ rfl rfl (m_ rfl rfl ?_))))))))))))))))))
            refine gd 0 Kd.Sub.rfl rfl (cs' := [.slice A_pairs3 pairs3.length c_pairs3]) rfl fun s98 w_ rs98 us98 => ?_
            refine bs1 (dk := (Kd.sl kPairS)) rfl info24 (by decide) rfl rfl rfl rfl ?_
            intro b97
            refine f3 (ap (out2 ++ [pairs3]) rfl info24 rfl rfl (by decide) rfl rfl rfl rfl (by simp only [List.length_append, List.length_cons, List.length_nil]; omega) (by simp only [List.length_append, List.length_cons, List.length_nil]; omega) rfl (fun A99 c100 o101 s102 t103 => ?_))
            refine a_ rfl rfl (en (xn ?_))
            have hne : k2 ≠ k3 := by have := (List.getElem?_eq_some_iff.1 m47).1; omega
            exact lpe (s := (k2, out2, A_out2, c_out2, o_out2, s_out2, pairs2, A_pairs2, c_pairs2, s_pairs2)) (k3, (out2 ++ [pairs3]), A99, c100, o101, s102, pairs3, A_pairs3, c_pairs3, s_pairs3) [0, 0, 1] ⟨⟨by omega, models_out hinv3.2.2.1 (fun y hy => by have := (List.getElem?_eq_some_iff.1 hy).1; omega), by omega, by simp only [List.length_append, List.length_cons, List.length_nil]; omega⟩, by grind, by grind⟩ (by show notes.length - k3 < notes.length - k2; omega) ⟨rfl, rfl, rfl, rfl, rfl, trivial⟩ rfl
        · exact cf rfl (decide_eq_false h60) (xt (xq (xq (xb (nx (sq (rg (m_ rfl rfl (a_ rfl rfl (en (nx (rt (f1 (gr (modelsOf notes lo hi) (models_end hinv2.2.1 (fun y hy => by rw [m47] at hy; cases hy; exact h60)) (ret1 rfl rfl (fun w_ hs_ => made hs_ rfl (by grind)))))))))))))))))
      · exact sg rfl rfl (decide_eq_false h40) (sg rfl rfl (decide_eq_false h40) (sg rfl rfl (decide_eq_false h40) (sg rfl rfl (decide_eq_false h40) (sg rfl rfl (decide_eq_false h40) (sg rfl rfl (decide_eq_false h40) (sg rfl rfl (decide_eq_false h40) (vl (pk (b := false) rfl rfl (decide_eq_false h40) rfl) rfl (en (nx (cf rfl rfl (xt (xq (xq (xb (nx (sq (rg (m_ rfl rfl (a_ rfl rfl (en (nx (rt (gr (modelsOf notes lo hi) (models_end hinv2.2.1 (fun y hy => by have := (List.getElem?_eq_some_iff.1 hy).1; omega)) (ret1 rfl rfl (fun w_ hs_ => made hs_ rfl (by grind))))))))))))))))))))))))))
  · refine sg rfl rfl (decide_eq_false h4) (sg rfl rfl (decide_eq_false h4) (sg rfl rfl (decide_eq_false h4) (sg rfl rfl (decide_eq_false h4) (sg rfl rfl (decide_eq_false h4) (sg rfl rfl (decide_eq_false h4) (sg rfl rfl (decide_eq_false h4) (vl (pk (b := false) rfl rfl (decide_eq_false h4) rfl) rfl (en (nx (cf rfl rfl (xt (xq (xq (xb (nx (sq (rg (m_ rfl rfl (m_ rfl rfl ?_)))))))))))))))))))
    refine gd 0 Kd.Sub.rfl rfl (cs' := [.slice A_pairs1 pairs1.length c_pairs1]) rfl fun s105 w_ rs105 us105 => ?_
    refine bs1 (dk := (Kd.sl kPairS)) rfl info24 (by decide) rfl rfl rfl rfl ?_
    intro b104
    refine f2 (ap ([] ++ [pairs1]) rfl info24 rfl rfl (by decide) rfl rfl rfl rfl (by simp only [List.length_append, List.length_cons, List.length_nil]; omega) (by simp only [List.length_append, List.length_cons, List.length_nil]; omega) rfl (fun A106 c107 o108 s109 t110 => ?_))
    refine a_ rfl rfl (en (nx (sq (bk ?_))))
    have hmod := model_end hinv1.2.1 hinv1.2.2.1 hinv1.1 (fun y hy => by have := (List.getElem?_eq_some_iff.1 hy).1; omega)
    have hrst : restOf notes lo = notes.drop k := dropWhile_at hinv1.2.2.1 hinv1.1 (fun y hy => by have := (List.getElem?_eq_some_iff.1 hy).1; omega)
    refine lp (σ := Nat × List (List Pair) × Option Addr × Nat × List Nat × List Nat × List Pair × Option Addr × Nat × List Nat) (fun z_ : Nat × List (List Pair) × Option Addr × Nat × List Nat × List Nat × List Pair × Option Addr × Nat × List Nat => match z_ with | (k2, out2, A_out2, c_out2, o_out2, s_out2, pairs2, A_pairs2, c_pairs2, s_pairs2) => [(0, .slice Anotes notes.length cnotes), (2, .int .i64 hi), (7, .slice A_out2 out2.length c_out2), (8, .slice A_pairs2 pairs2.length c_pairs2), (9, .int .i64 ((k2 : Nat) : Int))])
        (fun z_ : Nat × List (List Pair) × Option Addr × Nat × List Nat × List Nat × List Pair × Option Addr × Nat × List Nat => match z_ with | (k2, out2, A_out2, c_out2, o_out2, s_out2, pairs2, A_pairs2, c_pairs2, s_pairs2) => [dat (Kd.row 24 (Kd.sl kPairS)) [.slice A_out2 out2.length c_out2] out2 o_out2 s_out2, dat (Kd.sl kPairS) [.slice A_pairs2 pairs2.length c_pairs2] pairs2 ([]) s_pairs2, dat (Kd.sl kNoteS) [.slice Anotes notes.length cnotes] notes ([]) snotes_])
        (fun z_ : Nat × List (List Pair) × Option Addr × Nat × List Nat × List Nat × List Pair × Option Addr × Nat × List Nat => match z_ with | (k2, out2, A_out2, c_out2, o_out2, s_out2, pairs2, A_pairs2, c_pairs2, s_pairs2) => (k2 ≤ notes.length ∧ out2 ++ modelsO hi pairs2 (notes.drop k2) = modelsOf notes lo hi ∧ pairs2.length ≤ k2 ∧ out2.length ≤ k2 + 1) ∧ (∀ q ∈ s_out2, q ∈ snotes_ ∨ w.heap.size ≤ q) ∧ (∀ q ∈ s_pairs2, q ∈ snotes_ ∨ w.heap.size ≤ q)) (fun z_ : Nat × List (List Pair) × Option Addr × Nat × List Nat × List Nat × List Pair × Option Addr × Nat × List Nat => match z_ with | (k2, out2, A_out2, c_out2, o_out2, s_out2, pairs2, A_pairs2, c_pairs2, s_pairs2) => notes.length - k2) (k, ([] ++ [pairs1]), A106, c107, o108, s109, pairs1, A_pairs1, c_pairs1, s_pairs1) [0, 0, 0] ⟨⟨by omega, by rw [modelsOf, hrst, hmod]; simp, by omega, by simp⟩, by grind, by grind⟩ ⟨rfl, rfl, rfl, rfl, rfl, trivial⟩ rfl ?_
    rintro ⟨k2, out2, A_out2, c_out2, o_out2, s_out2, pairs2, A_pairs2, c_pairs2, s_pairs2⟩ hp_
    obtain ⟨hinv2, hsee2out2, hsee2pairs2⟩ := hp_
    refine sq (sq (rg (m_ rfl rfl (m_ rfl rfl (vl (ln rfl rfl rfl) rfl (vl (cm rfl rfl rfl rfl) rfl (m_ rfl rfl ?_)))))))
    by_cases h111 : ((k2 : Nat) : Int) < ((notes.length : Nat) : Int)
    · refine vg (mv rfl rfl) rfl rfl (decide_eq_true h111) (vg (mv rfl rfl) rfl rfl (decide_eq_true h111) ?_)
      refine gx 2 k2 rfl (by omega) fun y117 p112 cs_ s113 w116 m118 e114 r115 us113 => ?_
      obtain ⟨A119, c120, A121, c122, A123, c124, A125, c126, A127, c128, A129, c130, rfl⟩ := kNoteS_sh r115
      refine vg (ix k2 e114 rfl rfl rfl rfl rfl (by omega)) rfl rfl (decide_eq_true h111) (vg (fa rfl rfl rfl) rfl rfl (decide_eq_true h111) (vg (ldp (u := .int .i64 y117.at_) 0 rfl rfl rfl rfl rfl rfl rfl) rfl rfl (decide_eq_true h111) (vg (mv rfl rfl) rfl rfl (decide_eq_true h111) (vg (cm rfl rfl rfl rfl) rfl rfl (decide_eq_true h111) (vl (pk (b := true) rfl rfl (decide_eq_true h111) rfl) rfl (en (nx ?_)))))))
      by_cases h131 : y117.at_ ≤ hi
      · refine ct rfl (decide_eq_true h131) (sk (nx (bk (sq (sq (rg (m_ rfl rfl (m_ rfl rfl (vl (ix k2 e114 rfl rfl rfl rfl rfl (by omega)) rfl (vl (fa rfl rfl rfl) rfl (vl (ldp (u := .int .i64 y117.at_) 0 rfl rfl rfl rfl rfl rfl rfl) rfl (a_ rfl rfl (en (nx (bk ?_)))))))))))))))
        refine lp (σ := Nat × List Pair × Option Addr × Nat × List Nat) (fun z_ : Nat × List Pair × Option Addr × Nat × List Nat => match z_ with | (k3, pairs3, A_pairs3, c_pairs3, s_pairs3) => [(0, .slice Anotes notes.length cnotes), (2, .int .i64 hi), (7, .slice A_out2 out2.length c_out2), (8, .slice A_pairs3 pairs3.length c_pairs3), (9, .int .i64 ((k3 : Nat) : Int)), (10, .int .i64 y117.at_), (43, .slice Anotes notes.length cnotes), (44, .int .i64 ((k2 : Nat) : Int)), (45, .pointer (some p112)), (46, .pointer (some (p112.add 0))), (47, .int .i64 y117.at_), (48, .int .i64 hi), (49, .bool (decide (y117.at_ ≤ hi)))])
            (fun z_ : Nat × List Pair × Option Addr × Nat × List Nat => match z_ with | (k3, pairs3, A_pairs3, c_pairs3, s_pairs3) => [dat (Kd.sl kPairS) [.slice A_pairs3 pairs3.length c_pairs3] pairs3 ([]) s_pairs3, ptr kNoteS p112 [.int .i64 y117.at_, .int .i64 y117.kind, .int .i64 y117.client, .int .i64 y117.op.kind, .int .i64 y117.op.pair.id, .slice A119 y117.op.pair.rect.low.length c120, .slice A121 y117.op.pair.rect.high.length c122, .int .i64 y117.op.query.kind, .slice A123 y117.op.query.rect.low.length c124, .slice A125 y117.op.query.rect.high.length c126, .slice A127 y117.op.query.point.length c128, .int .i64 y117.op.query.k, .int .i64 y117.answer.code, .slice A129 y117.answer.pairs.length c130] y117 s113, dat (Kd.row 24 (Kd.sl kPairS)) [.slice A_out2 out2.length c_out2] out2 o_out2 s_out2, dat (Kd.sl kNoteS) [.slice Anotes notes.length cnotes] notes ([]) snotes_])
            (fun z_ : Nat × List Pair × Option Addr × Nat × List Nat => match z_ with | (k3, pairs3, A_pairs3, c_pairs3, s_pairs3) => (k2 ≤ k3 ∧ k3 ≤ notes.length ∧ out2 ++ modelsG hi pairs3 y117.at_ (notes.drop k3) = modelsOf notes lo hi ∧ pairs3.length ≤ k3) ∧ (∀ q ∈ s_pairs3, q ∈ snotes_ ∨ w.heap.size ≤ q)) (fun z_ : Nat × List Pair × Option Addr × Nat × List Nat => match z_ with | (k3, pairs3, A_pairs3, c_pairs3, s_pairs3) => notes.length - k3) (k2, pairs2, A_pairs2, c_pairs2, s_pairs2) [2, 0, 0, 0] ⟨⟨Nat.le_refl _, by omega, models_in hinv2.2.1 m118 h131, by omega⟩, by grind⟩ ⟨rfl, rfl, rfl, rfl, rfl, rfl, rfl, rfl, rfl, rfl, rfl, rfl, rfl, trivial⟩ rfl ?_
        rintro ⟨k3, pairs3, A_pairs3, c_pairs3, s_pairs3⟩ hp_
        obtain ⟨hinv3, hsee3pairs3⟩ := hp_
        refine sq (sq (rg (m_ rfl rfl (m_ rfl rfl (vl (ln rfl rfl rfl) rfl (vl (cm rfl rfl rfl rfl) rfl (m_ rfl rfl ?_)))))))
        by_cases h132 : ((k3 : Nat) : Int) < ((notes.length : Nat) : Int)
        · refine vg (mv rfl rfl) rfl rfl (decide_eq_true h132) (vg (mv rfl rfl) rfl rfl (decide_eq_true h132) ?_)
          refine gx 3 k3 rfl (by omega) fun y138 p133 cs_ s134 w137 m139 e135 r136 us134 => ?_
          obtain ⟨A140, c141, A142, c143, A144, c145, A146, c147, A148, c149, A150, c151, rfl⟩ := kNoteS_sh r136
          refine vg (ix k3 e135 rfl rfl rfl rfl rfl (by omega)) rfl rfl (decide_eq_true h132) (vg (fa rfl rfl rfl) rfl rfl (decide_eq_true h132) (vg (ldp (u := .int .i64 y138.at_) 0 rfl rfl rfl rfl rfl rfl rfl) rfl rfl (decide_eq_true h132) (vg (mv rfl rfl) rfl rfl (decide_eq_true h132) (vg (cm rfl rfl rfl rfl) rfl rfl (decide_eq_true h132) (vl (pk (b := true) rfl rfl (decide_eq_true h132) rfl) rfl (en (nx ?_)))))))
          by_cases h152 : y138.at_ = y117.at_
          · refine ct rfl (beq_iff_eq.2 h152) (sk (nx (sq (bk (rg (m_ rfl rfl (m_ rfl rfl (m_ rfl rfl (vl (ix k3 e135 rfl rfl rfl rfl rfl (by omega)) rfl (vl (ldq 0 rfl rfl rfl rfl rfl rfl rfl) rfl ?_))))))))))
            refine gp 0 Kd.Sub.rfl rfl (cs' := [.int .i64 y138.at_, .int .i64 y138.kind, .int .i64 y138.client, .int .i64 y138.op.kind, .int .i64 y138.op.pair.id, .slice A140 y138.op.pair.rect.low.length c141, .slice A142 y138.op.pair.rect.high.length c143, .int .i64 y138.op.query.kind, .slice A144 y138.op.query.rect.low.length c145, .slice A146 y138.op.query.rect.high.length c147, .slice A148 y138.op.query.point.length c149, .int .i64 y138.op.query.k, .int .i64 y138.answer.code, .slice A150 y138.answer.pairs.length c151]) rfl fun s153 w_ rs153 us153 => ?_
            refine cm_ (dk := (Kd.sl kPairS)) (x := (turnOf pairs3 y138)) (S := (s_pairs3 ++ s153)) (by kernel_rfl) rfl rfl rfl (sna (snt 2 rfl) (snt 0 rfl)) (fun w_ hs_ => impl_told w_ (hs_.at 2 rfl) (hs_.at 0 rfl) (by omega)) (fun cs_ o156 s157 w_ r158 t159 => ?_)
            obtain ⟨rfl, A154, c155, rfl, Cr158, Lr158, -⟩ := r158
            refine a_ rfl rfl (en (xn (nx (rg (m_ rfl rfl (vl (ra (c := ((k3 + 1 : Nat) : Int)) rfl rfl rfl (by omega) (by omega) (by omega)) rfl (a_ rfl rfl (en ?_))))))))
            exact lpe (s := (k3, pairs3, A_pairs3, c_pairs3, s_pairs3)) (k3 + 1, (turnOf pairs3 y138), A154, c155, s157) [0, 3, 3, 3] ⟨⟨by omega, by omega, models_on hinv3.2.2.1 m139 h152, by have z := turnOf_len pairs3 y138; omega⟩, by grind⟩ (by show notes.length - (k3 + 1) < notes.length - k3; omega) ⟨rfl, rfl, rfl, rfl, rfl, rfl, rfl, rfl, rfl, rfl, rfl, rfl, rfl, trivial⟩ rfl
          · refine cf rfl (beq_eq_false_iff_ne.2 h152) (xt (xq (xq (xb (nx (rg (m_ rfl rfl (m_ rfl rfl ?_))))))))
            refine gd 1 Kd.Sub.rfl rfl (cs' := [.slice A_pairs3 pairs3.length c_pairs3]) rfl fun s162 w_ rs162 us162 => ?_
            refine bs1 (dk := (Kd.sl kPairS)) rfl info24 (by decide) rfl rfl rfl rfl ?_
            intro b161
            refine f4 (ap (out2 ++ [pairs3]) rfl info24 rfl rfl (by decide) rfl rfl rfl rfl (by simp only [List.length_append, List.length_cons, List.length_nil]; omega) (by simp only [List.length_append, List.length_cons, List.length_nil]; omega) rfl (fun A163 c164 o165 s166 t167 => ?_))
            refine a_ rfl rfl (en (xn ?_))
            have hne : k2 ≠ k3 := by rintro rfl; have e1 := m139; rw [m118] at e1; cases e1; exact h152 rfl
            exact lpe (s := (k2, out2, A_out2, c_out2, o_out2, s_out2, pairs2, A_pairs2, c_pairs2, s_pairs2)) (k3, (out2 ++ [pairs3]), A163, c164, o165, s166, pairs3, A_pairs3, c_pairs3, s_pairs3) [0, 1, 2] ⟨⟨by omega, models_out hinv3.2.2.1 (fun y hy => by rw [m139] at hy; cases hy; exact h152), by omega, by simp only [List.length_append, List.length_cons, List.length_nil]; omega⟩, by grind, by grind⟩ (by show notes.length - k3 < notes.length - k2; omega) ⟨rfl, rfl, rfl, rfl, rfl, trivial⟩ rfl
        · refine sg rfl rfl (decide_eq_false h132) (sg rfl rfl (decide_eq_false h132) (sg rfl rfl (decide_eq_false h132) (sg rfl rfl (decide_eq_false h132) (sg rfl rfl (decide_eq_false h132) (sg rfl rfl (decide_eq_false h132) (sg rfl rfl (decide_eq_false h132) (vl (pk (b := false) rfl rfl (decide_eq_false h132) rfl) rfl (en (nx (cf rfl rfl (xt (xq (xq (xb (nx (rg (m_ rfl rfl (m_ rfl rfl ?_))))))))))))))))))
          refine gd 0 Kd.Sub.rfl rfl (cs' := [.slice A_pairs3 pairs3.length c_pairs3]) rfl fun s169 w_ rs169 us169 => ?_
          refine bs1 (dk := (Kd.sl kPairS)) rfl info24 (by decide) rfl rfl rfl rfl ?_
          intro b168
          refine f3 (ap (out2 ++ [pairs3]) rfl info24 rfl rfl (by decide) rfl rfl rfl rfl (by simp only [List.length_append, List.length_cons, List.length_nil]; omega) (by simp only [List.length_append, List.length_cons, List.length_nil]; omega) rfl (fun A170 c171 o172 s173 t174 => ?_))
          refine a_ rfl rfl (en (xn ?_))
          have hne : k2 ≠ k3 := by have := (List.getElem?_eq_some_iff.1 m118).1; omega
          exact lpe (s := (k2, out2, A_out2, c_out2, o_out2, s_out2, pairs2, A_pairs2, c_pairs2, s_pairs2)) (k3, (out2 ++ [pairs3]), A170, c171, o172, s173, pairs3, A_pairs3, c_pairs3, s_pairs3) [0, 0, 1] ⟨⟨by omega, models_out hinv3.2.2.1 (fun y hy => by have := (List.getElem?_eq_some_iff.1 hy).1; omega), by omega, by simp only [List.length_append, List.length_cons, List.length_nil]; omega⟩, by grind, by grind⟩ (by show notes.length - k3 < notes.length - k2; omega) ⟨rfl, rfl, rfl, rfl, rfl, trivial⟩ rfl
      · exact cf rfl (decide_eq_false h131) (xt (xq (xq (xb (nx (sq (rg (m_ rfl rfl (a_ rfl rfl (en (nx (rt (f1 (gr (modelsOf notes lo hi) (models_end hinv2.2.1 (fun y hy => by rw [m118] at hy; cases hy; exact h131)) (ret1 rfl rfl (fun w_ hs_ => made hs_ rfl (by grind)))))))))))))))))
    · exact sg rfl rfl (decide_eq_false h111) (sg rfl rfl (decide_eq_false h111) (sg rfl rfl (decide_eq_false h111) (sg rfl rfl (decide_eq_false h111) (sg rfl rfl (decide_eq_false h111) (sg rfl rfl (decide_eq_false h111) (sg rfl rfl (decide_eq_false h111) (vl (pk (b := false) rfl rfl (decide_eq_false h111) rfl) rfl (en (nx (cf rfl rfl (xt (xq (xq (xb (nx (sq (rg (m_ rfl rfl (a_ rfl rfl (en (nx (rt (gr (modelsOf notes lo hi) (models_end hinv2.2.1 (fun y hy => by have := (List.getElem?_eq_some_iff.1 hy).1; omega)) (ret1 rfl rfl (fun w_ hs_ => made hs_ rfl (by grind))))))))))))))))))))))))))
theorem notes_falls {l : List Note} {d : Int} (h : notesFault l d = 0) : falls l = false := by
  unfold notesFault at h
  split at h
  · split at h
    · split at h
      · split at h
        · simp at h
        · rename_i h1; simpa using h1
      · contradiction
    · simp at h
  · simp at h
theorem was_eq {notes : List Note} {dims lo hi : Int} {p : Pair} (h : timesFault notes dims lo hi = 0) : (modelsOf notes lo hi).any (fun x0 => x0.any (fun x1 => decide (p = x1))) = wasIn notes dims lo hi p := by
  rw [models_any (falls_pw (notes_falls (times_ok h).1)), wasIn, if_pos h]
end Go.Proofs.YtkdiaknbndmajaaGreat.Sx
