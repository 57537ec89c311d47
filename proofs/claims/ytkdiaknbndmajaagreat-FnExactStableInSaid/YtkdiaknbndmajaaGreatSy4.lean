/- What functions of the program answer, each at every input that its row names; walked through their code. -/
import Derived.Test.YtkdiaknbndmajaaGreatSy3
namespace Go.Proofs.YtkdiaknbndmajaaGreat.Sx
open Go Go.RowKit Go.Proofs
set_option linter.unusedVariables false
set_option linter.unusedSimpArgs false
def tab3 : Tab := { size := [(2, 1, false), (24, 1, false), (60, 3, true), (67, 14, true)], off := [((67, 0), 0)], elem := [(24, 60), (28, 67), (40, 2), (69, 24)] }
theorem tab_ok3 : tab3.check Tryz.prog = true := by kernel_rfl
noncomputable abbrev X3 (N : Nat) (w : World) : Cx := ⟨Tryz.prog, tab3, tab_ok3, wide, N, w, none, []⟩

def timesFault (notes : List Note) (dims lo hi : Int) : Int := if notesFault notes dims = 0 then if within hi 0 1000000 = true ∧ within lo 0 hi = true then 0 else 3 else notesFault notes dims
def foldTurn (l : List Note) : List Pair := l.foldl turnOf []
def modelAt (notes : List Note) (at_ : Int) : List Pair := foldTurn (notes.takeWhile (fun n => decide (n.at_ ≤ at_)))
theorem takeWhile_at {α : Type} {p : α → Bool} : ∀ {l : List α} {k : Nat}, (∀ j x, j < k → l[j]? = some x → p x = true) → k ≤ l.length → (∀ y, l[k]? = some y → p y = false) → l.takeWhile p = l.take k
  | [], k, _, hk, _ => by simp at hk; subst hk; rfl
  | a :: l, 0, _, _, h => by have := h a rfl; simp [List.takeWhile, this]
  | a :: l, k + 1, h1, hk, h2 => by
    have h0 := h1 0 a (by omega) rfl
    rw [List.takeWhile_cons, if_pos h0, List.take_succ_cons, takeWhile_at (k := k) (fun j x hj hx => h1 (j + 1) x (by omega) (by simpa using hx)) (by simpa using hk) (fun y hy => h2 y (by simpa using hy))]
theorem foldTurn_snoc {l : List Note} {k : Nat} {y : Note} (h : l[k]? = some y) : foldTurn (l.take (k + 1)) = turnOf (foldTurn (l.take k)) y := by
  unfold foldTurn; rw [take_snoc h, List.foldl_append]; rfl
theorem model_end {notes : List Note} {at_ : Int} {k : Nat} {pairs : List Pair} (h : pairs = foldTurn (notes.take k)) (h1 : ∀ j x, j < k → notes[j]? = some x → decide (x.at_ ≤ at_) = true) (hk : k ≤ notes.length) (h2 : ∀ y, notes[k]? = some y → decide (y.at_ ≤ at_) = false) : pairs = modelAt notes at_ := by
  unfold modelAt; rw [takeWhile_at h1 hk h2, h]
theorem true_step {α : Type} {p : α → Bool} {xs : List α} {k : Nat} {y : α} (h : ∀ j x, j < k → xs[j]? = some x → p x = true) (hy : xs[k]? = some y) (hp : p y = true) : ∀ j x, j < k + 1 → xs[j]? = some x → p x = true := fun j x hj hx => by
  rcases Nat.lt_succ_iff_lt_or_eq.1 hj with hlt | rfl
  · exact h j x hlt hx
  · rw [hy] at hx; cases hx; exact hp
/-! spec.l12Ask -/
set_option maxRecDepth 20000 in
set_option maxHeartbeats 2000000 in
theorem spec_l12Ask (w : World) (dims : Int) (lo : Int) (hi : Int) {Anotes : Option Addr} {cnotes : Nat} {notes : List Note} {snotes_ : List Nat} (hnotes : (Kd.sl kNoteS).Rel w [.slice Anotes notes.length cnotes] notes [] snotes_)  : Calls Tryz.prog 20 #[.slice Anotes notes.length cnotes, .int .i64 dims, .int .i64 lo, .int .i64 hi] w (fun e_ w2_ => e_ = .returned (.int .i64 (timesFault notes dims lo hi)) ∧ Below w.heap.size w w2_) := by
  have Lnotes := Kd.sl_len hnotes; have Cnotes := Kd.sl_cap hnotes
  refine fnc (X := X3 25 w) (args := [.slice Anotes notes.length cnotes, .int .i64 dims, .int .i64 lo, .int .i64 hi]) (l := [(0, .slice Anotes notes.length cnotes), (1, .int .i64 dims), (2, .int .i64 lo), (3, .int .i64 hi)]) (G := [dat (Kd.sl kNoteS) [.slice Anotes notes.length cnotes] notes ([]) snotes_]) Tryz.func20 rfl rfl rfl ⟨rfl, rfl, rfl, rfl, trivial⟩ (s0d hnotes (s0n w)).1 ?_
  refine sq (rg (a_ rfl rfl (en (nx (sq (sq (rg (m_ rfl rfl (m_ rfl rfl (cs_ (v := .int .i64 (notesFault notes dims)) (by kernel_rfl) rfl rfl rfl (fun w_ hs_ => spec_NotesFault w_ _ (hs_.at 0 rfl)) (a_ rfl rfl (en (nx (sq (rg (m_ rfl rfl (vl (cm rfl rfl rfl rfl) rfl (en (nx ?_)))))))))))))))))))
  by_cases h1 : (notesFault notes dims) = (0 : Int)
  · refine cf rfl (bne_eq_false_iff_eq.2 h1) (sk (nx (sq (sq (rg (m_ rfl rfl (cs_ (v := .bool (within hi 0 1000000)) (by kernel_rfl) rfl rfl rfl (fun w_ hs_ => spec_l1In w_ _ _ _) (vl (nt rfl rfl) rfl (m_ rfl rfl ?_)))))))))
    by_cases h2 : within hi 0 1000000 = true
    · refine vg (mv rfl rfl) rfl rfl (not_f h2) (vg (mv rfl rfl) rfl rfl (not_f h2) (gw rfl rfl (not_f h2) (cs_ (v := .bool (within lo 0 hi)) (by kernel_rfl) rfl rfl rfl (fun w_ hs_ => spec_l1In w_ _ _ _) (vg (nt rfl rfl) rfl rfl (not_f h2) (vl (pk (b := false) rfl rfl (not_f h2) rfl) rfl (en (nx ?_)))))))
      by_cases h3 : within lo 0 hi = true
      · refine cf rfl (not_f h3) (sk (nx (sq (rg (a_ rfl rfl (en (nx (rt (ret1 rfl rfl (fun w_ hs_ => ⟨?_, hs_.below⟩))))))))))
        exact ri (by grind [timesFault])
      · refine ct rfl (not_t (Bool.eq_false_iff.2 h3)) (sq (rg (a_ rfl rfl (en (nx (rt (xr (ret1 rfl rfl (fun w_ hs_ => ⟨?_, hs_.below⟩)))))))))
        exact ri (by grind [timesFault])
    · refine sg rfl rfl (not_t (Bool.eq_false_iff.2 h2)) (sg rfl rfl (not_t (Bool.eq_false_iff.2 h2)) (sg rfl rfl (not_t (Bool.eq_false_iff.2 h2)) (sg rfl rfl (not_t (Bool.eq_false_iff.2 h2)) (vl (pk (b := true) rfl rfl (not_t (Bool.eq_false_iff.2 h2)) rfl) rfl (en (nx (ct rfl rfl (sq (rg (a_ rfl rfl (en (nx (rt (xr (ret1 rfl rfl (fun w_ hs_ => ⟨?_, hs_.below⟩))))))))))))))))
      exact ri (by grind [timesFault])
  · refine ct rfl (bne_iff_ne.2 h1) (sq (rg (m_ rfl rfl (a_ rfl rfl (en (nx (rt (xr (ret1 rfl rfl (fun w_ hs_ => ⟨?_, hs_.below⟩))))))))))
    exact ri (by grind [timesFault])
/-! impl.timesFault -/
set_option maxRecDepth 20000 in
set_option maxHeartbeats 2000000 in
theorem impl_timesFault (w : World) (dims : Int) (lo : Int) (hi : Int) {Anotes : Option Addr} {cnotes : Nat} {notes : List Note} {snotes_ : List Nat} (hnotes : (Kd.sl kNoteS).Rel w [.slice Anotes notes.length cnotes] notes [] snotes_)  : Calls Tryz.prog 25 #[.slice Anotes notes.length cnotes, .int .i64 dims, .int .i64 lo, .int .i64 hi] w (fun e_ w2_ => e_ = .returned (.int .i64 (timesFault notes dims lo hi)) ∧ Below w.heap.size w w2_) := by
  have Lnotes := Kd.sl_len hnotes; have Cnotes := Kd.sl_cap hnotes
  refine fnc (X := X3 25 w) (args := [.slice Anotes notes.length cnotes, .int .i64 dims, .int .i64 lo, .int .i64 hi]) (l := [(0, .slice Anotes notes.length cnotes), (1, .int .i64 dims), (2, .int .i64 lo), (3, .int .i64 hi)]) (G := [dat (Kd.sl kNoteS) [.slice Anotes notes.length cnotes] notes ([]) snotes_]) Tryz.func25 rfl rfl rfl ⟨rfl, rfl, rfl, rfl, trivial⟩ (s0d hnotes (s0n w)).1 ?_
  refine sq (rg (a_ rfl rfl (en (nx (sq (sq (rg (m_ rfl rfl (m_ rfl rfl (cs_ (v := .int .i64 (notesFault notes dims)) (by kernel_rfl) rfl rfl rfl (fun w_ hs_ => impl_NotesFault w_ _ (hs_.at 0 rfl)) (a_ rfl rfl (en (nx (sq (rg (m_ rfl rfl (vl (cm rfl rfl rfl rfl) rfl (en (nx ?_)))))))))))))))))))
  by_cases h1 : (notesFault notes dims) = (0 : Int)
  · refine cf rfl (bne_eq_false_iff_eq.2 h1) (sk (nx (sq (sq (rg (m_ rfl rfl (cs_ (v := .bool (within hi 0 1000000)) (by kernel_rfl) rfl rfl rfl (fun w_ hs_ => impl_within w_ _ _ _) (vl (nt rfl rfl) rfl (m_ rfl rfl ?_)))))))))
    by_cases h2 : within hi 0 1000000 = true
    · refine vg (mv rfl rfl) rfl rfl (not_f h2) (vg (mv rfl rfl) rfl rfl (not_f h2) (gw rfl rfl (not_f h2) (cs_ (v := .bool (within lo 0 hi)) (by kernel_rfl) rfl rfl rfl (fun w_ hs_ => impl_within w_ _ _ _) (vg (nt rfl rfl) rfl rfl (not_f h2) (vl (pk (b := false) rfl rfl (not_f h2) rfl) rfl (en (nx ?_)))))))
      by_cases h3 : within lo 0 hi = true
      · refine cf rfl (not_f h3) (sk (nx (sq (rg (a_ rfl rfl (en (nx (rt (ret1 rfl rfl (fun w_ hs_ => ⟨?_, hs_.below⟩))))))))))
        exact ri (by grind [timesFault])
      · refine ct rfl (not_t (Bool.eq_false_iff.2 h3)) (sq (rg (a_ rfl rfl (en (nx (rt (xr (ret1 rfl rfl (fun w_ hs_ => ⟨?_, hs_.below⟩)))))))))
        exact ri (by grind [timesFault])
    · refine sg rfl rfl (not_t (Bool.eq_false_iff.2 h2)) (sg rfl rfl (not_t (Bool.eq_false_iff.2 h2)) (sg rfl rfl (not_t (Bool.eq_false_iff.2 h2)) (sg rfl rfl (not_t (Bool.eq_false_iff.2 h2)) (vl (pk (b := true) rfl rfl (not_t (Bool.eq_false_iff.2 h2)) rfl) rfl (en (nx (ct rfl rfl (sq (rg (a_ rfl rfl (en (nx (rt (xr (ret1 rfl rfl (fun w_ hs_ => ⟨?_, hs_.below⟩))))))))))))))))
      exact ri (by grind [timesFault])
  · refine ct rfl (bne_iff_ne.2 h1) (sq (rg (m_ rfl rfl (a_ rfl rfl (en (nx (rt (xr (ret1 rfl rfl (fun w_ hs_ => ⟨?_, hs_.below⟩))))))))))
    exact ri (by grind [timesFault])
/-! spec.l12Model -/
set_option maxRecDepth 20000 in
set_option maxHeartbeats 2000000 in
theorem spec_l12Model (w : World) (at_ : Int) {Anotes : Option Addr} {cnotes : Nat} {notes : List Note} {snotes_ : List Nat} (hnotes : (Kd.sl kNoteS).Rel w [.slice Anotes notes.length cnotes] notes [] snotes_) (hz : notes.length ≤ 600) (hz2 : ∀ n ∈ notes, szPair n.op.pair ≤ 6) : Calls Tryz.prog 21 #[.slice Anotes notes.length cnotes, .int .i64 at_] w (Made (Kd.sl kPairS) w (modelAt notes at_) (snotes_)) := by
  have Lnotes := Kd.sl_len hnotes; have Cnotes := Kd.sl_cap hnotes
  refine fnc (X := X3 29 w) (args := [.slice Anotes notes.length cnotes, .int .i64 at_]) (l := [(0, .slice Anotes notes.length cnotes), (1, .int .i64 at_)]) (G := [dat (Kd.sl kNoteS) [.slice Anotes notes.length cnotes] notes ([]) snotes_]) Tryz.func21 rfl rfl rfl ⟨rfl, rfl, trivial⟩ (s0d hnotes (s0n w)).1 ?_
  refine sq (rg (a_ rfl rfl (en (nx (sq (rg (bs0 (dk := kPairS) rfl info60 rfl rfl ?_)))))))
  intro b1
  refine a_ rfl rfl (en (nx (sq (sq (rg (a_ rfl rfl (en (nx (bk (gl (Kd.Seals.row kPairS_self _) (fun s2 us2 => ?_)))))))))))
  refine lp (σ := Nat × List Pair × Option Addr × Nat × List Nat) (fun z_ : Nat × List Pair × Option Addr × Nat × List Nat => match z_ with | (k, pairs, A_, c_, s_) => [(0, .slice Anotes notes.length cnotes), (1, .int .i64 at_), (5, .slice A_ pairs.length c_), (6, .int .i64 ((k : Nat) : Int))])
      (fun z_ : Nat × List Pair × Option Addr × Nat × List Nat => match z_ with | (k, pairs, A_, c_, s_) => [dat (Kd.sl kPairS) [.slice A_ pairs.length c_] pairs ([]) s_, dat (Kd.sl kNoteS) [.slice Anotes notes.length cnotes] notes ([]) snotes_])
      (fun z_ : Nat × List Pair × Option Addr × Nat × List Nat => match z_ with | (k, pairs, A_, c_, s_) => k ≤ notes.length ∧ (pairs = foldTurn (notes.take k) ∧ ∀ j x, j < k → notes[j]? = some x → decide (x.at_ ≤ at_) = true) ∧ (∀ q ∈ s_, q ∈ snotes_ ∨ w.heap.size ≤ q) ∧ pairs.length ≤ k) (fun z_ : Nat × List Pair × Option Addr × Nat × List Nat => match z_ with | (k, pairs, A_, c_, s_) => notes.length - k) (0, [], (some ⟨b1, 0, none⟩), 0, s2) [0, 0] ⟨Nat.zero_le _, ⟨rfl, by simp⟩, by grind, by simp⟩ ⟨rfl, rfl, rfl, rfl, trivial⟩ rfl ?_
  rintro ⟨k, pairs, A_, c_, s_⟩ hp_
  obtain ⟨hk, hinv, hsee, hlen⟩ := hp_
  refine sq (sq (rg (m_ rfl rfl (m_ rfl rfl (vl (ln rfl rfl rfl) rfl (vl (cm rfl rfl rfl rfl) rfl (m_ rfl rfl ?_)))))))
  by_cases h3 : ((k : Nat) : Int) < ((notes.length : Nat) : Int)
  · refine vg (mv rfl rfl) rfl rfl (decide_eq_true h3) (vg (mv rfl rfl) rfl rfl (decide_eq_true h3) ?_)
    refine gx 1 k rfl (by omega) fun y9 p4 cs_ s5 w8 m10 e6 r7 us5 => ?_
    obtain ⟨A11, c12, A13, c14, A15, c16, A17, c18, A19, c20, A21, c22, rfl⟩ := kNoteS_sh r7
    refine vg (ix k e6 rfl rfl rfl rfl rfl (by omega)) rfl rfl (decide_eq_true h3) (vg (fa rfl rfl rfl) rfl rfl (decide_eq_true h3) (vg (ldp (u := .int .i64 y9.at_) 0 rfl rfl rfl rfl rfl rfl rfl) rfl rfl (decide_eq_true h3) (vg (mv rfl rfl) rfl rfl (decide_eq_true h3) (vg (cm rfl rfl rfl rfl) rfl rfl (decide_eq_true h3) (vl (pk (b := true) rfl rfl (decide_eq_true h3) rfl) rfl (en (nx ?_)))))))
    by_cases h23 : y9.at_ ≤ at_
    · refine ct rfl (decide_eq_true h23) (sk (nx (sq (bk (rg (m_ rfl rfl (m_ rfl rfl (m_ rfl rfl (vl (ix k e6 rfl rfl rfl rfl rfl (by omega)) rfl (cm_ (dk := (Kd.sl kPairS)) (x := (turnOf pairs y9)) (S := (s_ ++ s5)) (by kernel_rfl) rfl rfl rfl (sna (snt 1 rfl) (snp 0 rfl)) (fun w_ hs_ => spec_l12Turn w_ (hs_.at 1 rfl) (hs_.at 0 rfl) (by omega) (by have y := hz2 _ (List.mem_of_getElem? m10); omega)) (fun cs_ o26 s27 w_ r28 t29 => ?_)))))))))))
      obtain ⟨rfl, A24, c25, rfl, Cr28, Lr28, -⟩ := r28
      exact a_ rfl rfl (en (xn (nx (rg (m_ rfl rfl (vl (ra (c := ((k + 1 : Nat) : Int)) rfl rfl rfl (by omega) (by omega) (by omega)) rfl (a_ rfl rfl (en (lpe (s := (k, pairs, A_, c_, s_)) (k + 1, (turnOf pairs y9), A24, c25, s27) [0, 2] ⟨by omega, ⟨by rw [foldTurn_snoc m10, ← hinv.1], true_step hinv.2 m10 (decide_eq_true h23)⟩, by grind, by have z := turnOf_len pairs y9; omega⟩ (by show notes.length - (k + 1) < notes.length - k; omega) ⟨rfl, rfl, rfl, rfl, trivial⟩ rfl)))))))))
    · exact cf rfl (decide_eq_false h23) (xt (xq (xq (xb (nx (sq (rg (m_ rfl rfl (a_ rfl rfl (en (nx (rt (f1 (gr (modelAt notes at_) (model_end hinv.1 hinv.2 hk (fun y hy => by rw [m10] at hy; cases hy; exact decide_eq_false h23)) (ret1 rfl rfl (fun w_ hs_ => made hs_ rfl (by grind)))))))))))))))))
  · exact sg rfl rfl (decide_eq_false h3) (sg rfl rfl (decide_eq_false h3) (sg rfl rfl (decide_eq_false h3) (sg rfl rfl (decide_eq_false h3) (sg rfl rfl (decide_eq_false h3) (sg rfl rfl (decide_eq_false h3) (sg rfl rfl (decide_eq_false h3) (vl (pk (b := false) rfl rfl (decide_eq_false h3) rfl) rfl (en (nx (cf rfl rfl (xt (xq (xq (xb (nx (sq (rg (m_ rfl rfl (a_ rfl rfl (en (nx (rt (gr (modelAt notes at_) (model_end hinv.1 hinv.2 hk (fun y hy => by have := (List.getElem?_eq_some_iff.1 hy).1; omega)) (ret1 rfl rfl (fun w_ hs_ => made hs_ rfl (by grind))))))))))))))))))))))))))
def timesOf (notes : List Note) (lo hi : Int) : List Int := lo :: (notes.filter (fun n => within n.at_ (lo + 1) hi)).map Note.at_
theorem timesOf_len (notes : List Note) (lo hi : Int) : (timesOf notes lo hi).length ≤ notes.length + 1 := by
  have := List.length_filter_le (fun n : Note => within n.at_ (lo + 1) hi) notes
  simp only [timesOf, List.length_cons, List.length_map]; omega
theorem times_y {l : List Note} {out r : List Int} {lo hi : Int} {k : Nat} {y : Note} (h : out ++ ((l.drop k).filter (fun n => within n.at_ (lo + 1) hi)).map Note.at_ = r) (hy : l[k]? = some y) (hn : within y.at_ (lo + 1) hi = true) : (out ++ [y.at_]) ++ ((l.drop (k + 1)).filter (fun n => within n.at_ (lo + 1) hi)).map Note.at_ = r := by
  rw [drop_at hy] at h; simpa [hn] using h
theorem times_n {l : List Note} {out r : List Int} {lo hi : Int} {k : Nat} {y : Note} (h : out ++ ((l.drop k).filter (fun n => within n.at_ (lo + 1) hi)).map Note.at_ = r) (hy : l[k]? = some y) (hn : ¬ within y.at_ (lo + 1) hi = true) : out ++ ((l.drop (k + 1)).filter (fun n => within n.at_ (lo + 1) hi)).map Note.at_ = r := by
  rw [drop_at hy] at h; simpa [hn] using h
theorem times_0 {l : List Note} {out r : List Int} {lo hi : Int} {k : Nat} (h : out ++ ((l.drop k).filter (fun n => within n.at_ (lo + 1) hi)).map Note.at_ = r) (hk : l.length ≤ k) : out = r := by
  rw [List.drop_of_length_le hk] at h; simpa using h
theorem Sorted.fold : ∀ (l : List Note) {p : List Pair}, Sorted p → Sorted (l.foldl turnOf p)
  | [], _, h => h
  | n :: l, _, h => Sorted.fold l (h.turn n)
theorem Sorted.model (notes : List Note) (t : Int) : Sorted (modelAt notes t) := Sorted.fold _ .nil
def wasIn (notes : List Note) (dims lo hi : Int) (p : Pair) : Bool := if timesFault notes dims lo hi = 0 then (timesOf notes lo hi).any (fun t => (modelAt notes t).any (fun q => decide (p = q))) else false
theorem times_ok {notes : List Note} {dims lo hi : Int} (h : timesFault notes dims lo hi = 0) : notesFault notes dims = 0 ∧ 0 ≤ lo ∧ lo ≤ 1000000 ∧ hi ≤ 1000000 ∧ lo ≤ hi := by
  unfold timesFault at h
  split at h
  · rename_i h0
    split at h
    · rename_i h1
      simp [within] at h1
      exact ⟨h0, by omega, by omega, by omega, by omega⟩
    · simp at h
  · contradiction
/-! spec.l12Times -/
set_option maxRecDepth 20000 in
set_option maxHeartbeats 2000000 in
theorem spec_l12Times (w : World) (lo : Int) (hi : Int) {Anotes : Option Addr} {cnotes : Nat} {notes : List Note} {snotes_ : List Nat} (hnotes : (Kd.sl kNoteS).Rel w [.slice Anotes notes.length cnotes] notes [] snotes_) (hz : notes.length ≤ 600) (hl : 0 ≤ lo) (hl2 : lo ≤ 1000000) : Calls Tryz.prog 49 #[.slice Anotes notes.length cnotes, .int .i64 lo, .int .i64 hi] w (Made (Kd.row 2 Kd.i64) w (timesOf notes lo hi) []) := by
  have Lnotes := Kd.sl_len hnotes; have Cnotes := Kd.sl_cap hnotes
  refine fnc (X := X3 35 w) (args := [.slice Anotes notes.length cnotes, .int .i64 lo, .int .i64 hi]) (l := [(0, .slice Anotes notes.length cnotes), (1, .int .i64 lo), (2, .int .i64 hi)]) (G := [dat (Kd.sl kNoteS) [.slice Anotes notes.length cnotes] notes ([]) snotes_]) Tryz.func49 rfl rfl rfl ⟨rfl, rfl, rfl, trivial⟩ (s0d hnotes (s0n w)).1 ?_
  refine sq (rg (a_ rfl rfl (en (nx (sq (rg (m_ rfl rfl (gs Kd.i64 [.int .i64 lo] lo (fun _ => ⟨rfl, rfl, rfl⟩) (bs1 (dk := Kd.i64) rfl info2 (by decide) rfl rfl rfl rfl ?_)))))))))
  intro b1
  refine a_ rfl rfl (en (nx (sq (sq (rg (a_ rfl rfl (en (nx (bk ?_)))))))))
  refine lp (σ := Nat × List Int × Option Addr × Nat × List Nat × List Nat) (fun z_ : Nat × List Int × Option Addr × Nat × List Nat × List Nat => match z_ with | (k, out, A_, c_, o_, s_) => [(0, .slice Anotes notes.length cnotes), (1, .int .i64 lo), (2, .int .i64 hi), (7, .slice A_ out.length c_), (8, .int .i64 ((k : Nat) : Int))])
      (fun z_ : Nat × List Int × Option Addr × Nat × List Nat × List Nat => match z_ with | (k, out, A_, c_, o_, s_) => [dat (Kd.row 2 Kd.i64) [.slice A_ out.length c_] out o_ s_, dat (Kd.sl kNoteS) [.slice Anotes notes.length cnotes] notes ([]) snotes_])
      (fun z_ : Nat × List Int × Option Addr × Nat × List Nat × List Nat => match z_ with | (k, out, A_, c_, o_, s_) => k ≤ notes.length ∧ (out ++ ((notes.drop k).filter (fun n => within n.at_ (lo + 1) hi)).map Note.at_ = timesOf notes lo hi) ∧ (∀ q ∈ s_, w.heap.size ≤ q) ∧ out.length ≤ k + 1) (fun z_ : Nat × List Int × Option Addr × Nat × List Nat × List Nat => match z_ with | (k, out, A_, c_, o_, s_) => notes.length - k) (0, [lo], (some ⟨b1, 0, none⟩), 1, (b1 :: []), []) [0, 0] ⟨Nat.zero_le _, by simp [timesOf], by simp, by simp⟩ ⟨rfl, rfl, rfl, rfl, rfl, trivial⟩ rfl ?_
  rintro ⟨k, out, A_, c_, o_, s_⟩ hp_
  obtain ⟨hk, hinv, hsee, hlen⟩ := hp_
  refine sq (sq (rg (m_ rfl rfl (m_ rfl rfl (vl (ln rfl rfl rfl) rfl (vl (cm rfl rfl rfl rfl) rfl (en (nx ?_))))))))
  by_cases h2 : ((k : Nat) : Int) < ((notes.length : Nat) : Int)
  · refine ct rfl (decide_eq_true h2) (sk (nx (sq (bk (sq (rg (m_ rfl rfl (m_ rfl rfl ?_))))))))
    refine gx 1 k rfl (by omega) fun y8 p3 cs_ s4 w7 m9 e5 r6 us4 => ?_
    obtain ⟨A10, c11, A12, c13, A14, c15, A16, c17, A18, c19, A20, c21, rfl⟩ := kNoteS_sh r6
    refine vl (ix k e5 rfl rfl rfl rfl rfl (by omega)) rfl (vl (fa rfl rfl rfl) rfl (vl (ldp (u := .int .i64 y8.at_) 0 rfl rfl rfl rfl rfl rfl rfl) rfl (m_ rfl rfl (vl (ra (c := lo + 1) rfl rfl rfl rfl (by omega) (by omega)) rfl (m_ rfl rfl (cs_ (v := .bool (within y8.at_ (lo + 1) hi)) (by kernel_rfl) rfl rfl rfl (fun w_ hs_ => spec_l1In w_ _ _ _) (en (nx ?_))))))))
    by_cases h22 : within y8.at_ (lo + 1) hi = true
    · refine ct rfl h22 (rg (m_ rfl rfl (m_ rfl rfl (m_ rfl rfl (vl (ix k e5 rfl rfl rfl rfl rfl (by omega)) rfl (vl (fa rfl rfl rfl) rfl (vl (ldp (u := .int .i64 y8.at_) 0 rfl rfl rfl rfl rfl rfl rfl) rfl (gs Kd.i64 [.int .i64 y8.at_] y8.at_ (fun _ => ⟨rfl, rfl, rfl⟩) (bs1 (dk := Kd.i64) rfl info2 (by decide) rfl rfl rfl rfl ?_)))))))))
      intro b23
      refine f2 (ap (out ++ [y8.at_]) rfl info2 rfl rfl (by decide) rfl rfl rfl rfl (by simp only [List.length_append, List.length_cons, List.length_nil]; omega) (by simp only [List.length_append, List.length_cons, List.length_nil]; omega) rfl (fun A24 c25 o26 s27 t28 => ?_))
      exact a_ rfl rfl (en (xn (nx (rg (m_ rfl rfl (vl (ra (c := ((k + 1 : Nat) : Int)) rfl rfl rfl (by omega) (by omega) (by omega)) rfl (a_ rfl rfl (en (lpe (s := (k, out, A_, c_, o_, s_)) (k + 1, (out ++ [y8.at_]), A24, c25, o26, s27) [0, 1] ⟨by omega, times_y hinv m9 h22, by grind, by first | omega | (simp only [List.length_append, List.length_cons, List.length_nil]; omega)⟩ (by show notes.length - (k + 1) < notes.length - k; omega) ⟨rfl, rfl, rfl, rfl, rfl, trivial⟩ rfl)))))))))
    · exact cf rfl (Bool.eq_false_iff.2 h22) (sk (xn (nx (rg (m_ rfl rfl (vl (ra (c := ((k + 1 : Nat) : Int)) rfl rfl rfl (by omega) (by omega) (by omega)) rfl (a_ rfl rfl (en (lpe (s := (k, out, A_, c_, o_, s_)) (k + 1, out, A_, c_, o_, s_) [1, 1] ⟨by omega, times_n hinv m9 h22, by grind, by first | omega | (simp only [List.length_append, List.length_cons, List.length_nil]; omega)⟩ (by show notes.length - (k + 1) < notes.length - k; omega) ⟨rfl, rfl, rfl, rfl, rfl, trivial⟩ rfl)))))))))
  · exact cf rfl (decide_eq_false h2) (xt (xq (xq (xb (nx (sq (rg (m_ rfl rfl (a_ rfl rfl (en (nx (rt (gr (timesOf notes lo hi) (times_0 hinv (by omega)) (ret1 rfl rfl (fun w_ hs_ => made hs_ rfl (by grind))))))))))))))))
/-! spec.WasIn -/
set_option maxRecDepth 20000 in
set_option maxHeartbeats 2000000 in
theorem spec_WasIn (w : World) (dims : Int) (lo : Int) (hi : Int) {Anotes : Option Addr} {cnotes : Nat} {notes : List Note} {snotes_ : List Nat} (hnotes : (Kd.sl kNoteS).Rel w [.slice Anotes notes.length cnotes] notes [] snotes_) {Ap1 : Option Addr} {cp1 : Nat} {Ap2 : Option Addr} {cp2 : Nat} {p : Pair} {sp_ : List Nat} (hp : kPairS.Rel w [.int .i64 p.id, .slice Ap1 p.rect.low.length cp1, .slice Ap2 p.rect.high.length cp2] p [] sp_)  : Calls Tryz.prog 67 #[.slice Anotes notes.length cnotes, .int .i64 dims, .int .i64 lo, .int .i64 hi, .agg #[.int .i64 p.id, .slice Ap1 p.rect.low.length cp1, .slice Ap2 p.rect.high.length cp2]] w (fun e_ w2_ => e_ = .returned (.bool (wasIn notes dims lo hi p)) ∧ Below w.heap.size w w2_) := by
  have Lnotes := Kd.sl_len hnotes; have Cnotes := Kd.sl_cap hnotes
  refine fnc (X := X3 36 w) (args := [.slice Anotes notes.length cnotes, .int .i64 dims, .int .i64 lo, .int .i64 hi, .agg #[.int .i64 p.id, .slice Ap1 p.rect.low.length cp1, .slice Ap2 p.rect.high.length cp2]]) (l := [(0, .slice Anotes notes.length cnotes), (1, .int .i64 dims), (2, .int .i64 lo), (3, .int .i64 hi), (4, .agg #[.int .i64 p.id, .slice Ap1 p.rect.low.length cp1, .slice Ap2 p.rect.high.length cp2])]) (G := [dat kPairS [.int .i64 p.id, .slice Ap1 p.rect.low.length cp1, .slice Ap2 p.rect.high.length cp2] p ([]) sp_, dat (Kd.sl kNoteS) [.slice Anotes notes.length cnotes] notes ([]) snotes_]) Tryz.func67 rfl rfl rfl ⟨rfl, rfl, rfl, rfl, rfl, trivial⟩ (s0d hp (s0d hnotes (s0n w))).1 ?_
  refine sq (rg (bx rfl rfl rfl rfl ?_))
  intro b1
  refine a_ rfl rfl (en (nx (sq (sq (rg (m_ rfl rfl (m_ rfl rfl (m_ rfl rfl (m_ rfl rfl (cs_ (v := .int .i64 (timesFault notes dims lo hi)) (by kernel_rfl) rfl rfl rfl (fun w_ hs_ => spec_l12Ask w_ _ _ _ (hs_.at 2 rfl)) (vl (cm rfl rfl rfl rfl) rfl (en (nx ?_)))))))))))))
  by_cases h2 : (timesFault notes dims lo hi) = (0 : Int)
  · have tt := times_ok h2; have zz := notes_0 tt.1
    refine cf rfl (bne_eq_false_iff_eq.2 h2) (sk (nx (sq (rg (m_ rfl rfl (m_ rfl rfl (m_ rfl rfl (cm_ (dk := (Kd.row 2 Kd.i64)) (x := (timesOf notes lo hi)) (S := []) (by kernel_rfl) rfl rfl rfl sn0 (fun w_ hs_ => spec_l12Times w_ _ _ (hs_.at 2 rfl) (by omega) (by omega) (by omega)) (fun cs_ o5 s6 w_ r7 t8 => ?_)))))))))
    obtain ⟨A3, c4, rfl⟩ := Kd.row_sh r7
    refine a_ rfl rfl (en (nx (sq (sq (rg (a_ rfl rfl (en (nx (bk (gl (Kd.Seals.row Kd.Seals.i64 _) (fun s10 us10 => ?_)))))))))))
    refine lp (σ := Nat) (fun k : Nat => [(0, .slice Anotes notes.length cnotes), (9, .pointer (some ⟨b1, 0, none⟩)), (11, .slice A3 ((timesOf notes lo hi).length) c4), (12, .int .i64 ((k : Nat) : Int))])
        (fun k : Nat => [dat (Kd.sl Kd.i64) [.slice A3 ((timesOf notes lo hi).length) c4] (timesOf notes lo hi) ([]) s10, blk b1 [.int .i64 p.id, .slice Ap1 p.rect.low.length cp1, .slice Ap2 p.rect.high.length cp2] 60, dat kPairS [.int .i64 p.id, .slice Ap1 p.rect.low.length cp1, .slice Ap2 p.rect.high.length cp2] p ([]) sp_, dat (Kd.sl kNoteS) [.slice Anotes notes.length cnotes] notes ([]) snotes_])
        (fun k : Nat => k ≤ (timesOf notes lo hi).length ∧ ∀ j x, j < k → (timesOf notes lo hi)[j]? = some x → (modelAt notes x).any (fun q => decide (p = q)) = false) (fun k : Nat => (timesOf notes lo hi).length - k) 0 [0, 0, 0, 0] ⟨Nat.zero_le _, by simp⟩ ⟨rfl, rfl, rfl, rfl, trivial⟩ rfl ?_
    intro k hp_
    obtain ⟨hk, hinv⟩ := hp_; have tl := timesOf_len notes lo hi
    refine sq (sq (rg (m_ rfl rfl (m_ rfl rfl (vl (ln rfl rfl rfl) rfl (vl (cm rfl rfl rfl rfl) rfl (en (nx ?_))))))))
    by_cases h11 : ((k : Nat) : Int) < (((timesOf notes lo hi).length : Nat) : Int)
    · refine ct rfl (decide_eq_true h11) (sk (nx (sq (bk (sq (rg (m_ rfl rfl (m_ rfl rfl (m_ rfl rfl ?_)))))))))
      refine gx 0 k rfl (by omega) fun y17 p12 cs_ s13 w16 m18 e14 r15 us13 => ?_
      obtain ⟨rfl, -, -⟩ := r15
      refine vl (ix k e14 rfl rfl rfl rfl rfl (by omega)) rfl (vl (ldq (u := .int .i64 y17) 0 rfl rfl rfl rfl rfl rfl rfl) rfl (cm_ (dk := (Kd.sl kPairS)) (x := (modelAt notes y17)) (S := (snotes_)) (by kernel_rfl) rfl rfl rfl (snt 4 rfl) (fun w_ hs_ => spec_l12Model w_ _ (hs_.at 4 rfl) (by omega) zz.2) (fun cs_ o21 s22 w_ r23 t24 => ?_)))
      obtain ⟨rfl, A19, c20, rfl, Cr23, Lr23, -⟩ := r23
      refine cs_ (v := .bool (List.any (modelAt notes y17) (fun q => decide (p = q)))) (by kernel_rfl) rfl rfl rfl (fun w_ hs_ => spec_l12There w_ (hs_.at 0 rfl) (ptr_blk (hs_.at 3 rfl) (hs_.at 4 rfl) rfl) (Sorted.model _ _)) (en (nx ?_))
      by_cases h26 : List.any (modelAt notes y17) (fun q => decide (p = q)) = true
      · refine ct rfl h26 (sq (rg (a_ rfl rfl (en (nx (rt (xrb (xr (xr (xrb (xr (ret1 rfl rfl (fun w_ hs_ => ⟨?_, hs_.below⟩)))))))))))))
        exact rb (by have z := any_some (p := fun t => (modelAt notes t).any (fun q => decide (p = q))) m18 h26; grind [wasIn])
      · exact cf rfl (Bool.eq_false_iff.2 h26) (sk (xn (nx (rg (m_ rfl rfl (vl (ra (c := ((k + 1 : Nat) : Int)) rfl rfl rfl (by omega) (by omega) (by omega)) rfl (a_ rfl rfl (en (lpe (s := k) (k + 1) [2, 2, 2, 2] ⟨by omega, idx_step (p := fun t => (modelAt notes t).any (fun q => decide (p = q))) hinv m18 (Bool.eq_false_iff.2 h26)⟩ (by omega) ⟨rfl, rfl, rfl, rfl, trivial⟩ rfl)))))))))
    · refine cf rfl (decide_eq_false h11) (xt (xq (xq (xb (nx (sq (rg (a_ rfl rfl (en (nx (rt (ret1 rfl rfl (fun w_ hs_ => ⟨?_, hs_.below⟩)))))))))))))
      exact rb (by have z := any_none (p := fun t => (modelAt notes t).any (fun q => decide (p = q))) hinv (by omega); grind [wasIn])
  · refine ct rfl (bne_iff_ne.2 h2) (sq (rg (a_ rfl rfl (en (nx (rt (xr (ret1 rfl rfl (fun w_ hs_ => ⟨?_, hs_.below⟩)))))))))
    exact rb (by grind [wasIn])
/-! slices.IndexFunc[[][]impl.Pair,[]impl.Pair] -/
set_option maxRecDepth 20000 in
set_option maxHeartbeats 2000000 in
theorem slices_IndexFunc_impl_Pair_impl_Pair_x (w : World) (p : (List Pair) → Bool) {fp : FuncId} {cfp : List Value} (hEp : enters Tryz.prog fp = true) {As : Option Addr} {cs : Nat} {s : List (List Pair)} {ss_ : List Nat} (hs : (Kd.sl (Kd.sl kPairS)).Rel w [.slice As s.length cs] s [] ss_) (hfp : ∀ (w1 : World) (x0 : List Pair), x0 ∈ s → Below w.heap.size w w1 → ∀ (A0_0 : Option Addr) (c0_0 : Nat), ∀ s0_ : List Nat, (Kd.sl kPairS).Rel w1 [.slice A0_0 x0.length c0_0] x0 [] s0_ → Calls Tryz.prog fp (([.slice A0_0 x0.length c0_0] : List Value) ++ cfp).toArray w1 (fun e_ w2_ => e_ = .returned (.bool (p x0)) ∧ Below w1.heap.size w1 w2_))  : Calls Tryz.prog 97 #[.slice As s.length cs, .func (.func fp) #[] cfp.toArray] w (fun e_ w2_ => e_ = .returned (.int .i64 (idx p s)) ∧ Below w.heap.size w w2_) := by
  have Ls := Kd.sl_len hs; have Cs := Kd.sl_cap hs
  refine fnc (X := X3 19 w) (args := [.slice As s.length cs, .func (.func fp) #[] cfp.toArray]) (l := [(0, .slice As s.length cs), (1, .func (.func fp) #[] cfp.toArray)]) (G := [dat (Kd.sl (Kd.sl kPairS)) [.slice As s.length cs] s ([]) ss_]) Tryz.func97 rfl rfl rfl ⟨rfl, rfl, trivial⟩ (s0d hs (s0n w)).1 ?_
  refine sq (rg (a_ rfl rfl (en (nx (sq (sq (rg (m_ rfl rfl (vl (ln rfl rfl rfl) rfl (m_ rfl rfl (en (nx (bk ?_)))))))))))))
  refine lp (σ := Nat) (fun k : Nat => [(0, .slice As s.length cs), (1, .func (.func fp) #[] cfp.toArray), (7, .int .i64 ((s.length : Nat) : Int)), (8, .int .i64 ((k : Nat) : Int))])
      (fun k : Nat => [dat (Kd.sl (Kd.sl kPairS)) [.slice As s.length cs] s ([]) ss_])
      (fun k : Nat => k ≤ s.length ∧ ∀ j x, j < k → s[j]? = some x → p x = false) (fun k : Nat => s.length - k) 0 [0] ⟨Nat.zero_le _, by simp⟩ ⟨rfl, rfl, rfl, rfl, trivial⟩ rfl ?_
  intro k hp_
  obtain ⟨hk, hinv⟩ := hp_
  refine sq (rg (vl (cm rfl rfl rfl rfl) rfl (en (nx (sq ?_)))))
  by_cases h1 : ((k : Nat) : Int) < ((s.length : Nat) : Int)
  · refine ct rfl (decide_eq_true h1) (sk (nx (sq (bk (sq (rg (m_ rfl rfl (a_ rfl rfl (en (nx (sq (rg (m_ rfl rfl (m_ rfl rfl (m_ rfl rfl ?_)))))))))))))))
    refine gx 0 k rfl (by omega) fun y7 p2 cs_ s3 w6 m8 e4 r5 us3 => ?_
    obtain ⟨-, A9, c10, rfl, -⟩ := r5
    refine vl (ix k e4 rfl rfl rfl rfl rfl (by omega)) rfl (vl (ldq (u := .slice A9 y7.length c10) 0 rfl rfl rfl rfl rfl rfl rfl) rfl ?_)
    refine gp 0 Kd.Sub.rfl rfl (cs' := [.slice A9 y7.length c10]) rfl fun s11 w_ rs11 us11 => ?_
    have Ls11 := Kd.sl_len rs11; have Cs11 := Kd.sl_cap rs11
    refine cv_ (v := .bool (p y7)) hEp rfl rfl rfl rfl (fun w_ hs_ => hfp w_ y7 (List.mem_of_getElem? m8) hs_.below _ _ _ (hs_.at 0 rfl)) (en (nx ?_))
    by_cases h12 : p y7 = true
    · refine ct rfl h12 (sq (rg (m_ rfl rfl (a_ rfl rfl (en (nx (rt (xrb (xr (xr (xrb (xr (ret1 rfl rfl (fun w_ hs_ => ⟨?_, hs_.below⟩))))))))))))))
      rw [idx_some hinv m8 h12]
    · exact cf rfl (Bool.eq_false_iff.2 h12) (sk (xn (nx (rg (vl (ra (c := ((k + 1 : Nat) : Int)) rfl rfl rfl (by omega) (by omega) (by omega)) rfl (m_ rfl rfl (en (lpe (s := k) (k + 1) [2] ⟨by omega, idx_step hinv m8 (Bool.eq_false_iff.2 h12)⟩ (by omega) ⟨rfl, rfl, rfl, rfl, trivial⟩ rfl))))))))
  · refine cf rfl (decide_eq_false h1) (xt (xq (xq (xb (nx (sq (rg (a_ rfl rfl (en (nx (rt (ret1 rfl rfl (fun w_ hs_ => ⟨?_, hs_.below⟩)))))))))))))
    rw [idx_none hinv (by omega)]
/-! slices.ContainsFunc[[][]impl.Pair,[]impl.Pair] -/
set_option maxRecDepth 20000 in
set_option maxHeartbeats 2000000 in
theorem slices_ContainsFunc_impl_Pair_impl_Pair_x (w : World) (p : (List Pair) → Bool) {fp : FuncId} {cfp : List Value} (hEp : enters Tryz.prog fp = true) {As : Option Addr} {cs : Nat} {s : List (List Pair)} {ss_ : List Nat} (hs : (Kd.sl (Kd.sl kPairS)).Rel w [.slice As s.length cs] s [] ss_) (hfp : ∀ (w1 : World) (x0 : List Pair), x0 ∈ s → Below w.heap.size w w1 → ∀ (A0_0 : Option Addr) (c0_0 : Nat), ∀ s0_ : List Nat, (Kd.sl kPairS).Rel w1 [.slice A0_0 x0.length c0_0] x0 [] s0_ → Calls Tryz.prog fp (([.slice A0_0 x0.length c0_0] : List Value) ++ cfp).toArray w1 (fun e_ w2_ => e_ = .returned (.bool (p x0)) ∧ Below w1.heap.size w1 w2_))  : Calls Tryz.prog 57 #[.slice As s.length cs, .func (.func fp) #[] cfp.toArray] w (fun e_ w2_ => e_ = .returned (.bool (List.any s p)) ∧ Below w.heap.size w w2_) := by
  have Ls := Kd.sl_len hs; have Cs := Kd.sl_cap hs
  refine fnc (X := X3 9 w) (args := [.slice As s.length cs, .func (.func fp) #[] cfp.toArray]) (l := [(0, .slice As s.length cs), (1, .func (.func fp) #[] cfp.toArray)]) (G := [dat (Kd.sl (Kd.sl kPairS)) [.slice As s.length cs] s ([]) ss_]) Tryz.func57 rfl rfl rfl ⟨rfl, rfl, trivial⟩ (s0d hs (s0n w)).1 ?_
  refine sq (rg (a_ rfl rfl (en (nx (sq (rg (m_ rfl rfl (m_ rfl rfl (cs_ (v := .int .i64 (idx p s)) (by kernel_rfl) rfl rfl rfl (fun w_ hs_ => slices_IndexFunc_impl_Pair_impl_Pair_x w_ p hEp (hs_.at 0 rfl) (fun w1 x0 m0_ b_ => hfp w1 x0 m0_ (hs_.below.trans (b_.mono hs_.below.size)))) (vl (cm rfl rfl rfl rfl) rfl (a_ rfl rfl (en (nx (rt (ret1 rfl rfl (fun w_ hs_ => ⟨?_, hs_.below⟩))))))))))))))))
  rw [idx_ge]
/-! impl.wasIn$1 -/
set_option maxRecDepth 20000 in
set_option maxHeartbeats 2000000 in
theorem impl_wasIn_1 (w : World) {Alist : Option Addr} {clist : Nat} {list : List Pair} {slist_ : List Nat} (hlist : (Kd.sl kPairS).Rel w [.slice Alist list.length clist] list [] slist_) {Ap1 : Option Addr} {cp1 : Nat} {Ap2 : Option Addr} {cp2 : Nat} {p : Pair} {sp_ : List Nat} {pp : Addr} (hp : (ptr kPairS pp [.int .i64 p.id, .slice Ap1 p.rect.low.length cp1, .slice Ap2 p.rect.high.length cp2] p sp_).P w)  : Calls Tryz.prog 142 #[.slice Alist list.length clist, .pointer (some pp)] w (fun e_ w2_ => e_ = .returned (.bool (List.any list (fun (x0 : Pair) => decide (p = x0)))) ∧ Below w.heap.size w w2_) := by
  have Llist := Kd.sl_len hlist; have Clist := Kd.sl_cap hlist
  refine fnc (X := X3 7 w) (args := [.slice Alist list.length clist, .pointer (some pp)]) (l := [(0, .slice Alist list.length clist), (1, .pointer (some pp))]) (G := [ptr kPairS pp [.int .i64 p.id, .slice Ap1 p.rect.low.length cp1, .slice Ap2 p.rect.high.length cp2] p sp_, dat (Kd.sl kPairS) [.slice Alist list.length clist] list ([]) slist_]) Tryz.func142 rfl rfl rfl ⟨rfl, rfl, trivial⟩ (s0p hp (s0d hlist (s0n w))).1 ?_
  refine sq (rg (a_ rfl rfl (en (nx (sq (rg (m_ rfl rfl (vl (ldq 0 rfl rfl rfl rfl rfl rfl rfl) rfl ?_))))))))
  refine gp 0 Kd.Sub.rfl rfl (cs' := [.int .i64 p.id, .slice Ap1 p.rect.low.length cp1, .slice Ap2 p.rect.high.length cp2]) rfl fun s1 w_ rs1 us1 => ?_
  refine cs_ (v := .bool (List.any list (fun (x0 : Pair) => decide (p = x0)))) (by kernel_rfl) rfl rfl rfl (fun w_ hs_ => impl_hasPairIn w_ (hs_.at 2 rfl) (hs_.at 0 rfl)) (a_ rfl rfl (en (nx (rt (ret1 rfl rfl (fun w_ hs_ => ⟨?_, hs_.below⟩))))))
  rfl
/-! impl.wasIn -/
set_option maxRecDepth 20000 in
set_option maxHeartbeats 2000000 in
theorem impl_wasIn (w : World) {Amodels : Option Addr} {cmodels : Nat} {models : List (List Pair)} {smodels_ : List Nat} (hmodels : (Kd.sl (Kd.sl kPairS)).Rel w [.slice Amodels models.length cmodels] models [] smodels_) {Ap1 : Option Addr} {cp1 : Nat} {Ap2 : Option Addr} {cp2 : Nat} {p : Pair} {sp_ : List Nat} (hp : kPairS.Rel w [.int .i64 p.id, .slice Ap1 p.rect.low.length cp1, .slice Ap2 p.rect.high.length cp2] p [] sp_)  : Calls Tryz.prog 117 #[.slice Amodels models.length cmodels, .agg #[.int .i64 p.id, .slice Ap1 p.rect.low.length cp1, .slice Ap2 p.rect.high.length cp2]] w (fun e_ w2_ => e_ = .returned (.bool (List.any models (fun (x0 : List Pair) => List.any x0 (fun (x0 : Pair) => decide (p = x0))))) ∧ Below w.heap.size w w2_) := by
  have Lmodels := Kd.sl_len hmodels; have Cmodels := Kd.sl_cap hmodels
  refine fnc (X := X3 8 w) (args := [.slice Amodels models.length cmodels, .agg #[.int .i64 p.id, .slice Ap1 p.rect.low.length cp1, .slice Ap2 p.rect.high.length cp2]]) (l := [(0, .slice Amodels models.length cmodels), (1, .agg #[.int .i64 p.id, .slice Ap1 p.rect.low.length cp1, .slice Ap2 p.rect.high.length cp2])]) (G := [dat kPairS [.int .i64 p.id, .slice Ap1 p.rect.low.length cp1, .slice Ap2 p.rect.high.length cp2] p ([]) sp_, dat (Kd.sl (Kd.sl kPairS)) [.slice Amodels models.length cmodels] models ([]) smodels_]) Tryz.func117 rfl rfl rfl ⟨rfl, rfl, trivial⟩ (s0d hp (s0d hmodels (s0n w))).1 ?_
  refine sq (rg (bx rfl rfl rfl rfl ?_))
  intro b1
  refine a_ rfl rfl (en (nx (sq (rg (m_ rfl rfl (vl (mf rfl rfl rfl) rfl (cs_ (v := .bool (List.any models (fun (x0 : List Pair) => List.any x0 (fun (x0 : Pair) => decide (p = x0))))) (by kernel_rfl) rfl rfl rfl (fun w_ hs_ => slices_ContainsFunc_impl_Pair_impl_Pair_x w_ (fun (x0 : List Pair) => List.any x0 (fun (x0 : Pair) => decide (p = x0))) (by kernel_rfl) (hs_.at 2 rfl) (fun w1 x0 m0_ b_ _ _ _ r0_ => impl_wasIn_1 w1  r0_ (ptr_blk ((hs_.step b_).at 0 rfl) ((hs_.step b_).at 1 rfl) rfl))) (a_ rfl rfl (en (nx (rt (ret1 rfl rfl (fun w_ hs_ => ⟨?_, hs_.below⟩)))))))))))))
  rfl
end Go.Proofs.YtkdiaknbndmajaaGreat.Sx
