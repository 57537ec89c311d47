/- What functions of the program answer, each at every input that its row names; walked through their code. -/
import Derived.Test.YtfaflffdekoimaaGreatSy19
namespace Go.Proofs.YtfaflffdekoimaaGreat.Sx
open Go Go.RowKit Go.Proofs
set_option linter.unusedVariables false
set_option linter.unusedSimpArgs false
def tab20 : Tab := { size := [(2, 1, false), (23, 1, false), (91, 3, true)], off := [((48, 0), 0), ((48, 2), 3), ((48, 3), 4), ((91, 1), 1)], elem := [(35, 91)] }
theorem tab_ok20 : tab20.check Tryz.prog = true := by kernel_rfl
noncomputable abbrev X20 (N : Nat) (w : World) : Cx := ⟨Tryz.prog, tab20, tab_ok20, wide, N, w, none, []⟩

def Sorted (l : List Pair) : Prop := l.Pairwise (fun a b => a.id < b.id)


theorem pair_fit {p : Pair} {d : Int} (h : pairFault p d = 0) (hd : isDims d = true) : FitR d.toNat p.rect := by
  unfold pairFault at h
  split at h
  · exact rect_fit h hd
  · cases h
theorem fit_sz {d : Nat} {r : Rect} (h : FitR d r) (hd : d ≤ 3) : szRect r ≤ 6 := by
  have h1 := h.lo; have h2 := h.hi
  unfold szRect; omega
/-! the pairs that stay, time by time -/
theorem risesP_sorted {l : List Pair} (h : risesP l = true) : Sorted l := by
  unfold risesP at h
  have h1 : adj (fun a b : Pair => decide (b.id ≤ a.id)) l = false := by simpa using h
  unfold Sorted
  clear h
  induction l with
  | nil => exact .nil
  | cons a l ih =>
    cases l with
    | nil => exact List.pairwise_singleton _ _
    | cons b l =>
      have h2 : decide (b.id ≤ a.id) = false := Bool.eq_false_iff.2 fun hc => by
        have := adj_t (r := fun a b : Pair => decide (b.id ≤ a.id)) (xs := a :: b :: l) (k := 0) rfl rfl hc
        rw [h1] at this; cases this
      have h3 : adj (fun a b : Pair => decide (b.id ≤ a.id)) (b :: l) = false := Bool.eq_false_iff.2 fun hc => by
        have : adj (fun a b : Pair => decide (b.id ≤ a.id)) (a :: b :: l) = true := by simp only [adj, hc, Bool.or_true]
        rw [h1] at this; cases this
      have h4 := ih h3
      refine List.pairwise_cons.2 ⟨fun x hx => ?_, h4⟩
      have h5 : a.id < b.id := by simpa using h2
      rcases List.mem_cons.1 hx with rfl | hx
      · exact h5
      · have := (List.pairwise_cons.1 h4).1 x hx; omega

/-! what is answered -/
def nearIns (p : List Int) (out : List Pair) (x : Pair) : List Pair := out.takeWhile (fun a => nearerP p a x) ++ [x] ++ out.dropWhile (fun a => nearerP p a x)
def nearList (p : List Int) (l : List Pair) : List Pair := l.foldl (nearIns p) []
def hits (l : List Pair) (q : Query) : List Pair := l.filter (fun x => matchQ q x.rect)
def answerL (l : List Pair) (q : Query) : List Pair := if q.kind = 4 then (nearList q.point (hits l q)).take q.k.toNat else hits l q
def answerRes (l : List Pair) (d : Int) (q : Query) : PairsResult := if modelFault l d = 0 then if queryFault q d = 0 then ⟨0, answerL l q⟩ else ⟨queryFault q d, []⟩ else ⟨modelFault l d, []⟩
theorem while_at {α : Type} {f : α → Bool} : ∀ {l : List α} {k : Nat}, (∀ (j : Nat) (x : α), j < k → l[j]? = some x → f x = true) → (∀ x, l[k]? = some x → f x = false) → l.takeWhile f = l.take k ∧ l.dropWhile f = l.drop k
  | [], k, _, _ => by simp
  | a :: l, 0, _, h => by have := h a rfl; simp [this]
  | a :: l, k + 1, h1, h2 => by
    have h0 := h1 0 a (by omega) rfl
    have ih := while_at (l := l) (k := k) (fun j x hj hx => h1 (j + 1) x (by omega) (by simpa using hx)) (fun x hx => h2 x (by simpa using hx))
    simp [h0, ih.1, ih.2]
def nearUp (p : List Int) (list out : List Pair) (k i : Nat) : Prop := ∀ (j : Nat) (x y : Pair), j < k → out[j]? = some x → list[i]? = some y → nearerP p x y = true
theorem nearUp_0 {p : List Int} {list out : List Pair} {i : Nat} : nearUp p list out 0 i := fun j x y h => by omega
theorem nearUp_on {p : List Int} {list out : List Pair} {k i : Nat} {x y : Pair} (h : nearUp p list out k i) (hx : out[k]? = some x) (hy : list[i]? = some y) (hn : nearerP p x y = true) : nearUp p list out (k + 1) i := fun j a b hj ha hb => by
  rcases Nat.lt_succ_iff_lt_or_eq.1 hj with hlt | rfl
  · exact h j a b hlt ha hb
  · rw [hx] at ha; rw [hy] at hb; cases ha; cases hb; exact hn
theorem nearIns_end {p : List Int} {list out : List Pair} {k i : Nat} {y : Pair} (h : nearUp p list out k i) (hy : list[i]? = some y) (hk : out.length ≤ k) : nearIns p out y = out.take k ++ [y] ++ out.drop k := by
  have := while_at (f := fun a => nearerP p a y) (l := out) (k := k) (fun j x hj hx => h j x y hj hx hy) (fun x hx => by rw [List.getElem?_eq_none (by omega)] at hx; cases hx)
  unfold nearIns; rw [this.1, this.2]
theorem nearIns_at {p : List Int} {list out : List Pair} {k i : Nat} {x y : Pair} (h : nearUp p list out k i) (hy : list[i]? = some y) (hx : out[k]? = some x) (hn : ¬ nearerP p x y = true) : nearIns p out y = out.take k ++ [y] ++ out.drop k := by
  have := while_at (f := fun a => nearerP p a y) (l := out) (k := k) (fun j x hj hx => h j x y hj hx hy) (fun z hz => by rw [hx] at hz; cases hz; exact Bool.eq_false_iff.2 hn)
  unfold nearIns; rw [this.1, this.2]
theorem nearIns_perm (p : List Int) (out : List Pair) (x : Pair) : (nearIns p out x).Perm (x :: out) := by
  unfold nearIns
  have h1 : out.takeWhile (fun a => nearerP p a x) ++ out.dropWhile (fun a => nearerP p a x) = out := List.takeWhile_append_dropWhile
  have h2 := List.perm_middle (l₁ := out.takeWhile (fun a => nearerP p a x)) (l₂ := out.dropWhile (fun a => nearerP p a x)) (a := x)
  rw [h1] at h2
  simpa using h2
theorem nearList_snoc {p : List Int} {l : List Pair} {k : Nat} {y : Pair} (hy : l[k]? = some y) : nearIns p (nearList p (l.take k)) y = nearList p (l.take (k + 1)) := by
  unfold nearList; rw [take_snoc hy, List.foldl_append]; rfl
theorem nearFold_perm (p : List Int) : ∀ (l out : List Pair), (l.foldl (nearIns p) out).Perm (out ++ l)
  | [], out => by simp
  | x :: l, out => by
    rw [List.foldl_cons]
    refine (nearFold_perm p l _).trans ?_
    refine ((nearIns_perm p out x).append_right l).trans ?_
    exact (List.perm_middle (l₁ := out) (l₂ := l) (a := x)).symm
theorem nearList_perm (p : List Int) (l : List Pair) : (nearList p l).Perm l := by simpa [nearList] using nearFold_perm p l []
theorem nearList_len (p : List Int) (l : List Pair) : (nearList p l).length = l.length := (nearList_perm p l).length_eq
theorem near_tri {p : List Int} {a b c : Pair} (h1 : nearerP p a b = true) (h2 : nearerP p b c = true) : nearerP p a c = true := by
  unfold nearerP at *; simp only [Bool.or_eq_true, Bool.and_eq_true, decide_eq_true_eq, beq_iff_eq] at *; omega
theorem near_asym {p : List Int} {a b : Pair} (h1 : nearerP p a b = true) : nearerP p b a = false := by
  rw [Bool.eq_false_iff]; intro h2; unfold nearerP at *; simp only [Bool.or_eq_true, Bool.and_eq_true, decide_eq_true_eq, beq_iff_eq] at *; omega
theorem near_le {p : List Int} {a b c : Pair} (h1 : nearerP p b a = false) (h2 : nearerP p c b = false) : nearerP p c a = false := by
  rw [Bool.eq_false_iff] at *; unfold nearerP at *; simp only [Bool.or_eq_true, Bool.and_eq_true, decide_eq_true_eq, beq_iff_eq, ne_eq] at *; omega
/-- Nobody stands behind somebody farther. -/
def nearSorted (p : List Int) (l : List Pair) : Prop := l.Pairwise (fun a b => nearerP p b a = false)
theorem nearIns_sorted {p : List Int} {x : Pair} : ∀ {out : List Pair}, nearSorted p out → nearSorted p (nearIns p out x)
  | [], _ => by simp [nearIns, nearSorted]
  | a :: l, h => by
    obtain ⟨h1, h2⟩ := List.pairwise_cons.1 h
    by_cases hn : nearerP p a x = true
    · have ih : nearSorted p (nearIns p l x) := nearIns_sorted h2
      have e : nearIns p (a :: l) x = a :: nearIns p l x := by unfold nearIns; simp [hn]
      rw [e]
      refine List.pairwise_cons.2 ⟨fun b hb => ?_, ih⟩
      rcases List.mem_cons.1 ((nearIns_perm p l x).mem_iff.1 hb) with rfl | hb
      · exact near_asym hn
      · exact h1 b hb
    · have hf : nearerP p a x = false := Bool.eq_false_iff.2 hn
      have e : nearIns p (a :: l) x = x :: a :: l := by unfold nearIns; simp [hf]
      rw [e]
      refine List.pairwise_cons.2 ⟨fun b hb => ?_, h⟩
      rcases List.mem_cons.1 hb with rfl | hb
      · exact hf
      · exact near_le hf (h1 b hb)
theorem nearList_sorted (p : List Int) (l : List Pair) : nearSorted p (nearList p l) := by
  unfold nearList
  have : ∀ (l out : List Pair), nearSorted p out → nearSorted p (l.foldl (nearIns p) out) := by
    intro l
    induction l with
    | nil => intro out h; exact h
    | cons x l ih => intro out h; exact ih _ (nearIns_sorted h)
  exact this l [] .nil
theorem near_one {p : List Int} {a b : Pair} (h1 : nearerP p a b = false) (h2 : nearerP p b a = false) : a.id = b.id := by
  rw [Bool.eq_false_iff] at *; unfold nearerP at *; simp only [Bool.or_eq_true, Bool.and_eq_true, decide_eq_true_eq, beq_iff_eq, ne_eq] at *; omega
theorem ltOf_near (p : List Int) (a b : Pair) : decide (nearC p a b < 0) = nearerP p a b := by
  have h := nearC_ge (p := p) (a := a) (b := b)
  cases hn : nearerP p a b <;> simp [hn] at h ⊢ <;> omega
/-- The one order of pairs whose numbers are apart. -/
theorem sort_near {p : List Int} {l : List Pair} (hu : ∀ x ∈ l, ∀ y ∈ l, x.id = y.id → x = y) : l.mergeSort (fun x y => !nearerP p y x) = nearList p l := by
  have hs : (l.mergeSort (fun x y => !nearerP p y x)).Pairwise (fun a b => (!nearerP p b a) = true) := List.pairwise_mergeSort (fun a b c h1 h2 => by simp at *; exact near_le h1 h2) (fun a b => by
    cases h : nearerP p b a
    · simp
    · simp [near_asym h]) l
  have hp := List.mergeSort_perm l (fun x y => !nearerP p y x)
  refine List.Perm.eq_of_pairwise (le := fun a b => nearerP p b a = false) (fun a b ha hb h1 h2 => ?_) (hs.imp (fun h => by simpa using h)) (nearList_sorted p l) (hp.trans (nearList_perm p l).symm)
  exact hu a (hp.mem_iff.1 ha) b ((nearList_perm p l).mem_iff.1 hb) (near_one h2 h1)
theorem near_mem {p : List Int} {l : List Pair} {x : Pair} (h : x ∈ nearList p l) : x ∈ l := (nearList_perm p l).mem_iff.1 h
theorem in_out {list out : List Pair} {k : Nat} {f : Pair → Bool} (h : out = (list.take k).filter f) {x : Pair} (hx : x ∈ out) : x ∈ list := by
  rw [h] at hx; exact List.mem_of_mem_take (List.mem_filter.1 hx).1
theorem out_len {list out : List Pair} {k : Nat} {f : Pair → Bool} (h : out = (list.take k).filter f) : out.length ≤ list.length := by
  rw [h]; exact Nat.le_trans (List.length_filter_le _ _) (by rw [List.length_take]; omega)
theorem out_y {list out : List Pair} {k : Nat} {f : Pair → Bool} {y : Pair} (h : out = (list.take k).filter f) (hy : list[k]? = some y) (hq : f y = true) : out ++ [y] = (list.take (k + 1)).filter f := by
  rw [take_snoc hy, List.filter_append, ← h]; simp [hq]
theorem out_n {list out : List Pair} {k : Nat} {f : Pair → Bool} {y : Pair} (h : out = (list.take k).filter f) (hy : list[k]? = some y) (hq : ¬ f y = true) : out = (list.take (k + 1)).filter f := by
  rw [take_snoc hy, List.filter_append, ← h]; simp [hq]
theorem out_hits {list out : List Pair} {k : Nat} {q : Query} (h : out = (list.take k).filter (fun x => matchQ q x.rect)) (hk : list.length ≤ k) : out = hits list q := by
  rw [h, List.take_of_length_le hk]; rfl
theorem ans_far {list out : List Pair} {k : Nat} {q : Query} (h : out = (list.take k).filter (fun x => matchQ q x.rect)) (hk : list.length ≤ k) (h4 : ¬ q.kind = 4) : out = answerL list q := by
  unfold answerL; rw [if_neg h4]; exact out_hits h hk
theorem ans_all {list out : List Pair} {k : Nat} {q : Query} (h : out = (list.take k).filter (fun x => matchQ q x.rect)) (hk : list.length ≤ k) (h4 : q.kind = 4) (hn : ¬ q.k < ((nearList q.point out).length : Int)) : nearList q.point out = answerL list q := by
  unfold answerL; rw [if_pos h4, ← out_hits h hk, List.take_of_length_le (by omega)]
theorem ans_cut {list out : List Pair} {k : Nat} {q : Query} (h : out = (list.take k).filter (fun x => matchQ q x.rect)) (hk : list.length ≤ k) (h4 : q.kind = 4) : (nearList q.point out).take q.k.toNat = answerL list q := by
  unfold answerL; rw [if_pos h4, ← out_hits h hk]

/-! spec.l2Near -/
set_option maxRecDepth 20000 in
set_option maxHeartbeats 2000000 in
theorem spec_l2Near (w : World) {Alist : Option Addr} {clist : Nat} {list : List Pair} {slist_ : List Nat} (hlist : (Kd.sl kPairS).Rel w [.slice Alist list.length clist] list [] slist_) {Apoint : Option Addr} {cpoint : Nat} {point : List Int} {spoint_ : List Nat} (hpoint : (Kd.sl Kd.i64).Rel w [.slice Apoint point.length cpoint] point [] spoint_) {d : Nat} (hd : d ≤ 3) (yFl : ∀ x ∈ list, FitR d x.rect) (yFp : FitP d point) (hz : list.length ≤ 1000) : Calls Tryz.prog 50 #[.slice Alist list.length clist, .slice Apoint point.length cpoint] w (Made (Kd.sl kPairS) w (nearList point list) (slist_)) := by
  have Llist := Kd.sl_len hlist; have Clist := Kd.sl_cap hlist
  have Lpoint := Kd.sl_len hpoint; have Cpoint := Kd.sl_cap hpoint
  have hw0 : (0 : Nat) = 0 := rfl
  refine fnc (X := X20 50 w) (args := [.slice Alist list.length clist, .slice Apoint point.length cpoint]) (l := [(0, .slice Alist list.length clist), (1, .slice Apoint point.length cpoint)]) (G := [dat (Kd.sl Kd.i64) [.slice Apoint point.length cpoint] point ([]) spoint_, dat (Kd.sl kPairS) [.slice Alist list.length clist] list ([]) slist_]) Tryz.func50 rfl rfl rfl ⟨rfl, rfl, trivial⟩ (s0d hpoint (s0d hlist (s0n w))).1 ?_
  refine sq (rg (a_ rfl rfl (en (nx (sq (rg (bs0 (dk := kPairS) rfl info91 rfl rfl ?_)))))))
  intro b1
  refine a_ rfl rfl (en (nx (sq (sq (rg (a_ rfl rfl (en (nx (bk (gl (Kd.Seals.row kPairS_self _) (fun s2 us2 => ?_)))))))))))
  refine lp (σ := Nat × List Pair × Option Addr × Nat × List Nat) (fun z_ : Nat × List Pair × Option Addr × Nat × List Nat => match z_ with | (k, out1, A_out1, c_out1, s_out1) => [(0, .slice Alist list.length clist), (1, .slice Apoint point.length cpoint), (5, .slice A_out1 out1.length c_out1), (6, .int .i64 ((k : Nat) : Int))])
      (fun z_ : Nat × List Pair × Option Addr × Nat × List Nat => match z_ with | (k, out1, A_out1, c_out1, s_out1) => [dat (Kd.sl kPairS) [.slice A_out1 out1.length c_out1] out1 ([]) s_out1, dat (Kd.sl Kd.i64) [.slice Apoint point.length cpoint] point ([]) spoint_, dat (Kd.sl kPairS) [.slice Alist list.length clist] list ([]) slist_])
      (fun z_ : Nat × List Pair × Option Addr × Nat × List Nat => match z_ with | (k, out1, A_out1, c_out1, s_out1) => (k ≤ list.length ∧ out1 = nearList point (list.take k) ∧ out1.length = k ∧ out1.length ≤ c_out1) ∧ (∀ q ∈ s_out1, q ∈ slist_ ∨ w.heap.size ≤ q)) (fun z_ : Nat × List Pair × Option Addr × Nat × List Nat => match z_ with | (k, out1, A_out1, c_out1, s_out1) => list.length - k) (0, [], (some ⟨b1, 0, none⟩), 0, s2) [0, 0, 0] ⟨⟨Nat.zero_le _, rfl, rfl, Nat.le_refl _⟩, by grind⟩ ⟨rfl, rfl, rfl, rfl, trivial⟩ rfl ?_
  rintro ⟨k, out1, A_out1, c_out1, s_out1⟩ hp_
  obtain ⟨hinv1, hsee1out1⟩ := hp_
  refine sq (sq (rg (m_ rfl rfl (m_ rfl rfl (vl (ln rfl rfl rfl) rfl (vl (cm rfl rfl rfl rfl) rfl (en (nx ?_))))))))
  by_cases h3 : ((k : Nat) : Int) < ((list.length : Nat) : Int)
  · refine ct rfl (decide_eq_true h3) (sk (nx (sq (bk (sq (rg (a_ rfl rfl (en (nx (sq (bk ?_)))))))))))
    refine lp (σ := Nat) (fun z_ : Nat => match z_ with | k2 => [(0, .slice Alist list.length clist), (1, .slice Apoint point.length cpoint), (5, .slice A_out1 out1.length c_out1), (6, .int .i64 ((k : Nat) : Int)), (7, .int .i64 ((k2 : Nat) : Int))])
        (fun z_ : Nat => match z_ with | k2 => [dat (Kd.sl kPairS) [.slice A_out1 out1.length c_out1] out1 ([]) s_out1, dat (Kd.sl Kd.i64) [.slice Apoint point.length cpoint] point ([]) spoint_, dat (Kd.sl kPairS) [.slice Alist list.length clist] list ([]) slist_])
        (fun z_ : Nat => match z_ with | k2 => (k2 ≤ out1.length ∧ nearUp point list out1 k2 k)) (fun z_ : Nat => match z_ with | k2 => out1.length - k2) (0) [0, 0, 0] ⟨Nat.zero_le _, nearUp_0⟩ ⟨rfl, rfl, rfl, rfl, rfl, trivial⟩ rfl ?_
    rintro k2 hp_
    have hinv2 := hp_
    refine sq (sq ?_)
    by_cases h4 : ((k2 : Nat) : Int) < ((out1.length : Nat) : Int)
    · refine gx 0 k2 rfl (by omega) fun y10 p5 cs_ s6 w9 m11 e7 r8 us6 => ?_
      obtain ⟨A12, c13, A14, c15, rfl⟩ := kPairS_sh r8
      refine gx 3 k rfl (by omega) fun y21 p16 cs_ s17 w20 m22 e18 r19 us17 => ?_
      obtain ⟨A23, c24, A25, c26, rfl⟩ := kPairS_sh r19
      refine r0 (qv 0 rfl (mv rfl rfl) rfl (by kernel_rfl) (qv 1 rfl (mv rfl rfl) rfl (by kernel_rfl) (qv 2 rfl (ln rfl rfl rfl) rfl (by kernel_rfl) (qv 3 rfl (cm rfl rfl rfl rfl) rfl (by kernel_rfl) (qv 4 rfl (mv rfl rfl) rfl (by kernel_rfl) (qg 5 rfl (mv rfl rfl) rfl rfl (decide_eq_true h4) (by kernel_rfl) (qg 6 rfl (mv rfl rfl) rfl rfl (decide_eq_true h4) (by kernel_rfl) (qg 7 rfl (mv rfl rfl) rfl rfl (decide_eq_true h4) (by kernel_rfl) (qg 8 rfl (ix k2 e7 rfl rfl rfl rfl rfl (by omega)) rfl rfl (decide_eq_true h4) (by kernel_rfl) (qg 9 rfl (mv rfl rfl) rfl rfl (decide_eq_true h4) (by kernel_rfl) (qg 10 rfl (mv rfl rfl) rfl rfl (decide_eq_true h4) (by kernel_rfl) (qg 11 rfl (ix k e18 rfl rfl rfl rfl rfl (by omega)) rfl rfl (decide_eq_true h4) (by kernel_rfl) (q1 12 [0, 0, 0, 0, 0] rfl (by kernel_rfl) rfl (gw rfl rfl (decide_eq_true h4) (cs_ (v := .bool (nearerP point y10 y21)) (by kernel_rfl) rfl rfl rfl (fun w_ hs_ => by exact spec_l2Nearer w_ (hs_.at 3 rfl) (hs_.at 1 rfl) (hs_.at 0 rfl) hd (yFl _ (by have z : out1.Perm (list.take k) := (by rw [hinv1.2.1]; exact nearList_perm _ _); exact List.mem_of_mem_take (z.mem_iff.1 (List.mem_of_getElem? m11)))) (yFl _ (List.mem_of_getElem? m22)) yFp) (qn (qv 13 rfl (pk (b := true) rfl rfl (decide_eq_true h4) rfl) rfl (by kernel_rfl) (qe [0, 0, 0, 0, 0] (by kernel_rfl) rfl (nx ?_)))))))))))))))))))
      by_cases h27 : nearerP point y10 y21 = true
      · refine ct rfl h27 (sk (nx (bk (rg (m_ rfl rfl (vl (ra (c := ((k2 + 1 : Nat) : Int)) rfl rfl rfl (by omega) (by omega) (by omega)) rfl (a_ rfl rfl (en (xn ?_)))))))))
        exact lpe (s := k2) (k2 + 1) [2, 2, 2] ⟨by omega, nearUp_on hinv2.2 m11 m22 h27⟩ (by show out1.length - (k2 + 1) < out1.length - k2; omega) ⟨rfl, rfl, rfl, rfl, rfl, trivial⟩ rfl
      · refine cf rfl (Bool.eq_false_iff.2 h27) (xt (xq (xq (xb (nx (sq (rg (bs0 (dk := kPairS) rfl info91 rfl rfl ?_))))))))
        intro b28
        refine m_ rfl rfl (m_ rfl rfl (vl (evr (v' := .slice A_out1 ((out1.take k2).length) c_out1) (shi (i := k2) rfl rfl rfl rfl rfl (by omega)) (sl_eq (by first | (simp; done) | (simp; omega)))) rfl ?_))
        refine gct 3 k2 rfl (by omega) fun s29 w_ rs29 us29 => ?_
        have Ls29 := Kd.sl_len rs29
        refine f1 (aps ([] ++ (out1.take k2)) rfl info91 rfl rfl (by decide) rfl rfl rfl rfl (by simp only [List.length_append, List.length_take, List.length_drop, List.length_cons, List.length_nil]; omega) (by simp only [List.length_append, List.length_take, List.length_drop, List.length_cons, List.length_nil]; omega) rfl (fun A30 c31 o32 s33 t34 => ?_))
        refine a_ rfl rfl (en (nx (sq (rg (m_ rfl rfl (m_ rfl rfl (m_ rfl rfl (vl (ix k e18 rfl rfl rfl rfl rfl (by omega)) rfl (vl (ldq 2 rfl rfl rfl rfl rfl rfl rfl) rfl ?_)))))))))
        refine gp 2 Kd.Sub.rfl rfl (cs' := [.int .i64 y21.id, .slice A23 y21.rect.low.length c24, .slice A25 y21.rect.high.length c26]) rfl fun s36 w_ rs36 us36 => ?_
        refine gd 0 Kd.Sub.rfl rfl (cs' := [.int .i64 y21.id, .slice A23 y21.rect.low.length c24, .slice A25 y21.rect.high.length c26]) rfl fun s37 w_ rs37 us37 => ?_
        refine bs1 (dk := kPairS) rfl info91 (by decide) rfl rfl rfl rfl ?_
        intro b35
        refine f2 (ap (([] ++ (out1.take k2)) ++ [y21]) rfl info91 rfl rfl (by decide) rfl rfl rfl rfl (by simp only [List.length_append, List.length_take, List.length_drop, List.length_cons, List.length_nil]; omega) (by simp only [List.length_append, List.length_take, List.length_drop, List.length_cons, List.length_nil]; omega) rfl (fun A38 c39 o40 s41 t42 => ?_))
        refine a_ rfl rfl (en (nx (rg (m_ rfl rfl (m_ rfl rfl (m_ rfl rfl (vl (evr (v' := .slice (if c_out1 = k2 then A_out1 else (A_out1 : Option Addr).map (·.add (k2 * 3))) ((out1.drop k2).length) (c_out1 - k2)) (slo (i := k2) rfl rfl rfl rfl rfl (by omega) (by omega)) (sl_eq (by simp))) rfl ?_)))))))
        refine gdr 5 k2 rfl (by omega) fun s43 w_ rs43 us43 => ?_
        have Ls43 := Kd.sl_len rs43
        refine f1 (aps ((([] ++ (out1.take k2)) ++ [y21]) ++ (out1.drop k2)) rfl info91 rfl rfl (by decide) rfl rfl rfl rfl (by simp only [List.length_append, List.length_take, List.length_drop, List.length_cons, List.length_nil]; omega) (by simp only [List.length_append, List.length_take, List.length_drop, List.length_cons, List.length_nil]; omega) rfl (fun A44 c45 o46 s47 t48 => ?_))
        refine a_ rfl rfl (en (xn (nx (rg (m_ rfl rfl (vl (ra (c := ((k + 1 : Nat) : Int)) rfl rfl rfl (by omega) (by omega) (by omega)) rfl (a_ rfl rfl (en (gl (Kd.Seals.row kPairS_self _) (fun s49 us49 => ?_))))))))))
        refine gd 0 Kd.Sub.rfl rfl (cs' := [.slice A44 (((([] ++ (out1.take k2)) ++ [y21]) ++ (out1.drop k2)).length) c45]) rfl fun s50 w_ rs50 us50 => ?_
        have Cs50 := Kd.sl_cap rs50
        exact lpe (s := (k, out1, A_out1, c_out1, s_out1)) (k + 1, ((([] ++ (out1.take k2)) ++ [y21]) ++ (out1.drop k2)), A44, c45, s50) [0, 7, 7] ⟨⟨by omega, by rw [← nearList_snoc m22, ← hinv1.2.1, nearIns_at hinv2.2 m22 m11 h27]; simp, by simp only [List.length_append, List.length_take, List.length_drop, List.length_cons, List.length_nil]; omega, by first | omega | (simp only [List.length_append, List.length_take, List.length_drop, List.length_cons, List.length_nil] at *; omega)⟩, by grind⟩ (by show list.length - (k + 1) < list.length - k; omega) ⟨rfl, rfl, rfl, rfl, trivial⟩ rfl
    · refine r0 (qv 0 rfl (mv rfl rfl) rfl (by kernel_rfl) (qv 1 rfl (mv rfl rfl) rfl (by kernel_rfl) (qv 2 rfl (ln rfl rfl rfl) rfl (by kernel_rfl) (qv 3 rfl (cm rfl rfl rfl rfl) rfl (by kernel_rfl) (qv 4 rfl (mv rfl rfl) rfl (by kernel_rfl) (qs 5 rfl rfl rfl (decide_eq_false h4) (by kernel_rfl) (qs 6 rfl rfl rfl (decide_eq_false h4) (by kernel_rfl) (qs 7 rfl rfl rfl (decide_eq_false h4) (by kernel_rfl) (qs 8 rfl rfl rfl (decide_eq_false h4) (by kernel_rfl) (qs 9 rfl rfl rfl (decide_eq_false h4) (by kernel_rfl) (qs 10 rfl rfl rfl (decide_eq_false h4) (by kernel_rfl) (qs 11 rfl rfl rfl (decide_eq_false h4) (by kernel_rfl) (qs 12 rfl rfl rfl (decide_eq_false h4) (by kernel_rfl) (qv 13 rfl (pk (b := false) rfl rfl (decide_eq_false h4) rfl) rfl (by kernel_rfl) (qe [0, 0, 0] (by kernel_rfl) rfl (nx (cf rfl rfl (xt (xq (xq (xb (nx (sq (rg (bs0 (dk := kPairS) rfl info91 rfl rfl ?_)))))))))))))))))))))))))
      intro b51
      refine m_ rfl rfl (m_ rfl rfl (vl (evr (v' := .slice A_out1 ((out1.take k2).length) c_out1) (shi (i := k2) rfl rfl rfl rfl rfl (by omega)) (sl_eq (by first | (simp; done) | (simp; omega)))) rfl ?_))
      refine gct 1 k2 rfl (by omega) fun s52 w_ rs52 us52 => ?_
      have Ls52 := Kd.sl_len rs52
      refine f1 (aps ([] ++ (out1.take k2)) rfl info91 rfl rfl (by decide) rfl rfl rfl rfl (by simp only [List.length_append, List.length_take, List.length_drop, List.length_cons, List.length_nil]; omega) (by simp only [List.length_append, List.length_take, List.length_drop, List.length_cons, List.length_nil]; omega) rfl (fun A53 c54 o55 s56 t57 => ?_))
      refine a_ rfl rfl (en (nx (sq (rg (m_ rfl rfl (m_ rfl rfl (m_ rfl rfl ?_)))))))
      refine gx 4 k rfl (by omega) fun y63 p58 cs_ s59 w62 m64 e60 r61 us59 => ?_
      obtain ⟨A65, c66, A67, c68, rfl⟩ := kPairS_sh r61
      refine vl (ix k e60 rfl rfl rfl rfl rfl (by omega)) rfl (vl (ldq 0 rfl rfl rfl rfl rfl rfl rfl) rfl ?_)
      refine gp 0 Kd.Sub.rfl rfl (cs' := [.int .i64 y63.id, .slice A65 y63.rect.low.length c66, .slice A67 y63.rect.high.length c68]) rfl fun s70 w_ rs70 us70 => ?_
      refine gd 0 Kd.Sub.rfl rfl (cs' := [.int .i64 y63.id, .slice A65 y63.rect.low.length c66, .slice A67 y63.rect.high.length c68]) rfl fun s71 w_ rs71 us71 => ?_
      refine bs1 (dk := kPairS) rfl info91 (by decide) rfl rfl rfl rfl ?_
      intro b69
      refine f3 (ap (([] ++ (out1.take k2)) ++ [y63]) rfl info91 rfl rfl (by decide) rfl rfl rfl rfl (by simp only [List.length_append, List.length_take, List.length_drop, List.length_cons, List.length_nil]; omega) (by simp only [List.length_append, List.length_take, List.length_drop, List.length_cons, List.length_nil]; omega) rfl (fun A72 c73 o74 s75 t76 => ?_))
      refine a_ rfl rfl (en (nx (rg (m_ rfl rfl (m_ rfl rfl (m_ rfl rfl (vl (evr (v' := .slice (if c_out1 = k2 then A_out1 else (A_out1 : Option Addr).map (·.add (k2 * 3))) ((out1.drop k2).length) (c_out1 - k2)) (slo (i := k2) rfl rfl rfl rfl rfl (by omega) (by omega)) (sl_eq (by simp))) rfl ?_)))))))
      refine gdr 4 k2 rfl (by omega) fun s77 w_ rs77 us77 => ?_
      have Ls77 := Kd.sl_len rs77
      refine f1 (aps ((([] ++ (out1.take k2)) ++ [y63]) ++ (out1.drop k2)) rfl info91 rfl rfl (by decide) rfl rfl rfl rfl (by simp only [List.length_append, List.length_take, List.length_drop, List.length_cons, List.length_nil]; omega) (by simp only [List.length_append, List.length_take, List.length_drop, List.length_cons, List.length_nil]; omega) rfl (fun A78 c79 o80 s81 t82 => ?_))
      refine a_ rfl rfl (en (xn (nx (rg (m_ rfl rfl (vl (ra (c := ((k + 1 : Nat) : Int)) rfl rfl rfl (by omega) (by omega) (by omega)) rfl (a_ rfl rfl (en (gl (Kd.Seals.row kPairS_self _) (fun s83 us83 => ?_))))))))))
      refine gd 0 Kd.Sub.rfl rfl (cs' := [.slice A78 (((([] ++ (out1.take k2)) ++ [y63]) ++ (out1.drop k2)).length) c79]) rfl fun s84 w_ rs84 us84 => ?_
      have Cs84 := Kd.sl_cap rs84
      exact lpe (s := (k, out1, A_out1, c_out1, s_out1)) (k + 1, ((([] ++ (out1.take k2)) ++ [y63]) ++ (out1.drop k2)), A78, c79, s84) [0, 6, 6] ⟨⟨by omega, by rw [← nearList_snoc m64, ← hinv1.2.1, nearIns_end hinv2.2 m64 (by omega)]; simp, by simp only [List.length_append, List.length_take, List.length_drop, List.length_cons, List.length_nil]; omega, by first | omega | (simp only [List.length_append, List.length_take, List.length_drop, List.length_cons, List.length_nil] at *; omega)⟩, by grind⟩ (by show list.length - (k + 1) < list.length - k; omega) ⟨rfl, rfl, rfl, rfl, trivial⟩ rfl
  · exact cf rfl (decide_eq_false h3) (xt (xq (xq (xb (nx (sq (rg (m_ rfl rfl (a_ rfl rfl (en (nx (rt (gr (nearList point list) (by rw [hinv1.2.1, List.take_of_length_le (by omega)]) (ret1 rfl rfl (fun w_ hs_ => made hs_ rfl (by grind))))))))))))))))
/-! spec.l2Answer -/
set_option maxRecDepth 20000 in
set_option maxHeartbeats 2000000 in
theorem spec_l2Answer (w : World) {Alist : Option Addr} {clist : Nat} {list : List Pair} {slist_ : List Nat} (hlist : (Kd.sl kPairS).Rel w [.slice Alist list.length clist] list [] slist_) {Aq1 : Option Addr} {cq1 : Nat} {Aq2 : Option Addr} {cq2 : Nat} {Aq3 : Option Addr} {cq3 : Nat} {q : Query} {sq_ : List Nat} {pq : Addr} (hq : (ptr kQueryS pq [.int .i64 q.kind, .slice Aq1 q.rect.low.length cq1, .slice Aq2 q.rect.high.length cq2, .slice Aq3 q.point.length cq3, .int .i64 q.k] q sq_).P w) {d : Nat} (hd : d ≤ 3) (yFl : ∀ x ∈ list, FitR d x.rect) (yFq : FitQ d q) (hz : list.length ≤ 60) (yFs : ∀ x ∈ list, szPair x ≤ 1048576) : Calls Tryz.prog 23 #[.slice Alist list.length clist, .pointer (some pq)] w (Made (Kd.row 91 kPairO) w (answerL list q) []) := by
  have Llist := Kd.sl_len hlist; have Clist := Kd.sl_cap hlist
  refine fnc (X := X20 53 w) (args := [.slice Alist list.length clist, .pointer (some pq)]) (l := [(0, .slice Alist list.length clist), (1, .pointer (some pq))]) (G := [ptr kQueryS pq [.int .i64 q.kind, .slice Aq1 q.rect.low.length cq1, .slice Aq2 q.rect.high.length cq2, .slice Aq3 q.point.length cq3, .int .i64 q.k] q sq_, dat (Kd.sl kPairS) [.slice Alist list.length clist] list ([]) slist_]) Tryz.func23 rfl rfl rfl ⟨rfl, rfl, trivial⟩ (s0p hq (s0d hlist (s0n w))).1 ?_
  refine sq (rg (a_ rfl rfl (en (nx (sq (rg (bs0 (dk := kPairS) rfl info91 rfl rfl ?_)))))))
  intro b1
  refine a_ rfl rfl (en (nx (sq (sq (rg (a_ rfl rfl (en (nx (bk ?_)))))))))
  refine lp (σ := Nat × List Pair × Option Addr × Nat × List Nat × List Nat) (fun z_ : Nat × List Pair × Option Addr × Nat × List Nat × List Nat => match z_ with | (k, out1, A_out1, c_out1, o_out1, s_out1) => [(0, .slice Alist list.length clist), (1, .pointer (some pq)), (5, .slice A_out1 out1.length c_out1), (6, .int .i64 ((k : Nat) : Int))])
      (fun z_ : Nat × List Pair × Option Addr × Nat × List Nat × List Nat => match z_ with | (k, out1, A_out1, c_out1, o_out1, s_out1) => [dat (Kd.row 91 kPairS) [.slice A_out1 out1.length c_out1] out1 o_out1 s_out1, ptr kQueryS pq [.int .i64 q.kind, .slice Aq1 q.rect.low.length cq1, .slice Aq2 q.rect.high.length cq2, .slice Aq3 q.point.length cq3, .int .i64 q.k] q sq_, dat (Kd.sl kPairS) [.slice Alist list.length clist] list ([]) slist_])
      (fun z_ : Nat × List Pair × Option Addr × Nat × List Nat × List Nat => match z_ with | (k, out1, A_out1, c_out1, o_out1, s_out1) => (k ≤ list.length ∧ out1 = (list.take k).filter (fun x => matchQ q x.rect)) ∧ (∀ q ∈ s_out1, q ∈ slist_ ∨ w.heap.size ≤ q)) (fun z_ : Nat × List Pair × Option Addr × Nat × List Nat × List Nat => match z_ with | (k, out1, A_out1, c_out1, o_out1, s_out1) => list.length - k) (0, [], (some ⟨b1, 0, none⟩), 0, [b1], []) [0, 0, 0] ⟨⟨Nat.zero_le _, rfl⟩, by grind⟩ ⟨rfl, rfl, rfl, rfl, trivial⟩ rfl ?_
  rintro ⟨k, out1, A_out1, c_out1, o_out1, s_out1⟩ hp_
  obtain ⟨hinv1, hsee1out1⟩ := hp_; have zo := out_len hinv1.2
  refine sq (sq (rg (m_ rfl rfl (m_ rfl rfl (vl (ln rfl rfl rfl) rfl (vl (cm rfl rfl rfl rfl) rfl (en (nx ?_))))))))
  by_cases h2 : ((k : Nat) : Int) < ((list.length : Nat) : Int)
  · refine ct rfl (decide_eq_true h2) (sk (nx (sq (bk (sq (rg (m_ rfl rfl (m_ rfl rfl (m_ rfl rfl ?_)))))))))
    refine gx 2 k rfl (by omega) fun y8 p3 cs_ s4 w7 m9 e5 r6 us4 => ?_
    obtain ⟨A10, c11, A12, c13, rfl⟩ := kPairS_sh r6
    refine vl (ix k e5 rfl rfl rfl rfl rfl (by omega)) rfl (vl (fa rfl rfl rfl) rfl ?_)
    refine gq 0 kPairS_p1_2 rfl (cs' := [.slice A10 y8.rect.low.length c11, .slice A12 y8.rect.high.length c13]) rfl fun s14 w_ rs14 us14 => ?_
    refine cs_ (v := .bool (matchQ q y8.rect)) (by kernel_rfl) rfl rfl rfl (fun w_ hs_ => spec_l2Matches w_ (hs_.at 3 rfl) (hs_.at 0 rfl) hd yFq (yFl _ (List.mem_of_getElem? m9))) (en (nx ?_))
    by_cases h15 : matchQ q y8.rect = true
    · refine ct rfl h15 (rg (m_ rfl rfl (m_ rfl rfl (m_ rfl rfl (vl (ix k e5 rfl rfl rfl rfl rfl (by omega)) rfl (vl (ldq 1 rfl rfl rfl rfl rfl rfl rfl) rfl ?_))))))
      refine gp 1 Kd.Sub.rfl rfl (cs' := [.int .i64 y8.id, .slice A10 y8.rect.low.length c11, .slice A12 y8.rect.high.length c13]) rfl fun s17 w_ rs17 us17 => ?_
      refine gd 0 Kd.Sub.rfl rfl (cs' := [.int .i64 y8.id, .slice A10 y8.rect.low.length c11, .slice A12 y8.rect.high.length c13]) rfl fun s18 w_ rs18 us18 => ?_
      refine bs1 (dk := kPairS) rfl info91 (by decide) rfl rfl rfl rfl ?_
      intro b16
      refine f4 (ap (out1 ++ [y8]) rfl info91 rfl rfl (by decide) rfl rfl rfl rfl (by first | omega | (simp only [List.length_append, List.length_cons, List.length_nil]; omega)) (by first | omega | (simp only [List.length_append, List.length_cons, List.length_nil]; omega)) rfl (fun A19 c20 o21 s22 t23 => ?_))
      refine a_ rfl rfl (en (xn (nx (rg (m_ rfl rfl (vl (ra (c := ((k + 1 : Nat) : Int)) rfl rfl rfl (by omega) (by omega) (by omega)) rfl (a_ rfl rfl (en ?_))))))))
      exact lpe (s := (k, out1, A_out1, c_out1, o_out1, s_out1)) (k + 1, (out1 ++ [y8]), A19, c20, o21, s22) [0, 3, 3] ⟨⟨by omega, out_y (f := (fun x => matchQ q x.rect)) hinv1.2 m9 h15⟩, by grind⟩ (by show list.length - (k + 1) < list.length - k; omega) ⟨rfl, rfl, rfl, rfl, trivial⟩ rfl
    · refine cf rfl (Bool.eq_false_iff.2 h15) (sk (xn (nx (rg (m_ rfl rfl (vl (ra (c := ((k + 1 : Nat) : Int)) rfl rfl rfl (by omega) (by omega) (by omega)) rfl (a_ rfl rfl (en ?_))))))))
      exact lpe (s := (k, out1, A_out1, c_out1, o_out1, s_out1)) (k + 1, out1, A_out1, c_out1, o_out1, s_out1) [2, 2, 2] ⟨⟨by omega, out_n (f := (fun x => matchQ q x.rect)) hinv1.2 m9 h15⟩, by grind⟩ (by show list.length - (k + 1) < list.length - k; omega) ⟨rfl, rfl, rfl, rfl, trivial⟩ rfl
  · refine cf rfl (decide_eq_false h2) (xt (xq (xq (xb (nx (sq (sq (rg (m_ rfl rfl (vl (nc rfl rfl) rfl (vl (fa rfl rfl rfl) rfl (vl (ldp (u := .int .i64 q.kind) 1 rfl rfl rfl rfl rfl rfl rfl) rfl (vl (cm rfl rfl rfl rfl) rfl (en (nx ?_)))))))))))))))
    by_cases h24 : q.kind = (4 : Int)
    · have yk := yFq.k h24; have yp := yFq.pt (.inr h24)
      refine ct rfl (beq_iff_eq.2 h24) (sq (rg (m_ rfl rfl (m_ rfl rfl (vl (nc rfl rfl) rfl (vl (fa rfl rfl rfl) rfl (vl (ldp (u := .slice Aq3 q.point.length cq3) 1 rfl rfl rfl rfl rfl rfl rfl) rfl (gl (Kd.Seals.row kPairS_self _) (fun s25 us25 => ?_)))))))))
      refine gp 1 kQueryS_p3_1 rfl (cs' := [.slice Aq3 q.point.length cq3]) rfl fun s26 w_ rs26 us26 => ?_
      have Ls26 := Kd.sl_len rs26; have Cs26 := Kd.sl_cap rs26
      refine cm_ (dk := (Kd.sl kPairS)) (x := (nearList q.point out1)) (S := (s25)) (by kernel_rfl) rfl rfl rfl (snt 1 rfl) (fun w_ hs_ => spec_l2Near w_ (hs_.at 1 rfl) (hs_.at 0 rfl) hd (fun x hx => yFl x (in_out hinv1.2 hx)) yp (by omega)) (fun cs_ o29 s30 w_ r31 t32 => ?_)
      obtain ⟨rfl, A27, c28, rfl, Cr31, Lr31, -⟩ := r31
      refine a_ rfl rfl (en (nx (sq (rg (m_ rfl rfl (vl (ln rfl rfl rfl) rfl (m_ rfl rfl (vl (nc rfl rfl) rfl (vl (fa rfl rfl rfl) rfl (vl (ldp (u := .int .i64 q.k) 3 rfl rfl rfl rfl rfl rfl rfl) rfl (vl (cm rfl rfl rfl rfl) rfl (en (nx ?_)))))))))))))
      by_cases h34 : q.k < (((nearList q.point out1).length : Nat) : Int)
      · refine ct rfl (decide_eq_true h34) (rg (m_ rfl rfl (m_ rfl rfl (vl (nc rfl rfl) rfl (vl (fa rfl rfl rfl) rfl (vl (ldp (u := .int .i64 q.k) 3 rfl rfl rfl rfl rfl rfl rfl) rfl (vl (evr (v' := .slice A27 (((nearList q.point out1).take q.k.toNat).length) c28) (shi (i := q.k.toNat) rfl rfl rfl rfl (congrArg (fun z => some (Value.int .i64 z)) (show q.k = ((q.k.toNat : Nat) : Int) from (by omega))) (by omega)) (sl_eq (by first | (simp; done) | (simp; omega)))) rfl (a_ rfl rfl (en (nx (sq (rg (m_ rfl rfl ?_)))))))))))))
        refine gct 0 q.k.toNat rfl (by omega) fun s35 w_ rs35 us35 => ?_
        have Ls35 := Kd.sl_len rs35
        refine cm_ (dk := (Kd.row 91 kPairO)) (x := ((nearList q.point out1).take q.k.toNat)) (S := []) (by kernel_rfl) rfl rfl rfl sn0 (fun w_ hs_ => spec_l2Copies w_ (hs_.at 0 rfl) (by first | omega | (rw [nearList_len]; omega) | (simp only [List.length_take, nearList_len]; omega)) (fun p hp => yFs p (in_out hinv1.2 (by first | exact hp | exact near_mem hp | exact near_mem (List.mem_of_mem_take hp))))) (fun cs_ o38 s39 w_ r40 t41 => ?_)
        obtain ⟨A36, c37, rfl⟩ := Kd.row_sh r40
        exact a_ rfl rfl (en (nx (rt (gr (answerL list q) (ans_cut hinv1.2 (by omega) h24) (ret1 rfl rfl (fun w_ hs_ => made hs_ rfl (by grind)))))))
      · refine cf rfl (decide_eq_false h34) (sk (nx (sq (rg (m_ rfl rfl (cm_ (dk := (Kd.row 91 kPairO)) (x := (nearList q.point out1)) (S := []) (by kernel_rfl) rfl rfl rfl sn0 (fun w_ hs_ => spec_l2Copies w_ (hs_.at 0 rfl) (by first | omega | (rw [nearList_len]; omega) | (simp only [List.length_take, nearList_len]; omega)) (fun p hp => yFs p (in_out hinv1.2 (by first | exact hp | exact near_mem hp | exact near_mem (List.mem_of_mem_take hp))))) (fun cs_ o45 s46 w_ r47 t48 => ?_)))))))
        obtain ⟨A43, c44, rfl⟩ := Kd.row_sh r47
        exact a_ rfl rfl (en (nx (rt (gr (answerL list q) (ans_all hinv1.2 (by omega) h24 h34) (ret1 rfl rfl (fun w_ hs_ => made hs_ rfl (by grind)))))))
    · refine cf rfl (beq_eq_false_iff_ne.2 h24) (sk (nx (sq (rg (m_ rfl rfl (cm_ (dk := (Kd.row 91 kPairO)) (x := out1) (S := []) (by kernel_rfl) rfl rfl rfl sn0 (fun w_ hs_ => bor (Kd.Seals.row kPairS_self _) (hs_.at 0 rfl) fun _ lb0_ => spec_l2Copies w_ lb0_ (by first | omega | (rw [nearList_len]; omega) | (simp only [List.length_take, nearList_len]; omega)) (fun p hp => yFs p (in_out hinv1.2 (by first | exact hp | exact near_mem hp | exact near_mem (List.mem_of_mem_take hp))))) (fun cs_ o52 s53 w_ r54 t55 => ?_)))))))
      obtain ⟨A50, c51, rfl⟩ := Kd.row_sh r54
      exact a_ rfl rfl (en (nx (rt (gr (answerL list q) (ans_far hinv1.2 (by omega) h24) (ret1 rfl rfl (fun w_ hs_ => made hs_ rfl (by grind)))))))
theorem model_0 {l : List Pair} {d : Int} (h : modelFault l d = 0) : d.toNat ≤ 3 ∧ l.length ≤ 60 ∧ (∀ x ∈ l, FitR d.toNat x.rect) ∧ (∀ x ∈ l, szPair x ≤ 6) ∧ ∀ x ∈ l, ∀ y ∈ l, x.id = y.id → x = y := by
  unfold modelFault at h
  split at h
  · rename_i hd
    split at h
    · rename_i hl
      split at h
      · rename_i h0
        split at h
        · rename_i hr
          have hall := firstFault_all h0
          have hs := risesP_sorted hr
          have hd3 := (dims_le hd).1
          refine ⟨hd3, by omega, fun x hx => pair_fit (hall x hx) hd, fun x hx => ?_, fun x hx y hy hxy => ?_⟩
          · have := fit_sz (pair_fit (hall x hx) hd) hd3
            unfold szPair; omega
          · obtain ⟨i, hi, rfl⟩ := List.getElem_of_mem hx
            obtain ⟨j, hj, rfl⟩ := List.getElem_of_mem hy
            have hp := List.pairwise_iff_getElem.1 hs
            rcases Nat.lt_trichotomy i j with hij | rfl | hij
            · have := hp i j hi hj hij; omega
            · rfl
            · have := hp j i hj hi hij; omega
        · cases h
      · rename_i h0; exact absurd h h0
    · cases h
  · cases h
end Go.Proofs.YtfaflffdekoimaaGreat.Sx
