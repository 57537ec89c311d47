/- What functions of the program answer, each at every input that its row names; walked through their code. -/
import Derived.Test.YtkdiaknbndmajaaGreatSy8
namespace Go.Proofs.YtkdiaknbndmajaaGreat.Sx
open Go Go.RowKit Go.Proofs
set_option linter.unusedVariables false
set_option linter.unusedSimpArgs false
def tab8 : Tab := { size := [(2, 1, false), (4, 1, false), (28, 1, false), (67, 14, true), (77, 3, true)], off := [((67, 0), 0), ((67, 1), 1), ((67, 2), 2)], elem := [(28, 67)] }
theorem tab_ok8 : tab8.check Tryz.prog = true := by kernel_rfl
noncomputable abbrev X8 (N : Nat) (w : World) : Cx := ⟨Tryz.prog, tab8, tab_ok8, wide, N, w, none, []⟩
theorem zero2 : (Tryz.prog.info? 2).bind (·.zero) = some (.int .i64 0) := by kernel_rfl
theorem zero4 : (Tryz.prog.info? 4).bind (·.zero) = some (.bool false) := by kernel_rfl
theorem zero77 : (Tryz.prog.info? 77).bind (·.zero) = some (.agg #[.int .i64 0, .int .i64 0, .int .i64 0]) := by kernel_rfl
theorem bld77 : bld Tryz.prog 77 = some ([(0, 1), (1, 1), (2, 1)], [.int .i64 0, .int .i64 0, .int .i64 0]) := by kernel_rfl

/-! slices.Backward[[]impl.Note,impl.Note]$1 -/
set_option maxRecDepth 20000 in
set_option maxHeartbeats 2000000 in
theorem slices_Backward_impl_Note_impl_Note_1 (w0 : World) {b c : Nat} {A : Option Addr} {xs : List Note} {sv : List Nat} : BackIter Tryz.prog w0 136 b 28 A c kNoteS xs sv := by
  intro ρ τ lo Gr Gx pre prx hY r W hp0 hst
  have Lxs := Kd.sl_len (hst.at 1 rfl)
  refine fnc (X := X8 19 w0) (args := [.func (.yield lo) #[] #[], .pointer (some ⟨b, 0, none⟩)]) (l := [(0, .func (.yield lo) #[] #[]), (1, .pointer (some ⟨b, 0, none⟩))]) (G := [blk b [.slice A xs.length c] 28, dat (Kd.sl kNoteS) [.slice A xs.length c] xs ([]) sv, cj (Gr 0 r)]) Tryz.func136 rfl rfl rfl ⟨rfl, rfl, trivial⟩ (St.cjr (Ms := [blk b [.slice A xs.length c] 28, dat (Kd.sl kNoteS) [.slice A xs.length c] xs ([]) sv]) hst) ?_
  refine sq (rg (vl (ldb (u := .slice A xs.length c) 0 rfl rfl rfl rfl rfl rfl rfl) rfl (vl (ln rfl rfl rfl) rfl (vl (rs (c := ((xs.length : Nat) : Int) - 1) rfl rfl rfl rfl (by omega) (by omega)) rfl (a_ rfl rfl (en (nx (bk ?_))))))))
  refine lp (σ := Nat × Int × ρ) (fun z_ : Nat × Int × ρ => match z_ with | (kr, v, r) => [(0, .func (.yield lo) #[] #[]), (1, .pointer (some ⟨b, 0, none⟩)), (3, .int .i64 v)])
      (fun z_ : Nat × Int × ρ => match z_ with | (kr, v, r) => [cj (Gr kr r), blk b [.slice A xs.length c] 28, dat (Kd.sl kNoteS) [.slice A xs.length c] xs ([]) sv])
      (fun z_ : Nat × Int × ρ => match z_ with | (kr, v, r) => kr ≤ xs.length ∧ v = (xs.length : Int) - 1 - (kr : Int) ∧ pre kr r) (fun z_ : Nat × Int × ρ => match z_ with | (kr, v, r) => xs.length - kr) (0, ((xs.length : Nat) : Int) - 1, r) [2, 0, 0] ⟨Nat.zero_le _, by omega, hp0⟩ ⟨rfl, rfl, rfl, trivial⟩ rfl ?_
  rintro ⟨kr, v, r⟩ hp_
  obtain ⟨hk, hv, hpk⟩ := hp_
  refine sq (sq (rg (m_ rfl rfl (vl (cm rfl rfl rfl rfl) rfl (en (nx ?_))))))
  by_cases h1 : (0 : Int) ≤ v
  · refine ct rfl (decide_eq_true h1) (sk (nx (sq (bk (sq (rgw (m_ rfl rfl (m_ rfl rfl (vl (ldb (u := .slice A xs.length c) 1 rfl rfl rfl rfl rfl rfl rfl) rfl (m_ rfl rfl ?_))))))))))
    refine gx 2 v.toNat rfl (by omega) fun y7 p2 cs_ s3 w6 m8 e4 r5 us3 => ?_
    obtain ⟨A9, c10, A11, c12, A13, c14, A15, c16, A17, c18, A19, c20, rfl⟩ := kNoteS_sh r5
    refine vl (ixz v.toNat (by omega) e4 rfl rfl rfl rfl rfl (by omega)) rfl (vl (ldq 0 rfl rfl rfl rfl rfl rfl rfl) rfl ?_)
    refine yb [0, 1, 1, 0] hY rfl rfl rfl rfl hpk (by omega) (by omega) (by rw [show xs.length - 1 - kr = v.toNat by omega]; exact m8) rfl ?_ ?_
    · intro rq hpq
      exact vl (nt rfl rfl) rfl (enw (X := X8 19 w0) (nx (cf rfl rfl (sk (xn (nx (rg (m_ rfl rfl (vl (rs (c := v - 1) rfl rfl rfl rfl (by omega) (by omega)) rfl (a_ rfl rfl (en (lpe (s := (kr, v, r)) (kr + 1, v - 1, rq) [2, 0, 0] ⟨by omega, by omega, hpq⟩ (by show xs.length - (kr + 1) < xs.length - kr; omega) ⟨rfl, rfl, rfl, trivial⟩ rfl))))))))))))
    · intro t ht
      exact vl (nt rfl rfl) rfl (enw (X := X8 19 w0) (nx (ct rfl rfl (rt (xrb (xr (xr (xrb (ret0 rfl (fun w_ hs_ v_ => ⟨⟨v_, rfl⟩, .inr ⟨t, ht, St.cjl (Ms := []) hs_⟩⟩))))))))))
  · exact cf rfl (decide_eq_false h1) (xt (xq (xq (xb (nor0 rfl (fun w_ hs_ v_ => (by obtain rfl : kr = xs.length := (by omega); exact ⟨⟨v_, rfl⟩, .inl ⟨r, hpk, St.cjl (Ms := [blk b [.slice A xs.length c] 28, dat (Kd.sl kNoteS) [.slice A xs.length c] xs ([]) sv]) (hs_.pk [1, 1, 0] rfl)⟩⟩)))))))
/-! slices.Backward[[]impl.Note,impl.Note] -/
set_option maxRecDepth 20000 in
set_option maxHeartbeats 2000000 in
theorem slices_Backward_impl_Note_impl_Note (w : World) {As : Option Addr} {cs : Nat} {s : List Note} {ss_ : List Nat} (hs : (Kd.sl kNoteS).Rel w [.slice As s.length cs] s [] ss_)  : Calls Tryz.prog 110 #[.slice As s.length cs] w (BackMade 136 28 (.slice As s.length cs) w) := by
  have Ls := Kd.sl_len hs; have Cs := Kd.sl_cap hs
  refine fnc (X := X8 4 w) (args := [.slice As s.length cs]) (l := [(0, .slice As s.length cs)]) (G := [dat (Kd.sl kNoteS) [.slice As s.length cs] s ([]) ss_]) Tryz.func110 rfl rfl rfl ⟨rfl, trivial⟩ (s0d hs (s0n w)).1 ?_
  refine sq (rg (bx rfl rfl rfl rfl ?_))
  intro b1
  exact a_ rfl rfl (en (nx (sq (rg (vl (mf rfl rfl rfl) rfl (a_ rfl rfl (en (nx (rt (retb 0 rfl rfl rfl))))))))))
def noteAt (l : List Note) (i : Nat) : Note := l[i]?.getD zNote
theorem noteAt_of {l : List Note} {i : Nat} {y : Note} (h : l[i]? = some y) : y = noteAt l i := by unfold noteAt; rw [h]; rfl
def spanP (n m : Note) : Bool := m.kind == 1 && m.client == n.client
def spanIx (l : List Note) (i : Nat) : Option Note := if (noteAt l i).kind = 3 then (l.take i).reverse.find? (spanP (noteAt l i)) else none
def spanB (l : List Note) (i : Nat) : Int := match spanIx l i with
  | some m => m.at_
  | none => 0
def spanE (l : List Note) (i : Nat) : Int := match spanIx l i with
  | some _ => (noteAt l i).at_
  | none => 0
def spanOk (l : List Note) (i : Nat) : Bool := (spanIx l i).isSome
theorem span_step {l : List Note} {i k : Nat} {n y : Note} (h : ∀ (q : Nat) (x : Note), i - k ≤ q → q < i → l[q]? = some x → spanP n x = false) (hk : k < i) (hy : l[i - 1 - k]? = some y) (hp : spanP n y = false) : ∀ (q : Nat) (x : Note), i - (k + 1) ≤ q → q < i → l[q]? = some x → spanP n x = false := fun q x h1 h2 hx => by
  rcases Nat.lt_or_ge q (i - k) with h3 | h3
  · obtain rfl : q = i - 1 - k := by omega
    rw [hy] at hx; cases hx; exact hp
  · exact h q x h3 h2 hx
theorem span_found {l : List Note} {i k : Nat} {y : Note} (hn : (noteAt l i).kind = 3) (h : ∀ (q : Nat) (x : Note), i - k ≤ q → q < i → l[q]? = some x → spanP (noteAt l i) x = false) (hk : k < i) (hy : l[i - 1 - k]? = some y) (hp : spanP (noteAt l i) y = true) : spanIx l i = some y := by
  unfold spanIx
  rw [if_pos hn]
  refine back_some (j := i - 1 - k) (by rw [List.getElem?_take, if_pos (by omega)]; exact hy) hp (fun q x h1 hx => ?_)
  rw [List.getElem?_take] at hx
  split at hx
  · exact h q x (by omega) (by omega) hx
  · cases hx
theorem span_none {l : List Note} {i k : Nat} (h : ∀ (q : Nat) (x : Note), i - k ≤ q → q < i → l[q]? = some x → spanP (noteAt l i) x = false) (hk : i ≤ k) : spanIx l i = none := by
  unfold spanIx
  split
  · refine back_none fun q x hx => ?_
    rw [List.getElem?_take] at hx
    split at hx
    · exact h q x (by omega) (by omega) hx
    · cases hx
  · rfl
theorem span_no {l : List Note} {i : Nat} (hn : ¬ (noteAt l i).kind = 3) : spanIx l i = none := by unfold spanIx; rw [if_neg hn]
theorem take_at {l : List Note} {i k : Nat} {y : Note} (hi : i ≤ l.length) (hk : k < (l.take i).length) (hy : (l.take i)[(l.take i).length - 1 - k]? = some y) : k < i ∧ l[i - 1 - k]? = some y := by
  have h1 : (l.take i).length = i := by rw [List.length_take]; omega
  rw [h1] at hk hy
  rw [List.getElem?_take, if_pos (by omega)] at hy
  exact ⟨hk, hy⟩
/-! impl.span -/
set_option maxRecDepth 20000 in
set_option maxHeartbeats 2000000 in
theorem impl_span (w : World) (i : Nat) {Anotes : Option Addr} {cnotes : Nat} {notes : List Note} {snotes_ : List Nat} (hnotes : (Kd.sl kNoteS).Rel w [.slice Anotes notes.length cnotes] notes [] snotes_) (hi : i < notes.length) : Calls Tryz.prog 72 #[.slice Anotes notes.length cnotes, .int .i64 ((i : Nat) : Int)] w (fun e_ w2_ => e_ = .returned (.tuple #[.int .i64 (spanB notes i), .int .i64 (spanE notes i), .bool (spanOk notes i)]) ∧ Below w.heap.size w w2_) := by
  have Lnotes := Kd.sl_len hnotes; have Cnotes := Kd.sl_cap hnotes
  refine fncM (X := X8 37 w) (args := [.slice Anotes notes.length cnotes, .int .i64 ((i : Nat) : Int)]) (l := [(0, .slice Anotes notes.length cnotes), (1, .int .i64 ((i : Nat) : Int))]) (G := [dat (Kd.sl kNoteS) [.slice Anotes notes.length cnotes] notes ([]) snotes_]) Tryz.func72 rfl rfl rfl ⟨rfl, rfl, trivial⟩ (s0d hnotes (s0n w)).1 ?_
  refine sq (rg (al zero2 rfl rfl rfl ?_))
  intro b1
  refine al zero2 rfl rfl rfl ?_
  intro b2
  refine al zero4 rfl rfl rfl ?_
  intro b3
  refine en (nx (sq (rg (m_ rfl rfl (m_ rfl rfl ?_)))))
  refine gx 3 i rfl (by omega) fun y9 p4 cs_ s5 w8 m10 e6 r7 us5 => ?_
  obtain ⟨A11, c12, A13, c14, A15, c16, A17, c18, A19, c20, A21, c22, rfl⟩ := kNoteS_sh r7
  have ey9 := noteAt_of m10; subst ey9
  refine vl (ix i e6 rfl rfl rfl rfl rfl (by omega)) rfl (vl (ldq 0 rfl rfl rfl rfl rfl rfl rfl) rfl (al zero67 rfl rfl rfl ?_))
  intro b23
  refine sto rfl rfl rfl rfl rfl rfl rfl (cs' := [.int .i64 ((noteAt notes i).at_), .int .i64 ((noteAt notes i).kind), .int .i64 ((noteAt notes i).client), .int .i64 ((noteAt notes i).op.kind), .int .i64 ((noteAt notes i).op.pair.id), .slice A11 ((noteAt notes i).op.pair.rect.low.length) c12, .slice A13 ((noteAt notes i).op.pair.rect.high.length) c14, .int .i64 ((noteAt notes i).op.query.kind), .slice A15 ((noteAt notes i).op.query.rect.low.length) c16, .slice A17 ((noteAt notes i).op.query.rect.high.length) c18, .slice A19 ((noteAt notes i).op.query.point.length) c20, .int .i64 ((noteAt notes i).op.query.k), .int .i64 ((noteAt notes i).answer.code), .slice A21 ((noteAt notes i).answer.pairs.length) c22]) rfl (en (nx (sq (sq (rg (vl (fa rfl rfl rfl) rfl (vl (ldb (u := .int .i64 ((noteAt notes i).kind)) 0 rfl rfl rfl rfl rfl rfl rfl) rfl (vl (cm rfl rfl rfl rfl) rfl (en (nx ?_))))))))))
  by_cases h24 : (noteAt notes i).kind = (3 : Int)
  · refine cf rfl (bne_eq_false_iff_eq.2 h24) (sk (nx (sq (sq (rg (m_ rfl rfl (m_ rfl rfl (vl (evr (v' := .slice Anotes ((notes.take i).length) cnotes) (shi (i := i) rfl rfl rfl rfl rfl (by omega)) (sl_eq (by first | (simp; done) | (simp; omega)))) rfl ?_))))))))
    refine gct 5 i rfl (by omega) fun s25 w_ rs25 us25 => ?_
    have Ls25 := Kd.sl_len rs25
    refine cbk (gf := 136) (T := 28) (v := .slice Anotes ((notes.take i).length) cnotes) (by kernel_rfl) rfl rfl rfl (fun w_ hs_ => slices_Backward_impl_Note_impl_Note w_ (hs_.at 0 rfl)) (fun b26 => ?_)
    refine en (nx (bk ?_))
    refine rf (ek := kNoteS) (xs := (notes.take i)) (ρ := Unit) (τ := Note) rfl (by kernel_rfl) (slices_Backward_impl_Note_impl_Note_1 w) (fun _ _ => [blk b23 [.int .i64 ((noteAt notes i).at_), .int .i64 ((noteAt notes i).kind), .int .i64 ((noteAt notes i).client), .int .i64 ((noteAt notes i).op.kind), .int .i64 ((noteAt notes i).op.pair.id), .slice A11 ((noteAt notes i).op.pair.rect.low.length) c12, .slice A13 ((noteAt notes i).op.pair.rect.high.length) c14, .int .i64 ((noteAt notes i).op.query.kind), .slice A15 ((noteAt notes i).op.query.rect.low.length) c16, .slice A17 ((noteAt notes i).op.query.rect.high.length) c18, .slice A19 ((noteAt notes i).op.query.point.length) c20, .int .i64 ((noteAt notes i).op.query.k), .int .i64 ((noteAt notes i).answer.code), .slice A21 ((noteAt notes i).answer.pairs.length) c22] 67, ptr kNoteS p4 [.int .i64 ((noteAt notes i).at_), .int .i64 ((noteAt notes i).kind), .int .i64 ((noteAt notes i).client), .int .i64 ((noteAt notes i).op.kind), .int .i64 ((noteAt notes i).op.pair.id), .slice A11 ((noteAt notes i).op.pair.rect.low.length) c12, .slice A13 ((noteAt notes i).op.pair.rect.high.length) c14, .int .i64 ((noteAt notes i).op.query.kind), .slice A15 ((noteAt notes i).op.query.rect.low.length) c16, .slice A17 ((noteAt notes i).op.query.rect.high.length) c18, .slice A19 ((noteAt notes i).op.query.point.length) c20, .int .i64 ((noteAt notes i).op.query.k), .int .i64 ((noteAt notes i).answer.code), .slice A21 ((noteAt notes i).answer.pairs.length) c22] (noteAt notes i) s5, blk b3 [.bool false] 4, blk b2 [.int .i64 0] 2, blk b1 [.int .i64 0] 2, dat (Kd.sl kNoteS) [.slice Anotes notes.length cnotes] notes ([]) snotes_]) (fun mr => [blk b23 [.int .i64 ((noteAt notes i).at_), .int .i64 ((noteAt notes i).kind), .int .i64 ((noteAt notes i).client), .int .i64 ((noteAt notes i).op.kind), .int .i64 ((noteAt notes i).op.pair.id), .slice A11 ((noteAt notes i).op.pair.rect.low.length) c12, .slice A13 ((noteAt notes i).op.pair.rect.high.length) c14, .int .i64 ((noteAt notes i).op.query.kind), .slice A15 ((noteAt notes i).op.query.rect.low.length) c16, .slice A17 ((noteAt notes i).op.query.rect.high.length) c18, .slice A19 ((noteAt notes i).op.query.point.length) c20, .int .i64 ((noteAt notes i).op.query.k), .int .i64 ((noteAt notes i).answer.code), .slice A21 ((noteAt notes i).answer.pairs.length) c22] 67, ptr kNoteS p4 [.int .i64 ((noteAt notes i).at_), .int .i64 ((noteAt notes i).kind), .int .i64 ((noteAt notes i).client), .int .i64 ((noteAt notes i).op.kind), .int .i64 ((noteAt notes i).op.pair.id), .slice A11 ((noteAt notes i).op.pair.rect.low.length) c12, .slice A13 ((noteAt notes i).op.pair.rect.high.length) c14, .int .i64 ((noteAt notes i).op.query.kind), .slice A15 ((noteAt notes i).op.query.rect.low.length) c16, .slice A17 ((noteAt notes i).op.query.rect.high.length) c18, .slice A19 ((noteAt notes i).op.query.point.length) c20, .int .i64 ((noteAt notes i).op.query.k), .int .i64 ((noteAt notes i).answer.code), .slice A21 ((noteAt notes i).answer.pairs.length) c22] (noteAt notes i) s5, blk b3 [.bool true] 4, blk b2 [.int .i64 ((noteAt notes i).at_)] 2, blk b1 [.int .i64 mr.at_] 2, dat (Kd.sl kNoteS) [.slice Anotes notes.length cnotes] notes ([]) snotes_]) (fun kr _ => ∀ (q : Nat) (x : Note), i - kr ≤ q → q < i → notes[q]? = some x → spanP (noteAt notes i) x = false) (fun mr => spanIx notes i = some mr) () [0, 0, 0, 0, 0, 0, 0, 0] (fun q x h1 h2 => by omega) ⟨rfl, rfl⟩ rfl ?_ ?_ ?_
    · intro kr _ hpre hklt yr hyr pr csr s1r hrel lo D o1
      obtain ⟨_, hrel⟩ := hrel
      obtain ⟨A27, c28, A29, c30, A31, c32, A33, c34, A35, c36, A37, c38, rfl⟩ := kNoteS_sh hrel
      obtain ⟨hki, hyi⟩ := take_at (Nat.le_of_lt hi) hklt hyr
      refine rg (al zero67 rfl rfl rfl ?_)
      intro b39
      refine sto rfl rfl rfl rfl rfl rfl rfl (cs' := [.int .i64 yr.at_, .int .i64 yr.kind, .int .i64 yr.client, .int .i64 yr.op.kind, .int .i64 yr.op.pair.id, .slice A27 yr.op.pair.rect.low.length c28, .slice A29 yr.op.pair.rect.high.length c30, .int .i64 yr.op.query.kind, .slice A31 yr.op.query.rect.low.length c32, .slice A33 yr.op.query.rect.high.length c34, .slice A35 yr.op.query.point.length c36, .int .i64 yr.op.query.k, .int .i64 yr.answer.code, .slice A37 yr.answer.pairs.length c38]) rfl (en ?_)
      refine asn [(0, .slice Anotes notes.length cnotes), (1, .int .i64 ((i : Nat) : Int)), (4, .pointer (some ⟨b1, 0, none⟩)), (5, .pointer (some ⟨b2, 0, none⟩)), (6, .pointer (some ⟨b3, 0, none⟩)), (7, .pointer (some ⟨b23, 0, none⟩)), (9, .pointer (some ⟨b39, 0, none⟩)), (10, .slice Anotes notes.length cnotes), (11, .int .i64 ((i : Nat) : Int)), (12, .pointer (some p4)), (13, .agg #[.int .i64 ((noteAt notes i).at_), .int .i64 ((noteAt notes i).kind), .int .i64 ((noteAt notes i).client), .int .i64 ((noteAt notes i).op.kind), .int .i64 ((noteAt notes i).op.pair.id), .slice A11 ((noteAt notes i).op.pair.rect.low.length) c12, .slice A13 ((noteAt notes i).op.pair.rect.high.length) c14, .int .i64 ((noteAt notes i).op.query.kind), .slice A15 ((noteAt notes i).op.query.rect.low.length) c16, .slice A17 ((noteAt notes i).op.query.rect.high.length) c18, .slice A19 ((noteAt notes i).op.query.point.length) c20, .int .i64 ((noteAt notes i).op.query.k), .int .i64 ((noteAt notes i).answer.code), .slice A21 ((noteAt notes i).answer.pairs.length) c22]), (14, .pointer (some ⟨b23, 1, none⟩)), (15, .int .i64 ((noteAt notes i).kind)), (16, .bool (((noteAt notes i).kind) != (3 : Int))), (17, .slice Anotes notes.length cnotes), (18, .int .i64 ((i : Nat) : Int)), (19, .slice Anotes ((notes.take i).length) cnotes), (20, .func (.func 136) #[] #[.pointer (some ⟨b26, 0, none⟩)]), (21, .int .i64 (((notes.take i).length - 1 - kr : Nat) : Int)), (22, .agg #[.int .i64 yr.at_, .int .i64 yr.kind, .int .i64 yr.client, .int .i64 yr.op.kind, .int .i64 yr.op.pair.id, .slice A27 yr.op.pair.rect.low.length c28, .slice A29 yr.op.pair.rect.high.length c30, .int .i64 yr.op.query.kind, .slice A31 yr.op.query.rect.low.length c32, .slice A33 yr.op.query.rect.high.length c34, .slice A35 yr.op.query.point.length c36, .int .i64 yr.op.query.k, .int .i64 yr.answer.code, .slice A37 yr.answer.pairs.length c38])] [blk b39 [.int .i64 yr.at_, .int .i64 yr.kind, .int .i64 yr.client, .int .i64 yr.op.kind, .int .i64 yr.op.pair.id, .slice A27 yr.op.pair.rect.low.length c28, .slice A29 yr.op.pair.rect.high.length c30, .int .i64 yr.op.query.kind, .slice A31 yr.op.query.rect.low.length c32, .slice A33 yr.op.query.rect.high.length c34, .slice A35 yr.op.query.point.length c36, .int .i64 yr.op.query.k, .int .i64 yr.answer.code, .slice A37 yr.answer.pairs.length c38] 67, ptr kNoteS pr [.int .i64 yr.at_, .int .i64 yr.kind, .int .i64 yr.client, .int .i64 yr.op.kind, .int .i64 yr.op.pair.id, .slice A27 yr.op.pair.rect.low.length c28, .slice A29 yr.op.pair.rect.high.length c30, .int .i64 yr.op.query.kind, .slice A31 yr.op.query.rect.low.length c32, .slice A33 yr.op.query.rect.high.length c34, .slice A35 yr.op.query.point.length c36, .int .i64 yr.op.query.k, .int .i64 yr.answer.code, .slice A37 yr.answer.pairs.length c38] yr s1r, ob D dfr, blk b26 [.slice Anotes ((notes.take i).length) cnotes] 28, dat (Kd.sl kNoteS) [.slice Anotes ((notes.take i).length) cnotes] (notes.take i) ([]) s25, blk b23 [.int .i64 ((noteAt notes i).at_), .int .i64 ((noteAt notes i).kind), .int .i64 ((noteAt notes i).client), .int .i64 ((noteAt notes i).op.kind), .int .i64 ((noteAt notes i).op.pair.id), .slice A11 ((noteAt notes i).op.pair.rect.low.length) c12, .slice A13 ((noteAt notes i).op.pair.rect.high.length) c14, .int .i64 ((noteAt notes i).op.query.kind), .slice A15 ((noteAt notes i).op.query.rect.low.length) c16, .slice A17 ((noteAt notes i).op.query.rect.high.length) c18, .slice A19 ((noteAt notes i).op.query.point.length) c20, .int .i64 ((noteAt notes i).op.query.k), .int .i64 ((noteAt notes i).answer.code), .slice A21 ((noteAt notes i).answer.pairs.length) c22] 67, ptr kNoteS p4 [.int .i64 ((noteAt notes i).at_), .int .i64 ((noteAt notes i).kind), .int .i64 ((noteAt notes i).client), .int .i64 ((noteAt notes i).op.kind), .int .i64 ((noteAt notes i).op.pair.id), .slice A11 ((noteAt notes i).op.pair.rect.low.length) c12, .slice A13 ((noteAt notes i).op.pair.rect.high.length) c14, .int .i64 ((noteAt notes i).op.query.kind), .slice A15 ((noteAt notes i).op.query.rect.low.length) c16, .slice A17 ((noteAt notes i).op.query.rect.high.length) c18, .slice A19 ((noteAt notes i).op.query.point.length) c20, .int .i64 ((noteAt notes i).op.query.k), .int .i64 ((noteAt notes i).answer.code), .slice A21 ((noteAt notes i).answer.pairs.length) c22] (noteAt notes i) s5, blk b3 [.bool false] 4, blk b2 [.int .i64 0] 2, blk b1 [.int .i64 0] 2, dat (Kd.sl kNoteS) [.slice Anotes notes.length cnotes] notes ([]) snotes_] [1, 0, 0, 0, 0, 0, 0, 0, 0, 0, 0, 0] ⟨rfl, rfl, rfl, rfl, rfl, rfl, rfl, rfl, rfl, rfl, rfl, rfl, rfl, rfl, rfl, rfl, rfl, rfl, rfl, rfl, trivial⟩ rfl (fun o2 => ?_)
      refine bk (sq (rg (vl (fa rfl rfl rfl) rfl (vl (ldb (u := .int .i64 yr.kind) 1 rfl rfl rfl rfl rfl rfl rfl) rfl (vl (cm rfl rfl rfl rfl) rfl (m_ rfl rfl ?_))))))
      by_cases h40 : yr.kind = (1 : Int)
      · refine vg (fa rfl rfl rfl) rfl rfl (beq_iff_eq.2 h40) (vg (ldb (u := .int .i64 yr.client) 1 rfl rfl rfl rfl rfl rfl rfl) rfl rfl (beq_iff_eq.2 h40) (vg (fa rfl rfl rfl) rfl rfl (beq_iff_eq.2 h40) (vg (ldb (u := .int .i64 ((noteAt notes i).client)) 6 rfl rfl rfl rfl rfl rfl rfl) rfl rfl (beq_iff_eq.2 h40) (vg (cm rfl rfl rfl rfl) rfl rfl (beq_iff_eq.2 h40) (vl (pk (b := true) rfl rfl (beq_iff_eq.2 h40) rfl) rfl (en (nx ?_)))))))
        by_cases h41 : yr.client = (noteAt notes i).client
        · refine ct rfl (beq_iff_eq.2 h41) (sq ?_)
          exact rdi (Gq := [ob lo o2, blk b39 [.int .i64 yr.at_, .int .i64 yr.kind, .int .i64 yr.client, .int .i64 yr.op.kind, .int .i64 yr.op.pair.id, .slice A27 yr.op.pair.rect.low.length c28, .slice A29 yr.op.pair.rect.high.length c30, .int .i64 yr.op.query.kind, .slice A31 yr.op.query.rect.low.length c32, .slice A33 yr.op.query.rect.high.length c34, .slice A35 yr.op.query.point.length c36, .int .i64 yr.op.query.k, .int .i64 yr.answer.code, .slice A37 yr.answer.pairs.length c38] 67, ptr kNoteS pr [.int .i64 yr.at_, .int .i64 yr.kind, .int .i64 yr.client, .int .i64 yr.op.kind, .int .i64 yr.op.pair.id, .slice A27 yr.op.pair.rect.low.length c28, .slice A29 yr.op.pair.rect.high.length c30, .int .i64 yr.op.query.kind, .slice A31 yr.op.query.rect.low.length c32, .slice A33 yr.op.query.rect.high.length c34, .slice A35 yr.op.query.point.length c36, .int .i64 yr.op.query.k, .int .i64 yr.answer.code, .slice A37 yr.answer.pairs.length c38] yr s1r, ob D dfr, blk b26 [.slice Anotes ((notes.take i).length) cnotes] 28, dat (Kd.sl kNoteS) [.slice Anotes ((notes.take i).length) cnotes] (notes.take i) ([]) s25, blk b23 [.int .i64 ((noteAt notes i).at_), .int .i64 ((noteAt notes i).kind), .int .i64 ((noteAt notes i).client), .int .i64 ((noteAt notes i).op.kind), .int .i64 ((noteAt notes i).op.pair.id), .slice A11 ((noteAt notes i).op.pair.rect.low.length) c12, .slice A13 ((noteAt notes i).op.pair.rect.high.length) c14, .int .i64 ((noteAt notes i).op.query.kind), .slice A15 ((noteAt notes i).op.query.rect.low.length) c16, .slice A17 ((noteAt notes i).op.query.rect.high.length) c18, .slice A19 ((noteAt notes i).op.query.point.length) c20, .int .i64 ((noteAt notes i).op.query.k), .int .i64 ((noteAt notes i).answer.code), .slice A21 ((noteAt notes i).answer.pairs.length) c22] 67, ptr kNoteS p4 [.int .i64 ((noteAt notes i).at_), .int .i64 ((noteAt notes i).kind), .int .i64 ((noteAt notes i).client), .int .i64 ((noteAt notes i).op.kind), .int .i64 ((noteAt notes i).op.pair.id), .slice A11 ((noteAt notes i).op.pair.rect.low.length) c12, .slice A13 ((noteAt notes i).op.pair.rect.high.length) c14, .int .i64 ((noteAt notes i).op.query.kind), .slice A15 ((noteAt notes i).op.query.rect.low.length) c16, .slice A17 ((noteAt notes i).op.query.rect.high.length) c18, .slice A19 ((noteAt notes i).op.query.point.length) c20, .int .i64 ((noteAt notes i).op.query.k), .int .i64 ((noteAt notes i).answer.code), .slice A21 ((noteAt notes i).answer.pairs.length) c22] (noteAt notes i) s5, dat (Kd.sl kNoteS) [.slice Anotes notes.length cnotes] notes ([]) snotes_]) [0, 0, 0, 0, 0, 0, 0, 0, 3] rfl (by kernel_rfl) (qv 0 rfl (fa rfl rfl rfl) rfl (by kernel_rfl) (qv 1 rfl (ldb (u := .int .i64 yr.at_) 1 rfl rfl rfl rfl rfl rfl rfl) rfl (by kernel_rfl) (qv 2 rfl (fa rfl rfl rfl) rfl (by kernel_rfl) (qv 3 rfl (ldb (u := .int .i64 ((noteAt notes i).at_)) 6 rfl rfl rfl rfl rfl rfl rfl) rfl (by kernel_rfl) (q1 4 [0, 0, 0, 0, 0, 0, 0, 0, 3] rfl (by kernel_rfl) rfl (f10 (sto rfl rfl rfl rfl rfl rfl rfl (cs' := [.int .i64 yr.at_]) rfl (qn (q1 5 [1, 1, 1, 1, 1, 1, 1, 1, 3] rfl (by kernel_rfl) rfl (f10 (sto rfl rfl rfl rfl rfl rfl rfl (cs' := [.int .i64 ((noteAt notes i).at_)]) rfl (qn (q1 6 [2, 2, 2, 2, 2, 2, 2, 2, 3] rfl (by kernel_rfl) rfl (f10 (sto rfl rfl rfl rfl rfl rfl rfl (cs' := [.bool true]) rfl (qn (qe [3, 3, 3, 3, 3, 3, 3, 3, 3] (by kernel_rfl) rfl (swx (X := (X8 37 w).rnd lo) (nx (rt (xrb (rndr yr [3, 5, 7, 7, 0, 0, 0, 4] (span_found h24 hpre hki hyi (by unfold spanP; simp [h40, h41])) rfl))))))))))))))))))))))
        · exact cf rfl (beq_eq_false_iff_ne.2 h41) (sk (xn (rndn () [0, 2, 2, 2, 2, 2, 2, 2, 2, 2] (span_step hpre hki hyi (by unfold spanP; simp [h40, h41])) rfl)))
      · exact sg rfl rfl (beq_eq_false_iff_ne.2 h40) (sg rfl rfl (beq_eq_false_iff_ne.2 h40) (sg rfl rfl (beq_eq_false_iff_ne.2 h40) (sg rfl rfl (beq_eq_false_iff_ne.2 h40) (sg rfl rfl (beq_eq_false_iff_ne.2 h40) (vl (pk (b := false) rfl rfl (beq_eq_false_iff_ne.2 h40) rfl) rfl (en (nx (cf rfl rfl (sk (xn (rndn () [0, 2, 2, 2, 2, 2, 2, 2, 2, 2] (span_step hpre hki hyi (by unfold spanP; simp [h40])) rfl)))))))))))
    · intro D _ hpre
      have hln : (notes.take i).length = i := by rw [List.length_take]; omega
      exact xn (nx (sq (rg (f7 (sto rfl rfl rfl rfl rfl rfl rfl (cs' := [.int .i64 0]) rfl (f7 (sto rfl rfl rfl rfl rfl rfl rfl (cs' := [.int .i64 0]) rfl (f7 (sto rfl rfl rfl rfl rfl rfl rfl (cs' := [.bool false]) rfl (en (nx (rt (f3 (retd (res3 3 2 1 rfl rfl rfl rfl rfl rfl rfl rfl rfl rfl) (fun w_ hs_ => ⟨by have e_ : spanIx notes i = none := span_none hpre (by omega); unfold spanB spanE spanOk; rw [e_]; rfl, hs_.below⟩)))))))))))))))
    · intro D mr hprx
      exact xrb (xr (retd (res3 5 4 3 rfl rfl rfl rfl rfl rfl rfl rfl rfl rfl) (fun w_ hs_ => ⟨by have e_ : spanIx notes i = some mr := hprx; unfold spanB spanE spanOk; rw [e_]; rfl, hs_.below⟩)))
  · exact ct rfl (bne_iff_ne.2 h24) (sq (rg (f4 (sto rfl rfl rfl rfl rfl rfl rfl (cs' := [.int .i64 0]) rfl (f4 (sto rfl rfl rfl rfl rfl rfl rfl (cs' := [.int .i64 0]) rfl (f4 (sto rfl rfl rfl rfl rfl rfl rfl (cs' := [.bool false]) rfl (en (nx (rt (xr (retm (res3 2 1 0 rfl rfl rfl rfl rfl rfl rfl rfl rfl rfl) (fun w_ hs_ => ⟨by have e_ : spanIx notes i = none := span_no h24; unfold spanB spanE spanOk; rw [e_]; rfl, hs_.below⟩))))))))))))))
/-! spec.l12Span -/
set_option maxRecDepth 20000 in
set_option maxHeartbeats 2000000 in
theorem spec_l12Span (w : World) (i : Nat) {Anotes : Option Addr} {cnotes : Nat} {notes : List Note} {snotes_ : List Nat} (hnotes : (Kd.sl kNoteS).Rel w [.slice Anotes notes.length cnotes] notes [] snotes_) (hi : i < notes.length) : Calls Tryz.prog 64 #[.slice Anotes notes.length cnotes, .int .i64 ((i : Nat) : Int)] w (fun e_ w2_ => e_ = .returned (.tuple #[.int .i64 (spanB notes i), .int .i64 (spanE notes i), .bool (spanOk notes i)]) ∧ Below w.heap.size w w2_) := by
  have Lnotes := Kd.sl_len hnotes; have Cnotes := Kd.sl_cap hnotes
  refine fnc (X := X8 49 w) (args := [.slice Anotes notes.length cnotes, .int .i64 ((i : Nat) : Int)]) (l := [(0, .slice Anotes notes.length cnotes), (1, .int .i64 ((i : Nat) : Int))]) (G := [dat (Kd.sl kNoteS) [.slice Anotes notes.length cnotes] notes ([]) snotes_]) Tryz.func64 rfl rfl rfl ⟨rfl, rfl, trivial⟩ (s0d hnotes (s0n w)).1 ?_
  refine sq (rg (a_ rfl rfl (a_ rfl rfl (a_ rfl rfl (en (nx (sq (sq (rg (m_ rfl rfl (m_ rfl rfl ?_)))))))))))
  refine gx 0 i rfl (by omega) fun y6 p1 cs_ s2 w5 m7 e3 r4 us2 => ?_
  obtain ⟨A8, c9, A10, c11, A12, c13, A14, c15, A16, c17, A18, c19, rfl⟩ := kNoteS_sh r4
  have ey6 := noteAt_of m7; subst ey6
  refine vl (ix i e3 rfl rfl rfl rfl rfl (by omega)) rfl (vl (fa rfl rfl rfl) rfl (vl (ldp (u := .int .i64 ((noteAt notes i).kind)) 0 rfl rfl rfl rfl rfl rfl rfl) rfl (vl (cm rfl rfl rfl rfl) rfl (en (nx ?_)))))
  by_cases h20 : (noteAt notes i).kind = (3 : Int)
  · refine cf rfl (bne_eq_false_iff_eq.2 h20) (sk (nx (sq (sq (rg (m_ rfl rfl (vl (rs (c := ((i : Nat) : Int) - 1) rfl rfl rfl rfl (by omega) (by omega)) rfl (a_ rfl rfl (en (nx (bk ?_)))))))))))
    refine lp (σ := Nat × Int) (fun z_ : Nat × Int => match z_ with | (k, v) => [(0, .slice Anotes notes.length cnotes), (1, .int .i64 ((i : Nat) : Int)), (7, .int .i64 v)])
        (fun z_ : Nat × Int => match z_ with | (k, v) => [dat (Kd.sl kNoteS) [.slice Anotes notes.length cnotes] notes ([]) snotes_])
        (fun z_ : Nat × Int => match z_ with | (k, v) => k ≤ i ∧ v = (i : Int) - 1 - (k : Int) ∧ ∀ (q : Nat) (x : Note), i - k ≤ q → q < i → notes[q]? = some x → spanP (noteAt notes i) x = false) (fun z_ : Nat × Int => match z_ with | (k, v) => i - k) (0, ((i : Nat) : Int) - 1) [1] ⟨Nat.zero_le _, by omega, fun q x h1 h2 => by omega⟩ ⟨rfl, rfl, rfl, trivial⟩ rfl ?_
    rintro ⟨k, v⟩ hp_
    obtain ⟨hk, hv, hinv⟩ := hp_
    refine sq (sq (rg (m_ rfl rfl (vl (cm rfl rfl rfl rfl) rfl (en (nx ?_))))))
    by_cases h21 : (0 : Int) ≤ v
    · refine ct rfl (decide_eq_true h21) (sk (nx (sq (bk (sq ?_)))))
      refine gx 0 v.toNat rfl (by omega) fun y27 p22 cs_ s23 w26 m28 e24 r25 us23 => ?_
      obtain ⟨A29, c30, A31, c32, A33, c34, A35, c36, A37, c38, A39, c40, rfl⟩ := kNoteS_sh r25
      by_cases h41 : y27.kind = (1 : Int)
      · refine gx 1 i rfl (by omega) fun y47 p42 cs_ s43 w46 m48 e44 r45 us43 => ?_
        obtain ⟨A49, c50, A51, c52, A53, c54, A55, c56, A57, c58, A59, c60, rfl⟩ := kNoteS_sh r45
        have ey47 := noteAt_of m48; subst ey47
        refine r0 (qv 0 rfl (mv rfl rfl) rfl (by kernel_rfl) (qv 1 rfl (mv rfl rfl) rfl (by kernel_rfl) (qv 2 rfl (ixz v.toNat (by omega) e24 rfl rfl rfl rfl rfl (by omega)) rfl (by kernel_rfl) (qv 3 rfl (fa rfl rfl rfl) rfl (by kernel_rfl) (qv 4 rfl (ldp (u := .int .i64 y27.kind) 1 rfl rfl rfl rfl rfl rfl rfl) rfl (by kernel_rfl) (qv 5 rfl (cm rfl rfl rfl rfl) rfl (by kernel_rfl) (qv 6 rfl (mv rfl rfl) rfl (by kernel_rfl) (qg 7 rfl (mv rfl rfl) rfl rfl (beq_iff_eq.2 h41) (by kernel_rfl) (qg 8 rfl (mv rfl rfl) rfl rfl (beq_iff_eq.2 h41) (by kernel_rfl) (qg 9 rfl (ixz v.toNat (by omega) e24 rfl rfl rfl rfl rfl (by omega)) rfl rfl (beq_iff_eq.2 h41) (by kernel_rfl) (qg 10 rfl (fa rfl rfl rfl) rfl rfl (beq_iff_eq.2 h41) (by kernel_rfl) (qg 11 rfl (ldp (u := .int .i64 y27.client) 1 rfl rfl rfl rfl rfl rfl rfl) rfl rfl (beq_iff_eq.2 h41) (by kernel_rfl) (qg 12 rfl (mv rfl rfl) rfl rfl (beq_iff_eq.2 h41) (by kernel_rfl) (qg 13 rfl (mv rfl rfl) rfl rfl (beq_iff_eq.2 h41) (by kernel_rfl) (qg 14 rfl (ix i e44 rfl rfl rfl rfl rfl (by omega)) rfl rfl (beq_iff_eq.2 h41) (by kernel_rfl) (qg 15 rfl (fa rfl rfl rfl) rfl rfl (beq_iff_eq.2 h41) (by kernel_rfl) (qg 16 rfl (ldp (u := .int .i64 ((noteAt notes i).client)) 0 rfl rfl rfl rfl rfl rfl rfl) rfl rfl (beq_iff_eq.2 h41) (by kernel_rfl) (qg 17 rfl (cm rfl rfl rfl rfl) rfl rfl (beq_iff_eq.2 h41) (by kernel_rfl) (qv 18 rfl (pk (b := true) rfl rfl (beq_iff_eq.2 h41) rfl) rfl (by kernel_rfl) (qe [0, 0, 0] (by kernel_rfl) rfl (nx ?_)))))))))))))))))))))
        by_cases h61 : y27.client = (noteAt notes i).client
        · refine ct rfl (beq_iff_eq.2 h61) (sq ?_)
          exact r0 (qv 0 rfl (mv rfl rfl) rfl (by kernel_rfl) (qv 1 rfl (mv rfl rfl) rfl (by kernel_rfl) (qv 2 rfl (ixz v.toNat (by omega) e24 rfl rfl rfl rfl rfl (by omega)) rfl (by kernel_rfl) (qv 3 rfl (fa rfl rfl rfl) rfl (by kernel_rfl) (qv 4 rfl (ldp (u := .int .i64 y27.at_) 1 rfl rfl rfl rfl rfl rfl rfl) rfl (by kernel_rfl) (qv 5 rfl (mv rfl rfl) rfl (by kernel_rfl) (qv 6 rfl (mv rfl rfl) rfl (by kernel_rfl) (qv 7 rfl (ix i e44 rfl rfl rfl rfl rfl (by omega)) rfl (by kernel_rfl) (qv 8 rfl (fa rfl rfl rfl) rfl (by kernel_rfl) (qv 9 rfl (ldp (u := .int .i64 ((noteAt notes i).at_)) 0 rfl rfl rfl rfl rfl rfl rfl) rfl (by kernel_rfl) (qv 10 rfl (as_ rfl rfl) rfl (by kernel_rfl) (qv 11 rfl (as_ rfl rfl) rfl (by kernel_rfl) (qv 12 rfl (as_ rfl rfl) rfl (by kernel_rfl) (qe [0, 0, 0] (by kernel_rfl) rfl (nx (rt (xrb (xr (xr (xrb (xr (ret3 rfl rfl rfl rfl (fun w_ hs_ => ⟨by have e_ : spanIx notes i = some y27 := span_found (k := k) h20 hinv (by omega) (by rw [show i - 1 - k = v.toNat by omega]; exact m28) (by unfold spanP; simp [h41, h61]); unfold spanB spanE spanOk; rw [e_]; rfl, hs_.below⟩)))))))))))))))))))))))
        · exact cf rfl (beq_eq_false_iff_ne.2 h61) (sk (xn (nx (rg (m_ rfl rfl (vl (rs (c := v - 1) rfl rfl rfl rfl (by omega) (by omega)) rfl (a_ rfl rfl (en (lpe (s := (k, v)) (k + 1, v - 1) [2] ⟨by omega, by omega, span_step hinv (by omega) (by rw [show i - 1 - k = v.toNat by omega]; exact m28) (by unfold spanP; simp [h41, h61])⟩ (by show i - (k + 1) < i - k; omega) ⟨rfl, rfl, rfl, trivial⟩ rfl)))))))))
      · exact r0 (qv 0 rfl (mv rfl rfl) rfl (by kernel_rfl) (qv 1 rfl (mv rfl rfl) rfl (by kernel_rfl) (qv 2 rfl (ixz v.toNat (by omega) e24 rfl rfl rfl rfl rfl (by omega)) rfl (by kernel_rfl) (qv 3 rfl (fa rfl rfl rfl) rfl (by kernel_rfl) (qv 4 rfl (ldp (u := .int .i64 y27.kind) 0 rfl rfl rfl rfl rfl rfl rfl) rfl (by kernel_rfl) (qv 5 rfl (cm rfl rfl rfl rfl) rfl (by kernel_rfl) (qv 6 rfl (mv rfl rfl) rfl (by kernel_rfl) (qs 7 rfl rfl rfl (beq_eq_false_iff_ne.2 h41) (by kernel_rfl) (qs 8 rfl rfl rfl (beq_eq_false_iff_ne.2 h41) (by kernel_rfl) (qs 9 rfl rfl rfl (beq_eq_false_iff_ne.2 h41) (by kernel_rfl) (qs 10 rfl rfl rfl (beq_eq_false_iff_ne.2 h41) (by kernel_rfl) (qs 11 rfl rfl rfl (beq_eq_false_iff_ne.2 h41) (by kernel_rfl) (qs 12 rfl rfl rfl (beq_eq_false_iff_ne.2 h41) (by kernel_rfl) (qs 13 rfl rfl rfl (beq_eq_false_iff_ne.2 h41) (by kernel_rfl) (qs 14 rfl rfl rfl (beq_eq_false_iff_ne.2 h41) (by kernel_rfl) (qs 15 rfl rfl rfl (beq_eq_false_iff_ne.2 h41) (by kernel_rfl) (qs 16 rfl rfl rfl (beq_eq_false_iff_ne.2 h41) (by kernel_rfl) (qs 17 rfl rfl rfl (beq_eq_false_iff_ne.2 h41) (by kernel_rfl) (qv 18 rfl (pk (b := false) rfl rfl (beq_eq_false_iff_ne.2 h41) rfl) rfl (by kernel_rfl) (qe [0, 0] (by kernel_rfl) rfl (nx (cf rfl rfl (sk (xn (nx (rg (m_ rfl rfl (vl (rs (c := v - 1) rfl rfl rfl rfl (by omega) (by omega)) rfl (a_ rfl rfl (en (lpe (s := (k, v)) (k + 1, v - 1) [1] ⟨by omega, by omega, span_step hinv (by omega) (by rw [show i - 1 - k = v.toNat by omega]; exact m28) (by unfold spanP; simp [h41])⟩ (by show i - (k + 1) < i - k; omega) ⟨rfl, rfl, rfl, trivial⟩ rfl)))))))))))))))))))))))))))))))
    · exact cf rfl (decide_eq_false h21) (xt (xq (xq (xb (nx (sq (rg (a_ rfl rfl (a_ rfl rfl (a_ rfl rfl (en (nx (rt (ret3 rfl rfl rfl rfl (fun w_ hs_ => ⟨by have e_ : spanIx notes i = none := span_none hinv (by omega); unfold spanB spanE spanOk; rw [e_]; rfl, hs_.below⟩)))))))))))))))
  · exact ct rfl (bne_iff_ne.2 h20) (sq (rg (a_ rfl rfl (a_ rfl rfl (a_ rfl rfl (en (nx (rt (xr (ret3 rfl rfl rfl rfl (fun w_ hs_ => ⟨by have e_ : spanIx notes i = none := span_no h20; unfold spanB spanE spanOk; rw [e_]; rfl, hs_.below⟩)))))))))))
structure SpanResult where
  code : Int
  begin_ : Int
  end_ : Int
  deriving DecidableEq
def kSpanResultS : Kd SpanResult := ((Kd.i64.via SpanResult.code).cat ((Kd.i64.via SpanResult.begin_).cat (Kd.i64.via SpanResult.end_)))
theorem kSpanResultS_sh {w : World} {cs : List Value} {x : SpanResult} {o s : List Nat} (h : kSpanResultS.Rel w cs x o s) : cs = [.int .i64 x.code, .int .i64 x.begin_, .int .i64 x.end_] := by
  obtain ⟨c10, c20, o10, o20, s10, s20, rfl, rfl, rfl, h0, k0⟩ := h
  obtain ⟨rfl, -, -⟩ := h0
  obtain ⟨c11, c21, o11, o21, s11, s21, rfl, rfl, rfl, h1, k1⟩ := k0
  obtain ⟨rfl, -, -⟩ := h1
  obtain ⟨rfl, -, -⟩ := k1
  exact rfl
theorem kSpanResultS_self : Kd.Seals kSpanResultS kSpanResultS := (Kd.Seals.cat (Kd.Seals.via Kd.Seals.i64 _) (Kd.Seals.cat (Kd.Seals.via Kd.Seals.i64 _) (Kd.Seals.via Kd.Seals.i64 _)))
theorem kSpanResultS_pure : Kd.Pure kSpanResultS := (Kd.Pure.cat (Kd.Pure.via Kd.Pure.i64 _) (Kd.Pure.cat (Kd.Pure.via Kd.Pure.i64 _) (Kd.Pure.via Kd.Pure.i64 _)))
def kSpanResultO : Kd SpanResult := ((Kd.i64.via SpanResult.code).cat ((Kd.i64.via SpanResult.begin_).cat (Kd.i64.via SpanResult.end_)))
theorem kSpanResultO_sh {w : World} {cs : List Value} {x : SpanResult} {o s : List Nat} (h : kSpanResultO.Rel w cs x o s) : cs = [.int .i64 x.code, .int .i64 x.begin_, .int .i64 x.end_] := by
  obtain ⟨c10, c20, o10, o20, s10, s20, rfl, rfl, rfl, h0, k0⟩ := h
  obtain ⟨rfl, -, -⟩ := h0
  obtain ⟨c11, c21, o11, o21, s11, s21, rfl, rfl, rfl, h1, k1⟩ := k0
  obtain ⟨rfl, -, -⟩ := h1
  obtain ⟨rfl, -, -⟩ := k1
  exact rfl
theorem kSpanResultO_seal : Kd.Seals kSpanResultO kSpanResultS := (Kd.Seals.cat (Kd.Seals.via Kd.Seals.i64 _) (Kd.Seals.cat (Kd.Seals.via Kd.Seals.i64 _) (Kd.Seals.via Kd.Seals.i64 _)))
theorem SpanResult_eq (a b : SpanResult) : decide (a = b) = (decide (a.code = b.code) && decide (a.begin_ = b.begin_) && decide (a.end_ = b.end_)) := by
  cases a; cases b; rw [Bool.eq_iff_iff]; simp [and_assoc]
def spanRes (l : List Note) (d i : Int) : SpanResult := if notesFault l d = 0 then if within i 0 ((l.length : Int) - 1) = true then if spanOk l i.toNat = true then ⟨0, spanB l i.toNat, spanE l i.toNat⟩ else ⟨8, 0, 0⟩ else ⟨3, 0, 0⟩ else ⟨notesFault l d, 0, 0⟩
theorem within_le {n low high : Int} (h : within n low high = true) : low ≤ n ∧ n ≤ high := of_decide_eq_true h
/-! spec.SpanOf -/
set_option maxRecDepth 20000 in
set_option maxHeartbeats 2000000 in
theorem spec_SpanOf (w : World) (dims : Int) (iZ : Int) {Anotes : Option Addr} {cnotes : Nat} {notes : List Note} {snotes_ : List Nat} (hnotes : (Kd.sl kNoteS).Rel w [.slice Anotes notes.length cnotes] notes [] snotes_)  : Calls Tryz.prog 33 #[.slice Anotes notes.length cnotes, .int .i64 dims, .int .i64 iZ] w (Made kSpanResultO w (spanRes notes dims iZ) []) := by
  have Lnotes := Kd.sl_len hnotes; have Cnotes := Kd.sl_cap hnotes
  refine fnc (X := X8 38 w) (args := [.slice Anotes notes.length cnotes, .int .i64 dims, .int .i64 iZ]) (l := [(0, .slice Anotes notes.length cnotes), (1, .int .i64 dims), (2, .int .i64 iZ)]) (G := [dat (Kd.sl kNoteS) [.slice Anotes notes.length cnotes] notes ([]) snotes_]) Tryz.func33 rfl rfl rfl ⟨rfl, rfl, rfl, trivial⟩ (s0d hnotes (s0n w)).1 ?_
  refine sq (rg (al zero77 rfl rfl rfl ?_))
  intro b1
  refine en (nx (sq (sq (rg (m_ rfl rfl (m_ rfl rfl ?_))))))
  refine cs_ (v := .int .i64 (notesFault notes dims)) (by kernel_rfl) rfl rfl rfl (fun w_ hs_ => spec_NotesFault w_ _ (hs_.at 1 rfl)) (a_ rfl rfl (en (nx (sq (rg (m_ rfl rfl (vl (cm rfl rfl rfl rfl) rfl (en (nx ?_)))))))))
  by_cases h2 : (notesFault notes dims) = (0 : Int)
  · have zh2 := notes_0 h2
    refine cf rfl (bne_eq_false_iff_eq.2 h2) (sk (nx (sq (sq (rg (m_ rfl rfl (m_ rfl rfl (vl (ln rfl rfl rfl) rfl (vl (rs (c := ((notes.length : Nat) : Int) - 1) rfl rfl rfl rfl (by omega) (by omega)) rfl ?_)))))))))
    refine cs_ (v := .bool (within iZ 0 (((notes.length : Nat) : Int) - 1))) (by kernel_rfl) rfl rfl rfl (fun w_ hs_ => spec_l1In w_ _ _ _) (vl (nt rfl rfl) rfl (en (nx ?_)))
    by_cases h3 : within iZ 0 (((notes.length : Nat) : Int) - 1) = true
    · have hwh3 := within_le h3; obtain ⟨nZ, rfl⟩ := Int.eq_ofNat_of_zero_le hwh3.1
      refine cf rfl (not_f h3) (sk (nx (sq (rg (m_ rfl rfl (m_ rfl rfl ?_))))))
      refine cs_ (v := .tuple #[.int .i64 (spanB notes nZ), .int .i64 (spanE notes nZ), .bool (spanOk notes nZ)]) (by kernel_rfl) rfl rfl rfl (fun w_ hs_ => spec_l12Span w_ _ (hs_.at 1 rfl) (by omega)) (m_ rfl rfl (vl (ex rfl rfl rfl) rfl (vl (ex rfl rfl rfl) rfl (vl (ex rfl rfl rfl) rfl (a_ rfl rfl (a_ rfl rfl (a_ rfl rfl (en (nx (sq (sq (rg (m_ rfl rfl (vl (nt rfl rfl) rfl (en (nx ?_))))))))))))))))
      by_cases h4 : spanOk notes nZ = true
      · exact cf rfl (not_f h4) (sk (nx (sq (rg (m_ rfl rfl (m_ rfl rfl (vl (bd bld77 rfl rfl rfl) rfl (sto rfl rfl rfl rfl rfl rfl rfl (cs' := [.int .i64 0, .int .i64 (spanB notes nZ), .int .i64 (spanE notes nZ)]) rfl (en (nx (rt (gs Kd.i64 [.int .i64 (spanE notes nZ)] ((⟨0, (spanB notes nZ), (spanE notes nZ)⟩ : SpanResult).end_) (fun _ => ⟨rfl, rfl, rfl⟩) (gs Kd.i64 [.int .i64 (spanB notes nZ)] ((⟨0, (spanB notes nZ), (spanE notes nZ)⟩ : SpanResult).begin_) (fun _ => ⟨rfl, rfl, rfl⟩) (gj (da := (Kd.via Kd.i64 SpanResult.begin_)) (db := (Kd.via Kd.i64 SpanResult.end_)) (x := (⟨0, (spanB notes nZ), (spanE notes nZ)⟩ : SpanResult)) (cs := [.int .i64 (spanB notes nZ), .int .i64 (spanE notes nZ)]) rfl (gs Kd.i64 [.int .i64 0] ((⟨0, (spanB notes nZ), (spanE notes nZ)⟩ : SpanResult).code) (fun _ => ⟨rfl, rfl, rfl⟩) (gj (da := (Kd.via Kd.i64 SpanResult.code)) (db := ((Kd.via Kd.i64 SpanResult.begin_).cat (Kd.via Kd.i64 SpanResult.end_))) (x := (⟨0, (spanB notes nZ), (spanE notes nZ)⟩ : SpanResult)) (cs := [.int .i64 0, .int .i64 (spanB notes nZ), .int .i64 (spanE notes nZ)]) rfl (gr (spanRes notes dims ((nZ : Nat) : Int)) (by unfold spanRes; rw [if_pos h2, if_pos h3]; exact (if_pos h4).symm) (retc 1 rfl rfl rfl rfl rfl rfl (fun w_ hs_ => made hs_ rfl (see_app see_nil (see_app see_nil see_nil)))))))))))))))))))))
      · exact ct rfl (not_t (Bool.eq_false_iff.2 h4)) (sq (rg (vl (bd bld77 rfl rfl rfl) rfl (sto rfl rfl rfl rfl rfl rfl rfl (cs' := [.int .i64 8, .int .i64 0, .int .i64 0]) rfl (en (nx (rt (xr (gs Kd.i64 [.int .i64 0] ((⟨8, 0, 0⟩ : SpanResult).end_) (fun _ => ⟨rfl, rfl, rfl⟩) (gs Kd.i64 [.int .i64 0] ((⟨8, 0, 0⟩ : SpanResult).begin_) (fun _ => ⟨rfl, rfl, rfl⟩) (gj (da := (Kd.via Kd.i64 SpanResult.begin_)) (db := (Kd.via Kd.i64 SpanResult.end_)) (x := (⟨8, 0, 0⟩ : SpanResult)) (cs := [.int .i64 0, .int .i64 0]) rfl (gs Kd.i64 [.int .i64 8] ((⟨8, 0, 0⟩ : SpanResult).code) (fun _ => ⟨rfl, rfl, rfl⟩) (gj (da := (Kd.via Kd.i64 SpanResult.code)) (db := ((Kd.via Kd.i64 SpanResult.begin_).cat (Kd.via Kd.i64 SpanResult.end_))) (x := (⟨8, 0, 0⟩ : SpanResult)) (cs := [.int .i64 8, .int .i64 0, .int .i64 0]) rfl (gr (spanRes notes dims ((nZ : Nat) : Int)) (by unfold spanRes; rw [if_pos h2, if_pos h3]; exact (if_neg h4).symm) (retc 1 rfl rfl rfl rfl rfl rfl (fun w_ hs_ => made hs_ rfl (see_app see_nil (see_app see_nil see_nil))))))))))))))))))
    · exact ct rfl (not_t (Bool.eq_false_iff.2 h3)) (sq (rg (vl (bd bld77 rfl rfl rfl) rfl (sto rfl rfl rfl rfl rfl rfl rfl (cs' := [.int .i64 3, .int .i64 0, .int .i64 0]) rfl (en (nx (rt (xr (gs Kd.i64 [.int .i64 0] ((⟨3, 0, 0⟩ : SpanResult).end_) (fun _ => ⟨rfl, rfl, rfl⟩) (gs Kd.i64 [.int .i64 0] ((⟨3, 0, 0⟩ : SpanResult).begin_) (fun _ => ⟨rfl, rfl, rfl⟩) (gj (da := (Kd.via Kd.i64 SpanResult.begin_)) (db := (Kd.via Kd.i64 SpanResult.end_)) (x := (⟨3, 0, 0⟩ : SpanResult)) (cs := [.int .i64 0, .int .i64 0]) rfl (gs Kd.i64 [.int .i64 3] ((⟨3, 0, 0⟩ : SpanResult).code) (fun _ => ⟨rfl, rfl, rfl⟩) (gj (da := (Kd.via Kd.i64 SpanResult.code)) (db := ((Kd.via Kd.i64 SpanResult.begin_).cat (Kd.via Kd.i64 SpanResult.end_))) (x := (⟨3, 0, 0⟩ : SpanResult)) (cs := [.int .i64 3, .int .i64 0, .int .i64 0]) rfl (gr (spanRes notes dims iZ) (by unfold spanRes; rw [if_pos h2, if_neg h3]) (retc 1 rfl rfl rfl rfl rfl rfl (fun w_ hs_ => made hs_ rfl (see_app see_nil (see_app see_nil see_nil))))))))))))))))))
  · exact ct rfl (bne_iff_ne.2 h2) (sq (rg (m_ rfl rfl (vl (bd bld77 rfl rfl rfl) rfl (sto rfl rfl rfl rfl rfl rfl rfl (cs' := [.int .i64 (notesFault notes dims), .int .i64 0, .int .i64 0]) rfl (en (nx (rt (xr (gs Kd.i64 [.int .i64 0] ((⟨(notesFault notes dims), 0, 0⟩ : SpanResult).end_) (fun _ => ⟨rfl, rfl, rfl⟩) (gs Kd.i64 [.int .i64 0] ((⟨(notesFault notes dims), 0, 0⟩ : SpanResult).begin_) (fun _ => ⟨rfl, rfl, rfl⟩) (gj (da := (Kd.via Kd.i64 SpanResult.begin_)) (db := (Kd.via Kd.i64 SpanResult.end_)) (x := (⟨(notesFault notes dims), 0, 0⟩ : SpanResult)) (cs := [.int .i64 0, .int .i64 0]) rfl (gs Kd.i64 [.int .i64 (notesFault notes dims)] ((⟨(notesFault notes dims), 0, 0⟩ : SpanResult).code) (fun _ => ⟨rfl, rfl, rfl⟩) (gj (da := (Kd.via Kd.i64 SpanResult.code)) (db := ((Kd.via Kd.i64 SpanResult.begin_).cat (Kd.via Kd.i64 SpanResult.end_))) (x := (⟨(notesFault notes dims), 0, 0⟩ : SpanResult)) (cs := [.int .i64 (notesFault notes dims), .int .i64 0, .int .i64 0]) rfl (gr (spanRes notes dims iZ) (by unfold spanRes; rw [if_neg h2]) (retc 1 rfl rfl rfl rfl rfl rfl (fun w_ hs_ => made hs_ rfl (see_app see_nil (see_app see_nil see_nil)))))))))))))))))))
end Go.Proofs.YtkdiaknbndmajaaGreat.Sx
