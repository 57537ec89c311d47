/- What functions of the program answer, each at every input that its row names; walked through their code. -/
import Derived.Test.YtfaflffdekoimaaGreatSy8
namespace Go.Proofs.YtfaflffdekoimaaGreat.Sx
open Go Go.RowKit Go.Proofs
set_option linter.unusedVariables false
set_option linter.unusedSimpArgs false
def tab9 : Tab := { size := [(2, 1, false), (39, 1, false), (42, 4, true), (46, 2, true), (91, 3, true), (114, 1, false), (116, 4, true), (140, 4, true)], off := [((42, 1), 1), ((44, 0), 0), ((44, 1), 1), ((44, 2), 5), ((44, 3), 6), ((44, 4), 7), ((91, 0), 0), ((116, 0), 0), ((116, 1), 1), ((116, 3), 3), ((140, 0), 0), ((140, 1), 2)], elem := [(23, 2), (35, 91), (39, 116), (114, 140)] }
theorem tab_ok9 : tab9.check Tryz.prog = true := by kernel_rfl
noncomputable abbrev X9 (N : Nat) (w : World) : Cx := ⟨Tryz.prog, tab9, tab_ok9, wide, N, w, none, []⟩
theorem info91 : (Tryz.prog.info? 91).map (fun i => (i.zero, i.size, i.bytes)) = some (some (.agg #[.int .i64 0, .slice none 0 0, .slice none 0 0]), 3, 56) := by kernel_rfl
theorem bld91 : bld Tryz.prog 91 = some ([(0, 1), (1, 2)], [.int .i64 0, .slice none 0 0, .slice none 0 0]) := by kernel_rfl

def pairOf (e : Entry) : Pair := ⟨e.ref, e.rect⟩
def leafP (t : Tree) (ids : List Int) : List Pair := (leafE t ids).map pairOf
theorem leafP_done {t : Tree} {ids : List Int} {k : Nat} {o : List Pair} {k2 : Nat} {y : Int} (h : o = leafP t (ids.take k) ++ (((nodeAt t.arena y).entries.take k2).map pairOf)) (hy : ids[k]? = some y) (hl : (nodeAt t.arena y).level = 0) (hk : (nodeAt t.arena y).entries.length ≤ k2) : o = leafP t (ids.take (k + 1)) := by
  rw [h, List.take_of_length_le hk]; unfold leafP; rw [leafE_snoc hy, List.map_append, leafOne, if_pos hl]
theorem leafP_skip {t : Tree} {ids : List Int} {k : Nat} {o : List Pair} {k2 : Nat} {y : Int} (h : o = leafP t (ids.take k) ++ (((nodeAt t.arena y).entries.take k2).map pairOf)) (hy : ids[k]? = some y) (hl : ¬ (nodeAt t.arena y).level = 0) (hk : (nodeAt t.arena y).level = 0 ∨ k2 = 0) : o = leafP t (ids.take (k + 1)) := by
  rcases hk with hk | hk
  · exact absurd hk hl
  · subst hk; rw [h]; unfold leafP; rw [leafE_snoc hy, List.map_append, leafOne, if_neg hl]; simp
theorem leafP_next {t : Tree} {ids : List Int} {k : Nat} {o : List Pair} {k2 : Nat} {y : Int} (h : o = leafP t (ids.take k) ++ (((nodeAt t.arena y).entries.take k2).map pairOf)) (hy : ids[k]? = some y) (hk : (nodeAt t.arena y).level = 0 ∨ k2 = 0) (he : (nodeAt t.arena y).level = 0 → (nodeAt t.arena y).entries.length ≤ k2) : o = leafP t (ids.take (k + 1)) := by
  rcases Decidable.em ((nodeAt t.arena y).level = 0) with hz | hz
  · exact leafP_done h hy hz (he hz)
  · exact leafP_skip h hy hz hk
theorem leafP_on {l : List Entry} {o q : List Pair} {k2 : Nat} {e : Entry} (h : o = q ++ ((l.take k2).map pairOf)) (he : l[k2]? = some e) : o ++ [pairOf e] = q ++ ((l.take (k2 + 1)).map pairOf) := by
  rw [h, take_snoc he, List.map_append, List.append_assoc]; rfl
theorem uniqP {l : List Entry} : Uniq Pair.id (l.map pairOf) ↔ Uniq Entry.ref l := by
  unfold Uniq; rw [List.pairwise_map]; rfl
def shapeOf (t : Tree) : List Int := if treeRight t = true then wk t else []
/-! spec.l6Pairs -/
set_option maxRecDepth 20000 in
set_option maxHeartbeats 2000000 in
theorem spec_l6Pairs (w : World) {At2 : Option Addr} {ct2 : Nat} {At3 : Option Addr} {ct3 : Nat} {At4 : Option Addr} {ct4 : Nat} {t : Tree} {st_ : List Nat} {pt : Addr} (ht : (ptr kTreeS pt [.int .i64 t.style, .int .i64 t.arena.dims, .slice At2 t.arena.nodes.length ct2, .slice At3 t.arena.free.length ct3, .slice At4 t.arena.retired.length ct4, .int .i64 t.root, .int .i64 t.rootNsn, .int .i64 t.counter] t st_).P w) {Aids : Option Addr} {cids : Nat} {ids : List Int} {sids_ : List Nat} (hids : (Kd.sl Kd.i64).Rel w [.slice Aids ids.length cids] ids [] sids_) (hS : Sound t.arena) (hi : ∀ x ∈ ids, isPlace t.arena x = true) (hl : ids.length ≤ 40) : Calls Tryz.prog 81 #[.pointer (some pt), .slice Aids ids.length cids] w (Made (Kd.row 91 kPairS) w (leafP t ids) (st_)) := by
  have Lids := Kd.sl_len hids; have Cids := Kd.sl_cap hids
  have hwk : ∀ x ∈ ids, 0 ≤ x ∧ x < (t.arena.nodes.length : Int) := fun x hx => by (have z := within_t (hi x hx); omega)
  refine fnc (X := X9 63 w) (args := [.pointer (some pt), .slice Aids ids.length cids]) (l := [(0, .pointer (some pt)), (1, .slice Aids ids.length cids)]) (G := [dat (Kd.sl Kd.i64) [.slice Aids ids.length cids] ids ([]) sids_, ptr kTreeS pt [.int .i64 t.style, .int .i64 t.arena.dims, .slice At2 t.arena.nodes.length ct2, .slice At3 t.arena.free.length ct3, .slice At4 t.arena.retired.length ct4, .int .i64 t.root, .int .i64 t.rootNsn, .int .i64 t.counter] t st_]) Tryz.func81 rfl rfl rfl ⟨rfl, rfl, trivial⟩ (s0d hids (s0p ht (s0n w))).1 ?_
  refine sq (rg (a_ rfl rfl (en (nx (sq (rg (bs0 (dk := kPairS) rfl info91 rfl rfl ?_)))))))
  intro b1
  refine a_ rfl rfl (en (nx (sq (sq (rg (a_ rfl rfl (en (nx (bk ?_)))))))))
  refine lp (σ := Nat × List Pair × Option Addr × Nat × List Nat × List Nat) (fun z_ : Nat × List Pair × Option Addr × Nat × List Nat × List Nat => match z_ with | (k, out, A_out, c_out, o_out, s_out) => [(0, .pointer (some pt)), (1, .slice Aids ids.length cids), (5, .slice A_out out.length c_out), (6, .int .i64 ((k : Nat) : Int))])
      (fun z_ : Nat × List Pair × Option Addr × Nat × List Nat × List Nat => match z_ with | (k, out, A_out, c_out, o_out, s_out) => [dat (Kd.row 91 kPairS) [.slice A_out out.length c_out] out o_out s_out, dat (Kd.sl Kd.i64) [.slice Aids ids.length cids] ids ([]) sids_, ptr kTreeS pt [.int .i64 t.style, .int .i64 t.arena.dims, .slice At2 t.arena.nodes.length ct2, .slice At3 t.arena.free.length ct3, .slice At4 t.arena.retired.length ct4, .int .i64 t.root, .int .i64 t.rootNsn, .int .i64 t.counter] t st_])
      (fun z_ : Nat × List Pair × Option Addr × Nat × List Nat × List Nat => match z_ with | (k, out, A_out, c_out, o_out, s_out) => (k ≤ ids.length ∧ out = leafP t (ids.take k) ∧ out.length ≤ 5 * k) ∧ (∀ q ∈ s_out, q ∈ st_ ∨ w.heap.size ≤ q)) (fun z_ : Nat × List Pair × Option Addr × Nat × List Nat × List Nat => match z_ with | (k, out, A_out, c_out, o_out, s_out) => ids.length - k) (0, [], (some ⟨b1, 0, none⟩), 0, [b1], []) [0, 0, 0] ⟨⟨Nat.zero_le _, by simp [leafP, leafE], by simp⟩, by grind⟩ ⟨rfl, rfl, rfl, rfl, trivial⟩ rfl ?_
  rintro ⟨k, out, A_out, c_out, o_out, s_out⟩ hp_
  obtain ⟨hinv, hseeout⟩ := hp_
  refine sq (sq (rg (m_ rfl rfl (m_ rfl rfl (vl (ln rfl rfl rfl) rfl (vl (cm rfl rfl rfl rfl) rfl (en (nx ?_))))))))
  by_cases h2 : ((k : Nat) : Int) < ((ids.length : Nat) : Int)
  · refine ct rfl (decide_eq_true h2) (sk (nx (sq (bk (sq ?_)))))
    refine gx 1 k rfl (by first | omega | (have z := hwk _ (List.mem_of_getElem? (by assumption)); omega)) fun y8 p3 cs_ s4 w7 m9 e5 r6 us4 => ?_
    obtain ⟨rfl, -, -⟩ := r6
    refine gp 3 kTreeS_p2_1 rfl (cs' := [.slice At2 t.arena.nodes.length ct2]) rfl fun s10 w_ rs10 us10 => ?_
    have Ls10 := Kd.sl_len rs10; have Cs10 := Kd.sl_cap rs10
    refine gx 0 y8.toNat rfl (by first | omega | (have z := hwk _ (List.mem_of_getElem? (by assumption)); omega)) fun y16 p11 cs_ s12 w15 m17 e13 r14 us12 => ?_
    obtain ⟨A18, c19, rfl⟩ := kNodeS_sh r14
    have ey16 := nodeAt_of m17; subst ey16
    have znn20 := (node_0 (hS.node _ (List.mem_of_getElem? m17))).2.2.2.1
    refine r0 (qv 0 rfl (mv rfl rfl) rfl (by kernel_rfl) (qv 1 rfl (nc rfl rfl) rfl (by kernel_rfl) (qv 2 rfl (fa rfl rfl rfl) rfl (by kernel_rfl) (qv 3 rfl (fb rfl rfl rfl) rfl (by kernel_rfl) (qv 4 rfl (ldp (u := .slice At2 t.arena.nodes.length ct2) 5 rfl rfl rfl rfl rfl rfl rfl) rfl (by kernel_rfl) (qv 5 rfl (mv rfl rfl) rfl (by kernel_rfl) (qv 6 rfl (mv rfl rfl) rfl (by kernel_rfl) (qv 7 rfl (ix k e5 rfl rfl rfl rfl rfl (by first | omega | (have z := hwk _ (List.mem_of_getElem? (by assumption)); omega))) rfl (by kernel_rfl) (qv 8 rfl (ldq (u := .int .i64 y8) 2 rfl rfl rfl rfl rfl rfl rfl) rfl (by kernel_rfl) (qv 9 rfl (ixz y8.toNat (by first | omega | (have z := hwk _ (List.mem_of_getElem? (by assumption)); omega)) e13 rfl rfl rfl rfl rfl (by first | omega | (have z := hwk _ (List.mem_of_getElem? (by assumption)); omega))) rfl (by kernel_rfl) (qv 10 rfl (as_ rfl rfl) rfl (by kernel_rfl) (qe [0, 0, 0, 0, 0, 0] (by kernel_rfl) rfl (nx (sq (rg (a_ rfl rfl (en (nx (bk ?_)))))))))))))))))))
    refine lp (σ := Nat × List Pair × Option Addr × Nat × List Nat × List Nat) (fun z_ : Nat × List Pair × Option Addr × Nat × List Nat × List Nat => match z_ with | (k2, out2, A_out2, c_out2, o_out2, s_out2) => [(0, .pointer (some pt)), (1, .slice Aids ids.length cids), (5, .slice A_out2 out2.length c_out2), (6, .int .i64 ((k : Nat) : Int)), (7, .pointer (some p11)), (8, .int .i64 ((k2 : Nat) : Int))])
        (fun z_ : Nat × List Pair × Option Addr × Nat × List Nat × List Nat => match z_ with | (k2, out2, A_out2, c_out2, o_out2, s_out2) => [dat (Kd.row 91 kPairS) [.slice A_out2 out2.length c_out2] out2 o_out2 s_out2, ptr kNodeS p11 [.int .i64 ((nodeAt t.arena y8).level), .int .i64 ((nodeAt t.arena y8).nsn), .int .i64 ((nodeAt t.arena y8).right), .slice A18 ((nodeAt t.arena y8).entries.length) c19] (nodeAt t.arena y8) s12, dat (Kd.sl kNodeS) [.slice At2 t.arena.nodes.length ct2] t.arena.nodes ([]) s10, ptr Kd.i64 p3 [.int .i64 y8] y8 s4, dat (Kd.sl Kd.i64) [.slice Aids ids.length cids] ids ([]) sids_, ptr kTreeS pt [.int .i64 t.style, .int .i64 t.arena.dims, .slice At2 t.arena.nodes.length ct2, .slice At3 t.arena.free.length ct3, .slice At4 t.arena.retired.length ct4, .int .i64 t.root, .int .i64 t.rootNsn, .int .i64 t.counter] t st_])
        (fun z_ : Nat × List Pair × Option Addr × Nat × List Nat × List Nat => match z_ with | (k2, out2, A_out2, c_out2, o_out2, s_out2) => (k2 ≤ (nodeAt t.arena y8).entries.length ∧ out2 = leafP t (ids.take k) ++ (((nodeAt t.arena y8).entries.take k2).map pairOf) ∧ out2.length ≤ 5 * k + k2 ∧ ((nodeAt t.arena y8).level = 0 ∨ k2 = 0)) ∧ (∀ q ∈ s_out2, q ∈ st_ ∨ w.heap.size ≤ q)) (fun z_ : Nat × List Pair × Option Addr × Nat × List Nat × List Nat => match z_ with | (k2, out2, A_out2, c_out2, o_out2, s_out2) => (nodeAt t.arena y8).entries.length - k2) (0, out, A_out, c_out, o_out, s_out) [3, 0, 0, 0, 0, 0] ⟨⟨Nat.zero_le _, by simpa using hinv.2.1, by omega, .inr rfl⟩, by grind⟩ ⟨rfl, rfl, rfl, rfl, rfl, rfl, trivial⟩ rfl ?_
    rintro ⟨k2, out2, A_out2, c_out2, o_out2, s_out2⟩ hp_
    obtain ⟨hinv2, hsee2out2⟩ := hp_
    refine sq (sq (rg (m_ rfl rfl (m_ rfl rfl (vl (nc rfl rfl) rfl (vl (fa rfl rfl rfl) rfl (vl (ldp (u := .slice A18 ((nodeAt t.arena y8).entries.length) c19) 1 rfl rfl rfl rfl rfl rfl rfl) rfl (vl (ln rfl rfl rfl) rfl (vl (cm rfl rfl rfl rfl) rfl (m_ rfl rfl ?_))))))))))
    by_cases h21 : ((k2 : Nat) : Int) < (((nodeAt t.arena y8).entries.length : Nat) : Int)
    · refine vg (mv rfl rfl) rfl rfl (decide_eq_true h21) (vg (nc rfl rfl) rfl rfl (decide_eq_true h21) (vg (fa rfl rfl rfl) rfl rfl (decide_eq_true h21) (vg (ldp (u := .int .i64 ((nodeAt t.arena y8).level)) 1 rfl rfl rfl rfl rfl rfl rfl) rfl rfl (decide_eq_true h21) (vg (cm rfl rfl rfl rfl) rfl rfl (decide_eq_true h21) (vl (pk (b := true) rfl rfl (decide_eq_true h21) rfl) rfl (en (nx ?_)))))))
      by_cases h22 : (nodeAt t.arena y8).level = (0 : Int)
      · refine ct rfl (beq_iff_eq.2 h22) (sk (nx (sq (bk ?_))))
        refine gp 1 kNodeS_p3_1 rfl (cs' := [.slice A18 ((nodeAt t.arena y8).entries.length) c19]) rfl fun s23 w_ rs23 us23 => ?_
        have Ls23 := Kd.sl_len rs23; have Cs23 := Kd.sl_cap rs23
        refine gx 0 k2 rfl (by first | omega | (have z := hwk _ (List.mem_of_getElem? (by assumption)); omega)) fun y29 p24 cs_ s25 w28 m30 e26 r27 us25 => ?_
        obtain ⟨A31, c32, A33, c34, rfl⟩ := kEntryS_sh r27
        refine rd (Gq := [ptr kEntryS p24 [.slice A31 y29.rect.low.length c32, .slice A33 y29.rect.high.length c34, .int .i64 y29.ref, .int .i64 y29.nsn] y29 s25, dat (Kd.sl kEntryS) [.slice A18 ((nodeAt t.arena y8).entries.length) c19] ((nodeAt t.arena y8).entries) ([]) s23, ptr kNodeS p11 [.int .i64 ((nodeAt t.arena y8).level), .int .i64 ((nodeAt t.arena y8).nsn), .int .i64 ((nodeAt t.arena y8).right), .slice A18 ((nodeAt t.arena y8).entries.length) c19] (nodeAt t.arena y8) s12, dat (Kd.sl kNodeS) [.slice At2 t.arena.nodes.length ct2] t.arena.nodes ([]) s10, ptr Kd.i64 p3 [.int .i64 y8] y8 s4, dat (Kd.sl Kd.i64) [.slice Aids ids.length cids] ids ([]) sids_, ptr kTreeS pt [.int .i64 t.style, .int .i64 t.arena.dims, .slice At2 t.arena.nodes.length ct2, .slice At3 t.arena.free.length ct3, .slice At4 t.arena.retired.length ct4, .int .i64 t.root, .int .i64 t.rootNsn, .int .i64 t.counter] t st_]) [0, 0, 1, 1, 1, 1, 1] rfl (qv 0 rfl (mv rfl rfl) rfl (by kernel_rfl) (qv 1 rfl (mv rfl rfl) rfl (by kernel_rfl) (qv 2 rfl (nc rfl rfl) rfl (by kernel_rfl) (qv 3 rfl (fa rfl rfl rfl) rfl (by kernel_rfl) (qv 4 rfl (ldp (u := .slice A18 ((nodeAt t.arena y8).entries.length) c19) 2 rfl rfl rfl rfl rfl rfl rfl) rfl (by kernel_rfl) (qv 5 rfl (mv rfl rfl) rfl (by kernel_rfl) (qv 6 rfl (ix k2 e26 rfl rfl rfl rfl rfl (by first | omega | (have z := hwk _ (List.mem_of_getElem? (by assumption)); omega))) rfl (by kernel_rfl) (qv 7 rfl (fa rfl rfl rfl) rfl (by kernel_rfl) (qv 8 rfl (ldp (u := .int .i64 y29.ref) 0 rfl rfl rfl rfl rfl rfl rfl) rfl (by kernel_rfl) (qv 9 rfl (mv rfl rfl) rfl (by kernel_rfl) (qv 10 rfl (nc rfl rfl) rfl (by kernel_rfl) (qv 11 rfl (fa rfl rfl rfl) rfl (by kernel_rfl) (qv 12 rfl (ldp (u := .slice A18 ((nodeAt t.arena y8).entries.length) c19) 2 rfl rfl rfl rfl rfl rfl rfl) rfl (by kernel_rfl) (qv 13 rfl (mv rfl rfl) rfl (by kernel_rfl) (qv 14 rfl (ix k2 e26 rfl rfl rfl rfl rfl (by first | omega | (have z := hwk _ (List.mem_of_getElem? (by assumption)); omega))) rfl (by kernel_rfl) (qv 15 rfl (fa rfl rfl rfl) rfl (by kernel_rfl) (qv 16 rfl (ldp 0 rfl rfl rfl rfl rfl rfl rfl) rfl (by kernel_rfl) (qv 17 rfl (bd bld91 rfl rfl rfl) rfl (by kernel_rfl) (q1 18 [0, 0, 1, 1, 1, 1, 1] rfl (by kernel_rfl) rfl ?_)))))))))))))))))))
        refine gp 0 kEntryS_p0_2 rfl (cs' := [.slice A31 y29.rect.low.length c32, .slice A33 y29.rect.high.length c34]) rfl fun s36 w_ rs36 us36 => ?_
        refine gs Kd.i64 [.int .i64 y29.ref] ((pairOf y29).id) (fun _ => ⟨rfl, rfl, rfl⟩) (gj (da := (Kd.via Kd.i64 Pair.id)) (db := (Kd.via kRectS Pair.rect)) (x := (pairOf y29)) (cs := [.int .i64 y29.ref, .slice A31 y29.rect.low.length c32, .slice A33 y29.rect.high.length c34]) rfl ?_)
        refine bs1 (dk := kPairS) rfl info91 (by decide) rfl rfl rfl rfl ?_
        intro b35
        refine qn (q1 19 [1, 1, 2, 2, 2, 2, 2] rfl (by kernel_rfl) rfl ?_)
        refine f3 (ap (out2 ++ [(pairOf y29)]) rfl info91 rfl rfl (by decide) rfl rfl rfl rfl (by rw [List.length_append, List.length_cons, List.length_nil]; omega) (by rw [List.length_append, List.length_cons, List.length_nil]; omega) rfl (fun A37 c38 o39 s40 t41 => ?_))
        refine qn (qv 20 rfl (as_ rfl rfl) rfl (by kernel_rfl) (qe [1, 1, 1, 1, 1, 1, 1] (by kernel_rfl) rfl (xn (nx (rg (m_ rfl rfl (vl (ra (c := ((k2 + 1 : Nat) : Int)) rfl rfl rfl (by omega) (by omega) (by omega)) rfl (a_ rfl rfl (en ?_)))))))))
        exact lpe (s := (k2, out2, A_out2, c_out2, o_out2, s_out2)) (k2 + 1, (out2 ++ [(pairOf y29)]), A37, c38, o39, s40) [0, 2, 2, 2, 2, 2] ⟨⟨by omega, leafP_on hinv2.2.1 m30, by rw [List.length_append, List.length_cons, List.length_nil]; omega, .inl h22⟩, by grind⟩ (by show (nodeAt t.arena y8).entries.length - (k2 + 1) < (nodeAt t.arena y8).entries.length - k2; omega) ⟨rfl, rfl, rfl, rfl, rfl, rfl, trivial⟩ rfl
      · refine cf rfl (beq_eq_false_iff_ne.2 h22) (xt (xq (xq (xb (xn (nx (rg (m_ rfl rfl (vl (ra (c := ((k + 1 : Nat) : Int)) rfl rfl rfl (by omega) (by omega) (by omega)) rfl (a_ rfl rfl (en ?_)))))))))))
        exact lpe (s := (k, out, A_out, c_out, o_out, s_out)) (k + 1, out2, A_out2, c_out2, o_out2, s_out2) [0, 3, 3] ⟨⟨by omega, leafP_next hinv2.2.1 m9 hinv2.2.2.2 (fun hz => absurd hz h22), by have z := hinv2.2.2.1; omega⟩, by grind⟩ (by show ids.length - (k + 1) < ids.length - k; omega) ⟨rfl, rfl, rfl, rfl, trivial⟩ rfl
    · refine sg rfl rfl (decide_eq_false h21) (sg rfl rfl (decide_eq_false h21) (sg rfl rfl (decide_eq_false h21) (sg rfl rfl (decide_eq_false h21) (sg rfl rfl (decide_eq_false h21) (vl (pk (b := false) rfl rfl (decide_eq_false h21) rfl) rfl (en (nx (cf rfl rfl (xt (xq (xq (xb (xn (nx (rg (m_ rfl rfl (vl (ra (c := ((k + 1 : Nat) : Int)) rfl rfl rfl (by omega) (by omega) (by omega)) rfl (a_ rfl rfl (en ?_)))))))))))))))))))
      exact lpe (s := (k, out, A_out, c_out, o_out, s_out)) (k + 1, out2, A_out2, c_out2, o_out2, s_out2) [0, 3, 3] ⟨⟨by omega, leafP_next hinv2.2.1 m9 hinv2.2.2.2 (fun _ => by omega), by have z := hinv2.2.2.1; omega⟩, by grind⟩ (by show ids.length - (k + 1) < ids.length - k; omega) ⟨rfl, rfl, rfl, rfl, trivial⟩ rfl
  · exact cf rfl (decide_eq_false h2) (xt (xq (xq (xb (nx (sq (rg (m_ rfl rfl (a_ rfl rfl (en (nx (rt (gr (leafP t ids) (by rw [hinv.2.1, List.take_of_length_le (by omega)]) (ret1 rfl rfl (fun w_ hs_ => made hs_ rfl (by grind))))))))))))))))
theorem uniqP_no {t : Tree} {k : Nat} {y : Pair} (hy : (leafP t (wk t))[k]? = some y) (h : ¬ idx (fun x => x.id == y.id) (leafP t (wk t)) = (k : Int)) : ¬ Uniq Entry.ref (leafE t (wk t)) := fun hu => uniq_no2 hy h (uniqP.2 hu)
theorem leafP_len {t : Tree} {ids : List Int} : (leafP t ids).length = (leafE t ids).length := by simp [leafP]
theorem shape_f {t : Tree} (h : false = treeRight t) : [] = shapeOf t := by unfold shapeOf; rw [← h]; rfl
theorem shape_t {t : Tree} (h : true = treeRight t) : wk t = shapeOf t := by unfold shapeOf; rw [← h]; rfl
/-! spec.l6Shape -/
set_option maxRecDepth 20000 in
set_option maxHeartbeats 2000000 in
theorem spec_l6Shape (w : World) {At2 : Option Addr} {ct2 : Nat} {At3 : Option Addr} {ct3 : Nat} {At4 : Option Addr} {ct4 : Nat} {t : Tree} {st_ : List Nat} {pt : Addr} (ht : (ptr kTreeS pt [.int .i64 t.style, .int .i64 t.arena.dims, .slice At2 t.arena.nodes.length ct2, .slice At3 t.arena.free.length ct3, .slice At4 t.arena.retired.length ct4, .int .i64 t.root, .int .i64 t.rootNsn, .int .i64 t.counter] t st_).P w) (hS : Sound t.arena) (hp : isPlace t.arena t.root = true) : Calls Tryz.prog 45 #[.pointer (some pt)] w (MadeT (Kd.row 2 Kd.i64) w (shapeOf t) [] (fun v_ => .tuple #[v_, .bool (treeRight t)])) := by
  have hq := within_t hp; have hnl := node_0 (hS.node _ (nodeAt_mem hp).1); have hll := leaf_len hS hp; have hwk := wk_at hp; have hsl := hS.len; have hpl := leafP_len (t := t) (ids := wk t)
  refine fnc (X := X9 109 w) (args := [.pointer (some pt)]) (l := [(0, .pointer (some pt))]) (G := [ptr kTreeS pt [.int .i64 t.style, .int .i64 t.arena.dims, .slice At2 t.arena.nodes.length ct2, .slice At3 t.arena.free.length ct3, .slice At4 t.arena.retired.length ct4, .int .i64 t.root, .int .i64 t.rootNsn, .int .i64 t.counter] t st_]) Tryz.func45 rfl rfl rfl ⟨rfl, trivial⟩ (s0p ht (s0n w)).1 ?_
  refine sq (rg (a_ rfl rfl (a_ rfl rfl (en (nx (sq (rg (m_ rfl rfl (vl (nc rfl rfl) rfl (vl (fa rfl rfl rfl) rfl (a_ rfl rfl (en (nx (sq (sq ?_)))))))))))))))
  refine gq 0 kTreeS_p1_4 rfl (cs' := [.int .i64 t.arena.dims, .slice At2 t.arena.nodes.length ct2, .slice At3 t.arena.free.length ct3, .slice At4 t.arena.retired.length ct4]) rfl fun s1 w_ rs1 us1 => ?_
  by_cases h2 : isUsed t.arena t.root = true
  · refine gp 0 kArenaS_p1_1 rfl (cs' := [.slice At2 t.arena.nodes.length ct2]) rfl fun s3 w_ rs3 us3 => ?_
    have Ls3 := Kd.sl_len rs3; have Cs3 := Kd.sl_cap rs3
    refine gx 0 t.root.toNat rfl (by omega) fun y9 p4 cs_ s5 w8 m10 e6 r7 us5 => ?_
    obtain ⟨A11, c12, rfl⟩ := kNodeS_sh r7
    have ey9 := nodeAt_of m10; subst ey9
    refine r0 (qv 0 rfl (mv rfl rfl) rfl (by kernel_rfl) (qv 1 rfl (mv rfl rfl) rfl (by kernel_rfl) (qv 2 rfl (nc rfl rfl) rfl (by kernel_rfl) (qv 3 rfl (fa rfl rfl rfl) rfl (by kernel_rfl) (qv 4 rfl (ldp (u := .int .i64 t.root) 3 rfl rfl rfl rfl rfl rfl rfl) rfl (by kernel_rfl) (q1 5 [0, 0, 0, 0] rfl (by kernel_rfl) rfl (cs_ (v := .bool (isUsed t.arena t.root)) (by kernel_rfl) rfl rfl rfl (fun w_ hs_ => by exact spec_l6Used w_ _ (hs_.at 2 rfl)) (qn (qv 6 rfl (nt rfl rfl) rfl (by kernel_rfl) (qv 7 rfl (mv rfl rfl) rfl (by kernel_rfl) (qg 8 rfl (mv rfl rfl) rfl rfl (not_f h2) (by kernel_rfl) (qg 9 rfl (nc rfl rfl) rfl rfl (not_f h2) (by kernel_rfl) (qg 10 rfl (fb rfl rfl rfl) rfl rfl (not_f h2) (by kernel_rfl) (qg 11 rfl (ldp (u := .slice At2 t.arena.nodes.length ct2) 3 rfl rfl rfl rfl rfl rfl rfl) rfl rfl (not_f h2) (by kernel_rfl) (qg 12 rfl (mv rfl rfl) rfl rfl (not_f h2) (by kernel_rfl) (qg 13 rfl (nc rfl rfl) rfl rfl (not_f h2) (by kernel_rfl) (qg 14 rfl (fa rfl rfl rfl) rfl rfl (not_f h2) (by kernel_rfl) (qg 15 rfl (ldp (u := .int .i64 t.root) 3 rfl rfl rfl rfl rfl rfl rfl) rfl rfl (not_f h2) (by kernel_rfl) (qg 16 rfl (ixz t.root.toNat (by omega) e6 rfl rfl rfl rfl rfl (by omega)) rfl rfl (not_f h2) (by kernel_rfl) (qg 17 rfl (fa rfl rfl rfl) rfl rfl (not_f h2) (by kernel_rfl) (qg 18 rfl (ldp (u := .int .i64 ((nodeAt t.arena t.root).nsn)) 0 rfl rfl rfl rfl rfl rfl rfl) rfl rfl (not_f h2) (by kernel_rfl) (qg 19 rfl (mv rfl rfl) rfl rfl (not_f h2) (by kernel_rfl) (qg 20 rfl (nc rfl rfl) rfl rfl (not_f h2) (by kernel_rfl) (qg 21 rfl (fa rfl rfl rfl) rfl rfl (not_f h2) (by kernel_rfl) (qg 22 rfl (ldp (u := .int .i64 t.rootNsn) 3 rfl rfl rfl rfl rfl rfl rfl) rfl rfl (not_f h2) (by kernel_rfl) (qg 23 rfl (cm rfl rfl rfl rfl) rfl rfl (not_f h2) (by kernel_rfl) (qv 24 rfl (pk (b := false) rfl rfl (not_f h2) rfl) rfl (by kernel_rfl) (qe [0, 0, 0, 0] (by kernel_rfl) rfl (nx ?_)))))))))))))))))))))))))))))
    by_cases h13 : (nodeAt t.arena t.root).nsn = t.rootNsn
    · refine cf rfl (bne_eq_false_iff_eq.2 h13) (sk (nx (sq (sq (rg (a_ rfl rfl (en (nx (bk ?_)))))))))
      refine lp (σ := Nat) (fun k0 : Nat => [(0, .pointer (some pt)), (4, .pointer (some (pt.add 1))), (5, .int .i64 ((k0 : Nat) : Int))])
          (fun k0 : Nat => [dat (Kd.sl kNodeS) [.slice At2 t.arena.nodes.length ct2] t.arena.nodes ([]) s3, ptr kTreeS pt [.int .i64 t.style, .int .i64 t.arena.dims, .slice At2 t.arena.nodes.length ct2, .slice At3 t.arena.free.length ct3, .slice At4 t.arena.retired.length ct4, .int .i64 t.root, .int .i64 t.rootNsn, .int .i64 t.counter] t st_])
          (fun k0 : Nat => k0 ≤ t.arena.nodes.length ∧ ∀ j x, j < k0 → t.arena.nodes[j]? = some x → decide (t.counter < x.nsn) = false) (fun k0 : Nat => t.arena.nodes.length - k0) 0 [1, 2] ⟨Nat.zero_le _, by simp⟩ ⟨rfl, rfl, rfl, trivial⟩ rfl ?_
      intro k0 hp_
      obtain ⟨hkn, hcnt⟩ := hp_
      refine sq (sq (rg (m_ rfl rfl (m_ rfl rfl (vl (nc rfl rfl) rfl (vl (fb rfl rfl rfl) rfl (vl (ldp (u := .slice At2 t.arena.nodes.length ct2) 1 rfl rfl rfl rfl rfl rfl rfl) rfl (vl (ln rfl rfl rfl) rfl (vl (cm rfl rfl rfl rfl) rfl (en (nx ?_)))))))))))
      by_cases h14 : ((k0 : Nat) : Int) < ((t.arena.nodes.length : Nat) : Int)
      · refine ct rfl (decide_eq_true h14) (sk (nx (sq (bk (sq ?_)))))
        refine gx 0 k0 rfl (by omega) fun y20 p15 cs_ s16 w19 m21 e17 r18 us16 => ?_
        obtain ⟨A22, c23, rfl⟩ := kNodeS_sh r18
        refine r0 (qv 0 rfl (mv rfl rfl) rfl (by kernel_rfl) (qv 1 rfl (nc rfl rfl) rfl (by kernel_rfl) (qv 2 rfl (fb rfl rfl rfl) rfl (by kernel_rfl) (qv 3 rfl (ldp (u := .slice At2 t.arena.nodes.length ct2) 2 rfl rfl rfl rfl rfl rfl rfl) rfl (by kernel_rfl) (qv 4 rfl (mv rfl rfl) rfl (by kernel_rfl) (qv 5 rfl (ix k0 e17 rfl rfl rfl rfl rfl (by omega)) rfl (by kernel_rfl) (qv 6 rfl (fa rfl rfl rfl) rfl (by kernel_rfl) (qv 7 rfl (ldp (u := .int .i64 y20.nsn) 0 rfl rfl rfl rfl rfl rfl rfl) rfl (by kernel_rfl) (qv 8 rfl (mv rfl rfl) rfl (by kernel_rfl) (qv 9 rfl (nc rfl rfl) rfl (by kernel_rfl) (qv 10 rfl (fa rfl rfl rfl) rfl (by kernel_rfl) (qv 11 rfl (ldp (u := .int .i64 t.counter) 2 rfl rfl rfl rfl rfl rfl rfl) rfl (by kernel_rfl) (qv 12 rfl (cm rfl rfl rfl rfl) rfl (by kernel_rfl) (qe [0, 0, 0] (by kernel_rfl) rfl (nx ?_)))))))))))))))
        by_cases h24 : t.counter < y20.nsn
        · refine ct rfl (decide_eq_true h24) (sq (rg (a_ rfl rfl (a_ rfl rfl (en (nx (rt (xrb (xr (xr (xrb (xr ?_))))))))))))
          have hw25 : false = treeRight t := right_3 (any_some (p := fun n => decide (t.counter < n.nsn)) m21 (decide_eq_true h24))
          exact gs (Kd.row 2 Kd.i64) [.slice none 0 0] [] (fun _ => .inl ⟨rfl, rfl, rfl, rfl⟩) (gr (shapeOf t) (shape_f hw25) (ret2 rfl rfl rfl (fun w_ hs_ => madeT hs_ rfl (by rw [← hw25]; rfl) see_nil)))
        · exact cf rfl (decide_eq_false h24) (sk (xn (nx (rg (m_ rfl rfl (vl (ra (c := ((k0 + 1 : Nat) : Int)) rfl rfl rfl (by omega) (by omega) (by omega)) rfl (a_ rfl rfl (en (lpe (s := k0) (k0 + 1) [1, 1] ⟨by omega, idx_step (p := fun n : Node => decide (t.counter < n.nsn)) hcnt m21 (decide_eq_false h24)⟩ (by omega) ⟨rfl, rfl, rfl, trivial⟩ rfl)))))))))
      · refine cf rfl (decide_eq_false h14) (xt (xq (xq (xb (nx (sq (rg (m_ rfl rfl (m_ rfl rfl (vl (nc rfl rfl) rfl (vl (fa rfl rfl rfl) rfl (vl (ldp (u := .int .i64 t.root) 1 rfl rfl rfl rfl rfl rfl rfl) rfl (gs (Kd.row 2 Kd.i64) [.slice none 0 0] [] (fun _ => .inl ⟨rfl, rfl, rfl, rfl⟩) (coT (dk := (Kd.row 2 Kd.i64)) (x := (walkM t (nodeAt t.arena t.root).level.toNat t.root ([]))) (S := ([])) (f := (fun v_ => .tuple #[v_, .bool ((walkF t (nodeAt t.arena t.root).level.toNat t.root ([])).isSome)])) (by kernel_rfl) rfl rfl rfl (snt 0 rfl) _ (fun _ hs_ => hs_.below.size) (fun w_ hs_ => (spec_l6Walk _) w_ _ ((hs_.pk [0, 1] rfl).nl) hS hp (by simp) Met.nil (by omega)) (fun cs_ o28 s29 w_ r30 t31 => ?_)))))))))))))))
        obtain ⟨A26, c27, rfl⟩ := Kd.row_sh r30
        refine m_ rfl rfl (vl (ex rfl rfl rfl) rfl (vl (ex rfl rfl rfl) rfl (a_ rfl rfl (a_ rfl rfl (en (nx (sq (sq (rg (m_ rfl rfl (vl (nt rfl rfl) rfl (en (nx ?_)))))))))))))
        by_cases h32 : (walkF t (nodeAt t.arena t.root).level.toNat t.root ([])).isSome = true
        · refine cf rfl (not_f h32) (sk (nx (sq (sq (rg (a_ rfl rfl (en (nx (bk (gr (wk t) rfl ?_))))))))))
          refine lp (σ := Nat) (fun k : Nat => [(0, .pointer (some pt)), (4, .pointer (some (pt.add 1))), (6, .slice A26 ((walkM t (nodeAt t.arena t.root).level.toNat t.root ([])).length) c27), (8, .int .i64 ((k : Nat) : Int))])
              (fun k : Nat => [dat (Kd.row 2 Kd.i64) [.slice A26 ((walkM t (nodeAt t.arena t.root).level.toNat t.root ([])).length) c27] (wk t) o28 s29, dat (Kd.sl kNodeS) [.slice At2 t.arena.nodes.length ct2] t.arena.nodes ([]) s3, ptr kTreeS pt [.int .i64 t.style, .int .i64 t.arena.dims, .slice At2 t.arena.nodes.length ct2, .slice At3 t.arena.free.length ct3, .slice At4 t.arena.retired.length ct4, .int .i64 t.root, .int .i64 t.rootNsn, .int .i64 t.counter] t st_])
              (fun k : Nat => k ≤ t.arena.nodes.length ∧ ∀ j : Nat, j < k → isUsed t.arena (j : Int) = true → (j : Int) ∈ wk t) (fun k : Nat => t.arena.nodes.length - k) 0 [0, 0, 0] ⟨Nat.zero_le _, by simp⟩ ⟨rfl, rfl, rfl, rfl, trivial⟩ rfl ?_
          intro k hp_
          obtain ⟨hk, hids⟩ := hp_
          refine sq (sq (rg (m_ rfl rfl (m_ rfl rfl (vl (nc rfl rfl) rfl (vl (fb rfl rfl rfl) rfl (vl (ldp (u := .slice At2 t.arena.nodes.length ct2) 2 rfl rfl rfl rfl rfl rfl rfl) rfl (vl (ln rfl rfl rfl) rfl (vl (cm rfl rfl rfl rfl) rfl (en (nx ?_)))))))))))
          by_cases h33 : ((k : Nat) : Int) < ((t.arena.nodes.length : Nat) : Int)
          · refine ct rfl (decide_eq_true h33) (sk (nx (sq (bk (sq (rg (m_ rfl rfl (m_ rfl rfl ?_))))))))
            refine gq 2 kTreeS_p1_4 rfl (cs' := [.int .i64 t.arena.dims, .slice At2 t.arena.nodes.length ct2, .slice At3 t.arena.free.length ct3, .slice At4 t.arena.retired.length ct4]) rfl fun s34 w_ rs34 us34 => ?_
            refine cs_ (v := .bool (isUsed t.arena ((k : Nat) : Int))) (by kernel_rfl) rfl rfl rfl (fun w_ hs_ => spec_l6Used w_ _ (hs_.at 0 rfl)) (m_ rfl rfl ?_)
            by_cases h35 : isUsed t.arena ((k : Nat) : Int) = true
            · refine vg (mv rfl rfl) rfl rfl h35 (vg (mv rfl rfl) rfl rfl h35 (gw rfl rfl h35 (cs_ (v := .bool (decide (((k : Nat) : Int) ∈ (wk t)))) (by kernel_rfl) rfl rfl rfl (fun w_ hs_ => bor (Kd.Seals.row Kd.Seals.i64 _) (hs_.at 1 rfl) fun _ lb0_ => spec_l1Has w_ _ lb0_) (vg (nt rfl rfl) rfl rfl h35 (vl (pk (b := true) rfl rfl h35 rfl) rfl (en (nx ?_)))))))
              by_cases h36 : decide (((k : Nat) : Int) ∈ (wk t)) = true
              · exact cf rfl (not_f h36) (sk (xn (nx (rg (m_ rfl rfl (vl (ra (c := ((k + 1 : Nat) : Int)) rfl rfl rfl (by omega) (by omega) (by omega)) rfl (a_ rfl rfl (en (lpe (s := k) (k + 1) [1, 1, 1] ⟨by omega, met_step hids (fun _ => of_decide_eq_true h36)⟩ (by omega) ⟨rfl, rfl, rfl, rfl, trivial⟩ rfl)))))))))
              · refine ct rfl (not_t (Bool.eq_false_iff.2 h36)) (sq (rg (a_ rfl rfl (a_ rfl rfl (en (nx (rt (xrb (xr (xr (xrb (xr ?_))))))))))))
                have hw37 : false = treeRight t := right_5 (by omega) h35 (of_decide_eq_false (Bool.eq_false_iff.2 h36))
                exact gs (Kd.row 2 Kd.i64) [.slice none 0 0] [] (fun _ => .inl ⟨rfl, rfl, rfl, rfl⟩) (gr (shapeOf t) (shape_f hw37) (ret2 rfl rfl rfl (fun w_ hs_ => madeT hs_ rfl (by rw [← hw37]; rfl) see_nil)))
            · exact sg rfl rfl (Bool.eq_false_iff.2 h35) (sg rfl rfl (Bool.eq_false_iff.2 h35) (sg rfl rfl (Bool.eq_false_iff.2 h35) (sg rfl rfl (Bool.eq_false_iff.2 h35) (vl (pk (b := false) rfl rfl (Bool.eq_false_iff.2 h35) rfl) rfl (en (nx (cf rfl rfl (sk (xn (nx (rg (m_ rfl rfl (vl (ra (c := ((k + 1 : Nat) : Int)) rfl rfl rfl (by omega) (by omega) (by omega)) rfl (a_ rfl rfl (en (lpe (s := k) (k + 1) [1, 1, 1] ⟨by omega, met_step hids (fun hu => absurd hu h35)⟩ (by omega) ⟨rfl, rfl, rfl, rfl, trivial⟩ rfl))))))))))))))))
          · refine cf rfl (decide_eq_false h33) (xt (xq (xq (xb (nx (sq (rg (m_ rfl rfl (m_ rfl rfl (cm_ (dk := (Kd.row 91 kPairS)) (x := (leafP t (wk t))) (S := (st_)) (by kernel_rfl) rfl rfl rfl (snp 2 rfl) (fun w_ hs_ => bor (Kd.Seals.row Kd.Seals.i64 _) (hs_.at 0 rfl) fun _ lb0_ => spec_l6Pairs w_ (hs_.at 2 rfl) lb0_ hS (wk_met hp).2 hll.2) (fun cs_ o40 s41 w_ r42 t43 => ?_)))))))))))
            obtain ⟨A38, c39, rfl⟩ := Kd.row_sh r42
            refine a_ rfl rfl (en (nx (sq (sq (rg (a_ rfl rfl (en (nx (bk (gl (Kd.Seals.row kPairS_self _) (fun s45 us45 => ?_)))))))))))
            refine lp (σ := Nat) (fun k4 : Nat => [(6, .slice A26 ((walkM t (nodeAt t.arena t.root).level.toNat t.root ([])).length) c27), (9, .slice A38 ((leafP t (wk t)).length) c39), (10, .int .i64 ((k4 : Nat) : Int))])
                (fun k4 : Nat => [dat (Kd.sl kPairS) [.slice A38 ((leafP t (wk t)).length) c39] (leafP t (wk t)) ([]) s45, dat (Kd.row 2 Kd.i64) [.slice A26 ((walkM t (nodeAt t.arena t.root).level.toNat t.root ([])).length) c27] (wk t) o28 s29])
                (fun k4 : Nat => k4 ≤ (leafP t (wk t)).length ∧ Uniq Pair.id ((leafP t (wk t)).take k4)) (fun k4 : Nat => (leafP t (wk t)).length - k4) 0 [0, 0] ⟨Nat.zero_le _, by simpa using Uniq.nil⟩ ⟨rfl, rfl, rfl, trivial⟩ rfl ?_
            intro k4 hp_
            obtain ⟨hk4, hinv4⟩ := hp_
            refine sq (sq (rg (m_ rfl rfl (m_ rfl rfl (vl (ln rfl rfl rfl) rfl (vl (cm rfl rfl rfl rfl) rfl (en (nx ?_))))))))
            by_cases h46 : ((k4 : Nat) : Int) < (((leafP t (wk t)).length : Nat) : Int)
            · refine ct rfl (decide_eq_true h46) (sk (nx (sq (bk (sq (rg (m_ rfl rfl (m_ rfl rfl (m_ rfl rfl ?_)))))))))
              refine gx 0 k4 rfl (by omega) fun y52 p47 cs_ s48 w51 m53 e49 r50 us48 => ?_
              obtain ⟨A54, c55, A56, c57, rfl⟩ := kPairS_sh r50
              refine vl (ix k4 e49 rfl rfl rfl rfl rfl (by omega)) rfl (vl (fa rfl rfl rfl) rfl (vl (ldp (u := .int .i64 y52.id) 0 rfl rfl rfl rfl rfl rfl rfl) rfl (cs_ (v := .int .i64 (idx (fun (x0 : Pair) => x0.id == y52.id) (leafP t (wk t)))) (by kernel_rfl) rfl rfl rfl (fun w_ hs_ => spec_l2At w_ _ (hs_.at 1 rfl)) (m_ rfl rfl (vl (cm rfl rfl rfl rfl) rfl (en (nx ?_)))))))
              by_cases h58 : (idx (fun (x0 : Pair) => x0.id == y52.id) (leafP t (wk t))) = ((k4 : Nat) : Int)
              · exact cf rfl (bne_eq_false_iff_eq.2 h58) (sk (xn (nx (rg (m_ rfl rfl (vl (ra (c := ((k4 + 1 : Nat) : Int)) rfl rfl rfl (by omega) (by omega) (by omega)) rfl (a_ rfl rfl (en (lpe (s := k4) (k4 + 1) [1, 1] ⟨by omega, uniq_step2 hinv4 m53 h58⟩ (by omega) ⟨rfl, rfl, rfl, trivial⟩ rfl)))))))))
              · refine ct rfl (bne_iff_ne.2 h58) (sq (rg (a_ rfl rfl (a_ rfl rfl (en (nx (rt (xrb (xr (xr (xrb (xr ?_))))))))))))
                have hw59 : false = treeRight t := right_6 (uniqP_no m53 h58)
                exact gs (Kd.row 2 Kd.i64) [.slice none 0 0] [] (fun _ => .inl ⟨rfl, rfl, rfl, rfl⟩) (gr (shapeOf t) (shape_f hw59) (ret2 rfl rfl rfl (fun w_ hs_ => madeT hs_ rfl (by rw [← hw59]; rfl) see_nil)))
            · refine cf rfl (decide_eq_false h46) (xt (xq (xq (xb (nx (sq (rg (m_ rfl rfl (a_ rfl rfl (a_ rfl rfl (en (nx (rt ?_)))))))))))))
              have hw60 : true = treeRight t := right_t h2 h13 (fun hz => by have z := any_none (p := fun n : Node => decide (t.counter < n.nsn)) hcnt (by omega); rw [z] at hz; cases hz) h32 (fun j hj => hids j (by omega)) (uniqP.1 (uniq_end (l := leafP t (wk t)) hinv4 (by omega)))
              exact f1 (gr (shapeOf t) (shape_t hw60) (ret2 rfl rfl rfl (fun w_ hs_ => madeT hs_ rfl (by rw [← hw60]; rfl) (by grind))))
        · refine ct rfl (not_t (Bool.eq_false_iff.2 h32)) (sq (rg (a_ rfl rfl (a_ rfl rfl (en (nx (rt (xr ?_))))))))
          have hw61 : false = treeRight t := right_4 h32
          exact gs (Kd.row 2 Kd.i64) [.slice none 0 0] [] (fun _ => .inl ⟨rfl, rfl, rfl, rfl⟩) (gr (shapeOf t) (shape_f hw61) (ret2 rfl rfl rfl (fun w_ hs_ => madeT hs_ rfl (by rw [← hw61]; rfl) see_nil)))
    · refine ct rfl (bne_iff_ne.2 h13) (sq (rg (a_ rfl rfl (a_ rfl rfl (en (nx (rt (xr ?_))))))))
      have hw62 : false = treeRight t := right_2 h13
      exact gs (Kd.row 2 Kd.i64) [.slice none 0 0] [] (fun _ => .inl ⟨rfl, rfl, rfl, rfl⟩) (gr (shapeOf t) (shape_f hw62) (ret2 rfl rfl rfl (fun w_ hs_ => madeT hs_ rfl (by rw [← hw62]; rfl) see_nil)))
  · refine r0 (qv 0 rfl (mv rfl rfl) rfl (by kernel_rfl) (qv 1 rfl (mv rfl rfl) rfl (by kernel_rfl) (qv 2 rfl (nc rfl rfl) rfl (by kernel_rfl) (qv 3 rfl (fa rfl rfl rfl) rfl (by kernel_rfl) (qv 4 rfl (ldp (u := .int .i64 t.root) 1 rfl rfl rfl rfl rfl rfl rfl) rfl (by kernel_rfl) (q1 5 [0, 0] rfl (by kernel_rfl) rfl (cs_ (v := .bool (isUsed t.arena t.root)) (by kernel_rfl) rfl rfl rfl (fun w_ hs_ => by exact spec_l6Used w_ _ (hs_.at 0 rfl)) (qn (qv 6 rfl (nt rfl rfl) rfl (by kernel_rfl) (qv 7 rfl (mv rfl rfl) rfl (by kernel_rfl) (qs 8 rfl rfl rfl (not_t (Bool.eq_false_iff.2 h2)) (by kernel_rfl) (qs 9 rfl rfl rfl (not_t (Bool.eq_false_iff.2 h2)) (by kernel_rfl) (qs 10 rfl rfl rfl (not_t (Bool.eq_false_iff.2 h2)) (by kernel_rfl) (qs 11 rfl rfl rfl (not_t (Bool.eq_false_iff.2 h2)) (by kernel_rfl) (qs 12 rfl rfl rfl (not_t (Bool.eq_false_iff.2 h2)) (by kernel_rfl) (qs 13 rfl rfl rfl (not_t (Bool.eq_false_iff.2 h2)) (by kernel_rfl) (qs 14 rfl rfl rfl (not_t (Bool.eq_false_iff.2 h2)) (by kernel_rfl) (qs 15 rfl rfl rfl (not_t (Bool.eq_false_iff.2 h2)) (by kernel_rfl) (qs 16 rfl rfl rfl (not_t (Bool.eq_false_iff.2 h2)) (by kernel_rfl) (qs 17 rfl rfl rfl (not_t (Bool.eq_false_iff.2 h2)) (by kernel_rfl) (qs 18 rfl rfl rfl (not_t (Bool.eq_false_iff.2 h2)) (by kernel_rfl) (qs 19 rfl rfl rfl (not_t (Bool.eq_false_iff.2 h2)) (by kernel_rfl) (qs 20 rfl rfl rfl (not_t (Bool.eq_false_iff.2 h2)) (by kernel_rfl) (qs 21 rfl rfl rfl (not_t (Bool.eq_false_iff.2 h2)) (by kernel_rfl) (qs 22 rfl rfl rfl (not_t (Bool.eq_false_iff.2 h2)) (by kernel_rfl) (qs 23 rfl rfl rfl (not_t (Bool.eq_false_iff.2 h2)) (by kernel_rfl) (qv 24 rfl (pk (b := true) rfl rfl (not_t (Bool.eq_false_iff.2 h2)) rfl) rfl (by kernel_rfl) (qe [0, 0] (by kernel_rfl) rfl (nx (ct rfl rfl (sq (rg (a_ rfl rfl (a_ rfl rfl (en (nx (rt (xr ?_))))))))))))))))))))))))))))))))))))))
    have hw63 : false = treeRight t := right_1 h2
    exact gs (Kd.row 2 Kd.i64) [.slice none 0 0] [] (fun _ => .inl ⟨rfl, rfl, rfl, rfl⟩) (gr (shapeOf t) (shape_f hw63) (ret2 rfl rfl rfl (fun w_ hs_ => madeT hs_ rfl (by rw [← hw63]; rfl) see_nil)))
theorem style_in {s : Int} : within s 0 1 = isStyle s := by
  unfold within isStyle; rw [Bool.eq_iff_iff]; simp only [Bool.and_eq_true, Bool.or_eq_true, decide_eq_true_eq, beq_iff_eq]; omega
/-! spec.TreeFault -/
set_option maxRecDepth 20000 in
set_option maxHeartbeats 2000000 in
theorem spec_TreeFault (w : World) {At2 : Option Addr} {ct2 : Nat} {At3 : Option Addr} {ct3 : Nat} {At4 : Option Addr} {ct4 : Nat} {t : Tree} {st_ : List Nat} (ht : kTreeS.Rel w [.int .i64 t.style, .int .i64 t.arena.dims, .slice At2 t.arena.nodes.length ct2, .slice At3 t.arena.free.length ct3, .slice At4 t.arena.retired.length ct4, .int .i64 t.root, .int .i64 t.rootNsn, .int .i64 t.counter] t [] st_)  : Calls Tryz.prog 20 #[.agg #[.int .i64 t.style, .int .i64 t.arena.dims, .slice At2 t.arena.nodes.length ct2, .slice At3 t.arena.free.length ct3, .slice At4 t.arena.retired.length ct4, .int .i64 t.root, .int .i64 t.rootNsn, .int .i64 t.counter]] w (fun e_ w2_ => e_ = .returned (.int .i64 (treeFault t)) ∧ Below w.heap.size w w2_) := by
  refine fnc (X := X9 41 w) (args := [.agg #[.int .i64 t.style, .int .i64 t.arena.dims, .slice At2 t.arena.nodes.length ct2, .slice At3 t.arena.free.length ct3, .slice At4 t.arena.retired.length ct4, .int .i64 t.root, .int .i64 t.rootNsn, .int .i64 t.counter]]) (l := [(0, .agg #[.int .i64 t.style, .int .i64 t.arena.dims, .slice At2 t.arena.nodes.length ct2, .slice At3 t.arena.free.length ct3, .slice At4 t.arena.retired.length ct4, .int .i64 t.root, .int .i64 t.rootNsn, .int .i64 t.counter])]) (G := [dat kTreeS [.int .i64 t.style, .int .i64 t.arena.dims, .slice At2 t.arena.nodes.length ct2, .slice At3 t.arena.free.length ct3, .slice At4 t.arena.retired.length ct4, .int .i64 t.root, .int .i64 t.rootNsn, .int .i64 t.counter] t ([]) st_]) Tryz.func20 rfl rfl rfl ⟨rfl, trivial⟩ (s0d ht (s0n w)).1 ?_
  refine sq (rg (bx rfl rfl rfl rfl ?_))
  intro b1
  refine a_ rfl rfl (en (nx (sq (sq (rg (vl (fa rfl rfl rfl) rfl (vl (ldb 0 rfl rfl rfl rfl rfl rfl rfl) rfl ?_)))))))
  refine gd 1 kTreeS_p1_4 rfl (cs' := [.int .i64 t.arena.dims, .slice At2 t.arena.nodes.length ct2, .slice At3 t.arena.free.length ct3, .slice At4 t.arena.retired.length ct4]) rfl fun s2 w_ rs2 us2 => ?_
  refine cs_ (v := .int .i64 (arenaFault t.arena)) (by kernel_rfl) rfl rfl rfl (fun w_ hs_ => spec_ArenaFault w_ (hs_.at 0 rfl)) (a_ rfl rfl (en (nx (sq (rg (m_ rfl rfl (vl (cm rfl rfl rfl rfl) rfl (en (nx ?_)))))))))
  by_cases h3 : (arenaFault t.arena) = (0 : Int)
  · refine cf rfl (bne_eq_false_iff_eq.2 h3) (sk (nx (sq (sq (rg (vl (fa rfl rfl rfl) rfl (vl (ldb (u := .int .i64 t.style) 1 rfl rfl rfl rfl rfl rfl rfl) rfl ?_)))))))
    refine cs_ (v := .bool (within t.style 0 1)) (by kernel_rfl) rfl rfl rfl (fun w_ hs_ => spec_l1In w_ _ _ _) (vl (nt rfl rfl) rfl (m_ rfl rfl ?_))
    by_cases h4 : within t.style 0 1 = true
    · refine vg (fa rfl rfl rfl) rfl rfl (not_f h4) (vg (fa rfl rfl rfl) rfl rfl (not_f h4) (vg (ldb (u := .int .i64 t.root) 1 rfl rfl rfl rfl rfl rfl rfl) rfl rfl (not_f h4) (gw rfl rfl (not_f h4) ?_)))
      refine cs_ (v := .bool (isPlace t.arena t.root)) (by kernel_rfl) rfl rfl rfl (fun w_ hs_ => spec_l4Place w_ _ (ptr_blk (hs_.at 1 rfl) (hs_.at 0 rfl) rfl)) (vg (nt rfl rfl) rfl rfl (not_f h4) (vl (pk (b := false) rfl rfl (not_f h4) rfl) rfl (m_ rfl rfl ?_)))
      by_cases h5 : isPlace t.arena t.root = true
      · refine vg (fa rfl rfl rfl) rfl rfl (not_f h5) (vg (ldb (u := .int .i64 t.rootNsn) 1 rfl rfl rfl rfl rfl rfl rfl) rfl rfl (not_f h5) (gw rfl rfl (not_f h5) ?_))
        refine cs_ (v := .bool (within t.rootNsn 0 100000)) (by kernel_rfl) rfl rfl rfl (fun w_ hs_ => spec_l1In w_ _ _ _) (vg (nt rfl rfl) rfl rfl (not_f h5) (vl (pk (b := false) rfl rfl (not_f h5) rfl) rfl (m_ rfl rfl ?_)))
        by_cases h6 : within t.rootNsn 0 100000 = true
        · refine vg (fa rfl rfl rfl) rfl rfl (not_f h6) (vg (ldb (u := .int .i64 t.counter) 1 rfl rfl rfl rfl rfl rfl rfl) rfl rfl (not_f h6) (gw rfl rfl (not_f h6) ?_))
          refine cs_ (v := .bool (within t.counter 0 100000)) (by kernel_rfl) rfl rfl rfl (fun w_ hs_ => spec_l1In w_ _ _ _) (vg (nt rfl rfl) rfl rfl (not_f h6) (vl (pk (b := false) rfl rfl (not_f h6) rfl) rfl (en (nx ?_))))
          by_cases h7 : within t.counter 0 100000 = true
          · refine cf rfl (not_f h7) (sk (nx (sq (sq (rg (cmT (dk := (Kd.row 2 Kd.i64)) (x := (shapeOf t)) (S := []) (f := (fun v_ => .tuple #[v_, .bool (treeRight t)])) (by kernel_rfl) rfl rfl rfl sn0 (fun w_ hs_ => spec_l6Shape w_ (ptr_blk (hs_.at 1 rfl) (hs_.at 2 rfl) rfl) (arena_0 h3) h5) (fun cs_ o10 s11 w_ r12 t13 => ?_)))))))
            obtain ⟨A8, c9, rfl⟩ := Kd.row_sh r12
            refine m_ rfl rfl (vl (ex rfl rfl rfl) rfl (vl (ex rfl rfl rfl) rfl (a_ rfl rfl (a_ rfl rfl (en (nx (sq (rg (m_ rfl rfl (vl (nt rfl rfl) rfl (en (nx ?_))))))))))))
            by_cases h15 : treeRight t = true
            · refine cf rfl (not_f h15) (sk (nx (sq (rg (a_ rfl rfl (en (nx (rt (ret1 rfl rfl (fun w_ hs_ => ⟨?_, hs_.below⟩))))))))))
              exact ri (by have z := style_in (s := t.style); grind [treeFault])
            · refine ct rfl (not_t (Bool.eq_false_iff.2 h15)) (sq (rg (a_ rfl rfl (en (nx (rt (xr (ret1 rfl rfl (fun w_ hs_ => ⟨?_, hs_.below⟩)))))))))
              exact ri (by have z := style_in (s := t.style); grind [treeFault])
          · refine ct rfl (not_t (Bool.eq_false_iff.2 h7)) (sq (rg (a_ rfl rfl (en (nx (rt (xr (ret1 rfl rfl (fun w_ hs_ => ⟨?_, hs_.below⟩)))))))))
            exact ri (by have z := style_in (s := t.style); grind [treeFault])
        · refine sg rfl rfl (not_t (Bool.eq_false_iff.2 h6)) (sg rfl rfl (not_t (Bool.eq_false_iff.2 h6)) (sg rfl rfl (not_t (Bool.eq_false_iff.2 h6)) (sg rfl rfl (not_t (Bool.eq_false_iff.2 h6)) (vl (pk (b := true) rfl rfl (not_t (Bool.eq_false_iff.2 h6)) rfl) rfl (en (nx (ct rfl rfl (sq (rg (a_ rfl rfl (en (nx (rt (xr (ret1 rfl rfl (fun w_ hs_ => ⟨?_, hs_.below⟩))))))))))))))))
          exact ri (by have z := style_in (s := t.style); grind [treeFault])
      · refine sg rfl rfl (not_t (Bool.eq_false_iff.2 h5)) (sg rfl rfl (not_t (Bool.eq_false_iff.2 h5)) (sg rfl rfl (not_t (Bool.eq_false_iff.2 h5)) (sg rfl rfl (not_t (Bool.eq_false_iff.2 h5)) (vl (pk (b := true) rfl rfl (not_t (Bool.eq_false_iff.2 h5)) rfl) rfl (m_ rfl rfl (sg rfl rfl rfl (sg rfl rfl rfl (sg rfl rfl rfl (sg rfl rfl rfl (vl (pk (b := true) rfl rfl rfl rfl) rfl (en (nx (ct rfl rfl (sq (rg (a_ rfl rfl (en (nx (rt (xr (ret1 rfl rfl (fun w_ hs_ => ⟨?_, hs_.below⟩))))))))))))))))))))))
        exact ri (by have z := style_in (s := t.style); grind [treeFault])
    · refine sg rfl rfl (not_t (Bool.eq_false_iff.2 h4)) (sg rfl rfl (not_t (Bool.eq_false_iff.2 h4)) (sg rfl rfl (not_t (Bool.eq_false_iff.2 h4)) (sg rfl rfl (not_t (Bool.eq_false_iff.2 h4)) (sg rfl rfl (not_t (Bool.eq_false_iff.2 h4)) (vl (pk (b := true) rfl rfl (not_t (Bool.eq_false_iff.2 h4)) rfl) rfl (m_ rfl rfl (sg rfl rfl rfl (sg rfl rfl rfl (sg rfl rfl rfl (sg rfl rfl rfl (vl (pk (b := true) rfl rfl rfl rfl) rfl (m_ rfl rfl (sg rfl rfl rfl (sg rfl rfl rfl (sg rfl rfl rfl (sg rfl rfl rfl (vl (pk (b := true) rfl rfl rfl rfl) rfl (en (nx (ct rfl rfl (sq (rg (a_ rfl rfl (en (nx (rt (xr (ret1 rfl rfl (fun w_ hs_ => ⟨?_, hs_.below⟩)))))))))))))))))))))))))))))
      exact ri (by have z := style_in (s := t.style); grind [treeFault])
  · refine ct rfl (bne_iff_ne.2 h3) (sq (rg (m_ rfl rfl (a_ rfl rfl (en (nx (rt (xr (ret1 rfl rfl (fun w_ hs_ => ⟨?_, hs_.below⟩))))))))))
    exact ri (by have z := style_in (s := t.style); grind [treeFault])
end Go.Proofs.YtfaflffdekoimaaGreat.Sx
