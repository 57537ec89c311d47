/- What functions of the program answer, each at every input that its row names; walked through their code. -/
import Derived.Test.YtkilionclpeonaaSy9
namespace Go.Proofs.Ytkilionclpeonaa.Sx
open Go Go.RowKit Go.Proofs
set_option linter.unusedVariables false
set_option linter.unusedSimpArgs false
def tab10 : Tab := { size := [(2, 1, false), (30, 1, false), (32, 2, true), (53, 7, true)], off := [((37, 0), 0), ((53, 0), 0), ((53, 2), 6)], elem := [] }
theorem tab_ok10 : tab10.check Try.prog = true := by kernel_rfl
noncomputable abbrev X10 (N : Nat) (w : World) : Cx := ⟨Try.prog, tab10, tab_ok10, wide, N, w, none, []⟩

theorem clone_n (w : World) {As : Option Addr} {cs n : Nat} {s : List (Tg Pair)} {ss_ : List Nat} (hs : (Kd.sl kPairT).Rel w [.slice As n cs] s [] ss_) (hz : s.length ≤ 1048576) (hn : n = s.length) : Calls Try.prog 67 #[.slice As n cs] w (Made (Kd.row 68 kPairT) w s (ss_)) := by
  subst hn
  exact clone_T w hs hz
/-! (impl.Look).told -/
set_option maxRecDepth 20000 in
set_option maxHeartbeats 2000000 in
theorem impl_Look_told (w : World) {Al1 : Option Addr} {cl1 : Nat} {Al2 : Option Addr} {cl2 : Nat} {Al3 : Option Addr} {cl3 : Nat} {Al5 : Option Addr} {cl5 : Nat} {Al6 : Option Addr} {cl6 : Nat} {l : Look} {sl_ : List Nat} (hl : kLookS.Rel w [.int .i64 l.query.kind, .slice Al1 l.query.rect.low.length cl1, .slice Al2 l.query.rect.high.length cl2, .slice Al3 l.query.point.length cl3, .int .i64 l.query.k, .slice Al5 l.front.length cl5, .slice Al6 l.found.length cl6] l [] sl_) {d : Nat} (hd : d ≤ 3) (yFl : ∀ x ∈ l.found, FitR d x.rect) (yFq : FitQ d l.query) (hz : l.found.length ≤ 1000) (yFs : ∀ x ∈ l.found, szPair x ≤ 1048576) (yU : ∀ x ∈ l.found, ∀ y ∈ l.found, x.id = y.id → x = y) (yN : l.found.Nodup) : Calls Try.prog 47 #[.agg #[.int .i64 l.query.kind, .slice Al1 l.query.rect.low.length cl1, .slice Al2 l.query.rect.high.length cl2, .slice Al3 l.query.point.length cl3, .int .i64 l.query.k, .slice Al5 l.front.length cl5, .slice Al6 l.found.length cl6]] w (Made (Kd.row 68 kPairO) w (tellL l) []) := by
  have Ll6 := Kd.sub_len kLookS_p6_1 hl; have Cl6 := Kd.sub_cap kLookS_p6_1 hl rfl
  refine fnc (X := X10 13 w) (args := [.agg #[.int .i64 l.query.kind, .slice Al1 l.query.rect.low.length cl1, .slice Al2 l.query.rect.high.length cl2, .slice Al3 l.query.point.length cl3, .int .i64 l.query.k, .slice Al5 l.front.length cl5, .slice Al6 l.found.length cl6]]) (l := [(0, .agg #[.int .i64 l.query.kind, .slice Al1 l.query.rect.low.length cl1, .slice Al2 l.query.rect.high.length cl2, .slice Al3 l.query.point.length cl3, .int .i64 l.query.k, .slice Al5 l.front.length cl5, .slice Al6 l.found.length cl6])]) (G := [dat kLookS [.int .i64 l.query.kind, .slice Al1 l.query.rect.low.length cl1, .slice Al2 l.query.rect.high.length cl2, .slice Al3 l.query.point.length cl3, .int .i64 l.query.k, .slice Al5 l.front.length cl5, .slice Al6 l.found.length cl6] l ([]) sl_]) Try.func47 rfl rfl rfl ⟨rfl, trivial⟩ (s0d hl (s0n w)).1 ?_
  refine sq (rg (bx rfl rfl rfl rfl ?_))
  intro b1
  refine a_ rfl rfl (en (nx (sq (sq (rg (vl (fa rfl rfl rfl) rfl (vl (fa rfl rfl rfl) rfl (vl (ldb (u := .int .i64 l.query.kind) 0 rfl rfl rfl rfl rfl rfl rfl) rfl (vl (cm rfl rfl rfl rfl) rfl (en (nx ?_)))))))))))
  by_cases h2 : l.query.kind = (4 : Int)
  · have yk := yFq.k h2; have yp := yFq.pt (.inr h2)
    refine ct rfl (beq_iff_eq.2 h2) (sq (rg (vl (ldb 0 rfl rfl rfl rfl rfl rfl rfl) rfl (cm_ (dk := (Kd.row 68 kPairO)) (x := (answerL l.found l.query)) (S := []) (by kernel_rfl) rfl rfl rfl sn0 (fun w_ hs_ => impl_Look_nearest w_ (hs_.at 1 rfl) hd yFl yFq hz yFs h2 yU yN) (fun cs_ o5 s6 w_ r7 t8 => ?_)))))
    obtain ⟨A3, c4, rfl⟩ := Kd.row_sh r7
    refine gtag kPairO_seal rfl (fun ts bs_ s10 et eo_ en_ es_ ex_ ee_ => ?_)
    have yn_ := t8; have etl : ts.length = (answerL l.found l.query).length := (by rw [← et, List.length_map]); have ycap := Kd.row_cap r7
    refine gl (Kd.Seals.row kPairT_self _) (fun s11 us11 => ?_)
    refine cm_ (dk := (Kd.row 68 kPairT)) (x := ts) (S := (s11)) (by kernel_rfl) rfl rfl rfl (snt 0 rfl) (fun w_ hs_ => clone_n w_ (hs_.at 0 rfl) (by have z := ans_len l.found l.query; rw [etl]; omega) etl.symm) (fun cs_ o14 s15 w_ r16 t17 => ?_)
    obtain ⟨A12, c13, rfl⟩ := Kd.row_sh r16
    refine a_ rfl rfl (en (nx (rt (xr (gut 1 kPairO_seal kPairS_pure rfl (fun t ht => ht) en_ eo_ (fun o_ => ?_) ex_)))))
    refine gr (tellL l) (et.trans (tell_ans h2)) ?_
    exact ret1 rfl rfl (fun w_ hs_ => made hs_ rfl (fun b hb => .inr (see_tag es_ yn_ (fun t ht => ht) b hb)))
  · refine cf rfl (beq_eq_false_iff_ne.2 h2) (sk (nx (sq (rg (vl (fa rfl rfl rfl) rfl (vl (ldb (u := .slice Al6 l.found.length cl6) 0 rfl rfl rfl rfl rfl rfl rfl) rfl ?_))))))
    refine gd 1 kLookS_p6_1 rfl (cs' := [.slice Al6 l.found.length cl6]) rfl fun s19 w_ rs19 us19 => ?_
    have Ls19 := Kd.sl_len rs19; have Cs19 := Kd.sl_cap rs19
    refine cm_ (dk := (Kd.row 68 kPairO)) (x := l.found) (S := []) (by kernel_rfl) rfl rfl rfl sn0 (fun w_ hs_ => impl_clonedPairs w_ (hs_.at 0 rfl) (by omega) yFs) (fun cs_ o22 s23 w_ r24 t25 => ?_)
    obtain ⟨A20, c21, rfl⟩ := Kd.row_sh r24
    exact a_ rfl rfl (en (nx (rt (gr (tellL l) (tell_far h2) (ret1 rfl rfl (fun w_ hs_ => made hs_ rfl (by grind)))))))
theorem look_0 {l : Look} {d : Int} (h : lookFault l d = 0) : d.toNat ≤ 3 ∧ l.found.length ≤ 1000 ∧ (∀ x ∈ l.found, FitR d.toNat x.rect) ∧ (∀ x ∈ l.found, szPair x ≤ 6) ∧ (∀ x ∈ l.found, ∀ y ∈ l.found, x.id = y.id → x = y) ∧ l.found.Nodup ∧ FitQ d.toNat l.query := by
  unfold lookFault at h
  split at h
  · rename_i hq
    obtain ⟨hfq, hd⟩ := query_fit hq
    split at h
    · rename_i hl
      split at h
      · have hall : ∀ i, i < l.found.length → foundFault l.found d i = 0 := fun i hi => firstFault_all h i (by simpa using hi)
        have hpf : ∀ (i : Nat) (p : Pair), l.found[i]? = some p → pairFault p d = 0 := fun i p hp => Decidable.byContradiction fun hn => by
          have := hall i (List.getElem?_eq_some_iff.1 hp).1
          rw [found_bad hp hn] at this; exact hn this
        have hup : ∀ (i : Nat) (a p : Pair), l.found[i]? = some a → l.found[i + 1]? = some p → a.id < p.id := fun i a p ha hp => by
          have h1 := hall (i + 1) (List.getElem?_eq_some_iff.1 hp).1
          refine Decidable.byContradiction fun hn => ?_
          rw [found_low hp (hpf _ _ hp) rfl ha (by omega)] at h1; cases h1
        have hs : Sorted l.found := rises_sorted (by
          unfold rises; rw [adj_f (k := l.found.length) (fun j a b hj ha hb => by have := hup j a b ha hb; simp; omega) (by omega)]; rfl)
        have hd3 := (dims_le hd).1
        have hm : ∀ x ∈ l.found, pairFault x d = 0 := fun x hx => by obtain ⟨i, hi⟩ := List.getElem?_of_mem hx; exact hpf i x hi
        refine ⟨hd3, by omega, fun x hx => pair_fit (hm x hx) hd, fun x hx => ?_, fun x hx y hy hxy => ?_, hs.imp (fun {a b} hab e => by rw [e] at hab; exact absurd hab (Int.lt_irrefl _)), hfq⟩
        · have := fit_sz (pair_fit (hm x hx) hd) hd3
          unfold szPair; omega
        · obtain ⟨i, hi, rfl⟩ := List.getElem_of_mem hx
          obtain ⟨j, hj, rfl⟩ := List.getElem_of_mem hy
          have hp := List.pairwise_iff_getElem.1 hs
          rcases Nat.lt_trichotomy i j with hij | rfl | hij
          · have := hp i j hi hj hij; omega
          · rfl
          · have := hp j i hj hi hij; omega
      · rename_i h0; exact absurd h h0
    · cases h
  · rename_i h0; exact absurd h h0
/-! spec.AnswerIn -/
set_option maxRecDepth 20000 in
set_option maxHeartbeats 2000000 in
theorem spec_AnswerIn (w : World) (dims : Int) {Al1 : Option Addr} {cl1 : Nat} {Al2 : Option Addr} {cl2 : Nat} {Al3 : Option Addr} {cl3 : Nat} {Al5 : Option Addr} {cl5 : Nat} {Al6 : Option Addr} {cl6 : Nat} {l : Look} {sl_ : List Nat} (hl : kLookS.Rel w [.int .i64 l.query.kind, .slice Al1 l.query.rect.low.length cl1, .slice Al2 l.query.rect.high.length cl2, .slice Al3 l.query.point.length cl3, .int .i64 l.query.k, .slice Al5 l.front.length cl5, .slice Al6 l.found.length cl6] l [] sl_)  : Calls Try.prog 19 #[.agg #[.int .i64 l.query.kind, .slice Al1 l.query.rect.low.length cl1, .slice Al2 l.query.rect.high.length cl2, .slice Al3 l.query.point.length cl3, .int .i64 l.query.k, .slice Al5 l.front.length cl5, .slice Al6 l.found.length cl6], .int .i64 dims] w (Made kPairsResultS w (tellRes l dims) []) := by
  refine fnc (X := X10 15 w) (args := [.agg #[.int .i64 l.query.kind, .slice Al1 l.query.rect.low.length cl1, .slice Al2 l.query.rect.high.length cl2, .slice Al3 l.query.point.length cl3, .int .i64 l.query.k, .slice Al5 l.front.length cl5, .slice Al6 l.found.length cl6], .int .i64 dims]) (l := [(0, .agg #[.int .i64 l.query.kind, .slice Al1 l.query.rect.low.length cl1, .slice Al2 l.query.rect.high.length cl2, .slice Al3 l.query.point.length cl3, .int .i64 l.query.k, .slice Al5 l.front.length cl5, .slice Al6 l.found.length cl6]), (1, .int .i64 dims)]) (G := [dat kLookS [.int .i64 l.query.kind, .slice Al1 l.query.rect.low.length cl1, .slice Al2 l.query.rect.high.length cl2, .slice Al3 l.query.point.length cl3, .int .i64 l.query.k, .slice Al5 l.front.length cl5, .slice Al6 l.found.length cl6] l ([]) sl_]) Try.func19 rfl rfl rfl ⟨rfl, rfl, trivial⟩ (s0d hl (s0n w)).1 ?_
  refine sq (rg (bx rfl rfl rfl rfl ?_))
  intro b1
  refine al zero32 rfl rfl rfl ?_
  intro b2
  refine en (nx (sq (sq (rg (vl (ldb 1 rfl rfl rfl rfl rfl rfl rfl) rfl (m_ rfl rfl (cs_ (v := .int .i64 (lookFault l dims)) (by kernel_rfl) rfl rfl rfl (fun w_ hs_ => spec_LookFault w_ _ (hs_.at 2 rfl)) (a_ rfl rfl (en (nx (sq (rg (m_ rfl rfl (vl (cm rfl rfl rfl rfl) rfl (en (nx ?_))))))))))))))))
  by_cases h3 : (lookFault l dims) = (0 : Int)
  · have mm := look_0 h3
    refine cf rfl (bne_eq_false_iff_eq.2 h3) (sk (nx (sq (rg (cm_ (dk := (Kd.sl kPairS)) (x := (tellL l)) (S := []) (by kernel_rfl) rfl rfl rfl sn0 (fun w_ hs_ => spec_l9Answer w_ (ptr_blk (hs_.at 1 rfl) (hs_.at 2 rfl) rfl) mm.1 mm.2.2.1 mm.2.2.2.2.2.2 mm.2.1 (fun x hx => by have z := mm.2.2.2.1 x hx; omega)) (fun cs_ o6 s7 w_ r8 t9 => ?_))))))
    obtain ⟨rfl, A4, c5, rfl, Cr8, Lr8, -⟩ := r8
    exact vl (bd bld32 rfl rfl rfl) rfl (f1 (sto rfl rfl rfl rfl rfl rfl rfl (cs' := [.int .i64 0, .slice A4 ((tellL l).length) c5]) rfl (en (nx (rt (f1 (gs Kd.i64 [.int .i64 0] ((⟨0, (tellL l)⟩ : PairsResult).code) (fun _ => ⟨rfl, rfl, rfl⟩) (gj (da := (Kd.via Kd.i64 PairsResult.code)) (db := (Kd.via (Kd.sl kPairS) PairsResult.pairs)) (x := (⟨0, (tellL l)⟩ : PairsResult)) (cs := [.int .i64 0, .slice A4 ((tellL l).length) c5]) rfl (gr (tellRes l dims) (by unfold tellRes; rw [if_pos h3]) (retc 1 rfl rfl rfl rfl rfl rfl (fun w_ hs_ => made hs_ rfl (see_app see_nil t9))))))))))))
  · exact ct rfl (bne_iff_ne.2 h3) (sq (rg (m_ rfl rfl (vl (bd bld32 rfl rfl rfl) rfl (sto rfl rfl rfl rfl rfl rfl rfl (cs' := [.int .i64 (lookFault l dims), .slice none 0 0]) rfl (en (nx (rt (xr (gs (Kd.sl kPairS) [.slice none 0 0] ((⟨(lookFault l dims), []⟩ : PairsResult).pairs) (fun _ => ⟨rfl, none, 0, rfl, Nat.le_refl _, Nat.zero_le _, .inl ⟨rfl, rfl⟩⟩) (gs Kd.i64 [.int .i64 (lookFault l dims)] ((⟨(lookFault l dims), []⟩ : PairsResult).code) (fun _ => ⟨rfl, rfl, rfl⟩) (gj (da := (Kd.via Kd.i64 PairsResult.code)) (db := (Kd.via (Kd.sl kPairS) PairsResult.pairs)) (x := (⟨(lookFault l dims), []⟩ : PairsResult)) (cs := [.int .i64 (lookFault l dims), .slice none 0 0]) rfl (gr (tellRes l dims) (by unfold tellRes; rw [if_neg h3]) (retc 1 rfl rfl rfl rfl rfl rfl (fun w_ hs_ => made hs_ rfl (see_app see_nil see_nil))))))))))))))))
/-! impl.AnswerIn -/
set_option maxRecDepth 20000 in
set_option maxHeartbeats 2000000 in
theorem impl_AnswerIn (w : World) (dims : Int) {Al1 : Option Addr} {cl1 : Nat} {Al2 : Option Addr} {cl2 : Nat} {Al3 : Option Addr} {cl3 : Nat} {Al5 : Option Addr} {cl5 : Nat} {Al6 : Option Addr} {cl6 : Nat} {l : Look} {sl_ : List Nat} (hl : kLookS.Rel w [.int .i64 l.query.kind, .slice Al1 l.query.rect.low.length cl1, .slice Al2 l.query.rect.high.length cl2, .slice Al3 l.query.point.length cl3, .int .i64 l.query.k, .slice Al5 l.front.length cl5, .slice Al6 l.found.length cl6] l [] sl_)  : Calls Try.prog 21 #[.agg #[.int .i64 l.query.kind, .slice Al1 l.query.rect.low.length cl1, .slice Al2 l.query.rect.high.length cl2, .slice Al3 l.query.point.length cl3, .int .i64 l.query.k, .slice Al5 l.front.length cl5, .slice Al6 l.found.length cl6], .int .i64 dims] w (Made kPairsResultO w (tellRes l dims) []) := by
  refine fnc (X := X10 16 w) (args := [.agg #[.int .i64 l.query.kind, .slice Al1 l.query.rect.low.length cl1, .slice Al2 l.query.rect.high.length cl2, .slice Al3 l.query.point.length cl3, .int .i64 l.query.k, .slice Al5 l.front.length cl5, .slice Al6 l.found.length cl6], .int .i64 dims]) (l := [(0, .agg #[.int .i64 l.query.kind, .slice Al1 l.query.rect.low.length cl1, .slice Al2 l.query.rect.high.length cl2, .slice Al3 l.query.point.length cl3, .int .i64 l.query.k, .slice Al5 l.front.length cl5, .slice Al6 l.found.length cl6]), (1, .int .i64 dims)]) (G := [dat kLookS [.int .i64 l.query.kind, .slice Al1 l.query.rect.low.length cl1, .slice Al2 l.query.rect.high.length cl2, .slice Al3 l.query.point.length cl3, .int .i64 l.query.k, .slice Al5 l.front.length cl5, .slice Al6 l.found.length cl6] l ([]) sl_]) Try.func21 rfl rfl rfl ⟨rfl, rfl, trivial⟩ (s0d hl (s0n w)).1 ?_
  refine sq (rg (bx rfl rfl rfl rfl ?_))
  intro b1
  refine al zero32 rfl rfl rfl ?_
  intro b2
  refine en (nx (sq (sq (rg (vl (ldb 1 rfl rfl rfl rfl rfl rfl rfl) rfl (m_ rfl rfl (cs_ (v := .int .i64 (lookFault l dims)) (by kernel_rfl) rfl rfl rfl (fun w_ hs_ => impl_LookFault w_ _ (hs_.at 2 rfl)) (a_ rfl rfl (en (nx (sq (rg (m_ rfl rfl (vl (cm rfl rfl rfl rfl) rfl (en (nx ?_))))))))))))))))
  by_cases h3 : (lookFault l dims) = (0 : Int)
  · have mm := look_0 h3
    refine cf rfl (bne_eq_false_iff_eq.2 h3) (sk (nx (sq (rg (vl (ldb 1 rfl rfl rfl rfl rfl rfl rfl) rfl (cm_ (dk := (Kd.row 68 kPairO)) (x := (tellL l)) (S := []) (by kernel_rfl) rfl rfl rfl sn0 (fun w_ hs_ => impl_Look_told w_ (hs_.at 2 rfl) mm.1 mm.2.2.1 mm.2.2.2.2.2.2 mm.2.1 (fun x hx => by have z := mm.2.2.2.1 x hx; omega) mm.2.2.2.2.1 mm.2.2.2.2.2.1) (fun cs_ o6 s7 w_ r8 t9 => ?_)))))))
    obtain ⟨A4, c5, rfl⟩ := Kd.row_sh r8
    exact vl (bd bld32 rfl rfl rfl) rfl (f1 (sto rfl rfl rfl rfl rfl rfl rfl (cs' := [.int .i64 0, .slice A4 ((tellL l).length) c5]) rfl (en (nx (rt (f1 (gs Kd.i64 [.int .i64 0] ((⟨0, (tellL l)⟩ : PairsResult).code) (fun _ => ⟨rfl, rfl, rfl⟩) (gj (da := (Kd.via Kd.i64 PairsResult.code)) (db := (Kd.via (Kd.row 68 kPairO) PairsResult.pairs)) (x := (⟨0, (tellL l)⟩ : PairsResult)) (cs := [.int .i64 0, .slice A4 ((tellL l).length) c5]) rfl (gr (tellRes l dims) (by unfold tellRes; rw [if_pos h3]) (retc 1 rfl rfl rfl rfl rfl rfl (fun w_ hs_ => made hs_ rfl (see_app see_nil t9))))))))))))
  · exact ct rfl (bne_iff_ne.2 h3) (sq (rg (m_ rfl rfl (vl (bd bld32 rfl rfl rfl) rfl (sto rfl rfl rfl rfl rfl rfl rfl (cs' := [.int .i64 (lookFault l dims), .slice none 0 0]) rfl (en (nx (rt (xr (gs (Kd.row 68 kPairO) [.slice none 0 0] ((⟨(lookFault l dims), []⟩ : PairsResult).pairs) (fun _ => .inl ⟨rfl, rfl, rfl, rfl⟩) (gs Kd.i64 [.int .i64 (lookFault l dims)] ((⟨(lookFault l dims), []⟩ : PairsResult).code) (fun _ => ⟨rfl, rfl, rfl⟩) (gj (da := (Kd.via Kd.i64 PairsResult.code)) (db := (Kd.via (Kd.row 68 kPairO) PairsResult.pairs)) (x := (⟨(lookFault l dims), []⟩ : PairsResult)) (cs := [.int .i64 (lookFault l dims), .slice none 0 0]) rfl (gr (tellRes l dims) (by unfold tellRes; rw [if_neg h3]) (retc 1 rfl rfl rfl rfl rfl rfl (fun w_ hs_ => made hs_ rfl (see_app see_nil see_nil))))))))))))))))
end Go.Proofs.Ytkilionclpeonaa.Sx
