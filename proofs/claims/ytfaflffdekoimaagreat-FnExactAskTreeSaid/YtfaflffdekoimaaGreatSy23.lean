/- What functions of the program answer, each at every input that its row names; walked through their code. -/
import Derived.Test.YtfaflffdekoimaaGreatSy22
namespace Go.Proofs.YtfaflffdekoimaaGreat.Sx
open Go Go.RowKit Go.Proofs
set_option linter.unusedVariables false
set_option linter.unusedSimpArgs false
def tab23 : Tab := { size := [(2, 1, false), (35, 1, false), (37, 2, true), (44, 8, true), (48, 5, true)], off := [((37, 0), 0), ((37, 1), 1), ((42, 0), 0), ((44, 1), 1)], elem := [] }
theorem tab_ok23 : tab23.check Tryz.prog = true := by kernel_rfl
noncomputable abbrev X23 (N : Nat) (w : World) : Cx := ⟨Tryz.prog, tab23, tab_ok23, wide, N, w, none, []⟩

theorem bors {α γ : Type} {da db : Kd α} {dc : Kd γ} {off : Nat} {g : α → γ} {w : World} {cs cs2 : List Value} {x : α} {oo ss : List Nat} {C : Prop} (hS : Kd.Seals da db) (hsub : Kd.Sub db off dc g) (hc : (cs.drop off).take dc.sz = cs2) (hr : da.Rel w cs x oo ss) (h : ∀ s', dc.Rel w cs2 (g x) [] s' → C) : C := by
  obtain ⟨s1, -, h1⟩ := hS.2 w cs x oo ss hr
  obtain ⟨s2, -, h2⟩ := hsub w cs x s1 h1
  rw [hc] at h2
  exact h s2 h2

def askRes (t : Tree) (q : Query) : PairsResult := if treeFault t = 0 then if queryFault q t.arena.dims = 0 then if (pairsRes t).code = 0 then answerRes (pairsRes t).pairs t.arena.dims q else pairsRes t else ⟨queryFault q t.arena.dims, []⟩ else ⟨treeFault t, []⟩
theorem firstFault_of {α : Type} {f : α → Int} : ∀ {l : List α}, (∀ x ∈ l, f x = 0) → firstFault f l = 0
  | [], _ => rfl
  | a :: l, h => by rw [firstFault, if_pos (h a (List.mem_cons_self ..))]; exact firstFault_of (fun x hx => h x (List.mem_cons_of_mem _ hx))
theorem adj_none {l : List Pair} (h : l.Pairwise (fun a b => a.id < b.id)) : risesP l = true := by
  have key : ∀ {l : List Pair}, l.Pairwise (fun a b => a.id < b.id) → adj (fun a b : Pair => decide (b.id ≤ a.id)) l = false := by
    intro l
    induction l with
    | nil => intro _; rfl
    | cons a l ih =>
      intro h
      cases l with
      | nil => rfl
      | cons b l =>
        have h1 := List.pairwise_cons.1 h
        have h2 := h1.1 b (List.mem_cons_self ..)
        simp only [adj, Bool.or_eq_false_iff, decide_eq_false_iff_not]
        exact ⟨by omega, ih h1.2⟩
  unfold risesP; rw [key h]; rfl
theorem leaf_fault {t : Tree} {ids : List Int} (hi : ∀ x ∈ ids, isPlace t.arena x = true) (hS : Sound t.arena) : ∀ p ∈ leafP t ids, pairFault p t.arena.dims = 0 := fun p hp => by
  unfold leafP at hp
  obtain ⟨e, he, rfl⟩ := List.mem_map.1 hp
  unfold leafE at he
  obtain ⟨id, hid, he⟩ := List.mem_flatMap.1 he
  split at he
  · have h1 := (node_0 (hS.node _ (nodeAt_mem (hi id hid)).1)).2.2.2.2.1 e he
    have h2 := entry_0 h1
    show (if within e.ref 0 999 = true then rectFault e.rect t.arena.dims else 3) = 0
    rw [if_pos (by unfold within; exact decide_eq_true ⟨h2.2.1, h2.2.2.1⟩)]
    exact h2.1
  · cases he
theorem uniq_perm {l m : List Pair} (h : l.Perm m) (hu : Uniq Pair.id m) : Uniq Pair.id l := (h.pairwise_iff (fun {a b} hab => fun e => hab e.symm)).2 hu
theorem sortP_lt {l : List Pair} (hu : Uniq Pair.id l) : (sortP l).Pairwise (fun a b => a.id < b.id) := by
  have h1 := sortP_up l
  have h2 := uniq_perm (sortP_perm l) hu
  exact h1.imp₂ (fun {a b} (h : a.id ≤ b.id) (k : a.id ≠ b.id) => by omega) h2
theorem model_pairs {t : Tree} (h : treeFault t = 0) (hl : ¬ 60 < ((pairsT t).length : Int)) : modelFault (pairsT t) t.arena.dims = 0 := by
  obtain ⟨hS, hp, hr⟩ := tree_0 h
  have h1 : firstFault (fun p => pairFault p t.arena.dims) (pairsT t) = 0 := firstFault_of (fun p hx => leaf_fault (wk_met hp).2 hS p (sortP_mem hx))
  have h2 : risesP (pairsT t) = true := adj_none (sortP_lt (right_uniq hr))
  unfold modelFault
  rw [if_pos hS.dims, if_pos (by omega), if_pos h1, if_pos h2]
theorem pairs_0 {t : Tree} (h : treeFault t = 0) (hc : (pairsRes t).code = 0) : (pairsRes t).pairs = pairsT t ∧ modelFault (pairsRes t).pairs t.arena.dims = 0 := by
  unfold pairsRes at hc ⊢
  rw [if_pos h] at hc ⊢
  split at hc
  · cases hc
  · rename_i hl
    rw [if_neg hl]
    exact ⟨rfl, model_pairs h hl⟩
theorem askRes_cnt (t : Tree) (q : Query) : 0 ≤ ((askRes t q).pairs.map cntE_Pair).sum ∧ ((askRes t q).pairs.map cntE_Pair).sum ≤ 1000 := by
  unfold askRes
  split
  · split
    · split
      · exact answerRes_cnt _ _ _
      · exact pairsRes_cnt t
    · exact ⟨Int.le_refl 0, (by decide : (0 : Int) ≤ 1000)⟩
  · exact ⟨Int.le_refl 0, (by decide : (0 : Int) ≤ 1000)⟩
/-! impl.AskTree -/
set_option maxRecDepth 20000 in
set_option maxHeartbeats 2000000 in
theorem impl_AskTree (w : World) {At2 : Option Addr} {ct2 : Nat} {At3 : Option Addr} {ct3 : Nat} {At4 : Option Addr} {ct4 : Nat} {t : Tree} {st_ : List Nat} (ht : kTreeS.Rel w [.int .i64 t.style, .int .i64 t.arena.dims, .slice At2 t.arena.nodes.length ct2, .slice At3 t.arena.free.length ct3, .slice At4 t.arena.retired.length ct4, .int .i64 t.root, .int .i64 t.rootNsn, .int .i64 t.counter] t [] st_) {Aq1 : Option Addr} {cq1 : Nat} {Aq2 : Option Addr} {cq2 : Nat} {Aq3 : Option Addr} {cq3 : Nat} {q : Query} {sq_ : List Nat} (hq : kQueryS.Rel w [.int .i64 q.kind, .slice Aq1 q.rect.low.length cq1, .slice Aq2 q.rect.high.length cq2, .slice Aq3 q.point.length cq3, .int .i64 q.k] q [] sq_)  : Calls Tryz.prog 9 #[.agg #[.int .i64 t.style, .int .i64 t.arena.dims, .slice At2 t.arena.nodes.length ct2, .slice At3 t.arena.free.length ct3, .slice At4 t.arena.retired.length ct4, .int .i64 t.root, .int .i64 t.rootNsn, .int .i64 t.counter], .agg #[.int .i64 q.kind, .slice Aq1 q.rect.low.length cq1, .slice Aq2 q.rect.high.length cq2, .slice Aq3 q.point.length cq3, .int .i64 q.k]] w (Made kPairsResultO w (askRes t q) []) := by
  refine fnc (X := X23 36 w) (args := [.agg #[.int .i64 t.style, .int .i64 t.arena.dims, .slice At2 t.arena.nodes.length ct2, .slice At3 t.arena.free.length ct3, .slice At4 t.arena.retired.length ct4, .int .i64 t.root, .int .i64 t.rootNsn, .int .i64 t.counter], .agg #[.int .i64 q.kind, .slice Aq1 q.rect.low.length cq1, .slice Aq2 q.rect.high.length cq2, .slice Aq3 q.point.length cq3, .int .i64 q.k]]) (l := [(0, .agg #[.int .i64 t.style, .int .i64 t.arena.dims, .slice At2 t.arena.nodes.length ct2, .slice At3 t.arena.free.length ct3, .slice At4 t.arena.retired.length ct4, .int .i64 t.root, .int .i64 t.rootNsn, .int .i64 t.counter]), (1, .agg #[.int .i64 q.kind, .slice Aq1 q.rect.low.length cq1, .slice Aq2 q.rect.high.length cq2, .slice Aq3 q.point.length cq3, .int .i64 q.k])]) (G := [dat kQueryS [.int .i64 q.kind, .slice Aq1 q.rect.low.length cq1, .slice Aq2 q.rect.high.length cq2, .slice Aq3 q.point.length cq3, .int .i64 q.k] q ([]) sq_, dat kTreeS [.int .i64 t.style, .int .i64 t.arena.dims, .slice At2 t.arena.nodes.length ct2, .slice At3 t.arena.free.length ct3, .slice At4 t.arena.retired.length ct4, .int .i64 t.root, .int .i64 t.rootNsn, .int .i64 t.counter] t ([]) st_]) Tryz.func9 rfl rfl rfl ⟨rfl, rfl, trivial⟩ (s0d hq (s0d ht (s0n w))).1 ?_
  refine sq (rg (bx rfl rfl rfl rfl ?_))
  intro b1
  refine bx rfl rfl rfl rfl ?_
  intro b2
  refine al zero37 rfl rfl rfl ?_
  intro b3
  refine en (nx (sq (sq (rg (vl (ldb 2 rfl rfl rfl rfl rfl rfl rfl) rfl ?_)))))
  refine cs_ (v := .int .i64 (treeFault t)) (by kernel_rfl) rfl rfl rfl (fun w_ hs_ => impl_TreeFault w_ (hs_.at 4 rfl)) (a_ rfl rfl (en (nx (sq (rg (m_ rfl rfl (vl (cm rfl rfl rfl rfl) rfl (en (nx ?_)))))))))
  by_cases h4 : (treeFault t) = (0 : Int)
  · have htf := h4; obtain ⟨hS, hp, hr⟩ := tree_0 h4
    refine cf rfl (bne_eq_false_iff_eq.2 h4) (sk (nx (sq (sq (rg (vl (ldb 1 rfl rfl rfl rfl rfl rfl rfl) rfl (vl (fa rfl rfl rfl) rfl (vl (fa rfl rfl rfl) rfl (vl (ldb (u := .int .i64 t.arena.dims) 2 rfl rfl rfl rfl rfl rfl rfl) rfl ?_)))))))))
    refine cs_ (v := .int .i64 (queryFault q t.arena.dims)) (by kernel_rfl) rfl rfl rfl (fun w_ hs_ => impl_QueryFault w_ _ (hs_.at 3 rfl)) (a_ rfl rfl (en (nx (sq (rg (m_ rfl rfl (vl (cm rfl rfl rfl rfl) rfl (en (nx ?_)))))))))
    by_cases h5 : (queryFault q t.arena.dims) = (0 : Int)
    · have yFq := (query_fit h5).1
      refine cf rfl (bne_eq_false_iff_eq.2 h5) (sk (nx (sq (rg (vl (ldb 2 rfl rfl rfl rfl rfl rfl rfl) rfl (cm_ (dk := kPairsResultO) (x := (pairsRes t)) (S := []) (by kernel_rfl) rfl rfl rfl sn0 (fun w_ hs_ => impl_PairsIn w_ (hs_.at 4 rfl)) (fun cs_ o8 s9 w_ r10 t11 => ?_)))))))
      obtain ⟨A6, c7, rfl⟩ := kPairsResultO_sh r10
      refine al zero37 rfl rfl rfl ?_
      intro b13
      refine sto rfl rfl rfl rfl rfl rfl rfl (cs' := [.int .i64 ((pairsRes t).code), .slice A6 (((pairsRes t).pairs).length) c7]) rfl (en (nx (sq (sq (rg (vl (fa rfl rfl rfl) rfl (vl (ldb (u := .int .i64 ((pairsRes t).code)) 0 rfl rfl rfl rfl rfl rfl rfl) rfl (vl (cm rfl rfl rfl rfl) rfl (en (nx ?_))))))))))
      by_cases h14 : (pairsRes t).code = (0 : Int)
      · have hpr := pairs_0 htf h14; have mm := model_0 hpr.2
        refine cf rfl (bne_eq_false_iff_eq.2 h14) (sk (nx (sq (rg (vl (fa rfl rfl rfl) rfl (vl (ldb (u := .slice A6 (((pairsRes t).pairs).length) c7) 0 rfl rfl rfl rfl rfl rfl rfl) rfl (vl (fa rfl rfl rfl) rfl (vl (fa rfl rfl rfl) rfl (vl (ldb (u := .int .i64 t.arena.dims) 4 rfl rfl rfl rfl rfl rfl rfl) rfl (vl (ldb 3 rfl rfl rfl rfl rfl rfl rfl) rfl (cm_ (dk := kPairsResultO) (x := (answerRes ((pairsRes t).pairs) t.arena.dims q)) (S := []) (by kernel_rfl) rfl rfl rfl sn0 (fun w_ hs_ => bors kPairsResultO_seal kPairsResultS_p1_1 (cs2 := [.slice A6 (((pairsRes t).pairs).length) c7]) rfl (hs_.at 1 rfl) fun _ lb0_ => impl_AnswerOf w_ _ lb0_ (hs_.at 5 rfl)) (fun cs_ o17 s18 w_ r19 t20 => ?_))))))))))))
        obtain ⟨A15, c16, rfl⟩ := kPairsResultO_sh r19
        exact f3 (sto rfl rfl rfl rfl rfl rfl rfl (cs' := [.int .i64 ((answerRes ((pairsRes t).pairs) t.arena.dims q).code), .slice A15 (((answerRes ((pairsRes t).pairs) t.arena.dims q).pairs).length) c16]) rfl (en (nx (rt (f1 (gr (askRes t q) (by unfold askRes; rw [if_pos h4, if_pos h5, if_pos h14]) (retc 1 rfl rfl rfl rfl rfl rfl (fun w_ hs_ => made hs_ rfl t20))))))))
      · exact ct rfl (bne_iff_ne.2 h14) (sq (rg (vl (ldb 0 rfl rfl rfl rfl rfl rfl rfl) rfl (f2 (sto rfl rfl rfl rfl rfl rfl rfl (cs' := [.int .i64 ((pairsRes t).code), .slice A6 (((pairsRes t).pairs).length) c7]) rfl (en (nx (rt (xr (f2 (gr (askRes t q) (by unfold askRes; rw [if_pos h4, if_pos h5, if_neg h14]) (retc 1 rfl rfl rfl rfl rfl rfl (fun w_ hs_ => made hs_ rfl t11)))))))))))))
    · exact ct rfl (bne_iff_ne.2 h5) (sq (rg (m_ rfl rfl (vl (bd bld37 rfl rfl rfl) rfl (sto rfl rfl rfl rfl rfl rfl rfl (cs' := [.int .i64 (queryFault q t.arena.dims), .slice none 0 0]) rfl (en (nx (rt (xr (gs (Kd.row 91 kPairO) [.slice none 0 0] ((⟨(queryFault q t.arena.dims), []⟩ : PairsResult).pairs) (fun _ => .inl ⟨rfl, rfl, rfl, rfl⟩) (gs Kd.i64 [.int .i64 (queryFault q t.arena.dims)] ((⟨(queryFault q t.arena.dims), []⟩ : PairsResult).code) (fun _ => ⟨rfl, rfl, rfl⟩) (gj (da := (Kd.via Kd.i64 PairsResult.code)) (db := (Kd.via (Kd.row 91 kPairO) PairsResult.pairs)) (x := (⟨(queryFault q t.arena.dims), []⟩ : PairsResult)) (cs := [.int .i64 (queryFault q t.arena.dims), .slice none 0 0]) rfl (gr (askRes t q) (by unfold askRes; rw [if_pos h4, if_neg h5]) (retc 1 rfl rfl rfl rfl rfl rfl (fun w_ hs_ => made hs_ rfl (see_app see_nil see_nil))))))))))))))))
  · exact ct rfl (bne_iff_ne.2 h4) (sq (rg (m_ rfl rfl (vl (bd bld37 rfl rfl rfl) rfl (sto rfl rfl rfl rfl rfl rfl rfl (cs' := [.int .i64 (treeFault t), .slice none 0 0]) rfl (en (nx (rt (xr (gs (Kd.row 91 kPairO) [.slice none 0 0] ((⟨(treeFault t), []⟩ : PairsResult).pairs) (fun _ => .inl ⟨rfl, rfl, rfl, rfl⟩) (gs Kd.i64 [.int .i64 (treeFault t)] ((⟨(treeFault t), []⟩ : PairsResult).code) (fun _ => ⟨rfl, rfl, rfl⟩) (gj (da := (Kd.via Kd.i64 PairsResult.code)) (db := (Kd.via (Kd.row 91 kPairO) PairsResult.pairs)) (x := (⟨(treeFault t), []⟩ : PairsResult)) (cs := [.int .i64 (treeFault t), .slice none 0 0]) rfl (gr (askRes t q) (by unfold askRes; rw [if_neg h4]) (retc 1 rfl rfl rfl rfl rfl rfl (fun w_ hs_ => made hs_ rfl (see_app see_nil see_nil))))))))))))))))
/-! spec.AskTree -/
set_option maxRecDepth 20000 in
set_option maxHeartbeats 2000000 in
theorem spec_AskTree (w : World) {At2 : Option Addr} {ct2 : Nat} {At3 : Option Addr} {ct3 : Nat} {At4 : Option Addr} {ct4 : Nat} {t : Tree} {st_ : List Nat} (ht : kTreeS.Rel w [.int .i64 t.style, .int .i64 t.arena.dims, .slice At2 t.arena.nodes.length ct2, .slice At3 t.arena.free.length ct3, .slice At4 t.arena.retired.length ct4, .int .i64 t.root, .int .i64 t.rootNsn, .int .i64 t.counter] t [] st_) {Aq1 : Option Addr} {cq1 : Nat} {Aq2 : Option Addr} {cq2 : Nat} {Aq3 : Option Addr} {cq3 : Nat} {q : Query} {sq_ : List Nat} (hq : kQueryS.Rel w [.int .i64 q.kind, .slice Aq1 q.rect.low.length cq1, .slice Aq2 q.rect.high.length cq2, .slice Aq3 q.point.length cq3, .int .i64 q.k] q [] sq_)  : Calls Tryz.prog 6 #[.agg #[.int .i64 t.style, .int .i64 t.arena.dims, .slice At2 t.arena.nodes.length ct2, .slice At3 t.arena.free.length ct3, .slice At4 t.arena.retired.length ct4, .int .i64 t.root, .int .i64 t.rootNsn, .int .i64 t.counter], .agg #[.int .i64 q.kind, .slice Aq1 q.rect.low.length cq1, .slice Aq2 q.rect.high.length cq2, .slice Aq3 q.point.length cq3, .int .i64 q.k]] w (Made kPairsResultO w (askRes t q) []) := by
  refine fnc (X := X23 33 w) (args := [.agg #[.int .i64 t.style, .int .i64 t.arena.dims, .slice At2 t.arena.nodes.length ct2, .slice At3 t.arena.free.length ct3, .slice At4 t.arena.retired.length ct4, .int .i64 t.root, .int .i64 t.rootNsn, .int .i64 t.counter], .agg #[.int .i64 q.kind, .slice Aq1 q.rect.low.length cq1, .slice Aq2 q.rect.high.length cq2, .slice Aq3 q.point.length cq3, .int .i64 q.k]]) (l := [(0, .agg #[.int .i64 t.style, .int .i64 t.arena.dims, .slice At2 t.arena.nodes.length ct2, .slice At3 t.arena.free.length ct3, .slice At4 t.arena.retired.length ct4, .int .i64 t.root, .int .i64 t.rootNsn, .int .i64 t.counter]), (1, .agg #[.int .i64 q.kind, .slice Aq1 q.rect.low.length cq1, .slice Aq2 q.rect.high.length cq2, .slice Aq3 q.point.length cq3, .int .i64 q.k])]) (G := [dat kQueryS [.int .i64 q.kind, .slice Aq1 q.rect.low.length cq1, .slice Aq2 q.rect.high.length cq2, .slice Aq3 q.point.length cq3, .int .i64 q.k] q ([]) sq_, dat kTreeS [.int .i64 t.style, .int .i64 t.arena.dims, .slice At2 t.arena.nodes.length ct2, .slice At3 t.arena.free.length ct3, .slice At4 t.arena.retired.length ct4, .int .i64 t.root, .int .i64 t.rootNsn, .int .i64 t.counter] t ([]) st_]) Tryz.func6 rfl rfl rfl ⟨rfl, rfl, trivial⟩ (s0d hq (s0d ht (s0n w))).1 ?_
  refine sq (rg (bx rfl rfl rfl rfl ?_))
  intro b1
  refine bx rfl rfl rfl rfl ?_
  intro b2
  refine al zero37 rfl rfl rfl ?_
  intro b3
  refine en (nx (sq (sq (rg (vl (ldb 2 rfl rfl rfl rfl rfl rfl rfl) rfl ?_)))))
  refine cs_ (v := .int .i64 (treeFault t)) (by kernel_rfl) rfl rfl rfl (fun w_ hs_ => spec_TreeFault w_ (hs_.at 4 rfl)) (a_ rfl rfl (en (nx (sq (rg (m_ rfl rfl (vl (cm rfl rfl rfl rfl) rfl (en (nx ?_)))))))))
  by_cases h4 : (treeFault t) = (0 : Int)
  · have htf := h4; obtain ⟨hS, hp, hr⟩ := tree_0 h4
    refine cf rfl (bne_eq_false_iff_eq.2 h4) (sk (nx (sq (sq (rg (vl (ldb 1 rfl rfl rfl rfl rfl rfl rfl) rfl (vl (fa rfl rfl rfl) rfl (vl (fa rfl rfl rfl) rfl (vl (ldb (u := .int .i64 t.arena.dims) 2 rfl rfl rfl rfl rfl rfl rfl) rfl ?_)))))))))
    refine cs_ (v := .int .i64 (queryFault q t.arena.dims)) (by kernel_rfl) rfl rfl rfl (fun w_ hs_ => spec_QueryFault w_ _ (hs_.at 3 rfl)) (a_ rfl rfl (en (nx (sq (rg (m_ rfl rfl (vl (cm rfl rfl rfl rfl) rfl (en (nx ?_)))))))))
    by_cases h5 : (queryFault q t.arena.dims) = (0 : Int)
    · have yFq := (query_fit h5).1
      refine cf rfl (bne_eq_false_iff_eq.2 h5) (sk (nx (sq (rg (vl (ldb 2 rfl rfl rfl rfl rfl rfl rfl) rfl (cm_ (dk := kPairsResultO) (x := (pairsRes t)) (S := []) (by kernel_rfl) rfl rfl rfl sn0 (fun w_ hs_ => spec_PairsIn w_ (hs_.at 4 rfl)) (fun cs_ o8 s9 w_ r10 t11 => ?_)))))))
      obtain ⟨A6, c7, rfl⟩ := kPairsResultO_sh r10
      refine al zero37 rfl rfl rfl ?_
      intro b13
      refine sto rfl rfl rfl rfl rfl rfl rfl (cs' := [.int .i64 ((pairsRes t).code), .slice A6 (((pairsRes t).pairs).length) c7]) rfl (en (nx (sq (sq (rg (vl (fa rfl rfl rfl) rfl (vl (ldb (u := .int .i64 ((pairsRes t).code)) 0 rfl rfl rfl rfl rfl rfl rfl) rfl (vl (cm rfl rfl rfl rfl) rfl (en (nx ?_))))))))))
      by_cases h14 : (pairsRes t).code = (0 : Int)
      · have hpr := pairs_0 htf h14; have mm := model_0 hpr.2
        refine cf rfl (bne_eq_false_iff_eq.2 h14) (sk (nx (sq (rg (vl (fa rfl rfl rfl) rfl (vl (ldb (u := .slice A6 (((pairsRes t).pairs).length) c7) 0 rfl rfl rfl rfl rfl rfl rfl) rfl (cm_ (dk := (Kd.row 91 kPairO)) (x := (answerL ((pairsRes t).pairs) q)) (S := []) (by kernel_rfl) rfl rfl rfl sn0 (fun w_ hs_ => bors kPairsResultO_seal kPairsResultS_p1_1 (cs2 := [.slice A6 (((pairsRes t).pairs).length) c7]) rfl (hs_.at 1 rfl) fun _ lb0_ => spec_l2Answer w_ lb0_ (ptr_blk (hs_.at 3 rfl) (hs_.at 5 rfl) rfl) mm.1 mm.2.2.1 yFq mm.2.1 (fun x hx => by have z := mm.2.2.2.1 x hx; omega)) (fun cs_ o17 s18 w_ r19 t20 => ?_))))))))
        obtain ⟨A15, c16, rfl⟩ := Kd.row_sh r19
        exact vl (bd bld37 rfl rfl rfl) rfl (f3 (sto rfl rfl rfl rfl rfl rfl rfl (cs' := [.int .i64 0, .slice A15 ((answerL ((pairsRes t).pairs) q).length) c16]) rfl (en (nx (rt (f1 (gs Kd.i64 [.int .i64 0] ((⟨0, (answerL ((pairsRes t).pairs) q)⟩ : PairsResult).code) (fun _ => ⟨rfl, rfl, rfl⟩) (gj (da := (Kd.via Kd.i64 PairsResult.code)) (db := (Kd.via (Kd.row 91 kPairO) PairsResult.pairs)) (x := (⟨0, (answerL ((pairsRes t).pairs) q)⟩ : PairsResult)) (cs := [.int .i64 0, .slice A15 ((answerL ((pairsRes t).pairs) q).length) c16]) rfl (gr (askRes t q) (by unfold askRes; rw [if_pos h4, if_pos h5, if_pos h14]; unfold answerRes; rw [if_pos hpr.2, if_pos h5]) (retc 1 rfl rfl rfl rfl rfl rfl (fun w_ hs_ => made hs_ rfl (see_app see_nil t20))))))))))))
      · exact ct rfl (bne_iff_ne.2 h14) (sq (rg (vl (ldb 0 rfl rfl rfl rfl rfl rfl rfl) rfl (f2 (sto rfl rfl rfl rfl rfl rfl rfl (cs' := [.int .i64 ((pairsRes t).code), .slice A6 (((pairsRes t).pairs).length) c7]) rfl (en (nx (rt (xr (f2 (gr (askRes t q) (by unfold askRes; rw [if_pos h4, if_pos h5, if_neg h14]) (retc 1 rfl rfl rfl rfl rfl rfl (fun w_ hs_ => made hs_ rfl t11)))))))))))))
    · exact ct rfl (bne_iff_ne.2 h5) (sq (rg (m_ rfl rfl (vl (bd bld37 rfl rfl rfl) rfl (sto rfl rfl rfl rfl rfl rfl rfl (cs' := [.int .i64 (queryFault q t.arena.dims), .slice none 0 0]) rfl (en (nx (rt (xr (gs (Kd.row 91 kPairO) [.slice none 0 0] ((⟨(queryFault q t.arena.dims), []⟩ : PairsResult).pairs) (fun _ => .inl ⟨rfl, rfl, rfl, rfl⟩) (gs Kd.i64 [.int .i64 (queryFault q t.arena.dims)] ((⟨(queryFault q t.arena.dims), []⟩ : PairsResult).code) (fun _ => ⟨rfl, rfl, rfl⟩) (gj (da := (Kd.via Kd.i64 PairsResult.code)) (db := (Kd.via (Kd.row 91 kPairO) PairsResult.pairs)) (x := (⟨(queryFault q t.arena.dims), []⟩ : PairsResult)) (cs := [.int .i64 (queryFault q t.arena.dims), .slice none 0 0]) rfl (gr (askRes t q) (by unfold askRes; rw [if_pos h4, if_neg h5]) (retc 1 rfl rfl rfl rfl rfl rfl (fun w_ hs_ => made hs_ rfl (see_app see_nil see_nil))))))))))))))))
  · exact ct rfl (bne_iff_ne.2 h4) (sq (rg (m_ rfl rfl (vl (bd bld37 rfl rfl rfl) rfl (sto rfl rfl rfl rfl rfl rfl rfl (cs' := [.int .i64 (treeFault t), .slice none 0 0]) rfl (en (nx (rt (xr (gs (Kd.row 91 kPairO) [.slice none 0 0] ((⟨(treeFault t), []⟩ : PairsResult).pairs) (fun _ => .inl ⟨rfl, rfl, rfl, rfl⟩) (gs Kd.i64 [.int .i64 (treeFault t)] ((⟨(treeFault t), []⟩ : PairsResult).code) (fun _ => ⟨rfl, rfl, rfl⟩) (gj (da := (Kd.via Kd.i64 PairsResult.code)) (db := (Kd.via (Kd.row 91 kPairO) PairsResult.pairs)) (x := (⟨(treeFault t), []⟩ : PairsResult)) (cs := [.int .i64 (treeFault t), .slice none 0 0]) rfl (gr (askRes t q) (by unfold askRes; rw [if_neg h4]) (retc 1 rfl rfl rfl rfl rfl rfl (fun w_ hs_ => made hs_ rfl (see_app see_nil see_nil))))))))))))))))
end Go.Proofs.YtfaflffdekoimaaGreat.Sx
