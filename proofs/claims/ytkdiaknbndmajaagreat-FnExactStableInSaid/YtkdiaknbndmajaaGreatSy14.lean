/- What functions of the program answer, each at every input that its row names; walked through their code. -/
import Derived.Test.YtkdiaknbndmajaaGreatSy13
namespace Go.Proofs.YtkdiaknbndmajaaGreat.Sx
open Go Go.RowKit Go.Proofs
set_option linter.unusedVariables false
set_option linter.unusedSimpArgs false
def tab13 : Tab := { size := [(60, 3, true)], off := [], elem := [(24, 60)] }
theorem tab_ok13 : tab13.check Tryz.prog = true := by kernel_rfl
noncomputable abbrev X13 (N : Nat) (w : World) : Cx := ⟨Tryz.prog, tab13, tab_ok13, wide, N, w, none, []⟩

/-! ### elements of one's own that are moved: each with its cells and its memory noted -/
abbrev Tg (α : Type) := α × List Value × List Nat × List Nat
namespace Kd
section
variable {α : Type}
def tag (d : Kd α) : Kd (Tg α) where
  sz := d.sz
  Rel w cs t o s := cs = t.2.1 ∧ d.Rel w cs t.1 o s
  len h := d.len h.2
  one h := d.one h.2
  keep ho hs h := ⟨h.1, d.keep ho hs h.2⟩
  lt h := d.lt h.2
theorem Pure.tag {d : Kd α} (h : d.Pure) : d.tag.Pure := fun w cs x o s hr => h w cs x.1 o s hr.2
theorem Seals.tag {d : Kd α} (h : Seals d d) : Seals d.tag d.tag := ⟨rfl, fun w cs x o s hr => by
  obtain ⟨s', h1, h2⟩ := h.2 w cs x.1 o s hr.2
  exact ⟨s', h1, hr.1, h2⟩⟩
theorem Elems.tags {da db : Kd α} (hS : Seals da db) {w : World} {cs : List Value} {xs : List α} {o s : List Nat} (h : Elems da w cs xs o s) :
    ∃ (ts : List (Tg α)) (s' : List Nat), ts.map (·.1) = xs ∧ o = ts.flatMap (·.2.2.1) ∧ s = ts.flatMap (·.2.2.2) ∧ (∀ t ∈ ts, da.Rel w t.2.1 t.1 t.2.2.1 t.2.2.2) ∧ (∀ b ∈ s', b ∈ o ∨ b ∈ s) ∧ Elems db.tag w cs ts [] s' := by
  induction h with
  | nil => exact ⟨[], [], rfl, rfl, rfl, by simp, by simp, .nil⟩
  | @cons c cs x xs o o' s s' hr he ih =>
    obtain ⟨ts, s1, h1, h2, h3, h4, h5, h6⟩ := ih
    obtain ⟨s2, h7, h8⟩ := hS.2 w c x o s hr
    refine ⟨(x, c, o, s) :: ts, s2 ++ s1, by simp [h1], by simp [h2], by simp [h3], ?_, ?_, ?_⟩
    · intro t ht
      rcases List.mem_cons.1 ht with rfl | ht
      · exact hr
      · exact h4 t ht
    · intro b hb
      simp only [List.mem_append] at hb ⊢
      rcases hb with hb | hb
      · rcases h7 b hb with h | h
        · exact .inl (.inl h)
        · exact .inr (.inl h)
      · rcases h5 b hb with h | h
        · exact .inl (.inr h)
        · exact .inr (.inr h)
    · exact Elems.cons (d := db.tag) (x := (x, c, o, s)) (o := []) (o' := []) ⟨rfl, h8⟩ h6
theorem Elems.untag {da db : Kd α} {w : World} {cs : List Value} {ts : List (Tg α)} {oo ss : List Nat} (h : Elems db.tag w cs ts oo ss) (hk : ∀ t ∈ ts, da.Rel w t.2.1 t.1 t.2.2.1 t.2.2.2) :
    Elems da w cs (ts.map (·.1)) (ts.flatMap (·.2.2.1)) (ts.flatMap (·.2.2.2)) := by
  induction h with
  | nil => exact .nil
  | @cons c cs x xs o o' s s' hr he ih =>
    obtain ⟨rfl, -⟩ := hr
    simp only [List.map_cons, List.flatMap_cons]
    exact .cons (hk x (by simp)) (ih (fun t ht => hk t (List.mem_cons_of_mem _ ht)))
end
end Kd
theorem sub_flatMap {α β : Type} {f : α → List β} {l1 l2 : List α} (h : l1.Sublist l2) : (l1.flatMap f).Sublist (l2.flatMap f) := by
  induction h with
  | slnil => exact .slnil
  | cons a h ih => exact ih.trans (by rw [List.flatMap_cons]; exact List.sublist_append_right _ _)
  | cons_cons a h ih => rw [List.flatMap_cons, List.flatMap_cons]; exact (List.Sublist.refl _).append ih
/-- A row whose elements own memory, turned by a call that moves its elements: they keep what they own. -/
theorem own_of_tag {α : Type} {da db : Kd α} {e : TypeId} (hS : Kd.Seals da db) {P : Program} {f : FuncId} {vs : Array Value} {w : World} {A : Option Addr} {c : Nat} {xs x' : List α} {o s : List Nat} (g : List (Tg α) → List (Tg α))
    (hst : St (nul w) w [dat (Kd.row e da) [.slice A xs.length c] xs o s])
    (hcall : ∀ (ts : List (Tg α)) (bs s' : List Nat), ts.map (·.1) = xs → (∀ b ∈ bs, b ∈ o) → St (nul w) w [dat (Kd.row e db.tag) [.slice A ts.length c] ts bs s'] → Calls P f vs w (MadeO (Kd.row e db.tag) w bs (g ts) s'))
    (hg : ∀ ts, (g ts).Sublist ts) (hx : ∀ ts : List (Tg α), ts.map (·.1) = xs → (g ts).map (·.1) = x') : Calls P f vs w (MadeO (Kd.row e da) w o x' s) := by
  have hr : (Kd.row e da).Rel w [.slice A xs.length c] xs o s := hst.at 0 rfl
  have hu0 := hst.uniq _ (List.mem_cons_self ..)
  have hu : o.Nodup ∧ ∀ b ∈ o, b ∉ s := hu0
  have hl : ∀ b, b ∈ o ∨ b ∈ s → b < w.heap.size := fun b hb => (Kd.row e da).lt hr b hb
  have key : ∃ (ts : List (Tg α)) (bs s' : List Nat), ts.map (·.1) = xs ∧ o = bs ++ ts.flatMap (·.2.2.1) ∧ s = ts.flatMap (·.2.2.2) ∧ (∀ t ∈ ts, da.Rel w t.2.1 t.1 t.2.2.1 t.2.2.2) ∧ (∀ b ∈ s', b ∈ ts.flatMap (·.2.2.1) ∨ b ∈ s) ∧ (Kd.row e db.tag).Rel w [.slice A ts.length c] ts bs s' := by
    rcases hr with ⟨rfl, rfl, rfl, hc⟩ | ⟨b, c', cur, o', hc, rfl, hb, h1, h2, h3, he⟩
    · exact ⟨[], [], [], rfl, rfl, rfl, by simp, by simp, .inl ⟨rfl, rfl, rfl, hc⟩⟩
    · obtain ⟨ts, s', h4, h5, h6, h7, h8, h9⟩ := he.tags hS
      have hlen : ts.length = xs.length := by rw [← h4, List.length_map]
      have hsz : da.sz = db.sz := hS.1
      refine ⟨ts, [b], s', h4, by rw [← h5]; rfl, h6, h7, fun q hq => by rw [← h5]; exact h8 q hq, .inr ⟨b, c', cur, [], ?_, rfl, hb, by omega, ⟨h2.1, by omega⟩, ?_, ?_⟩⟩
      · rw [hlen]; exact hc
      · exact h3.trans (by rw [hsz]; rfl)
      · rw [hlen]; show Kd.Elems db.tag w (cur.toList.take (xs.length * db.sz)) ts [] s'; rw [← hsz]; exact h9
  obtain ⟨ts, bs, s', h1, h2, h3, h4, h5, h6⟩ := key
  have hnd : bs.Nodup ∧ (ts.flatMap (·.2.2.1)).Nodup ∧ ∀ b ∈ bs, b ∉ ts.flatMap (·.2.2.1) := by
    have := hu.1; rw [h2, List.nodup_append] at this
    exact ⟨this.1, this.2.1, fun b hb hb' => this.2.2 b hb b hb' rfl⟩
  have hbo : ∀ b ∈ bs, b ∈ o := fun b hb => by rw [h2]; exact List.mem_append_left _ hb
  have hfo : ∀ b ∈ ts.flatMap (·.2.2.1), b ∈ o := fun b hb => by rw [h2]; exact List.mem_append_right _ hb
  have hst' : St (nul w) w [dat (Kd.row e db.tag) [.slice A ts.length c] ts bs s'] := by
    refine St.cons (St.nil hst.below) h6 (fun b hb => Nat.zero_le _) ⟨hnd.1, fun b hb hb' => ?_⟩ (by simp)
    rcases h5 b hb' with h | h
    · exact hnd.2.2 b hb h
    · exact hu.2 b (hbo b hb) h
  refine (hcall ts bs s' h1 hbo hst').mono ?_
  rintro en w' ⟨cs, oo, ss, rfl, hm, hP, hoo, hss, hun, -⟩
  have hsub := hg ts
  have hP' : (Kd.row e db.tag).Rel w' cs (g ts) oo ss := hP (dat (Kd.row e db.tag) cs (g ts) oo ss) (by simp)
  have hoo' : ∀ b ∈ oo, b ∈ bs ∨ w.heap.size ≤ b := hoo (dat (Kd.row e db.tag) cs (g ts) oo ss) (by simp)
  have hfg : ∀ b ∈ (g ts).flatMap (·.2.2.1), b ∈ ts.flatMap (·.2.2.1) := fun b hb => (sub_flatMap hsub).subset hb
  have hsg : ∀ b ∈ (g ts).flatMap (·.2.2.2), b ∈ s := fun b hb => by rw [h3]; exact (sub_flatMap hsub).subset hb
  rw [← hx ts h1]
  have hk : ∀ t ∈ g ts, da.Rel w' t.2.1 t.1 t.2.2.1 t.2.2.2 := fun t ht => by
    have ht' := hsub.subset ht
    have hr := h4 t ht'
    refine da.keep (fun b hb => ?_) (fun b hb => ?_) hr
    · exact hm.block b (da.lt hr b (.inl hb)) (fun hx => hnd.2.2 b hx (List.mem_flatMap.2 ⟨t, ht', hb⟩))
    · exact hm.block b (da.lt hr b (.inr hb)) (fun hx => hu.2 b (hbo b hx) (by rw [h3]; exact List.mem_flatMap.2 ⟨t, ht', hb⟩))
  have done : ∃ o2 : List Nat, (Kd.row e da).Rel w' cs ((g ts).map (·.1)) o2 ((g ts).flatMap (·.2.2.2)) ∧ (∀ b ∈ o2, b ∈ o ∨ w.heap.size ≤ b) ∧ o2.Nodup ∧ ∀ b ∈ o2, b ∉ (g ts).flatMap (·.2.2.2) := by
    rcases hP' with ⟨hgn, rfl, rfl, hc⟩ | ⟨b, c', cur, o', hc, rfl, hb, h7, h8, h9, he⟩
    · rw [hgn]; exact ⟨[], .inl ⟨rfl, rfl, rfl, hc⟩, by simp, by simp, by simp⟩
    · have hb' := hoo' b (by simp)
      have hsz : da.sz = db.sz := hS.1
      refine ⟨b :: (g ts).flatMap (·.2.2.1), .inr ⟨b, c', cur, _, by rw [List.length_map]; exact hc, rfl, hb, by rw [List.length_map]; exact h7, ⟨h8.1, by rw [List.length_map]; exact h8.2⟩, h9.trans (by rw [hsz]; rfl), ?_⟩, ?_, ?_, ?_⟩
      · rw [List.length_map, hsz]; exact he.untag hk
      · intro q hq
        rcases List.mem_cons.1 hq with rfl | hq
        · exact hb'.imp_left (hbo _)
        · exact .inl (hfo q (hfg q hq))
      · refine List.nodup_cons.2 ⟨fun hq => ?_, hnd.2.1.sublist (sub_flatMap hsub)⟩
        rcases hb' with hb' | hb'
        · exact hnd.2.2 b hb' (hfg b hq)
        · have := hl b (.inl (hfo b (hfg b hq))); omega
      · intro q hq hq'
        rcases List.mem_cons.1 hq with rfl | hq
        · rcases hb' with hb' | hb'
          · exact hu.2 _ (hbo _ hb') (hsg _ hq')
          · have := hl _ (.inr (hsg _ hq')); omega
        · exact hu.2 q (hfo q (hfg q hq)) (hsg q hq')
  obtain ⟨o2, d1, d2, d3, d4⟩ := done
  refine ⟨cs, o2, (g ts).flatMap (·.2.2.2), rfl, hm.mono hbo, ?_, ?_, ?_, ?_, by simp⟩
  · intro B hB; simp at hB; subst hB; exact d1
  · intro B hB b hb; simp at hB; subst hB; exact d2 b hb
  · intro B hB b hb; simp at hB; subst hB; exact .inl (hsg b hb)
  · intro B hB; simp at hB; subst hB; exact ⟨d3, d4⟩

def kPairT : Kd (Tg Pair) := kPairS.tag
theorem kPairT_sh {w : World} {cs : List Value} {x : Tg Pair} {o s : List Nat} (h : kPairT.Rel w cs x o s) : ∃ (A1 : Option Addr) (c1 : Nat) (A2 : Option Addr) (c2 : Nat), cs = [.int .i64 x.1.id, .slice A1 x.1.rect.low.length c1, .slice A2 x.1.rect.high.length c2] := kPairS_sh h.2
theorem kPairT_self : Kd.Seals kPairT kPairT := kPairS_self.tag
theorem kPairT_pure : Kd.Pure kPairT := kPairS_pure.tag
def zPairT : Tg Pair := (zPair, [.int .i64 0, .slice none 0 0, .slice none 0 0], [], [])
/-! slices.IndexFunc[[]impl.Pair,impl.Pair] -/
set_option maxRecDepth 20000 in
set_option maxHeartbeats 2000000 in
theorem idx_T (w : World) (p : (Tg Pair) → Bool) {fp : FuncId} {cfp : List Value} (hEp : enters Tryz.prog fp = true) {As : Option Addr} {cs : Nat} {s : List (Tg Pair)} {ss_ : List Nat} (hs : (Kd.sl kPairT).Rel w [.slice As s.length cs] s [] ss_) (hfp : ∀ (w1 : World) (x0 : (Tg Pair)), x0 ∈ s → Below w.heap.size w w1 → ∀ (A0_2 : Option Addr) (c0_2 : Nat), ∀ (A0_1 : Option Addr) (c0_1 : Nat), ∀ s0_ : List Nat, kPairT.Rel w1 [.int .i64 x0.1.id, .slice A0_1 x0.1.rect.low.length c0_1, .slice A0_2 x0.1.rect.high.length c0_2] x0 [] s0_ → Calls Tryz.prog fp (([.agg #[.int .i64 x0.1.id, .slice A0_1 x0.1.rect.low.length c0_1, .slice A0_2 x0.1.rect.high.length c0_2]] : List Value) ++ cfp).toArray w1 (fun e_ w2_ => e_ = .returned (.bool (p x0)) ∧ Below w1.heap.size w1 w2_))  : Calls Tryz.prog 93 #[.slice As s.length cs, .func (.func fp) #[] cfp.toArray] w (fun e_ w2_ => e_ = .returned (.int .i64 (idx p s)) ∧ Below w.heap.size w w2_) := by
  have Ls := Kd.sl_len hs; have Cs := Kd.sl_cap hs
  refine fnc (X := X13 19 w) (args := [.slice As s.length cs, .func (.func fp) #[] cfp.toArray]) (l := [(0, .slice As s.length cs), (1, .func (.func fp) #[] cfp.toArray)]) (G := [dat (Kd.sl kPairT) [.slice As s.length cs] s ([]) ss_]) Tryz.func93 rfl rfl rfl ⟨rfl, rfl, trivial⟩ (s0d hs (s0n w)).1 ?_
  refine sq (rg (a_ rfl rfl (en (nx (sq (sq (rg (m_ rfl rfl (vl (ln rfl rfl rfl) rfl (m_ rfl rfl (en (nx (bk ?_)))))))))))))
  refine lp (σ := Nat) (fun k : Nat => [(0, .slice As s.length cs), (1, .func (.func fp) #[] cfp.toArray), (7, .int .i64 ((s.length : Nat) : Int)), (8, .int .i64 ((k : Nat) : Int))])
      (fun k : Nat => [dat (Kd.sl kPairT) [.slice As s.length cs] s ([]) ss_])
      (fun k : Nat => k ≤ s.length ∧ ∀ j x, j < k → s[j]? = some x → p x = false) (fun k : Nat => s.length - k) 0 [0] ⟨Nat.zero_le _, by simp⟩ ⟨rfl, rfl, rfl, rfl, trivial⟩ rfl ?_
  intro k hp_
  obtain ⟨hk, hinv⟩ := hp_
  refine sq (rg (vl (cm rfl rfl rfl rfl) rfl (en (nx (sq ?_)))))
  by_cases h1 : ((k : Nat) : Int) < ((s.length : Nat) : Int)
  · refine ct rfl (decide_eq_true h1) (sk (nx (sq (bk (sq (rg (m_ rfl rfl (a_ rfl rfl (en (nx (sq (rg (m_ rfl rfl (m_ rfl rfl (m_ rfl rfl ?_)))))))))))))))
    refine gx 0 k rfl (by omega) fun y7 p2 cs_ s3 w6 m8 e4 r5 us3 => ?_
    obtain ⟨A9, c10, A11, c12, rfl⟩ := kPairT_sh r5
    refine vl (ix k e4 rfl rfl rfl rfl rfl (by omega)) rfl (vl (ldq 0 rfl rfl rfl rfl rfl rfl rfl) rfl ?_)
    refine gp 0 Kd.Sub.rfl rfl (cs' := [.int .i64 y7.1.id, .slice A9 y7.1.rect.low.length c10, .slice A11 y7.1.rect.high.length c12]) rfl fun s13 w_ rs13 us13 => ?_
    refine cv_ (v := .bool (p y7)) hEp rfl rfl rfl rfl (fun w_ hs_ => hfp w_ y7 (List.mem_of_getElem? m8) hs_.below _ _ _ _ _ (hs_.at 0 rfl)) (en (nx ?_))
    by_cases h14 : p y7 = true
    · refine ct rfl h14 (sq (rg (m_ rfl rfl (a_ rfl rfl (en (nx (rt (xrb (xr (xr (xrb (xr (ret1 rfl rfl (fun w_ hs_ => ⟨?_, hs_.below⟩))))))))))))))
      rw [idx_some hinv m8 h14]
    · exact cf rfl (Bool.eq_false_iff.2 h14) (sk (xn (nx (rg (vl (ra (c := ((k + 1 : Nat) : Int)) rfl rfl rfl (by omega) (by omega) (by omega)) rfl (m_ rfl rfl (en (lpe (s := k) (k + 1) [2] ⟨by omega, idx_step hinv m8 (Bool.eq_false_iff.2 h14)⟩ (by omega) ⟨rfl, rfl, rfl, rfl, trivial⟩ rfl))))))))
  · refine cf rfl (decide_eq_false h1) (xt (xq (xq (xb (nx (sq (rg (a_ rfl rfl (en (nx (rt (ret1 rfl rfl (fun w_ hs_ => ⟨?_, hs_.below⟩)))))))))))))
    rw [idx_none hinv (by omega)]
/-! slices.DeleteFunc[[]impl.Pair,impl.Pair] -/
set_option maxRecDepth 20000 in
set_option maxHeartbeats 2000000 in
theorem del_T (w : World) (del : (Tg Pair) → Bool) {fdel : FuncId} {cfdel : List Value} (hEdel : enters Tryz.prog fdel = true) {Asrc : Option Addr} {csrc : Nat} {src : List (Tg Pair)} {osrc_ ssrc_ : List Nat} (hst : St (nul w) w [dat (Kd.row 60 kPairT) [.slice Asrc src.length csrc] src osrc_ ssrc_]) (hfdel : ∀ (w1 : World) (x0 : (Tg Pair)), x0 ∈ src → Mod w w1 osrc_ → ∀ (A0_2 : Option Addr) (c0_2 : Nat), ∀ (A0_1 : Option Addr) (c0_1 : Nat), ∀ s0_ : List Nat, kPairT.Rel w1 [.int .i64 x0.1.id, .slice A0_1 x0.1.rect.low.length c0_1, .slice A0_2 x0.1.rect.high.length c0_2] x0 [] s0_ → Calls Tryz.prog fdel (([.agg #[.int .i64 x0.1.id, .slice A0_1 x0.1.rect.low.length c0_1, .slice A0_2 x0.1.rect.high.length c0_2]] : List Value) ++ cfdel).toArray w1 (fun e_ w2_ => e_ = .returned (.bool (del x0)) ∧ Below w1.heap.size w1 w2_))  : Calls Tryz.prog 54 #[.slice Asrc src.length csrc, .func (.func fdel) #[] cfdel.toArray] w (MadeO (Kd.row 60 kPairT) w osrc_ (src.filter (fun x => !del x)) (ssrc_)) := by
  have Lsrc := Kd.row_len (hst.at 0 rfl); have Csrc := Kd.row_cap (hst.at 0 rfl)
  refine fnc (X := X13 42 (nul w)) (args := [.slice Asrc src.length csrc, .func (.func fdel) #[] cfdel.toArray]) (l := [(0, .slice Asrc src.length csrc), (1, .func (.func fdel) #[] cfdel.toArray)]) (G := [frm w osrc_, dat (Kd.row 60 kPairT) [.slice Asrc src.length csrc] src osrc_ ssrc_]) Tryz.func54 rfl rfl rfl ⟨rfl, rfl, trivial⟩ (⟨hst.fr osrc_ (by simp [owns, dat, ptr]), trivial⟩ : _ ∧ True).1 ?_
  refine sq (rg (a_ rfl rfl (en (nx (sq (rg (m_ rfl rfl (m_ rfl rfl (cs_ (v := .int .i64 (idx del src)) (by kernel_rfl) rfl rfl rfl (fun w_ hs_ => bor (Kd.Seals.row kPairT_self _) (hs_.at 1 rfl) fun _ lb0_ => idx_T w_ del hEdel lb0_ (fun w1 x0 m0_ b_ => hfdel w1 x0 m0_ ((hs_.mod 0 rfl).trans (.of_below b_ _)))) (a_ rfl rfl (en (nx (sq (sq (rg (m_ rfl rfl (vl (cm rfl rfl rfl rfl) rfl (en (nx ?_)))))))))))))))))))
  by_cases h1 : (idx del src) = (-1 : Int)
  · exact ct rfl (beq_iff_eq.2 h1) (sq (rg (m_ rfl rfl (a_ rfl rfl (en (nx (rt (xr (f1 (gr (src.filter (fun x => !del x)) (filter_idx h1) (ret1 rfl rfl (fun w_ hs_ => madeo hs_ 0 rfl rfl (by grind)))))))))))))
  · obtain ⟨kh1, yh1, eh1, lh1, mh1, ph1, fh1⟩ := idx_at h1; rw [eh1] at h1; rw [eh1]; obtain ⟨bsrc, rfl⟩ := Kd.row_pos (hst.at 0 rfl) (by omega)
    refine cf rfl (beq_eq_false_iff_ne.2 h1) (sk (nx (sq (sq (rg (m_ rfl rfl (vl (ra (c := ((kh1 + 1 : Nat) : Int)) rfl rfl rfl (by omega) (by omega) (by omega)) rfl (a_ rfl rfl (en (nx (bk ?_)))))))))))
    refine lp (σ := Nat × Nat × List (Tg Pair) × List Nat × List Nat) (fun z_ : Nat × Nat × List (Tg Pair) × List Nat × List Nat => match z_ with | (i, j, xs, o_, s_) => [(0, .slice (some ⟨bsrc, 0, none⟩) src.length csrc), (1, .func (.func fdel) #[] cfdel.toArray), (5, .int .i64 ((i : Nat) : Int)), (6, .int .i64 ((j : Nat) : Int))])
        (fun z_ : Nat × Nat × List (Tg Pair) × List Nat × List Nat => match z_ with | (i, j, xs, o_, s_) => [dat (Kd.row 60 kPairT) [.slice (some ⟨bsrc, 0, none⟩) src.length csrc] xs o_ s_, frm w osrc_])
        (fun z_ : Nat × Nat × List (Tg Pair) × List Nat × List Nat => match z_ with | (i, j, xs, o_, s_) => i < j ∧ j ≤ src.length ∧ xs.length = src.length ∧ xs.take i = (src.take j).filter (fun x => !del x) ∧ xs.drop j = src.drop j ∧ ∀ q ∈ s_, q ∈ ssrc_) (fun z_ : Nat × Nat × List (Tg Pair) × List Nat × List Nat => match z_ with | (i, j, xs, o_, s_) => src.length - j) (kh1, kh1 + 1, src, osrc_, ssrc_) [1, 0] ⟨by omega, by omega, rfl, del_0 mh1 ph1 fh1, rfl, fun q h => h⟩ ⟨rfl, rfl, rfl, rfl, trivial⟩ rfl ?_
    rintro ⟨i, j, xs, o_, s_⟩ hp_
    obtain ⟨hij, hj, hln, htk, hdr, hsee⟩ := hp_
    refine sq (sq (rg (m_ rfl rfl (m_ rfl rfl (vl (ln rfl rfl rfl) rfl (vl (cm rfl rfl rfl rfl) rfl (en (nx ?_))))))))
    by_cases h2 : ((j : Nat) : Int) < ((src.length : Nat) : Int)
    · refine ct rfl (decide_eq_true h2) (sk (nx (sq (bk (sq (rg (m_ rfl rfl (m_ rfl rfl (vl (ix j rfl rfl rfl rfl rfl rfl (by omega)) rfl (ldr j kPairT_pure rfl rfl rfl rfl (by omega) rfl (fun y3 cs_ s4 w_ m5 r6 us4 => ?_)))))))))))
      obtain ⟨A7, c8, A9, c10, rfl⟩ := kPairT_sh r6
      refine al zero60 rfl rfl rfl ?_
      intro b11
      refine sto rfl rfl rfl rfl rfl rfl rfl (cs' := [.int .i64 y3.1.id, .slice A7 y3.1.rect.low.length c8, .slice A9 y3.1.rect.high.length c10]) rfl (en (nx (sq (rg (m_ rfl rfl (vl (ldb 0 rfl rfl rfl rfl rfl rfl rfl) rfl (cv_ (v := .bool (del y3)) hEdel rfl rfl rfl rfl (fun w_ hs_ => hfdel w_ y3 (List.mem_of_getElem? (drop_get hdr m5)) (hs_.mod 3 rfl) _ _ _ _ _ (hs_.at 1 rfl)) (vl (nt rfl rfl) rfl (en (nx ?_))))))))))
      by_cases h12 : del y3 = true
      · exact cf rfl (not_f h12) (sk (xn (nx (rg (m_ rfl rfl (vl (ra (c := ((j + 1 : Nat) : Int)) rfl rfl rfl (by omega) (by omega) (by omega)) rfl (a_ rfl rfl (en (lpe (s := (i, j, xs, o_, s_)) (i, j + 1, xs, o_, s_) [2, 2] ⟨by omega, by omega, hln, del_n htk (drop_get hdr m5) (by simpa using h12), drop_on hdr, by grind⟩ (by show src.length - (j + 1) < src.length - j; omega) ⟨rfl, rfl, rfl, rfl, trivial⟩ rfl)))))))))
      · refine ct rfl (not_t (Bool.eq_false_iff.2 h12)) (sq (rg (m_ rfl rfl (m_ rfl rfl (vl (ldb 0 rfl rfl rfl rfl rfl rfl rfl) rfl (vl (ix i rfl rfl rfl rfl rfl rfl (by omega)) rfl (f1 (f2 (ste i rfl rfl rfl rfl rfl (by first | omega | (simp; omega)) (fun o13 s14 t15 => ?_))))))))))
        exact en (nx (rg (m_ rfl rfl (vl (ra (c := ((i + 1 : Nat) : Int)) rfl rfl rfl (by omega) (by omega) (by omega)) rfl (a_ rfl rfl (en (xn (nx (rg (m_ rfl rfl (vl (ra (c := ((j + 1 : Nat) : Int)) rfl rfl rfl (by omega) (by omega) (by omega)) rfl (a_ rfl rfl (en (lpe (s := (i, j, xs, o_, s_)) (i + 1, j + 1, (xs.set i y3), o13, s14) [0, 1] ⟨by omega, by omega, by rw [List.length_set, hln], del_y htk (drop_get hdr m5) (by simpa using h12) (by omega), drop_set hdr (by omega), by grind⟩ (by show src.length - (j + 1) < src.length - j; omega) ⟨rfl, rfl, rfl, rfl, trivial⟩ rfl))))))))))))))
    · refine cf rfl (decide_eq_false h2) (xt (xq (xq (xb (nx (sq (rg (m_ rfl rfl (m_ rfl rfl (vl (slo (i := i) rfl rfl rfl rfl rfl (by omega) (by omega)) rfl (clr i (z := zPairT) kPairT_pure rfl info60 rfl (fun _ => ⟨rfl, ⟨[_], _, [], [], [], [], rfl, rfl, rfl, ⟨rfl, rfl, rfl⟩, ⟨[_], _, [], [], [], [], rfl, rfl, rfl, ⟨rfl, none, 0, rfl, Nat.le_refl _, Nat.zero_le _, .inl ⟨rfl, rfl⟩⟩, ⟨rfl, none, 0, rfl, Nat.le_refl _, Nat.zero_le _, .inl ⟨rfl, rfl⟩⟩⟩⟩⟩) (by decide) rfl rfl (by omega) (fun x16 o17 s18 q19 q20 t21 => ?_))))))))))))
      refine en (nx (sq (rg (m_ rfl rfl (m_ rfl rfl (vl (shi (i := i) rfl rfl rfl rfl rfl (by omega)) rfl (a_ rfl rfl (en (nx (rt (rcut i kPairT_pure (by omega) (fun o22 s23 t24 => ?_))))))))))))
      exact gr (src.filter (fun x => !del x)) (by rw [q19, htk, List.take_of_length_le (by omega)]) (ret1 rfl rfl (fun w_ hs_ => madeo hs_ 0 rfl rfl (by grind)))
/-! slices.DeleteFunc of pairs of one's own -/
theorem del_own (w : World) (del : Pair → Bool) {fdel : FuncId} {cfdel : List Value} (hEdel : enters Tryz.prog fdel = true) {Asrc : Option Addr} {csrc : Nat} {src : List Pair} {osrc_ ssrc_ : List Nat} (hst : St (nul w) w [dat (Kd.row 60 kPairO) [.slice Asrc src.length csrc] src osrc_ ssrc_])
    (hfdel : ∀ (w1 : World) (x0 : Pair), x0 ∈ src → Mod w w1 osrc_ → ∀ (A0_2 : Option Addr) (c0_2 : Nat), ∀ (A0_1 : Option Addr) (c0_1 : Nat), ∀ s0_ : List Nat, kPairS.Rel w1 [.int .i64 x0.id, .slice A0_1 x0.rect.low.length c0_1, .slice A0_2 x0.rect.high.length c0_2] x0 [] s0_ → Calls Tryz.prog fdel (([.agg #[.int .i64 x0.id, .slice A0_1 x0.rect.low.length c0_1, .slice A0_2 x0.rect.high.length c0_2]] : List Value) ++ cfdel).toArray w1 (fun e_ w2_ => e_ = .returned (.bool (del x0)) ∧ Below w1.heap.size w1 w2_)) :
    Calls Tryz.prog 54 #[.slice Asrc src.length csrc, .func (.func fdel) #[] cfdel.toArray] w (MadeO (Kd.row 60 kPairO) w osrc_ (src.filter (fun x => !del x)) (ssrc_)) :=
  own_of_tag kPairO_seal (fun ts => ts.filter (fun t => !del t.1)) hst (fun ts bs s' h1 hb h => by
    have hl : src.length = ts.length := by rw [← h1, List.length_map]
    rw [hl]
    exact del_T w (fun t => del t.1) hEdel h (fun w1 x0 m b _ _ _ _ _ r => hfdel w1 x0.1 (h1 ▸ List.mem_map_of_mem m) (b.mono hb) _ _ _ _ _ r.2))
   (fun _ => List.filter_sublist) (fun ts h => by rw [← h, List.filter_map]; rfl)
end Go.Proofs.YtkdiaknbndmajaaGreat.Sx
