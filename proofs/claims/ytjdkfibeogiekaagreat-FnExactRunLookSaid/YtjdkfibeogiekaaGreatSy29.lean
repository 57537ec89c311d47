/- What functions of the program answer, each at every input that its row names; walked through their code. -/
import Derived.Test.YtjdkfibeogiekaaGreatSy28
namespace Go.Proofs.YtjdkfibeogiekaaGreat.Sx
open Go Go.RowKit Go.Proofs
set_option linter.unusedVariables false
set_option linter.unusedSimpArgs false
set_option maxRecDepth 20000
set_option maxHeartbeats 2000000
def tab29 : Tab := { size := [(2, 1, false), (75, 1, false)], off := [((77, 0), 0), ((77, 1), 1), ((77, 2), 2)], elem := [] }
theorem tab_ok29 : tab29.check Tryz.prog = true:=by kernel_rfl
noncomputable abbrev X29 (N : Nat) (w : World) : Cx := ⟨Tryz.prog, tab29, tab_ok29, wide, N, w, none, []⟩

structure RunLookResult where
  code : Int
  pairs : List Pair
  steps : Int
  deriving DecidableEq
def kRunLookResultS : Kd RunLookResult := ((Kd.i64.via RunLookResult.code).cat (((Kd.sl kPairS).via RunLookResult.pairs).cat (Kd.i64.via RunLookResult.steps)))
theorem kRunLookResultS_sh {w : World} {cs : List Value} {x : RunLookResult} {o s : List Nat} (h : kRunLookResultS.Rel w cs x o s) : ∃ (A1 : Option Addr) (c1 : Nat),cs = [.int .i64 x.code,.slice A1 x.pairs.length c1,.int .i64 x.steps]:=by
  obtain ⟨c10,c20,o10,o20,s10,s20,rfl,rfl,rfl,h0,k0⟩:=h
  obtain ⟨rfl,-,-⟩:=h0
  obtain ⟨c11,c21,o11,o21,s11,s21,rfl,rfl,rfl,h1,k1⟩:=k0
  obtain ⟨-,A1_,c1_,rfl,-⟩:=h1
  obtain ⟨rfl,-,-⟩:=k1
  exact ⟨_,_,rfl⟩
theorem kRunLookResultS_p1_1 : Kd.Sub kRunLookResultS 1 (Kd.sl kPairS) (fun x=>x.pairs):=(Kd.Sub.right (Kd.Sub.left (Kd.Sub.rfl.via RunLookResult.pairs) _ (by decide)) _)
theorem kRunLookResultS_pure : Kd.Pure kRunLookResultS:=(Kd.Pure.cat (Kd.Pure.via Kd.Pure.i64 _) (Kd.Pure.cat (Kd.Pure.via (Kd.Pure.sl _) _) (Kd.Pure.via Kd.Pure.i64 _)))
def kRunLookResultO : Kd RunLookResult := ((Kd.i64.via RunLookResult.code).cat (((Kd.row 208 kPairO).via RunLookResult.pairs).cat (Kd.i64.via RunLookResult.steps)))
theorem kRunLookResultO_sh {w : World} {cs : List Value} {x : RunLookResult} {o s : List Nat} (h : kRunLookResultO.Rel w cs x o s) : ∃ (A1 : Option Addr) (c1 : Nat),cs = [.int .i64 x.code,.slice A1 x.pairs.length c1,.int .i64 x.steps]:=by
  obtain ⟨c10,c20,o10,o20,s10,s20,rfl,rfl,rfl,h0,k0⟩:=h
  obtain ⟨rfl,-,-⟩:=h0
  obtain ⟨c11,c21,o11,o21,s11,s21,rfl,rfl,rfl,h1,k1⟩:=k0
  obtain ⟨A1_,c1_,rfl⟩:=Kd.row_sh h1
  obtain ⟨rfl,-,-⟩:=k1
  exact ⟨_,_,rfl⟩
theorem kRunLookResultO_seal : Kd.Seals kRunLookResultO kRunLookResultS:=(Kd.Seals.cat (Kd.Seals.via Kd.Seals.i64 _) (Kd.Seals.cat (Kd.Seals.via (Kd.Seals.row kPairO_seal _) _) (Kd.Seals.via Kd.Seals.i64 _)))
theorem RunLookResult_eq (a b : RunLookResult) : decide (a = b) = (decide (a.code = b.code) && decide (a.pairs = b.pairs) && decide (a.steps = b.steps)):=by
  cases a; cases b; rw [Bool.eq_iff_iff]; simp [and_assoc]
theorem laws_eqRunLookResult (w : World) {Aa1 : Option Addr} {ca1 : Nat} {a : RunLookResult} {sa_ : List Nat} (ha : kRunLookResultS.Rel w [.int .i64 a.code,.slice Aa1 a.pairs.length ca1,.int .i64 a.steps] a [] sa_) {Ab1 : Option Addr} {cb1 : Nat} {b : RunLookResult} {sb_ : List Nat} (hb : kRunLookResultS.Rel w [.int .i64 b.code,.slice Ab1 b.pairs.length cb1,.int .i64 b.steps] b [] sb_)  : Calls Tryz.prog 41 #[.agg #[.int .i64 a.code,.slice Aa1 a.pairs.length ca1,.int .i64 a.steps],.agg #[.int .i64 b.code,.slice Ab1 b.pairs.length cb1,.int .i64 b.steps]] w (fun e_ w2_=>e_ = .returned (.bool (decide (a = b))) ∧ Below w.heap.size w w2_):=by
  refine fnc (X:=X29 21 w) (l:=[(0,.agg #[.int .i64 a.code,.slice Aa1 a.pairs.length ca1,.int .i64 a.steps]),(1,.agg #[.int .i64 b.code,.slice Ab1 b.pairs.length cb1,.int .i64 b.steps])]) Tryz.func41 rfl rfl rfl ⟨rfl,rfl,trivial⟩ (s0d hb (s0d ha (s0n w))).1 ?_
  refine sq (rg (bx rfl rfl rfl rfl ?_))
  intro b1
  refine bx rfl rfl rfl rfl ?_
  intro b2
  refine rn ik 13 [1,0,0,0] rfl ?_
  by_cases h3 : a.code = b.code
  · refine r1_ ik 10 [0,1,0,0,0] rfl (bne_eq_false_iff_eq.2 h3) ?_
    refine gd 3 kRunLookResultS_p1_1 rfl (cs':=[.slice Aa1 a.pairs.length ca1]) rfl fun s4 w_ rs4 us4=>?_
    have Ls4:=Kd.sl_len rs4; have Cs4:=Kd.sl_cap rs4
    refine gd 3 kRunLookResultS_p1_1 rfl (cs':=[.slice Ab1 b.pairs.length cb1]) rfl fun s5 w_ rs5 us5=>?_
    have Ls5:=Kd.sl_len rs5; have Cs5:=Kd.sl_cap rs5
    refine cs_ (v:=.bool (decide (a.pairs = b.pairs))) (by kernel_rfl) rfl rfl rfl (fun w_ hs_=>laws_eqPairS w_ (hs_.at 1 rfl) (hs_.at 0 rfl)) (rn ik 3 [] rfl ?_)
    by_cases h6 : decide (a.pairs = b.pairs) = true
    · refine r1_ ik 13 [0,3,0,2,0] rfl (not_f h6) ?_
      by_cases h7 : a.steps = b.steps
      · refine r1_ ik 9 [0] rfl (bne_eq_false_iff_eq.2 h7) (ret1 rfl rfl (fun w_ hs_=>⟨?_,hs_.below⟩))
        rw [RunLookResult_eq]; simp [h3,h6,h7]
      · refine r1_ ik 8 [1] rfl (bne_iff_ne.2 h7) (ret1 rfl rfl (fun w_ hs_=>⟨?_,hs_.below⟩))
        rw [RunLookResult_eq]; simp [h3,h6,h7]
    · refine r1_ ik 8 [1] rfl (not_t (Bool.eq_false_iff.2 h6)) (ret1 rfl rfl (fun w_ hs_=>⟨?_,hs_.below⟩))
      rw [RunLookResult_eq]; simp [h3,h6]
  · refine r1_ ik 8 [1] rfl (bne_iff_ne.2 h3) (ret1 rfl rfl (fun w_ hs_=>⟨?_,hs_.below⟩))
    rw [RunLookResult_eq]; simp [h3]
theorem tell_mem {l : Look} {x : Pair} (h : x ∈ tellL l) : x ∈ l.found:=by
  unfold tellL at h
  split at h
  · exact near_mem (List.mem_of_mem_take h)
  · exact h


def sizeT (t : Tree) : Nat → Int → Nat
  | 0,_=>1
  | L + 1,id=>1 + ((nodeAt t.arena id).entries.map (fun e=>sizeT t L e.ref)).sum
def GoodT (t : Tree) : Nat → Int → Prop
  | 0,id=>placeFault t.arena id = 0 ∧ (nodeAt t.arena id).level = 0
  | L + 1,id=>placeFault t.arena id = 0 ∧ (nodeAt t.arena id).level = (L : Int) + 1 ∧ ∀ e ∈ (nodeAt t.arena id).entries,(nodeAt t.arena e.ref).nsn = e.nsn ∧ GoodT t L e.ref
theorem used_0 {a : Arena} {id : Int} (h : isUsed a id = true) : placeFault a id = 0:=by
  unfold isUsed at h
  simp only [Bool.and_eq_true,Bool.not_eq_true',decide_eq_false_iff_not] at h
  unfold placeFault; rw [if_pos h.1.1,if_neg h.1.2]
theorem GoodT.place {t : Tree} {L : Nat} {id : Int} (h : GoodT t L id) : placeFault t.arena id = 0:=by
  cases L <;> exact h.1
theorem GoodT.lev {t : Tree} {L : Nat} {id : Int} (h : GoodT t L id) : (nodeAt t.arena id).level = (L : Int):=by
  cases L with
  | zero=>exact h.2
  | succ L=>rw [h.2.1]; rfl
theorem size_s (t : Tree) (L : Nat) (id : Int) : sizeT t (L + 1) id = 1 + ((nodeAt t.arena id).entries.map (fun e=>sizeT t L e.ref)).sum:=rfl
theorem sizeT_pos (t : Tree) (L : Nat) (id : Int) : 1 ≤ sizeT t L id:=by
  cases L with
  | zero=>exact Nat.le_refl _
  | succ L=>rw [size_s]; omega
theorem walk_good {t : Tree} : ∀ (L : Nat) {id : Int} {m r : List Int},isUsed t.arena id = true → (nodeAt t.arena id).level = (L : Int) → walkF t L id m = some r → GoodT t L id ∧ r.length = m.length + sizeT t L id
  | 0,id,m,r,hu,hl,h=>by
    unfold walkF at h
    split at h
    · cases h; exact ⟨⟨used_0 hu,hl⟩,by simp [sizeT]⟩
    · cases h
  | L + 1,id,m,r,hu,hl,h=>by
    unfold walkF at h
    split at h
    · have key : ∀ (es : List Entry) {m r : List Int},es.foldlM (fun m e=>if isUsed t.arena e.ref = true ∧ e.ref ∉ m ∧ kidOk (nodeAt t.arena id) e (nodeAt t.arena e.ref) = true then walkF t L e.ref m else none) m = some r →
          (∀ e ∈ es,(nodeAt t.arena e.ref).nsn = e.nsn ∧ GoodT t L e.ref) ∧ r.length = m.length + (es.map (fun e=>sizeT t L e.ref)).sum:=by
        intro es
        induction es with
        | nil=>intro m r h; simp at h; subst h; simp
        | cons e es ih =>
          intro m r h
          rw [List.foldlM_cons] at h
          split at h
          · rename_i hc
            cases hw : walkF t L e.ref m with
            | none=>rw [hw] at h; cases h
            | some m' =>
              rw [hw] at h
              have hk:=hc.2.2
              unfold kidOk at hk
              simp only [Bool.and_eq_true,beq_iff_eq] at hk
              obtain ⟨g1,g2⟩:=walk_good L hc.1 (by rw [hk.1.1.1,hl]; push_cast; omega) hw
              obtain ⟨i1,i2⟩:=ih h
              refine ⟨fun x hx=>?_,?_⟩
              · rcases List.mem_cons.1 hx with rfl | hx
                · exact ⟨hk.1.1.2,g1⟩
                · exact i1 x hx
              · rw [i2,g2,List.map_cons,List.sum_cons]; omega
          · cases h
      obtain ⟨k1,k2⟩:=key _ h
      refine ⟨⟨used_0 hu,by rw [hl]; push_cast; rfl,k1⟩,?_⟩
      rw [k2,List.length_append,List.length_singleton,size_s]; omega
    · cases h
abbrev lvT (t : Tree) (id : Int) : Nat := (nodeAt t.arena id).level.toNat
def GoodM (t : Tree) (m : Mark) : Prop := GoodT t (lvT t m.id) m.id ∧ (nodeAt t.arena m.id).nsn = m.nsn
def massT (t : Tree) (l : List Mark) : Nat := (l.map (fun m => sizeT t (lvT t m.id) m.id)).sum
theorem mass_len (t : Tree) : ∀ l : List Mark,l.length ≤ massT t l
  | []=>Nat.le_refl _
  | m :: l=>by
    have h1:=mass_len t l; have h2:=sizeT_pos t (lvT t m.id) m.id
    show l.length + 1 ≤ (sizeT t (lvT t m.id) m.id :: l.map _).sum
    rw [List.sum_cons]
    have : massT t l = (l.map (fun m=>sizeT t (lvT t m.id) m.id)).sum:=rfl
    omega
theorem mass_app (t : Tree) (a b : List Mark) : massT t (a ++ b) = massT t a + massT t b:=by unfold massT; rw [List.map_append,List.sum_append]
theorem mass_one (t : Tree) (m : Mark) : massT t [m] = sizeT t (lvT t m.id) m.id:=by unfold massT; simp
structure RunInv (t : Tree) (q : Query) (l : Look) : Prop where
  query : l.query = q
  good : ∀ m ∈ l.front,GoodM t m
  mass : 5 * massT t l.front + l.found.length ≤ 200
  uniq : Uniq Pair.id l.found
  fit : ∀ p ∈ l.found,FitR t.arena.dims.toNat p.rect
theorem find_inv {l : Look} {e : Entry} : (findL l e).query = l.query ∧ (findL l e).front = l.front ∧ (findL l e).found.length ≤ l.found.length + 1 ∧ (Uniq Pair.id l.found → Uniq Pair.id (findL l e).found) ∧ ∀ p ∈ (findL l e).found,p ∈ l.found ∨ p.rect = e.rect:=by
  unfold findL
  split
  · rename_i h
    refine ⟨rfl,rfl,by show (addTo _ _).length ≤ _; rw [addG_len]; exact Nat.le_refl _,fun hu=>?_,fun p hp=>?_⟩
    · have hi:=idx_neg (p:=fun (x0 : Pair)=>x0.id == e.ref) (xs:=l.found) (by omega)
      have hp:=addG_perm (f:=Pair.id) (⟨e.ref,e.rect⟩ : Pair) l.found
      show List.Pairwise (fun a b : Pair=>a.id ≠ b.id) _
      refine (hp.pairwise_iff (fun {a b} h=>Ne.symm h)).2 ?_
      refine List.pairwise_append.2 ⟨hu,List.pairwise_singleton _ _,fun a ha b hb hab=>?_⟩
      rw [List.mem_singleton] at hb; subst hb
      have:=hi a ha
      simp at this; exact this hab
    · rcases addG_mem hp with h1 | h1
      · exact .inl h1
      · subst h1; exact .inr rfl
  · exact ⟨rfl,rfl,by omega,fun h=>h,fun p hp=>.inl hp⟩
theorem mark_inv {l : Look} {e : Entry} : (markL l e).query = l.query ∧ (markL l e).found = l.found ∧ ((markL l e).front = l.front ∨ ∃ d,(markL l e).front = l.front ++ [⟨d,e.ref,e.nsn⟩]):=by
  unfold markL
  split
  · exact ⟨rfl,rfl,.inr ⟨_,rfl⟩⟩
  · split
    · exact ⟨rfl,rfl,.inr ⟨_,rfl⟩⟩
    · exact ⟨rfl,rfl,.inl rfl⟩
theorem finds_inv {es : List Entry} : ∀ {l : Look},(es.foldl (handStep 0) l).query = l.query ∧ (es.foldl (handStep 0) l).front = l.front ∧ (es.foldl (handStep 0) l).found.length ≤ l.found.length + es.length ∧ (Uniq Pair.id l.found → Uniq Pair.id (es.foldl (handStep 0) l).found) ∧ ∀ p ∈ (es.foldl (handStep 0) l).found,p ∈ l.found ∨ ∃ e ∈ es,p.rect = e.rect:=by
  induction es with
  | nil=>intro l; exact ⟨rfl,rfl,Nat.le_refl _,fun h=>h,fun p hp=>.inl hp⟩
  | cons e es ih =>
    intro l
    obtain ⟨a1,a2,a3,a4,a5⟩:=ih (l:=handStep 0 l e)
    have e0 : handStep 0 l e = findL l e:=by unfold handStep; rw [if_pos rfl]
    obtain ⟨b1,b2,b3,b4,b5⟩:=find_inv (l:=l) (e:=e)
    rw [List.foldl_cons]
    rw [e0] at a1 a2 a3 a4 a5 ⊢
    refine ⟨a1.trans b1,a2.trans b2,by rw [List.length_cons]; omega,fun h=>a4 (b4 h),fun p hp=>?_⟩
    rcases a5 p hp with h | ⟨x,hx,h⟩
    · rcases b5 p h with h | h
      · exact .inl h
      · exact .inr ⟨e,List.mem_cons_self ..,h⟩
    · exact .inr ⟨x,List.mem_cons_of_mem _ hx,h⟩
theorem marks_inv {t : Tree} {lv : Int} (hlv : ¬ lv = 0) {L : Nat} {es : List Entry} (he : ∀ e ∈ es,(nodeAt t.arena e.ref).nsn = e.nsn ∧ GoodT t L e.ref) : ∀ {l : Look},(∀ m ∈ l.front,GoodM t m) →
    (es.foldl (handStep lv) l).query = l.query ∧ (es.foldl (handStep lv) l).found = l.found ∧ (∀ m ∈ (es.foldl (handStep lv) l).front,GoodM t m) ∧ massT t (es.foldl (handStep lv) l).front ≤ massT t l.front + (es.map (fun e=>sizeT t L e.ref)).sum:=by
  induction es with
  | nil=>intro l hl; exact ⟨rfl,rfl,hl,by simp⟩
  | cons e es ih =>
    intro l hl
    obtain ⟨b1,b2,b3⟩:=mark_inv (l:=l) (e:=e)
    have e0 : handStep lv l e = markL l e:=by unfold handStep; rw [if_neg hlv]
    obtain ⟨h1,h2⟩:=he e (List.mem_cons_self ..)
    have hL : lvT t e.ref = L:=by have:=h2.lev; show (nodeAt t.arena e.ref).level.toNat = L; omega
    have hg : ∀ d,GoodM t ⟨d,e.ref,e.nsn⟩:=fun d=>⟨by show GoodT t (lvT t e.ref) e.ref; rw [hL]; exact h2,h1⟩
    have key : (∀ m ∈ (markL l e).front,GoodM t m) ∧ massT t (markL l e).front ≤ massT t l.front + sizeT t L e.ref:=by
      rcases b3 with b3 | ⟨d,b3⟩
      · rw [b3]; exact ⟨hl,by omega⟩
      · rw [b3]
        refine ⟨fun m hm=>?_,?_⟩
        · rcases List.mem_append.1 hm with hm | hm
          · exact hl m hm
          · rw [List.mem_singleton] at hm; subst hm; exact hg d
        · rw [mass_app,mass_one]; show _ + sizeT t (lvT t e.ref) e.ref ≤ _; rw [hL]; exact Nat.le_refl _
    obtain ⟨a1,a2,a3,a4⟩:=ih (fun x hx=>he x (List.mem_cons_of_mem _ hx)) key.1
    rw [List.foldl_cons,e0]
    refine ⟨a1.trans b1,a2.trans b2,a3,?_⟩
    rw [List.map_cons,List.sum_cons]; omega
theorem mark_mem {l : Look} (h : 0 < l.front.length) : markAt l ∈ l.front ∧ ∀ t : Tree,massT t l.front = massT t (nextL l).front + sizeT t (lvT t (markAt l).id) (markAt l).id:=by
  have hn:=nextI_lt h
  have hi : (nextI l).toNat < l.front.length:=by omega
  have hm : l.front[(nextI l).toNat]? = some (markAt l):=by unfold markAt; rw [List.getD_eq_getElem?_getD,List.getElem?_eq_getElem hi]; rfl
  refine ⟨List.mem_of_getElem? hm,fun t=>?_⟩
  have e : l.front = l.front.take (nextI l).toNat ++ markAt l :: l.front.drop ((nextI l).toNat + 1):=by
    conv=>lhs; rw [← List.take_append_drop (nextI l).toNat l.front]
    rw [drop_at hm]
  have e2 : (nextL l).front = l.front.take (nextI l).toNat ++ l.front.drop ((nextI l).toNat + 1):=rfl
  rw [e2,mass_app]
  conv=>lhs; rw [e]
  rw [mass_app]
  show _ + massT t ([markAt l] ++ l.front.drop ((nextI l).toNat + 1)) = _
  rw [mass_app,mass_one]; omega
theorem next_mem {l : Look} {m : Mark} (h : m ∈ (nextL l).front) : m ∈ l.front:=by
  have h' : m ∈ l.front.take (nextI l).toNat ++ l.front.drop ((nextI l).toNat + 1):=h
  rcases List.mem_append.1 h' with h | h
  · exact List.mem_of_mem_take h
  · exact List.mem_of_mem_drop h
theorem seen_def (n : Node) : seen n = ⟨n.level,if n.level = 0 then n.entries else n.entries.reverse⟩:=rfl
theorem all_def (l : Look) (m : Moved) : handAll l m = m.entries.foldl (handStep m.level) l:=by unfold handAll handTo; rw [List.take_length]
theorem run_step {t : Tree} {q : Query} {l : Look} (hS : Sound t.arena) (hv : RunInv t q l) (hn : 0 < l.front.length) :
    stepC t.arena l = 0 ∧ RunInv t q (stepL t.arena l) ∧ massT t (stepL t.arena l).front + 1 ≤ massT t l.front:=by
  obtain ⟨hmm,hms⟩:=mark_mem hn
  have hms:=hms t
  obtain ⟨hg,hnsn⟩:=hv.good _ hmm
  have hp:=hg.place
  have hpush : pushN t.arena l = nextL l:=(push_n (.inl hnsn)).symm
  have hnl:=(node_0 (hS.node _ (nodeAt_mem (place_is hp)).1)).2.2.2.1
  have hfitE:=node_fit hS (place_is hp)
  have hlev:=hg.lev
  have hsl : stepL t.arena l = handAll (nextL l) (seen (nodeAt t.arena (markAt l).id)):=by unfold stepL; rw [if_pos hp,hpush]
  have hsc : stepC t.arena l = handCode (nextL l) (seen (nodeAt t.arena (markAt l).id)):=by unfold stepC; rw [if_pos hp,hpush]
  have hq : (nextL l).query = q:=hv.query
  have hfo : (nextL l).found = l.found:=rfl
  have hmass:=hv.mass
  have main : RunInv t q (stepL t.arena l) ∧ massT t (stepL t.arena l).front + 1 ≤ massT t l.front:=by
    rw [hsl,all_def]
    by_cases h0 : (nodeAt t.arena (markAt l).id).level = 0
    · have es : (seen (nodeAt t.arena (markAt l).id)).entries = (nodeAt t.arena (markAt l).id).entries:=by rw [seen_def]; exact if_pos h0
      have lvs : (seen (nodeAt t.arena (markAt l).id)).level = 0:=h0
      rw [es,lvs]
      obtain ⟨a1,a2,a3,a4,a5⟩:=finds_inv (es:=(nodeAt t.arena (markAt l).id).entries) (l:=nextL l)
      have hs1:=sizeT_pos t (lvT t (markAt l).id) (markAt l).id
      refine ⟨⟨a1.trans hq,by rw [a2]; exact fun m hm=>hv.good m (next_mem hm),by rw [a2]; rw [hfo] at a3; omega,a4 hv.uniq,fun p hp=>?_⟩,by rw [a2]; omega⟩
      rcases a5 p hp with h | ⟨e,he,h⟩
      · exact hv.fit p h
      · rw [h]; exact hfitE e he
    · have es : (seen (nodeAt t.arena (markAt l).id)).entries = (nodeAt t.arena (markAt l).id).entries.reverse:=by rw [seen_def]; exact if_neg h0
      have lvs : (seen (nodeAt t.arena (markAt l).id)).level = (nodeAt t.arena (markAt l).id).level:=rfl
      obtain ⟨L,hL⟩ : ∃ L,lvT t (markAt l).id = L + 1:=by
        cases hc : lvT t (markAt l).id with
        | zero=>exact absurd (show (nodeAt t.arena (markAt l).id).level = 0 by rw [hlev,hc]; rfl) h0
        | succ L=>exact ⟨L,rfl⟩
      rw [hL] at hg
      have hkid:=hg.2.2
      rw [es,lvs]
      obtain ⟨a1,a2,a3,a4⟩:=marks_inv (t:=t) h0 (L:=L) (es:=(nodeAt t.arena (markAt l).id).entries.reverse) (fun e he=>hkid e (List.mem_reverse.1 he)) (l:=nextL l) (fun m hm=>hv.good m (next_mem hm))
      have hsz : sizeT t (lvT t (markAt l).id) (markAt l).id = 1 + (((nodeAt t.arena (markAt l).id).entries.reverse).map (fun e=>sizeT t L e.ref)).sum:=by
        rw [hL,size_s,List.map_reverse,List.sum_reverse]
      refine ⟨⟨a1.trans hq,a3,by rw [a2,hfo]; omega,by rw [a2]; exact hv.uniq,by rw [a2]; exact hv.fit⟩,by omega⟩
  refine ⟨?_,main⟩
  rw [hsc]
  rw [hsl] at main
  unfold handCode
  have h1:=mass_len t (handAll (nextL l) (seen (nodeAt t.arena (markAt l).id))).front
  have h2:=main.1.mass
  rw [if_neg]
  unfold isFull
  simp only [Bool.or_eq_true,decide_eq_true_eq]
  omega
theorem run_start {t : Tree} {q : Query} (h : treeFault t = 0) : RunInv t q (newLook t q) ∧ massT t (newLook t q).front ≤ 40:=by
  obtain ⟨hS,hp,hr⟩:=tree_0 h
  unfold treeRight at hr
  simp only [Bool.and_eq_true,beq_iff_eq] at hr
  obtain ⟨⟨⟨hu,hnsn⟩,-⟩,hw⟩:=hr
  cases hwk : walkOf t with
  | none=>rw [hwk] at hw; cases hw
  | some met =>
    have hl:=(node_0 (hS.node _ (nodeAt_mem hp).1)).2.1
    have hlv : (nodeAt t.arena t.root).level = (((nodeAt t.arena t.root).level.toNat : Nat) : Int):=by omega
    obtain ⟨g1,g2⟩:=walk_good _ hu hlv hwk
    have hm : Met t met:=walkF_met _ Met.nil hp (by simp) hwk
    have hle:=hm.len
    have h40:=hS.len
    have hmass : massT t (newLook t q).front = sizeT t (nodeAt t.arena t.root).level.toNat t.root:=mass_one t ⟨0,t.root,t.rootNsn⟩
    rw [List.length_nil] at g2
    refine ⟨⟨rfl,fun m hm=>?_,?_,List.Pairwise.nil,fun p hp=>by cases hp⟩,by rw [hmass]; omega⟩
    · rw [show (newLook t q).front = [⟨0,t.root,t.rootNsn⟩] from rfl,List.mem_singleton] at hm; subst hm
      exact ⟨g1,hnsn⟩
    · show 5 * massT t (newLook t q).front + 0 ≤ 200
      rw [hmass]; omega
def runF (a : Arena) : Nat → Look → Int → Look × Int
  | 0,l,n=>(l,n)
  | f + 1,l,n=>if doneL l = true then (l,n) else runF a f (stepL a l) (n + 1)
theorem runF_done {a : Arena} {f : Nat} {l : Look} {n : Int} (h : doneL l = true) : runF a f l n = (l,n):=by
  cases f with
  | zero=>rfl
  | succ f=>rw [runF,if_pos h]
def runOf (t : Tree) (q : Query) : Look × Int := runF t.arena 40 (newLook t q) 0
def runRes (t : Tree) (q : Query) : RunLookResult := if (startLook t q).code = 0 then ⟨0, tellL (runOf t q).1, (runOf t q).2⟩ else ⟨(startLook t q).code, [], 0⟩
def RunAt (t : Tree) (q : Query) (j : Nat) (l : Look) (n : Int) : Prop := runF t.arena j l n = runOf t q ∧ RunInv t q l ∧ massT t l.front ≤ j ∧ 0 ≤ n ∧ n + j ≤ 40
theorem runAt_0 {t : Tree} {q : Query} (h : treeFault t = 0) : RunAt t q 40 (newLook t q) 0:=⟨rfl,(run_start h).1,(run_start h).2,by omega,by omega⟩
theorem runAt_step {t : Tree} {q : Query} {j : Nat} {l : Look} {n : Int} (hS : Sound t.arena) (h : RunAt t q j l n) (hd : ¬ doneL l = true) : stepC t.arena l = 0 ∧ ∃ i,j = i + 1 ∧ RunAt t q i (stepL t.arena l) (n + 1):=by
  obtain ⟨h1,h2,h3,h4,h5⟩:=h
  have hn:=done_pos hd
  obtain ⟨s1,s2,s3⟩:=run_step hS h2 hn
  have hj : ∃ i,j = i + 1:=⟨j - 1,by omega⟩
  obtain ⟨i,rfl⟩:=hj
  refine ⟨s1,i,rfl,?_,s2,by omega,by omega,by omega⟩
  rw [← h1,runF,if_neg hd]
theorem runAt_end {t : Tree} {q : Query} {j : Nat} {l : Look} {n : Int} (h : RunAt t q j l n) (hd : doneL l = true) : runOf t q = (l,n):=by
  rw [← h.1,runF_done hd]
theorem uniq_eq {l : List Pair} (hu : Uniq Pair.id l) : ∀ x ∈ l,∀ y ∈ l,x.id = y.id → x = y:=fun x hx y hy h=>by
  obtain ⟨i,hi,rfl⟩:=List.getElem_of_mem hx
  obtain ⟨j,hj,rfl⟩:=List.getElem_of_mem hy
  have hp:=List.pairwise_iff_getElem.1 hu
  rcases Nat.lt_trichotomy i j with hij | rfl | hij
  · exact absurd h (hp i j hi hj hij)
  · rfl
  · exact absurd h.symm (hp j i hj hi hij)
theorem start_ok {t : Tree} {q : Query} (h : (startLook t q).code = 0) : treeFault t = 0 ∧ queryFault q t.arena.dims = 0 ∧ (startLook t q).look = newLook t q:=by
  unfold startLook at h ⊢
  split at h
  · rename_i h1
    split at h
    · rename_i h2; rw [if_pos h1,if_pos h2]; exact ⟨h1,h2,rfl⟩
    · rename_i h2; exact absurd h h2
  · rename_i h1; exact absurd h h1
theorem run_facts {t : Tree} {q : Query} {l : Look} (hS : Sound t.arena) (hq : queryFault q t.arena.dims = 0) (hv : RunInv t q l) : t.arena.dims.toNat ≤ 3 ∧ (∀ x ∈ l.found,FitR t.arena.dims.toNat x.rect) ∧ FitQ t.arena.dims.toNat l.query ∧ l.found.length ≤ 1000 ∧ (∀ x ∈ l.found,szPair x ≤ 6) ∧ (∀ x ∈ l.found,∀ y ∈ l.found,x.id = y.id → x = y) ∧ l.found.Nodup ∧ l.front.length ≤ 40:=by
  have hd:=hS.dimOk.2
  have h1:=hv.mass
  have h2:=mass_len t l.front
  refine ⟨hd,hv.fit,by rw [hv.query]; exact (query_fit hq).1,by omega,fun x hx=>?_,uniq_eq hv.uniq,hv.uniq.imp (fun {a b} hab e=>hab (by rw [e])),by omega⟩
  have:=fit_sz (hv.fit x hx) hd
  unfold szPair; exact this
theorem rr_no {t : Tree} {q : Query} (h : ¬ (startLook t q).code = 0) : (⟨(startLook t q).code,[],0⟩ : RunLookResult) = runRes t q:=by unfold runRes; rw [if_neg h]
theorem rr_yes {t : Tree} {q : Query} {j : Nat} {l : Look} {n : Int} (h : (startLook t q).code = 0) (hat : RunAt t q j l n) (hd : doneL l = true) : (⟨0,tellL l,n⟩ : RunLookResult) = runRes t q:=by
  unfold runRes; rw [if_pos h,runAt_end hat hd]
theorem runF_inv {t : Tree} {q : Query} (hS : Sound t.arena) : ∀ (f : Nat) {l : Look} {n : Int},RunInv t q l → RunInv t q (runF t.arena f l n).1
  | 0,_,_,h=>h
  | f + 1,l,n,h=>by
    unfold runF
    split
    · exact h
    · rename_i hd; exact runF_inv hS f (run_step hS h (done_pos hd)).2.1
theorem runRes_cnt (t : Tree) (q : Query) : 0 ≤ ((runRes t q).pairs.map cntE_Pair).sum ∧ ((runRes t q).pairs.map cntE_Pair).sum ≤ 10000:=by
  refine ⟨sum_nn cntE_Pair_nn _,?_⟩
  unfold runRes
  split
  · rename_i h
    obtain ⟨htf,hqf,-⟩:=start_ok h
    obtain ⟨hS,-,-⟩:=tree_0 htf
    have mm:=run_facts hS hqf (runF_inv hS 40 (n:=0) (run_start (q:=q) htf).1)
    have hm:=(runF_inv hS 40 (n:=0) (run_start (q:=q) htf).1).mass
    have e : runF t.arena 40 (newLook t q) 0 = runOf t q:=rfl
    rw [e] at mm hm
    have h3:=sum_le (f:=cntE_Pair) (c:=7) (l:=tellL (runOf t q).1) (fun x hx=>by have:=mm.2.2.2.2.1 x (tell_mem hx); unfold szPair szRect at this; unfold cntE_Pair; omega)
    have h4:=tell_len (runOf t q).1
    show ((tellL (runOf t q).1).map cntE_Pair).sum ≤ 10000
    omega
  · simp

end Go.Proofs.YtjdkfibeogiekaaGreat.Sx
