/- What functions of the program answer, each at every input that its row names; walked through their code. -/
import Derived.Test.YtjdkfibeogiekaaGreatSy5
namespace Go.Proofs.YtjdkfibeogiekaaGreat.Sx
open Go Go.RowKit Go.Proofs
set_option linter.unusedVariables false
set_option linter.unusedSimpArgs false
set_option maxRecDepth 20000
set_option maxHeartbeats 2000000
def tab6 : Tab := { size := [(2, 1, false), (208, 3, true)], off := [((208, 0), 0)], elem := [(75, 208)] }
theorem tab_ok6 : tab6.check Tryz.prog = true:=by kernel_rfl
noncomputable abbrev X6 (N : Nat) (w : World) : Cx := ⟨Tryz.prog, tab6, tab_ok6, wide, N, w, none, []⟩

theorem kRectO_nos : kRectO.NoSee:=.cat (.via (.row .i64 _) _) (.via (.row .i64 _) _)
theorem kPairO_nos : kPairO.NoSee:=.cat (.via .i64 _) (.via kRectO_nos _)
def kPairT : Kd (Tg Pair) := kPairS.tag
theorem kPairT_sh {w : World} {cs : List Value} {x : Tg Pair} {o s : List Nat} (h : kPairT.Rel w cs x o s) : ∃ (A1 : Option Addr) (c1 : Nat) (A2 : Option Addr) (c2 : Nat),cs = [.int .i64 x.1.id,.slice A1 x.1.rect.low.length c1,.slice A2 x.1.rect.high.length c2]:=kPairS_sh h.2
theorem kPairT_self : Kd.Seals kPairT kPairT:=kPairS_self.tag
theorem kPairT_pure : Kd.Pure kPairT:=kPairS_pure.tag

def addG {α : Type} (f : α → Int) : List α → α → List α
  | [],p=>[p]
  | q :: r,p=>if f p < f q then p :: q :: r else q :: addG f r p
abbrev addTo : List Pair → Pair → List Pair := addG Pair.id
abbrev addT : List (Tg Pair) → Tg Pair → List (Tg Pair) := addG (fun t => t.1.id)
theorem addG_len {α : Type} {f : α → Int} (p : α) : ∀ l : List α,(addG f l p).length = l.length + 1
  | []=>rfl
  | q :: r=>by unfold addG; split <;> simp [addG_len p r]
theorem addG_perm {α : Type} {f : α → Int} (p : α) : ∀ l : List α,(addG f l p).Perm (l ++ [p])
  | []=>.refl _
  | q :: r=>by
    unfold addG
    split
    · exact (List.perm_append_comm (l₁:=[p]) (l₂:=q :: r))
    · exact (addG_perm p r).cons q
theorem addG_map {ts : List (Tg Pair)} {t : Tg Pair} : (addT ts t).map (·.1) = addTo (ts.map (·.1)) t.1:=by
  induction ts with
  | nil=>rfl
  | cons q r ih =>
    show (addG (fun t : Tg Pair=>t.1.id) (q :: r) t).map (·.1) = addG Pair.id (q.1 :: r.map (·.1)) t.1
    simp only [addG]
    split
    · rfl
    · rw [List.map_cons]; congr 1
theorem addG_mem {α : Type} {f : α → Int} {l : List α} {p x : α} (h : x ∈ addG f l p) : x ∈ l ∨ x = p:=by
  rcases List.mem_append.1 ((addG_perm p l).subset h) with h | h
  · exact .inl h
  · simp at h; exact .inr h
section
variable {α : Type} {f : α → Int}
theorem add_0 {l out : List α} {p : α} {k : Nat} (h : out ++ addG f (l.drop k) p = addG f l p) (hk : l.length ≤ k) : out ++ [p] = addG f l p:=by
  rw [List.drop_of_length_le hk] at h; simpa [addG] using h
theorem drop_at {l : List α} {k : Nat} {y : α} (h : l[k]? = some y) : l.drop k = y :: l.drop (k + 1):=by
  obtain ⟨h1,rfl⟩:=List.getElem?_eq_some_iff.1 h
  exact List.drop_eq_getElem_cons h1
theorem add_y {l out : List α} {p y : α} {k : Nat} (h : out ++ addG f (l.drop k) p = addG f l p) (hy : l[k]? = some y) (hn : f p < f y) : ((out ++ [p]) ++ [y]) ++ l.drop (k + 1) = addG f l p:=by
  rw [drop_at hy] at h; simpa [addG,hn] using h
theorem add_n {l out : List α} {p y : α} {k : Nat} (h : out ++ addG f (l.drop k) p = addG f l p) (hy : l[k]? = some y) (hn : ¬ f p < f y) : (out ++ [y]) ++ addG f (l.drop (k + 1)) p = addG f l p:=by
  rw [drop_at hy] at h; simpa [addG,hn] using h
theorem add_d {l out r : List α} {y : α} {k : Nat} (h : out ++ l.drop k = r) (hy : l[k]? = some y) : (out ++ [y]) ++ l.drop (k + 1) = r:=by
  rw [drop_at hy] at h; simpa using h
theorem add_e {l out r : List α} {k : Nat} (h : out ++ l.drop k = r) (hk : l.length ≤ k) : out = r:=by
  rw [List.drop_of_length_le hk] at h; simpa using h
theorem addG_at {p : α} : ∀ {l : List α} {k : Nat},k ≤ l.length → (∀ j x,j < k → l[j]? = some x → ¬ f p < f x) → (∀ x,l[k]? = some x → f p < f x) → l.take k ++ [p] ++ l.drop k = addG f l p
  | [],k,hk,_,_=>by simp at hk; subst hk; rfl
  | q :: r,0,_,_,h=>by have:=h q rfl; simp [addG,this]
  | q :: r,k + 1,hk,h1,h2=>by
    have h0:=h1 0 q (by omega) rfl
    have ih:=addG_at (l:=r) (k:=k) (by simpa using hk) (fun j x hj hx=>h1 (j + 1) x (by omega) (by simpa using hx)) (fun x hx=>h2 x (by simpa using hx))
    simp only [addG,if_neg h0]
    simpa using ih
end
theorem put_end {l : List Pair} {p : Pair} (h : idx (fun (x0 : Pair)=>decide (x0.id > p.id)) l < 0) : l.take l.length ++ [p] ++ l.drop l.length = addTo l p:=by
  have h1:=idx_neg (p:=fun (x0 : Pair)=>decide (x0.id > p.id)) (xs:=l) (by omega)
  refine addG_at (Nat.le_refl _) (fun j x hj hx=>?_) (fun x hx=>by simp at hx)
  have:=h1 x (List.mem_of_getElem? hx)
  simp at this; omega
theorem put_at {l : List Pair} {p y : Pair} {k : Nat} (hk : k < l.length) (hy : l[k]? = some y) (hp : decide (y.id > p.id) = true) (h : ∀ j x,j < k → l[j]? = some x → decide (x.id > p.id) = false) : l.take k ++ [p] ++ l.drop k = addTo l p:=by
  refine addG_at (by omega) (fun j x hj hx=>by have:=h j x hj hx; simp at this; omega) (fun x hx=>by rw [hy] at hx; cases hx; simpa using hp)
theorem flat_perm {α β : Type} {f : α → List β} {l1 l2 : List α} (h : l1.Perm l2) : (l1.flatMap f).Perm (l2.flatMap f):=by rw [List.flatMap_def,List.flatMap_def]; exact (h.map f).flatten
theorem ins_perm {α : Type} {ts us : List α} {i : Nat} : (ts.take i ++ us ++ ts.drop i).Perm (ts ++ us):=by
  have h1 : (ts.take i ++ us ++ ts.drop i).Perm (ts.take i ++ ts.drop i ++ us):=by
    rw [List.append_assoc,List.append_assoc]
    exact (List.perm_append_comm).append_left _
  rwa [List.take_append_drop] at h1
theorem ins_nd {α : Type} {ts us : List (Tg α)} {i : Nat} (h1 : (ts.flatMap (·.2.2.1)).Nodup) (h2 : (us.flatMap (·.2.2.1)).Nodup) (hx : ∀ b ∈ us.flatMap (·.2.2.1),b ∉ ts.flatMap (·.2.2.1)) : ((ts.take i ++ us ++ ts.drop i).flatMap (·.2.2.1)).Nodup:=by
  refine (flat_perm ins_perm).nodup_iff.2 ?_
  rw [List.flatMap_append]
  exact List.nodup_append.2 ⟨h1,h2,fun b hb b2 hb2 e=>hx b2 hb2 (e ▸ hb)⟩
theorem nos_sep {α : Type} {ts us : List (Tg α)} (h1 : [] = ts.flatMap (·.2.2.2)) (h2 : [] = us.flatMap (·.2.2.2)) : ∀ t ∈ ts ++ us,∀ b ∈ t.2.2.1,∀ t' ∈ ts ++ us,b ∉ t'.2.2.2:=fun t _ b _ t' ht' hb=>by
  have : b ∈ (ts ++ us).flatMap (·.2.2.2):=List.mem_flatMap.2 ⟨t',ht',hb⟩
  rw [List.flatMap_append,← h1,← h2] at this
  simp at this
theorem nos_in {α : Type} {ts us tx : List (Tg α)} {P : Nat → Prop} (h1 : [] = ts.flatMap (·.2.2.2)) (h2 : [] = us.flatMap (·.2.2.2)) (hm : ∀ t ∈ tx,t ∈ ts ++ us) : ∀ b ∈ tx.flatMap (·.2.2.2),P b:=fun b hb=>by
  obtain ⟨t,ht,hb⟩:=List.mem_flatMap.1 hb
  have : b ∈ (ts ++ us).flatMap (·.2.2.2):=List.mem_flatMap.2 ⟨t,hm t ht,hb⟩
  rw [List.flatMap_append,← h1,← h2] at this
  simp at this
theorem new2 {α : Type} {ts us : List (Tg α)} {n : Nat} (h1 : ∀ b ∈ ts.flatMap (·.2.2.1),n ≤ b) (h2 : ∀ b ∈ us.flatMap (·.2.2.1),n ≤ b) : ∀ b ∈ (ts ++ us).flatMap (·.2.2.1),n ≤ b:=fun b hb=>by
  rw [List.flatMap_append] at hb
  exact (List.mem_append.1 hb).elim (h1 b) (h2 b)
theorem map_one {α β : Type} {f : α → β} {us : List α} {x : β} (h : us.map f = [x]) : ∃ u,us = [u] ∧ f u = x:=by
  cases us with
  | nil=>cases h
  | cons a l =>
    cases l with
    | nil=>exact ⟨a,rfl,by simpa using h⟩
    | cons b l=>simp at h
def findL (l : Look) (e : Entry) : Look := if idx (fun (x0 : Pair) => x0.id == e.ref) l.found < 0 ∧ matchQ l.query e.rect = true then ⟨l.query, l.front, addTo l.found ⟨e.ref, e.rect⟩⟩ else l
def markL (l : Look) (e : Entry) : Look :=
  if l.query.kind = 4 then ⟨l.query,l.front ++ [⟨distR e.rect l.query.point,e.ref,e.nsn⟩],l.found⟩
  else if (l.query.kind = 3 ∧ distR e.rect l.query.point = 0) ∨ (¬ l.query.kind = 3 ∧ meetsR l.query.rect e.rect = true) then ⟨l.query,l.front ++ [⟨0,e.ref,e.nsn⟩],l.found⟩ else l
theorem find_y {l : Look} {e : Entry} (h1 : idx (fun (x0 : Pair)=>x0.id == e.ref) l.found < 0) (h2 : matchQ l.query e.rect = true) : (⟨l.query,l.front,addTo l.found ⟨e.ref,e.rect⟩⟩ : Look) = findL l e:=by unfold findL; rw [if_pos ⟨h1,h2⟩]
theorem find_n {l : Look} {e : Entry} (h : ¬ (idx (fun (x0 : Pair)=>x0.id == e.ref) l.found < 0 ∧ matchQ l.query e.rect = true)) : l = findL l e:=by unfold findL; rw [if_neg h]
theorem mk_near {l : Look} {e : Entry} (h : l.query.kind = 4) : (⟨l.query,l.front ++ [⟨distR e.rect l.query.point,e.ref,e.nsn⟩],l.found⟩ : Look) = markL l e:=by unfold markL; rw [if_pos h]
theorem mk_pt {l : Look} {e : Entry} (h : l.query.kind = 3) (hd : distR e.rect l.query.point = 0) : (⟨l.query,l.front ++ [⟨0,e.ref,e.nsn⟩],l.found⟩ : Look) = markL l e:=by unfold markL; rw [if_neg (by omega),if_pos (.inl ⟨h,hd⟩)]
theorem mk_pt0 {l : Look} {e : Entry} (h : l.query.kind = 3) (hd : ¬ distR e.rect l.query.point = 0) : l = markL l e:=by
  unfold markL; rw [if_neg (by omega),if_neg]
  rintro (⟨-,h1⟩ | ⟨h1,-⟩)
  · exact hd h1
  · exact h1 h
theorem mk_rc {l : Look} {e : Entry} (h : ¬ l.query.kind = 4) (h3 : ¬ l.query.kind = 3) (hd : meetsR l.query.rect e.rect = true) : (⟨l.query,l.front ++ [⟨0,e.ref,e.nsn⟩],l.found⟩ : Look) = markL l e:=by unfold markL; rw [if_neg h,if_pos (.inr ⟨h3,hd⟩)]
theorem mk_rc0 {l : Look} {e : Entry} (h : ¬ l.query.kind = 4) (h3 : ¬ l.query.kind = 3) (hd : ¬ meetsR l.query.rect e.rect = true) : l = markL l e:=by
  unfold markL; rw [if_neg h,if_neg]
  rintro (⟨h1,-⟩ | ⟨-,h1⟩)
  · exact h3 h1
  · exact hd h1
def handStep (lv : Int) (l : Look) (e : Entry) : Look := if lv = 0 then findL l e else markL l e
def handTo (l : Look) (m : Moved) (k : Nat) : Look := (m.entries.take k).foldl (handStep m.level) l
def handAll (l : Look) (m : Moved) : Look := handTo l m m.entries.length
theorem handTo_0 {l : Look} {m : Moved} : handTo l m 0 = l:=by simp [handTo]
theorem handTo_find {l : Look} {m : Moved} {k : Nat} {e : Entry} (he : m.entries[k]? = some e) (h : m.level = 0) : findL (handTo l m k) e = handTo l m (k + 1):=by
  unfold handTo; rw [take_snoc he,List.foldl_append]; simp [handStep,h]
theorem handTo_mark {l : Look} {m : Moved} {k : Nat} {e : Entry} (he : m.entries[k]? = some e) (h : ¬ m.level = 0) : markL (handTo l m k) e = handTo l m (k + 1):=by
  unfold handTo; rw [take_snoc he,List.foldl_append]; simp [handStep,h]
theorem step_facts {lv : Int} {l : Look} {e : Entry} : (handStep lv l e).query = l.query ∧ (handStep lv l e).front.length ≤ l.front.length + 1 ∧ (handStep lv l e).found.length ≤ l.found.length + 1 ∧ ∀ p ∈ (handStep lv l e).found,p ∈ l.found ∨ p = ⟨e.ref,e.rect⟩:=by
  unfold handStep findL markL
  split
  · split
    · refine ⟨rfl,by show l.front.length ≤ _; omega,by show (addTo _ _).length ≤ _; rw [addG_len]; exact Nat.le_refl _,fun p hp=>addG_mem hp⟩
    · exact ⟨rfl,by omega,by omega,fun p hp=>.inl hp⟩
  · split
    · exact ⟨rfl,by show (_ ++ _ : List Mark).length ≤ _; simp,by show l.found.length ≤ _; omega,fun p hp=>.inl hp⟩
    · split
      · exact ⟨rfl,by show (_ ++ _ : List Mark).length ≤ _; simp,by show l.found.length ≤ _; omega,fun p hp=>.inl hp⟩
      · exact ⟨rfl,by omega,by omega,fun p hp=>.inl hp⟩
theorem hand_facts {l : Look} {m : Moved} {d : Nat} (hf : ∀ p ∈ l.found,szPair p ≤ 6) (he : ∀ e ∈ m.entries,FitR d e.rect) (hd : d ≤ 3) : ∀ k,k ≤ m.entries.length → (handTo l m k).query = l.query ∧ (handTo l m k).front.length ≤ l.front.length + k ∧ (handTo l m k).found.length ≤ l.found.length + k ∧ ∀ p ∈ (handTo l m k).found,szPair p ≤ 6
  | 0,_=>by rw [handTo_0]; exact ⟨rfl,by omega,by omega,hf⟩
  | k + 1,hk=>by
    obtain ⟨h1,h2,h3,h4⟩:=hand_facts (l:=l) (m:=m) hf he hd k (by omega)
    have hx : m.entries[k]? = some m.entries[k]:=List.getElem?_eq_getElem (by omega)
    have e : handTo l m (k + 1) = handStep m.level (handTo l m k) m.entries[k]:=by unfold handTo; rw [take_snoc hx,List.foldl_append]; rfl
    obtain ⟨s1,s2,s3,s4⟩:=step_facts (lv:=m.level) (l:=handTo l m k) (e:=m.entries[k])
    rw [e]
    refine ⟨s1.trans h1,by omega,by omega,fun p hp=>?_⟩
    rcases s4 p hp with h | rfl
    · exact h4 p h
    · have:=fit_sz (he _ (List.mem_of_getElem? hx)) hd
      show szRect _ ≤ 6; exact this
def isFull (l : Look) : Bool := decide (20000 < (l.front.length : Int)) || decide (1000 < (l.found.length : Int))
def handCode (l : Look) (m : Moved) : Int := if isFull (handAll l m) = true then 7 else 0

def zPairT : Tg Pair := (zPair, [.int .i64 0, .slice none 0 0, .slice none 0 0], [], [])
theorem insert_T (w : World) (i : Nat) {Asrc : Option Addr} {csrc : Nat} {src : List (Tg Pair)} {osrc_ ssrc_ : List Nat} {Av : Option Addr} {cv : Nat} {v : (Tg Pair)} {sv_ : List Nat} (hst : St (nul w) w [dat (Kd.row 208 kPairT) [.slice Asrc src.length csrc] src osrc_ ssrc_,dat (Kd.seen (Kd.row 208 kPairT)) [.slice Av 1 cv] ([v]) ([]) sv_]) (hi : i ≤ src.length) (hz : src.length ≤ 1000000) : Calls Tryz.prog 297 #[.slice Asrc src.length csrc,.int .i64 ((i : Nat) : Int),.slice Av 1 cv] w (MadeO (Kd.row 208 kPairT) w osrc_ (src.take i ++ [v] ++ src.drop i) (ssrc_ ++ sv_)):=by
  have Lsrc:=Kd.row_len (hst.at 0 rfl); have Csrc:=Kd.row_cap (hst.at 0 rfl)
  refine fnc (X:=X6 95 (nul w)) (l:=[(0,.slice Asrc src.length csrc),(1,.int .i64 ((i : Nat) : Int)),(2,.slice Av 1 cv)]) Tryz.func297 rfl rfl rfl ⟨rfl,rfl,rfl,trivial⟩ (⟨hst.fr osrc_ (by simp [owns,dat,ptr]),trivial⟩ : _ ∧ True).1 ?_
  refine rn ik 9 [] rfl (vl (slo (i:=i) rfl rfl rfl rfl rfl (by omega) (by omega)) rfl (r1_ ik 34 [0] rfl (by decide) ?_))
  by_cases h1 : ((i : Nat) : Int) = ((src.length : Nat) : Int)
  · refine r1_ ik 5 [1] rfl (beq_iff_eq.2 h1) ?_
    refine gd 2 (seen_sub kPairT_self) rfl (cs':=[.slice Av 1 cv]) rfl fun s2 w_ rs2 us2=>?_
    refine f2 (aps (src ++ [v]) rfl info208 rfl rfl (by decide) rfl rfl rfl rfl (by simp only [List.length_append,List.length_cons,List.length_nil]; omega) (by simp only [List.length_append,List.length_cons,List.length_nil]; omega) rfl (fun A3 c4 o5 s6 t7=>?_))
    exact rn ik 5 [] rfl (gr (src.take i ++ [v] ++ src.drop i) (ins_end (by omega)) (ret1 rfl rfl (fun w_ hs_=>madeo hs_ 1 rfl rfl (by grind))))
  · obtain ⟨bsrc,rfl⟩:=Kd.row_pos (hst.at 0 rfl) (by omega)
    refine r1_ ik 8 [0] rfl (beq_eq_false_iff_ne.2 h1) (vl (ra (c:=((src.length + 1 : Nat) : Int)) rfl rfl rfl (by omega) (by omega) (by omega)) rfl (m_ rfl rfl (vl (lc rfl rfl rfl) rfl (rn ik 3 [] rfl ?_))))
    by_cases h8 : ((csrc : Nat) : Int) < ((src.length + 1 : Nat) : Int)
    · refine r1_ ik 5 [1] rfl (decide_eq_true h8) (vl (shi (i:=i) rfl rfl rfl rfl rfl (by omega)) rfl (rn ik 2 [] rfl (vl (ra (c:=((src.length + 1 : Nat) : Int)) rfl rfl rfl (by omega) (by omega) (by omega)) rfl (m_ rfl rfl (vl (rs (c:=((src.length + 1 - i : Nat) : Int)) rfl rfl rfl (by omega) (by omega) (by omega)) rfl (f1 (apm i (src.length + 1 - i) (z:=zPairT) kPairT_pure rfl Tryz.underlying3 info208 rfl (fun _=>⟨rfl,⟨[_],_,[],[],[],[],rfl,rfl,rfl,⟨rfl,rfl,rfl⟩,⟨[_],_,[],[],[],[],rfl,rfl,rfl,⟨rfl,none,0,rfl,Nat.le_refl _,Nat.zero_le _,.inl ⟨rfl,rfl⟩⟩,⟨rfl,none,0,rfl,Nat.le_refl _,Nat.zero_le _,.inl ⟨rfl,rfl⟩⟩⟩⟩⟩) (by decide) rfl rfl rfl (by omega) (by omega) (by omega) (by omega) (by omega) rfl (fun b9 c10 s11 g13 t12=>?_))))))))
      refine rn ik 7 [] rfl (vl (slo (i:=i) rfl rfl rfl rfl rfl (by omega) (by omega)) rfl (m_ rfl rfl (cpr i 1 (i + (src.length + 1 - i)) sv_ (ys:=([v])) kPairT_pure rfl rfl rfl rfl rfl (by simp only [Nat.min_def]; split <;> omega) rfl (by omega) (by omega) (by omega) (by omega) (by omega) (fun w_ hs_=>from_seen kPairT_pure (by decide) (hs_.at 3 rfl) (by simp)) (snt 3 rfl) (Nat.lt_of_lt_of_le (Nat.lt_succ_self _) (Nat.le_of_ble_eq_true rfl)) (fun o14 s15 t16=>?_))))
      refine en (nx (sq ?_))
      refine rd (Gq:=[frm w osrc_,dat (Kd.seen (Kd.row 208 kPairT)) [.slice Av 1 cv] ([v]) ([]) sv_]) [2,2] rfl (rn ik 3 [1,2,3] rfl (qv 3 rfl (ra (c:=((i + 1 : Nat) : Int)) rfl rfl rfl (by omega) (by omega) (by omega)) rfl (by kernel_rfl) (qv 4 rfl (slo (i:=(i + 1)) rfl rfl rfl rfl rfl (by omega) (by omega)) rfl (by kernel_rfl) (rn ik 2 [6,7] rfl (qv 7 rfl (slo (i:=i) rfl rfl rfl rfl rfl (by omega) (by omega)) rfl (by kernel_rfl) (q1 8 [2,2] rfl (by kernel_rfl) rfl (cpr (i + 1) (src.length - i) (i + (src.length + 1 - i)) ssrc_ (ys:=((src.drop i).take (src.length - i))) kPairT_pure rfl rfl rfl rfl rfl (by simp only [Nat.min_def]; split <;> omega) (by simp) (by omega) (by omega) (by omega) (by omega) (by omega) (fun w_ hs_=>from_row i (src.length - i) kPairT_pure (hs_.at 1 rfl) (by omega) (by omega)) (snt 1 rfl) (Nat.lt_of_lt_of_le (Nat.lt_succ_self _) (Nat.le_of_ble_eq_true rfl)) (fun o17 s18 t19=>?_))))))))
      exact qn (r1_ ik 10 [0] rfl ⟨[2,2],rfl⟩ (gr (src.take i ++ [v] ++ src.drop i) (ins_grow (by omega)) (ret1 rfl rfl (fun w_ hs_=>madeo hs_ 1 rfl rfl (by grind)))))
    · refine r1_ ik 8 [0] rfl (decide_eq_false h8) (vl (ra (c:=((src.length + 1 : Nat) : Int)) rfl rfl rfl (by omega) (by omega) (by omega)) rfl (vl (shi (i:=(src.length + 1)) rfl rfl rfl rfl rfl (by omega)) rfl (rn ik 10 [] rfl (vl (ra (c:=((i + 1 : Nat) : Int)) rfl rfl rfl (by omega) (by omega) (by omega)) rfl (vl (slo (i:=(i + 1)) rfl rfl rfl rfl rfl (by omega) (by omega)) rfl (f1 (ovl (t:=75) (tr:=4) (i:=(i + 1)) 1 rfl Tryz.func322 rfl rfl (by kernel_rfl) (by kernel_rfl) rfl rfl (by decide) rfl rfl (by simp) rfl (by omega) rfl (r1_ ik 5 [1] rfl rfl ?_))))))))
      refine rd (Gq:=[frm w osrc_,dat (Kd.seen (Kd.row 208 kPairT)) [.slice Av 1 cv] ([v]) ([]) sv_]) [1,1] rfl (rn ik 3 [1,2,3] rfl (qv 3 rfl (ra (c:=((i + 1 : Nat) : Int)) rfl rfl rfl (by omega) (by omega) (by omega)) rfl (by kernel_rfl) (qv 4 rfl (slo (i:=(i + 1)) rfl rfl rfl rfl rfl (by omega) (by omega)) rfl (by kernel_rfl) (rn ik 2 [6,7] rfl (qv 7 rfl (slo (i:=i) rfl rfl rfl rfl rfl (by omega) (by omega)) rfl (by kernel_rfl) (q1 8 [1,1] rfl (by kernel_rfl) rfl (cpr (i + 1) (src.length - i) (src.length + 1) ssrc_ (ys:=((src.drop i).take (src.length - i))) kPairT_pure rfl rfl rfl rfl rfl (by simp only [Nat.min_def]; split <;> omega) (by simp) (by omega) (by omega) (by omega) (by omega) (by omega) (fun w_ hs_=>from_row i (src.length - i) kPairT_pure (hs_.at 0 rfl) (by omega) (by omega)) (snt 0 rfl) (Nat.lt_of_lt_of_le (Nat.lt_succ_self _) (Nat.le_of_ble_eq_true rfl)) (fun o20 s21 t22=>?_))))))))
      refine qn (r1_ ik 6 [0] rfl ⟨[1,1],rfl⟩ (vl (slo (i:=i) rfl rfl rfl rfl rfl (by omega) (by omega)) rfl (m_ rfl rfl (cpr i 1 (src.length + 1) sv_ (ys:=([v])) kPairT_pure rfl rfl rfl rfl rfl (by simp only [Nat.min_def]; split <;> omega) rfl (by omega) (by omega) (by omega) (by omega) (by omega) (fun w_ hs_=>from_seen kPairT_pure (by decide) (hs_.at 2 rfl) (by simp)) (snt 2 rfl) (Nat.lt_of_lt_of_le (Nat.lt_succ_self _) (Nat.le_of_ble_eq_true rfl)) (fun o23 s24 t25=>?_)))))
      exact rn ik 10 [] rfl (gr (src.take i ++ [v] ++ src.drop i) (ins_room (by omega)) (ret1 rfl rfl (fun w_ hs_=>madeo hs_ 0 rfl rfl (by grind))))
theorem l2Add_T (w : World) {Alist : Option Addr} {clist : Nat} {list : List (Tg Pair)} {slist_ : List Nat} (hlist : (Kd.sl kPairT).Rel w [.slice Alist list.length clist] list [] slist_) {Ap1 : Option Addr} {cp1 : Nat} {Ap2 : Option Addr} {cp2 : Nat} {p : (Tg Pair)} {sp_ : List Nat} (hp : kPairT.Rel w [.int .i64 p.1.id,.slice Ap1 p.1.rect.low.length cp1,.slice Ap2 p.1.rect.high.length cp2] p [] sp_) (hz : list.length ≤ 1048576) : Calls Tryz.prog 246 #[.slice Alist list.length clist,.agg #[.int .i64 p.1.id,.slice Ap1 p.1.rect.low.length cp1,.slice Ap2 p.1.rect.high.length cp2]] w (Made (Kd.row 208 kPairT) w (addT list p) (slist_ ++ sp_)):=by
  have Llist:=Kd.sl_len hlist; have Clist:=Kd.sl_cap hlist
  refine fnc (X:=X6 45 w) (l:=[(0,.slice Alist list.length clist),(1,.agg #[.int .i64 p.1.id,.slice Ap1 p.1.rect.low.length cp1,.slice Ap2 p.1.rect.high.length cp2])]) Tryz.func246 rfl rfl rfl ⟨rfl,rfl,trivial⟩ (s0d hp (s0d hlist (s0n w))).1 ?_
  refine sq (rg (bx rfl rfl rfl rfl ?_))
  intro b1
  refine rn ik 5 [] rfl (bs0 (dk:=kPairT) rfl info208 rfl rfl ?_)
  intro b2
  refine rn ik 15 [] rfl ?_
  refine lp (σ:=Nat × Bool × List (Tg Pair) × Option Addr × Nat × List Nat × List Nat) (fun z_ : Nat × Bool × List (Tg Pair) × Option Addr × Nat × List Nat × List Nat=>match z_ with | (k,done,out,A_,c_,o_,s_)=>[(0,.slice Alist list.length clist),(3,.pointer (some ⟨b1,0,none⟩)),(5,.slice A_ out.length c_),(6,.bool done),(7,.int .i64 ((k : Nat) : Int))])
      (fun z_ : Nat × Bool × List (Tg Pair) × Option Addr × Nat × List Nat × List Nat=>match z_ with | (k,done,out,A_,c_,o_,s_)=>[dat (Kd.row 208 kPairT) [.slice A_ out.length c_] out o_ s_,blk b1 [.int .i64 p.1.id,.slice Ap1 p.1.rect.low.length cp1,.slice Ap2 p.1.rect.high.length cp2] 208,dat kPairT [.int .i64 p.1.id,.slice Ap1 p.1.rect.low.length cp1,.slice Ap2 p.1.rect.high.length cp2] p ([]) sp_,dat (Kd.sl kPairT) [.slice Alist list.length clist] list ([]) slist_])
      (fun z_ : Nat × Bool × List (Tg Pair) × Option Addr × Nat × List Nat × List Nat=>match z_ with | (k,done,out,A_,c_,o_,s_)=>k ≤ list.length ∧ ((done = false ∧ out ++ addT (list.drop k) p = addT list p) ∨ (done = true ∧ out ++ list.drop k = addT list p)) ∧ (∀ q ∈ s_,q ∈ slist_ ∨ q ∈ sp_ ∨ w.heap.size ≤ q) ∧ out.length ≤ k + done.toNat) (fun z_ : Nat × Bool × List (Tg Pair) × Option Addr × Nat × List Nat × List Nat=>match z_ with | (k,done,out,A_,c_,o_,s_)=>list.length - k) (0,false,[],(some ⟨b2,0,none⟩),0,[b2],[]) [0,0,0,0] ⟨Nat.zero_le _,by simp,by simp,by simp⟩ ⟨rfl,rfl,rfl,rfl,rfl,trivial⟩ rfl ?_
  rintro ⟨k,done,out,A_,c_,o_,s_⟩ hp_
  obtain ⟨hk,hinv,hsee,hlen⟩:=hp_; have hd:=Bool.toNat_le done
  refine rn ik 9 [] rfl ?_
  by_cases h3 : ((k : Nat) : Int) < ((list.length : Nat) : Int)
  · refine r1_ ik 7 [1] rfl (decide_eq_true h3) ?_
    by_cases h4 : done = true
    · refine rp ik 22 [1,2,3,4,0,5,0,6,0,7,0,8,0,9,0,10,0,11,0,12,0,0,0] rfl ⟨rfl,sid,(not_f h4),(not_f h4),(not_f h4),(not_f h4),(not_f h4),(not_f h4),(not_f h4),(not_f h4),(not_f h4),⟨⟩⟩ ?_
      refine gx 3 k rfl (by omega) fun y10 p5 cs_ s6 w9 m11 e7 r8 us6=>?_
      obtain ⟨A12,c13,A14,c15,rfl⟩:=kPairT_sh r8
      refine vl (ix k e7 rfl rfl rfl rfl rfl (by omega)) rfl (vl (ldq 0 rfl rfl rfl rfl rfl rfl rfl) rfl ?_)
      refine gp 0 Kd.Sub.rfl rfl (cs':=[.int .i64 y10.1.id,.slice A12 y10.1.rect.low.length c13,.slice A14 y10.1.rect.high.length c15]) rfl fun s17 w_ rs17 us17=>?_
      refine gd 0 Kd.Sub.rfl rfl (cs':=[.int .i64 y10.1.id,.slice A12 y10.1.rect.low.length c13,.slice A14 y10.1.rect.high.length c15]) rfl fun s18 w_ rs18 us18=>?_
      refine bs1 (dk:=kPairT) rfl info208 (by decide) rfl rfl rfl rfl ?_
      intro b16
      refine f3 (ap (out ++ [y10]) rfl info208 rfl rfl (by decide) rfl rfl rfl rfl (by simp only [List.length_append,List.length_cons,List.length_nil]; omega) (by simp only [List.length_append,List.length_cons,List.length_nil]; omega) rfl (fun A19 c20 o21 s22 t23=>?_))
      exact rn ik 6 [] rfl (vl (ra (c:=((k + 1 : Nat) : Int)) rfl rfl rfl (by omega) (by omega) (by omega)) rfl (rn ik 2 [] rfl (lpe (s:=(k,done,out,A_,c_,o_,s_)) (k + 1,done,(out ++ [y10]),A19,c20,o21,s22) [0,2,2,2] ⟨by omega,(by cases done <;> simp at hinv <;> first | contradiction | exact .inr ⟨rfl,add_d hinv m11⟩ | exact .inl ⟨rfl,add_n hinv m11 (by simpa using h4)⟩ | simp_all),by grind,by first | omega | (simp only [List.length_append,List.length_cons,List.length_nil]; omega) | (cases done <;> simp_all <;> omega)⟩ (by show list.length - (k + 1) < list.length - k; omega) ⟨rfl,rfl,rfl,rfl,rfl,trivial⟩ rfl)))
    · refine gx 3 k rfl (by omega) fun y29 p24 cs_ s25 w28 m30 e26 r27 us25=>?_
      obtain ⟨A31,c32,A33,c34,rfl⟩:=kPairT_sh r27
      refine r2_ ik 6 [1,2,3,4,1,5,1] rfl (not_t (Bool.eq_false_iff.2 h4)) (not_t (Bool.eq_false_iff.2 h4)) (qg 5 rfl (ix k e26 rfl rfl rfl rfl rfl (by omega)) rfl rfl (not_t (Bool.eq_false_iff.2 h4)) (by kernel_rfl) (rp ik 8 [7,1,8,1,0,1,9,1,10,1,2,0,11,1,12,1,0] rfl ⟨⟨[0,0,0,0,0],rfl⟩,(not_t (Bool.eq_false_iff.2 h4)),(not_t (Bool.eq_false_iff.2 h4)),(not_t (Bool.eq_false_iff.2 h4)),(not_t (Bool.eq_false_iff.2 h4)),(not_t (Bool.eq_false_iff.2 h4)),(not_t (Bool.eq_false_iff.2 h4)),⟨⟩⟩ ?_))
      by_cases h35 : p.1.id < y29.1.id
      · refine r1_ ik 5 [1,2,0] rfl (decide_eq_true h35) ?_
        refine gd 3 Kd.Sub.rfl rfl (cs':=[.int .i64 p.1.id,.slice Ap1 p.1.rect.low.length cp1,.slice Ap2 p.1.rect.high.length cp2]) rfl fun s37 w_ rs37 us37=>?_
        refine bs1 (dk:=kPairT) rfl info208 (by decide) rfl rfl rfl rfl ?_
        intro b36
        refine f2 (ap (out ++ [p]) rfl info208 rfl rfl (by decide) rfl rfl rfl rfl (by simp only [List.length_append,List.length_cons,List.length_nil]; omega) (by simp only [List.length_append,List.length_cons,List.length_nil]; omega) rfl (fun A38 c39 o40 s41 t42=>?_))
        refine rn ik 11 [] rfl (vl (ix k e26 rfl rfl rfl rfl rfl (by omega)) rfl (vl (ldq 1 rfl rfl rfl rfl rfl rfl rfl) rfl ?_))
        refine gp 1 Kd.Sub.rfl rfl (cs':=[.int .i64 y29.1.id,.slice A31 y29.1.rect.low.length c32,.slice A33 y29.1.rect.high.length c34]) rfl fun s44 w_ rs44 us44=>?_
        refine gd 0 Kd.Sub.rfl rfl (cs':=[.int .i64 y29.1.id,.slice A31 y29.1.rect.low.length c32,.slice A33 y29.1.rect.high.length c34]) rfl fun s45 w_ rs45 us45=>?_
        refine bs1 (dk:=kPairT) rfl info208 (by decide) rfl rfl rfl rfl ?_
        intro b43
        refine f2 (ap ((out ++ [p]) ++ [y29]) rfl info208 rfl rfl (by decide) rfl rfl rfl rfl (by simp only [List.length_append,List.length_cons,List.length_nil]; omega) (by simp only [List.length_append,List.length_cons,List.length_nil]; omega) rfl (fun A46 c47 o48 s49 t50=>?_))
        exact rn ik 6 [] rfl (vl (ra (c:=((k + 1 : Nat) : Int)) rfl rfl rfl (by omega) (by omega) (by omega)) rfl (rn ik 2 [] rfl (lpe (s:=(k,done,out,A_,c_,o_,s_)) (k + 1,true,((out ++ [p]) ++ [y29]),A46,c47,o48,s49) [0,2,2,2] ⟨by omega,(by cases done <;> simp at hinv <;> first | contradiction | exact .inr ⟨rfl,add_y hinv m30 h35⟩ | simp_all),by grind,by first | omega | (simp only [List.length_append,List.length_cons,List.length_nil]; omega) | (cases done <;> simp_all <;> omega)⟩ (by show list.length - (k + 1) < list.length - k; omega) ⟨rfl,rfl,rfl,rfl,rfl,trivial⟩ rfl)))
      · refine r1_ ik 7 [0] rfl (decide_eq_false h35) (vl (ix k e26 rfl rfl rfl rfl rfl (by omega)) rfl (vl (ldq 0 rfl rfl rfl rfl rfl rfl rfl) rfl ?_))
        refine gp 0 Kd.Sub.rfl rfl (cs':=[.int .i64 y29.1.id,.slice A31 y29.1.rect.low.length c32,.slice A33 y29.1.rect.high.length c34]) rfl fun s52 w_ rs52 us52=>?_
        refine gd 0 Kd.Sub.rfl rfl (cs':=[.int .i64 y29.1.id,.slice A31 y29.1.rect.low.length c32,.slice A33 y29.1.rect.high.length c34]) rfl fun s53 w_ rs53 us53=>?_
        refine bs1 (dk:=kPairT) rfl info208 (by decide) rfl rfl rfl rfl ?_
        intro b51
        refine f3 (ap (out ++ [y29]) rfl info208 rfl rfl (by decide) rfl rfl rfl rfl (by simp only [List.length_append,List.length_cons,List.length_nil]; omega) (by simp only [List.length_append,List.length_cons,List.length_nil]; omega) rfl (fun A54 c55 o56 s57 t58=>?_))
        exact rn ik 6 [] rfl (vl (ra (c:=((k + 1 : Nat) : Int)) rfl rfl rfl (by omega) (by omega) (by omega)) rfl (rn ik 2 [] rfl (lpe (s:=(k,done,out,A_,c_,o_,s_)) (k + 1,done,(out ++ [y29]),A54,c55,o56,s57) [0,2,2,2] ⟨by omega,(by cases done <;> simp at hinv <;> first | contradiction | exact .inr ⟨rfl,add_d hinv m30⟩ | exact .inl ⟨rfl,add_n hinv m30 (by simpa using h35)⟩ | simp_all),by grind,by first | omega | (simp only [List.length_append,List.length_cons,List.length_nil]; omega) | (cases done <;> simp_all <;> omega)⟩ (by show list.length - (k + 1) < list.length - k; omega) ⟨rfl,rfl,rfl,rfl,rfl,trivial⟩ rfl)))
  · refine r1_ ik 13 [0] rfl (decide_eq_false h3) ?_
    by_cases h59 : done = true
    · exact r1_ ik 10 [0] rfl (not_f h59) (gr (addT list p) (by cases done <;> simp at hinv <;> first | contradiction | exact add_0 hinv (by omega) | exact add_e hinv (by omega) | simp_all) (ret1 rfl rfl (fun w_ hs_=>made hs_ rfl (by grind))))
    · refine r1_ ik 4 [1,1,0] rfl (not_t (Bool.eq_false_iff.2 h59)) ?_
      refine gd 2 Kd.Sub.rfl rfl (cs':=[.int .i64 p.1.id,.slice Ap1 p.1.rect.low.length cp1,.slice Ap2 p.1.rect.high.length cp2]) rfl fun s61 w_ rs61 us61=>?_
      refine bs1 (dk:=kPairT) rfl info208 (by decide) rfl rfl rfl rfl ?_
      intro b60
      refine f1 (ap (out ++ [p]) rfl info208 rfl rfl (by decide) rfl rfl rfl rfl (by simp only [List.length_append,List.length_cons,List.length_nil]; omega) (by simp only [List.length_append,List.length_cons,List.length_nil]; omega) rfl (fun A62 c63 o64 s65 t66=>?_))
      exact rn ik 10 [] rfl (gr (addT list p) (by cases done <;> simp at hinv <;> first | contradiction | exact add_0 hinv (by omega) | exact add_e hinv (by omega) | simp_all) (ret1 rfl rfl (fun w_ hs_=>made hs_ rfl (by grind))))
theorem l2Add_own (w : World) {A : Option Addr} {c : Nat} {F : List Pair} {P : Pair} {A1 A2 : Option Addr} {c1 c2 : Nat} {o1 s1 o2 s2 : List Nat} (hst : St (nul w) w [dat (Kd.row 208 kPairO) [.slice A F.length c] F o1 s1,dat kPairO [.int .i64 P.id,.slice A1 P.rect.low.length c1,.slice A2 P.rect.high.length c2] P o2 s2]) (hz : F.length ≤ 1048576) :
    Calls Tryz.prog 246 #[.slice A F.length c,.agg #[.int .i64 P.id,.slice A1 P.rect.low.length c1,.slice A2 P.rect.high.length c2]] w (MadeO (Kd.row 208 kPairO) w (o1 ++ o2) (addTo F P) (s1 ++ s2)) :=
  own2_of_tag kPairO_seal kPairS_pure addT hst (fun ts t s3 s4 e1 e2 r1 r2=>by
    subst e1; subst e2
    rw [List.length_map] at *
    exact l2Add_T w r1 r2 (by simpa using hz)) (fun ts t=>addG_perm t ts) (fun ts t e1 e2=>by rw [← e1,← e2]; exact addG_map)
end Go.Proofs.YtjdkfibeogiekaaGreat.Sx
