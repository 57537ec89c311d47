/- What functions of the program answer, each at every input that its row names; walked through their code. -/
import Derived.Test.YtjdkfibeogiekaaGreatSy12
namespace Go.Proofs.YtjdkfibeogiekaaGreat.Sx
open Go Go.RowKit Go.Proofs
set_option linter.unusedVariables false
set_option linter.unusedSimpArgs false
set_option maxRecDepth 20000
set_option maxHeartbeats 2000000
def tab13 : Tab := { size := [], off := [], elem := [(75, 208)] }
theorem tab_ok13 : tab13.check Tryz.prog = true:=by kernel_rfl
noncomputable abbrev X13 (N : Nat) (w : World) : Cx := ⟨Tryz.prog, tab13, tab_ok13, wide, N, w, none, []⟩

def hitT (q : Query) (t : Tg Pair) : Bool := matchQ q t.1.rect
theorem tag_hits {ts out : List (Tg Pair)} {list : List Pair} {q : Query} (h : out = ts.filter (hitT q)) (et : ts.map (·.1) = list) : out.map (·.1) = hits list q:=by
  rw [h,← et]; unfold hits; rw [List.filter_map]; rfl
theorem tag_in {ts out : List (Tg Pair)} {q : Query} (h : out = ts.filter (hitT q)) : out.Sublist ts:=by rw [h]; exact List.filter_sublist
abbrev farT (p : List Int) (a b : Tg Pair) : Bool := !ltOf (nearC p) b.1 a.1
theorem ltOf_nearP (p : List Int) (a b : Pair) : ltOf (nearC p) a b = nearerP p a b:=ltOf_near p a b
theorem near_swo (p : List Int) : Go.Sort.SWO (ltOf (nearC p)) where
  irrefl x:=by rw [ltOf_nearP,Bool.eq_false_iff]; intro h; have:=near_asym h; rw [h] at this; cases this
  trans x y z h1 h2:=by rw [ltOf_nearP] at *; exact near_tri h1 h2
  ntrans x y z h1 h2:=by rw [ltOf_nearP] at *; exact near_le h2 h1
theorem tag_one {p : List Int} {ts out : List (Tg Pair)} {list : List Pair} {q : Query} (h : out = ts.filter (hitT q)) (et : ts.map (·.1) = list) (hu : ∀ x ∈ list,∀ y ∈ list,x.id = y.id → x = y) (hnd : list.Nodup) : ∀ x ∈ out,∀ y ∈ out,ltOf (nearC p) x.1 y.1 = false → ltOf (nearC p) y.1 x.1 = false → x = y:=fun x hx y hy h1 h2=>by
  rw [ltOf_nearP] at h1 h2
  have hid:=near_one h1 h2
  have hx' : x ∈ ts:=(tag_in h).subset hx
  have hy' : y ∈ ts:=(tag_in h).subset hy
  have e1 : x.1 = y.1:=hu _ (by rw [← et]; exact List.mem_map_of_mem hx') _ (by rw [← et]; exact List.mem_map_of_mem hy') hid
  rw [← et] at hnd
  obtain ⟨i,hi,rfl⟩:=List.getElem_of_mem hx'
  obtain ⟨j,hj,rfl⟩:=List.getElem_of_mem hy'
  have hp:=List.pairwise_iff_getElem.1 hnd
  rcases Nat.lt_trichotomy i j with hij | rfl | hij
  · exact (hp i j (by simpa using hi) (by simpa using hj) hij (by simp only [List.getElem_map]; exact e1)).elim
  · rfl
  · exact (hp j i (by simpa using hj) (by simpa using hi) hij (by simp only [List.getElem_map]; exact e1.symm)).elim
theorem tag_sort {p : List Int} {out : List (Tg Pair)} (hu : ∀ x ∈ out.map (·.1),∀ y ∈ out.map (·.1),x.id = y.id → x = y) : (out.mergeSort (farT p)).map (·.1) = nearList p (out.map (·.1)):=by
  have h:=List.map_mergeSort (r:=farT p) (s:=fun a b : Pair=>!nearerP p b a) (f:=fun t : Tg Pair=>t.1) (l:=out) (fun a _ b _=>by show (!ltOf (nearC p) b.1 a.1) = _; rw [ltOf_nearP])
  rw [h,sort_near hu]
theorem tag_near {ts out : List (Tg Pair)} {list : List Pair} {q : Query} {n : Nat} (h : out = ts.filter (hitT q)) (et : ts.map (·.1) = list) (hu : ∀ x ∈ list,∀ y ∈ list,x.id = y.id → x = y) (h4 : q.kind = 4) (hn : ((n : Nat) : Int) = min q.k ((out.length : Nat) : Int)) : ((out.mergeSort (farT q.point)).take n).map (·.1) = answerL list q:=by
  have hh:=tag_hits h et
  have hm : ∀ x ∈ out.map (·.1),x ∈ list:=fun x hx=>by rw [hh] at hx; exact (List.mem_filter.1 hx).1
  rw [List.map_take,tag_sort (fun x hx y hy=>hu x (hm x hx) y (hm y hy)),hh]
  unfold answerL; rw [if_pos h4]
  have hl : (nearList q.point (hits list q)).length = out.length:=by rw [nearList_len,← hh,List.length_map]
  by_cases hk : q.k ≤ (out.length : Int)
  · rw [show n = q.k.toNat by omega]
  · rw [List.take_of_length_le (by omega),List.take_of_length_le (by omega)]
theorem tag_nd {ts out : List (Tg Pair)} {q : Query} (h : out = ts.filter (hitT q)) (hn : (ts.flatMap (·.2.2.1)).Nodup) : (out.flatMap (·.2.2.1)).Nodup:=hn.sublist (sub_flatMap (tag_in h))
theorem perm_flat {α β : Type} {f : α → List β} {l1 l2 : List α} (h : l1.Perm l2) : (l1.flatMap f).Perm (l2.flatMap f):=by rw [List.flatMap_def,List.flatMap_def]; exact (h.map f).flatten
theorem tag_nd2 {ts out : List (Tg Pair)} {q : Query} {p : List Int} {n : Nat} (h : out = ts.filter (hitT q)) (hn : (ts.flatMap (·.2.2.1)).Nodup) : (((out.mergeSort (farT p)).take n).flatMap (·.2.2.1)).Nodup :=
  (((perm_flat (f:=fun t : Tg Pair=>t.2.2.1) (List.mergeSort_perm out (farT p))).nodup_iff).2 (tag_nd h hn)).sublist (sub_flatMap (List.take_sublist _ _))
theorem tag_mem2 {ts out : List (Tg Pair)} {q : Query} {p : List Int} {n : Nat} (h : out = ts.filter (hitT q)) : ∀ t ∈ (out.mergeSort (farT p)).take n,t ∈ ts:=fun t ht =>
  (tag_in h).subset ((List.mergeSort_perm out (farT p)).mem_iff.1 (List.mem_of_mem_take ht))
theorem see_tag {α : Type} {ts tx : List (Tg α)} {s : List Nat} {n : Nat} (hs : s = ts.flatMap (·.2.2.2)) (hn : ∀ b ∈ s,b ∈ ([] : List Nat) ∨ n ≤ b) (hm : ∀ t ∈ tx,t ∈ ts) : ∀ b ∈ tx.flatMap (·.2.2.2),n ≤ b:=fun b hb=>by
  obtain ⟨t,ht,hb⟩:=List.mem_flatMap.1 hb
  rcases hn b (by rw [hs]; exact List.mem_flatMap.2 ⟨t,hm t ht,hb⟩) with h | h
  · cases h
  · exact h



theorem clone_T (w : World) {As : Option Addr} {cs : Nat} {s : List (Tg Pair)} {ss_ : List Nat} (hs : (Kd.sl kPairT).Rel w [.slice As s.length cs] s [] ss_) (hz : s.length ≤ 1048576) : Calls Tryz.prog 199 #[.slice As s.length cs] w (Made (Kd.row 208 kPairT) w s (ss_)):=by
  have Ls:=Kd.sl_len hs; have Cs:=Kd.sl_cap hs
  refine fnc (X:=X13 8 w) (l:=[(0,.slice As s.length cs)]) Tryz.func199 rfl rfl rfl ⟨rfl,trivial⟩ (s0d hs (s0n w)).1 ?_
  refine rn ik 9 [] rfl (vl (cmN rfl rfl rfl rfl) rfl (en (nx ?_)))
  by_cases h1 : As.isNone = true
  · exact r1_ ik 8 [1] rfl h1 (gs (Kd.row 208 kPairT) [.slice none 0 0] [] (fun _=>.inl ⟨rfl,rfl,rfl,rfl⟩) (gr s (by rw [Option.isNone_iff_eq_none] at h1; subst h1; exact (Kd.sl_nil hs).symm) (ret1 rfl rfl (fun w_ hs_=>made hs_ rfl (by grind)))))
  · refine r1_ ik 5 [0] rfl (Bool.eq_false_iff.2 h1) (bs0 (dk:=kPairT) rfl info208 rfl rfl ?_)
    intro b2
    refine m_ rfl rfl ?_
    refine f1 (f1 (aps s rfl info208 rfl rfl (by decide) rfl rfl rfl rfl (by omega) (by omega) rfl (fun A3 c4 o5 s6 t7=>?_)))
    exact rn ik 4 [] rfl (gr s rfl (ret1 rfl rfl (fun w_ hs_=>made hs_ rfl (by grind))))
end Go.Proofs.YtjdkfibeogiekaaGreat.Sx
