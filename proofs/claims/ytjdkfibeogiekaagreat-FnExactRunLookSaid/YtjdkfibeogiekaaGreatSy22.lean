/- What functions of the program answer, each at every input that its row names; walked through their code. -/
import Derived.Test.YtjdkfibeogiekaaGreatSy21
namespace Go.Proofs.YtjdkfibeogiekaaGreat.Sx
open Go Go.RowKit Go.Proofs
set_option linter.unusedVariables false
set_option linter.unusedSimpArgs false
set_option maxRecDepth 20000
set_option maxHeartbeats 2000000
variable {At2 At3 At4 : Option Addr} {ct2 ct3 ct4 : Nat} {st_ : List Nat}
def tab22 : Tab := { size := [(2, 1, false), (24, 1, false), (36, 1, false), (40, 4, true), (52, 4, true), (80, 8, true), (102, 4, true)], off := [((40, 1), 1), ((52, 0), 0), ((52, 1), 1), ((52, 3), 3), ((80, 1), 1), ((80, 2), 5), ((80, 3), 6), ((80, 4), 7), ((102, 1), 2)], elem := [(24, 102), (36, 52), (37, 2)] }
theorem tab_ok22 : tab22.check Tryz.prog = true:=by kernel_rfl
noncomputable abbrev X22 (N : Nat) (w : World) : Cx := ⟨Tryz.prog, tab22, tab_ok22, wide, N, w, none, []⟩

def wk (t : Tree) : List Int := walkM t (nodeAt t.arena t.root).level.toNat t.root []
theorem walkM_met {t : Tree} {L : Nat} {id : Int} {met : List Int} (hm : Met t met) (hp : isPlace t.arena id = true) (hn : id ∉ met) : Met t (walkM t L id met):=by
  unfold walkM
  cases h : walkF t L id met with
  | none=>exact Met.nil
  | some m=>exact walkF_met L hm hp hn h
theorem wk_met {t : Tree} (hp : isPlace t.arena t.root = true) : Met t (wk t):=walkM_met Met.nil hp (by simp)
theorem wk_at {t : Tree} (hp : isPlace t.arena t.root = true) : ∀ x ∈ wk t,0 ≤ x ∧ x < (t.arena.nodes.length : Int):=fun x hx=>by
  have:=within_t ((wk_met hp).2 x hx); omega
theorem walkOf_some {t : Tree} (h : (walkF t (nodeAt t.arena t.root).level.toNat t.root []).isSome = true) : walkOf t = some (wk t):=some_of h
def leafOne (t : Tree) (id : Int) : List Entry := if (nodeAt t.arena id).level = 0 then (nodeAt t.arena id).entries else []
theorem leafE_snoc {t : Tree} {ids : List Int} {k : Nat} {y : Int} (hy : ids[k]? = some y) : leafE t (ids.take (k + 1)) = leafE t (ids.take k) ++ leafOne t y:=by
  unfold leafE leafOne; rw [take_snoc hy,List.flatMap_append]; simp
theorem leafE_on {t : Tree} {ids : List Int} {k : Nat} {y : Int} {o : List Entry} (h : o = leafE t (ids.take k)) (hy : ids[k]? = some y) (hl : (nodeAt t.arena y).level = 0) : o ++ (nodeAt t.arena y).entries = leafE t (ids.take (k + 1)):=by
  rw [leafE_snoc hy,h,leafOne,if_pos hl]
theorem leafE_off {t : Tree} {ids : List Int} {k : Nat} {y : Int} {o : List Entry} (h : o = leafE t (ids.take k)) (hy : ids[k]? = some y) (hl : ¬ (nodeAt t.arena y).level = 0) : o = leafE t (ids.take (k + 1)):=by
  rw [leafE_snoc hy,h,leafOne,if_neg hl,List.append_nil]
theorem leafE_end {t : Tree} {ids : List Int} {k : Nat} {o : List Entry} (h : o = leafE t (ids.take k)) (hk : ids.length ≤ k) : o = leafE t ids:=by rw [h,List.take_of_length_le hk]
theorem leafE_len {t : Tree} (hS : Sound t.arena) : ∀ {ids : List Int},(∀ x ∈ ids,isPlace t.arena x = true) → (leafE t ids).length ≤ 5 * ids.length
  | [],_=>by simp [leafE]
  | a :: l,h=>by
    have h1:=leafE_len hS (ids:=l) (fun x hx=>h x (List.mem_cons_of_mem _ hx))
    have h2:=(node_0 (hS.node _ (nodeAt_mem (h a (List.mem_cons_self ..))).1)).2.2.2.1
    have h3 : leafE t (a :: l) = leafOne t a ++ leafE t l:=by simp [leafE,leafOne]
    have h4 : (leafOne t a).length ≤ 5:=by unfold leafOne; split; exact h2; simp
    rw [h3,List.length_append,List.length_cons]; omega
theorem leaf_len {t : Tree} (hS : Sound t.arena) (hp : isPlace t.arena t.root = true) : (leafE t (wk t)).length ≤ 200 ∧ (wk t).length ≤ 40:=by
  have h1:=leafE_len hS (wk_met hp).2; have h2:=(wk_met hp).len; have h3:=hS.len; omega
theorem right_1 {t : Tree} (h : ¬ isUsed t.arena t.root = true) : false = treeRight t:=by unfold treeRight; simp [h]
theorem right_2 {t : Tree} (h : ¬ (nodeAt t.arena t.root).nsn = t.rootNsn) : false = treeRight t:=by unfold treeRight; simp [h]
theorem right_3 {t : Tree} (h : t.arena.nodes.any (fun n=>decide (t.counter < n.nsn)) = true) : false = treeRight t:=by unfold treeRight; rw [h]; simp
theorem right_4 {t : Tree} (h : ¬ (walkF t (nodeAt t.arena t.root).level.toNat t.root []).isSome = true) : false = treeRight t:=by
  have : walkOf t = none:=none_of h
  unfold treeRight; rw [this]; simp
theorem right_5 {t : Tree} {i : Nat} (hi : i < t.arena.nodes.length) (hu : isUsed t.arena (i : Int) = true) (hn : (i : Int) ∉ wk t) : false = treeRight t:=by
  unfold treeRight
  cases hw : walkOf t with
  | none=>simp
  | some m =>
    have hm : m = wk t:=by
      have : (walkF t (nodeAt t.arena t.root).level.toNat t.root []) = some m:=hw
      unfold wk walkM; rw [this]; rfl
    subst hm
    have : (List.range t.arena.nodes.length).all (fun i=>!isUsed t.arena (i : Int) || decide ((i : Int) ∈ wk t)) = false:=by
      rw [List.all_eq_false]; exact ⟨i,List.mem_range.2 hi,by simp [hu,hn]⟩
    simp [this]
theorem right_6 {t : Tree} (hn : ¬ Uniq Entry.ref (leafE t (wk t))) : false = treeRight t:=by
  unfold treeRight
  cases hw : walkOf t with
  | none=>simp
  | some m =>
    have hm : m = wk t:=by
      have : (walkF t (nodeAt t.arena t.root).level.toNat t.root []) = some m:=hw
      unfold wk walkM; rw [this]; rfl
    subst hm
    simp [hn]
theorem right_t {t : Tree} (h1 : isUsed t.arena t.root = true) (h2 : (nodeAt t.arena t.root).nsn = t.rootNsn) (h3 : ¬ t.arena.nodes.any (fun n=>decide (t.counter < n.nsn)) = true) (h4 : (walkF t (nodeAt t.arena t.root).level.toNat t.root []).isSome = true) (h5 : ∀ j : Nat,j < t.arena.nodes.length → isUsed t.arena (j : Int) = true → (j : Int) ∈ wk t) (h6 : Uniq Entry.ref (leafE t (wk t))) : true = treeRight t:=by
  unfold treeRight
  rw [walkOf_some h4,h1,h2,Bool.eq_false_iff.2 h3]
  have : (List.range t.arena.nodes.length).all (fun i=>!isUsed t.arena (i : Int) || decide ((i : Int) ∈ wk t)) = true:=by
    rw [List.all_eq_true]; intro i hi
    cases hu : isUsed t.arena (i : Int) with
    | false=>rfl
    | true=>simp [h5 i (List.mem_range.1 hi) hu]
  simp [this,h6]
theorem met_step {t : Tree} {k : Nat} (h : ∀ j : Nat,j < k → isUsed t.arena (j : Int) = true → (j : Int) ∈ wk t) (hk : isUsed t.arena (k : Int) = true → (k : Int) ∈ wk t) : ∀ j : Nat,j < k + 1 → isUsed t.arena (j : Int) = true → (j : Int) ∈ wk t:=fun j hj hu=>by
  rcases Nat.lt_succ_iff_lt_or_eq.1 hj with h1 | h1
  · exact h j h1 hu
  · subst h1; exact hk hu

theorem impl_Tree_reach (w : World) {t : Tree} (ht : kTreeS.Rel w [.int .i64 t.style,.int .i64 t.arena.dims,.slice At2 t.arena.nodes.length ct2,.slice At3 t.arena.free.length ct3,.slice At4 t.arena.retired.length ct4,.int .i64 t.root,.int .i64 t.rootNsn,.int .i64 t.counter] t [] st_) (hS : Sound t.arena) (hp : isPlace t.arena t.root = true) : Calls Tryz.prog 313 #[.agg #[.int .i64 t.style,.int .i64 t.arena.dims,.slice At2 t.arena.nodes.length ct2,.slice At3 t.arena.free.length ct3,.slice At4 t.arena.retired.length ct4,.int .i64 t.root,.int .i64 t.rootNsn,.int .i64 t.counter]] w (Made (Kd.row 2 Kd.i64) w (wk t) []):=by
  have hq:=within_t hp; have hnl:=node_0 (hS.node _ (nodeAt_mem hp).1); have hll:=leaf_len hS hp; have hwk:=wk_at hp; have hsl:=hS.len
  refine fnc (X:=X22 14 w) (l:=[(0,.agg #[.int .i64 t.style,.int .i64 t.arena.dims,.slice At2 t.arena.nodes.length ct2,.slice At3 t.arena.free.length ct3,.slice At4 t.arena.retired.length ct4,.int .i64 t.root,.int .i64 t.rootNsn,.int .i64 t.counter])]) Tryz.func313 rfl rfl rfl ⟨rfl,trivial⟩ (s0d ht (s0n w)).1 ?_
  refine sq (rg (bx rfl rfl rfl rfl ?_))
  intro b1
  refine rn ik 8 [0,0,0,0] rfl (bs0 (dk:=Kd.i64) rfl info2 rfl rfl ?_)
  intro b2
  refine coT (dk:=(Kd.row 2 Kd.i64)) (x:=(walkM t (nodeAt t.arena t.root).level.toNat t.root ([]))) (S:=([])) (f:=(fun v_=>.tuple #[v_,.bool ((walkF t (nodeAt t.arena t.root).level.toNat t.root ([])).isSome)])) (by kernel_rfl) rfl rfl rfl (snt 0 rfl) _ (fun _ hs_=>hs_.below.size) (fun w_ hs_=>(impl_Tree_walk _) w_ _ ((hs_.pk [0,1] rfl).nl) hS hp (by simp) Met.nil (by omega)) (fun cs_ o5 s6 w_ r7 t8=>?_)
  obtain ⟨A3,c4,rfl⟩:=Kd.row_sh r7
  exact rn ik 14 [] rfl (gr (wk t) rfl (ret1 rfl rfl (fun w_ hs_=>made hs_ rfl (by grind))))
theorem impl_Tree_leafEntries (w : World) {t : Tree} (ht : kTreeS.Rel w [.int .i64 t.style,.int .i64 t.arena.dims,.slice At2 t.arena.nodes.length ct2,.slice At3 t.arena.free.length ct3,.slice At4 t.arena.retired.length ct4,.int .i64 t.root,.int .i64 t.rootNsn,.int .i64 t.counter] t [] st_) (hS : Sound t.arena) (hp : isPlace t.arena t.root = true) : Calls Tryz.prog 290 #[.agg #[.int .i64 t.style,.int .i64 t.arena.dims,.slice At2 t.arena.nodes.length ct2,.slice At3 t.arena.free.length ct3,.slice At4 t.arena.retired.length ct4,.int .i64 t.root,.int .i64 t.rootNsn,.int .i64 t.counter]] w (Made (Kd.row 102 kEntryS) w (leafE t (wk t)) (st_)):=by
  have hq:=within_t hp; have hnl:=node_0 (hS.node _ (nodeAt_mem hp).1); have hll:=leaf_len hS hp; have hwk:=wk_at hp; have hsl:=hS.len
  refine fnc (X:=X22 30 w) (l:=[(0,.agg #[.int .i64 t.style,.int .i64 t.arena.dims,.slice At2 t.arena.nodes.length ct2,.slice At3 t.arena.free.length ct3,.slice At4 t.arena.retired.length ct4,.int .i64 t.root,.int .i64 t.rootNsn,.int .i64 t.counter])]) Tryz.func290 rfl rfl rfl ⟨rfl,trivial⟩ (s0d ht (s0n w)).1 ?_
  refine sq (rg (bx rfl rfl rfl rfl ?_))
  intro b1
  refine rn ik 5 [] rfl (bs0 (dk:=kEntryS) rfl info102 rfl rfl ?_)
  intro b2
  refine rn ik 7 [1,0] rfl (cm_ (dk:=(Kd.row 2 Kd.i64)) (x:=(wk t)) (S:=[]) (by kernel_rfl) rfl rfl rfl sn0 (fun w_ hs_=>impl_Tree_reach w_ (hs_.at 2 rfl) hS hp) (fun cs_ o5 s6 w_ r7 t8=>?_))
  obtain ⟨A3,c4,rfl⟩:=Kd.row_sh r7
  refine rn ik 5 [] rfl (gl (Kd.Seals.row Kd.Seals.i64 _) (fun s10 us10=>?_))
  refine lp (σ:=Nat × List Entry × Option Addr × Nat × List Nat × List Nat) (fun z_ : Nat × List Entry × Option Addr × Nat × List Nat × List Nat=>match z_ with | (k,out,A_out,c_out,o_out,s_out)=>[(1,.pointer (some ⟨b1,0,none⟩)),(3,.slice A_out out.length c_out),(9,.slice A3 ((wk t).length) c4),(10,.int .i64 (((wk t).length : Nat) : Int)),(11,.int .i64 ((k : Nat) : Int))])
      (fun z_ : Nat × List Entry × Option Addr × Nat × List Nat × List Nat=>match z_ with | (k,out,A_out,c_out,o_out,s_out)=>[dat (Kd.row 102 kEntryS) [.slice A_out out.length c_out] out o_out s_out,dat (Kd.sl Kd.i64) [.slice A3 ((wk t).length) c4] (wk t) ([]) s10,blk b1 [.int .i64 t.style,.int .i64 t.arena.dims,.slice At2 t.arena.nodes.length ct2,.slice At3 t.arena.free.length ct3,.slice At4 t.arena.retired.length ct4,.int .i64 t.root,.int .i64 t.rootNsn,.int .i64 t.counter] 80,dat kTreeS [.int .i64 t.style,.int .i64 t.arena.dims,.slice At2 t.arena.nodes.length ct2,.slice At3 t.arena.free.length ct3,.slice At4 t.arena.retired.length ct4,.int .i64 t.root,.int .i64 t.rootNsn,.int .i64 t.counter] t ([]) st_])
      (fun z_ : Nat × List Entry × Option Addr × Nat × List Nat × List Nat=>match z_ with | (k,out,A_out,c_out,o_out,s_out)=>(k ≤ (wk t).length ∧ out = leafE t ((wk t).take k) ∧ out.length ≤ 5 * k) ∧ (∀ q ∈ s_out,q ∈ st_ ∨ w.heap.size ≤ q)) (fun z_ : Nat × List Entry × Option Addr × Nat × List Nat × List Nat=>match z_ with | (k,out,A_out,c_out,o_out,s_out)=>(wk t).length - k) (0,[],(some ⟨b2,0,none⟩),0,[b2],[]) [1,0,0,0] ⟨⟨Nat.zero_le _,by simp [leafE],by simp⟩,by grind⟩ ⟨rfl,rfl,rfl,rfl,rfl,trivial⟩ rfl ?_
  rintro ⟨k,out,A_out,c_out,o_out,s_out⟩ hp_
  obtain ⟨hinv,hseeout⟩:=hp_
  refine rn ik 6 [] rfl ?_
  by_cases h11 : ((k : Nat) : Int) < (((wk t).length : Nat) : Int)
  · refine r1_ ik 7 [1] rfl (decide_eq_true h11) ?_
    refine gx 1 k rfl (by first | omega | (have z:=hwk _ (List.mem_of_getElem? (by assumption)); omega)) fun y17 p12 cs_ s13 w16 m18 e14 r15 us13=>?_
    obtain ⟨rfl,-,-⟩:=r15
    refine vl (ix k e14 rfl rfl rfl rfl rfl (by first | omega | (have z:=hwk _ (List.mem_of_getElem? (by assumption)); omega))) rfl (rn ik 10 [0,0,3,0] rfl ?_)
    refine gd 4 kTreeS_p2_1 rfl (cs':=[.slice At2 t.arena.nodes.length ct2]) rfl fun s19 w_ rs19 us19=>?_
    have Ls19:=Kd.sl_len rs19; have Cs19:=Kd.sl_cap rs19
    refine gx 0 y17.toNat rfl (by first | omega | (have z:=hwk _ (List.mem_of_getElem? (by assumption)); omega)) fun y25 p20 cs_ s21 w24 m26 e22 r23 us21=>?_
    obtain ⟨A27,c28,rfl⟩:=kNodeS_sh r23
    have ey25:=nodeAt_of m26; subst ey25
    have znn29:=(node_0 (hS.node _ (List.mem_of_getElem? m26))).2.2.2.1
    refine vl (ixz y17.toNat (by first | omega | (have z:=hwk _ (List.mem_of_getElem? (by assumption)); omega)) e22 rfl rfl rfl rfl rfl (by first | omega | (have z:=hwk _ (List.mem_of_getElem? (by assumption)); omega))) rfl (vl (ldq 0 rfl rfl rfl rfl rfl rfl rfl) rfl (al zero52 rfl rfl rfl ?_))
    intro b30
    refine sto rfl rfl rfl rfl rfl rfl rfl (cs':=[.int .i64 ((nodeAt t.arena y17).level),.int .i64 ((nodeAt t.arena y17).nsn),.int .i64 ((nodeAt t.arena y17).right),.slice A27 ((nodeAt t.arena y17).entries.length) c28]) rfl (rn ik 9 [0,0] rfl ?_)
    by_cases h31 : (nodeAt t.arena y17).level = (0 : Int)
    · refine r1_ ik 5 [1,0,0] rfl (beq_iff_eq.2 h31) ?_
      refine gp 1 kNodeS_p3_1 rfl (cs':=[.slice A27 ((nodeAt t.arena y17).entries.length) c28]) rfl fun s32 w_ rs32 us32=>?_
      have Ls32:=Kd.sl_len rs32; have Cs32:=Kd.sl_cap rs32
      refine f5 (aps (out ++ (nodeAt t.arena y17).entries) rfl info102 rfl rfl (by decide) rfl rfl rfl rfl (by rw [List.length_append]; omega) (by rw [List.length_append]; omega) rfl (fun A33 c34 o35 s36 t37=>?_))
      refine rn ik 5 [] rfl (vl (ra (c:=((k + 1 : Nat) : Int)) rfl rfl rfl (by omega) (by omega) (by omega)) rfl (rn ik 2 [] rfl ?_))
      exact lpe (s:=(k,out,A_out,c_out,o_out,s_out)) (k + 1,(out ++ (nodeAt t.arena y17).entries),A33,c34,o35,s36) [0,5,5,5] ⟨⟨by omega,(leafE_on hinv.2.1 m18 h31),by rw [List.length_append]; omega⟩,by grind⟩ (by show (wk t).length - (k + 1) < (wk t).length - k; omega) ⟨rfl,rfl,rfl,rfl,rfl,trivial⟩ rfl
    · refine r1_ ik 5 [0] rfl (beq_eq_false_iff_ne.2 h31) (vl (ra (c:=((k + 1 : Nat) : Int)) rfl rfl rfl (by omega) (by omega) (by omega)) rfl (rn ik 2 [] rfl ?_))
      exact lpe (s:=(k,out,A_out,c_out,o_out,s_out)) (k + 1,out,A_out,c_out,o_out,s_out) [4,4,4,4] ⟨⟨by omega,(leafE_off hinv.2.1 m18 h31),by omega⟩,by grind⟩ (by show (wk t).length - (k + 1) < (wk t).length - k; omega) ⟨rfl,rfl,rfl,rfl,rfl,trivial⟩ rfl
  · exact r1_ ik 13 [0] rfl (decide_eq_false h11) (gr (leafE t (wk t)) (leafE_end hinv.2.1 (by omega)) (ret1 rfl rfl (fun w_ hs_=>made hs_ rfl (by grind))))
theorem impl_Tree_isRight_1 (w : World) {An3 : Option Addr} {cn3 : Nat} {n : Node} {sn_ : List Nat} (hn : kNodeS.Rel w [.int .i64 n.level,.int .i64 n.nsn,.int .i64 n.right,.slice An3 n.entries.length cn3] n [] sn_) {t : Tree} {pt : Addr} (ht : (ptr kTreeS pt [.int .i64 t.style,.int .i64 t.arena.dims,.slice At2 t.arena.nodes.length ct2,.slice At3 t.arena.free.length ct3,.slice At4 t.arena.retired.length ct4,.int .i64 t.root,.int .i64 t.rootNsn,.int .i64 t.counter] t st_).P w)  : Calls Tryz.prog 288 #[.agg #[.int .i64 n.level,.int .i64 n.nsn,.int .i64 n.right,.slice An3 n.entries.length cn3],.pointer (some pt)] w (fun e_ w2_=>e_ = .returned (.bool (decide (t.counter < n.nsn))) ∧ Below w.heap.size w w2_):=by
  refine fnc (X:=X22 9 w) (l:=[(0,.agg #[.int .i64 n.level,.int .i64 n.nsn,.int .i64 n.right,.slice An3 n.entries.length cn3]),(1,.pointer (some pt))]) Tryz.func288 rfl rfl rfl ⟨rfl,rfl,trivial⟩ (s0p ht (s0d hn (s0n w))).1 ?_
  refine sq (rg (bx rfl rfl rfl rfl ?_))
  intro b1
  refine rn ik 14 [0,0,1,8] rfl (ret1 rfl rfl (fun w_ hs_=>⟨?_,hs_.below⟩))
  rfl
theorem impl_Tree_isRight (w : World) {t : Tree} (ht : kTreeS.Rel w [.int .i64 t.style,.int .i64 t.arena.dims,.slice At2 t.arena.nodes.length ct2,.slice At3 t.arena.free.length ct3,.slice At4 t.arena.retired.length ct4,.int .i64 t.root,.int .i64 t.rootNsn,.int .i64 t.counter] t [] st_) (hS : Sound t.arena) (hp : isPlace t.arena t.root = true) : Calls Tryz.prog 252 #[.agg #[.int .i64 t.style,.int .i64 t.arena.dims,.slice At2 t.arena.nodes.length ct2,.slice At3 t.arena.free.length ct3,.slice At4 t.arena.retired.length ct4,.int .i64 t.root,.int .i64 t.rootNsn,.int .i64 t.counter]] w (fun e_ w2_=>e_ = .returned (.bool (treeRight t)) ∧ Below w.heap.size w w2_):=by
  have hq:=within_t hp; have hnl:=node_0 (hS.node _ (nodeAt_mem hp).1); have hll:=leaf_len hS hp; have hwk:=wk_at hp; have hsl:=hS.len
  refine fnc (X:=X22 78 w) (l:=[(0,.agg #[.int .i64 t.style,.int .i64 t.arena.dims,.slice At2 t.arena.nodes.length ct2,.slice At3 t.arena.free.length ct3,.slice At4 t.arena.retired.length ct4,.int .i64 t.root,.int .i64 t.rootNsn,.int .i64 t.counter])]) Tryz.func252 rfl rfl rfl ⟨rfl,trivial⟩ (s0d ht (s0n w)).1 ?_
  refine sq (rg (bx rfl rfl rfl rfl ?_))
  intro b1
  refine rn ik 7 [0,0] rfl (al zero40 rfl rfl rfl ?_)
  intro b2
  refine sto rfl rfl rfl rfl rfl rfl rfl (cs':=[.int .i64 t.arena.dims,.slice At2 t.arena.nodes.length ct2,.slice At3 t.arena.free.length ct3,.slice At4 t.arena.retired.length ct4]) rfl (rn ik 4 [] rfl ?_)
  refine gd 2 kTreeS_p1_4 rfl (cs':=[.int .i64 t.arena.dims,.slice At2 t.arena.nodes.length ct2,.slice At3 t.arena.free.length ct3,.slice At4 t.arena.retired.length ct4]) rfl fun s3 w_ rs3 us3=>?_
  by_cases h4 : isUsed t.arena t.root = true
  · refine gd 0 kArenaS_p1_1 rfl (cs':=[.slice At2 t.arena.nodes.length ct2]) rfl fun s5 w_ rs5 us5=>?_
    have Ls5:=Kd.sl_len rs5; have Cs5:=Kd.sl_cap rs5
    refine gx 0 t.root.toNat rfl (by omega) fun y11 p6 cs_ s7 w10 m12 e8 r9 us7=>?_
    obtain ⟨A13,c14,rfl⟩:=kNodeS_sh r9
    have ey11:=nodeAt_of m12; subst ey11
    by_cases h15 : (nodeAt t.arena t.root).nsn = t.rootNsn
    · refine rn ik 4 [1,3,0,2,3,4,0] rfl (q1 3 [0,0,0,0,0,0] rfl (by kernel_rfl) rfl (cs_ (v:=.bool (isUsed t.arena t.root)) (by kernel_rfl) rfl rfl rfl (fun w_ hs_=>by exact impl_Arena_isUsed w_ _ (hs_.at 2 rfl)) (qn (r4_ ik 6 [5,6,7,1,8,1,3,0,9,1,10,1,4,0] rfl (not_f h4) (not_f h4) (not_f h4) (not_f h4) (qg 10 rfl (ixz t.root.toNat (by omega) e8 rfl rfl rfl rfl rfl (by omega)) rfl rfl (not_f h4) (by kernel_rfl) (rp ik 9 [12,1,13,1,0,2,14,1,15,1,4,0,16,1,17,0,18,19,1,20,1,3,0] rfl ⟨(bne_eq_false_iff_eq.2 h15),(bne_eq_false_iff_eq.2 h15),(not_f h4),(not_f h4),(not_f h4),(not_f h4),(not_f h4),(not_f h4),⟨⟩⟩ (qg 20 rfl (mf rfl rfl rfl) rfl rfl (bne_eq_false_iff_eq.2 h15) (by kernel_rfl) (q1 21 [0,0,0,0,0,0] rfl (by kernel_rfl) rfl (gw rfl rfl (bne_eq_false_iff_eq.2 h15) (cs_ (v:=.bool (List.any t.arena.nodes (fun (x0 : Node)=>decide (t.counter < x0.nsn)))) (by kernel_rfl) rfl rfl rfl (fun w_ hs_=>by exact slices_ContainsFunc_impl_Node_impl_Node w_ (fun (x0 : Node)=>decide (t.counter < x0.nsn)) (by kernel_rfl) (hs_.at 1 rfl) (fun w1 x0 m0_ b_ _ _ _ r0_=>impl_Tree_isRight_1 w1  r0_ (ptr_blk ((hs_.step b_).at 4 rfl) ((hs_.step b_).at 5 rfl) rfl))) (qn (r2_ ik 3 [23,0,0] rfl (bne_eq_false_iff_eq.2 h15) ⟨[0,0,0,0,0,0],rfl⟩ ?_))))))))))))
      by_cases h16 : List.any t.arena.nodes (fun (x0 : Node)=>decide (t.counter < x0.nsn)) = true
      · refine r1_ ik 8 [1] rfl h16 (ret1 rfl rfl (fun w_ hs_=>⟨?_,hs_.below⟩))
        exact rb (right_3 h16)
      · refine r1_ ik 8 [0,4,0,4,0] rfl (Bool.eq_false_iff.2 h16) (gs (Kd.row 2 Kd.i64) [.slice none 0 0] [] (fun _=>.inl ⟨rfl,rfl,rfl,rfl⟩) (coT (dk:=(Kd.row 2 Kd.i64)) (x:=(walkM t (nodeAt t.arena t.root).level.toNat t.root ([]))) (S:=([])) (f:=(fun v_=>.tuple #[v_,.bool ((walkF t (nodeAt t.arena t.root).level.toNat t.root ([])).isSome)])) (by kernel_rfl) rfl rfl rfl (snt 0 rfl) _ (fun _ hs_=>hs_.below.size) (fun w_ hs_=>(impl_Tree_walk _) w_ _ ((hs_.pk [0,5] rfl).nl) hS hp (by simp) Met.nil (by omega)) (fun cs_ o19 s20 w_ r21 t22=>?_)))
        obtain ⟨A17,c18,rfl⟩:=Kd.row_sh r21
        refine rn ik 14 [] rfl ?_
        by_cases h23 : (walkF t (nodeAt t.arena t.root).level.toNat t.root ([])).isSome = true
        · refine r1_ ik 13 [0,4,0] rfl (not_f h23) ?_
          refine lp (σ:=Nat) (fun k : Nat=>[(1,.pointer (some ⟨b1,0,none⟩)),(3,.pointer (some ⟨b2,0,none⟩)),(4,.slice A17 ((walkM t (nodeAt t.arena t.root).level.toNat t.root ([])).length) c18),(46,.int .i64 ((t.arena.nodes.length : Nat) : Int)),(47,.int .i64 ((k : Nat) : Int))])
              (fun k : Nat=>[dat (Kd.row 2 Kd.i64) [.slice A17 ((walkM t (nodeAt t.arena t.root).level.toNat t.root ([])).length) c18] (walkM t (nodeAt t.arena t.root).level.toNat t.root ([])) o19 s20,dat (Kd.sl kNodeS) [.slice At2 t.arena.nodes.length ct2] t.arena.nodes ([]) s5,dat kArenaS [.int .i64 t.arena.dims,.slice At2 t.arena.nodes.length ct2,.slice At3 t.arena.free.length ct3,.slice At4 t.arena.retired.length ct4] t.arena ([]) s3,blk b2 [.int .i64 t.arena.dims,.slice At2 t.arena.nodes.length ct2,.slice At3 t.arena.free.length ct3,.slice At4 t.arena.retired.length ct4] 40,blk b1 [.int .i64 t.style,.int .i64 t.arena.dims,.slice At2 t.arena.nodes.length ct2,.slice At3 t.arena.free.length ct3,.slice At4 t.arena.retired.length ct4,.int .i64 t.root,.int .i64 t.rootNsn,.int .i64 t.counter] 80,dat kTreeS [.int .i64 t.style,.int .i64 t.arena.dims,.slice At2 t.arena.nodes.length ct2,.slice At3 t.arena.free.length ct3,.slice At4 t.arena.retired.length ct4,.int .i64 t.root,.int .i64 t.rootNsn,.int .i64 t.counter] t ([]) st_])
              (fun k : Nat=>k ≤ t.arena.nodes.length ∧ ∀ j : Nat,j < k → isUsed t.arena (j : Int) = true → (j : Int) ∈ wk t) (fun k : Nat=>t.arena.nodes.length - k) 0 [0,1,1,1,1,1] ⟨Nat.zero_le _,by simp⟩ ⟨rfl,rfl,rfl,rfl,rfl,trivial⟩ rfl ?_
          intro k hp_
          obtain ⟨hk,hids⟩:=hp_
          refine rn ik 6 [] rfl ?_
          by_cases h24 : ((k : Nat) : Int) < ((t.arena.nodes.length : Nat) : Int)
          · refine r1_ ik 15 [1,3,0] rfl (decide_eq_true h24) (cs_ (v:=.bool (isUsed t.arena ((k : Nat) : Int))) (by kernel_rfl) rfl rfl rfl (fun w_ hs_=>impl_Arena_isUsed w_ _ (hs_.at 2 rfl)) (m_ rfl rfl ?_))
            by_cases h25 : isUsed t.arena ((k : Nat) : Int) = true
            · refine r2_ ik 2 [1,1] rfl h25 h25 (gw rfl rfl h25 (cs_ (v:=.bool (decide (((k : Nat) : Int) ∈ (walkM t (nodeAt t.arena t.root).level.toNat t.root ([]))))) (by kernel_rfl) rfl rfl rfl (fun w_ hs_=>bor (Kd.Seals.row Kd.Seals.i64 _) (hs_.at 0 rfl) fun _ lb0_=>slices_Contains_int64_int64 w_ _ lb0_) (r2_ ik 4 [1,1] rfl h25 h25 ?_)))
              by_cases h26 : decide (((k : Nat) : Int) ∈ (walkM t (nodeAt t.arena t.root).level.toNat t.root ([]))) = true
              · exact r1_ ik 5 [0] rfl (not_f h26) (vl (ra (c:=((k + 1 : Nat) : Int)) rfl rfl rfl (by omega) (by omega) (by omega)) rfl (rn ik 2 [] rfl (lpe (s:=k) (k + 1) [0,0,0,0,0,0] ⟨by omega,met_step hids (fun _=>of_decide_eq_true h26)⟩ (by omega) ⟨rfl,rfl,rfl,rfl,rfl,trivial⟩ rfl)))
              · refine r1_ ik 12 [1] rfl (not_t (Bool.eq_false_iff.2 h26)) (ret1 rfl rfl (fun w_ hs_=>⟨?_,hs_.below⟩))
                exact rb (right_5 (by omega) h25 (of_decide_eq_false (Bool.eq_false_iff.2 h26)))
            · exact rp ik 12 [0,0,0,0,0,0] rfl ⟨rfl,(Bool.eq_false_iff.2 h25),(Bool.eq_false_iff.2 h25),(Bool.eq_false_iff.2 h25),(Bool.eq_false_iff.2 h25),(Bool.eq_false_iff.2 h25),⟨⟩⟩ (vl (ra (c:=((k + 1 : Nat) : Int)) rfl rfl rfl (by omega) (by omega) (by omega)) rfl (rn ik 2 [] rfl (lpe (s:=k) (k + 1) [0,0,0,0,0,0] ⟨by omega,met_step hids (fun hu=>absurd hu h25)⟩ (by omega) ⟨rfl,rfl,rfl,rfl,rfl,trivial⟩ rfl)))
          · refine r1_ ik 8 [0] rfl (decide_eq_false h24) (bs0 (dk:=kEntryS) rfl info102 rfl rfl ?_)
            intro b27
            refine rn ik 7 [5,0] rfl (cm_ (dk:=(Kd.row 102 kEntryS)) (x:=(leafE t (wk t))) (S:=(st_)) (by kernel_rfl) rfl rfl rfl (snt 6 rfl) (fun w_ hs_=>impl_Tree_leafEntries w_ (hs_.at 6 rfl) hS hp) (fun cs_ o30 s31 w_ r32 t33=>?_))
            obtain ⟨A28,c29,rfl⟩:=Kd.row_sh r32
            refine rn ik 5 [] rfl (gl (Kd.Seals.row kEntryS_self _) (fun s35 us35=>?_))
            refine lp (σ:=Nat × List Entry × Option Addr × Nat × List Nat × List Nat) (fun z_ : Nat × List Entry × Option Addr × Nat × List Nat × List Nat=>match z_ with | (k2,refs,A_refs,c_refs,o_refs,s_refs)=>[(7,.slice A_refs refs.length c_refs),(62,.slice A28 ((leafE t (wk t)).length) c29),(63,.int .i64 (((leafE t (wk t)).length : Nat) : Int)),(64,.int .i64 ((k2 : Nat) : Int))])
                (fun z_ : Nat × List Entry × Option Addr × Nat × List Nat × List Nat=>match z_ with | (k2,refs,A_refs,c_refs,o_refs,s_refs)=>[dat (Kd.row 102 kEntryS) [.slice A_refs refs.length c_refs] refs o_refs s_refs,dat (Kd.sl kEntryS) [.slice A28 ((leafE t (wk t)).length) c29] (leafE t (wk t)) ([]) s35])
                (fun z_ : Nat × List Entry × Option Addr × Nat × List Nat × List Nat=>match z_ with | (k2,refs,A_refs,c_refs,o_refs,s_refs)=>(k2 ≤ (leafE t (wk t)).length ∧ refs = (leafE t (wk t)).take k2 ∧ Uniq Entry.ref ((leafE t (wk t)).take k2)) ∧ (∀ q ∈ s_refs,True)) (fun z_ : Nat × List Entry × Option Addr × Nat × List Nat × List Nat=>match z_ with | (k2,refs,A_refs,c_refs,o_refs,s_refs)=>(leafE t (wk t)).length - k2) (0,[],(some ⟨b27,0,none⟩),0,[b27],[]) [1,0] ⟨⟨Nat.zero_le _,by simp,by simpa using Uniq.nil⟩,by grind⟩ ⟨rfl,rfl,rfl,rfl,trivial⟩ rfl ?_
            rintro ⟨k2,refs,A_refs,c_refs,o_refs,s_refs⟩ hp_
            obtain ⟨hinv2,hsee2refs⟩:=hp_; have hrl : refs.length = k2:=by rw [hinv2.2.1,List.length_take]; omega
            refine rn ik 6 [] rfl ?_
            by_cases h36 : ((k2 : Nat) : Int) < (((leafE t (wk t)).length : Nat) : Int)
            · refine r1_ ik 7 [1] rfl (decide_eq_true h36) ?_
              refine gx 1 k2 rfl (by omega) fun y42 p37 cs_ s38 w41 m43 e39 r40 us38=>?_
              obtain ⟨A44,c45,A46,c47,rfl⟩:=kEntryS_sh r40
              refine vl (ix k2 e39 rfl rfl rfl rfl rfl (by omega)) rfl (vl (ldq 0 rfl rfl rfl rfl rfl rfl rfl) rfl (al zero102 rfl rfl rfl ?_))
              intro b48
              refine sto rfl rfl rfl rfl rfl rfl rfl (cs':=[.slice A44 y42.rect.low.length c45,.slice A46 y42.rect.high.length c47,.int .i64 y42.ref,.int .i64 y42.nsn]) rfl (rn ik 8 [0,0] rfl (cs_ (v:=.int .i64 (idx (fun (x0 : Entry)=>x0.ref == y42.ref) refs)) (by kernel_rfl) rfl rfl rfl (fun w_ hs_=>bor (Kd.Seals.row kEntryS_self _) (hs_.at 2 rfl) fun _ lb0_=>impl_entryAt w_ _ lb0_) (rn ik 3 [] rfl ?_)))
              by_cases h49 : (0 : Int) ≤ (idx (fun (x0 : Entry)=>x0.ref == y42.ref) refs)
              · refine r1_ ik 13 [1] rfl (decide_eq_true h49) (ret1 rfl rfl (fun w_ hs_=>⟨?_,hs_.below⟩))
                exact rb (right_6 (uniq_no m43 (by rw [← hinv2.2.1]; omega)))
              · refine r1_ ik 6 [0,0,0] rfl (decide_eq_false h49) ?_
                refine gp 1 Kd.Sub.rfl rfl (cs':=[.slice A44 y42.rect.low.length c45,.slice A46 y42.rect.high.length c47,.int .i64 y42.ref,.int .i64 y42.nsn]) rfl fun s51 w_ rs51 us51=>?_
                refine gd 0 Kd.Sub.rfl rfl (cs':=[.slice A44 y42.rect.low.length c45,.slice A46 y42.rect.high.length c47,.int .i64 y42.ref,.int .i64 y42.nsn]) rfl fun s52 w_ rs52 us52=>?_
                refine bs1 (dk:=kEntryS) rfl info102 (by decide) rfl rfl rfl rfl ?_
                intro b50
                refine f4 (ap (refs ++ [y42]) rfl info102 rfl rfl (by decide) rfl rfl rfl rfl (by simp only [List.length_append,List.length_cons,List.length_nil]; omega) (by simp only [List.length_append,List.length_cons,List.length_nil]; omega) rfl (fun A53 c54 o55 s56 t57=>?_))
                refine rn ik 5 [] rfl (vl (ra (c:=((k2 + 1 : Nat) : Int)) rfl rfl rfl (by omega) (by omega) (by omega)) rfl (rn ik 2 [] rfl ?_))
                exact lpe (s:=(k2,refs,A_refs,c_refs,o_refs,s_refs)) (k2 + 1,(refs ++ [y42]),A53,c54,o55,s56) [0,3] ⟨⟨by omega,(take_snoc m43).symm ▸ by rw [← hinv2.2.1],uniq_step hinv2.2.2 m43 (by rw [← hinv2.2.1]; exact h49)⟩,by grind⟩ (by show (leafE t (wk t)).length - (k2 + 1) < (leafE t (wk t)).length - k2; omega) ⟨rfl,rfl,rfl,rfl,trivial⟩ rfl
            · refine r1_ ik 12 [0] rfl (decide_eq_false h36) (ret1 rfl rfl (fun w_ hs_=>⟨?_,hs_.below⟩))
              exact rb (right_t h4 h15 h16 h23 (fun j hj=>hids j (by omega)) (uniq_end hinv2.2.2 (by omega)))
        · refine r1_ ik 8 [1] rfl (not_t (Bool.eq_false_iff.2 h23)) (ret1 rfl rfl (fun w_ hs_=>⟨?_,hs_.below⟩))
          exact rb (right_4 h23)
    · refine rn ik 4 [1,3,0,2,3,4,0] rfl (q1 3 [0,0,0,0,0,0] rfl (by kernel_rfl) rfl (cs_ (v:=.bool (isUsed t.arena t.root)) (by kernel_rfl) rfl rfl rfl (fun w_ hs_=>by exact impl_Arena_isUsed w_ _ (hs_.at 2 rfl)) (qn (r4_ ik 6 [5,6,7,1,8,1,3,0,9,1,10,1,4,0] rfl (not_f h4) (not_f h4) (not_f h4) (not_f h4) (qg 10 rfl (ixz t.root.toNat (by omega) e8 rfl rfl rfl rfl rfl (by omega)) rfl rfl (not_f h4) (by kernel_rfl) (rp ik 22 [12,1,13,1,0,2,14,1,15,1,4,0,16,1,17,0,18,19,0,20,0,21,0,22,0,23,1,0,1] rfl ⟨rfl,⟨[0,0,0,0,0,0],rfl⟩,(bne_iff_ne.2 h15),(bne_iff_ne.2 h15),(bne_iff_ne.2 h15),(bne_iff_ne.2 h15),(bne_iff_ne.2 h15),(not_f h4),(not_f h4),(not_f h4),(not_f h4),(not_f h4),(not_f h4),⟨⟩⟩ (ret1 rfl rfl (fun w_ hs_=>⟨?_,hs_.below⟩))))))))
      exact rb (right_2 h15)
  · refine rn ik 4 [1,1,0,2,3,2,0] rfl (q1 3 [0,0,0,0] rfl (by kernel_rfl) rfl (cs_ (v:=.bool (isUsed t.arena t.root)) (by kernel_rfl) rfl rfl rfl (fun w_ hs_=>by exact impl_Arena_isUsed w_ _ (hs_.at 0 rfl)) (qn (rp ik 29 [5,6,7,0,8,0,9,0,10,0,11,0,12,0,13,0,14,0,15,0,16,0,17,1,18,19,0,20,0,21,0,22,0,23,1,0,1] rfl ⟨rfl,⟨[0,0,0,0],rfl⟩,rfl,rfl,rfl,rfl,rfl,(not_t (Bool.eq_false_iff.2 h4)),(not_t (Bool.eq_false_iff.2 h4)),(not_t (Bool.eq_false_iff.2 h4)),(not_t (Bool.eq_false_iff.2 h4)),(not_t (Bool.eq_false_iff.2 h4)),(not_t (Bool.eq_false_iff.2 h4)),(not_t (Bool.eq_false_iff.2 h4)),(not_t (Bool.eq_false_iff.2 h4)),(not_t (Bool.eq_false_iff.2 h4)),(not_t (Bool.eq_false_iff.2 h4)),(not_t (Bool.eq_false_iff.2 h4)),⟨⟩⟩ (ret1 rfl rfl (fun w_ hs_=>⟨?_,hs_.below⟩))))))
    exact rb (right_1 h4)
end Go.Proofs.YtjdkfibeogiekaaGreat.Sx
