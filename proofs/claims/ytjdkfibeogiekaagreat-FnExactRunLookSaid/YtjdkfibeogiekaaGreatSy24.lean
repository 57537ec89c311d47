/- What functions of the program answer, each at every input that its row names; walked through their code. -/
import Derived.Test.YtjdkfibeogiekaaGreatSy23
namespace Go.Proofs.YtjdkfibeogiekaaGreat.Sx
open Go Go.RowKit Go.Proofs
set_option linter.unusedVariables false
set_option linter.unusedSimpArgs false
set_option maxRecDepth 20000
set_option maxHeartbeats 2000000
variable {At2 At3 At4 : Option Addr} {ct2 ct3 ct4 : Nat} {st_ : List Nat} {pt : Addr}
def tab24 : Tab := { size := [(2, 1, false), (24, 1, false), (36, 1, false), (40, 4, true), (52, 4, true), (82, 2, true), (102, 4, true), (208, 3, true)], off := [((40, 1), 1), ((52, 0), 0), ((52, 1), 1), ((52, 3), 3), ((80, 0), 0), ((80, 1), 1), ((80, 2), 5), ((80, 3), 6), ((80, 4), 7), ((102, 0), 0), ((102, 1), 2), ((208, 0), 0)], elem := [(24, 102), (36, 52), (37, 2), (75, 208)] }
theorem tab_ok24 : tab24.check Tryz.prog = true:=by kernel_rfl
noncomputable abbrev X24 (N : Nat) (w : World) : Cx := ⟨Tryz.prog, tab24, tab_ok24, wide, N, w, none, []⟩

def pairOf (e : Entry) : Pair := ⟨e.ref, e.rect⟩
def leafP (t : Tree) (ids : List Int) : List Pair := (leafE t ids).map pairOf
theorem leafP_done {t : Tree} {ids : List Int} {k : Nat} {o : List Pair} {k2 : Nat} {y : Int} (h : o = leafP t (ids.take k) ++ (((nodeAt t.arena y).entries.take k2).map pairOf)) (hy : ids[k]? = some y) (hl : (nodeAt t.arena y).level = 0) (hk : (nodeAt t.arena y).entries.length ≤ k2) : o = leafP t (ids.take (k + 1)):=by
  rw [h,List.take_of_length_le hk]; unfold leafP; rw [leafE_snoc hy,List.map_append,leafOne,if_pos hl]
theorem leafP_skip {t : Tree} {ids : List Int} {k : Nat} {o : List Pair} {k2 : Nat} {y : Int} (h : o = leafP t (ids.take k) ++ (((nodeAt t.arena y).entries.take k2).map pairOf)) (hy : ids[k]? = some y) (hl : ¬ (nodeAt t.arena y).level = 0) (hk : (nodeAt t.arena y).level = 0 ∨ k2 = 0) : o = leafP t (ids.take (k + 1)):=by
  rcases hk with hk | hk
  · exact absurd hk hl
  · subst hk; rw [h]; unfold leafP; rw [leafE_snoc hy,List.map_append,leafOne,if_neg hl]; simp
theorem leafP_next {t : Tree} {ids : List Int} {k : Nat} {o : List Pair} {k2 : Nat} {y : Int} (h : o = leafP t (ids.take k) ++ (((nodeAt t.arena y).entries.take k2).map pairOf)) (hy : ids[k]? = some y) (hk : (nodeAt t.arena y).level = 0 ∨ k2 = 0) (he : (nodeAt t.arena y).level = 0 → (nodeAt t.arena y).entries.length ≤ k2) : o = leafP t (ids.take (k + 1)):=by
  rcases Decidable.em ((nodeAt t.arena y).level = 0) with hz | hz
  · exact leafP_done h hy hz (he hz)
  · exact leafP_skip h hy hz hk
theorem leafP_on {l : List Entry} {o q : List Pair} {k2 : Nat} {e : Entry} (h : o = q ++ ((l.take k2).map pairOf)) (he : l[k2]? = some e) : o ++ [pairOf e] = q ++ ((l.take (k2 + 1)).map pairOf):=by
  rw [h,take_snoc he,List.map_append,List.append_assoc]; rfl
theorem uniqP {l : List Entry} : Uniq Pair.id (l.map pairOf) ↔ Uniq Entry.ref l:=by
  unfold Uniq; rw [List.pairwise_map]; rfl
def shapeOf (t : Tree) : List Int := if treeRight t = true then wk t else []
theorem spec_l6Pairs (w : World) {t : Tree} (ht : (ptr kTreeS pt [.int .i64 t.style,.int .i64 t.arena.dims,.slice At2 t.arena.nodes.length ct2,.slice At3 t.arena.free.length ct3,.slice At4 t.arena.retired.length ct4,.int .i64 t.root,.int .i64 t.rootNsn,.int .i64 t.counter] t st_).P w) {Aids : Option Addr} {cids : Nat} {ids : List Int} {sids_ : List Nat} (hids : (Kd.sl Kd.i64).Rel w [.slice Aids ids.length cids] ids [] sids_) (hS : Sound t.arena) (hi : ∀ x ∈ ids,isPlace t.arena x = true) (hl : ids.length ≤ 40) : Calls Tryz.prog 284 #[.pointer (some pt),.slice Aids ids.length cids] w (Made (Kd.row 208 kPairS) w (leafP t ids) (st_)):=by
  have Lids:=Kd.sl_len hids; have Cids:=Kd.sl_cap hids
  have hwk : ∀ x ∈ ids,0 ≤ x ∧ x < (t.arena.nodes.length : Int):=fun x hx=>by (have z:=within_t (hi x hx); omega)
  refine fnc (X:=X24 63 w) (l:=[(0,.pointer (some pt)),(1,.slice Aids ids.length cids)]) Tryz.func284 rfl rfl rfl ⟨rfl,rfl,trivial⟩ (s0d hids (s0p ht (s0n w))).1 ?_
  refine rn ik 7 [] rfl (bs0 (dk:=kPairS) rfl info208 rfl rfl ?_)
  intro b1
  refine rn ik 10 [] rfl ?_
  refine lp (σ:=Nat × List Pair × Option Addr × Nat × List Nat × List Nat) (fun z_ : Nat × List Pair × Option Addr × Nat × List Nat × List Nat=>match z_ with | (k,out,A_out,c_out,o_out,s_out)=>[(0,.pointer (some pt)),(1,.slice Aids ids.length cids),(5,.slice A_out out.length c_out),(6,.int .i64 ((k : Nat) : Int))])
      (fun z_ : Nat × List Pair × Option Addr × Nat × List Nat × List Nat=>match z_ with | (k,out,A_out,c_out,o_out,s_out)=>[dat (Kd.row 208 kPairS) [.slice A_out out.length c_out] out o_out s_out,dat (Kd.sl Kd.i64) [.slice Aids ids.length cids] ids ([]) sids_,ptr kTreeS pt [.int .i64 t.style,.int .i64 t.arena.dims,.slice At2 t.arena.nodes.length ct2,.slice At3 t.arena.free.length ct3,.slice At4 t.arena.retired.length ct4,.int .i64 t.root,.int .i64 t.rootNsn,.int .i64 t.counter] t st_])
      (fun z_ : Nat × List Pair × Option Addr × Nat × List Nat × List Nat=>match z_ with | (k,out,A_out,c_out,o_out,s_out)=>(k ≤ ids.length ∧ out = leafP t (ids.take k) ∧ out.length ≤ 5 * k) ∧ (∀ q ∈ s_out,q ∈ st_ ∨ w.heap.size ≤ q)) (fun z_ : Nat × List Pair × Option Addr × Nat × List Nat × List Nat=>match z_ with | (k,out,A_out,c_out,o_out,s_out)=>ids.length - k) (0,[],(some ⟨b1,0,none⟩),0,[b1],[]) [0,0,0] ⟨⟨Nat.zero_le _,by simp [leafP,leafE],by simp⟩,by grind⟩ ⟨rfl,rfl,rfl,rfl,trivial⟩ rfl ?_
  rintro ⟨k,out,A_out,c_out,o_out,s_out⟩ hp_
  obtain ⟨hinv,hseeout⟩:=hp_
  refine rn ik 9 [] rfl ?_
  by_cases h2 : ((k : Nat) : Int) < ((ids.length : Nat) : Int)
  · refine r1_ ik 6 [1] rfl (decide_eq_true h2) ?_
    refine gx 1 k rfl (by first | omega | (have z:=hwk _ (List.mem_of_getElem? (by assumption)); omega)) fun y8 p3 cs_ s4 w7 m9 e5 r6 us4=>?_
    obtain ⟨rfl,-,-⟩:=r6
    refine gp 3 kTreeS_p2_1 rfl (cs':=[.slice At2 t.arena.nodes.length ct2]) rfl fun s10 w_ rs10 us10=>?_
    have Ls10:=Kd.sl_len rs10; have Cs10:=Kd.sl_cap rs10
    refine gx 0 y8.toNat rfl (by first | omega | (have z:=hwk _ (List.mem_of_getElem? (by assumption)); omega)) fun y16 p11 cs_ s12 w15 m17 e13 r14 us12=>?_
    obtain ⟨A18,c19,rfl⟩:=kNodeS_sh r14
    have ey16:=nodeAt_of m17; subst ey16
    have znn20:=(node_0 (hS.node _ (List.mem_of_getElem? m17))).2.2.2.1
    refine rn ik 4 [1,2,3] rfl (qv 3 rfl (fb rfl rfl rfl) rfl (by kernel_rfl) (rn ik 3 [5,5,3,6,7] rfl (qv 7 rfl (ix k e5 rfl rfl rfl rfl rfl (by first | omega | (have z:=hwk _ (List.mem_of_getElem? (by assumption)); omega))) rfl (by kernel_rfl) (qv 8 rfl (ldq (u:=.int .i64 y8) 2 rfl rfl rfl rfl rfl rfl rfl) rfl (by kernel_rfl) (qv 9 rfl (ixz y8.toNat (by first | omega | (have z:=hwk _ (List.mem_of_getElem? (by assumption)); omega)) e13 rfl rfl rfl rfl rfl (by first | omega | (have z:=hwk _ (List.mem_of_getElem? (by assumption)); omega))) rfl (by kernel_rfl) (r1_ ik 9 [11,0] rfl ⟨[0,0,0,0,0,0],rfl⟩ ?_))))))
    refine lp (σ:=Nat × List Pair × Option Addr × Nat × List Nat × List Nat) (fun z_ : Nat × List Pair × Option Addr × Nat × List Nat × List Nat=>match z_ with | (k2,out2,A_out2,c_out2,o_out2,s_out2)=>[(0,.pointer (some pt)),(1,.slice Aids ids.length cids),(5,.slice A_out2 out2.length c_out2),(6,.int .i64 ((k : Nat) : Int)),(7,.pointer (some p11)),(8,.int .i64 ((k2 : Nat) : Int))])
        (fun z_ : Nat × List Pair × Option Addr × Nat × List Nat × List Nat=>match z_ with | (k2,out2,A_out2,c_out2,o_out2,s_out2)=>[dat (Kd.row 208 kPairS) [.slice A_out2 out2.length c_out2] out2 o_out2 s_out2,ptr kNodeS p11 [.int .i64 ((nodeAt t.arena y8).level),.int .i64 ((nodeAt t.arena y8).nsn),.int .i64 ((nodeAt t.arena y8).right),.slice A18 ((nodeAt t.arena y8).entries.length) c19] (nodeAt t.arena y8) s12,dat (Kd.sl kNodeS) [.slice At2 t.arena.nodes.length ct2] t.arena.nodes ([]) s10,ptr Kd.i64 p3 [.int .i64 y8] y8 s4,dat (Kd.sl Kd.i64) [.slice Aids ids.length cids] ids ([]) sids_,ptr kTreeS pt [.int .i64 t.style,.int .i64 t.arena.dims,.slice At2 t.arena.nodes.length ct2,.slice At3 t.arena.free.length ct3,.slice At4 t.arena.retired.length ct4,.int .i64 t.root,.int .i64 t.rootNsn,.int .i64 t.counter] t st_])
        (fun z_ : Nat × List Pair × Option Addr × Nat × List Nat × List Nat=>match z_ with | (k2,out2,A_out2,c_out2,o_out2,s_out2)=>(k2 ≤ (nodeAt t.arena y8).entries.length ∧ out2 = leafP t (ids.take k) ++ (((nodeAt t.arena y8).entries.take k2).map pairOf) ∧ out2.length ≤ 5 * k + k2 ∧ ((nodeAt t.arena y8).level = 0 ∨ k2 = 0)) ∧ (∀ q ∈ s_out2,q ∈ st_ ∨ w.heap.size ≤ q)) (fun z_ : Nat × List Pair × Option Addr × Nat × List Nat × List Nat=>match z_ with | (k2,out2,A_out2,c_out2,o_out2,s_out2)=>(nodeAt t.arena y8).entries.length - k2) (0,out,A_out,c_out,o_out,s_out) [3,0,0,0,0,0] ⟨⟨Nat.zero_le _,by simpa using hinv.2.1,by omega,.inr rfl⟩,by grind⟩ ⟨rfl,rfl,rfl,rfl,rfl,rfl,trivial⟩ rfl ?_
    rintro ⟨k2,out2,A_out2,c_out2,o_out2,s_out2⟩ hp_
    obtain ⟨hinv2,hsee2out2⟩:=hp_
    refine rn ik 11 [1,4] rfl ?_
    by_cases h21 : ((k2 : Nat) : Int) < (((nodeAt t.arena y8).entries.length : Nat) : Int)
    · refine rp ik 8 [1,1,1,1,1,1,1,1] rfl ⟨(decide_eq_true h21),(decide_eq_true h21),(decide_eq_true h21),(decide_eq_true h21),(decide_eq_true h21),(decide_eq_true h21),⟨⟩⟩ ?_
      by_cases h22 : (nodeAt t.arena y8).level = (0 : Int)
      · refine r1_ ik 5 [1] rfl (beq_iff_eq.2 h22) ?_
        refine gp 1 kNodeS_p3_1 rfl (cs':=[.slice A18 ((nodeAt t.arena y8).entries.length) c19]) rfl fun s23 w_ rs23 us23=>?_
        have Ls23:=Kd.sl_len rs23; have Cs23:=Kd.sl_cap rs23
        refine gx 0 k2 rfl (by first | omega | (have z:=hwk _ (List.mem_of_getElem? (by assumption)); omega)) fun y29 p24 cs_ s25 w28 m30 e26 r27 us25=>?_
        obtain ⟨A31,c32,A33,c34,rfl⟩:=kEntryS_sh r27
        refine rd (Gq:=[ptr kEntryS p24 [.slice A31 y29.rect.low.length c32,.slice A33 y29.rect.high.length c34,.int .i64 y29.ref,.int .i64 y29.nsn] y29 s25,dat (Kd.sl kEntryS) [.slice A18 ((nodeAt t.arena y8).entries.length) c19] ((nodeAt t.arena y8).entries) ([]) s23,ptr kNodeS p11 [.int .i64 ((nodeAt t.arena y8).level),.int .i64 ((nodeAt t.arena y8).nsn),.int .i64 ((nodeAt t.arena y8).right),.slice A18 ((nodeAt t.arena y8).entries.length) c19] (nodeAt t.arena y8) s12,dat (Kd.sl kNodeS) [.slice At2 t.arena.nodes.length ct2] t.arena.nodes ([]) s10,ptr Kd.i64 p3 [.int .i64 y8] y8 s4,dat (Kd.sl Kd.i64) [.slice Aids ids.length cids] ids ([]) sids_,ptr kTreeS pt [.int .i64 t.style,.int .i64 t.arena.dims,.slice At2 t.arena.nodes.length ct2,.slice At3 t.arena.free.length ct3,.slice At4 t.arena.retired.length ct4,.int .i64 t.root,.int .i64 t.rootNsn,.int .i64 t.counter] t st_]) [0,0,1,1,1,1,1] rfl (rn ik 6 [1,2,3,4,5,2,4,6] rfl (qv 6 rfl (ix k2 e26 rfl rfl rfl rfl rfl (by first | omega | (have z:=hwk _ (List.mem_of_getElem? (by assumption)); omega))) rfl (by kernel_rfl) (rn ik 7 [8,9,0,3,10,11,12,13,2,4,14] rfl (qv 14 rfl (ix k2 e26 rfl rfl rfl rfl rfl (by first | omega | (have z:=hwk _ (List.mem_of_getElem? (by assumption)); omega))) rfl (by kernel_rfl) (rn ik 2 [16,17,0,1] rfl (qv 17 rfl (bd bld208 rfl rfl rfl) rfl (by kernel_rfl) (q1 18 [0,0,1,1,1,1,1] rfl (by kernel_rfl) rfl ?_)))))))
        refine gp 0 kEntryS_p0_2 rfl (cs':=[.slice A31 y29.rect.low.length c32,.slice A33 y29.rect.high.length c34]) rfl fun s36 w_ rs36 us36=>?_
        refine gs Kd.i64 [.int .i64 y29.ref] ((pairOf y29).id) (fun _=>⟨rfl,rfl,rfl⟩) (gj (da:=(Kd.via Kd.i64 Pair.id)) (db:=(Kd.via kRectS Pair.rect)) (x:=(pairOf y29)) rfl ?_)
        refine bs1 (dk:=kPairS) rfl info208 (by decide) rfl rfl rfl rfl ?_
        intro b35
        refine qn (q1 19 [1,1,2,2,2,2,2] rfl (by kernel_rfl) rfl ?_)
        refine f3 (ap (out2 ++ [(pairOf y29)]) rfl info208 rfl rfl (by decide) rfl rfl rfl rfl (by rw [List.length_append,List.length_cons,List.length_nil]; omega) (by rw [List.length_append,List.length_cons,List.length_nil]; omega) rfl (fun A37 c38 o39 s40 t41=>?_))
        refine qn (r1_ ik 6 [21,0] rfl ⟨[1,1,1,1,1,1,1],rfl⟩ (vl (ra (c:=((k2 + 1 : Nat) : Int)) rfl rfl rfl (by omega) (by omega) (by omega)) rfl (rn ik 2 [] rfl ?_)))
        exact lpe (s:=(k2,out2,A_out2,c_out2,o_out2,s_out2)) (k2 + 1,(out2 ++ [(pairOf y29)]),A37,c38,o39,s40) [0,2,2,2,2,2] ⟨⟨by omega,leafP_on hinv2.2.1 m30,by rw [List.length_append,List.length_cons,List.length_nil]; omega,.inl h22⟩,by grind⟩ (by show (nodeAt t.arena y8).entries.length - (k2 + 1) < (nodeAt t.arena y8).entries.length - k2; omega) ⟨rfl,rfl,rfl,rfl,rfl,rfl,trivial⟩ rfl
      · refine r1_ ik 9 [0] rfl (beq_eq_false_iff_ne.2 h22) (vl (ra (c:=((k + 1 : Nat) : Int)) rfl rfl rfl (by omega) (by omega) (by omega)) rfl (rn ik 2 [] rfl ?_))
        exact lpe (s:=(k,out,A_out,c_out,o_out,s_out)) (k + 1,out2,A_out2,c_out2,o_out2,s_out2) [0,3,3] ⟨⟨by omega,leafP_next hinv2.2.1 m9 hinv2.2.2.2 (fun hz=>absurd hz h22),by have z:=hinv2.2.2.1; omega⟩,by grind⟩ (by show ids.length - (k + 1) < ids.length - k; omega) ⟨rfl,rfl,rfl,rfl,trivial⟩ rfl
    · refine rp ik 17 [0,0,0,0,0,0,0] rfl ⟨rfl,(decide_eq_false h21),(decide_eq_false h21),(decide_eq_false h21),(decide_eq_false h21),(decide_eq_false h21),(decide_eq_false h21),⟨⟩⟩ (vl (ra (c:=((k + 1 : Nat) : Int)) rfl rfl rfl (by omega) (by omega) (by omega)) rfl (rn ik 2 [] rfl ?_))
      exact lpe (s:=(k,out,A_out,c_out,o_out,s_out)) (k + 1,out2,A_out2,c_out2,o_out2,s_out2) [0,3,3] ⟨⟨by omega,leafP_next hinv2.2.1 m9 hinv2.2.2.2 (fun _=>by omega),by have z:=hinv2.2.2.1; omega⟩,by grind⟩ (by show ids.length - (k + 1) < ids.length - k; omega) ⟨rfl,rfl,rfl,rfl,trivial⟩ rfl
  · exact r1_ ik 13 [0] rfl (decide_eq_false h2) (gr (leafP t ids) (by rw [hinv.2.1,List.take_of_length_le (by omega)]) (ret1 rfl rfl (fun w_ hs_=>made hs_ rfl (by grind))))
theorem uniqP_no {t : Tree} {k : Nat} {y : Pair} (hy : (leafP t (wk t))[k]? = some y) (h : ¬ idx (fun x=>x.id == y.id) (leafP t (wk t)) = (k : Int)) : ¬ Uniq Entry.ref (leafE t (wk t)):=fun hu=>uniq_no2 hy h (uniqP.2 hu)
theorem leafP_len {t : Tree} {ids : List Int} : (leafP t ids).length = (leafE t ids).length:=by simp [leafP]
theorem shape_f {t : Tree} (h : false = treeRight t) : [] = shapeOf t:=by unfold shapeOf; rw [← h]; rfl
theorem shape_t {t : Tree} (h : true = treeRight t) : wk t = shapeOf t:=by unfold shapeOf; rw [← h]; rfl
theorem spec_l6Shape (w : World) {t : Tree} (ht : (ptr kTreeS pt [.int .i64 t.style,.int .i64 t.arena.dims,.slice At2 t.arena.nodes.length ct2,.slice At3 t.arena.free.length ct3,.slice At4 t.arena.retired.length ct4,.int .i64 t.root,.int .i64 t.rootNsn,.int .i64 t.counter] t st_).P w) (hS : Sound t.arena) (hp : isPlace t.arena t.root = true) : Calls Tryz.prog 241 #[.pointer (some pt)] w (MadeT (Kd.row 2 Kd.i64) w (shapeOf t) [] (fun v_=>.tuple #[v_,.bool (treeRight t)])):=by
  have hq:=within_t hp; have hnl:=node_0 (hS.node _ (nodeAt_mem hp).1); have hll:=leaf_len hS hp; have hwk:=wk_at hp; have hsl:=hS.len; have hpl:=leafP_len (t:=t) (ids:=wk t)
  refine fnc (X:=X24 109 w) (l:=[(0,.pointer (some pt))]) Tryz.func241 rfl rfl rfl ⟨rfl,trivial⟩ (s0p ht (s0n w)).1 ?_
  refine rn ik 16 [] rfl ?_
  refine gq 0 kTreeS_p1_4 rfl (cs':=[.int .i64 t.arena.dims,.slice At2 t.arena.nodes.length ct2,.slice At3 t.arena.free.length ct3,.slice At4 t.arena.retired.length ct4]) rfl fun s1 w_ rs1 us1=>?_
  by_cases h2 : isUsed t.arena t.root = true
  · refine gp 0 kArenaS_p1_1 rfl (cs':=[.slice At2 t.arena.nodes.length ct2]) rfl fun s3 w_ rs3 us3=>?_
    have Ls3:=Kd.sl_len rs3; have Cs3:=Kd.sl_cap rs3
    refine gx 0 t.root.toNat rfl (by omega) fun y9 p4 cs_ s5 w8 m10 e6 r7 us5=>?_
    obtain ⟨A11,c12,rfl⟩:=kNodeS_sh r7
    have ey9:=nodeAt_of m10; subst ey9
    refine rn ik 6 [1,2,3,4,5,3,6] rfl (q1 5 [0,0,0,0] rfl (by kernel_rfl) rfl (cs_ (v:=.bool (isUsed t.arena t.root)) (by kernel_rfl) rfl rfl rfl (fun w_ hs_=>by exact spec_l6Used w_ _ (hs_.at 2 rfl)) (qn (r2_ ik 4 [7,8,9,1,10,1] rfl (not_f h2) (not_f h2) (qg 10 rfl (fb rfl rfl rfl) rfl rfl (not_f h2) (by kernel_rfl) (rp ik 5 [12,1,3,3,13,1,14,1,15,1,16,1,3,6] rfl ⟨(not_f h2),(not_f h2),(not_f h2),(not_f h2),(not_f h2),⟨⟩⟩ (qg 16 rfl (ixz t.root.toNat (by omega) e6 rfl rfl rfl rfl rfl (by omega)) rfl rfl (not_f h2) (by kernel_rfl) (rp ik 10 [18,1,19,1,0,2,20,1,21,1,22,1,23,1,3,7,24,1,25,0,0] rfl ⟨⟨[0,0,0,0],rfl⟩,(not_f h2),(not_f h2),(not_f h2),(not_f h2),(not_f h2),(not_f h2),(not_f h2),(not_f h2),⟨⟩⟩ ?_))))))))
    by_cases h13 : (nodeAt t.arena t.root).nsn = t.rootNsn
    · refine r1_ ik 10 [0] rfl (bne_eq_false_iff_eq.2 h13) ?_
      refine lp (σ:=Nat) (fun k0 : Nat=>[(0,.pointer (some pt)),(4,.pointer (some (pt.add 1))),(5,.int .i64 ((k0 : Nat) : Int))])
          (fun k0 : Nat=>[dat (Kd.sl kNodeS) [.slice At2 t.arena.nodes.length ct2] t.arena.nodes ([]) s3,ptr kTreeS pt [.int .i64 t.style,.int .i64 t.arena.dims,.slice At2 t.arena.nodes.length ct2,.slice At3 t.arena.free.length ct3,.slice At4 t.arena.retired.length ct4,.int .i64 t.root,.int .i64 t.rootNsn,.int .i64 t.counter] t st_])
          (fun k0 : Nat=>k0 ≤ t.arena.nodes.length ∧ ∀ j x,j < k0 → t.arena.nodes[j]? = some x → decide (t.counter < x.nsn) = false) (fun k0 : Nat=>t.arena.nodes.length - k0) 0 [1,2] ⟨Nat.zero_le _,by simp⟩ ⟨rfl,rfl,rfl,trivial⟩ rfl ?_
      intro k0 hp_
      obtain ⟨hkn,hcnt⟩:=hp_
      refine rn ik 6 [] rfl (vl (fb rfl rfl rfl) rfl (rn ik 5 [1,3] rfl ?_))
      by_cases h14 : ((k0 : Nat) : Int) < ((t.arena.nodes.length : Nat) : Int)
      · refine r1_ ik 6 [1] rfl (decide_eq_true h14) ?_
        refine gx 0 k0 rfl (by omega) fun y20 p15 cs_ s16 w19 m21 e17 r18 us16=>?_
        obtain ⟨A22,c23,rfl⟩:=kNodeS_sh r18
        refine rn ik 3 [1,2] rfl (qv 2 rfl (fb rfl rfl rfl) rfl (by kernel_rfl) (rn ik 2 [4,2,3,5] rfl (qv 5 rfl (ix k0 e17 rfl rfl rfl rfl rfl (by omega)) rfl (by kernel_rfl) (r1_ ik 9 [7,8,0,2,9,10,11,12,2,8,13,0] rfl ⟨[0,0,0],rfl⟩ ?_))))
        by_cases h24 : t.counter < y20.nsn
        · refine r1_ ik 13 [1] rfl (decide_eq_true h24) ?_
          have hw25 : false = treeRight t:=right_3 (any_some (p:=fun n=>decide (t.counter < n.nsn)) m21 (decide_eq_true h24))
          exact gs (Kd.row 2 Kd.i64) [.slice none 0 0] [] (fun _=>.inl ⟨rfl,rfl,rfl,rfl⟩) (gr (shapeOf t) (shape_f hw25) (ret2 rfl rfl rfl (fun w_ hs_=>madeT hs_ rfl (by rw [← hw25]; rfl) see_nil)))
        · exact r1_ ik 6 [0] rfl (decide_eq_false h24) (vl (ra (c:=((k0 + 1 : Nat) : Int)) rfl rfl rfl (by omega) (by omega) (by omega)) rfl (rn ik 2 [] rfl (lpe (s:=k0) (k0 + 1) [1,1] ⟨by omega,idx_step (p:=fun n : Node=>decide (t.counter < n.nsn)) hcnt m21 (decide_eq_false h24)⟩ (by omega) ⟨rfl,rfl,rfl,trivial⟩ rfl)))
      · refine r1_ ik 13 [0,1,6] rfl (decide_eq_false h14) (gs (Kd.row 2 Kd.i64) [.slice none 0 0] [] (fun _=>.inl ⟨rfl,rfl,rfl,rfl⟩) (coT (dk:=(Kd.row 2 Kd.i64)) (x:=(walkM t (nodeAt t.arena t.root).level.toNat t.root ([]))) (S:=([])) (f:=(fun v_=>.tuple #[v_,.bool ((walkF t (nodeAt t.arena t.root).level.toNat t.root ([])).isSome)])) (by kernel_rfl) rfl rfl rfl (snt 0 rfl) _ (fun _ hs_=>hs_.below.size) (fun w_ hs_=>(spec_l6Walk _) w_ _ ((hs_.pk [0,1] rfl).nl) hS hp (by simp) Met.nil (by omega)) (fun cs_ o28 s29 w_ r30 t31=>?_)))
        obtain ⟨A26,c27,rfl⟩:=Kd.row_sh r30
        refine rn ik 14 [] rfl ?_
        by_cases h32 : (walkF t (nodeAt t.arena t.root).level.toNat t.root ([])).isSome = true
        · refine r1_ ik 10 [0] rfl (not_f h32) (gr (wk t) rfl ?_)
          refine lp (σ:=Nat) (fun k : Nat=>[(0,.pointer (some pt)),(4,.pointer (some (pt.add 1))),(6,.slice A26 ((walkM t (nodeAt t.arena t.root).level.toNat t.root ([])).length) c27),(8,.int .i64 ((k : Nat) : Int))])
              (fun k : Nat=>[dat (Kd.row 2 Kd.i64) [.slice A26 ((walkM t (nodeAt t.arena t.root).level.toNat t.root ([])).length) c27] (wk t) o28 s29,dat (Kd.sl kNodeS) [.slice At2 t.arena.nodes.length ct2] t.arena.nodes ([]) s3,ptr kTreeS pt [.int .i64 t.style,.int .i64 t.arena.dims,.slice At2 t.arena.nodes.length ct2,.slice At3 t.arena.free.length ct3,.slice At4 t.arena.retired.length ct4,.int .i64 t.root,.int .i64 t.rootNsn,.int .i64 t.counter] t st_])
              (fun k : Nat=>k ≤ t.arena.nodes.length ∧ ∀ j : Nat,j < k → isUsed t.arena (j : Int) = true → (j : Int) ∈ wk t) (fun k : Nat=>t.arena.nodes.length - k) 0 [0,0,0] ⟨Nat.zero_le _,by simp⟩ ⟨rfl,rfl,rfl,rfl,trivial⟩ rfl ?_
          intro k hp_
          obtain ⟨hk,hids⟩:=hp_
          refine rn ik 6 [] rfl (vl (fb rfl rfl rfl) rfl (rn ik 5 [2,3] rfl ?_))
          by_cases h33 : ((k : Nat) : Int) < ((t.arena.nodes.length : Nat) : Int)
          · refine r1_ ik 9 [1] rfl (decide_eq_true h33) ?_
            refine gq 2 kTreeS_p1_4 rfl (cs':=[.int .i64 t.arena.dims,.slice At2 t.arena.nodes.length ct2,.slice At3 t.arena.free.length ct3,.slice At4 t.arena.retired.length ct4]) rfl fun s34 w_ rs34 us34=>?_
            refine cs_ (v:=.bool (isUsed t.arena ((k : Nat) : Int))) (by kernel_rfl) rfl rfl rfl (fun w_ hs_=>spec_l6Used w_ _ (hs_.at 0 rfl)) (m_ rfl rfl ?_)
            by_cases h35 : isUsed t.arena ((k : Nat) : Int) = true
            · refine r2_ ik 2 [1,1] rfl h35 h35 (gw rfl rfl h35 (cs_ (v:=.bool (decide (((k : Nat) : Int) ∈ (wk t)))) (by kernel_rfl) rfl rfl rfl (fun w_ hs_=>bor (Kd.Seals.row Kd.Seals.i64 _) (hs_.at 1 rfl) fun _ lb0_=>spec_l1Has w_ _ lb0_) (r2_ ik 4 [1,1] rfl h35 h35 ?_)))
              by_cases h36 : decide (((k : Nat) : Int) ∈ (wk t)) = true
              · exact r1_ ik 6 [0] rfl (not_f h36) (vl (ra (c:=((k + 1 : Nat) : Int)) rfl rfl rfl (by omega) (by omega) (by omega)) rfl (rn ik 2 [] rfl (lpe (s:=k) (k + 1) [1,1,1] ⟨by omega,met_step hids (fun _=>of_decide_eq_true h36)⟩ (by omega) ⟨rfl,rfl,rfl,rfl,trivial⟩ rfl)))
              · refine r1_ ik 13 [1] rfl (not_t (Bool.eq_false_iff.2 h36)) ?_
                have hw37 : false = treeRight t:=right_5 (by omega) h35 (of_decide_eq_false (Bool.eq_false_iff.2 h36))
                exact gs (Kd.row 2 Kd.i64) [.slice none 0 0] [] (fun _=>.inl ⟨rfl,rfl,rfl,rfl⟩) (gr (shapeOf t) (shape_f hw37) (ret2 rfl rfl rfl (fun w_ hs_=>madeT hs_ rfl (by rw [← hw37]; rfl) see_nil)))
            · exact rp ik 13 [0,0,0,0,0,0] rfl ⟨rfl,(Bool.eq_false_iff.2 h35),(Bool.eq_false_iff.2 h35),(Bool.eq_false_iff.2 h35),(Bool.eq_false_iff.2 h35),(Bool.eq_false_iff.2 h35),⟨⟩⟩ (vl (ra (c:=((k + 1 : Nat) : Int)) rfl rfl rfl (by omega) (by omega) (by omega)) rfl (rn ik 2 [] rfl (lpe (s:=k) (k + 1) [1,1,1] ⟨by omega,met_step hids (fun hu=>absurd hu h35)⟩ (by omega) ⟨rfl,rfl,rfl,rfl,trivial⟩ rfl)))
          · refine r1_ ik 10 [0] rfl (decide_eq_false h33) (cm_ (dk:=(Kd.row 208 kPairS)) (x:=(leafP t (wk t))) (S:=(st_)) (by kernel_rfl) rfl rfl rfl (snp 2 rfl) (fun w_ hs_=>bor (Kd.Seals.row Kd.Seals.i64 _) (hs_.at 0 rfl) fun _ lb0_=>spec_l6Pairs w_ (hs_.at 2 rfl) lb0_ hS (wk_met hp).2 hll.2) (fun cs_ o40 s41 w_ r42 t43=>?_))
            obtain ⟨A38,c39,rfl⟩:=Kd.row_sh r42
            refine rn ik 10 [] rfl (gl (Kd.Seals.row kPairS_self _) (fun s45 us45=>?_))
            refine lp (σ:=Nat) (fun k4 : Nat=>[(6,.slice A26 ((walkM t (nodeAt t.arena t.root).level.toNat t.root ([])).length) c27),(9,.slice A38 ((leafP t (wk t)).length) c39),(10,.int .i64 ((k4 : Nat) : Int))])
                (fun k4 : Nat=>[dat (Kd.sl kPairS) [.slice A38 ((leafP t (wk t)).length) c39] (leafP t (wk t)) ([]) s45,dat (Kd.row 2 Kd.i64) [.slice A26 ((walkM t (nodeAt t.arena t.root).level.toNat t.root ([])).length) c27] (wk t) o28 s29])
                (fun k4 : Nat=>k4 ≤ (leafP t (wk t)).length ∧ Uniq Pair.id ((leafP t (wk t)).take k4)) (fun k4 : Nat=>(leafP t (wk t)).length - k4) 0 [0,0] ⟨Nat.zero_le _,by simpa using Uniq.nil⟩ ⟨rfl,rfl,rfl,trivial⟩ rfl ?_
            intro k4 hp_
            obtain ⟨hk4,hinv4⟩:=hp_
            refine rn ik 9 [] rfl ?_
            by_cases h46 : ((k4 : Nat) : Int) < (((leafP t (wk t)).length : Nat) : Int)
            · refine r1_ ik 10 [1] rfl (decide_eq_true h46) ?_
              refine gx 0 k4 rfl (by omega) fun y52 p47 cs_ s48 w51 m53 e49 r50 us48=>?_
              obtain ⟨A54,c55,A56,c57,rfl⟩:=kPairS_sh r50
              refine vl (ix k4 e49 rfl rfl rfl rfl rfl (by omega)) rfl (rn ik 2 [0,1] rfl (cs_ (v:=.int .i64 (idx (fun (x0 : Pair)=>x0.id == y52.id) (leafP t (wk t)))) (by kernel_rfl) rfl rfl rfl (fun w_ hs_=>spec_l2At w_ _ (hs_.at 1 rfl)) (rn ik 4 [] rfl ?_)))
              by_cases h58 : (idx (fun (x0 : Pair)=>x0.id == y52.id) (leafP t (wk t))) = ((k4 : Nat) : Int)
              · exact r1_ ik 6 [0] rfl (bne_eq_false_iff_eq.2 h58) (vl (ra (c:=((k4 + 1 : Nat) : Int)) rfl rfl rfl (by omega) (by omega) (by omega)) rfl (rn ik 2 [] rfl (lpe (s:=k4) (k4 + 1) [1,1] ⟨by omega,uniq_step2 hinv4 m53 h58⟩ (by omega) ⟨rfl,rfl,rfl,trivial⟩ rfl)))
              · refine r1_ ik 13 [1] rfl (bne_iff_ne.2 h58) ?_
                have hw59 : false = treeRight t:=right_6 (uniqP_no m53 h58)
                exact gs (Kd.row 2 Kd.i64) [.slice none 0 0] [] (fun _=>.inl ⟨rfl,rfl,rfl,rfl⟩) (gr (shapeOf t) (shape_f hw59) (ret2 rfl rfl rfl (fun w_ hs_=>madeT hs_ rfl (by rw [← hw59]; rfl) see_nil)))
            · refine r1_ ik 14 [0] rfl (decide_eq_false h46) ?_
              have hw60 : true = treeRight t:=right_t h2 h13 (fun hz=>by have z:=any_none (p:=fun n : Node=>decide (t.counter < n.nsn)) hcnt (by omega); rw [z] at hz; cases hz) h32 (fun j hj=>hids j (by omega)) (uniqP.1 (uniq_end (l:=leafP t (wk t)) hinv4 (by omega)))
              exact f1 (gr (shapeOf t) (shape_t hw60) (ret2 rfl rfl rfl (fun w_ hs_=>madeT hs_ rfl (by rw [← hw60]; rfl) (by grind))))
        · refine r1_ ik 9 [1] rfl (not_t (Bool.eq_false_iff.2 h32)) ?_
          have hw61 : false = treeRight t:=right_4 h32
          exact gs (Kd.row 2 Kd.i64) [.slice none 0 0] [] (fun _=>.inl ⟨rfl,rfl,rfl,rfl⟩) (gr (shapeOf t) (shape_f hw61) (ret2 rfl rfl rfl (fun w_ hs_=>madeT hs_ rfl (by rw [← hw61]; rfl) see_nil)))
    · refine r1_ ik 9 [1] rfl (bne_iff_ne.2 h13) ?_
      have hw62 : false = treeRight t:=right_2 h13
      exact gs (Kd.row 2 Kd.i64) [.slice none 0 0] [] (fun _=>.inl ⟨rfl,rfl,rfl,rfl⟩) (gr (shapeOf t) (shape_f hw62) (ret2 rfl rfl rfl (fun w_ hs_=>madeT hs_ rfl (by rw [← hw62]; rfl) see_nil)))
  · refine rn ik 6 [1,2,3,4,5,1,6] rfl (q1 5 [0,0] rfl (by kernel_rfl) rfl (cs_ (v:=.bool (isUsed t.arena t.root)) (by kernel_rfl) rfl rfl rfl (fun w_ hs_=>by exact spec_l6Used w_ _ (hs_.at 0 rfl)) (qn (rp ik 30 [7,8,9,0,10,0,11,0,12,0,13,0,14,0,15,0,16,0,17,0,18,0,19,0,20,0,21,0,22,0,23,0,24,0,25,1,0,1] rfl ⟨rfl,⟨[0,0],rfl⟩,(not_t (Bool.eq_false_iff.2 h2)),(not_t (Bool.eq_false_iff.2 h2)),(not_t (Bool.eq_false_iff.2 h2)),(not_t (Bool.eq_false_iff.2 h2)),(not_t (Bool.eq_false_iff.2 h2)),(not_t (Bool.eq_false_iff.2 h2)),(not_t (Bool.eq_false_iff.2 h2)),(not_t (Bool.eq_false_iff.2 h2)),(not_t (Bool.eq_false_iff.2 h2)),(not_t (Bool.eq_false_iff.2 h2)),(not_t (Bool.eq_false_iff.2 h2)),(not_t (Bool.eq_false_iff.2 h2)),(not_t (Bool.eq_false_iff.2 h2)),(not_t (Bool.eq_false_iff.2 h2)),(not_t (Bool.eq_false_iff.2 h2)),(not_t (Bool.eq_false_iff.2 h2)),(not_t (Bool.eq_false_iff.2 h2)),⟨⟩⟩ ?_))))
    have hw63 : false = treeRight t:=right_1 h2
    exact gs (Kd.row 2 Kd.i64) [.slice none 0 0] [] (fun _=>.inl ⟨rfl,rfl,rfl,rfl⟩) (gr (shapeOf t) (shape_f hw63) (ret2 rfl rfl rfl (fun w_ hs_=>madeT hs_ rfl (by rw [← hw63]; rfl) see_nil)))
theorem style_in {s : Int} : within s 0 1 = isStyle s:=by
  unfold within isStyle; rw [Bool.eq_iff_iff]; simp only [Bool.and_eq_true,Bool.or_eq_true,decide_eq_true_eq,beq_iff_eq]; omega
theorem spec_TreeFault (w : World) {t : Tree} (ht : kTreeS.Rel w [.int .i64 t.style,.int .i64 t.arena.dims,.slice At2 t.arena.nodes.length ct2,.slice At3 t.arena.free.length ct3,.slice At4 t.arena.retired.length ct4,.int .i64 t.root,.int .i64 t.rootNsn,.int .i64 t.counter] t [] st_)  : Calls Tryz.prog 176 #[.agg #[.int .i64 t.style,.int .i64 t.arena.dims,.slice At2 t.arena.nodes.length ct2,.slice At3 t.arena.free.length ct3,.slice At4 t.arena.retired.length ct4,.int .i64 t.root,.int .i64 t.rootNsn,.int .i64 t.counter]] w (fun e_ w2_=>e_ = .returned (.int .i64 (treeFault t)) ∧ Below w.heap.size w w2_):=by
  refine fnc (X:=X24 41 w) (l:=[(0,.agg #[.int .i64 t.style,.int .i64 t.arena.dims,.slice At2 t.arena.nodes.length ct2,.slice At3 t.arena.free.length ct3,.slice At4 t.arena.retired.length ct4,.int .i64 t.root,.int .i64 t.rootNsn,.int .i64 t.counter])]) Tryz.func176 rfl rfl rfl ⟨rfl,trivial⟩ (s0d ht (s0n w)).1 ?_
  refine sq (rg (bx rfl rfl rfl rfl ?_))
  intro b1
  refine rn ik 8 [0,0] rfl ?_
  refine gd 1 kTreeS_p1_4 rfl (cs':=[.int .i64 t.arena.dims,.slice At2 t.arena.nodes.length ct2,.slice At3 t.arena.free.length ct3,.slice At4 t.arena.retired.length ct4]) rfl fun s2 w_ rs2 us2=>?_
  refine cs_ (v:=.int .i64 (arenaFault t.arena)) (by kernel_rfl) rfl rfl rfl (fun w_ hs_=>spec_ArenaFault w_ (hs_.at 0 rfl)) (rn ik 9 [] rfl ?_)
  by_cases h3 : (arenaFault t.arena) = (0 : Int)
  · refine r1_ ik 8 [0,1,0] rfl (bne_eq_false_iff_eq.2 h3) ?_
    refine cs_ (v:=.bool (within t.style 0 1)) (by kernel_rfl) rfl rfl rfl (fun w_ hs_=>spec_l1In w_ _ _ _) (rn ik 2 [] rfl ?_)
    by_cases h4 : within t.style 0 1 = true
    · refine r3_ ik 3 [1,1,1,1,0] rfl (not_f h4) (not_f h4) (not_f h4) (gw rfl rfl (not_f h4) ?_)
      refine cs_ (v:=.bool (isPlace t.arena t.root)) (by kernel_rfl) rfl rfl rfl (fun w_ hs_=>spec_l4Place w_ _ (ptr_blk (hs_.at 1 rfl) (hs_.at 0 rfl) rfl)) (r2_ ik 3 [1,0] rfl (not_f h4) (not_f h4) ?_)
      by_cases h5 : isPlace t.arena t.root = true
      · refine r2_ ik 2 [1,1,1,0] rfl (not_f h5) (not_f h5) (gw rfl rfl (not_f h5) ?_)
        refine cs_ (v:=.bool (within t.rootNsn 0 100000)) (by kernel_rfl) rfl rfl rfl (fun w_ hs_=>spec_l1In w_ _ _ _) (r2_ ik 3 [1,0] rfl (not_f h5) (not_f h5) ?_)
        by_cases h6 : within t.rootNsn 0 100000 = true
        · refine r2_ ik 2 [1,1,1,0] rfl (not_f h6) (not_f h6) (gw rfl rfl (not_f h6) ?_)
          refine cs_ (v:=.bool (within t.counter 0 100000)) (by kernel_rfl) rfl rfl rfl (fun w_ hs_=>spec_l1In w_ _ _ _) (r2_ ik 4 [1,0] rfl (not_f h6) (not_f h6) ?_)
          by_cases h7 : within t.counter 0 100000 = true
          · refine r1_ ik 6 [0] rfl (not_f h7) (cmT (dk:=(Kd.row 2 Kd.i64)) (x:=(shapeOf t)) (S:=[]) (f:=(fun v_=>.tuple #[v_,.bool (treeRight t)])) (by kernel_rfl) rfl rfl rfl sn0 (fun w_ hs_=>spec_l6Shape w_ (ptr_blk (hs_.at 1 rfl) (hs_.at 2 rfl) rfl) (arena_0 h3) h5) (fun cs_ o10 s11 w_ r12 t13=>?_))
            obtain ⟨A8,c9,rfl⟩:=Kd.row_sh r12
            refine rn ik 13 [] rfl ?_
            by_cases h15 : treeRight t = true
            · refine r1_ ik 9 [0] rfl (not_f h15) (ret1 rfl rfl (fun w_ hs_=>⟨?_,hs_.below⟩))
              exact ri (by have z:=style_in (s:=t.style); grind [treeFault])
            · refine r1_ ik 8 [1] rfl (not_t (Bool.eq_false_iff.2 h15)) (ret1 rfl rfl (fun w_ hs_=>⟨?_,hs_.below⟩))
              exact ri (by have z:=style_in (s:=t.style); grind [treeFault])
          · refine r1_ ik 8 [1] rfl (not_t (Bool.eq_false_iff.2 h7)) (ret1 rfl rfl (fun w_ hs_=>⟨?_,hs_.below⟩))
            exact ri (by have z:=style_in (s:=t.style); grind [treeFault])
        · refine rp ik 15 [0,0,0,0,1,1] rfl ⟨rfl,(not_t (Bool.eq_false_iff.2 h6)),(not_t (Bool.eq_false_iff.2 h6)),(not_t (Bool.eq_false_iff.2 h6)),(not_t (Bool.eq_false_iff.2 h6)),(not_t (Bool.eq_false_iff.2 h6)),⟨⟩⟩ (ret1 rfl rfl (fun w_ hs_=>⟨?_,hs_.below⟩))
          exact ri (by have z:=style_in (s:=t.style); grind [treeFault])
      · refine rp ik 21 [0,0,0,0,1,0,0,0,0,1,1] rfl ⟨rfl,rfl,rfl,rfl,rfl,rfl,(not_t (Bool.eq_false_iff.2 h5)),(not_t (Bool.eq_false_iff.2 h5)),(not_t (Bool.eq_false_iff.2 h5)),(not_t (Bool.eq_false_iff.2 h5)),(not_t (Bool.eq_false_iff.2 h5)),⟨⟩⟩ (ret1 rfl rfl (fun w_ hs_=>⟨?_,hs_.below⟩))
        exact ri (by have z:=style_in (s:=t.style); grind [treeFault])
    · refine rp ik 28 [0,0,0,0,0,1,0,0,0,0,1,0,0,0,0,1,1] rfl ⟨rfl,rfl,rfl,rfl,rfl,rfl,rfl,rfl,rfl,rfl,rfl,(not_t (Bool.eq_false_iff.2 h4)),(not_t (Bool.eq_false_iff.2 h4)),(not_t (Bool.eq_false_iff.2 h4)),(not_t (Bool.eq_false_iff.2 h4)),(not_t (Bool.eq_false_iff.2 h4)),(not_t (Bool.eq_false_iff.2 h4)),⟨⟩⟩ (ret1 rfl rfl (fun w_ hs_=>⟨?_,hs_.below⟩))
      exact ri (by have z:=style_in (s:=t.style); grind [treeFault])
  · refine r1_ ik 9 [1] rfl (bne_iff_ne.2 h3) (ret1 rfl rfl (fun w_ hs_=>⟨?_,hs_.below⟩))
    exact ri (by have z:=style_in (s:=t.style); grind [treeFault])
end Go.Proofs.YtjdkfibeogiekaaGreat.Sx
