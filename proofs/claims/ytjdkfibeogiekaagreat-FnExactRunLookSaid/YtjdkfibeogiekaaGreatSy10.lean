/- What functions of the program answer, each at every input that its row names; walked through their code. -/
import Derived.Test.YtjdkfibeogiekaaGreatSy9
import Derived.Shelf.SlSortCmp.NoneTotal
import Derived.Lib.QuietBelow
namespace Go.Proofs.YtjdkfibeogiekaaGreat.Sx
open Go Go.RowKit Go.Proofs
set_option linter.unusedVariables false
set_option linter.unusedSimpArgs false
set_option maxRecDepth 20000
set_option maxHeartbeats 2000000
variable {Aa1 Aa2 Ab1 Ab2 Ap : Option Addr} {ca1 ca2 cb1 cb2 cp : Nat} {sa_ sb_ sp_ : List Nat}
def tab10 : Tab := { size := [(2, 1, false), (3, 1, false), (37, 1, false), (82, 2, true)], off := [((208, 0), 0), ((208, 1), 1)], elem := [(235, 3)] }
theorem tab_ok10 : tab10.check Tryz.prog = true:=by kernel_rfl
noncomputable abbrev X10 (N : Nat) (w : World) : Cx := ⟨Tryz.prog, tab10, tab_ok10, wide, N, w, none, []⟩
theorem info3 : (Tryz.prog.info? 3).map (fun i=>(i.zero,i.size,i.bytes)) = some (some (.int .i64 0),1,8):=by kernel_rfl


section
section
variable {α : Type}
theorem Kd.Elems.flat {db : Kd α} {w : World} {cs : List Value} {ts : List (Tg α)} {oo ss : List Nat} (h : Kd.Elems db.tag w cs ts oo ss) : cs = ts.flatMap (·.2.1):=by
  induction h with
  | nil=>rfl
  | cons hr he ih=>rw [List.flatMap_cons,← ih,hr.1]
theorem Kd.Elems.each {db : Kd α} (hp : db.Pure) {w : World} {cs : List Value} {ts : List (Tg α)} {oo ss : List Nat} (h : Kd.Elems db.tag w cs ts oo ss) : ∀ t ∈ ts,∃ s,db.Rel w t.2.1 t.1 [] s ∧ ∀ b ∈ s,b ∈ ss:=by
  induction h with
  | nil=>simp
  | @cons c cs x xs o o' s s' hr he ih =>
    intro t ht
    rcases List.mem_cons.1 ht with rfl | ht
    · obtain ⟨rfl,hr⟩:=hr
      have : o = []:=hp _ _ _ _ _ hr
      subst this
      exact ⟨s,hr,fun b hb=>List.mem_append_left _ hb⟩
    · obtain ⟨s1,h1,h2⟩:=ih t ht
      exact ⟨s1,h1,fun b hb=>List.mem_append_right _ (h2 b hb)⟩
theorem Kd.Elems.ofEach {db : Kd α} {w : World} {S : List Nat} : ∀ (ts : List (Tg α)),(∀ t ∈ ts,∃ s,db.Rel w t.2.1 t.1 [] s ∧ ∀ b ∈ s,b ∈ S) → ∃ ss,(∀ b ∈ ss,b ∈ S) ∧ Kd.Elems db.tag w (ts.flatMap (·.2.1)) ts [] ss
  | [],_=>⟨[],by simp,.nil⟩
  | t :: ts,h=>by
    obtain ⟨s,h1,h2⟩:=h t (by simp)
    obtain ⟨ss,h3,h4⟩:=Kd.Elems.ofEach ts (fun t ht=>h t (List.mem_cons_of_mem _ ht))
    refine ⟨s ++ ss,fun b hb=>(List.mem_append.1 hb).elim (h2 b) (h3 b),?_⟩
    rw [List.flatMap_cons]
    exact Kd.Elems.cons (d:=db.tag) (o:=[]) (o':=[]) ⟨rfl,h1⟩ h4
theorem flat_get {β : Type} {enc : β → List Value} {k : Nat} (h0 : 0 < k) : ∀ (l : List β) (t : Nat),(∀ x ∈ l,(enc x).length = k) → (l.flatMap enc)[t]? = (l[t / k]?).bind (fun x=>(enc x)[t % k]?)
  | [],t,_=>by simp
  | x :: l,t,hk=>by
    have hx:=hk x (by simp)
    rw [List.flatMap_cons]
    by_cases h : t < k
    · rw [List.getElem?_append_left (by omega),Nat.div_eq_of_lt h,Nat.mod_eq_of_lt h]; rfl
    · rw [List.getElem?_append_right (by omega),hx,flat_get h0 l (t - k) (fun y hy=>hk y (List.mem_cons_of_mem _ hy))]
      have h1 : t / k = (t - k) / k + 1:=Nat.div_eq_sub_div h0 (by omega)
      rw [h1,List.getElem?_cons_succ,Nat.mod_eq_sub_mod (by omega : t ≥ k)]
theorem flat_len {β : Type} {enc : β → List Value} {k : Nat} : ∀ (l : List β),(∀ x ∈ l,(enc x).length = k) → (l.flatMap enc).length = l.length * k
  | [],_=>by simp
  | x :: l,h=>by rw [List.flatMap_cons,List.length_append,flat_len l (fun y hy=>h y (List.mem_cons_of_mem _ hy)),h x (by simp),List.length_cons,Nat.add_mul]; omega
theorem flatK_list {β : Type} [Inhabited β] {enc : β → List Value} {k : Nat} (h0 : 0 < k) (hk : ∀ x,(enc x).length = k) (l : List β) : Sort.flatK enc k l.toArray = (l.flatMap enc).toArray:=by
  have hl:=flat_len (enc:=enc) (k:=k) l (fun x _=>hk x)
  refine Sort.ext_get! (by simp [hl]) fun t ht=>?_
  have ht' : t < l.length * k:=by simpa using ht
  rw [Sort.get_flatK enc k l.toArray t (by simpa using ht')]
  have hd : t / k < l.length:=by rw [Nat.div_lt_iff_lt_mul h0]; exact ht'
  have hm : t % k < k:=Nat.mod_lt _ h0
  have h2:=flat_get (enc:=enc) h0 l t (fun x _=>hk x)
  have h3 : l[t / k]? = some l[t / k]:=List.getElem?_eq_getElem hd
  have h4 : (enc l[t / k])[t % k]? = some ((enc l[t / k])[t % k]'(by rw [hk]; exact hm)):=List.getElem?_eq_getElem _
  rw [h3,Option.bind_some,h4] at h2
  have e1 : l.toArray[t / k]! = l[t / k]:=by simp [hd]
  rw [e1]
  simp only [List.getElem!_eq_getElem?_getD,List.getElem!_toArray,h4,h2,Option.getD_some]
end
open Go.Shelf Go.Lib Go.Proofs
theorem enters_kit {P : Program} {f : FuncId} (h : enters P f = true) : ∀ args w,(callFunc f args).run P w = .ok (.enter f args) w:=by
  obtain ⟨fn,h1,h2,h3⟩:=enters_spec h
  obtain ⟨c,hc⟩:=Option.isSome_iff_exists.1 h2
  exact enters_of h1 h3 hc
theorem sortWorld_heap {β : Type} (enc : β → List Value) (k : Nat) (w : World) (b m : Nat) (d : Array β) [Inhabited β] (os : Array Obj) (q : Nat) (hq : q < w.heap.size) (hne : q ≠ b) : (sortWorldK enc k w b 0 m d os).heap[q]? = w.heap[q]?:=by
  unfold sortWorldK Sort.grow Sort.putRowK Sort.putRow Sort.mapBlock Sort.ahead
  simp only
  rw [Array.getElem?_append_left (by simpa using hq),Array.getElem?_modify,if_neg (fun e=>hne e.symm)]
theorem sortWorld_row {β : Type} (enc : β → List Value) (k : Nat) (w : World) (b m : Nat) (d : Array β) [Inhabited β] (os : Array Obj) {cur : Array Value} {e : TypeId} (hb : w.heap[b]? = some (.cells cur e (0,0))) : (sortWorldK enc k w b 0 m d os).heap[b]? = some (.cells (Sort.putCells id 0 (Sort.flatK enc k d) cur) e (0,0)):=by
  have hlt : b < w.heap.size:=(Array.getElem?_eq_some_iff.1 hb).1
  unfold sortWorldK Sort.grow Sort.putRowK Sort.putRow Sort.mapBlock Sort.ahead
  simp only
  rw [Array.getElem?_append_left (by simpa using hlt),Array.getElem?_modify,if_pos rfl,hb]
  rfl
theorem sortWorld_mod {β : Type} (enc : β → List Value) (k : Nat) (w : World) (b m : Nat) (d : Array β) [Inhabited β] (os : Array Obj) : Mod w (sortWorldK enc k w b 0 m d os) [b] :=
  ⟨rfl,rfl,rfl,by simp [sortWorldK,Sort.grow,Sort.putRowK,Sort.ahead],fun q hq hn=>sortWorld_heap enc k w b m d os q hq (by simpa using hn),by simp [sortWorldK,Sort.grow,Sort.putRowK,Sort.ahead]⟩
theorem put_take {F cur : Array Value} (h : F.size ≤ cur.size) : (Sort.putCells id 0 F cur).toList.take F.size = F.toList:=by
  refine List.ext_getElem? fun t=>?_
  rw [List.getElem?_take]
  by_cases ht : t < F.size
  · rw [if_pos ht]
    have h1 : t < cur.size:=by omega
    simp [Sort.putCells,h1,ht]
  · rw [if_neg ht]
    simp; omega
theorem grown_of {w w' : World} (h : Below w.heap.size w w') : ∃ q os',w' = Sort.grow (w.drewN q) os':=by
  obtain ⟨p,hp⟩:=regrown_of_below h.old
  have hd : w.drawn ≤ p.d:=by have:=h.dn; rw [hp] at this; simpa [Sort.grow,redrawn] using this
  refine ⟨p.d - w.drawn,p.os,?_⟩
  rw [hp]
  unfold redrawn World.drewN
  rw [Nat.add_sub_cancel' hd]
theorem sort_tag {P : Program} {ρ : Ren} {α : Type} (L : SlLaysF0.n6 P ρ) (db : Kd α) (hpu : db.Pure) (aE : ∀ w,(isAgg (ρ.t 24)).run P w = .ok true w) (zE : ∀ w,(Go.sizeOf (ρ.t 24)).run P w = .ok db.sz w) (hz : 0 < db.sz) {e : TypeId} (w : World) (cf : α → α → Int) {g : FuncId} {cb : List Value} (hE : enters P g = true) (hO : Sort.SWO (ltOf cf)) {A : Option Addr} {c : Nat} {ts : List (Tg α)} {o s : List Nat}
    (hst : St (nul w) w [dat (Kd.row e db.tag) [.slice A ts.length c] ts o s]) (hu : ∀ x ∈ ts,∀ y ∈ ts,ltOf cf x.1 y.1 = false → ltOf cf y.1 x.1 = false → x = y) (hsm : ts.length < 1000000)
    (hf : ∀ (w1 : World) (x0 x1 : Tg α),x0 ∈ ts → x1 ∈ ts → Mod w w1 o → ∀ s0 s1,db.Rel w1 x0.2.1 x0.1 [] s0 → db.Rel w1 x1.2.1 x1.1 [] s1 → Calls P g (([.agg x0.2.1.toArray,.agg x1.2.1.toArray] : List Value) ++ cb).toArray w1 (fun e w2=>e = .returned (.int .i64 (cf x0.1 x1.1)) ∧ Below w1.heap.size w1 w2)) :
    Calls P (ρ.f 6) #[.slice A ts.length c,.func (.func g) #[] cb.toArray] w (TurnO (Kd.row e db.tag) [.slice A ts.length c] (.tuple #[]) w o (ts.mergeSort (fun x y=>!ltOf cf y.1 x.1)) s):=by
  have hr : (Kd.row e db.tag).Rel w [.slice A ts.length c] ts o s:=hst.at 0 rfl
  have hu0 : o.Nodup ∧ ∀ b ∈ o,b ∉ s:=hst.uniq _ (List.mem_cons_self ..)
  have hl : ∀ b,b ∈ o ∨ b ∈ s → b < w.heap.size:=fun b hb=>(Kd.row e db.tag).lt hr b hb
  rcases hr with ⟨rfl,rfl,rfl,hc⟩ | ⟨b,c',cur,o',hc,rfl,hb,h1,h2,h3,he⟩
  · refine (AnyF.slices_SortFunc_none L A c _ w).mono ?_
    rintro en w' ⟨rfl,rfl⟩
    refine ⟨rfl,[],[],.refl _ _,fun B hB=>?_,fun B hB b hb=>?_,fun B hB b hb=>?_,fun B hB=>?_,by simp⟩
    · simp at hB; subst hB; exact .inl ⟨by simp,rfl,rfl,hc⟩
    · simp at hB; subst hB; simp [dat] at hb
    · simp at hB; subst hB; simp [dat] at hb
    · simp at hB; subst hB; exact ⟨by simp [dat],by simp [dat]⟩
  · have ho' : o' = []:=Kd.Elems.pure hpu.tag he
    subst ho'
    by_cases hnil : ts = []
    · subst hnil
      refine (AnyF.slices_SortFunc_none L A c _ w).mono ?_
      rintro en w' ⟨rfl,rfl⟩
      have hP : (Kd.row e db.tag).Rel w' [.slice A (([] : List (Tg α)).length) c] [] [b] s:=.inr ⟨b,c',cur,[],hc,rfl,hb,h1,h2,h3,he⟩
      refine ⟨rfl,[b],s,.refl _ _,fun B hB=>?_,fun B hB q hq=>?_,fun B hB q hq=>?_,fun B hB=>?_,by simp⟩
      · simp at hB; subst hB; simpa [dat] using hP
      · simp at hB; subst hB; exact .inl hq
      · simp at hB; subst hB; exact .inl hq
      · simp at hB; subst hB; exact hu0
    · obtain ⟨t0,ht0⟩ : ∃ t,t ∈ ts:=by cases ts with | nil=>exact absurd rfl hnil | cons t r=>exact ⟨t,by simp⟩
      haveI : Inhabited {t // t ∈ ts}:=⟨⟨t0,ht0⟩⟩
      obtain ⟨rfl,rfl⟩ : A = some ⟨b,0,none⟩ ∧ c = c':=by simpa using hc
      have hsz : db.tag.sz = db.sz:=rfl
      have hR:=he.each hpu
      have hflat:=he.flat
      let enc : {t // t ∈ ts} → List Value:=fun x=>x.1.2.1
      have hk : ∀ x,(enc x).length = db.sz:=fun x=>by obtain ⟨s1,h,-⟩:=hR x.1 x.2; exact db.len h
      have hone : ∀ x,∀ v ∈ enc x,v.oneCell' = true:=fun x=>by obtain ⟨s1,h,-⟩:=hR x.1 x.2; exact db.one h
      have hfl : ts.attach.flatMap enc = ts.flatMap (·.2.1):=by
        rw [List.flatMap_def,List.flatMap_def]; congr 1; exact List.attach_map_val (l:=ts) (f:=fun t=>t.2.1)
      have hF : Sort.flatK enc db.sz ts.attach.toArray = (ts.flatMap (·.2.1)).toArray:=by rw [flatK_list hz hk,hfl]
      have hH : Sort.HoldsK enc db.sz w b 0 ts.attach.toArray:=by
        intro j hj
        rw [hF] at hj ⊢
        have hj' : j < (ts.flatMap (·.2.1)).length:=by simpa using hj
        have e1 : (ts.flatMap (·.2.1))[j]? = cur[j]?:=by
          rw [← hflat,List.getElem?_take,if_pos]
          · simp
          · rw [← hflat] at hj'; simp at hj'; omega
        refine ⟨?_,by simp [World.frozen?,hb]⟩
        simp only [World.cell?,hb,Nat.zero_add]
        rw [← e1,List.getElem?_eq_getElem hj']
        simp [hj',List.getElem?_eq_getElem hj']
      have hcmp : CmpLays P g cb.toArray enc db.sz (fun x y=>cf x.1.1 y.1.1) b 0 ts.attach.toArray.size w:=by
        intro m os dk hdk x y
        have hm:=sortWorld_mod enc db.sz w b m dk os
        have keepR : ∀ t ∈ ts,∃ s1,db.Rel (sortWorldK enc db.sz w b 0 m dk os) t.2.1 t.1 [] s1:=fun t ht=>by
          obtain ⟨s1,h,hs1⟩:=hR t ht
          exact ⟨s1,db.keep (fun q hq=>by cases hq) (fun q hq=>hm.block q (hl q (.inr (hs1 q hq))) (fun hx=>hu0.2 q (by simpa using hx) (hs1 q hq))) h⟩
        obtain ⟨s0,hs0⟩:=keepR x.1 x.2
        obtain ⟨s1,hs1⟩:=keepR y.1 y.2
        have hcall:=hf _ x.1 y.1 x.2 y.2 hm s0 s1 hs0 hs1
        have ea : ((#[.agg (enc x).toArray,.agg (enc y).toArray] : Array Value) ++ cb.toArray) = (([.agg x.1.2.1.toArray,.agg y.1.2.1.toArray] : List Value) ++ cb).toArray:=by simp [enc]
        rw [ea]
        exact hcall.mono fun _ _ ⟨he1,hb1⟩=>⟨he1,grown_of hb1⟩
      have hO' : Sort.SWO (ltOf (fun x y : {t // t ∈ ts}=>cf x.1.1 y.1.1)):=⟨fun x=>hO.irrefl x.1.1,fun x y z=>hO.trans x.1.1 y.1.1 z.1.1,fun x y z=>hO.ntrans x.1.1 y.1.1 z.1.1⟩
      have hblk : b < w.heap.size:=hl b (.inl (by simp))
      have hsort:=AnyQ.slices_SortFunc_total L db.sz aE zE enc hk hone (fun x y=>cf x.1.1 y.1.1) hO' g cb.toArray b 0 c ts.attach.toArray w (enters_kit hE) hcmp hH hblk (by simp; omega) (fun x y hxy hyx=>Subtype.ext (hu x.1 x.2 y.1 y.2 hxy hyx))
      have esz : ts.attach.toArray.size = ts.length:=by simp
      rw [esz] at hsort
      refine hsort.mono ?_
      rintro en w' ⟨rfl,n,os,rfl⟩
      generalize hd : (ts.attach.toArray.toList.mergeSort fun x y=>!(ltOf (fun x y : {t // t ∈ ts}=>cf x.1.1 y.1.1)) y x) = d'
      have hperm : d'.Perm ts.attach:=by rw [← hd]; simpa using List.mergeSort_perm _ _
      have hlen : d'.length = ts.length:=by rw [hperm.length_eq,List.length_attach]
      have hval : d'.map (·.1) = ts.mergeSort (fun x y=>!ltOf cf y.1 x.1):=by
        rw [← hd]
        have:=List.map_mergeSort (r:=fun x y=>!(ltOf (fun x y : {t // t ∈ ts}=>cf x.1.1 y.1.1)) y x) (s:=fun x y=>!ltOf cf y.1 x.1) (f:=fun x : {t // t ∈ ts}=>x.1) (l:=ts.attach) (fun a _ b _=>rfl)
        rw [this,show ts.attach.map (fun x=>x.1) = ts from by simpa using List.attach_map_val (l:=ts) (f:=fun t=>t)]
      have hm:=sortWorld_mod enc db.sz w b n d'.toArray os
      have hrow:=sortWorld_row enc db.sz w b n d'.toArray os hb
      have hF2 : Sort.flatK enc db.sz d'.toArray = ((d'.map (·.1)).flatMap (·.2.1)).toArray:=by rw [flatK_list hz hk]; congr 1; simp [List.flatMap_map,enc]
      obtain ⟨ss,hss,hel⟩:=Kd.Elems.ofEach (db:=db) (w:=sortWorldK enc db.sz w b 0 n d'.toArray os) (S:=s) (d'.map (·.1)) (fun t ht=>by
        obtain ⟨x,-,rfl⟩:=List.mem_map.1 ht
        obtain ⟨s1,h,hs1⟩:=hR x.1 x.2
        exact ⟨s1,db.keep (fun q hq=>by cases hq) (fun q hq=>hm.block q (hl q (.inr (hs1 q hq))) (fun hx=>hu0.2 q (by simpa using hx) (hs1 q hq))) h,hs1⟩)
      have hFs : (Sort.flatK enc db.sz d'.toArray).size = ts.length * db.sz:=by rw [Sort.size_flatK]; simp [hlen]
      have hP : (Kd.row e db.tag).Rel (sortWorldK enc db.sz w b 0 n d'.toArray os) [.slice (some ⟨b,0,none⟩) ts.length c] (d'.map (·.1)) [b] ss:=by
        refine .inr ⟨b,c,_,[],by rw [List.length_map,hlen],rfl,hrow,by rw [List.length_map,hlen]; exact h1,⟨h2.1,by rw [List.length_map,hlen]; exact h2.2⟩,?_,?_⟩
        · rw [← h3]; simp [Sort.putCells]
        · rw [List.length_map,hlen]
          have h4:=put_take (F:=Sort.flatK enc db.sz d'.toArray) (cur:=cur) (by rw [hFs,h3]; exact Nat.mul_le_mul_right _ h1)
          rw [hFs] at h4
          show Kd.Elems db.tag _ (List.take (ts.length * db.sz) _) _ _ _
          rw [h4,hF2]
          exact hel
      rw [← hval]
      refine ⟨rfl,[b],ss,hm,fun B hB=>?_,fun B hB q hq=>?_,fun B hB q hq=>?_,fun B hB=>?_,by simp⟩
      · simp at hB; subst hB; exact hP
      · simp at hB; subst hB; exact .inl hq
      · simp at hB; subst hB; exact .inl (hss q hq)
      · simp at hB; subst hB; exact ⟨by simp [dat],fun q hq hq'=>hu0.2 q hq (hss q hq')⟩
end
theorem cmp_isNaN_int64 (w : World) (x : Int)  : Calls Tryz.prog 277 #[.int .i64 x] w (fun e_ w2_=>e_ = .returned (.bool false) ∧ Below w.heap.size w w2_):=by
  refine fnc (X:=X10 6 w) (l:=[(0,.int .i64 x)]) Tryz.func277 rfl rfl rfl ⟨rfl,trivial⟩ (s0n w).1 ?_
  refine rn ik 14 [] rfl (ret1 rfl rfl (fun w_ hs_=>⟨?_,hs_.below⟩))
  exact rb (by simp)
theorem cmp_Compare_int64 (w : World) (x : Int) (y : Int)  : Calls Tryz.prog 224 #[.int .i64 x,.int .i64 y] w (fun e_ w2_=>e_ = .returned (.int .i64 (cmpI x y)) ∧ Below w.heap.size w w2_):=by
  refine fnc (X:=X10 20 w) (l:=[(0,.int .i64 x),(1,.int .i64 y)]) Tryz.func224 rfl rfl rfl ⟨rfl,rfl,trivial⟩ (s0n w).1 ?_
  refine rn ik 8 [] rfl (cs_ (v:=.bool false) (by kernel_rfl) rfl rfl rfl (fun w_ hs_=>cmp_isNaN_int64 w_ _) (rn ik 6 [] rfl (cs_ (v:=.bool false) (by kernel_rfl) rfl rfl rfl (fun w_ hs_=>cmp_isNaN_int64 w_ _) (r2_ ik 29 [0,0] rfl rfl rfl ?_))))
  by_cases h1 : x < y
  · refine r1_ ik 8 [1] rfl (decide_eq_true h1) (ret1 rfl rfl (fun w_ hs_=>⟨?_,hs_.below⟩))
    exact ri (by unfold cmpI; grind)
  · refine r1_ ik 11 [0] rfl (decide_eq_false h1) ?_
    by_cases h2 : y < x
    · refine r1_ ik 8 [1] rfl (decide_eq_true h2) (ret1 rfl rfl (fun w_ hs_=>⟨?_,hs_.below⟩))
      exact ri (by unfold cmpI; grind)
    · refine r1_ ik 9 [0] rfl (decide_eq_false h2) (ret1 rfl rfl (fun w_ hs_=>⟨?_,hs_.below⟩))
      exact ri (by unfold cmpI; grind)
def orI (l : List Int) : Int := (l.find? (fun x => x != 0)).getD 0
theorem orI_at {l : List Int} {k : Nat} {y : Int} (h : ∀ j x,j < k → l[j]? = some x → x = 0) (hy : l[k]? = some y) (hn : ¬ y = 0) : y = orI l:=by
  unfold orI
  have h1 : l.find? (fun x=>x != 0) = some y:=by
    rw [List.find?_eq_some_iff_getElem]
    obtain ⟨hk,rfl⟩:=List.getElem?_eq_some_iff.1 hy
    refine ⟨by simpa using hn,k,hk,rfl,fun j hj=>?_⟩
    have:=h j l[j] hj (List.getElem?_eq_getElem (by omega))
    simp [this]
  rw [h1]; rfl
theorem orI_0 {l : List Int} {k : Nat} (h : ∀ j x,j < k → l[j]? = some x → x = 0) (hk : l.length ≤ k) : 0 = orI l:=by
  unfold orI
  have h1 : l.find? (fun x=>x != 0) = none:=by
    rw [List.find?_eq_none]
    intro x hx
    obtain ⟨j,hj⟩:=List.getElem?_of_mem hx
    have:=h j x (by have:=(List.getElem?_eq_some_iff.1 hj).1; omega) hj
    simp [this]
  rw [h1]; rfl
theorem orI_two (a b : Int) : orI [a,b] = if a = 0 then b else a:=by
  unfold orI
  by_cases h : a = 0
  · subst h
    by_cases h2 : b = 0
    · subst h2; rfl
    · rw [if_pos rfl,List.find?_cons_of_neg (by simp),List.find?_cons_of_pos (by simpa using h2)]; rfl
  · rw [if_neg h,List.find?_cons_of_pos (by simpa using h)]; rfl
theorem cmp_Or_int (w : World) {Avals : Option Addr} {cvals : Nat} {vals : List Int} {svals_ : List Nat} (hvals : (Kd.sl Kd.i64).Rel w [.slice Avals vals.length cvals] vals [] svals_)  : Calls Tryz.prog 223 #[.slice Avals vals.length cvals] w (fun e_ w2_=>e_ = .returned (.int .i64 (orI vals)) ∧ Below w.heap.size w w2_):=by
  have Lvals:=Kd.sl_len hvals; have Cvals:=Kd.sl_cap hvals
  refine fnc (X:=X10 18 w) (l:=[(0,.slice Avals vals.length cvals)]) Tryz.func223 rfl rfl rfl ⟨rfl,trivial⟩ (s0d hvals (s0n w)).1 ?_
  refine rn ik 19 [] rfl ?_
  refine lp (σ:=Nat) (fun k : Nat=>[(3,.int .i64 0),(6,.slice Avals vals.length cvals),(7,.int .i64 ((vals.length : Nat) : Int)),(8,.int .i64 ((k : Nat) : Int))])
      (fun k : Nat=>[dat (Kd.sl Kd.i64) [.slice Avals vals.length cvals] vals ([]) svals_])
      (fun k : Nat=>k ≤ vals.length ∧ ∀ j x,j < k → vals[j]? = some x → x = 0) (fun k : Nat=>vals.length - k) 0 [0] ⟨Nat.zero_le _,by simp⟩ ⟨rfl,rfl,rfl,rfl,trivial⟩ rfl ?_
  intro k hp_
  obtain ⟨hk,hinv⟩:=hp_
  refine rn ik 6 [] rfl ?_
  by_cases h1 : ((k : Nat) : Int) < ((vals.length : Nat) : Int)
  · refine r1_ ik 7 [1] rfl (decide_eq_true h1) ?_
    refine gx 0 k rfl (by omega) fun y7 p2 cs_ s3 w6 m8 e4 r5 us3=>?_
    obtain ⟨rfl,-,-⟩:=r5
    refine vl (ix k e4 rfl rfl rfl rfl rfl (by omega)) rfl (rn ik 11 [0,0] rfl ?_)
    by_cases h9 : y7 = (0 : Int)
    · exact r1_ ik 5 [0] rfl (bne_eq_false_iff_eq.2 h9) (vl (ra (c:=((k + 1 : Nat) : Int)) rfl rfl rfl (by omega) (by omega) (by omega)) rfl (rn ik 2 [] rfl (lpe (s:=k) (k + 1) [1] ⟨by omega,true_stepP hinv m8 h9⟩ (by omega) ⟨rfl,rfl,rfl,rfl,trivial⟩ rfl)))
    · refine r1_ ik 13 [1] rfl (bne_iff_ne.2 h9) (ret1 rfl rfl (fun w_ hs_=>⟨?_,hs_.below⟩))
      exact ri (orI_at hinv m8 h9)
  · refine r1_ ik 13 [0] rfl (decide_eq_false h1) (ret1 rfl rfl (fun w_ hs_=>⟨?_,hs_.below⟩))
    exact ri (orI_0 hinv (by omega))
theorem impl_nearFirst_1 (w : World) {a : Pair} (ha : kPairS.Rel w [.int .i64 a.id,.slice Aa1 a.rect.low.length ca1,.slice Aa2 a.rect.high.length ca2] a [] sa_) {b : Pair} (hb : kPairS.Rel w [.int .i64 b.id,.slice Ab1 b.rect.low.length cb1,.slice Ab2 b.rect.high.length cb2] b [] sb_) {p : List Int} {pp : Addr} (hp : (ptr (Kd.sl Kd.i64) pp [.slice Ap p.length cp] p sp_).P w) {d : Nat} (hd : d ≤ 3) (yFa : FitR d a.rect) (yFb : FitR d b.rect) (yFp : FitP d p) : Calls Tryz.prog 292 #[.agg #[.int .i64 a.id,.slice Aa1 a.rect.low.length ca1,.slice Aa2 a.rect.high.length ca2],.agg #[.int .i64 b.id,.slice Ab1 b.rect.low.length cb1,.slice Ab2 b.rect.high.length cb2],.pointer (some pp)] w (fun e_ w2_=>e_ = .returned (.int .i64 (nearC p a b)) ∧ Below w.heap.size w w2_):=by
  refine fnc (X:=X10 22 w) (l:=[(0,.agg #[.int .i64 a.id,.slice Aa1 a.rect.low.length ca1,.slice Aa2 a.rect.high.length ca2]),(1,.agg #[.int .i64 b.id,.slice Ab1 b.rect.low.length cb1,.slice Ab2 b.rect.high.length cb2]),(2,.pointer (some pp))]) Tryz.func292 rfl rfl rfl ⟨rfl,rfl,rfl,trivial⟩ (s0p hp (s0d hb (s0d ha (s0n w)))).1 ?_
  refine sq (rg (bx rfl rfl rfl rfl ?_))
  intro b1
  refine bx rfl rfl rfl rfl ?_
  intro b2
  refine rn ik 4 [] rfl ?_
  refine gd 4 kPairS_p1_2 rfl (cs':=[.slice Aa1 a.rect.low.length ca1,.slice Aa2 a.rect.high.length ca2]) rfl fun s3 w_ rs3 us3=>?_
  refine gp 3 Kd.Sub.rfl rfl (cs':=[.slice Ap p.length cp]) rfl fun s4 w_ rs4 us4=>?_
  have Ls4:=Kd.sl_len rs4; have Cs4:=Kd.sl_cap rs4
  refine gd 5 kPairS_p1_2 rfl (cs':=[.slice Ab1 b.rect.low.length cb1,.slice Ab2 b.rect.high.length cb2]) rfl fun s5 w_ rs5 us5=>?_
  refine rn ik 11 [1,2,4,0,3,5,0,5,6,3,0,7,5,0,10,11,4,0,12,13,3,0] rfl (q1 3 [0,0,0,0,0,0,0,0] rfl (by kernel_rfl) rfl (cs_ (v:=.int .i64 (distR a.rect p)) (by kernel_rfl) rfl rfl rfl (fun w_ hs_=>by exact impl_distance w_ (hs_.at 2 rfl) (hs_.at 1 rfl) hd yFa yFp) (qn (q1 7 [0,0,0,0,0,0,0,0] rfl (by kernel_rfl) rfl (cs_ (v:=.int .i64 (distR b.rect p)) (by kernel_rfl) rfl rfl rfl (fun w_ hs_=>by exact impl_distance w_ (hs_.at 0 rfl) (hs_.at 1 rfl) hd yFb yFp) (qn (q1 8 [0,0,0,0,0,0,0,0] rfl (by kernel_rfl) rfl (cs_ (v:=.int .i64 (cmpI (distR a.rect p) (distR b.rect p))) (by kernel_rfl) rfl rfl rfl (fun w_ hs_=>by exact cmp_Compare_int64 w_ _ _) (qn (q1 13 [0,0,0,0,0,0,0,0] rfl (by kernel_rfl) rfl (cs_ (v:=.int .i64 (cmpI a.id b.id)) (by kernel_rfl) rfl rfl rfl (fun w_ hs_=>by exact cmp_Compare_int64 w_ _ _) (qn (q1 14 [0,0,0,0,0,0,0,0] rfl (by kernel_rfl) rfl (bs2 rfl info3 rfl rfl rfl rfl ?_))))))))))))))
  intro b6
  refine qn (q1 15 [1,1,1,1,1,1,1,1] rfl (by kernel_rfl) rfl (cs_ (v:=.int .i64 (orI ([(cmpI (distR a.rect p) (distR b.rect p)),(cmpI a.id b.id)]))) (by kernel_rfl) rfl rfl rfl (fun w_ hs_=>by exact bor (Kd.Seals.row Kd.Seals.i64 _) (hs_.at 0 rfl) fun _ lb0_=>cmp_Or_int w_ lb0_) (qn (r1_ ik 4 [17,0] rfl ⟨[1,1,1,1,1,1,1,1],rfl⟩ (ret1 rfl rfl (fun w_ hs_=>⟨?_,hs_.below⟩))))))
  exact ri (by unfold nearC; rw [orI_two])
theorem spec_l2Nearer (w : World) {p : List Int} (hp : (Kd.sl Kd.i64).Rel w [.slice Ap p.length cp] p [] sp_) {a : Pair} {pa : Addr} (ha : (ptr kPairS pa [.int .i64 a.id,.slice Aa1 a.rect.low.length ca1,.slice Aa2 a.rect.high.length ca2] a sa_).P w) {b : Pair} {pb : Addr} (hb : (ptr kPairS pb [.int .i64 b.id,.slice Ab1 b.rect.low.length cb1,.slice Ab2 b.rect.high.length cb2] b sb_).P w) {d : Nat} (hd : d ≤ 3) (yFa : FitR d a.rect) (yFb : FitR d b.rect) (yFp : FitP d p) : Calls Tryz.prog 249 #[.slice Ap p.length cp,.pointer (some pa),.pointer (some pb)] w (fun e_ w2_=>e_ = .returned (.bool (nearerP p a b)) ∧ Below w.heap.size w w2_):=by
  have Lp:=Kd.sl_len hp; have Cp:=Kd.sl_cap hp
  refine fnc (X:=X10 38 w) (l:=[(0,.slice Ap p.length cp),(1,.pointer (some pa)),(2,.pointer (some pb))]) Tryz.func249 rfl rfl rfl ⟨rfl,rfl,rfl,trivial⟩ (s0p hb (s0p ha (s0d hp (s0n w)))).1 ?_
  refine rn ik 11 [] rfl ?_
  refine gq 1 kPairS_p1_2 rfl (cs':=[.slice Aa1 a.rect.low.length ca1,.slice Aa2 a.rect.high.length ca2]) rfl fun s1 w_ rs1 us1=>?_
  refine cs_ (v:=.int .i64 (distR a.rect p)) (by kernel_rfl) rfl rfl rfl (fun w_ hs_=>spec_l1Dist w_ (hs_.at 0 rfl) (hs_.at 3 rfl) hd yFa yFp) (rn ik 9 [] rfl ?_)
  refine gq 1 kPairS_p1_2 rfl (cs':=[.slice Ab1 b.rect.low.length cb1,.slice Ab2 b.rect.high.length cb2]) rfl fun s2 w_ rs2 us2=>?_
  refine cs_ (v:=.int .i64 (distR b.rect p)) (by kernel_rfl) rfl rfl rfl (fun w_ hs_=>spec_l1Dist w_ (hs_.at 0 rfl) (hs_.at 4 rfl) hd yFb yFp) (rn ik 4 [] rfl ?_)
  by_cases h3 : (distR a.rect p) < (distR b.rect p)
  · refine rp ik 24 [1,2,3,4,5,0,6,0,7,0,8,0,9,0,10,0,11,0,12,0,13,0,14,0,15,0,16,0,17,0,18,0,19,1,20,0] rfl ⟨sid,(decide_eq_true h3),(decide_eq_true h3),(decide_eq_true h3),(decide_eq_true h3),(decide_eq_true h3),(decide_eq_true h3),⟨⟩⟩ (ret1 rfl rfl (fun w_ hs_=>⟨?_,hs_.below⟩))
    exact rb (by unfold nearerP; grind)
  · by_cases h4 : (distR a.rect p) = (distR b.rect p)
    · refine rp ik 24 [1,2,3,4,5,1,6,1,7,1,8,1,9,1,10,1,11,1,12,1,3,1,13,1,14,1,15,1,16,1,2,1,17,1,18,1,1,19,0,20,0] rfl ⟨sid,(decide_eq_false h3),(beq_iff_eq.2 h4),(decide_eq_false h3),(beq_iff_eq.2 h4),(beq_iff_eq.2 h4),(beq_iff_eq.2 h4),(beq_iff_eq.2 h4),(beq_iff_eq.2 h4),(beq_iff_eq.2 h4),(beq_iff_eq.2 h4),(beq_iff_eq.2 h4),(beq_iff_eq.2 h4),(decide_eq_false h3),(decide_eq_false h3),(decide_eq_false h3),(decide_eq_false h3),⟨⟩⟩ (ret1 rfl rfl (fun w_ hs_=>⟨?_,hs_.below⟩))
      exact rb (by unfold nearerP; grind)
    · refine rp ik 24 [1,2,3,4,5,1,6,1,7,1,8,1,9,0,10,0,11,0,12,0,13,0,14,0,15,0,16,0,17,0,18,1,0,19,0,20,0] rfl ⟨sid,(decide_eq_false h3),(beq_eq_false_iff_ne.2 h4),(decide_eq_false h3),(beq_eq_false_iff_ne.2 h4),(beq_eq_false_iff_ne.2 h4),(beq_eq_false_iff_ne.2 h4),(beq_eq_false_iff_ne.2 h4),(beq_eq_false_iff_ne.2 h4),(beq_eq_false_iff_ne.2 h4),(beq_eq_false_iff_ne.2 h4),(beq_eq_false_iff_ne.2 h4),(beq_eq_false_iff_ne.2 h4),(decide_eq_false h3),(decide_eq_false h3),(decide_eq_false h3),(decide_eq_false h3),⟨⟩⟩ (ret1 rfl rfl (fun w_ hs_=>⟨?_,hs_.below⟩))
      exact rb (by unfold nearerP; grind)
end Go.Proofs.YtjdkfibeogiekaaGreat.Sx
