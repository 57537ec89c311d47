/- What functions of the program answer, each at every input that its row names; walked through their code. -/
import Derived.Test.YtjdkfibeogiekaaGreatSy15
namespace Go.Proofs.YtjdkfibeogiekaaGreat.Sx
open Go Go.RowKit Go.Proofs
set_option linter.unusedVariables false
set_option linter.unusedSimpArgs false
set_option maxRecDepth 20000
set_option maxHeartbeats 2000000
variable {Al1 Al2 Al3 Al5 Al6 As : Option Addr} {cl1 cl2 cl3 cl5 cl6 cs : Nat} {sl_ ss_ : List Nat} {fp : FuncId} {cfp : List Value}
def tab16 : Tab := { size := [(2, 1, false), (37, 1, false), (82, 2, true), (154, 1, false), (156, 7, true), (208, 3, true), (210, 3, true)], off := [((84, 0), 0), ((84, 2), 3), ((84, 3), 4), ((156, 0), 0), ((156, 1), 5), ((208, 1), 1), ((210, 0), 0)], elem := [(75, 208), (154, 210)] }
theorem tab_ok16 : tab16.check Tryz.prog = true:=by kernel_rfl
noncomputable abbrev X16 (N : Nat) (w : World) : Cx := ⟨Tryz.prog, tab16, tab_ok16, wide, N, w, none, []⟩
theorem zero2 : (Tryz.prog.info? 2).bind (·.zero) = some (.int .i64 0):=by kernel_rfl

section
section
variable {α : Type} {dk : Kd α} {X : Cx} {o : Oper} {l : List (Nat × Value)} {G : List Asn} {ops : Array Oper} {Q : Exit → Act → World → Prop} {r : List Oper} {d : Nat}
theorem apd (i j : Nat) {zv : Value} {t e by_ n c b : Nat} {x y : Operand} {xs : List α} {o1 s1 : List Nat} (hpu : dk.Pure) (he : look X.T.elem t = some e) (hi : (X.P.info? e).map (fun i=>(i.zero,i.size,i.bytes)) = some (some zv,dk.sz,by_)) (hpos : 0 < dk.sz)
    (ho : o.op = .call { callee:=.builtin .append,args:=#[x,y],argTypes:=#[t,t] }) (hx : ev l x = some (.slice (some ⟨b,0,none⟩) i c))
    (hy : ev l y = some (.slice (if c = j then some ⟨b,0,none⟩ else (some (⟨b,0,none⟩ : Addr)).map (·.add (j * dk.sz))) (n - j) (c - j))) (hij : i ≤ j) (hjn : j ≤ n) (hp : pl X.N o = some d)
    (h : ∀ xs' o3 s3,xs'.take (i + (n - j)) = xs.take i ++ xs.drop j → xs'.length = xs.length → (∀ q ∈ s3,q ∈ s1) → SL X ops Q r ((d,.slice (some ⟨b,0,none⟩) (i + (n - j)) c) :: l) (dat (Kd.row e dk) [.slice (some ⟨b,0,none⟩) n c] xs' o3 s3 :: G)) :
    SL X ops Q (o :: r) l (dat (Kd.row e dk) [.slice (some ⟨b,0,none⟩) n c] xs o1 s1 :: G):=fun a w hk hs=>by
  obtain ⟨hd,hN,hg⟩:=pl_spec hp
  refine wl_plain hg fun K hK=>?_
  obtain ⟨ii,hi1,hi2⟩:=Option.map_eq_some_iff.1 hi
  simp only [Prod.mk.injEq] at hi2
  obtain ⟨j1,j2,j3⟩:=hi2
  have ht:=Tab.elemOk X.ok he
  have hR : (Kd.row e dk).Rel w [.slice (some ⟨b,0,none⟩) n c] xs o1 s1:=hs.holds (dat (Kd.row e dk) _ xs o1 s1) (by simp)
  obtain ⟨cur,o',rfl,hgb,hln,hnc,hcm,hzz,hE⟩:=Kd.row_inv hR
  have ho':=hE.pure hpu
  subst ho'
  have hu:=hs.uniq (dat (Kd.row e dk) [.slice (some ⟨b,0,none⟩) n c] xs [b] s1) (by simp)
  have hbs : b ∉ s1:=hu.2 b (by simp [dat])
  unfold Oper.wp execOp
  simp only [ho,resolve,invoke,builtin,Sem.run_bind,Sem.run_pure,Result.andThen_ok,List.map_toArray,List.map_cons,List.map_nil,hk.ev hx,hk.ev hy]
  by_cases hnj : n = j
  · subst hnj
    have hr:=run_append_no (P:=X.P) (tx:=t) (ty:=o.type) ht hi1 w (some ⟨b,0,none⟩) (if c = n then some ⟨b,0,none⟩ else (some (⟨b,0,none⟩ : Addr)).map (·.add (n * dk.sz))) i c (c - n) (by omega)
    rw [Nat.sub_self]
    rw [hr]
    simp only [Result.andThen_ok,Oper.upon]
    have hh:=h xs [b] s1 (by rw [Nat.sub_self,Nat.add_zero,List.drop_of_length_le (by omega),List.append_nil]) rfl (fun _ h=>h)
    rw [Nat.sub_self,Nat.add_zero] at hh
    exact hK _ _ (by rw [hd]; exact hh _ _ (hk.put _ hN) hs)
  · have hcj : ¬ c = j:=by omega
    have hap : (⟨b,0,none⟩ : Addr).add (j * dk.sz) = ⟨b,j * dk.sz,none⟩:=by unfold Addr.add; split <;> simp_all
    have hle : n * dk.sz ≤ c * dk.sz:=Nat.mul_le_mul_right _ hnc
    have hjn2 : j * dk.sz ≤ n * dk.sz:=Nat.mul_le_mul_right _ hjn
    have hij2 : i * dk.sz ≤ j * dk.sz:=Nat.mul_le_mul_right _ hij
    have hsub : (n - j) * dk.sz = n * dk.sz - j * dk.sz:=Nat.sub_mul _ _ _
    have hk2 : (i + (n - j)) * dk.sz = i * dk.sz + (n * dk.sz - j * dk.sz):=by rw [Nat.add_mul,hsub]
    generalize hcs : cur.toList.take (n * dk.sz) = cs at hE
    have hcl : cs.length = n * dk.sz:=by rw [← hcs,List.length_take,Array.length_toList,hzz]; omega
    obtain ⟨s3,m3,e3⟩:=Kd.Elems.cut i hE (by omega)
    obtain ⟨s4,m4,e4⟩:=Kd.Elems.rest j hE
    obtain ⟨s5,m5,e5⟩:=Kd.Elems.rest (i + (n - j)) hE
    have hnl : (cs.drop (j * dk.sz)).length = (n - j) * ii.size:=by rw [List.length_drop,hcl,j2,hsub]
    have hnews : ∀ (q : Nat) (u : Value),(cs.drop (j * dk.sz))[q]? = some u → w.cell? ((⟨b,j * dk.sz,none⟩ : Addr).add q) = some u:=by
      intro q u hq
      have e1 : (⟨b,j * dk.sz,none⟩ : Addr).add q = ⟨b,j * dk.sz + q,none⟩:=by unfold Addr.add; split <;> simp_all
      rw [e1]
      simp only [World.cell?,hgb]
      rw [List.getElem?_drop,← hcs,List.getElem?_take] at hq
      split at hq
      · simpa using hq
      · cases hq
    have hfit : i * ii.size + (cs.drop (j * dk.sz)).length ≤ cur.size:=by rw [hnl,j2,hsub,hzz]; omega
    have hr:=run_append_room (P:=X.P) w t o.type e ii ht hi1 b i c cur hgb ⟨b,j * dk.sz,none⟩ (n - j) (c - j) (cs.drop (j * dk.sz)) hnl hnews e4.one (by omega) hfit
    rw [if_neg hcj,Option.map_some,hap]
    rw [hr]
    simp only [Result.andThen_ok,Oper.upon]
    have hnew : cur.toList.take (i * ii.size) = cs.take (i * dk.sz):=by rw [← hcs,j2,List.take_take,Nat.min_eq_left (by omega)]
    have hE2 : Kd.Elems dk w (cs.take (i * dk.sz) ++ cs.drop (j * dk.sz) ++ cs.drop ((i + (n - j)) * dk.sz)) (xs.take i ++ xs.drop j ++ xs.drop (i + (n - j))) ([] ++ [] ++ []) (s3 ++ s4 ++ s5):=(e3.app e4).app e5
    simp only [List.append_nil] at hE2
    have hm : ∀ q ∈ s3 ++ s4 ++ s5,q ∈ s1:=fun q hq=>by
      simp only [List.mem_append] at hq
      rcases hq with (hq | hq) | hq
      · exact m3 q hq
      · exact m4 q hq
      · exact m5 q hq
    have hlen : (xs.take i ++ xs.drop j ++ xs.drop (i + (n - j))).length = n:=by simp; omega
    have hl2 : (cs.take (i * dk.sz) ++ cs.drop (j * dk.sz) ++ cs.drop ((i + (n - j)) * dk.sz)).length = n * dk.sz:=by rw [hE2.len,hlen]
    have hne : ∀ (cells : Array Value) (q : Nat),q ≠ b → (w.setRow b cells).heap[q]? = w.heap[q]?:=fun cells q hq=>setRow_other w b q _ hq
    have hcell : cur.toList.take (i * ii.size) ++ cs.drop (j * dk.sz) ++ cur.toList.drop (i * ii.size + (cs.drop (j * dk.sz)).length) = (cs.take (i * dk.sz) ++ cs.drop (j * dk.sz) ++ cs.drop ((i + (n - j)) * dk.sz)) ++ cur.toList.drop (n * dk.sz):=by
      rw [hnew,List.append_assoc (cs.take (i * dk.sz) ++ cs.drop (j * dk.sz))]
      congr 1
      rw [hnl,j2,hsub,hk2,← hcs,List.drop_take]
      have h1 : cur.toList.drop (n * dk.sz) = (cur.toList.drop (i * dk.sz + (n * dk.sz - j * dk.sz))).drop (n * dk.sz - (i * dk.sz + (n * dk.sz - j * dk.sz))):=by
        rw [List.drop_drop]; congr 1; omega
      rw [h1,List.take_append_drop]
    have hR' : (Kd.row e dk).Rel (w.setRow b (cur.toList.take (i * ii.size) ++ cs.drop (j * dk.sz) ++ cur.toList.drop (i * ii.size + (cs.drop (j * dk.sz)).length)).toArray) [.slice (some ⟨b,0,none⟩) n c] (xs.take i ++ xs.drop j ++ xs.drop (i + (n - j))) [b] (s3 ++ s4 ++ s5):=by
      refine Kd.row_mk (setRow_heap w b cur _ e _ hgb) hlen hnc hcm.1 hcm.2 ?_ ?_
      · rw [List.size_toArray,hcell,List.length_append,hl2,List.length_drop,Array.length_toList,hzz]; omega
      · have e1 : (cur.toList.take (i * ii.size) ++ cs.drop (j * dk.sz) ++ cur.toList.drop (i * ii.size + (cs.drop (j * dk.sz)).length)).toArray.toList.take (n * dk.sz) = cs.take (i * dk.sz) ++ cs.drop (j * dk.sz) ++ cs.drop ((i + (n - j)) * dk.sz):=by
          rw [List.toList_toArray,hcell,← hl2]; exact List.take_left
        rw [e1]
        exact hE2.keep (fun _ h=>by cases h) (fun q hq=>hne _ q (fun e=>hbs (e ▸ hm q hq)))
    have htk : (xs.take i ++ xs.drop j ++ xs.drop (i + (n - j))).take (i + (n - j)) = xs.take i ++ xs.drop j:=by
      have h1 : (xs.take i ++ xs.drop j).length = i + (n - j):=by simp; omega
      rw [← h1]; exact List.take_left
    suffices hS : St X.w0 (w.setRow b (cur.toList.take (i * ii.size) ++ cs.drop (j * dk.sz) ++ cur.toList.drop (i * ii.size + (cs.drop (j * dk.sz)).length)).toArray) (dat (Kd.row e dk) [.slice (some ⟨b,0,none⟩) n c] (xs.take i ++ xs.drop j ++ xs.drop (i + (n - j))) [b] (s3 ++ s4 ++ s5) :: G) from
      hK _ _ (by rw [hd]; exact h _ [b] (s3 ++ s4 ++ s5) htk (by rw [hlen,hln]) hm _ _ (hk.put _ hN) hS)
    refine hs.swap (As:=[dat (Kd.row e dk) [.slice (some ⟨b,0,none⟩) n c] xs [b] s1]) (Bs:=[dat (Kd.row e dk) [.slice (some ⟨b,0,none⟩) n c] (xs.take i ++ xs.drop j ++ xs.drop (i + (n - j))) [b] (s3 ++ s4 ++ s5)]) (mod_setRow.mono (by simp [owns,dat])) ?_ ?_ ?_ ?_ (by simp)
    · intro B hB; rw [List.mem_singleton] at hB; subst hB; exact hR'
    · intro B hB q hq; rw [List.mem_singleton] at hB; subst hB; exact .inl (by simpa [owns,dat] using hq)
    · intro B hB q hq; rw [List.mem_singleton] at hB; subst hB; exact .inl ⟨_,List.mem_singleton_self _,.inr (hm q hq)⟩
    · intro B hB; rw [List.mem_singleton] at hB; subst hB; exact ⟨hu.1,fun q hq hx=>hu.2 q hq (hm q hx)⟩
end
section
variable {X : Cx} {o : Oper} {l : List (Nat × Value)} {G : List Asn}
theorem slm {t e sz n c i j m : Nat} {bb : Bool} {x y z u : Operand} {A : Option Addr} {zi zj zm : Int} (hi : zi = (i : Int)) (hj : zj = (j : Int)) (hm : zm = (m : Int)) (he : look X.T.elem t = some e) (hn : look X.T.size e = some (sz,bb)) (ho : o.op = .slice t x (some y) (some z) (some u)) (hx : ev l x = some (.slice A n c))
    (hy : ev l y = some (.int .i64 zi)) (hz : ev l z = some (.int .i64 zj)) (hu : ev l u = some (.int .i64 zm)) (hij : i ≤ j) (hjm : j ≤ m) (hc : m ≤ c) : Ev X o l G (.slice (if m = i then A else A.map (·.add (i * sz))) (j - i) (m - i)):=fun a w hk _=>by
  subst hi; subst hj; subst hm
  unfold execOp
  have h1:=run_underlying (Tab.elemOk X.ok he) w
  obtain ⟨_,q,_,_,hq,hqs⟩:=Tab.sizeOk X.ok hn
  have h2 : (sizeOf e).run X.P w = .ok sz w:=by simp [sizeOf,typeInfo,hq,hqs]
  have h3:=run_sliceBound (P:=X.P) w .i64 (m : Int) c .slice3Acap (by omega) (by omega)
  have h4:=run_sliceBound (P:=X.P) w .i64 (j : Int) m .slice3B (by omega) (by omega)
  have h5:=run_sliceBound (P:=X.P) w .i64 (i : Int) j .slice3C (by omega) (by omega)
  simp only [Int.toNat_natCast] at h3 h4 h5
  simp [ho,hk.ev hx,hk.ev hy,hk.ev hz,hk.ev hu,Instr.sliceAt,Instr.slice,h1,h2,h3,h4,h5,Instr.sliceBounds]
end
section
variable {X : Cx} {l : List (Nat × Value)} {G : List Asn}
theorem res1 {fn : Func} {t : Nat} {v : Value} (hr : fn.results = #[.tmp t]) (hv : look l t = some v) : ∀ a w,Knows X.K l a → St X.w0 w G → (results fn a.tmps).run X.P w = .ok v w:=fun a w hk _=>by
  rw [results_tmp hr]; simp [Array.getD_eq_getD_getElem?,hk.2.2 t v hv]
end
end
section
variable {α : Type} {dk : Kd α} {X : Cx} {o : Oper} {l : List (Nat × Value)} {G : List Asn} {ops : Array Oper} {Q : Exit → Act → World → Prop} {r : List Oper} {d : Nat}
theorem com {x : α} {S : List Nat} {A0 : Asn} {f : FuncId} {args : List Operand} {ts : Array TypeId} {vs : List Value} (hE : enters X.P f = true)
    (ho : o.op = .call { callee:=.value (.func f),args:=args.toArray,argTypes:=ts }) (hv : evs l args = some vs) (hp : pl X.N o = some d)
    (hS : ∀ b ∈ S,∃ A ∈ A0 :: G,b ∈ A.see) (m : Nat) (hm : ∀ w,St X.w0 w (A0 :: G) → m ≤ w.heap.size)
    (hc : ∀ w,St X.w0 w (A0 :: G) → Calls X.P f vs.toArray w (MadeO dk w A0.own x S))
    (h : ∀ cs oo ss w,dk.Rel w cs x oo ss → (∀ b ∈ ss,b ∈ S ∨ m ≤ b) → SL X ops Q r ((d,valof cs) :: l) (dat dk cs x oo ss :: G)) : SL X ops Q (o :: r) l (A0 :: G):=by
  obtain ⟨fn,h1,h2,h3⟩:=enters_spec hE
  refine clx ho h1 h2 h3 hv hp fun a w hk hs=>(hc w hs).mono ?_
  rintro e w' ⟨cs,oo,ss,rfl,hmo,hP,hoo,hss,hu,hpw⟩
  refine ⟨_,rfl,fun a' ha'=>h cs oo ss w' (hP (dat dk cs x oo ss) (by simp)) (fun b hb=>(hss (dat dk cs x oo ss) (by simp) b hb).imp_right (Nat.le_trans (hm w hs))) a' w' ha' ?_⟩
  exact hs.swap' (As:=[A0]) (Bs:=[dat dk cs x oo ss]) (hmo.mono (fun b h=>by simpa [owns] using h)) hP (fun B hB b hb=>(hoo B hB b hb).imp_left (fun h=>by simpa [owns] using h)) (fun B hB b hb=>(hss B hB b hb).imp_left (hS b)) hu hpw
end
section
end

def placeFault (a : Arena) (id : Int) : Int := if isPlace a id = true then if id ∈ a.free then 4 else 0 else 3
theorem place_0 {a : Arena} {id : Int} (h : placeFault a id = 0) : 0 ≤ id ∧ id.toNat < a.nodes.length:=by
  unfold placeFault at h
  split at h
  · rename_i hp
    have:=nodeAt_mem hp
    have:=within_t hp
    exact ⟨by omega,by omega⟩
  · cases h

def bestTo (l : List Mark) : Nat → Nat
  | 0=>0
  | k + 1=>if (l.getD k zMark).dist < (l.getD (bestTo l k) zMark).dist then k else bestTo l k
theorem bestTo_1 {l : List Mark} : bestTo l 1 = 0:=by simp [bestTo]
theorem bestTo_lt {l : List Mark} {n : Nat} (hn : 0 < n) : ∀ k,k ≤ n → bestTo l k < n
  | 0,_=>hn
  | k + 1,hk=>by
    unfold bestTo
    split
    · omega
    · exact bestTo_lt hn k (by omega)
theorem getD_mem {l : List Mark} {k : Nat} {y : Mark} (h : l[k]? = some y) : l.getD k zMark = y:=by rw [List.getD_eq_getElem?_getD,h]; rfl
theorem best_on {l : List Mark} {k b : Nat} {y z : Mark} (hb : b = bestTo l k) (hy : l[k]? = some y) (hz : l[b]? = some z) (h : y.dist < z.dist) : k = bestTo l (k + 1):=by
  subst hb; simp only [bestTo,getD_mem hy,getD_mem hz]; rw [if_pos h]
theorem best_off {l : List Mark} {k b : Nat} {y z : Mark} (hb : b = bestTo l k) (hy : l[k]? = some y) (hz : l[b]? = some z) (h : ¬ y.dist < z.dist) : b = bestTo l (k + 1):=by
  subst hb; simp only [bestTo,getD_mem hy,getD_mem hz]; rw [if_neg h]
def nextI (l : Look) : Int := if l.query.kind = 4 then ((bestTo l.front l.front.length : Nat) : Int) else (l.front.length : Int) - 1
theorem next_4 {l : Look} {b k : Nat} (h : l.query.kind = 4) (hb : b = bestTo l.front k) (hk : l.front.length = k) : (b : Int) = nextI l:=by unfold nextI; rw [if_pos h,hk,hb]
theorem next_n {l : Look} (h : ¬ l.query.kind = 4) : (l.front.length : Int) - 1 = nextI l:=by unfold nextI; rw [if_neg h]
theorem nextI_lt {l : Look} (h : 0 < l.front.length) : 0 ≤ nextI l ∧ nextI l < (l.front.length : Int):=by
  unfold nextI
  split
  · have:=bestTo_lt (l:=l.front) h l.front.length (Nat.le_refl _); omega
  · omega
def markAt (l : Look) : Mark := l.front.getD (nextI l).toNat zMark
def nextL (l : Look) : Look := ⟨l.query, l.front.take (nextI l).toNat ++ l.front.drop ((nextI l).toNat + 1), l.found⟩
theorem markAt_of {l : Look} {i : Nat} {y : Mark} (hi : (i : Int) = nextI l) (hy : l.front[i]? = some y) : y = markAt l:=by
  unfold markAt; rw [← hi,Int.toNat_natCast,getD_mem hy]
theorem nextL_of {l : Look} {i : Nat} (hi : (i : Int) = nextI l) : (⟨l.query,l.front.take i ++ l.front.drop (i + 1),l.found⟩ : Look) = nextL l:=by
  unfold nextL; rw [← hi,Int.toNat_natCast]
theorem tell_len (l : Look) : (tellL l).length ≤ l.found.length:=by
  unfold tellL; split
  · rw [List.length_take,nearList_len]; omega
  · exact Nat.le_refl _
theorem anl_len (l : List Pair) (q : Query) : (answerL l q).length ≤ l.length:=by
  unfold answerL
  split
  · rw [List.length_take,nearList_len]; exact Nat.le_trans (Nat.min_le_right _ _) (List.length_filter_le _ _)
  · exact List.length_filter_le _ _
def farL (l : Look) : Int := distR ((tellL l).getD ((tellL l).length - 1) zPair).rect l.query.point
def doneL (l : Look) : Bool := if (l.front.length : Int) = 0 then true else if l.query.kind = 4 then (if ((tellL l).length : Int) < l.query.k then false else !l.front.any (fun m => decide (m.dist ≤ farL l))) else false
theorem far_of {l : Look} {i : Nat} {y : Pair} (hi : i = (tellL l).length - 1) (hy : (tellL l)[i]? = some y) : distR y.rect l.query.point = farL l:=by
  unfold farL; rw [← hi,List.getD_eq_getElem?_getD,hy]; rfl
theorem done_0 {l : Look} (h : (l.front.length : Int) = 0) : true = doneL l:=by unfold doneL; rw [if_pos h]
theorem done_n {l : Look} (h0 : ¬ (l.front.length : Int) = 0) (h4 : ¬ l.query.kind = 4) : false = doneL l:=by unfold doneL; rw [if_neg h0,if_neg h4]
theorem done_k {l : Look} (h0 : ¬ (l.front.length : Int) = 0) (h4 : l.query.kind = 4) (hk : ((tellL l).length : Int) < l.query.k) : false = doneL l:=by unfold doneL; rw [if_neg h0,if_pos h4,if_pos hk]
theorem done_f {l : Look} {z : Int} (h0 : ¬ (l.front.length : Int) = 0) (h4 : l.query.kind = 4) (hk : ¬ ((tellL l).length : Int) < l.query.k) (hz : z = farL l) : (!l.front.any (fun m=>decide (m.dist ≤ z))) = doneL l:=by unfold doneL; rw [if_neg h0,if_pos h4,if_neg hk,hz]
theorem done_pos {l : Look} (h : ¬ doneL l = true) : 0 < l.front.length:=by
  rcases Nat.eq_zero_or_pos l.front.length with h0 | h0
  · exact absurd (done_0 (l:=l) (by omega)).symm h
  · exact h0
def seen (n : Node) : Moved := ⟨n.level, if n.level = 0 then n.entries else n.entries.reverse⟩
theorem seen_len {n : Node} : (seen n).entries.length = n.entries.length:=by unfold seen; show (if n.level = 0 then n.entries else n.entries.reverse).length = _; split <;> simp
theorem seen_0 {n : Node} {k : Nat} {e : Entry} (h : n.level = 0) (he : n.entries[k]? = some e) : (seen n).entries[k]? = some e:=by unfold seen; show (if n.level = 0 then n.entries else n.entries.reverse)[k]? = _; rw [if_pos h]; exact he
theorem seen_n {n : Node} {k : Nat} {e : Entry} (h : ¬ n.level = 0) (hk : k < n.entries.length) (he : n.entries[n.entries.length - 1 - k]? = some e) : (seen n).entries[k]? = some e:=by
  unfold seen; show (if n.level = 0 then n.entries else n.entries.reverse)[k]? = _; rw [if_neg h,List.getElem?_reverse hk]; exact he
theorem seen_mem {n : Node} {P : Entry → Prop} (h : ∀ e ∈ n.entries,P e) : ∀ e ∈ (seen n).entries,P e:=fun e he=>by
  have he' : e ∈ (if n.level = 0 then n.entries else n.entries.reverse):=he
  split at he'
  · exact h e he'
  · exact h e (List.mem_reverse.1 he')
def pushN (a : Arena) (l : Look) : Look := if ¬ (nodeAt a (markAt l).id).nsn = (markAt l).nsn ∧ ¬ (nodeAt a (markAt l).id).right = -1 then ⟨(nextL l).query, (nextL l).front ++ [⟨(markAt l).dist, (nodeAt a (markAt l).id).right, (markAt l).nsn⟩], (nextL l).found⟩ else nextL l
theorem push_y {a : Arena} {l : Look} (h1 : ¬ (nodeAt a (markAt l).id).nsn = (markAt l).nsn) (h2 : ¬ (nodeAt a (markAt l).id).right = -1) : (⟨(nextL l).query,(nextL l).front ++ [⟨(markAt l).dist,(nodeAt a (markAt l).id).right,(markAt l).nsn⟩],(nextL l).found⟩ : Look) = pushN a l:=by unfold pushN; rw [if_pos ⟨h1,h2⟩]
theorem push_n {a : Arena} {l : Look} (h : (nodeAt a (markAt l).id).nsn = (markAt l).nsn ∨ (nodeAt a (markAt l).id).right = -1) : nextL l = pushN a l:=by unfold pushN; rw [if_neg]; rintro ⟨h1,h2⟩; exact h.elim h1 h2
theorem next_len {l : Look} (h : 0 < l.front.length) : (nextL l).front.length ≤ l.front.length:=by
  have:=nextI_lt h
  show (l.front.take (nextI l).toNat ++ l.front.drop ((nextI l).toNat + 1)).length ≤ _
  simp; omega
theorem push_facts {a : Arena} {l : Look} (h : 0 < l.front.length) : (pushN a l).query = l.query ∧ (pushN a l).front.length ≤ l.front.length + 1 ∧ (pushN a l).found = l.found:=by
  have:=next_len h
  unfold pushN
  split
  · refine ⟨rfl,?_,rfl⟩
    show ((nextL l).front ++ [_]).length ≤ _
    rw [List.length_append,List.length_cons,List.length_nil]; omega
  · exact ⟨rfl,by omega,rfl⟩
def stepL (a : Arena) (l : Look) : Look := if placeFault a (markAt l).id = 0 then handAll (pushN a l) (seen (nodeAt a (markAt l).id)) else nextL l
def stepC (a : Arena) (l : Look) : Int := if placeFault a (markAt l).id = 0 then handCode (pushN a l) (seen (nodeAt a (markAt l).id)) else placeFault a (markAt l).id
theorem node_fit {a : Arena} (hS : Sound a) {id : Int} (hp : isPlace a id = true) : ∀ e ∈ (nodeAt a id).entries,FitR a.dims.toNat e.rect:=fun e he =>
  rect_fit (entry_0 ((node_0 (hS.node _ (nodeAt_mem hp).1)).2.2.2.2.1 e he)).1 hS.dims
theorem place_is {a : Arena} {id : Int} (h : placeFault a id = 0) : isPlace a id = true:=by
  unfold placeFault at h
  split at h
  · assumption
  · cases h
theorem stepL_ok {a : Arena} {l : Look} {k : Nat} (h : placeFault a (markAt l).id = 0) (hk : k = (nodeAt a (markAt l).id).entries.length) : handTo (pushN a l) (seen (nodeAt a (markAt l).id)) k = stepL a l:=by unfold stepL; rw [if_pos h,handAll,seen_len,hk]
theorem stepL_no {a : Arena} {l : Look} (h : ¬ placeFault a (markAt l).id = 0) : nextL l = stepL a l:=by unfold stepL; rw [if_neg h]
theorem stepC_no {a : Arena} {l : Look} (h : ¬ placeFault a (markAt l).id = 0) : placeFault a (markAt l).id = stepC a l:=by unfold stepC; rw [if_neg h]
theorem stepC_7 {a : Arena} {l : Look} (h : placeFault a (markAt l).id = 0) (hf : isFull (stepL a l) = true) : 7 = stepC a l:=by
  unfold stepC handCode; unfold stepL at hf; rw [if_pos h] at hf ⊢; rw [if_pos hf]
theorem stepC_0 {a : Arena} {l : Look} (h : placeFault a (markAt l).id = 0) (hf : ¬ isFull (stepL a l) = true) : 0 = stepC a l:=by
  unfold stepC handCode; unfold stepL at hf; rw [if_pos h] at hf ⊢; rw [if_neg hf]
section
def bpN (P : Program) (fn : Func) (R : Ending → World → Prop) (e : Exit) : Act → World → Prop := match e with
  | .panic _=>fun _ _=>False
  | e=>bpM P fn R e
instance Calm.bpN {P : Program} {fn : Func} {R : Ending → World → Prop} : Calm (bpN P fn R) := ⟨fun _ _ _ _ _ h => h⟩
theorem fncN {X : Cx} {f : FuncId} {fn : Func} {c : Code} {l : List (Nat × Value)} {G : List Asn} {args : List Value} {w : World} {R : Ending → World → Prop}
    (hf : X.P.funcs[f]? = some fn) (hb : fn.body = some c) (hN : fn.ntmps = X.N) (hle : Nat.ble args.length X.N = true)
    (hl : lessB (args.zipIdx.map fun p=>(p.2,p.1)) l)
    (hG : St X.w0 w G) (h : SX X c (bpN X.P fn R) l G) (hrd : X.rd = none:=by rfl) (hdf : X.df = []:=by rfl) : Calls X.P f args.toArray w R :=
  fncM hf hb hN hle hl hG (fun a w hk hs=>by
    have h1:=h a w hk hs
    rw [Cx.wp_none hrd] at h1 ⊢
    exact wp_mono h1 fun e a w h2=>by cases e <;> first | exact h2 | exact h2.elim) hrd hdf
end
theorem s9n {l : Look} (h : 0 ≤ nextI l) : (⟨l.query,([] ++ l.front.take (nextI l).toNat) ++ l.front.drop ((nextI l) + 1).toNat,l.found⟩ : Look) = nextL l:=by
  unfold nextL
  rw [List.nil_append,show ((nextI l) + 1).toNat = (nextI l).toNat + 1 by omega]
theorem kMarkO_ns : ∀ (w : World) (cs : List Value) (x : Mark) (o s : List Nat),kMarkO.Rel w cs x o s → s = []:=by
  rintro w cs x o s ⟨c1,c2,o1,o2,s1,s2,rfl,rfl,rfl,⟨-,-,rfl⟩,c3,c4,o3,o4,s3,s4,rfl,rfl,rfl,⟨-,-,rfl⟩,⟨-,-,rfl⟩⟩
  rfl
abbrev ndL (a : Arena) (l : Look) : Node := nodeAt a (markAt l).id
abbrev toL (a : Arena) (l : Look) (k : Nat) : Look := handTo (pushN a l) (seen (ndL a l)) k

theorem slices_Delete_impl_Mark_impl_Mark (w : World) (i : Nat) (j : Nat) {s : List Mark} {os_ : List Nat} (hst : St (nul w) w [dat (Kd.row 210 kMarkS) [.slice As s.length cs] s os_ ss_]) (hij : i ≤ j) (hjn : j ≤ s.length) : Calls Tryz.prog 258 #[.slice As s.length cs,.int .i64 ((i : Nat) : Int),.int .i64 ((j : Nat) : Int)] w (MadeO (Kd.row 210 kMarkS) w os_ (s.take i ++ s.drop j) (ss_)):=by
  have Ls:=Kd.row_len (hst.at 0 rfl); have Cs:=Kd.row_cap (hst.at 0 rfl)
  refine fnc (X:=X16 33 (nul w)) (l:=[(0,.slice As s.length cs),(1,.int .i64 ((i : Nat) : Int)),(2,.int .i64 ((j : Nat) : Int))]) Tryz.func258 rfl rfl rfl ⟨rfl,rfl,rfl,trivial⟩ (⟨hst.fr os_ (by simp [owns,dat,ptr]),trivial⟩ : _ ∧ True).1 ?_
  refine rn ik 12 [] rfl (vl (slm (i:=i) (j:=j) (m:=s.length) rfl rfl rfl rfl rfl rfl rfl rfl rfl rfl (by omega) (by omega) (by omega)) rfl (rn ik 10 [] rfl ?_))
  by_cases h1 : ((i : Nat) : Int) = ((j : Nat) : Int)
  · exact r1_ ik 9 [1] rfl (beq_iff_eq.2 h1) (f1 (gr (s.take i ++ s.drop j) (by rw [show j = i by omega,List.take_append_drop]) (ret1 rfl rfl (fun w_ hs_=>madeo hs_ 0 rfl rfl (by grind)))))
  · obtain ⟨bs,rfl⟩:=Kd.row_pos (hst.at 0 rfl) (by omega)
    refine r1_ ik 11 [0] rfl (beq_eq_false_iff_ne.2 h1) ?_
    refine rd (Gq:=[frm w os_]) [0] rfl (rn ik 2 [1,2] rfl (qv 2 rfl (shi (i:=i) rfl rfl rfl rfl rfl (by omega)) rfl (by kernel_rfl) (rn ik 2 [4,5] rfl (qv 5 rfl (slo (i:=j) rfl rfl rfl rfl rfl (by omega) (by omega)) rfl (by kernel_rfl) (q1 6 [0] rfl (by kernel_rfl) rfl (f1 (apd i j kMarkS_pure rfl info210 (by decide) rfl rfl rfl (by omega) (by omega) rfl (fun x2 o3 s4 q5 q6 t7=>?_))))))))
    refine qn (r1_ ik 9 [8,0] rfl ⟨[1],rfl⟩ (vl (slh (i:=(i + (s.length - j))) (j:=s.length) rfl rfl rfl rfl rfl rfl rfl rfl (by omega) (by omega)) rfl (clr (i + (s.length - j)) (z:=zMark) kMarkS_pure rfl info210 rfl (fun _=>⟨[_],_,[],[],[],[],rfl,rfl,rfl,⟨rfl,rfl,rfl⟩,⟨[_],_,[],[],[],[],rfl,rfl,rfl,⟨rfl,rfl,rfl⟩,⟨rfl,rfl,rfl⟩⟩⟩) (by decide) rfl rfl (by omega) (fun x8 o9 s10 q11 q12 t13=>?_))))
    refine rn ik 9 [] rfl (rcut (i + (s.length - j)) kMarkS_pure (by omega) (fun o14 s15 t16=>?_))
    exact gr (s.take i ++ s.drop j) (by rw [q11,q5]) (ret1 rfl rfl (fun w_ hs_=>madeo hs_ 0 rfl rfl (by grind)))
theorem spec_l9Next (w : World) {l : Look} {pl : Addr} (hl : (ptr kLookS pl [.int .i64 l.query.kind,.slice Al1 l.query.rect.low.length cl1,.slice Al2 l.query.rect.high.length cl2,.slice Al3 l.query.point.length cl3,.int .i64 l.query.k,.slice Al5 l.front.length cl5,.slice Al6 l.found.length cl6] l sl_).P w) (hn : 0 < l.front.length) : Calls Tryz.prog 180 #[.pointer (some pl)] w (fun e_ w2_=>e_ = .returned (.int .i64 (nextI l)) ∧ Below w.heap.size w w2_):=by
  have Ll5:=Kd.sub_len kLookS_p5_1 hl.2.2.2; have Cl5:=Kd.sub_cap kLookS_p5_1 hl.2.2.2 rfl
  refine fnc (X:=X16 45 w) (l:=[(0,.pointer (some pl))]) Tryz.func180 rfl rfl rfl ⟨rfl,trivial⟩ (s0p hl (s0n w)).1 ?_
  refine rn ik 11 [] rfl (vl (fb rfl rfl rfl) rfl (rn ik 4 [0,1] rfl ?_))
  by_cases h1 : l.query.kind = (4 : Int)
  · refine r1_ ik 15 [0] rfl (bne_eq_false_iff_eq.2 h1) ?_
    refine lp (σ:=Nat × Nat) (fun z_ : Nat × Nat=>match z_ with | (k,b)=>[(0,.pointer (some pl)),(3,.int .i64 ((b : Nat) : Int)),(4,.int .i64 ((k + 1 : Nat) : Int))])
        (fun z_ : Nat × Nat=>match z_ with | (k,b)=>[ptr kLookS pl [.int .i64 l.query.kind,.slice Al1 l.query.rect.low.length cl1,.slice Al2 l.query.rect.high.length cl2,.slice Al3 l.query.point.length cl3,.int .i64 l.query.k,.slice Al5 l.front.length cl5,.slice Al6 l.found.length cl6] l sl_])
        (fun z_ : Nat × Nat=>match z_ with | (k,b)=>k + 1 ≤ l.front.length ∧ b = bestTo l.front (k + 1)) (fun z_ : Nat × Nat=>match z_ with | (k,b)=>l.front.length - k) (0,0) [0] ⟨by omega,bestTo_1.symm⟩ ⟨rfl,rfl,rfl,trivial⟩ rfl ?_
    rintro ⟨k,b⟩ hp_
    obtain ⟨hk,hinv⟩:=hp_; have hbl:=bestTo_lt (l:=l.front) hn (k + 1) hk; rw [← hinv] at hbl
    refine rn ik 12 [0,6] rfl ?_
    by_cases h2 : ((k + 1 : Nat) : Int) < ((l.front.length : Nat) : Int)
    · refine r1_ ik 6 [1] rfl (decide_eq_true h2) ?_
      refine gp 0 kLookS_p5_1 rfl (cs':=[.slice Al5 l.front.length cl5]) rfl fun s3 w_ rs3 us3=>?_
      have Ls3:=Kd.sl_len rs3; have Cs3:=Kd.sl_cap rs3
      refine gx 0 (k + 1) rfl (by omega) fun y9 p4 cs_ s5 w8 m10 e6 r7 us5=>?_
      obtain ⟨rfl⟩:=kMarkS_sh r7
      refine gx 1 b rfl (by omega) fun y16 p11 cs_ s12 w15 m17 e13 r14 us12=>?_
      obtain ⟨rfl⟩:=kMarkS_sh r14
      refine rn ik 6 [1,2,3,4,3,6,5] rfl (qv 5 rfl (ix (k + 1) e6 rfl rfl rfl rfl rfl (by omega)) rfl (by kernel_rfl) (rn ik 7 [7,8,1,1,9,10,11,12,3,6,13] rfl (qv 13 rfl (ix b e13 rfl rfl rfl rfl rfl (by omega)) rfl (by kernel_rfl) (r1_ ik 5 [15,16,0,1,17,0] rfl ⟨[0,0,0,0],rfl⟩ ?_))))
      by_cases h18 : y9.dist < y16.dist
      · exact r1_ ik 9 [1] rfl (decide_eq_true h18) (vl (ra (c:=((k + 1 + 1 : Nat) : Int)) rfl rfl rfl (by omega) (by omega) (by omega)) rfl (rn ik 2 [] rfl (lpe (s:=(k,b)) (k + 1,k + 1) [3] ⟨by omega,best_on hinv m10 m17 h18⟩ (by show l.front.length - (k + 1) < l.front.length - k; omega) ⟨rfl,rfl,rfl,trivial⟩ rfl)))
      · exact r1_ ik 6 [0] rfl (decide_eq_false h18) (vl (ra (c:=((k + 1 + 1 : Nat) : Int)) rfl rfl rfl (by omega) (by omega) (by omega)) rfl (rn ik 2 [] rfl (lpe (s:=(k,b)) (k + 1,b) [3] ⟨by omega,best_off hinv m10 m17 h18⟩ (by show l.front.length - (k + 1) < l.front.length - k; omega) ⟨rfl,rfl,rfl,trivial⟩ rfl)))
    · refine r1_ ik 13 [0] rfl (decide_eq_false h2) (ret1 rfl rfl (fun w_ hs_=>⟨?_,hs_.below⟩))
      exact ri (next_4 h1 hinv (by omega))
  · refine r1_ ik 8 [1,0,6] rfl (bne_iff_ne.2 h1) (vl (rs (c:=((l.front.length : Nat) : Int) - 1) rfl rfl rfl rfl (by omega) (by omega)) rfl (rn ik 5 [] rfl (ret1 rfl rfl (fun w_ hs_=>⟨?_,hs_.below⟩))))
    exact ri (next_n h1)
theorem impl_Look_next (w : World) {c0_ : Value} {bl : Nat} {l : Look} {ol_ : List Nat} (hst : St (nul w) w [dat (Kd.row 158 (Kd.at1 c0_ kLookO)) [.slice (some ⟨bl,0,none⟩) 1 1] ([l]) ol_ sl_]) (hn : 0 < l.front.length) (hz : l.front.length ≤ 1048576) : Calls Tryz.prog 194 #[.pointer (some ⟨bl,1,none⟩)] w (TurnO (Kd.row 158 (Kd.at1 c0_ kLookO)) [.slice (some ⟨bl,0,none⟩) 1 1] (.agg #[.int .i64 ((markAt l).dist),.int .i64 ((markAt l).id),.int .i64 ((markAt l).nsn)]) w ol_ ([(nextL l)]) (sl_)):=by
  refine fnc (X:=X16 62 (nul w)) (l:=[(0,.pointer (some ⟨bl,1,none⟩))]) Tryz.func194 rfl rfl rfl ⟨rfl,trivial⟩ (⟨hst.fr ol_ (by simp [owns,dat,ptr]),trivial⟩ : _ ∧ True).1 ?_
  refine f1 (rowbox (fun cs_ o1 s2 w_ r3 us2=>?_))
  obtain ⟨cs2_,rfl,hc0_,r3a⟩:=r3
  obtain ⟨A4,c5,A6,c7,A8,c9,A10,c11,A12,c13,rfl⟩:=kLookO_sh r3a
  refine at1e (f1 (gsp (da:=(Kd.via kQueryO Look.query)) rfl rfl (fun o14 o15 s16 s17 us16 us17=>?_)))
  refine gv (f1 (gsp (da:=(Kd.via (Kd.row 210 kMarkO) Look.front)) rfl rfl (fun o18 o19 s20 s21 us20 us21=>?_)))
  refine gv (f1 (gv ?_))
  refine sq (rg (al zero210 rfl rfl rfl ?_))
  intro b22
  refine rn ik 9 [4,0] rfl (vl (rs (c:=((l.front.length - 1 : Nat) : Int)) rfl rfl rfl (by omega) (by omega) (by omega)) rfl (rn ik 14 [4,0] rfl ?_))
  by_cases h23 : l.query.kind = (4 : Int)
  · refine r1_ ik 17 [1,4,0] rfl (beq_iff_eq.2 h23) (f2 (gl (Kd.Seals.row kMarkO_seal _) (fun s24 us24=>?_)))
    refine lp (σ:=Nat × Nat) (fun z_ : Nat × Nat=>match z_ with | (k,b)=>[(0,.pointer (some ⟨bl,1,none⟩)),(2,.pointer (some ⟨b22,0,none⟩)),(3,.int .i64 ((b : Nat) : Int)),(22,.slice A10 l.front.length c11),(23,.int .i64 ((l.front.length : Nat) : Int)),(24,.int .i64 ((k : Nat) : Int))])
        (fun z_ : Nat × Nat=>match z_ with | (k,b)=>[dat (Kd.sl kMarkS) [.slice A10 l.front.length c11] l.front ([]) s24,blk b22 [.int .i64 0,.int .i64 0,.int .i64 0] 210,dat (Kd.row 208 kPairO) [.slice A12 l.found.length c13] l.found o19 s21,dat kQueryO [.int .i64 l.query.kind,.slice A4 l.query.rect.low.length c5,.slice A6 l.query.rect.high.length c7,.slice A8 l.query.point.length c9,.int .i64 l.query.k] l.query o14 s16,blk bl [c0_,.int .i64 l.query.kind,.slice A4 l.query.rect.low.length c5,.slice A6 l.query.rect.high.length c7,.slice A8 l.query.point.length c9,.int .i64 l.query.k,.slice A10 l.front.length c11,.slice A12 l.found.length c13] 158,frm w ol_])
        (fun z_ : Nat × Nat=>match z_ with | (k,b)=>k ≤ l.front.length ∧ b = bestTo l.front (k)) (fun z_ : Nat × Nat=>match z_ with | (k,b)=>l.front.length - k) (0,0) [0,0,0,0,0,0] ⟨by omega,rfl⟩ ⟨rfl,rfl,rfl,rfl,rfl,rfl,trivial⟩ rfl ?_
    rintro ⟨k,b⟩ hp_
    obtain ⟨hk,hinv⟩:=hp_; have hbl:=bestTo_lt (l:=l.front) hn (k) hk; rw [← hinv] at hbl
    refine rn ik 6 [] rfl ?_
    by_cases h25 : ((k : Nat) : Int) < ((l.front.length : Nat) : Int)
    · refine r1_ ik 8 [1] rfl (decide_eq_true h25) ?_
      refine gx 0 k rfl (by omega) fun y31 p26 cs_ s27 w30 m32 e28 r29 us27=>?_
      obtain ⟨rfl⟩:=kMarkS_sh r29
      refine vl (ix k e28 rfl rfl rfl rfl rfl (by omega)) rfl (vl (ldq 0 rfl rfl rfl rfl rfl rfl rfl) rfl (al zero210 rfl rfl rfl ?_))
      intro b33
      refine a_ rfl rfl (sto rfl rfl rfl rfl rfl rfl rfl (cs':=[.int .i64 y31.dist,.int .i64 y31.id,.int .i64 y31.nsn]) rfl (en (nx (sq ?_))))
      refine gx 2 b rfl (by omega) fun y39 p34 cs_ s35 w38 m40 e36 r37 us35=>?_
      obtain ⟨rfl⟩:=kMarkS_sh r37
      refine rn ik 8 [1,2,1,0,3,4,5,6,7,0,7] rfl (qv 7 rfl (ix b e36 rfl rfl rfl rfl rfl (by omega)) rfl (by kernel_rfl) (r1_ ik 5 [9,10,0,1,11,0] rfl ⟨[0,0,0,0,0,0,0,0,0],rfl⟩ ?_))
      by_cases h41 : y31.dist < y39.dist
      · exact r1_ ik 8 [1] rfl (decide_eq_true h41) (vl (ra (c:=((k + 1 : Nat) : Int)) rfl rfl rfl (by omega) (by omega) (by omega)) rfl (rn ik 2 [] rfl (lpe (s:=(k,b)) (k + 1,k) [3,3,3,3,3,3] ⟨by omega,best_on hinv m32 m40 h41⟩ (by show l.front.length - (k + 1) < l.front.length - k; omega) ⟨rfl,rfl,rfl,rfl,rfl,rfl,trivial⟩ rfl)))
      · exact r1_ ik 5 [0] rfl (decide_eq_false h41) (vl (ra (c:=((k + 1 : Nat) : Int)) rfl rfl rfl (by omega) (by omega) (by omega)) rfl (rn ik 2 [] rfl (lpe (s:=(k,b)) (k + 1,b) [3,3,3,3,3,3] ⟨by omega,best_off hinv m32 m40 h41⟩ (by show l.front.length - (k + 1) < l.front.length - k; omega) ⟨rfl,rfl,rfl,rfl,rfl,rfl,trivial⟩ rfl)))
    · refine r1_ ik 13 [0,4,0] rfl (decide_eq_false h25) ?_
      refine gx 0 b rfl (by omega) fun y47 p42 cs_ s43 w46 m48 e44 r45 us43=>?_
      obtain ⟨rfl⟩:=kMarkS_sh r45
      refine vl (ix b e44 rfl rfl rfl rfl rfl (by omega)) rfl (vl (ldq 0 rfl rfl rfl rfl rfl rfl rfl) rfl (al zero210 rfl rfl rfl ?_))
      intro b49
      refine sto rfl rfl rfl rfl rfl rfl rfl (cs':=[.int .i64 y47.dist,.int .i64 y47.id,.int .i64 y47.nsn]) rfl (rn ik 9 [6,0] rfl (cmm (dk:=(Kd.row 210 kMarkO)) (x:=l.front) (S:=[]) (by kernel_rfl) rfl rfl rfl sn0 w.heap.size (fun w_ hs_=>(hs_.mod 7 rfl).size) (fun w_ hs_=>slices_Clone_impl_Mark_impl_Mark w_ (hs_.at 2 rfl) (by omega)) (fun cs_ o52 s53 w_ r54 t55=>?_)))
      obtain ⟨A50,c51,rfl⟩:=Kd.row_sh r54
      refine rn ik 2 [] rfl (vl (ra (c:=((b + 1 : Nat) : Int)) rfl rfl rfl (by omega) (by omega) (by omega)) rfl (com (dk:=(Kd.row 210 kMarkO)) (x:=(List.take b l.front ++ List.drop (b + 1) l.front)) (S:=(s53)) (by kernel_rfl) rfl rfl rfl (snt 0 rfl) w.heap.size (fun w_ hs_=>(hs_.mod 8 rfl).size) (fun w_ hs_=>slices_Delete_impl_Mark_impl_Mark w_ _ _ ((hs_.pk [0] rfl).nl) (by omega) (by omega)) (fun cs_ o59 s60 w_ r61 t62=>?_)))
      obtain ⟨A57,c58,rfl⟩:=Kd.row_sh r61
      exact rn ik 2 [] rfl (f7 (sto rfl rfl rfl rfl rfl rfl rfl (cs':=[c0_,.int .i64 l.query.kind,.slice A4 l.query.rect.low.length c5,.slice A6 l.query.rect.high.length c7,.slice A8 l.query.point.length c9,.int .i64 l.query.k,.slice A57 ((List.take b l.front ++ List.drop (b + 1) l.front).length) c58,.slice A12 l.found.length c13]) rfl (rn ik 5 [2,0] rfl (f5 (sto rfl rfl rfl rfl rfl rfl rfl (cs':=[.int .i64 y47.dist,.int .i64 y47.id,.int .i64 y47.nsn]) rfl (en (nx (rt (f6 (f3 (gj (da:=(Kd.via (Kd.row 210 kMarkO) Look.front)) (db:=(Kd.via (Kd.row 208 kPairO) Look.found)) (x:=(⟨l.query,(List.take b l.front ++ List.drop (b + 1) l.front),l.found⟩ : Look)) rfl (f6 (gj (da:=(Kd.via kQueryO Look.query)) (db:=((Kd.via (Kd.row 210 kMarkO) Look.front).cat (Kd.via (Kd.row 208 kPairO) Look.found))) (x:=(⟨l.query,(List.take b l.front ++ List.drop (b + 1) l.front),l.found⟩ : Look)) rfl (at1i hc0_ (f2 (boxrow (gr [(nextL l)] (congrArg (fun z=>[z]) (nextL_of (next_4 h23 hinv (by omega)))) (retc 1 rfl rfl rfl rfl rfl rfl (fun w_ hs_=>turno hs_ 4 rfl (by rw [markAt_of (next_4 h23 hinv (by omega)) m48]) (see_app (by grind) (see_app (by grind) (by grind))))))))))))))))))))))
  · refine r1_ ik 10 [0,4,0] rfl (beq_eq_false_iff_ne.2 h23) (f2 (gl (Kd.Seals.row kMarkO_seal _) (fun s63 us63=>?_)))
    refine gx 0 (l.front.length - 1) rfl (by omega) fun y69 p64 cs_ s65 w68 m70 e66 r67 us65=>?_
    obtain ⟨rfl⟩:=kMarkS_sh r67
    refine vl (ix (l.front.length - 1) e66 rfl rfl rfl rfl rfl (by omega)) rfl (vl (ldq 0 rfl rfl rfl rfl rfl rfl rfl) rfl (al zero210 rfl rfl rfl ?_))
    intro b71
    refine sto rfl rfl rfl rfl rfl rfl rfl (cs':=[.int .i64 y69.dist,.int .i64 y69.id,.int .i64 y69.nsn]) rfl (rn ik 9 [6,0] rfl (cmm (dk:=(Kd.row 210 kMarkO)) (x:=l.front) (S:=[]) (by kernel_rfl) rfl rfl rfl sn0 w.heap.size (fun w_ hs_=>(hs_.mod 7 rfl).size) (fun w_ hs_=>slices_Clone_impl_Mark_impl_Mark w_ (hs_.at 2 rfl) (by omega)) (fun cs_ o74 s75 w_ r76 t77=>?_)))
    obtain ⟨A72,c73,rfl⟩:=Kd.row_sh r76
    refine rn ik 2 [] rfl (vl (ra (c:=((l.front.length - 1 + 1 : Nat) : Int)) rfl rfl rfl (by omega) (by omega) (by omega)) rfl (com (dk:=(Kd.row 210 kMarkO)) (x:=(List.take (l.front.length - 1) l.front ++ List.drop (l.front.length - 1 + 1) l.front)) (S:=(s75)) (by kernel_rfl) rfl rfl rfl (snt 0 rfl) w.heap.size (fun w_ hs_=>(hs_.mod 8 rfl).size) (fun w_ hs_=>slices_Delete_impl_Mark_impl_Mark w_ _ _ ((hs_.pk [0] rfl).nl) (by omega) (by omega)) (fun cs_ o81 s82 w_ r83 t84=>?_)))
    obtain ⟨A79,c80,rfl⟩:=Kd.row_sh r83
    exact rn ik 2 [] rfl (f7 (sto rfl rfl rfl rfl rfl rfl rfl (cs':=[c0_,.int .i64 l.query.kind,.slice A4 l.query.rect.low.length c5,.slice A6 l.query.rect.high.length c7,.slice A8 l.query.point.length c9,.int .i64 l.query.k,.slice A79 ((List.take (l.front.length - 1) l.front ++ List.drop (l.front.length - 1 + 1) l.front).length) c80,.slice A12 l.found.length c13]) rfl (rn ik 5 [2,0] rfl (f5 (sto rfl rfl rfl rfl rfl rfl rfl (cs':=[.int .i64 y69.dist,.int .i64 y69.id,.int .i64 y69.nsn]) rfl (en (nx (rt (f6 (f3 (gj (da:=(Kd.via (Kd.row 210 kMarkO) Look.front)) (db:=(Kd.via (Kd.row 208 kPairO) Look.found)) (x:=(⟨l.query,(List.take (l.front.length - 1) l.front ++ List.drop (l.front.length - 1 + 1) l.front),l.found⟩ : Look)) rfl (f6 (gj (da:=(Kd.via kQueryO Look.query)) (db:=((Kd.via (Kd.row 210 kMarkO) Look.front).cat (Kd.via (Kd.row 208 kPairO) Look.found))) (x:=(⟨l.query,(List.take (l.front.length - 1) l.front ++ List.drop (l.front.length - 1 + 1) l.front),l.found⟩ : Look)) rfl (at1i hc0_ (f2 (boxrow (gr [(nextL l)] (congrArg (fun z=>[z]) (nextL_of (by have z:=next_n h23; omega))) (retc 1 rfl rfl rfl rfl rfl rfl (fun w_ hs_=>turno hs_ 4 rfl (by rw [markAt_of (by have z:=next_n h23; omega) m70]) (see_app (by grind) (see_app (by grind) (by grind))))))))))))))))))))))
theorem slices_IndexFunc_impl_Mark_impl_Mark (w : World) (p : Mark → Bool) (hEp : enters Tryz.prog fp = true) {s : List Mark} (hs : (Kd.sl kMarkS).Rel w [.slice As s.length cs] s [] ss_) (hfp : ∀ (w1 : World) (x0 : Mark),x0 ∈ s → Below w.heap.size w w1 → ∀ s0_ : List Nat,kMarkS.Rel w1 [.int .i64 x0.dist,.int .i64 x0.id,.int .i64 x0.nsn] x0 [] s0_ → Calls Tryz.prog fp (([.agg #[.int .i64 x0.dist,.int .i64 x0.id,.int .i64 x0.nsn]] : List Value) ++ cfp).toArray w1 (fun e_ w2_=>e_ = .returned (.bool (p x0)) ∧ Below w1.heap.size w1 w2_))  : Calls Tryz.prog 257 #[.slice As s.length cs,.func (.func fp) #[] cfp.toArray] w (fun e_ w2_=>e_ = .returned (.int .i64 (idx p s)) ∧ Below w.heap.size w w2_):=by
  have Ls:=Kd.sl_len hs; have Cs:=Kd.sl_cap hs
  refine fnc (X:=X16 19 w) (l:=[(0,.slice As s.length cs),(1,.func (.func fp) #[] cfp.toArray)]) Tryz.func257 rfl rfl rfl ⟨rfl,rfl,trivial⟩ (s0d hs (s0n w)).1 ?_
  refine rn ik 14 [] rfl ?_
  refine lp (σ:=Nat) (fun k : Nat=>[(0,.slice As s.length cs),(1,.func (.func fp) #[] cfp.toArray),(7,.int .i64 ((s.length : Nat) : Int)),(8,.int .i64 ((k : Nat) : Int))])
      (fun k : Nat=>[dat (Kd.sl kMarkS) [.slice As s.length cs] s ([]) ss_])
      (fun k : Nat=>k ≤ s.length ∧ ∀ j x,j < k → s[j]? = some x → p x = false) (fun k : Nat=>s.length - k) 0 [0] ⟨Nat.zero_le _,by simp⟩ ⟨rfl,rfl,rfl,rfl,trivial⟩ rfl ?_
  intro k hp_
  obtain ⟨hk,hinv⟩:=hp_
  refine rn ik 6 [] rfl ?_
  by_cases h1 : ((k : Nat) : Int) < ((s.length : Nat) : Int)
  · refine r1_ ik 16 [1] rfl (decide_eq_true h1) ?_
    refine gx 0 k rfl (by omega) fun y7 p2 cs_ s3 w6 m8 e4 r5 us3=>?_
    obtain ⟨rfl⟩:=kMarkS_sh r5
    refine vl (ix k e4 rfl rfl rfl rfl rfl (by omega)) rfl (vl (ldq 0 rfl rfl rfl rfl rfl rfl rfl) rfl ?_)
    refine gp 0 Kd.Sub.rfl rfl (cs':=[.int .i64 y7.dist,.int .i64 y7.id,.int .i64 y7.nsn]) rfl fun s9 w_ rs9 us9=>?_
    refine cv_ (v:=.bool (p y7)) hEp rfl rfl rfl rfl (fun w_ hs_=>hfp w_ y7 (List.mem_of_getElem? m8) hs_.below  _ (hs_.at 0 rfl)) (en (nx ?_))
    by_cases h10 : p y7 = true
    · refine r1_ ik 13 [1] rfl h10 (ret1 rfl rfl (fun w_ hs_=>⟨?_,hs_.below⟩))
      rw [idx_some hinv m8 h10]
    · exact r1_ ik 5 [0] rfl (Bool.eq_false_iff.2 h10) (vl (ra (c:=((k + 1 : Nat) : Int)) rfl rfl rfl (by omega) (by omega) (by omega)) rfl (rn ik 2 [] rfl (lpe (s:=k) (k + 1) [2] ⟨by omega,idx_step hinv m8 (Bool.eq_false_iff.2 h10)⟩ (by omega) ⟨rfl,rfl,rfl,rfl,trivial⟩ rfl)))
  · refine r1_ ik 12 [0] rfl (decide_eq_false h1) (ret1 rfl rfl (fun w_ hs_=>⟨?_,hs_.below⟩))
    rw [idx_none hinv (by omega)]
theorem slices_ContainsFunc_impl_Mark_impl_Mark (w : World) (p : Mark → Bool) (hEp : enters Tryz.prog fp = true) {s : List Mark} (hs : (Kd.sl kMarkS).Rel w [.slice As s.length cs] s [] ss_) (hfp : ∀ (w1 : World) (x0 : Mark),x0 ∈ s → Below w.heap.size w w1 → ∀ s0_ : List Nat,kMarkS.Rel w1 [.int .i64 x0.dist,.int .i64 x0.id,.int .i64 x0.nsn] x0 [] s0_ → Calls Tryz.prog fp (([.agg #[.int .i64 x0.dist,.int .i64 x0.id,.int .i64 x0.nsn]] : List Value) ++ cfp).toArray w1 (fun e_ w2_=>e_ = .returned (.bool (p x0)) ∧ Below w1.heap.size w1 w2_))  : Calls Tryz.prog 192 #[.slice As s.length cs,.func (.func fp) #[] cfp.toArray] w (fun e_ w2_=>e_ = .returned (.bool (List.any s p)) ∧ Below w.heap.size w w2_):=by
  have Ls:=Kd.sl_len hs; have Cs:=Kd.sl_cap hs
  refine fnc (X:=X16 9 w) (l:=[(0,.slice As s.length cs),(1,.func (.func fp) #[] cfp.toArray)]) Tryz.func192 rfl rfl rfl ⟨rfl,rfl,trivial⟩ (s0d hs (s0n w)).1 ?_
  refine rn ik 9 [] rfl (cs_ (v:=.int .i64 (idx p s)) (by kernel_rfl) rfl rfl rfl (fun w_ hs_=>slices_IndexFunc_impl_Mark_impl_Mark w_ p hEp (hs_.at 0 rfl) (fun w1 x0 m0_ b_=>hfp w1 x0 m0_ (hs_.below.trans (b_.mono hs_.below.size)))) (rn ik 5 [] rfl (ret1 rfl rfl (fun w_ hs_=>⟨?_,hs_.below⟩))))
  rw [idx_ge]
theorem impl_Look_isDone_1 (w : World)  {m : Mark} {sm_ : List Nat} (hm : kMarkS.Rel w [.int .i64 m.dist,.int .i64 m.id,.int .i64 m.nsn] m [] sm_)  {far : Int} {sfar_ : List Nat} {pfar : Addr} (hfar : (ptr Kd.i64 pfar [.int .i64 far] far sfar_).P w)  : Calls Tryz.prog 193 #[.agg #[.int .i64 m.dist,.int .i64 m.id,.int .i64 m.nsn],.pointer (some pfar)] w (fun e_ w2_=>e_ = .returned (.bool (decide (m.dist ≤ far))) ∧ Below w.heap.size w w2_):=by
  refine fnc (X:=X16 8 w) (l:=[(0,.agg #[.int .i64 m.dist,.int .i64 m.id,.int .i64 m.nsn]),(1,.pointer (some pfar))]) Tryz.func193 rfl rfl rfl ⟨rfl,rfl,trivial⟩ (s0p hfar (s0d hm (s0n w))).1 ?_
  refine sq (rg (bx rfl rfl rfl rfl ?_))
  intro b1
  refine rn ik 13 [0,0,1,0] rfl (ret1 rfl rfl (fun w_ hs_=>⟨?_,hs_.below⟩))
  rfl
theorem impl_Look_isDone (w : World) {l : Look} (hl : kLookS.Rel w [.int .i64 l.query.kind,.slice Al1 l.query.rect.low.length cl1,.slice Al2 l.query.rect.high.length cl2,.slice Al3 l.query.point.length cl3,.int .i64 l.query.k,.slice Al5 l.front.length cl5,.slice Al6 l.found.length cl6] l [] sl_) {d : Nat} (hd : d ≤ 3) (yFl : ∀ x ∈ l.found,FitR d x.rect) (yFq : FitQ d l.query) (hz : l.found.length ≤ 1000) (yFs : ∀ x ∈ l.found,szPair x ≤ 1048576) (yU : ∀ x ∈ l.found,∀ y ∈ l.found,x.id = y.id → x = y) (yN : l.found.Nodup) : Calls Tryz.prog 119 #[.agg #[.int .i64 l.query.kind,.slice Al1 l.query.rect.low.length cl1,.slice Al2 l.query.rect.high.length cl2,.slice Al3 l.query.point.length cl3,.int .i64 l.query.k,.slice Al5 l.front.length cl5,.slice Al6 l.found.length cl6]] w (fun e_ w2_=>e_ = .returned (.bool (doneL l)) ∧ Below w.heap.size w w2_):=by
  have Ll5:=Kd.sub_len kLookS_p5_1 hl; have Cl5:=Kd.sub_cap kLookS_p5_1 hl rfl
  have tll:=tell_len l; have all_:=anl_len l.found l.query
  refine fnc (X:=X16 37 w) (l:=[(0,.agg #[.int .i64 l.query.kind,.slice Al1 l.query.rect.low.length cl1,.slice Al2 l.query.rect.high.length cl2,.slice Al3 l.query.point.length cl3,.int .i64 l.query.k,.slice Al5 l.front.length cl5,.slice Al6 l.found.length cl6])]) Tryz.func119 rfl rfl rfl ⟨rfl,trivial⟩ (s0d hl (s0n w)).1 ?_
  refine sq (rg (bx rfl rfl rfl rfl ?_))
  intro b1
  refine rn ik 12 [0,0] rfl ?_
  by_cases h2 : ((l.front.length : Nat) : Int) = (0 : Int)
  · refine r1_ ik 8 [1] rfl (beq_iff_eq.2 h2) (ret1 rfl rfl (fun w_ hs_=>⟨?_,hs_.below⟩))
    exact rb (done_0 h2)
  · refine r1_ ik 12 [0,0,0] rfl (beq_eq_false_iff_ne.2 h2) ?_
    by_cases h3 : l.query.kind = (4 : Int)
    · have yk:=yFq.k h3
      refine r1_ ik 6 [0,0,0] rfl (bne_eq_false_iff_eq.2 h3) (cm_ (dk:=(Kd.row 208 kPairO)) (x:=(answerL l.found l.query)) (S:=[]) (by kernel_rfl) rfl rfl rfl sn0 (fun w_ hs_=>impl_Look_nearest w_ (hs_.at 1 rfl) hd yFl yFq hz yFs h3 yU yN) (fun cs_ o6 s7 w_ r8 t9=>?_))
      obtain ⟨A4,c5,rfl⟩:=Kd.row_sh r8
      refine rn ik 14 [1,0] rfl ?_
      by_cases h11 : (((answerL l.found l.query).length : Nat) : Int) < l.query.k
      · refine r1_ ik 8 [1] rfl (decide_eq_true h11) (ret1 rfl rfl (fun w_ hs_=>⟨?_,hs_.below⟩))
        exact rb (done_k h2 h3 (by first | exact h11 | (rw [← tell_ans h3]; exact h11)))
      · refine r1_ ik 4 [0] rfl (decide_eq_false h11) ?_
        refine gl (Kd.Seals.row kPairO_seal _) (fun s12 us12=>?_)
        refine gx 0 ((answerL l.found l.query).length - 1) rfl (by omega) fun y18 p13 cs_ s14 w17 m19 e15 r16 us14=>?_
        obtain ⟨A20,c21,A22,c23,rfl⟩:=kPairS_sh r16
        refine gp 0 kPairS_p1_2 rfl (cs':=[.slice A20 y18.rect.low.length c21,.slice A22 y18.rect.high.length c23]) rfl fun s24 w_ rs24 us24=>?_
        refine gd 4 kLookS_p3_1 rfl (cs':=[.slice Al3 l.query.point.length cl3]) rfl fun s25 w_ rs25 us25=>?_
        have Ls25:=Kd.sl_len rs25; have Cs25:=Kd.sl_cap rs25
        refine rx (σ:=Nat) (fun z_ : Nat=>match z_ with | b26=>[(1,.pointer (some ⟨b1,0,none⟩)),(4,.pointer (some ⟨b26,0,none⟩))])
            (fun z_ : Nat=>match z_ with | b26=>[blk b26 [.int .i64 (distR y18.rect l.query.point)] 2,dat (Kd.sl Kd.i64) [.slice Al3 l.query.point.length cl3] l.query.point ([]) s25,dat kRectS [.slice A20 y18.rect.low.length c21,.slice A22 y18.rect.high.length c23] y18.rect ([]) s24,ptr kPairS p13 [.int .i64 y18.id,.slice A20 y18.rect.low.length c21,.slice A22 y18.rect.high.length c23] y18 s14,dat (Kd.sl kPairS) [.slice A4 ((answerL l.found l.query).length) c5] (answerL l.found l.query) ([]) s12,blk b1 [.int .i64 l.query.kind,.slice Al1 l.query.rect.low.length cl1,.slice Al2 l.query.rect.high.length cl2,.slice Al3 l.query.point.length cl3,.int .i64 l.query.k,.slice Al5 l.front.length cl5,.slice Al6 l.found.length cl6] 156,dat kLookS [.int .i64 l.query.kind,.slice Al1 l.query.rect.low.length cl1,.slice Al2 l.query.rect.high.length cl2,.slice Al3 l.query.point.length cl3,.int .i64 l.query.k,.slice Al5 l.front.length cl5,.slice Al6 l.found.length cl6] l ([]) sl_])
            (fun z_ : Nat=>match z_ with | b26=>True) ?_ ?_
        · rintro b26 -
          refine rn ik 5 [5,0] rfl (vl (mf rfl rfl rfl) rfl ?_)
          refine gd 6 kLookS_p5_1 rfl (cs':=[.slice Al5 l.front.length cl5]) rfl fun s28 w_ rs28 us28=>?_
          have Ls28:=Kd.sl_len rs28; have Cs28:=Kd.sl_cap rs28
          refine gs Kd.i64 [.int .i64 (distR y18.rect l.query.point)] (distR y18.rect l.query.point) (fun _=>⟨rfl,rfl,rfl⟩) ?_
          refine cs_ (v:=.bool (List.any l.front (fun (x0 : Mark)=>decide (x0.dist ≤ (distR y18.rect l.query.point))))) (by kernel_rfl) rfl rfl rfl (fun w_ hs_=>slices_ContainsFunc_impl_Mark_impl_Mark w_ (fun (x0 : Mark)=>decide (x0.dist ≤ (distR y18.rect l.query.point))) (by kernel_rfl) (hs_.at 1 rfl) (fun w1 x0 m0_ b_ _ r0_=>impl_Look_isDone_1 w1  r0_ (ptr_blk ((hs_.step b_).at 2 rfl) ((hs_.step b_).at 0 rfl) rfl))) (rn ik 5 [] rfl (ret1 rfl rfl (fun w_ hs_=>⟨?_,hs_.below⟩)))
          exact rb (done_f h2 h3 (by first | exact h11 | (rw [← tell_ans h3]; exact h11)) (far_of (l:=l) (i:=(answerL l.found l.query).length - 1) (by first | rfl | rw [tell_ans h3]) (by first | exact m19 | (rw [← tell_ans h3]; exact m19))))
        · refine rn ik 4 [1,2,3] rfl (qv 3 rfl (rs (c:=(((answerL l.found l.query).length - 1 : Nat) : Int)) rfl rfl rfl (by omega) (by omega) (by omega)) rfl (by kernel_rfl) (qv 4 rfl (ix ((answerL l.found l.query).length - 1) e15 rfl rfl rfl rfl rfl (by omega)) rfl (by kernel_rfl) (rn ik 5 [6,7,2,2,8,9,10,4,0] rfl ?_)))
          refine qo 10 11 [0,0,0,0,0,0] rfl rfl (by kernel_rfl) rfl ?_ ?_
          · refine cs_ (v:=.int .i64 (distR y18.rect l.query.point)) (by kernel_rfl) rfl rfl rfl (fun w_ hs_=>by exact impl_distance w_ (hs_.at 1 rfl) (hs_.at 0 rfl) hd (yFl _ (by first | exact ans_mem (List.mem_of_getElem? m19) | exact ans_mem (by rw [tell_ans h3]; exact List.mem_of_getElem? m19))) (yFq.pt (.inr h3))) (qn (q1 11 [0,0,0,0,0,0] rfl (by kernel_rfl) rfl (al zero2 rfl rfl rfl ?_)))
            intro b29
            exact qn (q1 12 [1,1,1,1,1,1] rfl (by kernel_rfl) rfl (sto rfl rfl rfl rfl rfl rfl rfl (cs':=[.int .i64 (distR y18.rect l.query.point)]) rfl (qn (qe [1,1,1,1,1,1] (by kernel_rfl) rfl (cx b29 [0,0,0,0,0,0,0] trivial ⟨rfl,rfl,trivial⟩ rfl)))))
          · refine al zero2 rfl rfl rfl ?_
            intro b30
            exact qn (q1 10 [1,1,1,1,1,1] rfl (by kernel_rfl) rfl (cs_ (v:=.int .i64 (distR y18.rect l.query.point)) (by kernel_rfl) rfl rfl rfl (fun w_ hs_=>by exact impl_distance w_ (hs_.at 2 rfl) (hs_.at 1 rfl) hd (yFl _ (by first | exact ans_mem (List.mem_of_getElem? m19) | exact ans_mem (by rw [tell_ans h3]; exact List.mem_of_getElem? m19))) (yFq.pt (.inr h3))) (qn (q1 12 [1,1,1,1,1,1] rfl (by kernel_rfl) rfl (sto rfl rfl rfl rfl rfl rfl rfl (cs':=[.int .i64 (distR y18.rect l.query.point)]) rfl (qn (qe [1,1,1,1,1,1] (by kernel_rfl) rfl (cx b30 [0,0,0,0,0,0,0] trivial ⟨rfl,rfl,trivial⟩ rfl))))))))
    · refine r1_ ik 8 [1] rfl (bne_iff_ne.2 h3) (ret1 rfl rfl (fun w_ hs_=>⟨?_,hs_.below⟩))
      exact rb (done_n h2 h3)
theorem spec_l9Done (w : World) {l : Look} {pl : Addr} (hl : (ptr kLookS pl [.int .i64 l.query.kind,.slice Al1 l.query.rect.low.length cl1,.slice Al2 l.query.rect.high.length cl2,.slice Al3 l.query.point.length cl3,.int .i64 l.query.k,.slice Al5 l.front.length cl5,.slice Al6 l.found.length cl6] l sl_).P w) {d : Nat} (hd : d ≤ 3) (yFl : ∀ x ∈ l.found,FitR d x.rect) (yFq : FitQ d l.query) (hz : l.found.length ≤ 1000) (yFs : ∀ x ∈ l.found,szPair x ≤ 1048576) (yU : ∀ x ∈ l.found,∀ y ∈ l.found,x.id = y.id → x = y) (yN : l.found.Nodup) : Calls Tryz.prog 112 #[.pointer (some pl)] w (fun e_ w2_=>e_ = .returned (.bool (doneL l)) ∧ Below w.heap.size w w2_):=by
  have Ll5:=Kd.sub_len kLookS_p5_1 hl.2.2.2; have Cl5:=Kd.sub_cap kLookS_p5_1 hl.2.2.2 rfl
  have tll:=tell_len l; have all_:=anl_len l.found l.query
  refine fnc (X:=X16 59 w) (l:=[(0,.pointer (some pl))]) Tryz.func112 rfl rfl rfl ⟨rfl,trivial⟩ (s0p hl (s0n w)).1 ?_
  refine rn ik 16 [0,6] rfl ?_
  by_cases h1 : ((l.front.length : Nat) : Int) = (0 : Int)
  · refine r1_ ik 8 [1] rfl (beq_iff_eq.2 h1) (ret1 rfl rfl (fun w_ hs_=>⟨?_,hs_.below⟩))
    exact rb (done_0 h1)
  · refine r1_ ik 9 [0] rfl (beq_eq_false_iff_ne.2 h1) (vl (fb rfl rfl rfl) rfl (rn ik 4 [0,1] rfl ?_))
    by_cases h2 : l.query.kind = (4 : Int)
    · have yk:=yFq.k h2
      refine r1_ ik 6 [0] rfl (bne_eq_false_iff_eq.2 h2) (cm_ (dk:=(Kd.sl kPairS)) (x:=(tellL l)) (S:=[]) (by kernel_rfl) rfl rfl rfl sn0 (fun w_ hs_=>spec_l9Answer w_ (hs_.at 0 rfl) hd yFl yFq hz yFs) (fun cs_ o5 s6 w_ r7 t8=>?_))
      obtain ⟨rfl,A3,c4,rfl,Cr7,Lr7,-⟩:=r7
      refine rn ik 11 [] rfl (vl (fb rfl rfl rfl) rfl (rn ik 4 [1,5] rfl ?_))
      by_cases h10 : (((tellL l).length : Nat) : Int) < l.query.k
      · refine r1_ ik 8 [1] rfl (decide_eq_true h10) (ret1 rfl rfl (fun w_ hs_=>⟨?_,hs_.below⟩))
        exact rb (done_k h1 h2 (by first | exact h10 | (rw [← tell_ans h2]; exact h10)))
      · refine r1_ ik 4 [0] rfl (decide_eq_false h10) ?_
        refine gx 0 ((tellL l).length - 1) rfl (by omega) fun y16 p11 cs_ s12 w15 m17 e13 r14 us12=>?_
        obtain ⟨A18,c19,A20,c21,rfl⟩:=kPairS_sh r14
        refine gq 0 kPairS_p1_2 rfl (cs':=[.slice A18 y16.rect.low.length c19,.slice A20 y16.rect.high.length c21]) rfl fun s22 w_ rs22 us22=>?_
        refine gp 3 kLookS_p3_1 rfl (cs':=[.slice Al3 l.query.point.length cl3]) rfl fun s23 w_ rs23 us23=>?_
        have Ls23:=Kd.sl_len rs23; have Cs23:=Kd.sl_cap rs23
        refine rn ik 4 [1,2,3] rfl (qv 3 rfl (rs (c:=(((tellL l).length - 1 : Nat) : Int)) rfl rfl rfl (by omega) (by omega) (by omega)) rfl (by kernel_rfl) (qv 4 rfl (ix ((tellL l).length - 1) e13 rfl rfl rfl rfl rfl (by omega)) rfl (by kernel_rfl) (rn ik 4 [6,7,8,9] rfl (qv 9 rfl (fb rfl rfl rfl) rfl (by kernel_rfl) (qv 10 rfl (ldp (u:=.slice Al3 l.query.point.length cl3) 4 rfl rfl rfl rfl rfl rfl rfl) rfl (by kernel_rfl) (q1 11 [0,0,0,0,0] rfl (by kernel_rfl) rfl (cs_ (v:=.int .i64 (distR y16.rect l.query.point)) (by kernel_rfl) rfl rfl rfl (fun w_ hs_=>by exact spec_l1Dist w_ (hs_.at 1 rfl) (hs_.at 0 rfl) hd (yFl _ (by first | exact ans_mem (List.mem_of_getElem? m17) | exact ans_mem (by rw [tell_ans h2]; exact List.mem_of_getElem? m17))) (yFq.pt (.inr h2))) (qn (r1_ ik 10 [13,0] rfl ⟨[0,0,0,0,0],rfl⟩ ?_)))))))))
        refine lp (σ:=Nat) (fun k : Nat=>[(0,.pointer (some pl)),(4,.int .i64 (distR y16.rect l.query.point)),(5,.int .i64 ((k : Nat) : Int))])
            (fun k : Nat=>[dat (Kd.sl Kd.i64) [.slice Al3 l.query.point.length cl3] l.query.point ([]) s23,ptr kPairS p11 [.int .i64 y16.id,.slice A18 y16.rect.low.length c19,.slice A20 y16.rect.high.length c21] y16 s12,ptr kLookS pl [.int .i64 l.query.kind,.slice Al1 l.query.rect.low.length cl1,.slice Al2 l.query.rect.high.length cl2,.slice Al3 l.query.point.length cl3,.int .i64 l.query.k,.slice Al5 l.front.length cl5,.slice Al6 l.found.length cl6] l sl_])
            (fun k : Nat=>k ≤ l.front.length ∧ ∀ j x,j < k → l.front[j]? = some x → decide (x.dist ≤ distR y16.rect l.query.point) = false) (fun k : Nat=>l.front.length - k) 0 [0,1,2] ⟨Nat.zero_le _,by simp⟩ ⟨rfl,rfl,rfl,trivial⟩ rfl ?_
        intro k hp_
        obtain ⟨hk,hinv⟩:=hp_
        refine rn ik 12 [2,6] rfl ?_
        by_cases h24 : ((k : Nat) : Int) < ((l.front.length : Nat) : Int)
        · refine r1_ ik 12 [1,2,6] rfl (decide_eq_true h24) ?_
          refine gp 2 kLookS_p5_1 rfl (cs':=[.slice Al5 l.front.length cl5]) rfl fun s25 w_ rs25 us25=>?_
          have Ls25:=Kd.sl_len rs25; have Cs25:=Kd.sl_cap rs25
          refine gx 0 k rfl (by omega) fun y31 p26 cs_ s27 w30 m32 e28 r29 us27=>?_
          obtain ⟨rfl⟩:=kMarkS_sh r29
          refine vl (ix k e28 rfl rfl rfl rfl rfl (by omega)) rfl (rn ik 6 [0,1] rfl ?_)
          by_cases h33 : y31.dist ≤ (distR y16.rect l.query.point)
          · refine r1_ ik 12 [1] rfl (decide_eq_true h33) (ret1 rfl rfl (fun w_ hs_=>⟨?_,hs_.below⟩))
            exact rb (by rw [← (done_f h1 h2 (by first | exact h10 | (rw [← tell_ans h2]; exact h10)) (far_of (l:=l) (i:=(tellL l).length - 1) (by first | rfl | rw [tell_ans h2]) (by first | exact m17 | (rw [← tell_ans h2]; exact m17)))),any_some (p:=(fun m : Mark=>decide (m.dist ≤ distR y16.rect l.query.point))) m32 (decide_eq_true h33)]; rfl)
          · exact r1_ ik 6 [0] rfl (decide_eq_false h33) (vl (ra (c:=((k + 1 : Nat) : Int)) rfl rfl rfl (by omega) (by omega) (by omega)) rfl (rn ik 2 [] rfl (lpe (s:=k) (k + 1) [2,2,2] ⟨by omega,idx_step (p:=fun m : Mark=>decide (m.dist ≤ distR y16.rect l.query.point)) hinv m32 (decide_eq_false h33)⟩ (by omega) ⟨rfl,rfl,rfl,trivial⟩ rfl)))
        · refine r1_ ik 12 [0] rfl (decide_eq_false h24) (ret1 rfl rfl (fun w_ hs_=>⟨?_,hs_.below⟩))
          exact rb (by rw [← (done_f h1 h2 (by first | exact h10 | (rw [← tell_ans h2]; exact h10)) (far_of (l:=l) (i:=(tellL l).length - 1) (by first | rfl | rw [tell_ans h2]) (by first | exact m17 | (rw [← tell_ans h2]; exact m17)))),any_none (p:=(fun m : Mark=>decide (m.dist ≤ distR y16.rect l.query.point))) hinv (by omega)]; rfl)
    · refine r1_ ik 8 [1] rfl (bne_iff_ne.2 h2) (ret1 rfl rfl (fun w_ hs_=>⟨?_,hs_.below⟩))
      exact rb (done_n h1 h2)
end Go.Proofs.YtjdkfibeogiekaaGreat.Sx
