/- What functions of the program answer, each at every input that its row names; walked through their code. -/
import Derived.Test.YtjdkfibeogiekaaGreatSy30
namespace Go.Proofs.YtjdkfibeogiekaaGreat.Sx
open Go Go.RowKit Go.Proofs
set_option linter.unusedVariables false
set_option linter.unusedSimpArgs false
set_option maxRecDepth 20000
set_option maxHeartbeats 2000000
variable {Aa1 : Option Addr} {ca1 : Nat} {sa_ : List Nat}
def tab31 : Tab := { size := [(68, 8, true), (72, 5, true), (75, 1, false), (77, 3, true), (80, 8, true), (84, 5, true)], off := [((77, 1), 1)], elem := [] }
theorem tab_ok31 : tab31.check Tryz.prog = true:=by kernel_rfl
noncomputable abbrev X31 (N : Nat) (w : World) : Cx := ⟨Tryz.prog, tab31, tab_ok31, wide, N, w, none, []⟩





def mkV_RunLookResult (k : Int) (a : RunLookResult) : RunLookResult := ⟨a.code, mkL mkE_Pair cntE_Pair (k) a.pairs, a.steps⟩

theorem laws_markRunLookResult (w : World) (k : Int) {a : RunLookResult} {oa_ : List Nat} (hst : St (nul w) w [dat kRunLookResultO [.int .i64 a.code,.slice Aa1 a.pairs.length ca1,.int .i64 a.steps] a oa_ sa_]) (hk0 : 0 ≤ k) (hk1 : k + (0 + (a.pairs.map cntE_Pair).sum) ≤ 1152921504606846976) : Calls Tryz.prog 46 #[.agg #[.int .i64 a.code,.slice Aa1 a.pairs.length ca1,.int .i64 a.steps],.int .i64 k] w (TurnO kRunLookResultO [.int .i64 a.code,.slice Aa1 a.pairs.length ca1,.int .i64 a.steps] (.int .i64 (k + (a.pairs.map cntE_Pair).sum)) w oa_ (mkV_RunLookResult k a) (sa_)):=by
  have zn0:=sum_nn cntE_Pair_nn a.pairs
  refine fnc (X:=X31 10 (nul w)) (l:=[(0,.agg #[.int .i64 a.code,.slice Aa1 a.pairs.length ca1,.int .i64 a.steps]),(1,.int .i64 k)]) Tryz.func46 rfl rfl rfl ⟨rfl,rfl,trivial⟩ (⟨hst.fr oa_ (by simp [owns,dat,ptr]),trivial⟩ : _ ∧ True).1 ?_
  refine f1 (gsp (da:=(Kd.via Kd.i64 RunLookResult.code)) rfl rfl (fun o1 o2 s3 s4 us3 us4=>?_))
  refine gv (f1 (gsp (da:=(Kd.via (Kd.row 208 kPairO) RunLookResult.pairs)) rfl rfl (fun o5 o6 s7 s8 us7 us8=>?_)))
  refine gv (f1 (gv ?_))
  refine sq (rg (bx rfl rfl rfl rfl ?_))
  intro b9
  refine rn ik 8 [0,0] rfl (f2 (cto (dk:=(Kd.row 208 kPairO)) (cs:=[.slice Aa1 a.pairs.length ca1]) (x:=(mkL mkE_Pair cntE_Pair k a.pairs)) (v:=.int .i64 (k + (a.pairs.map cntE_Pair).sum)) (S:=(s7)) (by kernel_rfl) rfl rfl rfl (snt 0 rfl) w.heap.size (fun w_ hs_=>(hs_.mod 4 rfl).size) (fun w_ hs_=>laws_markPairS w_ _ ((hs_.pk [0] rfl).nl) (by omega) (by omega)) (fun o10 s11 t12=>?_)))
  exact rn ik 10 [] rfl (gs Kd.i64 [.int .i64 a.steps] ((mkV_RunLookResult k a).steps) (fun _=>⟨rfl,rfl,rfl⟩) (f1 (gj (da:=(Kd.via (Kd.row 208 kPairO) RunLookResult.pairs)) (db:=(Kd.via Kd.i64 RunLookResult.steps)) (x:=(mkV_RunLookResult k a)) rfl (gs Kd.i64 [.int .i64 a.code] ((mkV_RunLookResult k a).code) (fun _=>⟨rfl,rfl,rfl⟩) (gj (da:=(Kd.via Kd.i64 RunLookResult.code)) (db:=((Kd.via (Kd.row 208 kPairO) RunLookResult.pairs).cat (Kd.via Kd.i64 RunLookResult.steps))) (x:=(mkV_RunLookResult k a)) rfl (ret1 rfl rfl (fun w_ hs_=>turno hs_ 3 rfl (by exact vi (by omega)) (see_app see_nil (see_app (by grind) see_nil)))))))))
theorem laws_heldRunLookResult (w : World) (k : Int) {na1 : Nat} {a : RunLookResult} (ha : kRunLookResultS.Rel w [.int .i64 ((mkV_RunLookResult k a).code),.slice Aa1 na1 ca1,.int .i64 ((mkV_RunLookResult k a).steps)] (mkV_RunLookResult k a) [] sa_) (hk0 : 0 ≤ k) (hk1 : k + (0 + (a.pairs.map cntE_Pair).sum) ≤ 1152921504606846976) : Calls Tryz.prog 47 #[.agg #[.int .i64 ((mkV_RunLookResult k a).code),.slice Aa1 na1 ca1,.int .i64 ((mkV_RunLookResult k a).steps)],.int .i64 k] w (fun e_ w2_=>e_ = .returned (.int .i64 (k + (a.pairs.map cntE_Pair).sum)) ∧ Below w.heap.size w w2_):=by
  have zn0:=sum_nn cntE_Pair_nn a.pairs
  refine fnc (X:=X31 12 w) (l:=[(0,.agg #[.int .i64 ((mkV_RunLookResult k a).code),.slice Aa1 na1 ca1,.int .i64 ((mkV_RunLookResult k a).steps)]),(1,.int .i64 k)]) Tryz.func47 rfl rfl rfl ⟨rfl,rfl,trivial⟩ (s0d ha (s0n w)).1 ?_
  refine sq (rg (bx rfl rfl rfl rfl ?_))
  intro b1
  refine rn ik 8 [0,0] rfl ?_
  refine gd 1 kRunLookResultS_p1_1 rfl (cs':=[.slice Aa1 na1 ca1]) rfl fun s2 w_ rs2 us2=>?_
  have Ls2:=Kd.sl_len rs2; have Cs2:=Kd.sl_cap rs2
  refine gr (mkL mkE_Pair cntE_Pair k a.pairs) rfl (cs_ (v:=.int .i64 (k + (a.pairs.map cntE_Pair).sum)) (by kernel_rfl) rfl rfl rfl (fun w_ hs_=>laws_heldPairS w_ _ (hs_.at 0 rfl) (by omega) (by omega)) (rn ik 10 [] rfl ?_))
  by_cases h3 : (k + (a.pairs.map cntE_Pair).sum) < (0 : Int)
  · exfalso; omega
  · refine r1_ ik 10 [0] rfl (decide_eq_false h3) (ret1 rfl rfl (fun w_ hs_=>⟨?_,hs_.below⟩))
    exact ri (by omega)








set_option maxRecDepth 20000 in
set_option maxHeartbeats 4000000 in
theorem laws_FnExactRunLook (w : World) {AaT2 : Option Addr} {caT2 : Nat} {AaT3 : Option Addr} {caT3 : Nat} {AaT4 : Option Addr} {caT4 : Nat} {aT : Tree} {saT_ : List Nat} (haT : kTreeS.Rel w [.int .i64 aT.style,.int .i64 aT.arena.dims,.slice AaT2 aT.arena.nodes.length caT2,.slice AaT3 aT.arena.free.length caT3,.slice AaT4 aT.arena.retired.length caT4,.int .i64 aT.root,.int .i64 aT.rootNsn,.int .i64 aT.counter] aT [] saT_) {AaQ1 : Option Addr} {caQ1 : Nat} {AaQ2 : Option Addr} {caQ2 : Nat} {AaQ3 : Option Addr} {caQ3 : Nat} {aQ : Query} {saQ_ : List Nat} (haQ : kQueryS.Rel w [.int .i64 aQ.kind,.slice AaQ1 aQ.rect.low.length caQ1,.slice AaQ2 aQ.rect.high.length caQ2,.slice AaQ3 aQ.point.length caQ3,.int .i64 aQ.k] aQ [] saQ_)  : Calls Tryz.prog 6 #[.agg #[.int .i64 aT.style,.int .i64 aT.arena.dims,.slice AaT2 aT.arena.nodes.length caT2,.slice AaT3 aT.arena.free.length caT3,.slice AaT4 aT.arena.retired.length caT4,.int .i64 aT.root,.int .i64 aT.rootNsn,.int .i64 aT.counter],.agg #[.int .i64 aQ.kind,.slice AaQ1 aQ.rect.low.length caQ1,.slice AaQ2 aQ.rect.high.length caQ2,.slice AaQ3 aQ.point.length caQ3,.int .i64 aQ.k]] w (fun e_ w2_=>e_ = .returned (.bool true) ∧ Below w.heap.size w w2_):=by
  have n0:=szTree_nn aT; have n1:=szQuery_nn aQ; have nr:=runRes_cnt aT aQ; have ntr:=cntTree_sz aT; have nq:=szRect_nn aQ.rect; have nq1 : szQuery aQ = szRect aQ.rect + (aQ.point.length : Int):=rfl; have nq2 : szRect aQ.rect = (aQ.rect.low.length : Int) + (aQ.rect.high.length : Int):=rfl
  refine fnc (X:=X31 92 w) (l:=[(0,.agg #[.int .i64 aT.style,.int .i64 aT.arena.dims,.slice AaT2 aT.arena.nodes.length caT2,.slice AaT3 aT.arena.free.length caT3,.slice AaT4 aT.arena.retired.length caT4,.int .i64 aT.root,.int .i64 aT.rootNsn,.int .i64 aT.counter]),(1,.agg #[.int .i64 aQ.kind,.slice AaQ1 aQ.rect.low.length caQ1,.slice AaQ2 aQ.rect.high.length caQ2,.slice AaQ3 aQ.point.length caQ3,.int .i64 aQ.k])]) Tryz.func6 rfl rfl rfl ⟨rfl,rfl,trivial⟩ (s0d haQ (s0d haT (s0n w))).1 ?_
  refine sq (rg (bx rfl rfl rfl rfl ?_))
  intro b1
  refine bx rfl rfl rfl rfl ?_
  intro b2
  refine rn ik 12 [1,0] rfl (cs_ (v:=.int .i64 (szTake (szTree aT) 1048576)) (by kernel_rfl) rfl rfl rfl (fun w_ hs_=>laws_szTree w_ _ (hs_.at 3 rfl) (by omega) (by omega)) (rn ik 10 [] rfl ?_))
  by_cases h3 : (szTake (szTree aT) 1048576) < (0 : Int)
  · have eh3:=szTake_t h3
    refine r1_ ik 8 [1] rfl (decide_eq_true h3) (ret1 rfl rfl (fun w_ hs_=>⟨?_,hs_.below⟩))
    rfl
  · have eh3:=szTake_f h3
    refine r1_ ik 7 [0,0,0] rfl (decide_eq_false h3) (cs_ (v:=.int .i64 (szTake (szQuery aQ) (szTake (szTree aT) 1048576))) (by kernel_rfl) rfl rfl rfl (fun w_ hs_=>laws_szQuery w_ _ (hs_.at 2 rfl) (by omega) (by omega)) (rn ik 10 [] rfl ?_))
    by_cases h4 : (szTake (szQuery aQ) (szTake (szTree aT) 1048576)) < (0 : Int)
    · have eh4:=szTake_t h4
      refine r1_ ik 8 [1] rfl (decide_eq_true h4) (ret1 rfl rfl (fun w_ hs_=>⟨?_,hs_.below⟩))
      rfl
    · have eh4:=szTake_f h4
      refine r1_ ik 4 [0] rfl (decide_eq_false h4) ?_
      refine rx (σ:=Nat × Option Addr × Nat × List Nat × Option Addr × Nat × Option Addr × Nat × Option Addr × Nat × List Nat × List Nat × Option Addr × Nat × Option Addr × Nat × Option Addr × Nat × List Nat × List Nat) (fun z_ : Nat × Option Addr × Nat × List Nat × Option Addr × Nat × Option Addr × Nat × Option Addr × Nat × List Nat × List Nat × Option Addr × Nat × Option Addr × Nat × Option Addr × Nat × List Nat × List Nat=>match z_ with | (b72,A65,c66,s68,A54,c55,A56,c57,A58,c59,o60,s61,A43,c44,A45,c46,A47,c48,o49,s50)=>[(2,.pointer (some ⟨b1,0,none⟩)),(3,.pointer (some ⟨b2,0,none⟩)),(6,.pointer (some ⟨b72,0,none⟩))])
          (fun z_ : Nat × Option Addr × Nat × List Nat × Option Addr × Nat × Option Addr × Nat × Option Addr × Nat × List Nat × List Nat × Option Addr × Nat × Option Addr × Nat × Option Addr × Nat × List Nat × List Nat=>match z_ with | (b72,A65,c66,s68,A54,c55,A56,c57,A58,c59,o60,s61,A43,c44,A45,c46,A47,c48,o49,s50)=>[blk b72 [.int .i64 ((runRes aT aQ).code),.slice A65 (((runRes aT aQ).pairs).length) c66,.int .i64 ((runRes aT aQ).steps)] 77,dat kRunLookResultS [.int .i64 ((runRes aT aQ).code),.slice A65 (((runRes aT aQ).pairs).length) c66,.int .i64 ((runRes aT aQ).steps)] (runRes aT aQ) ([]) s68,dat kQueryO [.int .i64 aQ.kind,.slice A54 aQ.rect.low.length c55,.slice A56 aQ.rect.high.length c57,.slice A58 aQ.point.length c59,.int .i64 aQ.k] aQ o60 s61,dat kTreeO [.int .i64 aT.style,.int .i64 aT.arena.dims,.slice A43 aT.arena.nodes.length c44,.slice A45 aT.arena.free.length c46,.slice A47 aT.arena.retired.length c48,.int .i64 aT.root,.int .i64 aT.rootNsn,.int .i64 aT.counter] aT o49 s50,blk b2 [.int .i64 aQ.kind,.slice AaQ1 aQ.rect.low.length caQ1,.slice AaQ2 aQ.rect.high.length caQ2,.slice AaQ3 aQ.point.length caQ3,.int .i64 aQ.k] 72,blk b1 [.int .i64 aT.style,.int .i64 aT.arena.dims,.slice AaT2 aT.arena.nodes.length caT2,.slice AaT3 aT.arena.free.length caT3,.slice AaT4 aT.arena.retired.length caT4,.int .i64 aT.root,.int .i64 aT.rootNsn,.int .i64 aT.counter] 68,dat kQueryS [.int .i64 aQ.kind,.slice AaQ1 aQ.rect.low.length caQ1,.slice AaQ2 aQ.rect.high.length caQ2,.slice AaQ3 aQ.point.length caQ3,.int .i64 aQ.k] aQ ([]) saQ_,dat kTreeS [.int .i64 aT.style,.int .i64 aT.arena.dims,.slice AaT2 aT.arena.nodes.length caT2,.slice AaT3 aT.arena.free.length caT3,.slice AaT4 aT.arena.retired.length caT4,.int .i64 aT.root,.int .i64 aT.rootNsn,.int .i64 aT.counter] aT ([]) saT_])
          (fun z_ : Nat × Option Addr × Nat × List Nat × Option Addr × Nat × Option Addr × Nat × Option Addr × Nat × List Nat × List Nat × Option Addr × Nat × Option Addr × Nat × Option Addr × Nat × List Nat × List Nat=>match z_ with | (b72,A65,c66,s68,A54,c55,A56,c57,A58,c59,o60,s61,A43,c44,A45,c46,A47,c48,o49,s50)=>(∀ q ∈ s68,q ∈ ([] : List Nat) ∨ w.heap.size ≤ q) ∧ (∀ q ∈ s61,q ∈ ([] : List Nat) ∨ w.heap.size ≤ q) ∧ (∀ q ∈ s50,q ∈ ([] : List Nat) ∨ w.heap.size ≤ q) ∧ True) ?_ ?_
      · rintro ⟨b72,A65,c66,s68,A54,c55,A56,c57,A58,c59,o60,s61,A43,c44,A45,c46,A47,c48,o49,s50⟩ ⟨t130,t131,t132,-⟩
        refine rn ik 4 [5,0] rfl (cm_ (dk:=kTreeO) (x:=aT) (S:=[]) (by kernel_rfl) rfl rfl rfl sn0 (fun w_ hs_=>laws_toTree w_ (hs_.at 7 rfl) (by omega)) (fun cs_ o139 s140 w_ r141 t142=>?_))
        obtain ⟨A133,c134,A135,c136,A137,c138,rfl⟩:=kTreeO_sh r141
        refine al zero80 rfl rfl rfl ?_
        intro b144
        refine sto rfl rfl rfl rfl rfl rfl rfl (cs':=[.int .i64 aT.style,.int .i64 aT.arena.dims,.slice A133 aT.arena.nodes.length c134,.slice A135 aT.arena.free.length c136,.slice A137 aT.arena.retired.length c138,.int .i64 aT.root,.int .i64 aT.rootNsn,.int .i64 aT.counter]) rfl (rn ik 5 [6,0] rfl (cm_ (dk:=kQueryO) (x:=aQ) (S:=[]) (by kernel_rfl) rfl rfl rfl sn0 (fun w_ hs_=>laws_toQuery w_ (hs_.at 8 rfl) (by omega)) (fun cs_ o151 s152 w_ r153 t154=>?_)))
        obtain ⟨A145,c146,A147,c148,A149,c150,rfl⟩:=kQueryO_sh r153
        refine al zero84 rfl rfl rfl ?_
        intro b156
        refine sto rfl rfl rfl rfl rfl rfl rfl (cs':=[.int .i64 aQ.kind,.slice A145 aQ.rect.low.length c146,.slice A147 aQ.rect.high.length c148,.slice A149 aQ.point.length c150,.int .i64 aQ.k]) rfl (rn ik 6 [2,0,0,0] rfl (cm_ (dk:=kRunLookResultO) (x:=(runRes aT aQ)) (S:=[]) (by kernel_rfl) rfl rfl rfl sn0 (fun w_ hs_=>bor kTreeO_seal (hs_.at 3 rfl) fun _ lb0_=>bor kQueryO_seal (hs_.at 1 rfl) fun _ lb1_=>impl_RunLook w_ lb0_ lb1_) (fun cs_ o159 s160 w_ r161 t162=>?_)))
        obtain ⟨A157,c158,rfl⟩:=kRunLookResultO_sh r161
        refine al zero77 rfl rfl rfl ?_
        intro b164
        refine sto rfl rfl rfl rfl rfl rfl rfl (cs':=[.int .i64 ((runRes aT aQ).code),.slice A157 (((runRes aT aQ).pairs).length) c158,.int .i64 ((runRes aT aQ).steps)]) rfl (rn ik 7 [0,0,6,0] rfl (cs_ (v:=.bool (decide ((runRes aT aQ) = (runRes aT aQ)))) (by kernel_rfl) rfl rfl rfl (fun w_ hs_=>bor kRunLookResultO_seal (hs_.at 1 rfl) fun _ lb0_=>laws_eqRunLookResult w_ lb0_ (hs_.at 7 rfl)) (r1_ ik 8 [0] rfl (not_f (decide_eq_true rfl)) ?_)))
        refine rn ik 3 [1,4,0,2,11,0] rfl (q1 2 [0,0,0,0,0,0,0,0,0,0,0,0,0,0] rfl (by kernel_rfl) rfl (cm_ (dk:=kTreeO) (x:=aT) (S:=[]) (by kernel_rfl) rfl rfl rfl sn0 (fun w_ hs_=>by exact laws_toTree w_ (hs_.at 13 rfl) (by omega)) (fun cs_ o177 s178 w_ r179 t180=>?_)))
        obtain ⟨A171,c172,A173,c174,A175,c176,rfl⟩:=kTreeO_sh r179
        refine qn (q1 3 [1,1,1,1,1,1,1,1,1,1,1,1,1,1] rfl (by kernel_rfl) rfl (cs_ (v:=.bool (decide (aT = aT))) (by kernel_rfl) rfl rfl rfl (fun w_ hs_=>by exact bor kTreeO_seal (hs_.at 6 rfl) fun _ lb0_=>bor kTreeO_seal (hs_.at 0 rfl) fun _ lb1_=>laws_eqTree w_ lb0_ lb1_) (qn (r2_ ik 8 [5,0,0] rfl ⟨[1,1,1,1,1,1,1,1,1,1,1,1,1,1],rfl⟩ (not_f (decide_eq_true rfl)) ?_))))
        refine rn ik 3 [1,3,0,2,11,0] rfl (q1 2 [0,0,0,0,0,0,0,0,0,0,0,0,0,0,0] rfl (by kernel_rfl) rfl (cm_ (dk:=kQueryO) (x:=aQ) (S:=[]) (by kernel_rfl) rfl rfl rfl sn0 (fun w_ hs_=>by exact laws_toQuery w_ (hs_.at 13 rfl) (by omega)) (fun cs_ o194 s195 w_ r196 t197=>?_)))
        obtain ⟨A188,c189,A190,c191,A192,c193,rfl⟩:=kQueryO_sh r196
        refine qn (q1 3 [1,1,1,1,1,1,1,1,1,1,1,1,1,1,1] rfl (by kernel_rfl) rfl (cs_ (v:=.bool (decide (aQ = aQ))) (by kernel_rfl) rfl rfl rfl (fun w_ hs_=>by exact bor kQueryO_seal (hs_.at 5 rfl) fun _ lb0_=>bor kQueryO_seal (hs_.at 0 rfl) fun _ lb1_=>laws_eqQuery w_ lb0_ lb1_) (qn (r2_ ik 15 [5,0,0,6,0] rfl ⟨[1,1,1,1,1,1,1,1,1,1,1,1,1,1,1],rfl⟩ (not_f (decide_eq_true rfl)) (f7 (cto (dk:=kTreeO) (cs:=[.int .i64 aT.style,.int .i64 aT.arena.dims,.slice A133 aT.arena.nodes.length c134,.slice A135 aT.arena.free.length c136,.slice A137 aT.arena.retired.length c138,.int .i64 aT.root,.int .i64 aT.rootNsn,.int .i64 aT.counter]) (x:=(mkV_Tree 1 aT)) (v:=.int .i64 (1 + (aT.arena.nodes.map cntE_Node).sum + (aT.arena.free.length : Int) + (aT.arena.retired.map cntE_Retired).sum)) (S:=(s140)) (by kernel_rfl) rfl rfl rfl (snt 0 rfl) _ (fun _ hs_=>hs_.below.size) (fun w_ hs_=>laws_markTree w_ _ ((hs_.pk [0] rfl).nl) (by omega) (by omega)) (fun o199 s200 t201=>?_)))))))
        refine rn ik 7 [5,0] rfl (f6 (cto (dk:=kQueryO) (cs:=[.int .i64 aQ.kind,.slice A145 aQ.rect.low.length c146,.slice A147 aQ.rect.high.length c148,.slice A149 aQ.point.length c150,.int .i64 aQ.k]) (x:=(mkV_Query (1 + (aT.arena.nodes.map cntE_Node).sum + (aT.arena.free.length : Int) + (aT.arena.retired.map cntE_Retired).sum) aQ)) (v:=.int .i64 ((1 + (aT.arena.nodes.map cntE_Node).sum + (aT.arena.free.length : Int) + (aT.arena.retired.map cntE_Retired).sum) + (aQ.rect.low.length : Int) + (aQ.rect.high.length : Int) + (aQ.point.length : Int))) (S:=(s152)) (by kernel_rfl) rfl rfl rfl (snt 0 rfl) _ (fun _ hs_=>hs_.below.size) (fun w_ hs_=>laws_markQuery w_ _ ((hs_.pk [0] rfl).nl) (by omega) (by omega)) (fun o202 s203 t204=>?_)))
        refine rn ik 9 [] rfl ?_
        by_cases h205 : ((1 + (aT.arena.nodes.map cntE_Node).sum + (aT.arena.free.length : Int) + (aT.arena.retired.map cntE_Retired).sum) + (aQ.rect.low.length : Int) + (aQ.rect.high.length : Int) + (aQ.point.length : Int)) < (0 : Int)
        · exfalso; omega
        · refine r2_ ik 2 [1,4,0,1,8,0] rfl (decide_eq_false h205) (decide_eq_false h205) (gw rfl rfl (decide_eq_false h205) (cs_ (v:=.bool (decide ((runRes aT aQ) = (runRes aT aQ)))) (by kernel_rfl) rfl rfl rfl (fun w_ hs_=>bor kRunLookResultO_seal (hs_.at 5 rfl) fun _ lb0_=>laws_eqRunLookResult w_ lb0_ (hs_.at 9 rfl)) (r3_ ik 16 [1,0,0,4,0] rfl (decide_eq_false h205) (decide_eq_false h205) (not_f (decide_eq_true rfl)) (f5 (cto (dk:=kRunLookResultO) (cs:=[.int .i64 ((runRes aT aQ).code),.slice A157 (((runRes aT aQ).pairs).length) c158,.int .i64 ((runRes aT aQ).steps)]) (x:=(mkV_RunLookResult 1 (runRes aT aQ))) (v:=.int .i64 (1 + ((runRes aT aQ).pairs.map cntE_Pair).sum)) (S:=(s160)) (by kernel_rfl) rfl rfl rfl (snt 0 rfl) _ (fun _ hs_=>hs_.below.size) (fun w_ hs_=>laws_markRunLookResult w_ _ ((hs_.pk [0] rfl).nl) (by omega) (by omega)) (fun o206 s207 t208=>?_))))))
          refine rn ik 12 [5,0] rfl (cs_ (v:=.int .i64 (1 + ((runRes aT aQ).pairs.map cntE_Pair).sum)) (by kernel_rfl) rfl rfl rfl (fun w_ hs_=>bor kRunLookResultO_seal (hs_.at 0 rfl) fun _ lb0_=>laws_heldRunLookResult w_ _ lb0_ (by omega) (by omega)) (rn ik 10 [] rfl ?_))
          by_cases h209 : (1 + ((runRes aT aQ).pairs.map cntE_Pair).sum) < (0 : Int)
          · exfalso; omega
          · refine r2_ ik 15 [0,0] rfl (decide_eq_false h209) (bne_eq_false_iff_eq.2 rfl) ?_
            refine rx (σ:=Nat × Option Addr × Nat × List Nat × List Nat × Option Addr × Nat × Option Addr × Nat × Option Addr × Nat × List Nat × List Nat × Option Addr × Nat × Option Addr × Nat × Option Addr × Nat × List Nat × List Nat) (fun z_ : Nat × Option Addr × Nat × List Nat × List Nat × Option Addr × Nat × Option Addr × Nat × Option Addr × Nat × List Nat × List Nat × Option Addr × Nat × Option Addr × Nat × Option Addr × Nat × List Nat × List Nat=>match z_ with | (b277,A270,c271,o272,s273,A259,c260,A261,c262,A263,c264,o265,s266,A248,c249,A250,c251,A252,c253,o254,s255)=>[(6,.pointer (some ⟨b72,0,none⟩)),(9,.pointer (some ⟨b164,0,none⟩)),(11,.int .i64 (1 + ((runRes aT aQ).pairs.map cntE_Pair).sum)),(13,.pointer (some ⟨b277,0,none⟩))])
                (fun z_ : Nat × Option Addr × Nat × List Nat × List Nat × Option Addr × Nat × Option Addr × Nat × Option Addr × Nat × List Nat × List Nat × Option Addr × Nat × Option Addr × Nat × Option Addr × Nat × List Nat × List Nat=>match z_ with | (b277,A270,c271,o272,s273,A259,c260,A261,c262,A263,c264,o265,s266,A248,c249,A250,c251,A252,c253,o254,s255)=>[blk b277 [.int .i64 ((runRes aT aQ).code),.slice A270 (((runRes aT aQ).pairs).length) c271,.int .i64 ((runRes aT aQ).steps)] 77,dat kRunLookResultO [.int .i64 ((runRes aT aQ).code),.slice A270 (((runRes aT aQ).pairs).length) c271,.int .i64 ((runRes aT aQ).steps)] (runRes aT aQ) o272 s273,dat kQueryO [.int .i64 aQ.kind,.slice A259 aQ.rect.low.length c260,.slice A261 aQ.rect.high.length c262,.slice A263 aQ.point.length c264,.int .i64 aQ.k] aQ o265 s266,dat kTreeO [.int .i64 aT.style,.int .i64 aT.arena.dims,.slice A248 aT.arena.nodes.length c249,.slice A250 aT.arena.free.length c251,.slice A252 aT.arena.retired.length c253,.int .i64 aT.root,.int .i64 aT.rootNsn,.int .i64 aT.counter] aT o254 s255,dat kRunLookResultO [.int .i64 ((runRes aT aQ).code),.slice A157 (((runRes aT aQ).pairs).length) c158,.int .i64 ((runRes aT aQ).steps)] (mkV_RunLookResult 1 (runRes aT aQ)) o206 s207,dat kQueryO [.int .i64 aQ.kind,.slice A145 aQ.rect.low.length c146,.slice A147 aQ.rect.high.length c148,.slice A149 aQ.point.length c150,.int .i64 aQ.k] (mkV_Query (1 + (aT.arena.nodes.map cntE_Node).sum + (aT.arena.free.length : Int) + (aT.arena.retired.map cntE_Retired).sum) aQ) o202 s203,dat kTreeO [.int .i64 aT.style,.int .i64 aT.arena.dims,.slice A133 aT.arena.nodes.length c134,.slice A135 aT.arena.free.length c136,.slice A137 aT.arena.retired.length c138,.int .i64 aT.root,.int .i64 aT.rootNsn,.int .i64 aT.counter] (mkV_Tree 1 aT) o199 s200,dat kQueryO [.int .i64 aQ.kind,.slice A188 aQ.rect.low.length c189,.slice A190 aQ.rect.high.length c191,.slice A192 aQ.point.length c193,.int .i64 aQ.k] aQ o194 s195,dat kTreeO [.int .i64 aT.style,.int .i64 aT.arena.dims,.slice A171 aT.arena.nodes.length c172,.slice A173 aT.arena.free.length c174,.slice A175 aT.arena.retired.length c176,.int .i64 aT.root,.int .i64 aT.rootNsn,.int .i64 aT.counter] aT o177 s178,blk b164 [.int .i64 ((runRes aT aQ).code),.slice A157 (((runRes aT aQ).pairs).length) c158,.int .i64 ((runRes aT aQ).steps)] 77,blk b156 [.int .i64 aQ.kind,.slice A145 aQ.rect.low.length c146,.slice A147 aQ.rect.high.length c148,.slice A149 aQ.point.length c150,.int .i64 aQ.k] 84,blk b144 [.int .i64 aT.style,.int .i64 aT.arena.dims,.slice A133 aT.arena.nodes.length c134,.slice A135 aT.arena.free.length c136,.slice A137 aT.arena.retired.length c138,.int .i64 aT.root,.int .i64 aT.rootNsn,.int .i64 aT.counter] 80,blk b72 [.int .i64 ((runRes aT aQ).code),.slice A65 (((runRes aT aQ).pairs).length) c66,.int .i64 ((runRes aT aQ).steps)] 77,dat kRunLookResultS [.int .i64 ((runRes aT aQ).code),.slice A65 (((runRes aT aQ).pairs).length) c66,.int .i64 ((runRes aT aQ).steps)] (runRes aT aQ) ([]) s68,dat kQueryO [.int .i64 aQ.kind,.slice A54 aQ.rect.low.length c55,.slice A56 aQ.rect.high.length c57,.slice A58 aQ.point.length c59,.int .i64 aQ.k] aQ o60 s61,dat kTreeO [.int .i64 aT.style,.int .i64 aT.arena.dims,.slice A43 aT.arena.nodes.length c44,.slice A45 aT.arena.free.length c46,.slice A47 aT.arena.retired.length c48,.int .i64 aT.root,.int .i64 aT.rootNsn,.int .i64 aT.counter] aT o49 s50,blk b2 [.int .i64 aQ.kind,.slice AaQ1 aQ.rect.low.length caQ1,.slice AaQ2 aQ.rect.high.length caQ2,.slice AaQ3 aQ.point.length caQ3,.int .i64 aQ.k] 72,blk b1 [.int .i64 aT.style,.int .i64 aT.arena.dims,.slice AaT2 aT.arena.nodes.length caT2,.slice AaT3 aT.arena.free.length caT3,.slice AaT4 aT.arena.retired.length caT4,.int .i64 aT.root,.int .i64 aT.rootNsn,.int .i64 aT.counter] 68,dat kQueryS [.int .i64 aQ.kind,.slice AaQ1 aQ.rect.low.length caQ1,.slice AaQ2 aQ.rect.high.length caQ2,.slice AaQ3 aQ.point.length caQ3,.int .i64 aQ.k] aQ ([]) saQ_,dat kTreeS [.int .i64 aT.style,.int .i64 aT.arena.dims,.slice AaT2 aT.arena.nodes.length caT2,.slice AaT3 aT.arena.free.length caT3,.slice AaT4 aT.arena.retired.length caT4,.int .i64 aT.root,.int .i64 aT.rootNsn,.int .i64 aT.counter] aT ([]) saT_])
                (fun z_ : Nat × Option Addr × Nat × List Nat × List Nat × Option Addr × Nat × Option Addr × Nat × Option Addr × Nat × List Nat × List Nat × Option Addr × Nat × Option Addr × Nat × Option Addr × Nat × List Nat × List Nat=>match z_ with | (b277,A270,c271,o272,s273,A259,c260,A261,c262,A263,c264,o265,s266,A248,c249,A250,c251,A252,c253,o254,s255)=>(∀ q ∈ s273,q ∈ ([] : List Nat) ∨ w.heap.size ≤ q) ∧ (∀ q ∈ s266,q ∈ ([] : List Nat) ∨ w.heap.size ≤ q) ∧ (∀ q ∈ s255,q ∈ ([] : List Nat) ∨ w.heap.size ≤ q) ∧ True) ?_ ?_
            · rintro ⟨b277,A270,c271,o272,s273,A259,c260,A261,c262,A263,c264,o265,s266,A248,c249,A250,c251,A252,c253,o254,s255⟩ ⟨t335,t336,t337,-⟩
              refine rn ik 6 [0,0,12,0] rfl (cs_ (v:=.bool (decide ((runRes aT aQ) = (runRes aT aQ)))) (by kernel_rfl) rfl rfl rfl (fun w_ hs_=>bor kRunLookResultO_seal (hs_.at 1 rfl) fun _ lb0_=>laws_eqRunLookResult w_ lb0_ (hs_.at 13 rfl)) (r1_ ik 15 [0,9,0] rfl (not_f (decide_eq_true rfl)) (cs_ (v:=.int .i64 (1 + ((runRes aT aQ).pairs.map cntE_Pair).sum)) (by kernel_rfl) rfl rfl rfl (fun w_ hs_=>bor kRunLookResultO_seal (hs_.at 4 rfl) fun _ lb0_=>laws_heldRunLookResult w_ _ lb0_ (by omega) (by omega)) (r2_ ik 30 [0,0] rfl (decide_eq_false h209) (bne_eq_false_iff_eq.2 rfl) (ret1 rfl rfl (fun w_ hs_=>⟨?_,hs_.below⟩))))))
              rfl
            · refine rn ik 3 [1,13,0,3,12,0] rfl ?_
              refine qo 1 5 [0,0,0,0,0,0,0,0,0,0,0,0,0,0,0,0] rfl rfl (by kernel_rfl) rfl ?_ ?_
              · refine cm_ (dk:=kTreeO) (x:=aT) (S:=[]) (by kernel_rfl) rfl rfl rfl sn0 (fun w_ hs_=>by exact laws_toTree w_ (hs_.at 15 rfl) (by omega)) (fun cs_ o344 s345 w_ r346 t347=>?_)
                obtain ⟨A338,c339,A340,c341,A342,c343,rfl⟩:=kTreeO_sh r346
                refine qn ?_
                refine qo 3 5 [1,1,1,1,1,1,1,1,1,1,1,1,1,1,1,1] rfl rfl (by kernel_rfl) rfl ?_ ?_
                · refine cm_ (dk:=kQueryO) (x:=aQ) (S:=[]) (by kernel_rfl) rfl rfl rfl sn0 (fun w_ hs_=>by exact laws_toQuery w_ (hs_.at 15 rfl) (by omega)) (fun cs_ o355 s356 w_ r357 t358=>?_)
                  obtain ⟨A349,c350,A351,c352,A353,c354,rfl⟩:=kQueryO_sh r357
                  refine qn ?_
                  refine qo 4 5 [2,2,2,2,2,2,2,2,2,2,2,2,2,2,2,2] rfl rfl (by kernel_rfl) rfl ?_ ?_
                  · refine cm_ (dk:=kRunLookResultO) (x:=(runRes aT aQ)) (S:=[]) (by kernel_rfl) rfl rfl rfl sn0 (fun w_ hs_=>by exact bor kTreeO_seal (hs_.at 1 rfl) fun _ lb0_=>bor kQueryO_seal (hs_.at 0 rfl) fun _ lb1_=>impl_RunLook w_ lb0_ lb1_) (fun cs_ o362 s363 w_ r364 t365=>?_)
                    obtain ⟨A360,c361,rfl⟩:=kRunLookResultO_sh r364
                    refine qn (q1 5 [3,3,3,3,3,3,3,3,3,3,3,3,3,3,3,3] rfl (by kernel_rfl) rfl (al zero77 rfl rfl rfl ?_))
                    intro b367
                    exact qn (q1 6 [4,4,4,4,4,4,4,4,4,4,4,4,4,4,4,4] rfl (by kernel_rfl) rfl (sto rfl rfl rfl rfl rfl rfl rfl (cs':=[.int .i64 ((runRes aT aQ).code),.slice A360 (((runRes aT aQ).pairs).length) c361,.int .i64 ((runRes aT aQ).steps)]) rfl (qn (qe [4,4,4,4,4,4,4,4,4,4,4,4,4,4,4,4] (by kernel_rfl) rfl (cx (b367,A360,c361,o362,s363,A349,c350,A351,c352,A353,c354,o355,s356,A338,c339,A340,c341,A342,c343,o344,s345) [0,0,0,0,0,0,0,0,0,0,0,0,0,0,0,0,0,0,0,0] ⟨t365,t358,t347,trivial⟩ ⟨rfl,rfl,rfl,rfl,trivial⟩ rfl)))))
                  · refine al zero77 rfl rfl rfl ?_
                    intro b368
                    refine qn (q1 4 [3,3,3,3,3,3,3,3,3,3,3,3,3,3,3,3] rfl (by kernel_rfl) rfl (cm_ (dk:=kRunLookResultO) (x:=(runRes aT aQ)) (S:=[]) (by kernel_rfl) rfl rfl rfl sn0 (fun w_ hs_=>by exact bor kTreeO_seal (hs_.at 2 rfl) fun _ lb0_=>bor kQueryO_seal (hs_.at 1 rfl) fun _ lb1_=>impl_RunLook w_ lb0_ lb1_) (fun cs_ o371 s372 w_ r373 t374=>?_)))
                    obtain ⟨A369,c370,rfl⟩:=kRunLookResultO_sh r373
                    exact qn (q1 6 [4,4,4,4,4,4,4,4,4,4,4,4,4,4,4,4] rfl (by kernel_rfl) rfl (f1 (sto rfl rfl rfl rfl rfl rfl rfl (cs':=[.int .i64 ((runRes aT aQ).code),.slice A369 (((runRes aT aQ).pairs).length) c370,.int .i64 ((runRes aT aQ).steps)]) rfl (qn (qe [4,4,4,4,4,4,4,4,4,4,4,4,4,4,4,4] (by kernel_rfl) rfl (cx (b368,A369,c370,o371,s372,A349,c350,A351,c352,A353,c354,o355,s356,A338,c339,A340,c341,A342,c343,o344,s345) [0,0,0,0,0,0,0,0,0,0,0,0,0,0,0,0,0,0,0,0] ⟨t374,t358,t347,trivial⟩ ⟨rfl,rfl,rfl,rfl,trivial⟩ rfl))))))
                · refine al zero77 rfl rfl rfl ?_
                  intro b376
                  refine qn (q1 3 [2,2,2,2,2,2,2,2,2,2,2,2,2,2,2,2] rfl (by kernel_rfl) rfl (cm_ (dk:=kQueryO) (x:=aQ) (S:=[]) (by kernel_rfl) rfl rfl rfl sn0 (fun w_ hs_=>by exact laws_toQuery w_ (hs_.at 16 rfl) (by omega)) (fun cs_ o383 s384 w_ r385 t386=>?_)))
                  obtain ⟨A377,c378,A379,c380,A381,c382,rfl⟩:=kQueryO_sh r385
                  refine qn (q1 4 [3,3,3,3,3,3,3,3,3,3,3,3,3,3,3,3] rfl (by kernel_rfl) rfl (cm_ (dk:=kRunLookResultO) (x:=(runRes aT aQ)) (S:=[]) (by kernel_rfl) rfl rfl rfl sn0 (fun w_ hs_=>by exact bor kTreeO_seal (hs_.at 2 rfl) fun _ lb0_=>bor kQueryO_seal (hs_.at 0 rfl) fun _ lb1_=>impl_RunLook w_ lb0_ lb1_) (fun cs_ o390 s391 w_ r392 t393=>?_)))
                  obtain ⟨A388,c389,rfl⟩:=kRunLookResultO_sh r392
                  exact qn (q1 6 [4,4,4,4,4,4,4,4,4,4,4,4,4,4,4,4] rfl (by kernel_rfl) rfl (f2 (sto rfl rfl rfl rfl rfl rfl rfl (cs':=[.int .i64 ((runRes aT aQ).code),.slice A388 (((runRes aT aQ).pairs).length) c389,.int .i64 ((runRes aT aQ).steps)]) rfl (qn (qe [4,4,4,4,4,4,4,4,4,4,4,4,4,4,4,4] (by kernel_rfl) rfl (cx (b376,A388,c389,o390,s391,A377,c378,A379,c380,A381,c382,o383,s384,A338,c339,A340,c341,A342,c343,o344,s345) [0,0,0,0,0,0,0,0,0,0,0,0,0,0,0,0,0,0,0,0] ⟨t393,t386,t347,trivial⟩ ⟨rfl,rfl,rfl,rfl,trivial⟩ rfl))))))
              · refine al zero77 rfl rfl rfl ?_
                intro b395
                refine qn (q1 1 [1,1,1,1,1,1,1,1,1,1,1,1,1,1,1,1] rfl (by kernel_rfl) rfl (cm_ (dk:=kTreeO) (x:=aT) (S:=[]) (by kernel_rfl) rfl rfl rfl sn0 (fun w_ hs_=>by exact laws_toTree w_ (hs_.at 16 rfl) (by omega)) (fun cs_ o402 s403 w_ r404 t405=>?_)))
                obtain ⟨A396,c397,A398,c399,A400,c401,rfl⟩:=kTreeO_sh r404
                refine qn (q1 3 [2,2,2,2,2,2,2,2,2,2,2,2,2,2,2,2] rfl (by kernel_rfl) rfl (cm_ (dk:=kQueryO) (x:=aQ) (S:=[]) (by kernel_rfl) rfl rfl rfl sn0 (fun w_ hs_=>by exact laws_toQuery w_ (hs_.at 16 rfl) (by omega)) (fun cs_ o413 s414 w_ r415 t416=>?_)))
                obtain ⟨A407,c408,A409,c410,A411,c412,rfl⟩:=kQueryO_sh r415
                refine qn (q1 4 [3,3,3,3,3,3,3,3,3,3,3,3,3,3,3,3] rfl (by kernel_rfl) rfl (cm_ (dk:=kRunLookResultO) (x:=(runRes aT aQ)) (S:=[]) (by kernel_rfl) rfl rfl rfl sn0 (fun w_ hs_=>by exact bor kTreeO_seal (hs_.at 1 rfl) fun _ lb0_=>bor kQueryO_seal (hs_.at 0 rfl) fun _ lb1_=>impl_RunLook w_ lb0_ lb1_) (fun cs_ o420 s421 w_ r422 t423=>?_)))
                obtain ⟨A418,c419,rfl⟩:=kRunLookResultO_sh r422
                exact qn (q1 6 [4,4,4,4,4,4,4,4,4,4,4,4,4,4,4,4] rfl (by kernel_rfl) rfl (f3 (sto rfl rfl rfl rfl rfl rfl rfl (cs':=[.int .i64 ((runRes aT aQ).code),.slice A418 (((runRes aT aQ).pairs).length) c419,.int .i64 ((runRes aT aQ).steps)]) rfl (qn (qe [4,4,4,4,4,4,4,4,4,4,4,4,4,4,4,4] (by kernel_rfl) rfl (cx (b395,A418,c419,o420,s421,A407,c408,A409,c410,A411,c412,o413,s414,A396,c397,A398,c399,A400,c401,o402,s403) [0,0,0,0,0,0,0,0,0,0,0,0,0,0,0,0,0,0,0,0] ⟨t423,t416,t405,trivial⟩ ⟨rfl,rfl,rfl,rfl,trivial⟩ rfl))))))
      · refine rn ik 3 [1,1,0,3,0,0] rfl ?_
        refine qo 1 5 [0,0,0,0] rfl rfl (by kernel_rfl) rfl ?_ ?_
        · refine cm_ (dk:=kTreeO) (x:=aT) (S:=[]) (by kernel_rfl) rfl rfl rfl sn0 (fun w_ hs_=>by exact laws_toTree w_ (hs_.at 3 rfl) (by omega)) (fun cs_ o431 s432 w_ r433 t434=>?_)
          obtain ⟨A425,c426,A427,c428,A429,c430,rfl⟩:=kTreeO_sh r433
          refine qn ?_
          refine qo 3 5 [1,1,1,1] rfl rfl (by kernel_rfl) rfl ?_ ?_
          · refine cm_ (dk:=kQueryO) (x:=aQ) (S:=[]) (by kernel_rfl) rfl rfl rfl sn0 (fun w_ hs_=>by exact laws_toQuery w_ (hs_.at 3 rfl) (by omega)) (fun cs_ o442 s443 w_ r444 t445=>?_)
            obtain ⟨A436,c437,A438,c439,A440,c441,rfl⟩:=kQueryO_sh r444
            refine qn ?_
            refine qo 4 5 [2,2,2,2] rfl rfl (by kernel_rfl) rfl ?_ ?_
            · refine cm_ (dk:=kRunLookResultS) (x:=(runRes aT aQ)) (S:=[]) (by kernel_rfl) rfl rfl rfl sn0 (fun w_ hs_=>by exact bor kTreeO_seal (hs_.at 1 rfl) fun _ lb0_=>bor kQueryO_seal (hs_.at 0 rfl) fun _ lb1_=>spec_RunLook w_ lb0_ lb1_) (fun cs_ o449 s450 w_ r451 t452=>?_)
              obtain ⟨A447,c448,rfl⟩:=kRunLookResultS_sh r451
              obtain rfl : o449 = []:=kRunLookResultS_pure _ _ _ _ _ r451
              refine qn (q1 5 [3,3,3,3] rfl (by kernel_rfl) rfl (al zero77 rfl rfl rfl ?_))
              intro b454
              exact qn (q1 6 [4,4,4,4] rfl (by kernel_rfl) rfl (sto rfl rfl rfl rfl rfl rfl rfl (cs':=[.int .i64 ((runRes aT aQ).code),.slice A447 (((runRes aT aQ).pairs).length) c448,.int .i64 ((runRes aT aQ).steps)]) rfl (qn (qe [4,4,4,4] (by kernel_rfl) rfl (cx (b454,A447,c448,s450,A436,c437,A438,c439,A440,c441,o442,s443,A425,c426,A427,c428,A429,c430,o431,s432) [0,0,0,0,0,0,0,0] ⟨t452,t445,t434,trivial⟩ ⟨rfl,rfl,rfl,trivial⟩ rfl)))))
            · refine al zero77 rfl rfl rfl ?_
              intro b455
              refine qn (q1 4 [3,3,3,3] rfl (by kernel_rfl) rfl (cm_ (dk:=kRunLookResultS) (x:=(runRes aT aQ)) (S:=[]) (by kernel_rfl) rfl rfl rfl sn0 (fun w_ hs_=>by exact bor kTreeO_seal (hs_.at 2 rfl) fun _ lb0_=>bor kQueryO_seal (hs_.at 1 rfl) fun _ lb1_=>spec_RunLook w_ lb0_ lb1_) (fun cs_ o458 s459 w_ r460 t461=>?_)))
              obtain ⟨A456,c457,rfl⟩:=kRunLookResultS_sh r460
              obtain rfl : o458 = []:=kRunLookResultS_pure _ _ _ _ _ r460
              exact qn (q1 6 [4,4,4,4] rfl (by kernel_rfl) rfl (f1 (sto rfl rfl rfl rfl rfl rfl rfl (cs':=[.int .i64 ((runRes aT aQ).code),.slice A456 (((runRes aT aQ).pairs).length) c457,.int .i64 ((runRes aT aQ).steps)]) rfl (qn (qe [4,4,4,4] (by kernel_rfl) rfl (cx (b455,A456,c457,s459,A436,c437,A438,c439,A440,c441,o442,s443,A425,c426,A427,c428,A429,c430,o431,s432) [0,0,0,0,0,0,0,0] ⟨t461,t445,t434,trivial⟩ ⟨rfl,rfl,rfl,trivial⟩ rfl))))))
          · refine al zero77 rfl rfl rfl ?_
            intro b463
            refine qn (q1 3 [2,2,2,2] rfl (by kernel_rfl) rfl (cm_ (dk:=kQueryO) (x:=aQ) (S:=[]) (by kernel_rfl) rfl rfl rfl sn0 (fun w_ hs_=>by exact laws_toQuery w_ (hs_.at 4 rfl) (by omega)) (fun cs_ o470 s471 w_ r472 t473=>?_)))
            obtain ⟨A464,c465,A466,c467,A468,c469,rfl⟩:=kQueryO_sh r472
            refine qn (q1 4 [3,3,3,3] rfl (by kernel_rfl) rfl (cm_ (dk:=kRunLookResultS) (x:=(runRes aT aQ)) (S:=[]) (by kernel_rfl) rfl rfl rfl sn0 (fun w_ hs_=>by exact bor kTreeO_seal (hs_.at 2 rfl) fun _ lb0_=>bor kQueryO_seal (hs_.at 0 rfl) fun _ lb1_=>spec_RunLook w_ lb0_ lb1_) (fun cs_ o477 s478 w_ r479 t480=>?_)))
            obtain ⟨A475,c476,rfl⟩:=kRunLookResultS_sh r479
            obtain rfl : o477 = []:=kRunLookResultS_pure _ _ _ _ _ r479
            exact qn (q1 6 [4,4,4,4] rfl (by kernel_rfl) rfl (f2 (sto rfl rfl rfl rfl rfl rfl rfl (cs':=[.int .i64 ((runRes aT aQ).code),.slice A475 (((runRes aT aQ).pairs).length) c476,.int .i64 ((runRes aT aQ).steps)]) rfl (qn (qe [4,4,4,4] (by kernel_rfl) rfl (cx (b463,A475,c476,s478,A464,c465,A466,c467,A468,c469,o470,s471,A425,c426,A427,c428,A429,c430,o431,s432) [0,0,0,0,0,0,0,0] ⟨t480,t473,t434,trivial⟩ ⟨rfl,rfl,rfl,trivial⟩ rfl))))))
        · refine al zero77 rfl rfl rfl ?_
          intro b482
          refine qn (q1 1 [1,1,1,1] rfl (by kernel_rfl) rfl (cm_ (dk:=kTreeO) (x:=aT) (S:=[]) (by kernel_rfl) rfl rfl rfl sn0 (fun w_ hs_=>by exact laws_toTree w_ (hs_.at 4 rfl) (by omega)) (fun cs_ o489 s490 w_ r491 t492=>?_)))
          obtain ⟨A483,c484,A485,c486,A487,c488,rfl⟩:=kTreeO_sh r491
          refine qn (q1 3 [2,2,2,2] rfl (by kernel_rfl) rfl (cm_ (dk:=kQueryO) (x:=aQ) (S:=[]) (by kernel_rfl) rfl rfl rfl sn0 (fun w_ hs_=>by exact laws_toQuery w_ (hs_.at 4 rfl) (by omega)) (fun cs_ o500 s501 w_ r502 t503=>?_)))
          obtain ⟨A494,c495,A496,c497,A498,c499,rfl⟩:=kQueryO_sh r502
          refine qn (q1 4 [3,3,3,3] rfl (by kernel_rfl) rfl (cm_ (dk:=kRunLookResultS) (x:=(runRes aT aQ)) (S:=[]) (by kernel_rfl) rfl rfl rfl sn0 (fun w_ hs_=>by exact bor kTreeO_seal (hs_.at 1 rfl) fun _ lb0_=>bor kQueryO_seal (hs_.at 0 rfl) fun _ lb1_=>spec_RunLook w_ lb0_ lb1_) (fun cs_ o507 s508 w_ r509 t510=>?_)))
          obtain ⟨A505,c506,rfl⟩:=kRunLookResultS_sh r509
          obtain rfl : o507 = []:=kRunLookResultS_pure _ _ _ _ _ r509
          exact qn (q1 6 [4,4,4,4] rfl (by kernel_rfl) rfl (f3 (sto rfl rfl rfl rfl rfl rfl rfl (cs':=[.int .i64 ((runRes aT aQ).code),.slice A505 (((runRes aT aQ).pairs).length) c506,.int .i64 ((runRes aT aQ).steps)]) rfl (qn (qe [4,4,4,4] (by kernel_rfl) rfl (cx (b482,A505,c506,s508,A494,c495,A496,c497,A498,c499,o500,s501,A483,c484,A485,c486,A487,c488,o489,s490) [0,0,0,0,0,0,0,0] ⟨t510,t503,t492,trivial⟩ ⟨rfl,rfl,rfl,trivial⟩ rfl))))))
end Go.Proofs.YtjdkfibeogiekaaGreat.Sx
