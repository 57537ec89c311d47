/- What functions of the program answer, each at every input that its row names; walked through their code. -/
import Derived.Test.YtjdkfibeogiekaaGreatSy29
namespace Go.Proofs.YtjdkfibeogiekaaGreat.Sx
open Go Go.RowKit Go.Proofs
set_option linter.unusedVariables false
set_option linter.unusedSimpArgs false
set_option maxRecDepth 20000
set_option maxHeartbeats 2000000
variable {Aq1 Aq2 Aq3 At2 At3 At4 : Option Addr} {cq1 cq2 cq3 ct2 ct3 ct4 : Nat} {sq_ st_ : List Nat}
def tab30 : Tab := { size := [(2, 1, false), (40, 4, true), (75, 1, false), (77, 3, true), (80, 8, true), (84, 5, true), (156, 7, true), (158, 8, true)], off := [((77, 1), 1), ((77, 2), 2), ((80, 1), 1), ((158, 0), 0), ((158, 1), 1)], elem := [] }
theorem tab_ok30 : tab30.check Tryz.prog = true:=by kernel_rfl
noncomputable abbrev X30 (N : Nat) (w : World) : Cx := ⟨Tryz.prog, tab30, tab_ok30, wide, N, w, none, []⟩
theorem zero77 : (Tryz.prog.info? 77).bind (·.zero) = some (.agg #[.int .i64 0,.slice none 0 0,.int .i64 0]):=by kernel_rfl
theorem bld77 : bld Tryz.prog 77 = some ([(0,1),(1,1),(2,1)],[.int .i64 0,.slice none 0 0,.int .i64 0]):=by kernel_rfl

set_option maxRecDepth 20000 in
set_option maxHeartbeats 4000000 in
theorem impl_RunLook (w : World) {t : Tree} (ht : kTreeS.Rel w [.int .i64 t.style,.int .i64 t.arena.dims,.slice At2 t.arena.nodes.length ct2,.slice At3 t.arena.free.length ct3,.slice At4 t.arena.retired.length ct4,.int .i64 t.root,.int .i64 t.rootNsn,.int .i64 t.counter] t [] st_) {q : Query} (hq : kQueryS.Rel w [.int .i64 q.kind,.slice Aq1 q.rect.low.length cq1,.slice Aq2 q.rect.high.length cq2,.slice Aq3 q.point.length cq3,.int .i64 q.k] q [] sq_)  : Calls Tryz.prog 40 #[.agg #[.int .i64 t.style,.int .i64 t.arena.dims,.slice At2 t.arena.nodes.length ct2,.slice At3 t.arena.free.length ct3,.slice At4 t.arena.retired.length ct4,.int .i64 t.root,.int .i64 t.rootNsn,.int .i64 t.counter],.agg #[.int .i64 q.kind,.slice Aq1 q.rect.low.length cq1,.slice Aq2 q.rect.high.length cq2,.slice Aq3 q.point.length cq3,.int .i64 q.k]] w (Made kRunLookResultO w (runRes t q) []):=by
  refine fnc (X:=X30 39 w) (l:=[(0,.agg #[.int .i64 t.style,.int .i64 t.arena.dims,.slice At2 t.arena.nodes.length ct2,.slice At3 t.arena.free.length ct3,.slice At4 t.arena.retired.length ct4,.int .i64 t.root,.int .i64 t.rootNsn,.int .i64 t.counter]),(1,.agg #[.int .i64 q.kind,.slice Aq1 q.rect.low.length cq1,.slice Aq2 q.rect.high.length cq2,.slice Aq3 q.point.length cq3,.int .i64 q.k])]) Tryz.func40 rfl rfl rfl ⟨rfl,rfl,trivial⟩ (s0d hq (s0d ht (s0n w))).1 ?_
  refine sq (rg (bx rfl rfl rfl rfl ?_))
  intro b1
  refine bx rfl rfl rfl rfl ?_
  intro b2
  refine al zero77 rfl rfl rfl ?_
  intro b3
  refine rn ik 6 [2,0,1,0] rfl (cm_ (dk:=kLookResultO) (x:=(startLook t q)) (S:=[]) (by kernel_rfl) rfl rfl rfl sn0 (fun w_ hs_=>impl_StartLook w_ (hs_.at 4 rfl) (hs_.at 3 rfl)) (fun cs_ o14 s15 w_ r16 t17=>?_))
  obtain ⟨A4,c5,A6,c7,A8,c9,A10,c11,A12,c13,rfl⟩:=kLookResultO_sh r16
  refine al zero158 rfl rfl rfl ?_
  intro b19
  refine sto rfl rfl rfl rfl rfl rfl rfl (cs':=[.int .i64 ((startLook t q).code),.int .i64 ((startLook t q).look.query.kind),.slice A4 (((startLook t q).look.query.rect.low).length) c5,.slice A6 (((startLook t q).look.query.rect.high).length) c7,.slice A8 (((startLook t q).look.query.point).length) c9,.int .i64 ((startLook t q).look.query.k),.slice A10 (((startLook t q).look.front).length) c11,.slice A12 (((startLook t q).look.found).length) c13]) rfl (rn ik 10 [0,0] rfl ?_)
  by_cases h20 : (startLook t q).code = (0 : Int)
  · obtain ⟨htf,hqf,hlk⟩:=start_ok h20; obtain ⟨hS,hrp,-⟩:=tree_0 htf
    refine r1_ ik 5 [0] rfl (bne_eq_false_iff_eq.2 h20) (vl (bd bld77 rfl rfl rfl) rfl (al zero77 rfl rfl rfl ?_))
    intro b21
    refine sto rfl rfl rfl rfl rfl rfl rfl (cs':=[.int .i64 0,.slice none 0 0,.int .i64 0]) rfl (rn ik 4 [] rfl ?_)
    refine f2 (gsp (da:=(Kd.via Kd.i64 LookResult.code)) rfl rfl (fun o22 o23 s24 s25 us24 us25=>?_))
    refine gv (f1 (gv (gr (newLook t q) hlk ?_)))
    refine at1i rfl (f3 (boxrow ?_))
    refine lp (σ:=Nat × Look × Int × List Nat × List Nat) (fun z_ : Nat × Look × Int × List Nat × List Nat=>match z_ with | (j,l,n,o_,s_)=>[(2,.pointer (some ⟨b1,0,none⟩)),(4,.pointer (some ⟨b3,0,none⟩)),(5,.pointer (some ⟨b19,0,none⟩)),(6,.pointer (some ⟨b21,0,none⟩))])
        (fun z_ : Nat × Look × Int × List Nat × List Nat=>match z_ with | (j,l,n,o_,s_)=>[dat (Kd.row 158 (Kd.at1 (.int .i64 ((startLook t q).code)) kLookO)) [.slice (some ⟨b19,0,none⟩) 1 1] ([l]) o_ s_,blk b21 [.int .i64 0,.slice none 0 0,.int .i64 n] 77,blk b3 [.int .i64 0,.slice none 0 0,.int .i64 0] 77,blk b1 [.int .i64 t.style,.int .i64 t.arena.dims,.slice At2 t.arena.nodes.length ct2,.slice At3 t.arena.free.length ct3,.slice At4 t.arena.retired.length ct4,.int .i64 t.root,.int .i64 t.rootNsn,.int .i64 t.counter] 80,dat kTreeS [.int .i64 t.style,.int .i64 t.arena.dims,.slice At2 t.arena.nodes.length ct2,.slice At3 t.arena.free.length ct3,.slice At4 t.arena.retired.length ct4,.int .i64 t.root,.int .i64 t.rootNsn,.int .i64 t.counter] t ([]) st_])
        (fun z_ : Nat × Look × Int × List Nat × List Nat=>match z_ with | (j,l,n,o_,s_)=>RunAt t q j l n ∧ ∀ b ∈ s_,w.heap.size ≤ b) (fun z_ : Nat × Look × Int × List Nat × List Nat=>match z_ with | (j,l,n,o_,s_)=>j) (40,newLook t q,0,(b19 :: o23),s25) [0,1,1,2,3] ⟨runAt_0 htf,by grind⟩ ⟨rfl,rfl,rfl,rfl,trivial⟩ rfl ?_
    rintro ⟨j,l,n,o_,s_⟩ hp_
    obtain ⟨hat,hsee⟩:=hp_; have hrf:=run_facts hS hqf hat.2.1; have hb4:=hat.2.2.2.1; have hb5:=hat.2.2.2.2
    refine rowbox (fun cs_ o26 s27 w_ r28 us27=>?_)
    obtain ⟨cs2_,rfl,-,r28a⟩:=r28
    obtain ⟨A29,c30,A31,c32,A33,c34,A35,c36,A37,c38,rfl⟩:=kLookO_sh r28a
    refine at1e (rn ik 5 [0,0] rfl ?_)
    refine cs_ (v:=.bool (doneL l)) (by kernel_rfl) rfl rfl rfl (fun w_ hs_=>bor kLookO_seal (hs_.at 1 rfl) fun _ lb0_=>impl_Look_isDone w_ lb0_ hrf.1 hrf.2.1 hrf.2.2.1 hrf.2.2.2.1 (fun x hx=>by have z:=hrf.2.2.2.2.1 x hx; omega) hrf.2.2.2.2.2.1 hrf.2.2.2.2.2.2.1) (rn ik 3 [] rfl ?_)
    by_cases h39 : doneL l = true
    · refine r1_ ik 10 [0,0,0] rfl (not_f h39) (cm_ (dk:=(Kd.row 208 kPairO)) (x:=(tellL l)) (S:=[]) (by kernel_rfl) rfl rfl rfl sn0 (fun w_ hs_=>bor kLookO_seal (hs_.at 1 rfl) fun _ lb0_=>impl_Look_told w_ lb0_ hrf.1 hrf.2.1 hrf.2.2.1 hrf.2.2.2.1 (fun x hx=>by have z:=hrf.2.2.2.2.1 x hx; omega) hrf.2.2.2.2.2.1 hrf.2.2.2.2.2.2.1) (fun cs_ o42 s43 w_ r44 t45=>?_))
      obtain ⟨A40,c41,rfl⟩:=Kd.row_sh r44
      exact vl (fa rfl rfl rfl) rfl (f3 (sto rfl rfl rfl rfl rfl rfl rfl (cs':=[.int .i64 0,.slice A40 ((tellL l).length) c41,.int .i64 n]) rfl (rn ik 5 [0,0] rfl (f4 (sto rfl rfl rfl rfl rfl rfl rfl (cs':=[.int .i64 0,.slice A40 ((tellL l).length) c41,.int .i64 n]) rfl (en (nx (rt (gs Kd.i64 [.int .i64 n] ((⟨0,tellL l,n⟩ : RunLookResult).steps) (fun _=>⟨rfl,rfl,rfl⟩) (f3 (gj (da:=(Kd.via (Kd.row 208 kPairO) RunLookResult.pairs)) (db:=(Kd.via Kd.i64 RunLookResult.steps)) (x:=(⟨0,tellL l,n⟩ : RunLookResult)) rfl (gs Kd.i64 [.int .i64 0] ((⟨0,tellL l,n⟩ : RunLookResult).code) (fun _=>⟨rfl,rfl,rfl⟩) (gj (da:=(Kd.via Kd.i64 RunLookResult.code)) (db:=((Kd.via (Kd.row 208 kPairO) RunLookResult.pairs).cat (Kd.via Kd.i64 RunLookResult.steps))) (x:=(⟨0,tellL l,n⟩ : RunLookResult)) rfl (gr (runRes t q) (rr_yes h20 hat h39) (retc 1 rfl rfl rfl rfl rfl rfl (fun w_ hs_=>made hs_ rfl (see_app see_nil (see_app t45 see_nil))))))))))))))))))
    · obtain ⟨hsc,i,hij,hnx⟩:=runAt_step hS hat h39
      refine r1_ ik 10 [1,4,0] rfl (not_t (Bool.eq_false_iff.2 h39)) (f1 (at1i rfl (f1 (boxrow ?_))))
      refine gd 4 kTreeS_p1_4 rfl (cs':=[.int .i64 t.arena.dims,.slice At2 t.arena.nodes.length ct2,.slice At3 t.arena.free.length ct3,.slice At4 t.arena.retired.length ct4]) rfl fun s47 w_ rs47 us47=>?_
      refine f1 (cto (dk:=(Kd.row 158 (Kd.at1 (.int .i64 ((startLook t q).code)) kLookO))) (cs:=[.slice (some ⟨b19,0,none⟩) 1 1]) (x:=([(stepL t.arena l)])) (v:=.int .i64 (stepC t.arena l)) (S:=(s27)) (by kernel_rfl) rfl rfl rfl (snt 0 rfl) _ (fun _ hs_=>hs_.below.size) (fun w_ hs_=>impl_Look_step w_ ((hs_.pk [0,0] rfl).nl) hrf.1 hrf.2.2.1 hS (done_pos h39) (by omega) (by omega) hrf.2.2.2.2.1) (fun o48 s49 t50=>?_))
      refine rowbox (fun cs_ o51 s52 w_ r53 us52=>?_)
      obtain ⟨cs2_,rfl,-,r53a⟩:=r53
      obtain ⟨A54,c55,A56,c57,A58,c59,A60,c61,A62,c63,rfl⟩:=kLookO_sh r53a
      refine at1e (f1 (gsp (da:=(Kd.via kQueryO Look.query)) rfl rfl (fun o64 o65 s66 s67 us66 us67=>?_)))
      refine gv (f1 (gsp (da:=(Kd.via (Kd.row 210 kMarkO) Look.front)) rfl rfl (fun o68 o69 s70 s71 us70 us71=>?_)))
      refine gv (f1 (gv ?_))
      refine r1_ ik 16 [0,5,0] rfl (bne_eq_false_iff_eq.2 hsc) (vl (ra (c:=n + 1) rfl rfl rfl rfl (by omega) (by omega)) rfl (vl (fa rfl rfl rfl) rfl (f5 (sto rfl rfl rfl rfl rfl rfl rfl (cs':=[.int .i64 0,.slice none 0 0,.int .i64 (n + 1)]) rfl (en (f1 (f2 (gj (da:=(Kd.via (Kd.row 210 kMarkO) Look.front)) (db:=(Kd.via (Kd.row 208 kPairO) Look.found)) (x:=(stepL t.arena l)) rfl (f2 (gj (da:=(Kd.via kQueryO Look.query)) (db:=((Kd.via (Kd.row 210 kMarkO) Look.front).cat (Kd.via (Kd.row 208 kPairO) Look.found))) (x:=(stepL t.arena l)) rfl (at1i rfl (f2 (boxrow ?_)))))))))))))
      exact lpe (s:=(j,l,n,o_,s_)) (i,stepL t.arena l,n + 1,(b19 :: (o64 ++ (o68 ++ o69))),(s66 ++ (s70 ++ s71))) [0,0,1,1,1] ⟨hnx,by grind⟩ (by show i < j; omega) ⟨rfl,rfl,rfl,rfl,trivial⟩ rfl
  · exact r1_ ik 5 [1,0,0] rfl (bne_iff_ne.2 h20) (vl (bd bld77 rfl rfl rfl) rfl (f2 (sto rfl rfl rfl rfl rfl rfl rfl (cs':=[.int .i64 ((startLook t q).code),.slice none 0 0,.int .i64 0]) rfl (rn ik 4 [] rfl (gs Kd.i64 [.int .i64 0] ((⟨(startLook t q).code,[],0⟩ : RunLookResult).steps) (fun _=>⟨rfl,rfl,rfl⟩) (gs (Kd.row 208 kPairO) [.slice none 0 0] ((⟨(startLook t q).code,[],0⟩ : RunLookResult).pairs) (fun _=>.inl ⟨rfl,rfl,rfl,rfl⟩) (gj (da:=(Kd.via (Kd.row 208 kPairO) RunLookResult.pairs)) (db:=(Kd.via Kd.i64 RunLookResult.steps)) (x:=(⟨(startLook t q).code,[],0⟩ : RunLookResult)) rfl (gs Kd.i64 [.int .i64 ((startLook t q).code)] ((⟨(startLook t q).code,[],0⟩ : RunLookResult).code) (fun _=>⟨rfl,rfl,rfl⟩) (gj (da:=(Kd.via Kd.i64 RunLookResult.code)) (db:=((Kd.via (Kd.row 208 kPairO) RunLookResult.pairs).cat (Kd.via Kd.i64 RunLookResult.steps))) (x:=(⟨(startLook t q).code,[],0⟩ : RunLookResult)) rfl (gr (runRes t q) (rr_no h20) (retc 1 rfl rfl rfl rfl rfl rfl (fun w_ hs_=>made hs_ rfl (see_app see_nil (see_app see_nil see_nil))))))))))))))
set_option maxRecDepth 20000 in
set_option maxHeartbeats 4000000 in
theorem spec_RunLook (w : World) {t : Tree} (ht : kTreeS.Rel w [.int .i64 t.style,.int .i64 t.arena.dims,.slice At2 t.arena.nodes.length ct2,.slice At3 t.arena.free.length ct3,.slice At4 t.arena.retired.length ct4,.int .i64 t.root,.int .i64 t.rootNsn,.int .i64 t.counter] t [] st_) {q : Query} (hq : kQueryS.Rel w [.int .i64 q.kind,.slice Aq1 q.rect.low.length cq1,.slice Aq2 q.rect.high.length cq2,.slice Aq3 q.point.length cq3,.int .i64 q.k] q [] sq_)  : Calls Tryz.prog 37 #[.agg #[.int .i64 t.style,.int .i64 t.arena.dims,.slice At2 t.arena.nodes.length ct2,.slice At3 t.arena.free.length ct3,.slice At4 t.arena.retired.length ct4,.int .i64 t.root,.int .i64 t.rootNsn,.int .i64 t.counter],.agg #[.int .i64 q.kind,.slice Aq1 q.rect.low.length cq1,.slice Aq2 q.rect.high.length cq2,.slice Aq3 q.point.length cq3,.int .i64 q.k]] w (Made kRunLookResultS w (runRes t q) []):=by
  refine fnc (X:=X30 28 w) (l:=[(0,.agg #[.int .i64 t.style,.int .i64 t.arena.dims,.slice At2 t.arena.nodes.length ct2,.slice At3 t.arena.free.length ct3,.slice At4 t.arena.retired.length ct4,.int .i64 t.root,.int .i64 t.rootNsn,.int .i64 t.counter]),(1,.agg #[.int .i64 q.kind,.slice Aq1 q.rect.low.length cq1,.slice Aq2 q.rect.high.length cq2,.slice Aq3 q.point.length cq3,.int .i64 q.k])]) Tryz.func37 rfl rfl rfl ⟨rfl,rfl,trivial⟩ (s0d hq (s0d ht (s0n w))).1 ?_
  refine sq (rg (bx rfl rfl rfl rfl ?_))
  intro b1
  refine bx rfl rfl rfl rfl ?_
  intro b2
  refine al zero77 rfl rfl rfl ?_
  intro b3
  refine rn ik 6 [2,0,1,0] rfl (cm_ (dk:=kLookResultO) (x:=(startLook t q)) (S:=[]) (by kernel_rfl) rfl rfl rfl sn0 (fun w_ hs_=>spec_StartLook w_ (hs_.at 4 rfl) (hs_.at 3 rfl)) (fun cs_ o14 s15 w_ r16 t17=>?_))
  obtain ⟨A4,c5,A6,c7,A8,c9,A10,c11,A12,c13,rfl⟩:=kLookResultO_sh r16
  refine al zero158 rfl rfl rfl ?_
  intro b19
  refine sto rfl rfl rfl rfl rfl rfl rfl (cs':=[.int .i64 ((startLook t q).code),.int .i64 ((startLook t q).look.query.kind),.slice A4 (((startLook t q).look.query.rect.low).length) c5,.slice A6 (((startLook t q).look.query.rect.high).length) c7,.slice A8 (((startLook t q).look.query.point).length) c9,.int .i64 ((startLook t q).look.query.k),.slice A10 (((startLook t q).look.front).length) c11,.slice A12 (((startLook t q).look.found).length) c13]) rfl (rn ik 10 [0,0] rfl ?_)
  by_cases h20 : (startLook t q).code = (0 : Int)
  · obtain ⟨htf,hqf,hlk⟩:=start_ok h20; obtain ⟨hS,hrp,-⟩:=tree_0 htf
    refine r1_ ik 7 [0,0,0] rfl (bne_eq_false_iff_eq.2 h20) (al zero156 rfl rfl rfl ?_)
    intro b21
    refine sto rfl rfl rfl rfl rfl rfl rfl (cs':=[.int .i64 ((startLook t q).look.query.kind),.slice A4 (((startLook t q).look.query.rect.low).length) c5,.slice A6 (((startLook t q).look.query.rect.high).length) c7,.slice A8 (((startLook t q).look.query.point).length) c9,.int .i64 ((startLook t q).look.query.k),.slice A10 (((startLook t q).look.front).length) c11,.slice A12 (((startLook t q).look.found).length) c13]) rfl (rn ik 9 [] rfl ?_)
    refine f2 (gsp (da:=(Kd.via Kd.i64 LookResult.code)) rfl rfl (fun o22 o23 s24 s25 us24 us25=>?_))
    refine gv (f1 (gv (gr (newLook t q) hlk ?_)))
    refine f2 (boxrow ?_)
    refine lp (σ:=Nat × Look × Int × List Nat × List Nat) (fun z_ : Nat × Look × Int × List Nat × List Nat=>match z_ with | (j,l,n,o_,s_)=>[(2,.pointer (some ⟨b1,0,none⟩)),(4,.pointer (some ⟨b3,0,none⟩)),(6,.pointer (some ⟨b21,0,none⟩)),(7,.int .i64 n)])
        (fun z_ : Nat × Look × Int × List Nat × List Nat=>match z_ with | (j,l,n,o_,s_)=>[dat (Kd.row 156 kLookO) [.slice (some ⟨b21,0,none⟩) 1 1] ([l]) o_ s_,blk b3 [.int .i64 0,.slice none 0 0,.int .i64 0] 77,blk b1 [.int .i64 t.style,.int .i64 t.arena.dims,.slice At2 t.arena.nodes.length ct2,.slice At3 t.arena.free.length ct3,.slice At4 t.arena.retired.length ct4,.int .i64 t.root,.int .i64 t.rootNsn,.int .i64 t.counter] 80,dat kTreeS [.int .i64 t.style,.int .i64 t.arena.dims,.slice At2 t.arena.nodes.length ct2,.slice At3 t.arena.free.length ct3,.slice At4 t.arena.retired.length ct4,.int .i64 t.root,.int .i64 t.rootNsn,.int .i64 t.counter] t ([]) st_])
        (fun z_ : Nat × Look × Int × List Nat × List Nat=>match z_ with | (j,l,n,o_,s_)=>RunAt t q j l n ∧ ∀ b ∈ s_,w.heap.size ≤ b) (fun z_ : Nat × Look × Int × List Nat × List Nat=>match z_ with | (j,l,n,o_,s_)=>j) (40,newLook t q,0,(b21 :: o23),s25) [0,2,3,4] ⟨runAt_0 htf,by grind⟩ ⟨rfl,rfl,rfl,rfl,trivial⟩ rfl ?_
    rintro ⟨j,l,n,o_,s_⟩ hp_
    obtain ⟨hat,hsee⟩:=hp_; have hrf:=run_facts hS hqf hat.2.1; have hb4:=hat.2.2.2.1; have hb5:=hat.2.2.2.2
    refine rowbox (fun cs_ o26 s27 w_ r28 us27=>?_)
    obtain ⟨A29,c30,A31,c32,A33,c34,A35,c36,A37,c38,rfl⟩:=kLookO_sh r28
    refine sq (sq (rg ?_))
    refine cs_ (v:=.bool (doneL l)) (by kernel_rfl) rfl rfl rfl (fun w_ hs_=>bor kLookO_seal (hs_.at 1 rfl) fun _ lb0_=>spec_l9Done w_ (ptr_blk (hs_.at 0 rfl) lb0_ rfl) hrf.1 hrf.2.1 hrf.2.2.1 hrf.2.2.2.1 (fun x hx=>by have z:=hrf.2.2.2.2.1 x hx; omega) hrf.2.2.2.2.2.1 hrf.2.2.2.2.2.2.1) (rn ik 3 [] rfl ?_)
    by_cases h39 : doneL l = true
    · refine r1_ ik 8 [0] rfl (not_f h39) (cm_ (dk:=(Kd.sl kPairS)) (x:=(tellL l)) (S:=[]) (by kernel_rfl) rfl rfl rfl sn0 (fun w_ hs_=>bor kLookO_seal (hs_.at 1 rfl) fun _ lb0_=>spec_l9Answer w_ (ptr_blk (hs_.at 0 rfl) lb0_ rfl) hrf.1 hrf.2.1 hrf.2.2.1 hrf.2.2.2.1 (fun x hx=>by have z:=hrf.2.2.2.2.1 x hx; omega)) (fun cs_ o42 s43 w_ r44 t45=>?_))
      obtain ⟨rfl,A40,c41,rfl,Cr44,Lr44,-⟩:=r44
      exact m_ rfl rfl (vl (bd bld77 rfl rfl rfl) rfl (f3 (sto rfl rfl rfl rfl rfl rfl rfl (cs':=[.int .i64 0,.slice A40 ((tellL l).length) c41,.int .i64 n]) rfl (en (nx (rt (gs Kd.i64 [.int .i64 n] ((⟨0,tellL l,n⟩ : RunLookResult).steps) (fun _=>⟨rfl,rfl,rfl⟩) (f2 (gj (da:=(Kd.via (Kd.sl kPairS) RunLookResult.pairs)) (db:=(Kd.via Kd.i64 RunLookResult.steps)) (x:=(⟨0,tellL l,n⟩ : RunLookResult)) rfl (gs Kd.i64 [.int .i64 0] ((⟨0,tellL l,n⟩ : RunLookResult).code) (fun _=>⟨rfl,rfl,rfl⟩) (gj (da:=(Kd.via Kd.i64 RunLookResult.code)) (db:=((Kd.via (Kd.sl kPairS) RunLookResult.pairs).cat (Kd.via Kd.i64 RunLookResult.steps))) (x:=(⟨0,tellL l,n⟩ : RunLookResult)) rfl (gr (runRes t q) (rr_yes h20 hat h39) (retc 1 rfl rfl rfl rfl rfl rfl (fun w_ hs_=>made hs_ rfl (see_app see_nil (see_app t45 see_nil))))))))))))))))
    · obtain ⟨hsc,i,hij,hnx⟩:=runAt_step hS hat h39
      refine r1_ ik 7 [1] rfl (not_t (Bool.eq_false_iff.2 h39)) ?_
      refine gd 4 kTreeS_p1_4 rfl (cs':=[.int .i64 t.arena.dims,.slice At2 t.arena.nodes.length ct2,.slice At3 t.arena.free.length ct3,.slice At4 t.arena.retired.length ct4]) rfl fun s47 w_ rs47 us47=>?_
      refine f2 (f2 (boxrow (cto (dk:=(Kd.row 156 kLookO)) (cs:=[.slice (some ⟨b21,0,none⟩) 1 1]) (x:=([(stepL t.arena l)])) (v:=.int .i64 (stepC t.arena l)) (S:=(s27)) (by kernel_rfl) rfl rfl rfl (snt 0 rfl) _ (fun _ hs_=>hs_.below.size) (fun w_ hs_=>spec_l9Step w_ (St.ptrOf (hs_.pk [0,2,0] rfl).nl rfl) hrf.1 hrf.2.2.1 hS (done_pos h39) (by omega) (by omega) hrf.2.2.2.2.1) (fun o48 s49 t50=>?_))))
      refine rowbox (fun cs_ o51 s52 w_ r53 us52=>?_)
      obtain ⟨A54,c55,A56,c57,A58,c59,A60,c61,A62,c63,rfl⟩:=kLookO_sh r53
      refine f1 (gsp (da:=(Kd.via kQueryO Look.query)) rfl rfl (fun o64 o65 s66 s67 us66 us67=>?_))
      refine gv (f1 (gsp (da:=(Kd.via (Kd.row 210 kMarkO) Look.front)) rfl rfl (fun o68 o69 s70 s71 us70 us71=>?_)))
      refine gv (f1 (gv ?_))
      refine rn ik 4 [] rfl (vl (ra (c:=n + 1) rfl rfl rfl rfl (by omega) (by omega)) rfl (rn ik 3 [] rfl (f1 (gj (da:=(Kd.via (Kd.row 210 kMarkO) Look.front)) (db:=(Kd.via (Kd.row 208 kPairO) Look.found)) (x:=(stepL t.arena l)) rfl (f1 (gj (da:=(Kd.via kQueryO Look.query)) (db:=((Kd.via (Kd.row 210 kMarkO) Look.front).cat (Kd.via (Kd.row 208 kPairO) Look.found))) (x:=(stepL t.arena l)) rfl (f1 (boxrow ?_))))))))
      exact lpe (s:=(j,l,n,o_,s_)) (i,stepL t.arena l,n + 1,(b21 :: (o64 ++ (o68 ++ o69))),(s66 ++ (s70 ++ s71))) [0,1,1,1] ⟨hnx,by grind⟩ (by show i < j; omega) ⟨rfl,rfl,rfl,rfl,trivial⟩ rfl
  · exact r1_ ik 5 [1,0,0] rfl (bne_iff_ne.2 h20) (vl (bd bld77 rfl rfl rfl) rfl (f2 (sto rfl rfl rfl rfl rfl rfl rfl (cs':=[.int .i64 ((startLook t q).code),.slice none 0 0,.int .i64 0]) rfl (rn ik 4 [] rfl (gs Kd.i64 [.int .i64 0] ((⟨(startLook t q).code,[],0⟩ : RunLookResult).steps) (fun _=>⟨rfl,rfl,rfl⟩) (gs (Kd.sl kPairS) [.slice none 0 0] ((⟨(startLook t q).code,[],0⟩ : RunLookResult).pairs) (fun _=>⟨rfl,none,0,rfl,Nat.le_refl _,Nat.zero_le _,.inl ⟨rfl,rfl⟩⟩) (gj (da:=(Kd.via (Kd.sl kPairS) RunLookResult.pairs)) (db:=(Kd.via Kd.i64 RunLookResult.steps)) (x:=(⟨(startLook t q).code,[],0⟩ : RunLookResult)) rfl (gs Kd.i64 [.int .i64 ((startLook t q).code)] ((⟨(startLook t q).code,[],0⟩ : RunLookResult).code) (fun _=>⟨rfl,rfl,rfl⟩) (gj (da:=(Kd.via Kd.i64 RunLookResult.code)) (db:=((Kd.via (Kd.sl kPairS) RunLookResult.pairs).cat (Kd.via Kd.i64 RunLookResult.steps))) (x:=(⟨(startLook t q).code,[],0⟩ : RunLookResult)) rfl (gr (runRes t q) (rr_no h20) (retc 1 rfl rfl rfl rfl rfl rfl (fun w_ hs_=>made hs_ rfl (see_app see_nil (see_app see_nil see_nil))))))))))))))
end Go.Proofs.YtjdkfibeogiekaaGreat.Sx
