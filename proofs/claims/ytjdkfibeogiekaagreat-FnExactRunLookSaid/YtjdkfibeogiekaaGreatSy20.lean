/- What functions of the program answer, each at every input that its row names; walked through their code. -/
import Derived.Test.YtjdkfibeogiekaaGreatSy19
namespace Go.Proofs.YtjdkfibeogiekaaGreat.Sx
open Go Go.RowKit Go.Proofs
set_option linter.unusedVariables false
set_option linter.unusedSimpArgs false
set_option maxRecDepth 20000
set_option maxHeartbeats 2000000
def tab20 : Tab := { size := [(2, 1, false), (24, 1, false), (36, 1, false), (52, 4, true), (82, 2, true), (102, 4, true)], off := [((40, 1), 1), ((52, 0), 0), ((52, 1), 1), ((52, 3), 3), ((80, 1), 1), ((80, 2), 5), ((102, 0), 0), ((102, 1), 2), ((102, 2), 3)], elem := [(24, 102), (36, 52), (37, 2)] }
theorem tab_ok20 : tab20.check Tryz.prog = true:=by kernel_rfl
noncomputable abbrev X20 (N : Nat) (w : World) : Cx := ⟨Tryz.prog, tab20, tab_ok20, wide, N, w, none, []⟩

theorem spec_l6Walk_r (L : Nat) (ih : ∀ (m_ : Nat),m_ < L → ∀ (w : World) (id : Int) {At2 : Option Addr} {ct2 : Nat} {At3 : Option Addr} {ct3 : Nat} {At4 : Option Addr} {ct4 : Nat} {t : Tree} {st_ : List Nat} {pt : Addr} {Amet : Option Addr} {cmet : Nat} {met : List Int} {omet_ smet_ : List Nat} (hst : St (nul w) w [dat (Kd.row 2 Kd.i64) [.slice Amet met.length cmet] met omet_ smet_,ptr kTreeS pt [.int .i64 t.style,.int .i64 t.arena.dims,.slice At2 t.arena.nodes.length ct2,.slice At3 t.arena.free.length ct3,.slice At4 t.arena.retired.length ct4,.int .i64 t.root,.int .i64 t.rootNsn,.int .i64 t.counter] t st_]) (hS : Sound t.arena) (hp : isPlace t.arena id = true) (hn : id ∉ met) (hm : Met t met) (hL : (nodeAt t.arena id).level = (m_ : Int)),Calls Tryz.prog 283 #[.pointer (some pt),.int .i64 id,.slice Amet met.length cmet] w (MadeOT (Kd.row 2 Kd.i64) w omet_ (walkM t m_ id met) (smet_) (fun v_=>.tuple #[v_,.bool ((walkF t m_ id met).isSome)]))) (w : World) (id : Int) {At2 : Option Addr} {ct2 : Nat} {At3 : Option Addr} {ct3 : Nat} {At4 : Option Addr} {ct4 : Nat} {t : Tree} {st_ : List Nat} {pt : Addr} {Amet : Option Addr} {cmet : Nat} {met : List Int} {omet_ smet_ : List Nat} (hst : St (nul w) w [dat (Kd.row 2 Kd.i64) [.slice Amet met.length cmet] met omet_ smet_,ptr kTreeS pt [.int .i64 t.style,.int .i64 t.arena.dims,.slice At2 t.arena.nodes.length ct2,.slice At3 t.arena.free.length ct3,.slice At4 t.arena.retired.length ct4,.int .i64 t.root,.int .i64 t.rootNsn,.int .i64 t.counter] t st_]) (hS : Sound t.arena) (hp : isPlace t.arena id = true) (hn : id ∉ met) (hm : Met t met) (hL : (nodeAt t.arena id).level = (L : Int)) : Calls Tryz.prog 283 #[.pointer (some pt),.int .i64 id,.slice Amet met.length cmet] w (MadeOT (Kd.row 2 Kd.i64) w omet_ (walkM t L id met) (smet_) (fun v_=>.tuple #[v_,.bool ((walkF t L id met).isSome)])):=by
  have Lmet:=Kd.row_len (hst.at 0 rfl); have Cmet:=Kd.row_cap (hst.at 0 rfl)
  have hq:=within_t hp; have hml:=hm.len; have hsl:=hS.len; have hms:=hm.snoc hp hn; have hml2:=hms.len; have hnl:=node_0 (hS.node _ (nodeAt_mem hp).1)
  refine fnc (X:=X20 138 (nul w)) (l:=[(0,.pointer (some pt)),(1,.int .i64 id),(2,.slice Amet met.length cmet)]) Tryz.func283 rfl rfl rfl ⟨rfl,rfl,rfl,trivial⟩ (⟨hst.fr omet_ (by simp [owns,dat,ptr]),trivial⟩ : _ ∧ True).1 ?_
  refine rn ik 11 [] rfl (vl (fb rfl rfl rfl) rfl (rn ik 2 [2,3] rfl ?_))
  refine gp 2 kTreeS_p2_1 rfl (cs':=[.slice At2 t.arena.nodes.length ct2]) rfl fun s1 w_ rs1 us1=>?_
  have Ls1:=Kd.sl_len rs1; have Cs1:=Kd.sl_cap rs1
  refine gx 0 id.toNat rfl (by omega) fun y7 p2 cs_ s3 w6 m8 e4 r5 us3=>?_
  obtain ⟨A9,c10,rfl⟩:=kNodeS_sh r5
  have ey7:=nodeAt_of m8; subst ey7
  refine vl (ixz id.toNat (by omega) e4 rfl rfl rfl rfl rfl (by omega)) rfl (rn ik 7 [] rfl (gs Kd.i64 [.int .i64 id] id (fun _=>⟨rfl,rfl,rfl⟩) (bs1 (dk:=Kd.i64) rfl info2 (by decide) rfl rfl rfl rfl ?_)))
  intro b11
  refine f4 (ap (met ++ [id]) rfl info2 rfl rfl (by decide) rfl rfl rfl rfl (by simp only [List.length_append,List.length_cons,List.length_nil] at *; omega) (by simp only [List.length_append,List.length_cons,List.length_nil] at *; omega) rfl (fun A12 c13 o14 s15 t16=>?_))
  refine rn ik 13 [4,6] rfl (cs_ (v:=.bool (decide ((nodeAt t.arena id).entries.length ≤ 4 ∧ (2 ≤ (nodeAt t.arena id).entries.length ∨ ((id == t.root) = true ∧ (nodeAt t.arena id).level = 0))))) (by kernel_rfl) rfl rfl rfl (fun w_ hs_=>spec_l6Counts w_ _ (hs_.at 1 rfl)) (rn ik 3 [] rfl ?_))
  by_cases h17 : decide ((nodeAt t.arena id).entries.length ≤ 4 ∧ (2 ≤ (nodeAt t.arena id).entries.length ∨ ((id == t.root) = true ∧ (nodeAt t.arena id).level = 0))) = true
  · refine r1_ ik 13 [0,1,1] rfl (not_f h17) ?_
    by_cases h18 : (nodeAt t.arena id).level = (0 : Int)
    · refine r1_ ik 10 [1] rfl (beq_iff_eq.2 h18) ?_
      have hw19 : walkF t L id met = some (met ++ [id]):=walk_zero (by omega) (by unfold counts; simpa using h17)
      exact gr (walkM t L id met) (by unfold walkM; rw [hw19]; rfl) (ret2 rfl rfl rfl (fun w_ hs_=>madeoT hs_ 2 rfl rfl (by rw [hw19]; rfl) (by grind)))
    · refine r1_ ik 10 [0] rfl (beq_eq_false_iff_ne.2 h18) ?_
      have hcnt : counts t id (nodeAt t.arena id) = true:=(by unfold counts; simpa using h17)
      refine lp (σ:=Nat × List Int × Option Addr × Nat × List Nat × List Nat) (fun z_ : Nat × List Int × Option Addr × Nat × List Nat × List Nat=>match z_ with | (k,m,A_,c_,o_,s_)=>[(0,.pointer (some pt)),(2,.slice A_ m.length c_),(8,.pointer (some p2)),(9,.int .i64 ((k : Nat) : Int))])
          (fun z_ : Nat × List Int × Option Addr × Nat × List Nat × List Nat=>match z_ with | (k,m,A_,c_,o_,s_)=>[dat (Kd.row 2 Kd.i64) [.slice A_ m.length c_] m o_ s_,ptr kNodeS p2 [.int .i64 ((nodeAt t.arena id).level),.int .i64 ((nodeAt t.arena id).nsn),.int .i64 ((nodeAt t.arena id).right),.slice A9 ((nodeAt t.arena id).entries.length) c10] (nodeAt t.arena id) s3,dat (Kd.sl kNodeS) [.slice At2 t.arena.nodes.length ct2] t.arena.nodes ([]) s1,frm w omet_,ptr kTreeS pt [.int .i64 t.style,.int .i64 t.arena.dims,.slice At2 t.arena.nodes.length ct2,.slice At3 t.arena.free.length ct3,.slice At4 t.arena.retired.length ct4,.int .i64 t.root,.int .i64 t.rootNsn,.int .i64 t.counter] t st_])
          (fun z_ : Nat × List Int × Option Addr × Nat × List Nat × List Nat=>match z_ with | (k,m,A_,c_,o_,s_)=>k ≤ (nodeAt t.arena id).entries.length ∧ ((nodeAt t.arena id).entries.drop k).foldlM (walkStep t (L - 1) (nodeAt t.arena id)) m = (nodeAt t.arena id).entries.foldlM (walkStep t (L - 1) (nodeAt t.arena id)) (met ++ [id]) ∧ Met t m ∧ ∀ q ∈ s_,q ∈ smet_ ∨ w.heap.size ≤ q) (fun z_ : Nat × List Int × Option Addr × Nat × List Nat × List Nat=>match z_ with | (k,m,A_,c_,o_,s_)=>(nodeAt t.arena id).entries.length - k) (0,(met ++ [id]),A12,c13,o14,s15) [0,0,0,0,0] ⟨Nat.zero_le _,rfl,hms,by grind⟩ ⟨rfl,rfl,rfl,rfl,trivial⟩ rfl ?_
      rintro ⟨k,m,A_,c_,o_,s_⟩ hp_
      obtain ⟨hk,hfold,hmm,hs1⟩:=hp_; have hml3:=hmm.len
      refine rn ik 12 [1,4] rfl ?_
      by_cases h20 : ((k : Nat) : Int) < (((nodeAt t.arena id).entries.length : Nat) : Int)
      · refine r1_ ik 12 [1,1,4] rfl (decide_eq_true h20) ?_
        refine gp 1 kNodeS_p3_1 rfl (cs':=[.slice A9 ((nodeAt t.arena id).entries.length) c10]) rfl fun s21 w_ rs21 us21=>?_
        have Ls21:=Kd.sl_len rs21; have Cs21:=Kd.sl_cap rs21
        refine gx 0 k rfl (by omega) fun y27 p22 cs_ s23 w26 m28 e24 r25 us23=>?_
        obtain ⟨A29,c30,A31,c32,rfl⟩:=kEntryS_sh r25
        refine vl (ix k e24 rfl rfl rfl rfl rfl (by omega)) rfl (rn ik 5 [] rfl ?_)
        refine gq 6 kTreeS_p1_4 rfl (cs':=[.int .i64 t.arena.dims,.slice At2 t.arena.nodes.length ct2,.slice At3 t.arena.free.length ct3,.slice At4 t.arena.retired.length ct4]) rfl fun s33 w_ rs33 us33=>?_
        by_cases h34 : isUsed t.arena y27.ref = true
        · have qh34:=within_t (used_place h34)
          refine rn ik 8 [1,2,3,4,5,6,7,1,3] rfl (q1 7 [0,0,0,0,0,0,0,0] rfl (by kernel_rfl) rfl (cs_ (v:=.bool (isUsed t.arena y27.ref)) (by kernel_rfl) rfl rfl rfl (fun w_ hs_=>by exact spec_l6Used w_ _ (hs_.at 0 rfl)) (qn (rp ik 7 [9,10,11,1,12,1,13,1,14,1,15,1,1,3] rfl ⟨(not_f h34),(not_f h34),(not_f h34),(not_f h34),(not_f h34),⟨⟩⟩ (q1 15 [0,0,0,0,0,0,0,0] rfl (by kernel_rfl) rfl (gw rfl rfl (not_f h34) (cs_ (v:=.bool (decide (y27.ref ∈ m))) (by kernel_rfl) rfl rfl rfl (fun w_ hs_=>by exact bor (Kd.Seals.row Kd.Seals.i64 _) (hs_.at 3 rfl) fun _ lb0_=>spec_l1Has w_ _ lb0_) (qn (r2_ ik 3 [17,0,0] rfl (not_f h34) ⟨[0,0,0,0,0,0,0,0],rfl⟩ ?_)))))))))
          by_cases h35 : decide (y27.ref ∈ m) = true
          · refine r1_ ik 14 [1] rfl h35 ?_
            have hw36 : walkF t L id met = none:=(walk_eq (by omega) hcnt).trans (wf_no hfold m28 (ws_no1 (by grind [kidOk])))
            exact gs (Kd.row 2 Kd.i64) [.slice none 0 0] [] (fun _=>.inl ⟨rfl,rfl,rfl,rfl⟩) (gr (walkM t L id met) (by unfold walkM; rw [hw36]; rfl) (ret2 rfl rfl rfl (fun w_ hs_=>madeoT hs_ 6 rfl rfl (by rw [hw36]; rfl) see_nil)))
          · refine r1_ ik 4 [0] rfl (Bool.eq_false_iff.2 h35) ?_
            refine gx 5 y27.ref.toNat rfl (by omega) fun y42 p37 cs_ s38 w41 m43 e39 r40 us38=>?_
            obtain ⟨A44,c45,rfl⟩:=kNodeS_sh r40
            have ey42:=nodeAt_of m43; subst ey42
            refine rn ik 4 [1,2,3] rfl (qv 3 rfl (fb rfl rfl rfl) rfl (by kernel_rfl) (rn ik 5 [5,8,3,6,7,8,9,2,3] rfl (qv 9 rfl (ixz y27.ref.toNat (by omega) e39 rfl rfl rfl rfl rfl (by omega)) rfl (by kernel_rfl) (r1_ ik 5 [11,0] rfl ⟨[0,0,0,0,0,0,0,0,0],rfl⟩ ?_))))
            by_cases h46 : (nodeAt t.arena y27.ref).level = (nodeAt t.arena id).level - 1
            · by_cases h47 : (nodeAt t.arena y27.ref).nsn = y27.nsn
              · by_cases h48 : (((nodeAt t.arena y27.ref).entries.length : Nat) : Int) = (0 : Int)
                · refine rn ik 9 [1,2,3,4,0,1,5,6,7,8,5,1] rfl (qv 8 rfl (rs (c:=(nodeAt t.arena id).level - 1) rfl rfl rfl rfl (by omega) (by omega)) rfl (by kernel_rfl) (rp ik 49 [10,11,12,1,13,1,14,1,15,1,0,2,16,1,17,1,18,1,19,1,2,4,20,1,21,0,22,23,1,24,1,25,1,26,1,0,4,27,1,28,1,29,0,30,31,0,32,0,33,0,34,0,35,0,36,0,37,0,38,0,39,0,40,0,41,0,42,1,0,1] rfl ⟨rfl,⟨[0,0,0,0,0,0,0,0,0],rfl⟩,(beq_iff_eq.2 h48),(beq_iff_eq.2 h48),(beq_iff_eq.2 h48),(beq_iff_eq.2 h48),(beq_iff_eq.2 h48),(beq_iff_eq.2 h48),(beq_iff_eq.2 h48),(beq_iff_eq.2 h48),(beq_iff_eq.2 h48),(beq_iff_eq.2 h48),(beq_iff_eq.2 h48),(beq_iff_eq.2 h48),(bne_eq_false_iff_eq.2 h47),(bne_eq_false_iff_eq.2 h47),(bne_eq_false_iff_eq.2 h47),(bne_eq_false_iff_eq.2 h47),(bne_eq_false_iff_eq.2 h47),(bne_eq_false_iff_eq.2 h47),(bne_eq_false_iff_eq.2 h47),(bne_eq_false_iff_eq.2 h46),(bne_eq_false_iff_eq.2 h46),(bne_eq_false_iff_eq.2 h46),(bne_eq_false_iff_eq.2 h46),(bne_eq_false_iff_eq.2 h46),(bne_eq_false_iff_eq.2 h46),(bne_eq_false_iff_eq.2 h46),(bne_eq_false_iff_eq.2 h46),(bne_eq_false_iff_eq.2 h46),(bne_eq_false_iff_eq.2 h46),⟨⟩⟩ ?_))
                  have hw49 : walkF t L id met = none:=(walk_eq (by omega) hcnt).trans (wf_no hfold m28 (ws_no1 (by grind [kidOk])))
                  exact gs (Kd.row 2 Kd.i64) [.slice none 0 0] [] (fun _=>.inl ⟨rfl,rfl,rfl,rfl⟩) (gr (walkM t L id met) (by unfold walkM; rw [hw49]; rfl) (ret2 rfl rfl rfl (fun w_ hs_=>madeoT hs_ 7 rfl rfl (by rw [hw49]; rfl) see_nil)))
                · refine gp 0 kNodeS_p3_1 rfl (cs':=[.slice A44 ((nodeAt t.arena y27.ref).entries.length) c45]) rfl fun s50 w_ rs50 us50=>?_
                  have Ls50:=Kd.sl_len rs50; have Cs50:=Kd.sl_cap rs50
                  refine rn ik 9 [1,2,3,4,1,1,5,6,7,8,6,1] rfl (qv 8 rfl (rs (c:=(nodeAt t.arena id).level - 1) rfl rfl rfl rfl (by omega) (by omega)) rfl (by kernel_rfl) (rp ik 29 [10,11,12,1,13,1,14,1,15,1,1,2,16,1,17,1,18,1,19,1,3,4,20,1,21,0,22,23,1,24,1,25,1,26,1,1,4,27,1,28,1,29,0,30,31,1,32,1,33,1,34,1,1,4,36,1,37,1,38,1,39,1,3,1] rfl ⟨(beq_eq_false_iff_ne.2 h48),(beq_eq_false_iff_ne.2 h48),(beq_eq_false_iff_ne.2 h48),(beq_eq_false_iff_ne.2 h48),(beq_eq_false_iff_ne.2 h48),(beq_eq_false_iff_ne.2 h48),(beq_eq_false_iff_ne.2 h48),(beq_eq_false_iff_ne.2 h48),(bne_eq_false_iff_eq.2 h47),(bne_eq_false_iff_eq.2 h47),(bne_eq_false_iff_eq.2 h47),(bne_eq_false_iff_eq.2 h47),(bne_eq_false_iff_eq.2 h47),(bne_eq_false_iff_eq.2 h47),(bne_eq_false_iff_eq.2 h47),(bne_eq_false_iff_eq.2 h46),(bne_eq_false_iff_eq.2 h46),(bne_eq_false_iff_eq.2 h46),(bne_eq_false_iff_eq.2 h46),(bne_eq_false_iff_eq.2 h46),(bne_eq_false_iff_eq.2 h46),(bne_eq_false_iff_eq.2 h46),(bne_eq_false_iff_eq.2 h46),(bne_eq_false_iff_eq.2 h46),(bne_eq_false_iff_eq.2 h46),⟨⟩⟩ (q1 34 [0,0,0,0,0,0,0,0,0,0] rfl (by kernel_rfl) rfl (gw rfl rfl (beq_eq_false_iff_ne.2 h48) (cmm (dk:=kRectO) (x:=(boxOf ((nodeAt t.arena y27.ref).entries))) (S:=[]) (by kernel_rfl) rfl rfl rfl sn0 w.heap.size (fun w_ hs_=>(hs_.mod 8 rfl).size) (fun w_ hs_=>by exact spec_l3Box w_ (hs_.at 0 rfl) (hS.kids (used_place h34)) hS.dimOk (by omega)) (fun cs_ o59 s60 w_ r61 t62=>?_))))))
                  obtain ⟨A55,c56,A57,c58,rfl⟩:=kRectO_sh r61
                  refine qn (q1 39 [1,1,1,1,1,1,1,1,1,1] rfl (by kernel_rfl) rfl (gw rfl rfl (beq_eq_false_iff_ne.2 h48) ?_))
                  refine gp 4 kEntryS_p0_2 rfl (cs':=[.slice A29 y27.rect.low.length c30,.slice A31 y27.rect.high.length c32]) rfl fun s64 w_ rs64 us64=>?_
                  refine cs_ (v:=.bool (decide ((boxOf ((nodeAt t.arena y27.ref).entries)) = y27.rect))) (by kernel_rfl) rfl rfl rfl (fun w_ hs_=>by exact bor kRectO_seal (hs_.at 1 rfl) fun _ lb0_=>spec_SameRects w_ lb0_ (hs_.at 0 rfl)) (qn (r3_ ik 4 [41,1,42,0,0] rfl (beq_eq_false_iff_ne.2 h48) (beq_eq_false_iff_ne.2 h48) ⟨[2,2,2,2,2,2,2,2,2,2],rfl⟩ ?_))
                  by_cases h65 : decide ((boxOf ((nodeAt t.arena y27.ref).entries)) = y27.rect) = true
                  · refine r1_ ik 11 [0,5,3] rfl (not_f h65) (f7 (coT (dk:=(Kd.row 2 Kd.i64)) (x:=(walkM t (L - 1) y27.ref m)) (S:=(s_)) (f:=(fun v_=>.tuple #[v_,.bool ((walkF t (L - 1) y27.ref m).isSome)])) (by kernel_rfl) rfl rfl rfl (snt 0 rfl) w.heap.size (fun w_ hs_=>(hs_.mod 10 rfl).size) (fun w_ hs_=>(ih _ (by omega)) w_ _ ((hs_.pk [0,10] rfl).nl) hS (used_place h34) (of_decide_eq_false (Bool.eq_false_iff.2 h35)) hmm (by rw [h46]; omega)) (fun cs_ o68 s69 w_ r70 t71=>?_)))
                    obtain ⟨A66,c67,rfl⟩:=Kd.row_sh r70
                    refine rn ik 14 [] rfl ?_
                    by_cases h72 : (walkF t (L - 1) y27.ref m).isSome = true
                    · exact r1_ ik 11 [0] rfl (not_f h72) (vl (ra (c:=((k + 1 : Nat) : Int)) rfl rfl rfl (by omega) (by omega) (by omega)) rfl (rn ik 2 [] rfl (lpe (s:=(k,m,A_,c_,o_,s_)) (k + 1,(walkM t (L - 1) y27.ref m),A66,c67,o68,s69) [0,7,7,7,7] ⟨by omega,wf_on hfold m28 ((ws_yes h34 (of_decide_eq_false (Bool.eq_false_iff.2 h35)) (kid_t h46 h47 h48 h65)).trans (some_of h72)),walkF_met (L - 1) hmm (used_place h34) (of_decide_eq_false (Bool.eq_false_iff.2 h35)) (some_of h72),by grind⟩ (by show (nodeAt t.arena id).entries.length - (k + 1) < (nodeAt t.arena id).entries.length - k; omega) ⟨rfl,rfl,rfl,rfl,trivial⟩ rfl)))
                    · refine r1_ ik 14 [1] rfl (not_t (Bool.eq_false_iff.2 h72)) ?_
                      have hw73 : walkF t L id met = none:=(walk_eq (by omega) hcnt).trans (wf_no hfold m28 ((ws_yes h34 (of_decide_eq_false (Bool.eq_false_iff.2 h35)) (kid_t h46 h47 h48 h65)).trans (none_of h72)))
                      exact gs (Kd.row 2 Kd.i64) [.slice none 0 0] [] (fun _=>.inl ⟨rfl,rfl,rfl,rfl⟩) (gr (walkM t L id met) (by unfold walkM; rw [hw73]; rfl) (ret2 rfl rfl rfl (fun w_ hs_=>madeoT hs_ 10 rfl rfl (by rw [hw73]; rfl) see_nil)))
                  · refine r1_ ik 14 [1] rfl (not_t (Bool.eq_false_iff.2 h65)) ?_
                    have hw74 : walkF t L id met = none:=(walk_eq (by omega) hcnt).trans (wf_no hfold m28 (ws_no1 (by grind [kidOk])))
                    exact gs (Kd.row 2 Kd.i64) [.slice none 0 0] [] (fun _=>.inl ⟨rfl,rfl,rfl,rfl⟩) (gr (walkM t L id met) (by unfold walkM; rw [hw74]; rfl) (ret2 rfl rfl rfl (fun w_ hs_=>madeoT hs_ 10 rfl rfl (by rw [hw74]; rfl) see_nil)))
              · refine rn ik 9 [1,2,3,4,0,1,5,6,7,8,5,1] rfl (qv 8 rfl (rs (c:=(nodeAt t.arena id).level - 1) rfl rfl rfl rfl (by omega) (by omega)) rfl (by kernel_rfl) (rp ik 49 [10,11,12,1,13,1,14,1,15,1,0,2,16,1,17,1,18,1,19,1,2,4,20,1,21,0,22,23,0,24,0,25,0,26,0,27,0,28,0,29,1,30,31,0,32,0,33,0,34,0,35,0,36,0,37,0,38,0,39,0,40,0,41,0,42,1,0,1] rfl ⟨rfl,⟨[0,0,0,0,0,0,0,0,0],rfl⟩,rfl,rfl,rfl,rfl,rfl,rfl,rfl,rfl,rfl,rfl,rfl,rfl,(bne_iff_ne.2 h47),(bne_iff_ne.2 h47),(bne_iff_ne.2 h47),(bne_iff_ne.2 h47),(bne_iff_ne.2 h47),(bne_iff_ne.2 h47),(bne_iff_ne.2 h47),(bne_eq_false_iff_eq.2 h46),(bne_eq_false_iff_eq.2 h46),(bne_eq_false_iff_eq.2 h46),(bne_eq_false_iff_eq.2 h46),(bne_eq_false_iff_eq.2 h46),(bne_eq_false_iff_eq.2 h46),(bne_eq_false_iff_eq.2 h46),(bne_eq_false_iff_eq.2 h46),(bne_eq_false_iff_eq.2 h46),(bne_eq_false_iff_eq.2 h46),⟨⟩⟩ ?_))
                have hw75 : walkF t L id met = none:=(walk_eq (by omega) hcnt).trans (wf_no hfold m28 (ws_no1 (by grind [kidOk])))
                exact gs (Kd.row 2 Kd.i64) [.slice none 0 0] [] (fun _=>.inl ⟨rfl,rfl,rfl,rfl⟩) (gr (walkM t L id met) (by unfold walkM; rw [hw75]; rfl) (ret2 rfl rfl rfl (fun w_ hs_=>madeoT hs_ 7 rfl rfl (by rw [hw75]; rfl) see_nil)))
            · refine rn ik 9 [1,2,3,4,0,1,5,6,7,8,5,1] rfl (qv 8 rfl (rs (c:=(nodeAt t.arena id).level - 1) rfl rfl rfl rfl (by omega) (by omega)) rfl (by kernel_rfl) (rp ik 49 [10,11,12,0,13,0,14,0,15,0,16,0,17,0,18,0,19,0,20,0,21,1,22,23,0,24,0,25,0,26,0,27,0,28,0,29,1,30,31,0,32,0,33,0,34,0,35,0,36,0,37,0,38,0,39,0,40,0,41,0,42,1,0,1] rfl ⟨rfl,⟨[0,0,0,0,0,0,0,0,0],rfl⟩,rfl,rfl,rfl,rfl,rfl,rfl,rfl,rfl,rfl,rfl,rfl,rfl,rfl,rfl,rfl,rfl,rfl,rfl,rfl,(bne_iff_ne.2 h46),(bne_iff_ne.2 h46),(bne_iff_ne.2 h46),(bne_iff_ne.2 h46),(bne_iff_ne.2 h46),(bne_iff_ne.2 h46),(bne_iff_ne.2 h46),(bne_iff_ne.2 h46),(bne_iff_ne.2 h46),(bne_iff_ne.2 h46),⟨⟩⟩ ?_))
              have hw76 : walkF t L id met = none:=(walk_eq (by omega) hcnt).trans (wf_no hfold m28 (ws_no1 (by grind [kidOk])))
              exact gs (Kd.row 2 Kd.i64) [.slice none 0 0] [] (fun _=>.inl ⟨rfl,rfl,rfl,rfl⟩) (gr (walkM t L id met) (by unfold walkM; rw [hw76]; rfl) (ret2 rfl rfl rfl (fun w_ hs_=>madeoT hs_ 7 rfl rfl (by rw [hw76]; rfl) see_nil)))
        · refine rn ik 8 [1,2,3,4,5,6,7,1,3] rfl (q1 7 [0,0,0,0,0,0,0,0] rfl (by kernel_rfl) rfl (cs_ (v:=.bool (isUsed t.arena y27.ref)) (by kernel_rfl) rfl rfl rfl (fun w_ hs_=>by exact spec_l6Used w_ _ (hs_.at 0 rfl)) (qn (rp ik 25 [9,10,11,0,12,0,13,0,14,0,15,0,16,0,17,1,0,1] rfl ⟨rfl,⟨[0,0,0,0,0,0,0,0],rfl⟩,(not_t (Bool.eq_false_iff.2 h34)),(not_t (Bool.eq_false_iff.2 h34)),(not_t (Bool.eq_false_iff.2 h34)),(not_t (Bool.eq_false_iff.2 h34)),(not_t (Bool.eq_false_iff.2 h34)),(not_t (Bool.eq_false_iff.2 h34)),(not_t (Bool.eq_false_iff.2 h34)),⟨⟩⟩ ?_))))
          have hw77 : walkF t L id met = none:=(walk_eq (by omega) hcnt).trans (wf_no hfold m28 (ws_no1 (by grind [kidOk])))
          exact gs (Kd.row 2 Kd.i64) [.slice none 0 0] [] (fun _=>.inl ⟨rfl,rfl,rfl,rfl⟩) (gr (walkM t L id met) (by unfold walkM; rw [hw77]; rfl) (ret2 rfl rfl rfl (fun w_ hs_=>madeoT hs_ 6 rfl rfl (by rw [hw77]; rfl) see_nil)))
      · refine r1_ ik 14 [0] rfl (decide_eq_false h20) ?_
        have hw78 : walkF t L id met = some m:=(walk_eq (by omega) hcnt).trans (wf_end hfold (by omega))
        exact gr (walkM t L id met) (by unfold walkM; rw [hw78]; rfl) (ret2 rfl rfl rfl (fun w_ hs_=>madeoT hs_ 2 rfl rfl (by rw [hw78]; rfl) (by grind)))
  · refine r1_ ik 9 [1] rfl (not_t (Bool.eq_false_iff.2 h17)) ?_
    have hw79 : walkF t L id met = none:=walk_bad (by unfold counts; simpa using h17)
    exact gs (Kd.row 2 Kd.i64) [.slice none 0 0] [] (fun _=>.inl ⟨rfl,rfl,rfl,rfl⟩) (gr (walkM t L id met) (by unfold walkM; rw [hw79]; rfl) (ret2 rfl rfl rfl (fun w_ hs_=>madeoT hs_ 3 rfl rfl (by rw [hw79]; rfl) see_nil)))
theorem spec_l6Walk : ∀ (L : Nat) (w : World) (id : Int) {At2 : Option Addr} {ct2 : Nat} {At3 : Option Addr} {ct3 : Nat} {At4 : Option Addr} {ct4 : Nat} {t : Tree} {st_ : List Nat} {pt : Addr} {Amet : Option Addr} {cmet : Nat} {met : List Int} {omet_ smet_ : List Nat} (hst : St (nul w) w [dat (Kd.row 2 Kd.i64) [.slice Amet met.length cmet] met omet_ smet_,ptr kTreeS pt [.int .i64 t.style,.int .i64 t.arena.dims,.slice At2 t.arena.nodes.length ct2,.slice At3 t.arena.free.length ct3,.slice At4 t.arena.retired.length ct4,.int .i64 t.root,.int .i64 t.rootNsn,.int .i64 t.counter] t st_]) (hS : Sound t.arena) (hp : isPlace t.arena id = true) (hn : id ∉ met) (hm : Met t met) (hL : (nodeAt t.arena id).level = (L : Int)),Calls Tryz.prog 283 #[.pointer (some pt),.int .i64 id,.slice Amet met.length cmet] w (MadeOT (Kd.row 2 Kd.i64) w omet_ (walkM t L id met) (smet_) (fun v_=>.tuple #[v_,.bool ((walkF t L id met).isSome)])):=by
  intro L
  induction L using Nat.strongRecOn with
  | _ L ih=>exact spec_l6Walk_r L ih
end Go.Proofs.YtjdkfibeogiekaaGreat.Sx
