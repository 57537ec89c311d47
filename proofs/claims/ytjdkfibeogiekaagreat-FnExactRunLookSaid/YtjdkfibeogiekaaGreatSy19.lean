/- What functions of the program answer, each at every input that its row names; walked through their code. -/
import Derived.Test.YtjdkfibeogiekaaGreatSy18
namespace Go.Proofs.YtjdkfibeogiekaaGreat.Sx
open Go Go.RowKit Go.Proofs
set_option linter.unusedVariables false
set_option linter.unusedSimpArgs false
set_option maxRecDepth 20000
set_option maxHeartbeats 2000000
def tab19 : Tab := { size := [(2, 1, false), (24, 1, false), (36, 1, false), (40, 4, true), (52, 4, true), (80, 8, true), (82, 2, true), (102, 4, true)], off := [((40, 1), 1), ((52, 0), 0), ((52, 1), 1), ((52, 3), 3), ((80, 1), 1), ((80, 2), 5), ((102, 0), 0), ((102, 1), 2), ((102, 2), 3)], elem := [(24, 102), (36, 52), (37, 2)] }
theorem tab_ok19 : tab19.check Tryz.prog = true:=by kernel_rfl
noncomputable abbrev X19 (N : Nat) (w : World) : Cx := ⟨Tryz.prog, tab19, tab_ok19, wide, N, w, none, []⟩

theorem impl_Tree_walk_r (L : Nat) (ih : ∀ (m_ : Nat),m_ < L → ∀ (w : World) (id : Int) {At2 : Option Addr} {ct2 : Nat} {At3 : Option Addr} {ct3 : Nat} {At4 : Option Addr} {ct4 : Nat} {t : Tree} {st_ : List Nat} {Amet : Option Addr} {cmet : Nat} {met : List Int} {omet_ smet_ : List Nat} (hst : St (nul w) w [dat (Kd.row 2 Kd.i64) [.slice Amet met.length cmet] met omet_ smet_,dat kTreeS [.int .i64 t.style,.int .i64 t.arena.dims,.slice At2 t.arena.nodes.length ct2,.slice At3 t.arena.free.length ct3,.slice At4 t.arena.retired.length ct4,.int .i64 t.root,.int .i64 t.rootNsn,.int .i64 t.counter] t ([]) st_]) (hS : Sound t.arena) (hp : isPlace t.arena id = true) (hn : id ∉ met) (hm : Met t met) (hL : (nodeAt t.arena id).level = (m_ : Int)),Calls Tryz.prog 289 #[.agg #[.int .i64 t.style,.int .i64 t.arena.dims,.slice At2 t.arena.nodes.length ct2,.slice At3 t.arena.free.length ct3,.slice At4 t.arena.retired.length ct4,.int .i64 t.root,.int .i64 t.rootNsn,.int .i64 t.counter],.int .i64 id,.slice Amet met.length cmet] w (MadeOT (Kd.row 2 Kd.i64) w omet_ (walkM t m_ id met) (smet_) (fun v_=>.tuple #[v_,.bool ((walkF t m_ id met).isSome)]))) (w : World) (id : Int) {At2 : Option Addr} {ct2 : Nat} {At3 : Option Addr} {ct3 : Nat} {At4 : Option Addr} {ct4 : Nat} {t : Tree} {st_ : List Nat} {Amet : Option Addr} {cmet : Nat} {met : List Int} {omet_ smet_ : List Nat} (hst : St (nul w) w [dat (Kd.row 2 Kd.i64) [.slice Amet met.length cmet] met omet_ smet_,dat kTreeS [.int .i64 t.style,.int .i64 t.arena.dims,.slice At2 t.arena.nodes.length ct2,.slice At3 t.arena.free.length ct3,.slice At4 t.arena.retired.length ct4,.int .i64 t.root,.int .i64 t.rootNsn,.int .i64 t.counter] t ([]) st_]) (hS : Sound t.arena) (hp : isPlace t.arena id = true) (hn : id ∉ met) (hm : Met t met) (hL : (nodeAt t.arena id).level = (L : Int)) : Calls Tryz.prog 289 #[.agg #[.int .i64 t.style,.int .i64 t.arena.dims,.slice At2 t.arena.nodes.length ct2,.slice At3 t.arena.free.length ct3,.slice At4 t.arena.retired.length ct4,.int .i64 t.root,.int .i64 t.rootNsn,.int .i64 t.counter],.int .i64 id,.slice Amet met.length cmet] w (MadeOT (Kd.row 2 Kd.i64) w omet_ (walkM t L id met) (smet_) (fun v_=>.tuple #[v_,.bool ((walkF t L id met).isSome)])):=by
  have Lmet:=Kd.row_len (hst.at 0 rfl); have Cmet:=Kd.row_cap (hst.at 0 rfl)
  have hq:=within_t hp; have hml:=hm.len; have hsl:=hS.len; have hms:=hm.snoc hp hn; have hml2:=hms.len; have hnl:=node_0 (hS.node _ (nodeAt_mem hp).1)
  refine fnc (X:=X19 114 (nul w)) (l:=[(0,.agg #[.int .i64 t.style,.int .i64 t.arena.dims,.slice At2 t.arena.nodes.length ct2,.slice At3 t.arena.free.length ct3,.slice At4 t.arena.retired.length ct4,.int .i64 t.root,.int .i64 t.rootNsn,.int .i64 t.counter]),(1,.int .i64 id),(2,.slice Amet met.length cmet)]) Tryz.func289 rfl rfl rfl ⟨rfl,rfl,rfl,trivial⟩ (⟨hst.fr omet_ (by simp [owns,dat,ptr]),trivial⟩ : _ ∧ True).1 ?_
  refine sq (rg (bx rfl rfl rfl rfl ?_))
  intro b1
  refine rn ik 10 [0,0] rfl ?_
  refine gd 3 kTreeS_p2_1 rfl (cs':=[.slice At2 t.arena.nodes.length ct2]) rfl fun s2 w_ rs2 us2=>?_
  have Ls2:=Kd.sl_len rs2; have Cs2:=Kd.sl_cap rs2
  refine gx 0 id.toNat rfl (by omega) fun y8 p3 cs_ s4 w7 m9 e5 r6 us4=>?_
  obtain ⟨A10,c11,rfl⟩:=kNodeS_sh r6
  have ey8:=nodeAt_of m9; subst ey8
  refine vl (ixz id.toNat (by omega) e5 rfl rfl rfl rfl rfl (by omega)) rfl (vl (ldq 0 rfl rfl rfl rfl rfl rfl rfl) rfl (al zero52 rfl rfl rfl ?_))
  intro b12
  refine sto rfl rfl rfl rfl rfl rfl rfl (cs':=[.int .i64 ((nodeAt t.arena id).level),.int .i64 ((nodeAt t.arena id).nsn),.int .i64 ((nodeAt t.arena id).right),.slice A10 ((nodeAt t.arena id).entries.length) c11]) rfl (rn ik 15 [3,0] rfl ?_)
  by_cases h13 : id = t.root
  · refine r4_ ik 6 [1,1,0,0,1,1] rfl (beq_iff_eq.2 h13) (beq_iff_eq.2 h13) (beq_iff_eq.2 h13) (beq_iff_eq.2 h13) ?_
    by_cases h14 : (nodeAt t.arena id).level = (0 : Int)
    · refine r1_ ik 9 [1] rfl (beq_iff_eq.2 h14) (gs Kd.i64 [.int .i64 id] id (fun _=>⟨rfl,rfl,rfl⟩) (bs1 (dk:=Kd.i64) rfl info2 (by decide) rfl rfl rfl rfl ?_))
      intro b15
      refine f6 (ap (met ++ [id]) rfl info2 rfl rfl (by decide) rfl rfl rfl rfl (by simp only [List.length_append,List.length_cons,List.length_nil] at *; omega) (by simp only [List.length_append,List.length_cons,List.length_nil] at *; omega) rfl (fun A16 c17 o18 s19 t20=>?_))
      refine rn ik 11 [1,0] rfl ?_
      by_cases h21 : (4 : Int) < (((nodeAt t.arena id).entries.length : Nat) : Int)
      · refine rp ik 17 [0,0,0,0,0,1,1] rfl ⟨rfl,(decide_eq_true h21),(decide_eq_true h21),(decide_eq_true h21),(decide_eq_true h21),(decide_eq_true h21),(decide_eq_true h21),⟨⟩⟩ ?_
        have hw22 : walkF t L id met = none:=walk_bad (by first | exact counts_f1 (by omega) | exact counts_t (by omega) (by first | (left; omega) | (right; exact ⟨by omega,by omega⟩)) | exact counts_f2 (by omega) (by omega))
        exact gs (Kd.row 2 Kd.i64) [.slice none 0 0] [] (fun _=>.inl ⟨rfl,rfl,rfl,rfl⟩) (gr (walkM t L id met) (by unfold walkM; rw [hw22]; rfl) (ret2 rfl rfl rfl (fun w_ hs_=>madeoT hs_ 5 rfl rfl (by rw [hw22]; rfl) see_nil)))
      · refine rp ik 8 [1,1,1,0,1,1,1,0] rfl ⟨(decide_eq_false h21),(decide_eq_false h21),(decide_eq_false h21),(decide_eq_false h21),(decide_eq_false h21),(decide_eq_false h21),⟨⟩⟩ ?_
        by_cases h23 : (((nodeAt t.arena id).entries.length : Nat) : Int) < (0 : Int)
        · refine r1_ ik 9 [1] rfl (decide_eq_true h23) ?_
          have hw24 : walkF t L id met = none:=walk_bad (by first | exact counts_f1 (by omega) | exact counts_t (by omega) (by first | (left; omega) | (right; exact ⟨by omega,by omega⟩)) | exact counts_f2 (by omega) (by omega))
          exact gs (Kd.row 2 Kd.i64) [.slice none 0 0] [] (fun _=>.inl ⟨rfl,rfl,rfl,rfl⟩) (gr (walkM t L id met) (by unfold walkM; rw [hw24]; rfl) (ret2 rfl rfl rfl (fun w_ hs_=>madeoT hs_ 5 rfl rfl (by rw [hw24]; rfl) see_nil)))
        · refine r2_ ik 21 [0,1,0,1] rfl (decide_eq_false h23) (beq_iff_eq.2 h14) ?_
          have hw25 : walkF t L id met = some (met ++ [id]):=walk_zero (by omega) (by first | exact counts_f1 (by omega) | exact counts_t (by omega) (by first | (left; omega) | (right; exact ⟨by omega,by omega⟩)) | exact counts_f2 (by omega) (by omega))
          exact gr (walkM t L id met) (by unfold walkM; rw [hw25]; rfl) (ret2 rfl rfl rfl (fun w_ hs_=>madeoT hs_ 4 rfl rfl (by rw [hw25]; rfl) (by grind)))
    · refine r1_ ik 7 [0] rfl (beq_eq_false_iff_ne.2 h14) (gs Kd.i64 [.int .i64 id] id (fun _=>⟨rfl,rfl,rfl⟩) (bs1 (dk:=Kd.i64) rfl info2 (by decide) rfl rfl rfl rfl ?_))
      intro b26
      refine f6 (ap (met ++ [id]) rfl info2 rfl rfl (by decide) rfl rfl rfl rfl (by simp only [List.length_append,List.length_cons,List.length_nil] at *; omega) (by simp only [List.length_append,List.length_cons,List.length_nil] at *; omega) rfl (fun A27 c28 o29 s30 t31=>?_))
      refine rn ik 11 [1,0] rfl ?_
      by_cases h32 : (4 : Int) < (((nodeAt t.arena id).entries.length : Nat) : Int)
      · refine rp ik 17 [0,0,0,0,0,1,1] rfl ⟨rfl,(decide_eq_true h32),(decide_eq_true h32),(decide_eq_true h32),(decide_eq_true h32),(decide_eq_true h32),(decide_eq_true h32),⟨⟩⟩ ?_
        have hw33 : walkF t L id met = none:=walk_bad (by first | exact counts_f1 (by omega) | exact counts_t (by omega) (by first | (left; omega) | (right; exact ⟨by omega,by omega⟩)) | exact counts_f2 (by omega) (by omega))
        exact gs (Kd.row 2 Kd.i64) [.slice none 0 0] [] (fun _=>.inl ⟨rfl,rfl,rfl,rfl⟩) (gr (walkM t L id met) (by unfold walkM; rw [hw33]; rfl) (ret2 rfl rfl rfl (fun w_ hs_=>madeoT hs_ 5 rfl rfl (by rw [hw33]; rfl) see_nil)))
      · refine rp ik 8 [1,1,1,0,1,1,1,0] rfl ⟨(decide_eq_false h32),(decide_eq_false h32),(decide_eq_false h32),(decide_eq_false h32),(decide_eq_false h32),(decide_eq_false h32),⟨⟩⟩ ?_
        by_cases h34 : (((nodeAt t.arena id).entries.length : Nat) : Int) < (2 : Int)
        · refine r1_ ik 9 [1] rfl (decide_eq_true h34) ?_
          have hw35 : walkF t L id met = none:=walk_bad (by first | exact counts_f1 (by omega) | exact counts_t (by omega) (by first | (left; omega) | (right; exact ⟨by omega,by omega⟩)) | exact counts_f2 (by omega) (by omega))
          exact gs (Kd.row 2 Kd.i64) [.slice none 0 0] [] (fun _=>.inl ⟨rfl,rfl,rfl,rfl⟩) (gr (walkM t L id met) (by unfold walkM; rw [hw35]; rfl) (ret2 rfl rfl rfl (fun w_ hs_=>madeoT hs_ 5 rfl rfl (by rw [hw35]; rfl) see_nil)))
        · refine r2_ ik 24 [0,1,0,0,1,0] rfl (decide_eq_false h34) (beq_eq_false_iff_ne.2 h14) ?_
          have hcnt : counts t id (nodeAt t.arena id) = true:=by first | exact counts_t (by omega) (by first | (left; omega) | (right; exact ⟨by omega,by omega⟩))
          refine lp (σ:=Nat × List Int × Option Addr × Nat × List Nat × List Nat) (fun z_ : Nat × List Int × Option Addr × Nat × List Nat × List Nat=>match z_ with | (k,m,A_,c_,o_,s_)=>[(2,.slice A_ m.length c_),(3,.pointer (some ⟨b1,0,none⟩)),(8,.pointer (some ⟨b12,0,none⟩)),(49,.slice A10 ((nodeAt t.arena id).entries.length) c11),(50,.int .i64 (((nodeAt t.arena id).entries.length : Nat) : Int)),(51,.int .i64 ((k : Nat) : Int))])
              (fun z_ : Nat × List Int × Option Addr × Nat × List Nat × List Nat=>match z_ with | (k,m,A_,c_,o_,s_)=>[dat (Kd.row 2 Kd.i64) [.slice A_ m.length c_] m o_ s_,blk b12 [.int .i64 ((nodeAt t.arena id).level),.int .i64 ((nodeAt t.arena id).nsn),.int .i64 ((nodeAt t.arena id).right),.slice A10 ((nodeAt t.arena id).entries.length) c11] 52,ptr kNodeS p3 [.int .i64 ((nodeAt t.arena id).level),.int .i64 ((nodeAt t.arena id).nsn),.int .i64 ((nodeAt t.arena id).right),.slice A10 ((nodeAt t.arena id).entries.length) c11] (nodeAt t.arena id) s4,dat (Kd.sl kNodeS) [.slice At2 t.arena.nodes.length ct2] t.arena.nodes ([]) s2,blk b1 [.int .i64 t.style,.int .i64 t.arena.dims,.slice At2 t.arena.nodes.length ct2,.slice At3 t.arena.free.length ct3,.slice At4 t.arena.retired.length ct4,.int .i64 t.root,.int .i64 t.rootNsn,.int .i64 t.counter] 80,frm w omet_,dat kTreeS [.int .i64 t.style,.int .i64 t.arena.dims,.slice At2 t.arena.nodes.length ct2,.slice At3 t.arena.free.length ct3,.slice At4 t.arena.retired.length ct4,.int .i64 t.root,.int .i64 t.rootNsn,.int .i64 t.counter] t ([]) st_])
              (fun z_ : Nat × List Int × Option Addr × Nat × List Nat × List Nat=>match z_ with | (k,m,A_,c_,o_,s_)=>k ≤ (nodeAt t.arena id).entries.length ∧ ((nodeAt t.arena id).entries.drop k).foldlM (walkStep t (L - 1) (nodeAt t.arena id)) m = (nodeAt t.arena id).entries.foldlM (walkStep t (L - 1) (nodeAt t.arena id)) (met ++ [id]) ∧ Met t m ∧ ∀ q ∈ s_,q ∈ smet_ ∨ w.heap.size ≤ q) (fun z_ : Nat × List Int × Option Addr × Nat × List Nat × List Nat=>match z_ with | (k,m,A_,c_,o_,s_)=>(nodeAt t.arena id).entries.length - k) (0,(met ++ [id]),A27,c28,o29,s30) [0,0,0,0,0,0,0] ⟨Nat.zero_le _,rfl,hms,by grind⟩ ⟨rfl,rfl,rfl,rfl,rfl,rfl,trivial⟩ rfl ?_
          rintro ⟨k,m,A_,c_,o_,s_⟩ hp_
          obtain ⟨hk,hfold,hmm,hs1⟩:=hp_; have hml3:=hmm.len
          refine rn ik 6 [] rfl ?_
          by_cases h36 : ((k : Nat) : Int) < (((nodeAt t.arena id).entries.length : Nat) : Int)
          · refine r1_ ik 7 [1] rfl (decide_eq_true h36) ?_
            refine gp 2 kNodeS_p3_1 rfl (cs':=[.slice A10 ((nodeAt t.arena id).entries.length) c11]) rfl fun s37 w_ rs37 us37=>?_
            have Ls37:=Kd.sl_len rs37; have Cs37:=Kd.sl_cap rs37
            refine gx 0 k rfl (by omega) fun y43 p38 cs_ s39 w42 m44 e40 r41 us39=>?_
            obtain ⟨A45,c46,A47,c48,rfl⟩:=kEntryS_sh r41
            refine vl (ix k e40 rfl rfl rfl rfl rfl (by omega)) rfl (vl (ldq 0 rfl rfl rfl rfl rfl rfl rfl) rfl (al zero102 rfl rfl rfl ?_))
            intro b49
            refine sto rfl rfl rfl rfl rfl rfl rfl (cs':=[.slice A45 y43.rect.low.length c46,.slice A47 y43.rect.high.length c48,.int .i64 y43.ref,.int .i64 y43.nsn]) rfl (rn ik 9 [7,0,0,0] rfl ?_)
            refine gd 9 kTreeS_p1_4 rfl (cs':=[.int .i64 t.arena.dims,.slice At2 t.arena.nodes.length ct2,.slice At3 t.arena.free.length ct3,.slice At4 t.arena.retired.length ct4]) rfl fun s50 w_ rs50 us50=>?_
            refine cs_ (v:=.bool (isUsed t.arena y43.ref)) (by kernel_rfl) rfl rfl rfl (fun w_ hs_=>impl_Arena_isUsed w_ _ (hs_.at 0 rfl)) (rn ik 2 [] rfl ?_)
            by_cases h51 : isUsed t.arena y43.ref = true
            · have qh51:=within_t (used_place h51)
              refine r3_ ik 3 [1,1,1,1,0] rfl (not_f h51) (not_f h51) (not_f h51) (gw rfl rfl (not_f h51) (cs_ (v:=.bool (decide (y43.ref ∈ m))) (by kernel_rfl) rfl rfl rfl (fun w_ hs_=>bor (Kd.Seals.row Kd.Seals.i64 _) (hs_.at 4 rfl) fun _ lb0_=>slices_Contains_int64_int64 w_ _ lb0_) (r1_ ik 3 [0] rfl (not_f h51) ?_)))
              by_cases h52 : decide (y43.ref ∈ m) = true
              · refine r1_ ik 14 [1] rfl h52 ?_
                have hw53 : walkF t L id met = none:=(walk_eq (by omega) hcnt).trans (wf_no hfold m44 (ws_no1 (by grind [kidOk])))
                exact gs (Kd.row 2 Kd.i64) [.slice none 0 0] [] (fun _=>.inl ⟨rfl,rfl,rfl,rfl⟩) (gr (walkM t L id met) (by unfold walkM; rw [hw53]; rfl) (ret2 rfl rfl rfl (fun w_ hs_=>madeoT hs_ 9 rfl rfl (by rw [hw53]; rfl) see_nil)))
              · refine r1_ ik 10 [0,8,0,1,0] rfl (Bool.eq_false_iff.2 h52) ?_
                refine gx 7 y43.ref.toNat rfl (by omega) fun y59 p54 cs_ s55 w58 m60 e56 r57 us55=>?_
                obtain ⟨A61,c62,rfl⟩:=kNodeS_sh r57
                have ey59:=nodeAt_of m60; subst ey59
                refine vl (ixz y43.ref.toNat (by omega) e56 rfl rfl rfl rfl rfl (by omega)) rfl (vl (ldq 0 rfl rfl rfl rfl rfl rfl rfl) rfl (al zero52 rfl rfl rfl ?_))
                intro b63
                refine sto rfl rfl rfl rfl rfl rfl rfl (cs':=[.int .i64 ((nodeAt t.arena y43.ref).level),.int .i64 ((nodeAt t.arena y43.ref).nsn),.int .i64 ((nodeAt t.arena y43.ref).right),.slice A61 ((nodeAt t.arena y43.ref).entries.length) c62]) rfl (rn ik 4 [] rfl ?_)
                by_cases h64 : (nodeAt t.arena y43.ref).level = (nodeAt t.arena id).level - 1
                · by_cases h65 : (nodeAt t.arena y43.ref).nsn = y43.nsn
                  · by_cases h66 : (((nodeAt t.arena y43.ref).entries.length : Nat) : Int) = (0 : Int)
                    · refine rn ik 5 [1,2,0,0,3,4,7,0] rfl (qv 4 rfl (rs (c:=(nodeAt t.arena id).level - 1) rfl rfl rfl rfl (by omega) (by omega)) rfl (by kernel_rfl) (rp ik 39 [6,7,8,1,9,1,0,0,10,1,11,1,3,0,12,1,13,0,14,15,1,16,1,0,0,17,1,18,1,19,0,20,21,0,22,0,23,0,24,0,25,0,26,0,27,0,28,1,0,1] rfl ⟨rfl,⟨[0,0,0,0,0,0,0,0,0,0,0,0,0],rfl⟩,(beq_iff_eq.2 h66),(beq_iff_eq.2 h66),(beq_iff_eq.2 h66),(beq_iff_eq.2 h66),(beq_iff_eq.2 h66),(beq_iff_eq.2 h66),(beq_iff_eq.2 h66),(beq_iff_eq.2 h66),(bne_eq_false_iff_eq.2 h65),(bne_eq_false_iff_eq.2 h65),(bne_eq_false_iff_eq.2 h65),(bne_eq_false_iff_eq.2 h65),(bne_eq_false_iff_eq.2 h65),(bne_eq_false_iff_eq.2 h64),(bne_eq_false_iff_eq.2 h64),(bne_eq_false_iff_eq.2 h64),(bne_eq_false_iff_eq.2 h64),(bne_eq_false_iff_eq.2 h64),(bne_eq_false_iff_eq.2 h64),⟨⟩⟩ ?_))
                      have hw67 : walkF t L id met = none:=(walk_eq (by omega) hcnt).trans (wf_no hfold m44 (ws_no1 (by grind [kidOk])))
                      exact gs (Kd.row 2 Kd.i64) [.slice none 0 0] [] (fun _=>.inl ⟨rfl,rfl,rfl,rfl⟩) (gr (walkM t L id met) (by unfold walkM; rw [hw67]; rfl) (ret2 rfl rfl rfl (fun w_ hs_=>madeoT hs_ 11 rfl rfl (by rw [hw67]; rfl) see_nil)))
                    · refine gp 1 kNodeS_p3_1 rfl (cs':=[.slice A61 ((nodeAt t.arena y43.ref).entries.length) c62]) rfl fun s68 w_ rs68 us68=>?_
                      have Ls68:=Kd.sl_len rs68; have Cs68:=Kd.sl_cap rs68
                      refine rn ik 5 [1,2,1,0,3,4,8,0] rfl (qv 4 rfl (rs (c:=(nodeAt t.arena id).level - 1) rfl rfl rfl rfl (by omega) (by omega)) rfl (by kernel_rfl) (rp ik 19 [6,7,8,1,9,1,1,0,10,1,11,1,4,0,12,1,13,0,14,15,1,16,1,1,0,17,1,18,1,19,0,20,21,1,22,1,1,0,24,1,25,1,4,0] rfl ⟨(beq_eq_false_iff_ne.2 h66),(beq_eq_false_iff_ne.2 h66),(beq_eq_false_iff_ne.2 h66),(beq_eq_false_iff_ne.2 h66),(bne_eq_false_iff_eq.2 h65),(bne_eq_false_iff_eq.2 h65),(bne_eq_false_iff_eq.2 h65),(bne_eq_false_iff_eq.2 h65),(bne_eq_false_iff_eq.2 h65),(bne_eq_false_iff_eq.2 h64),(bne_eq_false_iff_eq.2 h64),(bne_eq_false_iff_eq.2 h64),(bne_eq_false_iff_eq.2 h64),(bne_eq_false_iff_eq.2 h64),(bne_eq_false_iff_eq.2 h64),⟨⟩⟩ (q1 22 [0,0,0,0,0,0,0,0,0,0,0,0,0,0] rfl (by kernel_rfl) rfl (gw rfl rfl (beq_eq_false_iff_ne.2 h66) (cmm (dk:=kRectO) (x:=(boxOf ((nodeAt t.arena y43.ref).entries))) (S:=[]) (by kernel_rfl) rfl rfl rfl sn0 w.heap.size (fun w_ hs_=>(hs_.mod 12 rfl).size) (fun w_ hs_=>by exact impl_box w_ (hs_.at 0 rfl) (hS.kids (used_place h51)) hS.dimOk (by omega)) (fun cs_ o77 s78 w_ r79 t80=>?_))))))
                      obtain ⟨A73,c74,A75,c76,rfl⟩:=kRectO_sh r79
                      refine qn (q1 25 [1,1,1,1,1,1,1,1,1,1,1,1,1,1] rfl (by kernel_rfl) rfl (gw rfl rfl (beq_eq_false_iff_ne.2 h66) ?_))
                      refine gp 6 kEntryS_p0_2 rfl (cs':=[.slice A45 y43.rect.low.length c46,.slice A47 y43.rect.high.length c48]) rfl fun s82 w_ rs82 us82=>?_
                      refine cs_ (v:=.bool (decide ((boxOf ((nodeAt t.arena y43.ref).entries)) = y43.rect))) (by kernel_rfl) rfl rfl rfl (fun w_ hs_=>by exact bor kRectO_seal (hs_.at 1 rfl) fun _ lb0_=>impl_SameRects w_ lb0_ (hs_.at 0 rfl)) (qn (r3_ ik 4 [27,1,28,0,0] rfl (beq_eq_false_iff_ne.2 h66) (beq_eq_false_iff_ne.2 h66) ⟨[2,2,2,2,2,2,2,2,2,2,2,2,2,2],rfl⟩ ?_))
                      by_cases h83 : decide ((boxOf ((nodeAt t.arena y43.ref).entries)) = y43.rect) = true
                      · refine r1_ ik 14 [0,13,0,6,0] rfl (not_f h83) (f9 (coT (dk:=(Kd.row 2 Kd.i64)) (x:=(walkM t (L - 1) y43.ref m)) (S:=(s_)) (f:=(fun v_=>.tuple #[v_,.bool ((walkF t (L - 1) y43.ref m).isSome)])) (by kernel_rfl) rfl rfl rfl (snt 0 rfl) w.heap.size (fun w_ hs_=>(hs_.mod 14 rfl).size) (fun w_ hs_=>(ih _ (by omega)) w_ _ ((hs_.pk [0,14] rfl).nl) hS (used_place h51) (of_decide_eq_false (Bool.eq_false_iff.2 h52)) hmm (by rw [h64]; omega)) (fun cs_ o86 s87 w_ r88 t89=>?_)))
                        obtain ⟨A84,c85,rfl⟩:=Kd.row_sh r88
                        refine rn ik 13 [] rfl ?_
                        by_cases h90 : (walkF t (L - 1) y43.ref m).isSome = true
                        · exact r1_ ik 5 [0] rfl (not_f h90) (vl (ra (c:=((k + 1 : Nat) : Int)) rfl rfl rfl (by omega) (by omega) (by omega)) rfl (rn ik 2 [] rfl (lpe (s:=(k,m,A_,c_,o_,s_)) (k + 1,(walkM t (L - 1) y43.ref m),A84,c85,o86,s87) [0,9,9,9,9,9,9] ⟨by omega,wf_on hfold m44 ((ws_yes h51 (of_decide_eq_false (Bool.eq_false_iff.2 h52)) (kid_t h64 h65 h66 h83)).trans (some_of h90)),walkF_met (L - 1) hmm (used_place h51) (of_decide_eq_false (Bool.eq_false_iff.2 h52)) (some_of h90),by grind⟩ (by show (nodeAt t.arena id).entries.length - (k + 1) < (nodeAt t.arena id).entries.length - k; omega) ⟨rfl,rfl,rfl,rfl,rfl,rfl,trivial⟩ rfl)))
                        · refine r1_ ik 13 [1] rfl (not_t (Bool.eq_false_iff.2 h90)) ?_
                          have hw91 : walkF t L id met = none:=(walk_eq (by omega) hcnt).trans (wf_no hfold m44 ((ws_yes h51 (of_decide_eq_false (Bool.eq_false_iff.2 h52)) (kid_t h64 h65 h66 h83)).trans (none_of h90)))
                          exact gs (Kd.row 2 Kd.i64) [.slice none 0 0] [] (fun _=>.inl ⟨rfl,rfl,rfl,rfl⟩) (gr (walkM t L id met) (by unfold walkM; rw [hw91]; rfl) (ret2 rfl rfl rfl (fun w_ hs_=>madeoT hs_ 14 rfl rfl (by rw [hw91]; rfl) see_nil)))
                      · refine r1_ ik 14 [1] rfl (not_t (Bool.eq_false_iff.2 h83)) ?_
                        have hw92 : walkF t L id met = none:=(walk_eq (by omega) hcnt).trans (wf_no hfold m44 (ws_no1 (by grind [kidOk])))
                        exact gs (Kd.row 2 Kd.i64) [.slice none 0 0] [] (fun _=>.inl ⟨rfl,rfl,rfl,rfl⟩) (gr (walkM t L id met) (by unfold walkM; rw [hw92]; rfl) (ret2 rfl rfl rfl (fun w_ hs_=>madeoT hs_ 14 rfl rfl (by rw [hw92]; rfl) see_nil)))
                  · refine rn ik 5 [1,2,0,0,3,4,7,0] rfl (qv 4 rfl (rs (c:=(nodeAt t.arena id).level - 1) rfl rfl rfl rfl (by omega) (by omega)) rfl (by kernel_rfl) (rp ik 39 [6,7,8,1,9,1,0,0,10,1,11,1,3,0,12,1,13,0,14,15,0,16,0,17,0,18,0,19,1,20,21,0,22,0,23,0,24,0,25,0,26,0,27,0,28,1,0,1] rfl ⟨rfl,⟨[0,0,0,0,0,0,0,0,0,0,0,0,0],rfl⟩,rfl,rfl,rfl,rfl,rfl,rfl,rfl,rfl,(bne_iff_ne.2 h65),(bne_iff_ne.2 h65),(bne_iff_ne.2 h65),(bne_iff_ne.2 h65),(bne_iff_ne.2 h65),(bne_eq_false_iff_eq.2 h64),(bne_eq_false_iff_eq.2 h64),(bne_eq_false_iff_eq.2 h64),(bne_eq_false_iff_eq.2 h64),(bne_eq_false_iff_eq.2 h64),(bne_eq_false_iff_eq.2 h64),⟨⟩⟩ ?_))
                    have hw93 : walkF t L id met = none:=(walk_eq (by omega) hcnt).trans (wf_no hfold m44 (ws_no1 (by grind [kidOk])))
                    exact gs (Kd.row 2 Kd.i64) [.slice none 0 0] [] (fun _=>.inl ⟨rfl,rfl,rfl,rfl⟩) (gr (walkM t L id met) (by unfold walkM; rw [hw93]; rfl) (ret2 rfl rfl rfl (fun w_ hs_=>madeoT hs_ 11 rfl rfl (by rw [hw93]; rfl) see_nil)))
                · refine rn ik 5 [1,2,0,0,3,4,7,0] rfl (qv 4 rfl (rs (c:=(nodeAt t.arena id).level - 1) rfl rfl rfl rfl (by omega) (by omega)) rfl (by kernel_rfl) (rp ik 39 [6,7,8,0,9,0,10,0,11,0,12,0,13,1,14,15,0,16,0,17,0,18,0,19,1,20,21,0,22,0,23,0,24,0,25,0,26,0,27,0,28,1,0,1] rfl ⟨rfl,⟨[0,0,0,0,0,0,0,0,0,0,0,0,0],rfl⟩,rfl,rfl,rfl,rfl,rfl,rfl,rfl,rfl,rfl,rfl,rfl,rfl,rfl,(bne_iff_ne.2 h64),(bne_iff_ne.2 h64),(bne_iff_ne.2 h64),(bne_iff_ne.2 h64),(bne_iff_ne.2 h64),(bne_iff_ne.2 h64),⟨⟩⟩ ?_))
                  have hw94 : walkF t L id met = none:=(walk_eq (by omega) hcnt).trans (wf_no hfold m44 (ws_no1 (by grind [kidOk])))
                  exact gs (Kd.row 2 Kd.i64) [.slice none 0 0] [] (fun _=>.inl ⟨rfl,rfl,rfl,rfl⟩) (gr (walkM t L id met) (by unfold walkM; rw [hw94]; rfl) (ret2 rfl rfl rfl (fun w_ hs_=>madeoT hs_ 11 rfl rfl (by rw [hw94]; rfl) see_nil)))
            · refine rp ik 21 [0,0,0,0,1,1] rfl ⟨rfl,(not_t (Bool.eq_false_iff.2 h51)),(not_t (Bool.eq_false_iff.2 h51)),(not_t (Bool.eq_false_iff.2 h51)),(not_t (Bool.eq_false_iff.2 h51)),(not_t (Bool.eq_false_iff.2 h51)),⟨⟩⟩ ?_
              have hw95 : walkF t L id met = none:=(walk_eq (by omega) hcnt).trans (wf_no hfold m44 (ws_no1 (by grind [kidOk])))
              exact gs (Kd.row 2 Kd.i64) [.slice none 0 0] [] (fun _=>.inl ⟨rfl,rfl,rfl,rfl⟩) (gr (walkM t L id met) (by unfold walkM; rw [hw95]; rfl) (ret2 rfl rfl rfl (fun w_ hs_=>madeoT hs_ 9 rfl rfl (by rw [hw95]; rfl) see_nil)))
          · refine r1_ ik 14 [0] rfl (decide_eq_false h36) ?_
            have hw96 : walkF t L id met = some m:=(walk_eq (by omega) hcnt).trans (wf_end hfold (by omega))
            exact gr (walkM t L id met) (by unfold walkM; rw [hw96]; rfl) (ret2 rfl rfl rfl (fun w_ hs_=>madeoT hs_ 4 rfl rfl (by rw [hw96]; rfl) (by grind)))
  · refine rp ik 13 [0,0,0,0,0] rfl ⟨rfl,(beq_eq_false_iff_ne.2 h13),(beq_eq_false_iff_ne.2 h13),(beq_eq_false_iff_ne.2 h13),(beq_eq_false_iff_ne.2 h13),⟨⟩⟩ (gs Kd.i64 [.int .i64 id] id (fun _=>⟨rfl,rfl,rfl⟩) (bs1 (dk:=Kd.i64) rfl info2 (by decide) rfl rfl rfl rfl ?_))
    intro b97
    refine f6 (ap (met ++ [id]) rfl info2 rfl rfl (by decide) rfl rfl rfl rfl (by simp only [List.length_append,List.length_cons,List.length_nil] at *; omega) (by simp only [List.length_append,List.length_cons,List.length_nil] at *; omega) rfl (fun A98 c99 o100 s101 t102=>?_))
    refine rn ik 11 [1,0] rfl ?_
    by_cases h103 : (4 : Int) < (((nodeAt t.arena id).entries.length : Nat) : Int)
    · refine rp ik 17 [0,0,0,0,0,1,1] rfl ⟨rfl,(decide_eq_true h103),(decide_eq_true h103),(decide_eq_true h103),(decide_eq_true h103),(decide_eq_true h103),(decide_eq_true h103),⟨⟩⟩ ?_
      have hw104 : walkF t L id met = none:=walk_bad (by first | exact counts_f1 (by omega) | exact counts_t (by omega) (by first | (left; omega) | (right; exact ⟨by omega,by omega⟩)) | exact counts_f2 (by omega) (by omega))
      exact gs (Kd.row 2 Kd.i64) [.slice none 0 0] [] (fun _=>.inl ⟨rfl,rfl,rfl,rfl⟩) (gr (walkM t L id met) (by unfold walkM; rw [hw104]; rfl) (ret2 rfl rfl rfl (fun w_ hs_=>madeoT hs_ 5 rfl rfl (by rw [hw104]; rfl) see_nil)))
    · refine rp ik 8 [1,1,1,0,1,1,1,0] rfl ⟨(decide_eq_false h103),(decide_eq_false h103),(decide_eq_false h103),(decide_eq_false h103),(decide_eq_false h103),(decide_eq_false h103),⟨⟩⟩ ?_
      by_cases h105 : (((nodeAt t.arena id).entries.length : Nat) : Int) < (2 : Int)
      · refine r1_ ik 9 [1] rfl (decide_eq_true h105) ?_
        have hw106 : walkF t L id met = none:=walk_bad (by first | exact counts_f1 (by omega) | exact counts_t (by omega) (by first | (left; omega) | (right; exact ⟨by omega,by omega⟩)) | exact counts_f2 (by omega) (by omega))
        exact gs (Kd.row 2 Kd.i64) [.slice none 0 0] [] (fun _=>.inl ⟨rfl,rfl,rfl,rfl⟩) (gr (walkM t L id met) (by unfold walkM; rw [hw106]; rfl) (ret2 rfl rfl rfl (fun w_ hs_=>madeoT hs_ 5 rfl rfl (by rw [hw106]; rfl) see_nil)))
      · refine r1_ ik 11 [0,1,0] rfl (decide_eq_false h105) ?_
        by_cases h107 : (nodeAt t.arena id).level = (0 : Int)
        · refine r1_ ik 10 [1] rfl (beq_iff_eq.2 h107) ?_
          have hw108 : walkF t L id met = some (met ++ [id]):=walk_zero (by omega) (by first | exact counts_f1 (by omega) | exact counts_t (by omega) (by first | (left; omega) | (right; exact ⟨by omega,by omega⟩)) | exact counts_f2 (by omega) (by omega))
          exact gr (walkM t L id met) (by unfold walkM; rw [hw108]; rfl) (ret2 rfl rfl rfl (fun w_ hs_=>madeoT hs_ 4 rfl rfl (by rw [hw108]; rfl) (by grind)))
        · refine r1_ ik 13 [0,1,0] rfl (beq_eq_false_iff_ne.2 h107) ?_
          have hcnt : counts t id (nodeAt t.arena id) = true:=by first | exact counts_t (by omega) (by first | (left; omega) | (right; exact ⟨by omega,by omega⟩))
          refine lp (σ:=Nat × List Int × Option Addr × Nat × List Nat × List Nat) (fun z_ : Nat × List Int × Option Addr × Nat × List Nat × List Nat=>match z_ with | (k,m,A_,c_,o_,s_)=>[(2,.slice A_ m.length c_),(3,.pointer (some ⟨b1,0,none⟩)),(8,.pointer (some ⟨b12,0,none⟩)),(49,.slice A10 ((nodeAt t.arena id).entries.length) c11),(50,.int .i64 (((nodeAt t.arena id).entries.length : Nat) : Int)),(51,.int .i64 ((k : Nat) : Int))])
              (fun z_ : Nat × List Int × Option Addr × Nat × List Nat × List Nat=>match z_ with | (k,m,A_,c_,o_,s_)=>[dat (Kd.row 2 Kd.i64) [.slice A_ m.length c_] m o_ s_,blk b12 [.int .i64 ((nodeAt t.arena id).level),.int .i64 ((nodeAt t.arena id).nsn),.int .i64 ((nodeAt t.arena id).right),.slice A10 ((nodeAt t.arena id).entries.length) c11] 52,ptr kNodeS p3 [.int .i64 ((nodeAt t.arena id).level),.int .i64 ((nodeAt t.arena id).nsn),.int .i64 ((nodeAt t.arena id).right),.slice A10 ((nodeAt t.arena id).entries.length) c11] (nodeAt t.arena id) s4,dat (Kd.sl kNodeS) [.slice At2 t.arena.nodes.length ct2] t.arena.nodes ([]) s2,blk b1 [.int .i64 t.style,.int .i64 t.arena.dims,.slice At2 t.arena.nodes.length ct2,.slice At3 t.arena.free.length ct3,.slice At4 t.arena.retired.length ct4,.int .i64 t.root,.int .i64 t.rootNsn,.int .i64 t.counter] 80,frm w omet_,dat kTreeS [.int .i64 t.style,.int .i64 t.arena.dims,.slice At2 t.arena.nodes.length ct2,.slice At3 t.arena.free.length ct3,.slice At4 t.arena.retired.length ct4,.int .i64 t.root,.int .i64 t.rootNsn,.int .i64 t.counter] t ([]) st_])
              (fun z_ : Nat × List Int × Option Addr × Nat × List Nat × List Nat=>match z_ with | (k,m,A_,c_,o_,s_)=>k ≤ (nodeAt t.arena id).entries.length ∧ ((nodeAt t.arena id).entries.drop k).foldlM (walkStep t (L - 1) (nodeAt t.arena id)) m = (nodeAt t.arena id).entries.foldlM (walkStep t (L - 1) (nodeAt t.arena id)) (met ++ [id]) ∧ Met t m ∧ ∀ q ∈ s_,q ∈ smet_ ∨ w.heap.size ≤ q) (fun z_ : Nat × List Int × Option Addr × Nat × List Nat × List Nat=>match z_ with | (k,m,A_,c_,o_,s_)=>(nodeAt t.arena id).entries.length - k) (0,(met ++ [id]),A98,c99,o100,s101) [0,0,0,0,0,0,0] ⟨Nat.zero_le _,rfl,hms,by grind⟩ ⟨rfl,rfl,rfl,rfl,rfl,rfl,trivial⟩ rfl ?_
          rintro ⟨k,m,A_,c_,o_,s_⟩ hp_
          obtain ⟨hk,hfold,hmm,hs1⟩:=hp_; have hml3:=hmm.len
          refine rn ik 6 [] rfl ?_
          by_cases h109 : ((k : Nat) : Int) < (((nodeAt t.arena id).entries.length : Nat) : Int)
          · refine r1_ ik 7 [1] rfl (decide_eq_true h109) ?_
            refine gp 2 kNodeS_p3_1 rfl (cs':=[.slice A10 ((nodeAt t.arena id).entries.length) c11]) rfl fun s110 w_ rs110 us110=>?_
            have Ls110:=Kd.sl_len rs110; have Cs110:=Kd.sl_cap rs110
            refine gx 0 k rfl (by omega) fun y116 p111 cs_ s112 w115 m117 e113 r114 us112=>?_
            obtain ⟨A118,c119,A120,c121,rfl⟩:=kEntryS_sh r114
            refine vl (ix k e113 rfl rfl rfl rfl rfl (by omega)) rfl (vl (ldq 0 rfl rfl rfl rfl rfl rfl rfl) rfl (al zero102 rfl rfl rfl ?_))
            intro b122
            refine sto rfl rfl rfl rfl rfl rfl rfl (cs':=[.slice A118 y116.rect.low.length c119,.slice A120 y116.rect.high.length c121,.int .i64 y116.ref,.int .i64 y116.nsn]) rfl (rn ik 9 [7,0,0,0] rfl ?_)
            refine gd 9 kTreeS_p1_4 rfl (cs':=[.int .i64 t.arena.dims,.slice At2 t.arena.nodes.length ct2,.slice At3 t.arena.free.length ct3,.slice At4 t.arena.retired.length ct4]) rfl fun s123 w_ rs123 us123=>?_
            refine cs_ (v:=.bool (isUsed t.arena y116.ref)) (by kernel_rfl) rfl rfl rfl (fun w_ hs_=>impl_Arena_isUsed w_ _ (hs_.at 0 rfl)) (rn ik 2 [] rfl ?_)
            by_cases h124 : isUsed t.arena y116.ref = true
            · have qh124:=within_t (used_place h124)
              refine r3_ ik 3 [1,1,1,1,0] rfl (not_f h124) (not_f h124) (not_f h124) (gw rfl rfl (not_f h124) (cs_ (v:=.bool (decide (y116.ref ∈ m))) (by kernel_rfl) rfl rfl rfl (fun w_ hs_=>bor (Kd.Seals.row Kd.Seals.i64 _) (hs_.at 4 rfl) fun _ lb0_=>slices_Contains_int64_int64 w_ _ lb0_) (r1_ ik 3 [0] rfl (not_f h124) ?_)))
              by_cases h125 : decide (y116.ref ∈ m) = true
              · refine r1_ ik 14 [1] rfl h125 ?_
                have hw126 : walkF t L id met = none:=(walk_eq (by omega) hcnt).trans (wf_no hfold m117 (ws_no1 (by grind [kidOk])))
                exact gs (Kd.row 2 Kd.i64) [.slice none 0 0] [] (fun _=>.inl ⟨rfl,rfl,rfl,rfl⟩) (gr (walkM t L id met) (by unfold walkM; rw [hw126]; rfl) (ret2 rfl rfl rfl (fun w_ hs_=>madeoT hs_ 9 rfl rfl (by rw [hw126]; rfl) see_nil)))
              · refine r1_ ik 10 [0,8,0,1,0] rfl (Bool.eq_false_iff.2 h125) ?_
                refine gx 7 y116.ref.toNat rfl (by omega) fun y132 p127 cs_ s128 w131 m133 e129 r130 us128=>?_
                obtain ⟨A134,c135,rfl⟩:=kNodeS_sh r130
                have ey132:=nodeAt_of m133; subst ey132
                refine vl (ixz y116.ref.toNat (by omega) e129 rfl rfl rfl rfl rfl (by omega)) rfl (vl (ldq 0 rfl rfl rfl rfl rfl rfl rfl) rfl (al zero52 rfl rfl rfl ?_))
                intro b136
                refine sto rfl rfl rfl rfl rfl rfl rfl (cs':=[.int .i64 ((nodeAt t.arena y116.ref).level),.int .i64 ((nodeAt t.arena y116.ref).nsn),.int .i64 ((nodeAt t.arena y116.ref).right),.slice A134 ((nodeAt t.arena y116.ref).entries.length) c135]) rfl (rn ik 4 [] rfl ?_)
                by_cases h137 : (nodeAt t.arena y116.ref).level = (nodeAt t.arena id).level - 1
                · by_cases h138 : (nodeAt t.arena y116.ref).nsn = y116.nsn
                  · by_cases h139 : (((nodeAt t.arena y116.ref).entries.length : Nat) : Int) = (0 : Int)
                    · refine rn ik 5 [1,2,0,0,3,4,7,0] rfl (qv 4 rfl (rs (c:=(nodeAt t.arena id).level - 1) rfl rfl rfl rfl (by omega) (by omega)) rfl (by kernel_rfl) (rp ik 39 [6,7,8,1,9,1,0,0,10,1,11,1,3,0,12,1,13,0,14,15,1,16,1,0,0,17,1,18,1,19,0,20,21,0,22,0,23,0,24,0,25,0,26,0,27,0,28,1,0,1] rfl ⟨rfl,⟨[0,0,0,0,0,0,0,0,0,0,0,0,0],rfl⟩,(beq_iff_eq.2 h139),(beq_iff_eq.2 h139),(beq_iff_eq.2 h139),(beq_iff_eq.2 h139),(beq_iff_eq.2 h139),(beq_iff_eq.2 h139),(beq_iff_eq.2 h139),(beq_iff_eq.2 h139),(bne_eq_false_iff_eq.2 h138),(bne_eq_false_iff_eq.2 h138),(bne_eq_false_iff_eq.2 h138),(bne_eq_false_iff_eq.2 h138),(bne_eq_false_iff_eq.2 h138),(bne_eq_false_iff_eq.2 h137),(bne_eq_false_iff_eq.2 h137),(bne_eq_false_iff_eq.2 h137),(bne_eq_false_iff_eq.2 h137),(bne_eq_false_iff_eq.2 h137),(bne_eq_false_iff_eq.2 h137),⟨⟩⟩ ?_))
                      have hw140 : walkF t L id met = none:=(walk_eq (by omega) hcnt).trans (wf_no hfold m117 (ws_no1 (by grind [kidOk])))
                      exact gs (Kd.row 2 Kd.i64) [.slice none 0 0] [] (fun _=>.inl ⟨rfl,rfl,rfl,rfl⟩) (gr (walkM t L id met) (by unfold walkM; rw [hw140]; rfl) (ret2 rfl rfl rfl (fun w_ hs_=>madeoT hs_ 11 rfl rfl (by rw [hw140]; rfl) see_nil)))
                    · refine gp 1 kNodeS_p3_1 rfl (cs':=[.slice A134 ((nodeAt t.arena y116.ref).entries.length) c135]) rfl fun s141 w_ rs141 us141=>?_
                      have Ls141:=Kd.sl_len rs141; have Cs141:=Kd.sl_cap rs141
                      refine rn ik 5 [1,2,1,0,3,4,8,0] rfl (qv 4 rfl (rs (c:=(nodeAt t.arena id).level - 1) rfl rfl rfl rfl (by omega) (by omega)) rfl (by kernel_rfl) (rp ik 19 [6,7,8,1,9,1,1,0,10,1,11,1,4,0,12,1,13,0,14,15,1,16,1,1,0,17,1,18,1,19,0,20,21,1,22,1,1,0,24,1,25,1,4,0] rfl ⟨(beq_eq_false_iff_ne.2 h139),(beq_eq_false_iff_ne.2 h139),(beq_eq_false_iff_ne.2 h139),(beq_eq_false_iff_ne.2 h139),(bne_eq_false_iff_eq.2 h138),(bne_eq_false_iff_eq.2 h138),(bne_eq_false_iff_eq.2 h138),(bne_eq_false_iff_eq.2 h138),(bne_eq_false_iff_eq.2 h138),(bne_eq_false_iff_eq.2 h137),(bne_eq_false_iff_eq.2 h137),(bne_eq_false_iff_eq.2 h137),(bne_eq_false_iff_eq.2 h137),(bne_eq_false_iff_eq.2 h137),(bne_eq_false_iff_eq.2 h137),⟨⟩⟩ (q1 22 [0,0,0,0,0,0,0,0,0,0,0,0,0,0] rfl (by kernel_rfl) rfl (gw rfl rfl (beq_eq_false_iff_ne.2 h139) (cmm (dk:=kRectO) (x:=(boxOf ((nodeAt t.arena y116.ref).entries))) (S:=[]) (by kernel_rfl) rfl rfl rfl sn0 w.heap.size (fun w_ hs_=>(hs_.mod 12 rfl).size) (fun w_ hs_=>by exact impl_box w_ (hs_.at 0 rfl) (hS.kids (used_place h124)) hS.dimOk (by omega)) (fun cs_ o150 s151 w_ r152 t153=>?_))))))
                      obtain ⟨A146,c147,A148,c149,rfl⟩:=kRectO_sh r152
                      refine qn (q1 25 [1,1,1,1,1,1,1,1,1,1,1,1,1,1] rfl (by kernel_rfl) rfl (gw rfl rfl (beq_eq_false_iff_ne.2 h139) ?_))
                      refine gp 6 kEntryS_p0_2 rfl (cs':=[.slice A118 y116.rect.low.length c119,.slice A120 y116.rect.high.length c121]) rfl fun s155 w_ rs155 us155=>?_
                      refine cs_ (v:=.bool (decide ((boxOf ((nodeAt t.arena y116.ref).entries)) = y116.rect))) (by kernel_rfl) rfl rfl rfl (fun w_ hs_=>by exact bor kRectO_seal (hs_.at 1 rfl) fun _ lb0_=>impl_SameRects w_ lb0_ (hs_.at 0 rfl)) (qn (r3_ ik 4 [27,1,28,0,0] rfl (beq_eq_false_iff_ne.2 h139) (beq_eq_false_iff_ne.2 h139) ⟨[2,2,2,2,2,2,2,2,2,2,2,2,2,2],rfl⟩ ?_))
                      by_cases h156 : decide ((boxOf ((nodeAt t.arena y116.ref).entries)) = y116.rect) = true
                      · refine r1_ ik 14 [0,13,0,6,0] rfl (not_f h156) (f9 (coT (dk:=(Kd.row 2 Kd.i64)) (x:=(walkM t (L - 1) y116.ref m)) (S:=(s_)) (f:=(fun v_=>.tuple #[v_,.bool ((walkF t (L - 1) y116.ref m).isSome)])) (by kernel_rfl) rfl rfl rfl (snt 0 rfl) w.heap.size (fun w_ hs_=>(hs_.mod 14 rfl).size) (fun w_ hs_=>(ih _ (by omega)) w_ _ ((hs_.pk [0,14] rfl).nl) hS (used_place h124) (of_decide_eq_false (Bool.eq_false_iff.2 h125)) hmm (by rw [h137]; omega)) (fun cs_ o159 s160 w_ r161 t162=>?_)))
                        obtain ⟨A157,c158,rfl⟩:=Kd.row_sh r161
                        refine rn ik 13 [] rfl ?_
                        by_cases h163 : (walkF t (L - 1) y116.ref m).isSome = true
                        · exact r1_ ik 5 [0] rfl (not_f h163) (vl (ra (c:=((k + 1 : Nat) : Int)) rfl rfl rfl (by omega) (by omega) (by omega)) rfl (rn ik 2 [] rfl (lpe (s:=(k,m,A_,c_,o_,s_)) (k + 1,(walkM t (L - 1) y116.ref m),A157,c158,o159,s160) [0,9,9,9,9,9,9] ⟨by omega,wf_on hfold m117 ((ws_yes h124 (of_decide_eq_false (Bool.eq_false_iff.2 h125)) (kid_t h137 h138 h139 h156)).trans (some_of h163)),walkF_met (L - 1) hmm (used_place h124) (of_decide_eq_false (Bool.eq_false_iff.2 h125)) (some_of h163),by grind⟩ (by show (nodeAt t.arena id).entries.length - (k + 1) < (nodeAt t.arena id).entries.length - k; omega) ⟨rfl,rfl,rfl,rfl,rfl,rfl,trivial⟩ rfl)))
                        · refine r1_ ik 13 [1] rfl (not_t (Bool.eq_false_iff.2 h163)) ?_
                          have hw164 : walkF t L id met = none:=(walk_eq (by omega) hcnt).trans (wf_no hfold m117 ((ws_yes h124 (of_decide_eq_false (Bool.eq_false_iff.2 h125)) (kid_t h137 h138 h139 h156)).trans (none_of h163)))
                          exact gs (Kd.row 2 Kd.i64) [.slice none 0 0] [] (fun _=>.inl ⟨rfl,rfl,rfl,rfl⟩) (gr (walkM t L id met) (by unfold walkM; rw [hw164]; rfl) (ret2 rfl rfl rfl (fun w_ hs_=>madeoT hs_ 14 rfl rfl (by rw [hw164]; rfl) see_nil)))
                      · refine r1_ ik 14 [1] rfl (not_t (Bool.eq_false_iff.2 h156)) ?_
                        have hw165 : walkF t L id met = none:=(walk_eq (by omega) hcnt).trans (wf_no hfold m117 (ws_no1 (by grind [kidOk])))
                        exact gs (Kd.row 2 Kd.i64) [.slice none 0 0] [] (fun _=>.inl ⟨rfl,rfl,rfl,rfl⟩) (gr (walkM t L id met) (by unfold walkM; rw [hw165]; rfl) (ret2 rfl rfl rfl (fun w_ hs_=>madeoT hs_ 14 rfl rfl (by rw [hw165]; rfl) see_nil)))
                  · refine rn ik 5 [1,2,0,0,3,4,7,0] rfl (qv 4 rfl (rs (c:=(nodeAt t.arena id).level - 1) rfl rfl rfl rfl (by omega) (by omega)) rfl (by kernel_rfl) (rp ik 39 [6,7,8,1,9,1,0,0,10,1,11,1,3,0,12,1,13,0,14,15,0,16,0,17,0,18,0,19,1,20,21,0,22,0,23,0,24,0,25,0,26,0,27,0,28,1,0,1] rfl ⟨rfl,⟨[0,0,0,0,0,0,0,0,0,0,0,0,0],rfl⟩,rfl,rfl,rfl,rfl,rfl,rfl,rfl,rfl,(bne_iff_ne.2 h138),(bne_iff_ne.2 h138),(bne_iff_ne.2 h138),(bne_iff_ne.2 h138),(bne_iff_ne.2 h138),(bne_eq_false_iff_eq.2 h137),(bne_eq_false_iff_eq.2 h137),(bne_eq_false_iff_eq.2 h137),(bne_eq_false_iff_eq.2 h137),(bne_eq_false_iff_eq.2 h137),(bne_eq_false_iff_eq.2 h137),⟨⟩⟩ ?_))
                    have hw166 : walkF t L id met = none:=(walk_eq (by omega) hcnt).trans (wf_no hfold m117 (ws_no1 (by grind [kidOk])))
                    exact gs (Kd.row 2 Kd.i64) [.slice none 0 0] [] (fun _=>.inl ⟨rfl,rfl,rfl,rfl⟩) (gr (walkM t L id met) (by unfold walkM; rw [hw166]; rfl) (ret2 rfl rfl rfl (fun w_ hs_=>madeoT hs_ 11 rfl rfl (by rw [hw166]; rfl) see_nil)))
                · refine rn ik 5 [1,2,0,0,3,4,7,0] rfl (qv 4 rfl (rs (c:=(nodeAt t.arena id).level - 1) rfl rfl rfl rfl (by omega) (by omega)) rfl (by kernel_rfl) (rp ik 39 [6,7,8,0,9,0,10,0,11,0,12,0,13,1,14,15,0,16,0,17,0,18,0,19,1,20,21,0,22,0,23,0,24,0,25,0,26,0,27,0,28,1,0,1] rfl ⟨rfl,⟨[0,0,0,0,0,0,0,0,0,0,0,0,0],rfl⟩,rfl,rfl,rfl,rfl,rfl,rfl,rfl,rfl,rfl,rfl,rfl,rfl,rfl,(bne_iff_ne.2 h137),(bne_iff_ne.2 h137),(bne_iff_ne.2 h137),(bne_iff_ne.2 h137),(bne_iff_ne.2 h137),(bne_iff_ne.2 h137),⟨⟩⟩ ?_))
                  have hw167 : walkF t L id met = none:=(walk_eq (by omega) hcnt).trans (wf_no hfold m117 (ws_no1 (by grind [kidOk])))
                  exact gs (Kd.row 2 Kd.i64) [.slice none 0 0] [] (fun _=>.inl ⟨rfl,rfl,rfl,rfl⟩) (gr (walkM t L id met) (by unfold walkM; rw [hw167]; rfl) (ret2 rfl rfl rfl (fun w_ hs_=>madeoT hs_ 11 rfl rfl (by rw [hw167]; rfl) see_nil)))
            · refine rp ik 21 [0,0,0,0,1,1] rfl ⟨rfl,(not_t (Bool.eq_false_iff.2 h124)),(not_t (Bool.eq_false_iff.2 h124)),(not_t (Bool.eq_false_iff.2 h124)),(not_t (Bool.eq_false_iff.2 h124)),(not_t (Bool.eq_false_iff.2 h124)),⟨⟩⟩ ?_
              have hw168 : walkF t L id met = none:=(walk_eq (by omega) hcnt).trans (wf_no hfold m117 (ws_no1 (by grind [kidOk])))
              exact gs (Kd.row 2 Kd.i64) [.slice none 0 0] [] (fun _=>.inl ⟨rfl,rfl,rfl,rfl⟩) (gr (walkM t L id met) (by unfold walkM; rw [hw168]; rfl) (ret2 rfl rfl rfl (fun w_ hs_=>madeoT hs_ 9 rfl rfl (by rw [hw168]; rfl) see_nil)))
          · refine r1_ ik 14 [0] rfl (decide_eq_false h109) ?_
            have hw169 : walkF t L id met = some m:=(walk_eq (by omega) hcnt).trans (wf_end hfold (by omega))
            exact gr (walkM t L id met) (by unfold walkM; rw [hw169]; rfl) (ret2 rfl rfl rfl (fun w_ hs_=>madeoT hs_ 4 rfl rfl (by rw [hw169]; rfl) (by grind)))
theorem impl_Tree_walk : ∀ (L : Nat) (w : World) (id : Int) {At2 : Option Addr} {ct2 : Nat} {At3 : Option Addr} {ct3 : Nat} {At4 : Option Addr} {ct4 : Nat} {t : Tree} {st_ : List Nat} {Amet : Option Addr} {cmet : Nat} {met : List Int} {omet_ smet_ : List Nat} (hst : St (nul w) w [dat (Kd.row 2 Kd.i64) [.slice Amet met.length cmet] met omet_ smet_,dat kTreeS [.int .i64 t.style,.int .i64 t.arena.dims,.slice At2 t.arena.nodes.length ct2,.slice At3 t.arena.free.length ct3,.slice At4 t.arena.retired.length ct4,.int .i64 t.root,.int .i64 t.rootNsn,.int .i64 t.counter] t ([]) st_]) (hS : Sound t.arena) (hp : isPlace t.arena id = true) (hn : id ∉ met) (hm : Met t met) (hL : (nodeAt t.arena id).level = (L : Int)),Calls Tryz.prog 289 #[.agg #[.int .i64 t.style,.int .i64 t.arena.dims,.slice At2 t.arena.nodes.length ct2,.slice At3 t.arena.free.length ct3,.slice At4 t.arena.retired.length ct4,.int .i64 t.root,.int .i64 t.rootNsn,.int .i64 t.counter],.int .i64 id,.slice Amet met.length cmet] w (MadeOT (Kd.row 2 Kd.i64) w omet_ (walkM t L id met) (smet_) (fun v_=>.tuple #[v_,.bool ((walkF t L id met).isSome)])):=by
  intro L
  induction L using Nat.strongRecOn with
  | _ L ih=>exact impl_Tree_walk_r L ih
end Go.Proofs.YtjdkfibeogiekaaGreat.Sx
