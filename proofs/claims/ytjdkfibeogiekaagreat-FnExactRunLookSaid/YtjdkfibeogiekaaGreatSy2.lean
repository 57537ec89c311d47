/- What functions of the program answer, each at every input that its row names; walked through their code. -/
import Derived.Test.YtjdkfibeogiekaaGreatSy1
namespace Go.Proofs.YtjdkfibeogiekaaGreat.Sx
open Go Go.RowKit Go.Proofs
set_option linter.unusedVariables false
set_option linter.unusedSimpArgs false
set_option maxRecDepth 20000
set_option maxHeartbeats 2000000
variable {Aa Aa1 Aa2 Aa3 Ab Alist As : Option Addr} {ca ca1 ca2 ca3 cb clist cs : Nat} {sa_ sb_ slist_ ss_ : List Nat} {pa : Addr}
def tab2 : Tab := { size := [(2, 1, false), (24, 1, false), (36, 1, false), (37, 1, false), (38, 1, false), (40, 4, true), (52, 4, true), (82, 2, true), (102, 4, true), (133, 2, true)], off := [((40, 0), 0), ((40, 1), 1), ((40, 2), 2), ((40, 3), 3), ((52, 0), 0), ((52, 1), 1), ((52, 2), 2), ((52, 3), 3), ((102, 0), 0), ((102, 1), 2), ((102, 2), 3), ((133, 0), 0), ((133, 1), 1)], elem := [(24, 102), (36, 52), (37, 2), (38, 133)] }
theorem tab_ok2 : tab2.check Tryz.prog = true:=by kernel_rfl
noncomputable abbrev X2 (N : Nat) (w : World) : Cx := ⟨Tryz.prog, tab2, tab_ok2, wide, N, w, none, []⟩
theorem bld52 : bld Tryz.prog 52 = some ([(0,1),(1,1),(2,1),(3,1)],[.int .i64 0,.int .i64 0,.int .i64 0,.slice none 0 0]):=by kernel_rfl

def rises (l : List Int) : Bool := !adj (fun a b => decide (b ≤ a)) l
theorem rises_t {l : List Int} {k : Nat} (h : ∀ j a b,j < k → l[j]? = some a → l[j + 1]? = some b → decide (b ≤ a) = false) (hk : ¬ ((k + 1 : Nat) : Int) < ((l.length : Nat) : Int)) : true = rises l:=by
  unfold rises; rw [adj_f h (by omega)]; rfl
theorem eqE (a b : Entry) : (decide (a.rect = b.rect) && decide (a.ref = b.ref) && decide (a.nsn = b.nsn)) = decide (a = b):=by
  rw [Entry_eq,Bool.and_assoc]
theorem impl_isRising (w : World) {list : List Int} (hlist : (Kd.sl Kd.i64).Rel w [.slice Alist list.length clist] list [] slist_)  : Calls Tryz.prog 142 #[.slice Alist list.length clist] w (fun e_ w2_=>e_ = .returned (.bool (rises list)) ∧ Below w.heap.size w w2_):=by
  have Llist:=Kd.sl_len hlist; have Clist:=Kd.sl_cap hlist
  refine fnc (X:=X2 20 w) (l:=[(0,.slice Alist list.length clist)]) Tryz.func142 rfl rfl rfl ⟨rfl,trivial⟩ (s0d hlist (s0n w)).1 ?_
  refine rn ik 12 [] rfl ?_
  refine lp (σ:=Nat) (fun k : Nat=>[(0,.slice Alist list.length clist),(3,.int .i64 ((k + 1 : Nat) : Int))])
      (fun k : Nat=>[dat (Kd.sl Kd.i64) [.slice Alist list.length clist] list ([]) slist_])
      (fun k : Nat=>(k = 0 ∨ k + 1 ≤ list.length) ∧ ∀ j a b,j < k → list[j]? = some a → list[j + 1]? = some b → decide (b ≤ a) = false) (fun k : Nat=>list.length - k) 0 [0] ⟨.inl rfl,by simp⟩ ⟨rfl,rfl,trivial⟩ rfl ?_
  intro k hp_
  obtain ⟨hk2,hinv2⟩:=hp_
  refine rn ik 9 [] rfl ?_
  by_cases h1 : ((k + 1 : Nat) : Int) < ((list.length : Nat) : Int)
  · refine r1_ ik 6 [1] rfl (decide_eq_true h1) ?_
    refine gx 0 k rfl (by omega) fun y7 p2 cs_ s3 w6 m8 e4 r5 us3=>?_
    obtain ⟨rfl,-,-⟩:=r5
    refine gx 1 (k + 1) rfl (by omega) fun y14 p9 cs_ s10 w13 m15 e11 r12 us10=>?_
    obtain ⟨rfl,-,-⟩:=r12
    refine rn ik 3 [1,2] rfl (qv 2 rfl (rs (c:=((k : Nat) : Int)) rfl rfl rfl (by omega) (by omega) (by omega)) rfl (by kernel_rfl) (qv 3 rfl (ix k e4 rfl rfl rfl rfl rfl (by omega)) rfl (by kernel_rfl) (rn ik 3 [5,1,0,6,7] rfl (qv 7 rfl (ix (k + 1) e11 rfl rfl rfl rfl rfl (by omega)) rfl (by kernel_rfl) (r1_ ik 4 [9,0,0,10,0] rfl ⟨[0,0,0],rfl⟩ ?_)))))
    by_cases h16 : y14 ≤ y7
    · refine r1_ ik 12 [1] rfl (decide_eq_true h16) (ret1 rfl rfl (fun w_ hs_=>⟨?_,hs_.below⟩))
      exact rb (by unfold rises; rw [adj_t m8 m15 (decide_eq_true h16)]; rfl)
    · exact r1_ ik 6 [0] rfl (decide_eq_false h16) (vl (ra (c:=((k + 1 + 1 : Nat) : Int)) rfl rfl rfl (by omega) (by omega) (by omega)) rfl (rn ik 2 [] rfl (lpe (s:=k) (k + 1) [2] ⟨.inr (by omega),adj_step hinv2 m8 m15 (decide_eq_false h16)⟩ (by omega) ⟨rfl,rfl,trivial⟩ rfl)))
  · refine r1_ ik 12 [0] rfl (decide_eq_false h1) (ret1 rfl rfl (fun w_ hs_=>⟨?_,hs_.below⟩))
    exact rb (rises_t hinv2 h1)
theorem impl_watchFault_1 (w : World) (n : Int)  : Calls Tryz.prog 141 #[.int .i64 n] w (fun e_ w2_=>e_ = .returned (.bool (!within n 0 3)) ∧ Below w.heap.size w w2_):=by
  refine fnc (X:=X2 6 w) (l:=[(0,.int .i64 n)]) Tryz.func141 rfl rfl rfl ⟨rfl,trivial⟩ (s0n w).1 ?_
  refine rn ik 8 [] rfl (cs_ (v:=.bool (within n 0 3)) (by kernel_rfl) rfl rfl rfl (fun w_ hs_=>impl_isClient w_ _) (rn ik 5 [] rfl (ret1 rfl rfl (fun w_ hs_=>⟨?_,hs_.below⟩))))
  rfl
theorem watch_eq {l : List Int} {least : Int} {c : Int} (h : c = if (l.length : Int) < least ∨ 4 < (l.length : Int) then 2 else if l.any (fun n=>!within n 0 3) = true then 3 else if rises l = false then 1 else 0) : c = watchFault l least:=by
  rw [h]; unfold watchFault rises; cases adj (fun a b=>decide (b ≤ a)) l <;> simp
theorem impl_watchFault (w : World) (least : Int) {Awatch : Option Addr} {cwatch : Nat} {watch : List Int} {swatch_ : List Nat} (hwatch : (Kd.sl Kd.i64).Rel w [.slice Awatch watch.length cwatch] watch [] swatch_)  : Calls Tryz.prog 69 #[.slice Awatch watch.length cwatch,.int .i64 least] w (fun e_ w2_=>e_ = .returned (.int .i64 (watchFault watch least)) ∧ Below w.heap.size w w2_):=by
  have Lwatch:=Kd.sl_len hwatch; have Cwatch:=Kd.sl_cap hwatch
  refine fnc (X:=X2 22 w) (l:=[(0,.slice Awatch watch.length cwatch),(1,.int .i64 least)]) Tryz.func69 rfl rfl rfl ⟨rfl,rfl,trivial⟩ (s0d hwatch (s0n w)).1 ?_
  refine rn ik 14 [] rfl ?_
  by_cases h1 : ((watch.length : Nat) : Int) < least
  · refine rp ik 16 [0,0,0,1,1] rfl ⟨rfl,(decide_eq_true h1),(decide_eq_true h1),(decide_eq_true h1),(decide_eq_true h1),⟨⟩⟩ (ret1 rfl rfl (fun w_ hs_=>⟨?_,hs_.below⟩))
    exact ri (watch_eq (by grind))
  · refine r4_ ik 7 [1,1,1,0] rfl (decide_eq_false h1) (decide_eq_false h1) (decide_eq_false h1) (decide_eq_false h1) ?_
    by_cases h2 : (4 : Int) < ((watch.length : Nat) : Int)
    · refine r1_ ik 9 [1] rfl (decide_eq_true h2) (ret1 rfl rfl (fun w_ hs_=>⟨?_,hs_.below⟩))
      exact ri (watch_eq (by grind))
    · refine r1_ ik 4 [0] rfl (decide_eq_false h2) (cs_ (v:=.bool (List.any watch (fun (x0 : Int)=>!within x0 0 3))) (by kernel_rfl) rfl rfl rfl (fun w_ hs_=>slices_ContainsFunc_int64_int64 w_ (fun (x0 : Int)=>!within x0 0 3) (by kernel_rfl) (hs_.at 0 rfl) (fun w1 x0 m0_ b_ =>impl_watchFault_1 w1 x0 )) (rn ik 3 [] rfl ?_))
      by_cases h3 : List.any watch (fun (x0 : Int)=>!within x0 0 3) = true
      · refine r1_ ik 9 [1] rfl h3 (ret1 rfl rfl (fun w_ hs_=>⟨?_,hs_.below⟩))
        exact ri (watch_eq (by grind))
      · refine r1_ ik 4 [0] rfl (Bool.eq_false_iff.2 h3) (cs_ (v:=.bool (rises watch)) (by kernel_rfl) rfl rfl rfl (fun w_ hs_=>impl_isRising w_ (hs_.at 0 rfl)) (rn ik 4 [] rfl ?_))
        by_cases h4 : rises watch = true
        · refine r1_ ik 10 [0] rfl (not_f h4) (ret1 rfl rfl (fun w_ hs_=>⟨?_,hs_.below⟩))
          exact ri (watch_eq (by grind))
        · refine r1_ ik 9 [1] rfl (not_t (Bool.eq_false_iff.2 h4)) (ret1 rfl rfl (fun w_ hs_=>⟨?_,hs_.below⟩))
          exact ri (watch_eq (by grind))
theorem spec_l4Watch (w : World) {list : List Int} (hlist : (Kd.sl Kd.i64).Rel w [.slice Alist list.length clist] list [] slist_)  : Calls Tryz.prog 78 #[.slice Alist list.length clist] w (fun e_ w2_=>e_ = .returned (.int .i64 (watchFault list 0)) ∧ Below w.heap.size w w2_):=by
  have Llist:=Kd.sl_len hlist; have Clist:=Kd.sl_cap hlist
  refine fnc (X:=X2 36 w) (l:=[(0,.slice Alist list.length clist)]) Tryz.func78 rfl rfl rfl ⟨rfl,trivial⟩ (s0d hlist (s0n w)).1 ?_
  refine rn ik 13 [] rfl ?_
  by_cases h1 : (4 : Int) < ((list.length : Nat) : Int)
  · refine r1_ ik 8 [1] rfl (decide_eq_true h1) (ret1 rfl rfl (fun w_ hs_=>⟨?_,hs_.below⟩))
    exact ri (watch_eq (by grind))
  · refine r1_ ik 10 [0] rfl (decide_eq_false h1) ?_
    refine lp (σ:=Nat) (fun k : Nat=>[(0,.slice Alist list.length clist),(3,.int .i64 ((k : Nat) : Int))])
        (fun k : Nat=>[dat (Kd.sl Kd.i64) [.slice Alist list.length clist] list ([]) slist_])
        (fun k : Nat=>k ≤ list.length ∧ ∀ j x,j < k → list[j]? = some x → (!within x 0 3) = false) (fun k : Nat=>list.length - k) 0 [0] ⟨Nat.zero_le _,by simp⟩ ⟨rfl,rfl,trivial⟩ rfl ?_
    intro k hp_
    obtain ⟨hk,hinv⟩:=hp_
    refine rn ik 9 [] rfl ?_
    by_cases h2 : ((k : Nat) : Int) < ((list.length : Nat) : Int)
    · refine r1_ ik 9 [1] rfl (decide_eq_true h2) ?_
      refine gx 0 k rfl (by omega) fun y8 p3 cs_ s4 w7 m9 e5 r6 us4=>?_
      obtain ⟨rfl,-,-⟩:=r6
      refine vl (ix k e5 rfl rfl rfl rfl rfl (by omega)) rfl (vl (ldq (u:=.int .i64 y8) 0 rfl rfl rfl rfl rfl rfl rfl) rfl (cs_ (v:=.bool (within y8 0 3)) (by kernel_rfl) rfl rfl rfl (fun w_ hs_=>spec_l1In w_ _ _ _) (rn ik 3 [] rfl ?_)))
      by_cases h10 : within y8 0 3 = true
      · exact r1_ ik 6 [0] rfl (not_f h10) (vl (ra (c:=((k + 1 : Nat) : Int)) rfl rfl rfl (by omega) (by omega) (by omega)) rfl (rn ik 2 [] rfl (lpe (s:=k) (k + 1) [1] ⟨by omega,idx_step hinv m9 (not_f h10)⟩ (by omega) ⟨rfl,rfl,trivial⟩ rfl)))
      · refine r1_ ik 12 [1] rfl (not_t (Bool.eq_false_iff.2 h10)) (ret1 rfl rfl (fun w_ hs_=>⟨?_,hs_.below⟩))
        exact ri (watch_eq (by have y:=any_some (p:=fun n=>!within n 0 3) m9 (not_t (Bool.eq_false_iff.2 h10)); grind))
    · refine r1_ ik 13 [0] rfl (decide_eq_false h2) ?_
      refine lp (σ:=Nat) (fun k2 : Nat=>[(0,.slice Alist list.length clist),(4,.int .i64 ((k2 + 1 : Nat) : Int))])
          (fun k2 : Nat=>[dat (Kd.sl Kd.i64) [.slice Alist list.length clist] list ([]) slist_])
          (fun k2 : Nat=>(k2 = 0 ∨ k2 + 1 ≤ list.length) ∧ ∀ j a b,j < k2 → list[j]? = some a → list[j + 1]? = some b → decide (b ≤ a) = false) (fun k2 : Nat=>list.length - k2) 0 [0] ⟨.inl rfl,by simp⟩ ⟨rfl,rfl,trivial⟩ rfl ?_
      intro k2 hp_
      obtain ⟨hk2,hinv2⟩:=hp_
      refine rn ik 9 [] rfl ?_
      by_cases h11 : ((k2 + 1 : Nat) : Int) < ((list.length : Nat) : Int)
      · refine r1_ ik 6 [1] rfl (decide_eq_true h11) ?_
        refine gx 0 (k2 + 1) rfl (by omega) fun y17 p12 cs_ s13 w16 m18 e14 r15 us13=>?_
        obtain ⟨rfl,-,-⟩:=r15
        refine gx 1 k2 rfl (by omega) fun y24 p19 cs_ s20 w23 m25 e21 r22 us20=>?_
        obtain ⟨rfl,-,-⟩:=r22
        refine rn ik 3 [1,2] rfl (qv 2 rfl (ix (k2 + 1) e14 rfl rfl rfl rfl rfl (by omega)) rfl (by kernel_rfl) (rn ik 3 [4,1,0,5,6] rfl (qv 6 rfl (rs (c:=((k2 : Nat) : Int)) rfl rfl rfl (by omega) (by omega) (by omega)) rfl (by kernel_rfl) (qv 7 rfl (ix k2 e21 rfl rfl rfl rfl rfl (by omega)) rfl (by kernel_rfl) (r1_ ik 4 [9,0,0,10,0] rfl ⟨[0,0,0],rfl⟩ ?_)))))
        by_cases h26 : y17 ≤ y24
        · refine r1_ ik 12 [1] rfl (decide_eq_true h26) (ret1 rfl rfl (fun w_ hs_=>⟨?_,hs_.below⟩))
          exact ri (watch_eq (by have q:=any_none (p:=fun n=>!within n 0 3) hinv (by omega); have y : rises list = false:=(by unfold rises; rw [adj_t m25 m18 (decide_eq_true h26)]; rfl); grind))
        · exact r1_ ik 6 [0] rfl (decide_eq_false h26) (vl (ra (c:=((k2 + 1 + 1 : Nat) : Int)) rfl rfl rfl (by omega) (by omega) (by omega)) rfl (rn ik 2 [] rfl (lpe (s:=k2) (k2 + 1) [2] ⟨.inr (by omega),adj_step hinv2 m25 m18 (decide_eq_false h26)⟩ (by omega) ⟨rfl,rfl,trivial⟩ rfl)))
      · refine r1_ ik 12 [0] rfl (decide_eq_false h11) (ret1 rfl rfl (fun w_ hs_=>⟨?_,hs_.below⟩))
        exact ri (watch_eq (by have q:=any_none (p:=fun n=>!within n 0 3) hinv (by omega); have y:=rises_t hinv2 h11; grind))
theorem impl_retiredAt_1 (w : World) {Ar1 : Option Addr} {cr1 : Nat} {r : Retired} {sr_ : List Nat} (hr : kRetiredS.Rel w [.int .i64 r.id,.slice Ar1 r.watch.length cr1] r [] sr_)  {id : Int} {sid_ : List Nat} {pid : Addr} (hid : (ptr Kd.i64 pid [.int .i64 id] id sid_).P w)  : Calls Tryz.prog 139 #[.agg #[.int .i64 r.id,.slice Ar1 r.watch.length cr1],.pointer (some pid)] w (fun e_ w2_=>e_ = .returned (.bool (r.id == id)) ∧ Below w.heap.size w w2_):=by
  refine fnc (X:=X2 8 w) (l:=[(0,.agg #[.int .i64 r.id,.slice Ar1 r.watch.length cr1]),(1,.pointer (some pid))]) Tryz.func139 rfl rfl rfl ⟨rfl,rfl,trivial⟩ (s0p hid (s0d hr (s0n w))).1 ?_
  refine sq (rg (bx rfl rfl rfl rfl ?_))
  intro b1
  refine rn ik 13 [0,0,1,0] rfl (ret1 rfl rfl (fun w_ hs_=>⟨?_,hs_.below⟩))
  rfl
theorem impl_retiredAt (w : World) (id : Int) {list : List Retired} (hlist : (Kd.sl kRetiredS).Rel w [.slice Alist list.length clist] list [] slist_)  : Calls Tryz.prog 68 #[.slice Alist list.length clist,.int .i64 id] w (fun e_ w2_=>e_ = .returned (.int .i64 (idx (fun (x0 : Retired)=>x0.id == id) list)) ∧ Below w.heap.size w w2_):=by
  have Llist:=Kd.sl_len hlist; have Clist:=Kd.sl_cap hlist
  refine fnc (X:=X2 8 w) (l:=[(0,.slice Alist list.length clist),(1,.int .i64 id)]) Tryz.func68 rfl rfl rfl ⟨rfl,rfl,trivial⟩ (s0d hlist (s0n w)).1 ?_
  refine sq (rg (bx rfl rfl rfl rfl ?_))
  intro b1
  refine rn ik 6 [] rfl (vl (mf rfl rfl rfl) rfl (gs Kd.i64 [.int .i64 id] id (fun _=>⟨rfl,rfl,rfl⟩) ?_))
  refine cs_ (v:=.int .i64 (idx (fun (x0 : Retired)=>x0.id == id) list)) (by kernel_rfl) rfl rfl rfl (fun w_ hs_=>slices_IndexFunc_impl_Retired_impl_Retired w_ (fun (x0 : Retired)=>x0.id == id) (by kernel_rfl) (hs_.at 2 rfl) (fun w1 x0 m0_ b_ _ _ _ r0_=>impl_retiredAt_1 w1  r0_ (ptr_blk ((hs_.step b_).at 1 rfl) ((hs_.step b_).at 0 rfl) rfl))) (rn ik 4 [] rfl (ret1 rfl rfl (fun w_ hs_=>⟨?_,hs_.below⟩)))
  rfl
theorem has_none {l : List Int} {v : Int} {k : Nat} (h : ∀ j x,j < k → l[j]? = some x → (x == v) = false) (hk : l.length ≤ k) : false = decide (v ∈ l):=by
  symm; rw [decide_eq_false_iff_not]; intro hm
  obtain ⟨j,hj⟩:=List.getElem?_of_mem hm
  have:=h j v (by have:=(List.getElem?_eq_some_iff.1 hj).1; omega) hj
  simp at this
theorem has_idx {l : List Int} {v : Int} : decide (0 ≤ idx (fun x=>x == v) l) = decide (v ∈ l):=by
  rw [show (decide (0 ≤ idx (fun x=>x == v) l)) = decide (idx (fun x=>x == v) l ≥ 0) from rfl,idx_ge,Bool.eq_iff_iff]
  simp
theorem spec_l1Has (w : World) (v : Int) {list : List Int} (hlist : (Kd.sl Kd.i64).Rel w [.slice Alist list.length clist] list [] slist_)  : Calls Tryz.prog 102 #[.slice Alist list.length clist,.int .i64 v] w (fun e_ w2_=>e_ = .returned (.bool (decide (v ∈ list))) ∧ Below w.heap.size w w2_):=by
  have Llist:=Kd.sl_len hlist; have Clist:=Kd.sl_cap hlist
  refine fnc (X:=X2 18 w) (l:=[(0,.slice Alist list.length clist),(1,.int .i64 v)]) Tryz.func102 rfl rfl rfl ⟨rfl,rfl,trivial⟩ (s0d hlist (s0n w)).1 ?_
  refine rn ik 12 [] rfl ?_
  refine lp (σ:=Nat) (fun k : Nat=>[(0,.slice Alist list.length clist),(1,.int .i64 v),(5,.int .i64 ((k : Nat) : Int))])
      (fun k : Nat=>[dat (Kd.sl Kd.i64) [.slice Alist list.length clist] list ([]) slist_])
      (fun k : Nat=>k ≤ list.length ∧ ∀ j x,j < k → list[j]? = some x → (x == v) = false) (fun k : Nat=>list.length - k) 0 [0] ⟨Nat.zero_le _,by simp⟩ ⟨rfl,rfl,rfl,trivial⟩ rfl ?_
  intro k hp_
  obtain ⟨hk,hinv⟩:=hp_
  refine rn ik 9 [] rfl ?_
  by_cases h1 : ((k : Nat) : Int) < ((list.length : Nat) : Int)
  · refine r1_ ik 9 [1] rfl (decide_eq_true h1) ?_
    refine gx 0 k rfl (by omega) fun y7 p2 cs_ s3 w6 m8 e4 r5 us3=>?_
    obtain ⟨rfl,-,-⟩:=r5
    refine vl (ix k e4 rfl rfl rfl rfl rfl (by omega)) rfl (rn ik 5 [0,0] rfl ?_)
    by_cases h9 : y7 = v
    · refine r1_ ik 12 [1] rfl (beq_iff_eq.2 h9) (ret1 rfl rfl (fun w_ hs_=>⟨?_,hs_.below⟩))
      exact rb (by have z:=m8; rw [h9] at z; exact (decide_eq_true (List.mem_of_getElem? z)).symm)
    · exact r1_ ik 6 [0] rfl (beq_eq_false_iff_ne.2 h9) (vl (ra (c:=((k + 1 : Nat) : Int)) rfl rfl rfl (by omega) (by omega) (by omega)) rfl (rn ik 2 [] rfl (lpe (s:=k) (k + 1) [1] ⟨by omega,idx_step (p:=fun x=>x == v) hinv m8 (beq_eq_false_iff_ne.2 h9)⟩ (by omega) ⟨rfl,rfl,rfl,trivial⟩ rfl)))
  · refine r1_ ik 12 [0] rfl (decide_eq_false h1) (ret1 rfl rfl (fun w_ hs_=>⟨?_,hs_.below⟩))
    exact rb (has_none hinv (by omega))
theorem slices_Index_int64_int64 (w : World) (v : Int) {s : List Int} (hs : (Kd.sl Kd.i64).Rel w [.slice As s.length cs] s [] ss_)  : Calls Tryz.prog 234 #[.slice As s.length cs,.int .i64 v] w (fun e_ w2_=>e_ = .returned (.int .i64 (idx (fun x=>x == v) s)) ∧ Below w.heap.size w w2_):=by
  have Ls:=Kd.sl_len hs; have Cs:=Kd.sl_cap hs
  refine fnc (X:=X2 19 w) (l:=[(0,.slice As s.length cs),(1,.int .i64 v)]) Tryz.func234 rfl rfl rfl ⟨rfl,rfl,trivial⟩ (s0d hs (s0n w)).1 ?_
  refine rn ik 14 [] rfl ?_
  refine lp (σ:=Nat) (fun k : Nat=>[(0,.slice As s.length cs),(1,.int .i64 v),(7,.int .i64 ((s.length : Nat) : Int)),(8,.int .i64 ((k : Nat) : Int))])
      (fun k : Nat=>[dat (Kd.sl Kd.i64) [.slice As s.length cs] s ([]) ss_])
      (fun k : Nat=>k ≤ s.length ∧ ∀ j x,j < k → s[j]? = some x → (x == v) = false) (fun k : Nat=>s.length - k) 0 [0] ⟨Nat.zero_le _,by simp⟩ ⟨rfl,rfl,rfl,rfl,trivial⟩ rfl ?_
  intro k hp_
  obtain ⟨hk,hinv⟩:=hp_
  refine rn ik 6 [] rfl ?_
  by_cases h1 : ((k : Nat) : Int) < ((s.length : Nat) : Int)
  · refine r1_ ik 16 [1] rfl (decide_eq_true h1) ?_
    refine gx 0 k rfl (by omega) fun y7 p2 cs_ s3 w6 m8 e4 r5 us3=>?_
    obtain ⟨rfl,-,-⟩:=r5
    refine vl (ix k e4 rfl rfl rfl rfl rfl (by omega)) rfl (rn ik 4 [0,0] rfl ?_)
    by_cases h9 : v = y7
    · refine r1_ ik 13 [1] rfl (beq_iff_eq.2 h9) (ret1 rfl rfl (fun w_ hs_=>⟨?_,hs_.below⟩))
      rw [idx_some (p:=fun x=>x == v) hinv m8 (beq_iff_eq.2 (by simpa [eq_comm] using h9))]
    · exact r1_ ik 5 [0] rfl (beq_eq_false_iff_ne.2 h9) (vl (ra (c:=((k + 1 : Nat) : Int)) rfl rfl rfl (by omega) (by omega) (by omega)) rfl (rn ik 2 [] rfl (lpe (s:=k) (k + 1) [1] ⟨by omega,idx_step (p:=fun x=>x == v) hinv m8 (beq_eq_false_iff_ne.2 (by simpa [eq_comm] using h9))⟩ (by omega) ⟨rfl,rfl,rfl,rfl,trivial⟩ rfl)))
  · refine r1_ ik 12 [0] rfl (decide_eq_false h1) (ret1 rfl rfl (fun w_ hs_=>⟨?_,hs_.below⟩))
    rw [idx_none (p:=fun x=>x == v) hinv (by omega)]
theorem slices_Contains_int64_int64 (w : World) (v : Int) {s : List Int} (hs : (Kd.sl Kd.i64).Rel w [.slice As s.length cs] s [] ss_)  : Calls Tryz.prog 161 #[.slice As s.length cs,.int .i64 v] w (fun e_ w2_=>e_ = .returned (.bool (decide (v ∈ s))) ∧ Below w.heap.size w w2_):=by
  have Ls:=Kd.sl_len hs; have Cs:=Kd.sl_cap hs
  refine fnc (X:=X2 9 w) (l:=[(0,.slice As s.length cs),(1,.int .i64 v)]) Tryz.func161 rfl rfl rfl ⟨rfl,rfl,trivial⟩ (s0d hs (s0n w)).1 ?_
  refine rn ik 9 [] rfl (cs_ (v:=.int .i64 (idx (fun x=>x == v) s)) (by kernel_rfl) rfl rfl rfl (fun w_ hs_=>slices_Index_int64_int64 w_ _ (hs_.at 0 rfl)) (rn ik 5 [] rfl (ret1 rfl rfl (fun w_ hs_=>⟨?_,hs_.below⟩))))
  rw [← has_idx]
theorem impl_Arena_isPlace (w : World) (id : Int) {a : Arena} (ha : kArenaS.Rel w [.int .i64 a.dims,.slice Aa1 a.nodes.length ca1,.slice Aa2 a.free.length ca2,.slice Aa3 a.retired.length ca3] a [] sa_)  : Calls Tryz.prog 86 #[.agg #[.int .i64 a.dims,.slice Aa1 a.nodes.length ca1,.slice Aa2 a.free.length ca2,.slice Aa3 a.retired.length ca3],.int .i64 id] w (fun e_ w2_=>e_ = .returned (.bool (isPlace a id)) ∧ Below w.heap.size w w2_):=by
  have La1:=Kd.sub_len kArenaS_p1_1 ha; have Ca1:=Kd.sub_cap kArenaS_p1_1 ha rfl
  refine fnc (X:=X2 11 w) (l:=[(0,.agg #[.int .i64 a.dims,.slice Aa1 a.nodes.length ca1,.slice Aa2 a.free.length ca2,.slice Aa3 a.retired.length ca3]),(1,.int .i64 id)]) Tryz.func86 rfl rfl rfl ⟨rfl,rfl,trivial⟩ (s0d ha (s0n w)).1 ?_
  refine sq (rg (bx rfl rfl rfl rfl ?_))
  intro b1
  refine rn ik 9 [0,0] rfl (vl (rs (c:=((a.nodes.length : Nat) : Int) - 1) rfl rfl rfl rfl (by omega) (by omega)) rfl (cs_ (v:=.bool (within id 0 (((a.nodes.length : Nat) : Int) - 1))) (by kernel_rfl) rfl rfl rfl (fun w_ hs_=>impl_within w_ _ _ _) (rn ik 4 [] rfl (ret1 rfl rfl (fun w_ hs_=>⟨?_,hs_.below⟩)))))
  rfl
theorem spec_l4Place (w : World) (id : Int) {a : Arena} (ha : (ptr kArenaS pa [.int .i64 a.dims,.slice Aa1 a.nodes.length ca1,.slice Aa2 a.free.length ca2,.slice Aa3 a.retired.length ca3] a sa_).P w)  : Calls Tryz.prog 101 #[.pointer (some pa),.int .i64 id] w (fun e_ w2_=>e_ = .returned (.bool (isPlace a id)) ∧ Below w.heap.size w w2_):=by
  have La1:=Kd.sub_len kArenaS_p1_1 ha.2.2.2; have Ca1:=Kd.sub_cap kArenaS_p1_1 ha.2.2.2 rfl
  refine fnc (X:=X2 13 w) (l:=[(0,.pointer (some pa)),(1,.int .i64 id)]) Tryz.func101 rfl rfl rfl ⟨rfl,rfl,trivial⟩ (s0p ha (s0n w)).1 ?_
  refine rn ik 13 [0,2] rfl (vl (rs (c:=((a.nodes.length : Nat) : Int) - 1) rfl rfl rfl rfl (by omega) (by omega)) rfl (cs_ (v:=.bool (within id 0 (((a.nodes.length : Nat) : Int) - 1))) (by kernel_rfl) rfl rfl rfl (fun w_ hs_=>spec_l1In w_ _ _ _) (rn ik 4 [] rfl (ret1 rfl rfl (fun w_ hs_=>⟨?_,hs_.below⟩)))))
  rfl
theorem impl_Arena_isFree (w : World) (id : Int) {a : Arena} (ha : kArenaS.Rel w [.int .i64 a.dims,.slice Aa1 a.nodes.length ca1,.slice Aa2 a.free.length ca2,.slice Aa3 a.retired.length ca3] a [] sa_)  : Calls Tryz.prog 87 #[.agg #[.int .i64 a.dims,.slice Aa1 a.nodes.length ca1,.slice Aa2 a.free.length ca2,.slice Aa3 a.retired.length ca3],.int .i64 id] w (fun e_ w2_=>e_ = .returned (.bool (decide (id ∈ a.free))) ∧ Below w.heap.size w w2_):=by
  refine fnc (X:=X2 9 w) (l:=[(0,.agg #[.int .i64 a.dims,.slice Aa1 a.nodes.length ca1,.slice Aa2 a.free.length ca2,.slice Aa3 a.retired.length ca3]),(1,.int .i64 id)]) Tryz.func87 rfl rfl rfl ⟨rfl,rfl,trivial⟩ (s0d ha (s0n w)).1 ?_
  refine sq (rg (bx rfl rfl rfl rfl ?_))
  intro b1
  refine rn ik 8 [0,0] rfl ?_
  refine gd 1 kArenaS_p2_1 rfl (cs':=[.slice Aa2 a.free.length ca2]) rfl fun s2 w_ rs2 us2=>?_
  have Ls2:=Kd.sl_len rs2; have Cs2:=Kd.sl_cap rs2
  refine cs_ (v:=.bool (decide (id ∈ a.free))) (by kernel_rfl) rfl rfl rfl (fun w_ hs_=>slices_Contains_int64_int64 w_ _ (hs_.at 0 rfl)) (rn ik 4 [] rfl (ret1 rfl rfl (fun w_ hs_=>⟨?_,hs_.below⟩)))
  rfl
theorem spec_l4Retired (w : World) (id : Int) {a : Arena} (ha : (ptr kArenaS pa [.int .i64 a.dims,.slice Aa1 a.nodes.length ca1,.slice Aa2 a.free.length ca2,.slice Aa3 a.retired.length ca3] a sa_).P w)  : Calls Tryz.prog 77 #[.pointer (some pa),.int .i64 id] w (fun e_ w2_=>e_ = .returned (.bool (List.any a.retired (fun r=>r.id == id))) ∧ Below w.heap.size w w2_):=by
  have La3:=Kd.sub_len kArenaS_p3_1 ha.2.2.2; have Ca3:=Kd.sub_cap kArenaS_p3_1 ha.2.2.2 rfl
  refine fnc (X:=X2 25 w) (l:=[(0,.pointer (some pa)),(1,.int .i64 id)]) Tryz.func77 rfl rfl rfl ⟨rfl,rfl,trivial⟩ (s0p ha (s0n w)).1 ?_
  refine rn ik 12 [] rfl ?_
  refine lp (σ:=Nat) (fun k : Nat=>[(0,.pointer (some pa)),(1,.int .i64 id),(5,.int .i64 ((k : Nat) : Int))])
      (fun k : Nat=>[ptr kArenaS pa [.int .i64 a.dims,.slice Aa1 a.nodes.length ca1,.slice Aa2 a.free.length ca2,.slice Aa3 a.retired.length ca3] a sa_])
      (fun k : Nat=>k ≤ a.retired.length ∧ ∀ j x,j < k → a.retired[j]? = some x → (x.id == id) = false) (fun k : Nat=>a.retired.length - k) 0 [0] ⟨Nat.zero_le _,by simp⟩ ⟨rfl,rfl,rfl,trivial⟩ rfl ?_
  intro k hp_
  obtain ⟨hk,hinv⟩:=hp_
  refine rn ik 12 [0,4] rfl ?_
  by_cases h1 : ((k : Nat) : Int) < ((a.retired.length : Nat) : Int)
  · refine r1_ ik 12 [1,0,4] rfl (decide_eq_true h1) ?_
    refine gp 0 kArenaS_p3_1 rfl (cs':=[.slice Aa3 a.retired.length ca3]) rfl fun s2 w_ rs2 us2=>?_
    have Ls2:=Kd.sl_len rs2; have Cs2:=Kd.sl_cap rs2
    refine gx 0 k rfl (by omega) fun y8 p3 cs_ s4 w7 m9 e5 r6 us4=>?_
    obtain ⟨A10,c11,rfl⟩:=kRetiredS_sh r6
    refine vl (ix k e5 rfl rfl rfl rfl rfl (by omega)) rfl (rn ik 6 [0,1] rfl ?_)
    by_cases h12 : y8.id = id
    · refine r1_ ik 12 [1] rfl (beq_iff_eq.2 h12) (ret1 rfl rfl (fun w_ hs_=>⟨?_,hs_.below⟩))
      exact rb (any_some (p:=(fun (r : Retired)=>r.id == id)) m9 (beq_iff_eq.2 h12)).symm
    · exact r1_ ik 6 [0] rfl (beq_eq_false_iff_ne.2 h12) (vl (ra (c:=((k + 1 : Nat) : Int)) rfl rfl rfl (by omega) (by omega) (by omega)) rfl (rn ik 2 [] rfl (lpe (s:=k) (k + 1) [2] ⟨by omega,idx_step (p:=fun r=>r.id == id) hinv m9 (beq_eq_false_iff_ne.2 h12)⟩ (by omega) ⟨rfl,rfl,rfl,trivial⟩ rfl)))
  · refine r1_ ik 12 [0] rfl (decide_eq_false h1) (ret1 rfl rfl (fun w_ hs_=>⟨?_,hs_.below⟩))
    exact rb (any_none (p:=(fun (r : Retired)=>r.id == id)) hinv (by omega)).symm
theorem impl_sameNode_1 (w : World) {Ad0 : Option Addr} {cd0 : Nat} {Ad1 : Option Addr} {cd1 : Nat} {d : Entry} {sd_ : List Nat} (hd : kEntryS.Rel w [.slice Ad0 d.rect.low.length cd0,.slice Ad1 d.rect.high.length cd1,.int .i64 d.ref,.int .i64 d.nsn] d [] sd_) {Ae0 : Option Addr} {ce0 : Nat} {Ae1 : Option Addr} {ce1 : Nat} {e : Entry} {se_ : List Nat} (he : kEntryS.Rel w [.slice Ae0 e.rect.low.length ce0,.slice Ae1 e.rect.high.length ce1,.int .i64 e.ref,.int .i64 e.nsn] e [] se_)  : Calls Tryz.prog 163 #[.agg #[.slice Ad0 d.rect.low.length cd0,.slice Ad1 d.rect.high.length cd1,.int .i64 d.ref,.int .i64 d.nsn],.agg #[.slice Ae0 e.rect.low.length ce0,.slice Ae1 e.rect.high.length ce1,.int .i64 e.ref,.int .i64 e.nsn]] w (fun e_ w2_=>e_ = .returned (.bool (decide (d = e))) ∧ Below w.heap.size w w2_):=by
  refine fnc (X:=X2 24 w) (l:=[(0,.agg #[.slice Ad0 d.rect.low.length cd0,.slice Ad1 d.rect.high.length cd1,.int .i64 d.ref,.int .i64 d.nsn]),(1,.agg #[.slice Ae0 e.rect.low.length ce0,.slice Ae1 e.rect.high.length ce1,.int .i64 e.ref,.int .i64 e.nsn])]) Tryz.func163 rfl rfl rfl ⟨rfl,rfl,trivial⟩ (s0d he (s0d hd (s0n w))).1 ?_
  refine sq (rg (bx rfl rfl rfl rfl ?_))
  intro b1
  refine bx rfl rfl rfl rfl ?_
  intro b2
  refine rn ik 9 [1,0,0,0] rfl ?_
  refine gd 3 kEntryS_p0_2 rfl (cs':=[.slice Ad0 d.rect.low.length cd0,.slice Ad1 d.rect.high.length cd1]) rfl fun s3 w_ rs3 us3=>?_
  refine gd 3 kEntryS_p0_2 rfl (cs':=[.slice Ae0 e.rect.low.length ce0,.slice Ae1 e.rect.high.length ce1]) rfl fun s4 w_ rs4 us4=>?_
  refine cs_ (v:=.bool (decide (d.rect = e.rect))) (by kernel_rfl) rfl rfl rfl (fun w_ hs_=>impl_SameRects w_ (hs_.at 1 rfl) (hs_.at 0 rfl)) (m_ rfl rfl ?_)
  by_cases h5 : decide (d.rect = e.rect) = true
  · refine rp ik 7 [1,1,3,0,1,1,2,0,1,1] rfl ⟨h5,h5,h5,h5,h5,h5,⟨⟩⟩ ?_
    by_cases h6 : d.ref = e.ref
    · refine rp ik 10 [1,1,3,0,1,1,2,0,1,1] rfl ⟨(beq_iff_eq.2 h6),(beq_iff_eq.2 h6),(beq_iff_eq.2 h6),(beq_iff_eq.2 h6),(beq_iff_eq.2 h6),(beq_iff_eq.2 h6),⟨⟩⟩ (ret1 rfl rfl (fun w_ hs_=>⟨?_,hs_.below⟩))
      exact rb (by rw [← eqE]; grind)
    · refine rp ik 10 [0,0,0,0,0,0] rfl ⟨(beq_eq_false_iff_ne.2 h6),(beq_eq_false_iff_ne.2 h6),(beq_eq_false_iff_ne.2 h6),(beq_eq_false_iff_ne.2 h6),(beq_eq_false_iff_ne.2 h6),(beq_eq_false_iff_ne.2 h6),⟨⟩⟩ (ret1 rfl rfl (fun w_ hs_=>⟨?_,hs_.below⟩))
      exact rb (by rw [← eqE]; grind)
  · refine rp ik 17 [0,0,0,0,0,0,0,0,0,0,0,0] rfl ⟨rfl,rfl,rfl,rfl,rfl,rfl,(Bool.eq_false_iff.2 h5),(Bool.eq_false_iff.2 h5),(Bool.eq_false_iff.2 h5),(Bool.eq_false_iff.2 h5),(Bool.eq_false_iff.2 h5),(Bool.eq_false_iff.2 h5),⟨⟩⟩ (ret1 rfl rfl (fun w_ hs_=>⟨?_,hs_.below⟩))
    exact rb (by rw [← eqE]; grind)
theorem eqf_step {α β : Type} {p : α → β → Bool} {l : List α} {r : List β} {k : Nat} {u : α} {v : β} (h : ∀ j x y,j < k → l[j]? = some x → r[j]? = some y → p x y = true) (hu : l[k]? = some u) (hv : r[k]? = some v) (he : p u v = true) : ∀ j x y,j < k + 1 → l[j]? = some x → r[j]? = some y → p x y = true:=fun j x y hj hx hy=>by
  rcases Nat.lt_succ_iff_lt_or_eq.1 hj with hlt | rfl
  · exact h j x y hlt hx hy
  · rw [hu] at hx; rw [hv] at hy; cases hx; cases hy; exact he
theorem slices_EqualFunc_impl_Entry_impl_Entry_impl_Entry_impl_Entry (w : World) (p : Entry → Entry → Bool) {fp : FuncId} {cfp : List Value} (hEp : enters Tryz.prog fp = true) {As1 : Option Addr} {cs1 : Nat} {s1 : List Entry} {ss1_ : List Nat} (hs1 : (Kd.sl kEntryS).Rel w [.slice As1 s1.length cs1] s1 [] ss1_) {As2 : Option Addr} {cs2 : Nat} {s2 : List Entry} {ss2_ : List Nat} (hs2 : (Kd.sl kEntryS).Rel w [.slice As2 s2.length cs2] s2 [] ss2_) (hfp : ∀ (w1 : World) (x0 : Entry) (x1 : Entry),x0 ∈ s1 → x1 ∈ s2 → Below w.heap.size w w1 → ∀ (A1_1 : Option Addr) (c1_1 : Nat),∀ (A1_0 : Option Addr) (c1_0 : Nat),∀ (A0_1 : Option Addr) (c0_1 : Nat),∀ (A0_0 : Option Addr) (c0_0 : Nat),∀ s0_ : List Nat,kEntryS.Rel w1 [.slice A0_0 x0.rect.low.length c0_0,.slice A0_1 x0.rect.high.length c0_1,.int .i64 x0.ref,.int .i64 x0.nsn] x0 [] s0_ → ∀ s1_ : List Nat,kEntryS.Rel w1 [.slice A1_0 x1.rect.low.length c1_0,.slice A1_1 x1.rect.high.length c1_1,.int .i64 x1.ref,.int .i64 x1.nsn] x1 [] s1_ → Calls Tryz.prog fp (([.agg #[.slice A0_0 x0.rect.low.length c0_0,.slice A0_1 x0.rect.high.length c0_1,.int .i64 x0.ref,.int .i64 x0.nsn],.agg #[.slice A1_0 x1.rect.low.length c1_0,.slice A1_1 x1.rect.high.length c1_1,.int .i64 x1.ref,.int .i64 x1.nsn]] : List Value) ++ cfp).toArray w1 (fun e_ w2_=>e_ = .returned (.bool (p x0 x1)) ∧ Below w1.heap.size w1 w2_))  : Calls Tryz.prog 162 #[.slice As1 s1.length cs1,.slice As2 s2.length cs2,.func (.func fp) #[] cfp.toArray] w (fun e_ w2_=>e_ = .returned (.bool (eqBy p s1 s2)) ∧ Below w.heap.size w w2_):=by
  have Ls1:=Kd.sl_len hs1; have Cs1:=Kd.sl_cap hs1
  have Ls2:=Kd.sl_len hs2; have Cs2:=Kd.sl_cap hs2
  refine fnc (X:=X2 32 w) (l:=[(0,.slice As1 s1.length cs1),(1,.slice As2 s2.length cs2),(2,.func (.func fp) #[] cfp.toArray)]) Tryz.func162 rfl rfl rfl ⟨rfl,rfl,rfl,trivial⟩ (s0d hs2 (s0d hs1 (s0n w))).1 ?_
  refine rn ik 15 [] rfl ?_
  by_cases h1 : ((s1.length : Nat) : Int) = ((s2.length : Nat) : Int)
  · refine r1_ ik 12 [0] rfl (bne_eq_false_iff_eq.2 h1) ?_
    refine lp (σ:=Nat) (fun k : Nat=>[(1,.slice As2 s2.length cs2),(2,.func (.func fp) #[] cfp.toArray),(15,.slice As1 s1.length cs1),(16,.int .i64 ((s1.length : Nat) : Int)),(17,.int .i64 ((k : Nat) : Int))])
        (fun k : Nat=>[dat (Kd.sl kEntryS) [.slice As2 s2.length cs2] s2 ([]) ss2_,dat (Kd.sl kEntryS) [.slice As1 s1.length cs1] s1 ([]) ss1_])
        (fun k : Nat=>k ≤ s1.length ∧ ∀ j x y,j < k → s1[j]? = some x → s2[j]? = some y → p x y = true) (fun k : Nat=>s1.length - k) 0 [0,0] ⟨Nat.zero_le _,by simp⟩ ⟨rfl,rfl,rfl,rfl,rfl,trivial⟩ rfl ?_
    intro k hp_
    obtain ⟨hk,hinv⟩:=hp_
    refine rn ik 6 [] rfl ?_
    by_cases h2 : ((k : Nat) : Int) < ((s1.length : Nat) : Int)
    · refine r1_ ik 8 [1] rfl (decide_eq_true h2) ?_
      refine gx 1 k rfl (by omega) fun y8 p3 cs_ s4 w7 m9 e5 r6 us4=>?_
      obtain ⟨A10,c11,A12,c13,rfl⟩:=kEntryS_sh r6
      refine vl (ix k e5 rfl rfl rfl rfl rfl (by omega)) rfl (vl (ldq 0 rfl rfl rfl rfl rfl rfl rfl) rfl (al zero102 rfl rfl rfl ?_))
      intro b14
      refine a_ rfl rfl (sto rfl rfl rfl rfl rfl rfl rfl (cs':=[.slice A10 y8.rect.low.length c11,.slice A12 y8.rect.high.length c13,.int .i64 y8.ref,.int .i64 y8.nsn]) rfl (rn ik 6 [] rfl ?_))
      refine gx 2 k rfl (by omega) fun y20 p15 cs_ s16 w19 m21 e17 r18 us16=>?_
      obtain ⟨A22,c23,A24,c25,rfl⟩:=kEntryS_sh r18
      refine vl (ix k e17 rfl rfl rfl rfl rfl (by omega)) rfl (vl (ldq 0 rfl rfl rfl rfl rfl rfl rfl) rfl (al zero102 rfl rfl rfl ?_))
      intro b26
      refine sto rfl rfl rfl rfl rfl rfl rfl (cs':=[.slice A22 y20.rect.low.length c23,.slice A24 y20.rect.high.length c25,.int .i64 y20.ref,.int .i64 y20.nsn]) rfl (rn ik 7 [2,0,0,0] rfl ?_)
      refine gp 3 Kd.Sub.rfl rfl (cs':=[.slice A10 y8.rect.low.length c11,.slice A12 y8.rect.high.length c13,.int .i64 y8.ref,.int .i64 y8.nsn]) rfl fun s27 w_ rs27 us27=>?_
      refine gp 2 Kd.Sub.rfl rfl (cs':=[.slice A22 y20.rect.low.length c23,.slice A24 y20.rect.high.length c25,.int .i64 y20.ref,.int .i64 y20.nsn]) rfl fun s28 w_ rs28 us28=>?_
      refine cv_ (v:=.bool (p y8 y20)) hEp rfl rfl rfl rfl (fun w_ hs_=>hfp w_ y8 y20 (List.mem_of_getElem? m9) (List.mem_of_getElem? m21) hs_.below _ _ _ _ _ _ _ _ _ (hs_.at 1 rfl) _ (hs_.at 0 rfl)) (rn ik 3 [] rfl ?_)
      by_cases h29 : p y8 y20 = true
      · exact r1_ ik 5 [0] rfl (not_f h29) (vl (ra (c:=((k + 1 : Nat) : Int)) rfl rfl rfl (by omega) (by omega) (by omega)) rfl (rn ik 2 [] rfl (lpe (s:=k) (k + 1) [6,6] ⟨by omega,eqf_step hinv m9 m21 h29⟩ (by omega) ⟨rfl,rfl,rfl,rfl,rfl,trivial⟩ rfl)))
      · refine r1_ ik 12 [1] rfl (not_t (Bool.eq_false_iff.2 h29)) (ret1 rfl rfl (fun w_ hs_=>⟨?_,hs_.below⟩))
        exact rb (eqBy_at m9 m21 (Bool.eq_false_iff.2 h29)).symm
    · refine r1_ ik 12 [0] rfl (decide_eq_false h2) (ret1 rfl rfl (fun w_ hs_=>⟨?_,hs_.below⟩))
      exact rb (eqBy_all (by omega) (fun i a b ha hb=>hinv i a b (by have:=(List.getElem?_eq_some_iff.1 ha).1; omega) ha hb)).symm
  · refine r1_ ik 8 [1] rfl (bne_iff_ne.2 h1) (ret1 rfl rfl (fun w_ hs_=>⟨?_,hs_.below⟩))
    exact rb (eqBy_len (by omega)).symm
theorem impl_sameNode (w : World) {a : Node} (ha : kNodeS.Rel w [.int .i64 a.level,.int .i64 a.nsn,.int .i64 a.right,.slice Aa3 a.entries.length ca3] a [] sa_) {Ab3 : Option Addr} {cb3 : Nat} {b : Node} (hb : kNodeS.Rel w [.int .i64 b.level,.int .i64 b.nsn,.int .i64 b.right,.slice Ab3 b.entries.length cb3] b [] sb_)  : Calls Tryz.prog 89 #[.agg #[.int .i64 a.level,.int .i64 a.nsn,.int .i64 a.right,.slice Aa3 a.entries.length ca3],.agg #[.int .i64 b.level,.int .i64 b.nsn,.int .i64 b.right,.slice Ab3 b.entries.length cb3]] w (fun e_ w2_=>e_ = .returned (.bool (decide (a = b))) ∧ Below w.heap.size w w2_):=by
  refine fnc (X:=X2 31 w) (l:=[(0,.agg #[.int .i64 a.level,.int .i64 a.nsn,.int .i64 a.right,.slice Aa3 a.entries.length ca3]),(1,.agg #[.int .i64 b.level,.int .i64 b.nsn,.int .i64 b.right,.slice Ab3 b.entries.length cb3])]) Tryz.func89 rfl rfl rfl ⟨rfl,rfl,trivial⟩ (s0d hb (s0d ha (s0n w))).1 ?_
  refine sq (rg (bx rfl rfl rfl rfl ?_))
  intro b1
  refine bx rfl rfl rfl rfl ?_
  intro b2
  refine rn ik 11 [1,0,0,0] rfl ?_
  by_cases h3 : a.level = b.level
  · refine rp ik 7 [1,1,1,0,1,1,0,0,1,1] rfl ⟨(beq_iff_eq.2 h3),(beq_iff_eq.2 h3),(beq_iff_eq.2 h3),(beq_iff_eq.2 h3),(beq_iff_eq.2 h3),(beq_iff_eq.2 h3),⟨⟩⟩ ?_
    by_cases h4 : a.nsn = b.nsn
    · refine rp ik 7 [1,1,1,0,1,1,0,0,1,1] rfl ⟨(beq_iff_eq.2 h4),(beq_iff_eq.2 h4),(beq_iff_eq.2 h4),(beq_iff_eq.2 h4),(beq_iff_eq.2 h4),(beq_iff_eq.2 h4),⟨⟩⟩ ?_
      by_cases h5 : a.right = b.right
      · refine r4_ ik 4 [1,1,1,0,1,1,0,0] rfl (beq_iff_eq.2 h5) (beq_iff_eq.2 h5) (beq_iff_eq.2 h5) (beq_iff_eq.2 h5) (gw rfl rfl (beq_iff_eq.2 h5) ?_)
        refine gd 3 kNodeS_p3_1 rfl (cs':=[.slice Aa3 a.entries.length ca3]) rfl fun s6 w_ rs6 us6=>?_
        have Ls6:=Kd.sl_len rs6; have Cs6:=Kd.sl_cap rs6
        refine gd 3 kNodeS_p3_1 rfl (cs':=[.slice Ab3 b.entries.length cb3]) rfl fun s7 w_ rs7 us7=>?_
        have Ls7:=Kd.sl_len rs7; have Cs7:=Kd.sl_cap rs7
        refine cs_ (v:=.bool (eqBy (fun (x0 : Entry) (x1 : Entry)=>decide (x0 = x1)) a.entries b.entries)) (by kernel_rfl) rfl rfl rfl (fun w_ hs_=>slices_EqualFunc_impl_Entry_impl_Entry_impl_Entry_impl_Entry w_ (fun (x0 : Entry) (x1 : Entry)=>decide (x0 = x1)) (by kernel_rfl) (hs_.at 1 rfl) (hs_.at 0 rfl) (fun w1 x0 x1 m0_ m1_ b_ _ _ _ _ _ _ _ _ _ r0_ _ r1_=>impl_sameNode_1 w1  r0_ r1_)) (r1_ ik 5 [1] rfl (beq_iff_eq.2 h5) (ret1 rfl rfl (fun w_ hs_=>⟨?_,hs_.below⟩)))
        exact rb (by rw [Node_eq]; have z:=eqBy_eq (p:=fun (x0 : Entry) (x1 : Entry)=>decide (x0 = x1)) (fun _ _=>rfl) a.entries b.entries; grind)
      · refine rp ik 10 [0,0,0,0,0,0] rfl ⟨(beq_eq_false_iff_ne.2 h5),(beq_eq_false_iff_ne.2 h5),(beq_eq_false_iff_ne.2 h5),(beq_eq_false_iff_ne.2 h5),(beq_eq_false_iff_ne.2 h5),(beq_eq_false_iff_ne.2 h5),⟨⟩⟩ (ret1 rfl rfl (fun w_ hs_=>⟨?_,hs_.below⟩))
        exact rb (by rw [Node_eq]; have z:=eqBy_eq (p:=fun (x0 : Entry) (x1 : Entry)=>decide (x0 = x1)) (fun _ _=>rfl) a.entries b.entries; grind)
    · refine rp ik 17 [0,0,0,0,0,0,0,0,0,0,0,0] rfl ⟨rfl,rfl,rfl,rfl,rfl,rfl,(beq_eq_false_iff_ne.2 h4),(beq_eq_false_iff_ne.2 h4),(beq_eq_false_iff_ne.2 h4),(beq_eq_false_iff_ne.2 h4),(beq_eq_false_iff_ne.2 h4),(beq_eq_false_iff_ne.2 h4),⟨⟩⟩ (ret1 rfl rfl (fun w_ hs_=>⟨?_,hs_.below⟩))
      exact rb (by rw [Node_eq]; have z:=eqBy_eq (p:=fun (x0 : Entry) (x1 : Entry)=>decide (x0 = x1)) (fun _ _=>rfl) a.entries b.entries; grind)
  · refine rp ik 24 [0,0,0,0,0,0,0,0,0,0,0,0,0,0,0,0,0,0] rfl ⟨rfl,rfl,rfl,rfl,rfl,rfl,rfl,rfl,rfl,rfl,rfl,rfl,(beq_eq_false_iff_ne.2 h3),(beq_eq_false_iff_ne.2 h3),(beq_eq_false_iff_ne.2 h3),(beq_eq_false_iff_ne.2 h3),(beq_eq_false_iff_ne.2 h3),(beq_eq_false_iff_ne.2 h3),⟨⟩⟩ (ret1 rfl rfl (fun w_ hs_=>⟨?_,hs_.below⟩))
    exact rb (by rw [Node_eq]; have z:=eqBy_eq (p:=fun (x0 : Entry) (x1 : Entry)=>decide (x0 = x1)) (fun _ _=>rfl) a.entries b.entries; grind)
theorem spec_l3SameEntries (w : World) {a : List Entry} (ha : (Kd.sl kEntryS).Rel w [.slice Aa a.length ca] a [] sa_) {b : List Entry} (hb : (Kd.sl kEntryS).Rel w [.slice Ab b.length cb] b [] sb_)  : Calls Tryz.prog 173 #[.slice Aa a.length ca,.slice Ab b.length cb] w (fun e_ w2_=>e_ = .returned (.bool (decide (a = b))) ∧ Below w.heap.size w w2_):=by
  have La:=Kd.sl_len ha; have Ca:=Kd.sl_cap ha
  have Lb:=Kd.sl_len hb; have Cb:=Kd.sl_cap hb
  refine fnc (X:=X2 55 w) (l:=[(0,.slice Aa a.length ca),(1,.slice Ab b.length cb)]) Tryz.func173 rfl rfl rfl ⟨rfl,rfl,trivial⟩ (s0d hb (s0d ha (s0n w))).1 ?_
  refine rn ik 15 [] rfl ?_
  by_cases h1 : ((a.length : Nat) : Int) = ((b.length : Nat) : Int)
  · refine r1_ ik 10 [0] rfl (bne_eq_false_iff_eq.2 h1) ?_
    refine lp (σ:=Nat) (fun k : Nat=>[(0,.slice Aa a.length ca),(1,.slice Ab b.length cb),(5,.int .i64 ((k : Nat) : Int))])
        (fun k : Nat=>[dat (Kd.sl kEntryS) [.slice Ab b.length cb] b ([]) sb_,dat (Kd.sl kEntryS) [.slice Aa a.length ca] a ([]) sa_])
        (fun k : Nat=>k ≤ a.length ∧ ∀ j x y,j < k → a[j]? = some x → b[j]? = some y → x = y) (fun k : Nat=>a.length - k) 0 [0,0] ⟨Nat.zero_le _,by simp⟩ ⟨rfl,rfl,rfl,trivial⟩ rfl ?_
    intro k hp_
    obtain ⟨hk,hinv⟩:=hp_
    refine rn ik 9 [] rfl ?_
    by_cases h2 : ((k : Nat) : Int) < ((a.length : Nat) : Int)
    · refine r1_ ik 6 [1] rfl (decide_eq_true h2) ?_
      refine gx 1 k rfl (by omega) fun y8 p3 cs_ s4 w7 m9 e5 r6 us4=>?_
      obtain ⟨A10,c11,A12,c13,rfl⟩:=kEntryS_sh r6
      refine gx 1 k rfl (by omega) fun y19 p14 cs_ s15 w18 m20 e16 r17 us15=>?_
      obtain ⟨A21,c22,A23,c24,rfl⟩:=kEntryS_sh r17
      by_cases h25 : y8.ref = y19.ref
      · by_cases h26 : y8.nsn = y19.nsn
        · refine gp 1 kEntryS_p0_2 rfl (cs':=[.slice A10 y8.rect.low.length c11,.slice A12 y8.rect.high.length c13]) rfl fun s27 w_ rs27 us27=>?_
          refine gp 1 kEntryS_p0_2 rfl (cs':=[.slice A21 y19.rect.low.length c22,.slice A23 y19.rect.high.length c24]) rfl fun s28 w_ rs28 us28=>?_
          refine rn ik 3 [1,2] rfl (qv 2 rfl (ix k e5 rfl rfl rfl rfl rfl (by omega)) rfl (by kernel_rfl) (rn ik 4 [4,5,3,3,6,7] rfl (qv 7 rfl (ix k e16 rfl rfl rfl rfl rfl (by omega)) rfl (by kernel_rfl) (r2_ ik 6 [9,10,2,3,11,12,13,1,14,1] rfl (bne_eq_false_iff_eq.2 h25) (bne_eq_false_iff_eq.2 h25) (qg 14 rfl (ix k e5 rfl rfl rfl rfl rfl (by omega)) rfl rfl (bne_eq_false_iff_eq.2 h25) (by kernel_rfl) (r4_ ik 4 [16,1,17,1,3,4,18,1,19,1] rfl (bne_eq_false_iff_eq.2 h25) (bne_eq_false_iff_eq.2 h25) (bne_eq_false_iff_eq.2 h25) (bne_eq_false_iff_eq.2 h25) (qg 19 rfl (ix k e16 rfl rfl rfl rfl rfl (by omega)) rfl rfl (bne_eq_false_iff_eq.2 h25) (by kernel_rfl) (rp ik 7 [21,1,22,1,2,4,23,1,24,0,25,26,1,27,1] rfl ⟨(bne_eq_false_iff_eq.2 h26),(bne_eq_false_iff_eq.2 h26),(bne_eq_false_iff_eq.2 h25),(bne_eq_false_iff_eq.2 h25),(bne_eq_false_iff_eq.2 h25),(bne_eq_false_iff_eq.2 h25),⟨⟩⟩ (qg 27 rfl (ix k e5 rfl rfl rfl rfl rfl (by omega)) rfl rfl (bne_eq_false_iff_eq.2 h26) (by kernel_rfl) (r4_ ik 4 [29,1,30,1,3,1,31,1,32,1] rfl (bne_eq_false_iff_eq.2 h26) (bne_eq_false_iff_eq.2 h26) (bne_eq_false_iff_eq.2 h26) (bne_eq_false_iff_eq.2 h26) (qg 32 rfl (ix k e16 rfl rfl rfl rfl rfl (by omega)) rfl rfl (bne_eq_false_iff_eq.2 h26) (by kernel_rfl) (r2_ ik 2 [34,1,35,1,2,1] rfl (bne_eq_false_iff_eq.2 h26) (bne_eq_false_iff_eq.2 h26) (q1 35 [0,0,0,0,0,0] rfl (by kernel_rfl) rfl (gw rfl rfl (bne_eq_false_iff_eq.2 h26) (cs_ (v:=.bool (decide (y8.rect = y19.rect))) (by kernel_rfl) rfl rfl rfl (fun w_ hs_=>by exact spec_SameRects w_ (hs_.at 1 rfl) (hs_.at 0 rfl)) (qn (r3_ ik 4 [37,1,38,0,0] rfl (bne_eq_false_iff_eq.2 h26) (bne_eq_false_iff_eq.2 h26) ⟨[0,0,0,0,0,0],rfl⟩ ?_)))))))))))))))))
          by_cases h29 : decide (y8.rect = y19.rect) = true
          · exact r1_ ik 6 [0] rfl (not_f h29) (vl (ra (c:=((k + 1 : Nat) : Int)) rfl rfl rfl (by omega) (by omega) (by omega)) rfl (rn ik 2 [] rfl (lpe (s:=k) (k + 1) [4,4] ⟨by omega,eq_step hinv m9 m20 (by cases y8; cases y19; simp_all)⟩ (by omega) ⟨rfl,rfl,rfl,trivial⟩ rfl)))
          · refine r1_ ik 12 [1] rfl (not_t (Bool.eq_false_iff.2 h29)) (ret1 rfl rfl (fun w_ hs_=>⟨?_,hs_.below⟩))
            exact rb (eqS_f m9 m20 (by rintro rfl; simp_all)).symm
        · refine rn ik 3 [1,2] rfl (qv 2 rfl (ix k e5 rfl rfl rfl rfl rfl (by omega)) rfl (by kernel_rfl) (rn ik 4 [4,5,1,3,6,7] rfl (qv 7 rfl (ix k e16 rfl rfl rfl rfl rfl (by omega)) rfl (by kernel_rfl) (r2_ ik 6 [9,10,0,3,11,12,13,1,14,1] rfl (bne_eq_false_iff_eq.2 h25) (bne_eq_false_iff_eq.2 h25) (qg 14 rfl (ix k e5 rfl rfl rfl rfl rfl (by omega)) rfl rfl (bne_eq_false_iff_eq.2 h25) (by kernel_rfl) (r4_ ik 4 [16,1,17,1,1,4,18,1,19,1] rfl (bne_eq_false_iff_eq.2 h25) (bne_eq_false_iff_eq.2 h25) (bne_eq_false_iff_eq.2 h25) (bne_eq_false_iff_eq.2 h25) (qg 19 rfl (ix k e16 rfl rfl rfl rfl rfl (by omega)) rfl rfl (bne_eq_false_iff_eq.2 h25) (by kernel_rfl) (rp ik 32 [21,1,22,1,0,4,23,1,24,0,25,26,0,27,0,28,0,29,0,30,0,31,0,32,0,33,0,34,0,35,0,36,0,37,0,38,1,0,1] rfl ⟨rfl,⟨[0,0,0,0],rfl⟩,(bne_iff_ne.2 h26),(bne_iff_ne.2 h26),(bne_iff_ne.2 h26),(bne_iff_ne.2 h26),(bne_iff_ne.2 h26),(bne_iff_ne.2 h26),(bne_iff_ne.2 h26),(bne_iff_ne.2 h26),(bne_iff_ne.2 h26),(bne_iff_ne.2 h26),(bne_iff_ne.2 h26),(bne_iff_ne.2 h26),(bne_iff_ne.2 h26),(bne_eq_false_iff_eq.2 h25),(bne_eq_false_iff_eq.2 h25),(bne_eq_false_iff_eq.2 h25),(bne_eq_false_iff_eq.2 h25),⟨⟩⟩ (ret1 rfl rfl (fun w_ hs_=>⟨?_,hs_.below⟩))))))))))
          exact rb (eqS_f m9 m20 (by rintro rfl; simp_all)).symm
      · refine rn ik 3 [1,2] rfl (qv 2 rfl (ix k e5 rfl rfl rfl rfl rfl (by omega)) rfl (by kernel_rfl) (rn ik 4 [4,5,1,3,6,7] rfl (qv 7 rfl (ix k e16 rfl rfl rfl rfl rfl (by omega)) rfl (by kernel_rfl) (rp ik 44 [9,10,0,3,11,12,13,0,14,0,15,0,16,0,17,0,18,0,19,0,20,0,21,0,22,0,23,0,24,1,25,26,0,27,0,28,0,29,0,30,0,31,0,32,0,33,0,34,0,35,0,36,0,37,0,38,1,0,1] rfl ⟨rfl,⟨[0,0,0,0],rfl⟩,rfl,rfl,rfl,rfl,rfl,rfl,rfl,rfl,rfl,rfl,rfl,rfl,rfl,(bne_iff_ne.2 h25),(bne_iff_ne.2 h25),(bne_iff_ne.2 h25),(bne_iff_ne.2 h25),(bne_iff_ne.2 h25),(bne_iff_ne.2 h25),(bne_iff_ne.2 h25),(bne_iff_ne.2 h25),(bne_iff_ne.2 h25),(bne_iff_ne.2 h25),(bne_iff_ne.2 h25),(bne_iff_ne.2 h25),⟨⟩⟩ (ret1 rfl rfl (fun w_ hs_=>⟨?_,hs_.below⟩))))))
        exact rb (eqS_f m9 m20 (by rintro rfl; simp_all)).symm
    · refine r1_ ik 12 [0] rfl (decide_eq_false h2) (ret1 rfl rfl (fun w_ hs_=>⟨?_,hs_.below⟩))
      exact rb (eqS_t (by omega) hinv (by omega)).symm
  · refine r1_ ik 8 [1] rfl (bne_iff_ne.2 h1) (ret1 rfl rfl (fun w_ hs_=>⟨?_,hs_.below⟩))
    exact rb (by rw [eq_comm,decide_eq_false_iff_not]; rintro rfl; exact h1 rfl)
theorem spec_SameNodes (w : World) {a : List Node} (ha : (Kd.sl kNodeS).Rel w [.slice Aa a.length ca] a [] sa_) {b : List Node} (hb : (Kd.sl kNodeS).Rel w [.slice Ab b.length cb] b [] sb_)  : Calls Tryz.prog 106 #[.slice Aa a.length ca,.slice Ab b.length cb] w (fun e_ w2_=>e_ = .returned (.bool (decide (a = b))) ∧ Below w.heap.size w w2_):=by
  have La:=Kd.sl_len ha; have Ca:=Kd.sl_cap ha
  have Lb:=Kd.sl_len hb; have Cb:=Kd.sl_cap hb
  refine fnc (X:=X2 68 w) (l:=[(0,.slice Aa a.length ca),(1,.slice Ab b.length cb)]) Tryz.func106 rfl rfl rfl ⟨rfl,rfl,trivial⟩ (s0d hb (s0d ha (s0n w))).1 ?_
  refine rn ik 15 [] rfl ?_
  by_cases h1 : ((a.length : Nat) : Int) = ((b.length : Nat) : Int)
  · refine r1_ ik 10 [0] rfl (bne_eq_false_iff_eq.2 h1) ?_
    refine lp (σ:=Nat) (fun k : Nat=>[(0,.slice Aa a.length ca),(1,.slice Ab b.length cb),(5,.int .i64 ((k : Nat) : Int))])
        (fun k : Nat=>[dat (Kd.sl kNodeS) [.slice Ab b.length cb] b ([]) sb_,dat (Kd.sl kNodeS) [.slice Aa a.length ca] a ([]) sa_])
        (fun k : Nat=>k ≤ a.length ∧ ∀ j x y,j < k → a[j]? = some x → b[j]? = some y → x = y) (fun k : Nat=>a.length - k) 0 [0,0] ⟨Nat.zero_le _,by simp⟩ ⟨rfl,rfl,rfl,trivial⟩ rfl ?_
    intro k hp_
    obtain ⟨hk,hinv⟩:=hp_
    refine rn ik 9 [] rfl ?_
    by_cases h2 : ((k : Nat) : Int) < ((a.length : Nat) : Int)
    · refine r1_ ik 6 [1] rfl (decide_eq_true h2) ?_
      refine gx 1 k rfl (by omega) fun y8 p3 cs_ s4 w7 m9 e5 r6 us4=>?_
      obtain ⟨A10,c11,rfl⟩:=kNodeS_sh r6
      refine gx 1 k rfl (by omega) fun y17 p12 cs_ s13 w16 m18 e14 r15 us13=>?_
      obtain ⟨A19,c20,rfl⟩:=kNodeS_sh r15
      by_cases h21 : y8.level = y17.level
      · by_cases h22 : y8.nsn = y17.nsn
        · by_cases h23 : y8.right = y17.right
          · refine gp 1 kNodeS_p3_1 rfl (cs':=[.slice A10 y8.entries.length c11]) rfl fun s24 w_ rs24 us24=>?_
            have Ls24:=Kd.sl_len rs24; have Cs24:=Kd.sl_cap rs24
            refine gp 1 kNodeS_p3_1 rfl (cs':=[.slice A19 y17.entries.length c20]) rfl fun s25 w_ rs25 us25=>?_
            have Ls25:=Kd.sl_len rs25; have Cs25:=Kd.sl_cap rs25
            refine rn ik 3 [1,2] rfl (qv 2 rfl (ix k e5 rfl rfl rfl rfl rfl (by omega)) rfl (by kernel_rfl) (rn ik 4 [4,5,3,1,6,7] rfl (qv 7 rfl (ix k e14 rfl rfl rfl rfl rfl (by omega)) rfl (by kernel_rfl) (r2_ ik 6 [9,10,2,1,11,12,13,1,14,1] rfl (bne_eq_false_iff_eq.2 h21) (bne_eq_false_iff_eq.2 h21) (qg 14 rfl (ix k e5 rfl rfl rfl rfl rfl (by omega)) rfl rfl (bne_eq_false_iff_eq.2 h21) (by kernel_rfl) (r4_ ik 4 [16,1,17,1,3,2,18,1,19,1] rfl (bne_eq_false_iff_eq.2 h21) (bne_eq_false_iff_eq.2 h21) (bne_eq_false_iff_eq.2 h21) (bne_eq_false_iff_eq.2 h21) (qg 19 rfl (ix k e14 rfl rfl rfl rfl rfl (by omega)) rfl rfl (bne_eq_false_iff_eq.2 h21) (by kernel_rfl) (rp ik 7 [21,1,22,1,2,2,23,1,24,0,25,26,1,27,1] rfl ⟨(bne_eq_false_iff_eq.2 h22),(bne_eq_false_iff_eq.2 h22),(bne_eq_false_iff_eq.2 h21),(bne_eq_false_iff_eq.2 h21),(bne_eq_false_iff_eq.2 h21),(bne_eq_false_iff_eq.2 h21),⟨⟩⟩ (qg 27 rfl (ix k e5 rfl rfl rfl rfl rfl (by omega)) rfl rfl (bne_eq_false_iff_eq.2 h22) (by kernel_rfl) (r4_ ik 4 [29,1,30,1,3,3,31,1,32,1] rfl (bne_eq_false_iff_eq.2 h22) (bne_eq_false_iff_eq.2 h22) (bne_eq_false_iff_eq.2 h22) (bne_eq_false_iff_eq.2 h22) (qg 32 rfl (ix k e14 rfl rfl rfl rfl rfl (by omega)) rfl rfl (bne_eq_false_iff_eq.2 h22) (by kernel_rfl) (rp ik 7 [34,1,35,1,2,3,36,1,37,0,38,39,1,40,1] rfl ⟨(bne_eq_false_iff_eq.2 h23),(bne_eq_false_iff_eq.2 h23),(bne_eq_false_iff_eq.2 h22),(bne_eq_false_iff_eq.2 h22),(bne_eq_false_iff_eq.2 h22),(bne_eq_false_iff_eq.2 h22),⟨⟩⟩ (qg 40 rfl (ix k e5 rfl rfl rfl rfl rfl (by omega)) rfl rfl (bne_eq_false_iff_eq.2 h23) (by kernel_rfl) (r4_ ik 4 [42,1,43,1,3,4,44,1,45,1] rfl (bne_eq_false_iff_eq.2 h23) (bne_eq_false_iff_eq.2 h23) (bne_eq_false_iff_eq.2 h23) (bne_eq_false_iff_eq.2 h23) (qg 45 rfl (ix k e14 rfl rfl rfl rfl rfl (by omega)) rfl rfl (bne_eq_false_iff_eq.2 h23) (by kernel_rfl) (r2_ ik 2 [47,1,48,1,2,4] rfl (bne_eq_false_iff_eq.2 h23) (bne_eq_false_iff_eq.2 h23) (q1 48 [0,0,0,0,0,0] rfl (by kernel_rfl) rfl (gw rfl rfl (bne_eq_false_iff_eq.2 h23) (cs_ (v:=.bool (decide (y8.entries = y17.entries))) (by kernel_rfl) rfl rfl rfl (fun w_ hs_=>by exact spec_l3SameEntries w_ (hs_.at 1 rfl) (hs_.at 0 rfl)) (qn (r3_ ik 4 [50,1,51,0,0] rfl (bne_eq_false_iff_eq.2 h23) (bne_eq_false_iff_eq.2 h23) ⟨[0,0,0,0,0,0],rfl⟩ ?_)))))))))))))))))))))
            by_cases h26 : decide (y8.entries = y17.entries) = true
            · exact r1_ ik 6 [0] rfl (not_f h26) (vl (ra (c:=((k + 1 : Nat) : Int)) rfl rfl rfl (by omega) (by omega) (by omega)) rfl (rn ik 2 [] rfl (lpe (s:=k) (k + 1) [4,4] ⟨by omega,eq_step hinv m9 m18 (by cases y8; cases y17; simp_all)⟩ (by omega) ⟨rfl,rfl,rfl,trivial⟩ rfl)))
            · refine r1_ ik 12 [1] rfl (not_t (Bool.eq_false_iff.2 h26)) (ret1 rfl rfl (fun w_ hs_=>⟨?_,hs_.below⟩))
              exact rb (eqS_f m9 m18 (by rintro rfl; simp_all)).symm
          · refine rn ik 3 [1,2] rfl (qv 2 rfl (ix k e5 rfl rfl rfl rfl rfl (by omega)) rfl (by kernel_rfl) (rn ik 4 [4,5,1,1,6,7] rfl (qv 7 rfl (ix k e14 rfl rfl rfl rfl rfl (by omega)) rfl (by kernel_rfl) (r2_ ik 6 [9,10,0,1,11,12,13,1,14,1] rfl (bne_eq_false_iff_eq.2 h21) (bne_eq_false_iff_eq.2 h21) (qg 14 rfl (ix k e5 rfl rfl rfl rfl rfl (by omega)) rfl rfl (bne_eq_false_iff_eq.2 h21) (by kernel_rfl) (r4_ ik 4 [16,1,17,1,1,2,18,1,19,1] rfl (bne_eq_false_iff_eq.2 h21) (bne_eq_false_iff_eq.2 h21) (bne_eq_false_iff_eq.2 h21) (bne_eq_false_iff_eq.2 h21) (qg 19 rfl (ix k e14 rfl rfl rfl rfl rfl (by omega)) rfl rfl (bne_eq_false_iff_eq.2 h21) (by kernel_rfl) (rp ik 7 [21,1,22,1,0,2,23,1,24,0,25,26,1,27,1] rfl ⟨(bne_eq_false_iff_eq.2 h22),(bne_eq_false_iff_eq.2 h22),(bne_eq_false_iff_eq.2 h21),(bne_eq_false_iff_eq.2 h21),(bne_eq_false_iff_eq.2 h21),(bne_eq_false_iff_eq.2 h21),⟨⟩⟩ (qg 27 rfl (ix k e5 rfl rfl rfl rfl rfl (by omega)) rfl rfl (bne_eq_false_iff_eq.2 h22) (by kernel_rfl) (r4_ ik 4 [29,1,30,1,1,3,31,1,32,1] rfl (bne_eq_false_iff_eq.2 h22) (bne_eq_false_iff_eq.2 h22) (bne_eq_false_iff_eq.2 h22) (bne_eq_false_iff_eq.2 h22) (qg 32 rfl (ix k e14 rfl rfl rfl rfl rfl (by omega)) rfl rfl (bne_eq_false_iff_eq.2 h22) (by kernel_rfl) (rp ik 32 [34,1,35,1,0,3,36,1,37,0,38,39,0,40,0,41,0,42,0,43,0,44,0,45,0,46,0,47,0,48,0,49,0,50,0,51,1,0,1] rfl ⟨rfl,⟨[0,0,0,0],rfl⟩,(bne_iff_ne.2 h23),(bne_iff_ne.2 h23),(bne_iff_ne.2 h23),(bne_iff_ne.2 h23),(bne_iff_ne.2 h23),(bne_iff_ne.2 h23),(bne_iff_ne.2 h23),(bne_iff_ne.2 h23),(bne_iff_ne.2 h23),(bne_iff_ne.2 h23),(bne_iff_ne.2 h23),(bne_iff_ne.2 h23),(bne_iff_ne.2 h23),(bne_eq_false_iff_eq.2 h22),(bne_eq_false_iff_eq.2 h22),(bne_eq_false_iff_eq.2 h22),(bne_eq_false_iff_eq.2 h22),⟨⟩⟩ (ret1 rfl rfl (fun w_ hs_=>⟨?_,hs_.below⟩))))))))))))))
            exact rb (eqS_f m9 m18 (by rintro rfl; simp_all)).symm
        · refine rn ik 3 [1,2] rfl (qv 2 rfl (ix k e5 rfl rfl rfl rfl rfl (by omega)) rfl (by kernel_rfl) (rn ik 4 [4,5,1,1,6,7] rfl (qv 7 rfl (ix k e14 rfl rfl rfl rfl rfl (by omega)) rfl (by kernel_rfl) (r2_ ik 6 [9,10,0,1,11,12,13,1,14,1] rfl (bne_eq_false_iff_eq.2 h21) (bne_eq_false_iff_eq.2 h21) (qg 14 rfl (ix k e5 rfl rfl rfl rfl rfl (by omega)) rfl rfl (bne_eq_false_iff_eq.2 h21) (by kernel_rfl) (r4_ ik 4 [16,1,17,1,1,2,18,1,19,1] rfl (bne_eq_false_iff_eq.2 h21) (bne_eq_false_iff_eq.2 h21) (bne_eq_false_iff_eq.2 h21) (bne_eq_false_iff_eq.2 h21) (qg 19 rfl (ix k e14 rfl rfl rfl rfl rfl (by omega)) rfl rfl (bne_eq_false_iff_eq.2 h21) (by kernel_rfl) (rp ik 45 [21,1,22,1,0,2,23,1,24,0,25,26,0,27,0,28,0,29,0,30,0,31,0,32,0,33,0,34,0,35,0,36,0,37,1,38,39,0,40,0,41,0,42,0,43,0,44,0,45,0,46,0,47,0,48,0,49,0,50,0,51,1,0,1] rfl ⟨rfl,⟨[0,0,0,0],rfl⟩,rfl,rfl,rfl,rfl,rfl,rfl,rfl,rfl,rfl,rfl,rfl,rfl,rfl,(bne_iff_ne.2 h22),(bne_iff_ne.2 h22),(bne_iff_ne.2 h22),(bne_iff_ne.2 h22),(bne_iff_ne.2 h22),(bne_iff_ne.2 h22),(bne_iff_ne.2 h22),(bne_iff_ne.2 h22),(bne_iff_ne.2 h22),(bne_iff_ne.2 h22),(bne_iff_ne.2 h22),(bne_iff_ne.2 h22),(bne_eq_false_iff_eq.2 h21),(bne_eq_false_iff_eq.2 h21),(bne_eq_false_iff_eq.2 h21),(bne_eq_false_iff_eq.2 h21),⟨⟩⟩ (ret1 rfl rfl (fun w_ hs_=>⟨?_,hs_.below⟩))))))))))
          exact rb (eqS_f m9 m18 (by rintro rfl; simp_all)).symm
      · refine rn ik 3 [1,2] rfl (qv 2 rfl (ix k e5 rfl rfl rfl rfl rfl (by omega)) rfl (by kernel_rfl) (rn ik 4 [4,5,1,1,6,7] rfl (qv 7 rfl (ix k e14 rfl rfl rfl rfl rfl (by omega)) rfl (by kernel_rfl) (rp ik 57 [9,10,0,1,11,12,13,0,14,0,15,0,16,0,17,0,18,0,19,0,20,0,21,0,22,0,23,0,24,1,25,26,0,27,0,28,0,29,0,30,0,31,0,32,0,33,0,34,0,35,0,36,0,37,1,38,39,0,40,0,41,0,42,0,43,0,44,0,45,0,46,0,47,0,48,0,49,0,50,0,51,1,0,1] rfl ⟨rfl,⟨[0,0,0,0],rfl⟩,rfl,rfl,rfl,rfl,rfl,rfl,rfl,rfl,rfl,rfl,rfl,rfl,rfl,rfl,rfl,rfl,rfl,rfl,rfl,rfl,rfl,rfl,rfl,rfl,rfl,(bne_iff_ne.2 h21),(bne_iff_ne.2 h21),(bne_iff_ne.2 h21),(bne_iff_ne.2 h21),(bne_iff_ne.2 h21),(bne_iff_ne.2 h21),(bne_iff_ne.2 h21),(bne_iff_ne.2 h21),(bne_iff_ne.2 h21),(bne_iff_ne.2 h21),(bne_iff_ne.2 h21),(bne_iff_ne.2 h21),⟨⟩⟩ (ret1 rfl rfl (fun w_ hs_=>⟨?_,hs_.below⟩))))))
        exact rb (eqS_f m9 m18 (by rintro rfl; simp_all)).symm
    · refine r1_ ik 12 [0] rfl (decide_eq_false h2) (ret1 rfl rfl (fun w_ hs_=>⟨?_,hs_.below⟩))
      exact rb (eqS_t (by omega) hinv (by omega)).symm
  · refine r1_ ik 8 [1] rfl (bne_iff_ne.2 h1) (ret1 rfl rfl (fun w_ hs_=>⟨?_,hs_.below⟩))
    exact rb (by rw [eq_comm,decide_eq_false_iff_not]; rintro rfl; exact h1 rfl)
theorem impl_emptyNode (w : World)   : Calls Tryz.prog 160 #[] w (Made kNodeO w emptyNode []):=by
  refine fnc (X:=X2 2 w) (l:=[]) Tryz.func160 rfl rfl rfl trivial (s0n w).1 ?_
  refine sq (rg (al zero52 rfl rfl rfl ?_))
  intro b1
  exact rn ik 4 [] rfl (vl (bd bld52 rfl rfl rfl) rfl (sto rfl rfl rfl rfl rfl rfl rfl (cs':=[.int .i64 0,.int .i64 0,.int .i64 (-1),.slice none 0 0]) rfl (en (nx (rt (gs (Kd.row 102 kEntryO) [.slice none 0 0] emptyNode.entries (fun _=>.inl ⟨rfl,rfl,rfl,rfl⟩) (gs Kd.i64 [.int .i64 (-1)] emptyNode.right (fun _=>⟨rfl,rfl,rfl⟩) (gj (da:=(Kd.via Kd.i64 Node.right)) (db:=(Kd.via (Kd.row 102 kEntryO) Node.entries)) (x:=emptyNode) rfl (gs Kd.i64 [.int .i64 0] emptyNode.nsn (fun _=>⟨rfl,rfl,rfl⟩) (gj (da:=(Kd.via Kd.i64 Node.nsn)) (db:=((Kd.via Kd.i64 Node.right).cat (Kd.via (Kd.row 102 kEntryO) Node.entries))) (x:=emptyNode) rfl (gs Kd.i64 [.int .i64 0] emptyNode.level (fun _=>⟨rfl,rfl,rfl⟩) (gj (da:=(Kd.via Kd.i64 Node.level)) (db:=((Kd.via Kd.i64 Node.nsn).cat ((Kd.via Kd.i64 Node.right).cat (Kd.via (Kd.row 102 kEntryO) Node.entries)))) (x:=emptyNode) rfl (retc 1 rfl rfl rfl rfl rfl rfl (fun w_ hs_=>made hs_ rfl (see_app see_nil (see_app see_nil (see_app see_nil see_nil)))))))))))))))))
theorem spec_l4Empty (w : World)   : Calls Tryz.prog 172 #[] w (Made kNodeO w emptyNode []):=by
  refine fnc (X:=X2 2 w) (l:=[]) Tryz.func172 rfl rfl rfl trivial (s0n w).1 ?_
  refine sq (rg (al zero52 rfl rfl rfl ?_))
  intro b1
  exact rn ik 4 [] rfl (vl (bd bld52 rfl rfl rfl) rfl (sto rfl rfl rfl rfl rfl rfl rfl (cs':=[.int .i64 0,.int .i64 0,.int .i64 (-1),.slice none 0 0]) rfl (en (nx (rt (gs (Kd.row 102 kEntryO) [.slice none 0 0] emptyNode.entries (fun _=>.inl ⟨rfl,rfl,rfl,rfl⟩) (gs Kd.i64 [.int .i64 (-1)] emptyNode.right (fun _=>⟨rfl,rfl,rfl⟩) (gj (da:=(Kd.via Kd.i64 Node.right)) (db:=(Kd.via (Kd.row 102 kEntryO) Node.entries)) (x:=emptyNode) rfl (gs Kd.i64 [.int .i64 0] emptyNode.nsn (fun _=>⟨rfl,rfl,rfl⟩) (gj (da:=(Kd.via Kd.i64 Node.nsn)) (db:=((Kd.via Kd.i64 Node.right).cat (Kd.via (Kd.row 102 kEntryO) Node.entries))) (x:=emptyNode) rfl (gs Kd.i64 [.int .i64 0] emptyNode.level (fun _=>⟨rfl,rfl,rfl⟩) (gj (da:=(Kd.via Kd.i64 Node.level)) (db:=((Kd.via Kd.i64 Node.nsn).cat ((Kd.via Kd.i64 Node.right).cat (Kd.via (Kd.row 102 kEntryO) Node.entries)))) (x:=emptyNode) rfl (retc 1 rfl rfl rfl rfl rfl rfl (fun w_ hs_=>made hs_ rfl (see_app see_nil (see_app see_nil (see_app see_nil see_nil)))))))))))))))))
theorem impl_Arena_freeFault_1 (w : World) (id : Int) {a : Arena} (ha : (ptr kArenaS pa [.int .i64 a.dims,.slice Aa1 a.nodes.length ca1,.slice Aa2 a.free.length ca2,.slice Aa3 a.retired.length ca3] a sa_).P w) (hp : isPlace a id = true) : Calls Tryz.prog 159 #[.int .i64 id,.pointer (some pa)] w (fun e_ w2_=>e_ = .returned (.bool (!decide (nodeAt a id = emptyNode))) ∧ Below w.heap.size w w2_):=by
  have hq:=within_t hp
  refine fnc (X:=X2 12 w) (l:=[(0,.int .i64 id),(1,.pointer (some pa))]) Tryz.func159 rfl rfl rfl ⟨rfl,rfl,trivial⟩ (s0p ha (s0n w)).1 ?_
  refine rn ik 6 [] rfl ?_
  refine gp 0 kArenaS_p1_1 rfl (cs':=[.slice Aa1 a.nodes.length ca1]) rfl fun s1 w_ rs1 us1=>?_
  have Ls1:=Kd.sl_len rs1; have Cs1:=Kd.sl_cap rs1
  refine gx 0 id.toNat rfl (by omega) fun y7 p2 cs_ s3 w6 m8 e4 r5 us3=>?_
  obtain ⟨A9,c10,rfl⟩:=kNodeS_sh r5
  refine gp 0 Kd.Sub.rfl rfl (cs':=[.int .i64 y7.level,.int .i64 y7.nsn,.int .i64 y7.right,.slice A9 y7.entries.length c10]) rfl fun s13 w_ rs13 us13=>?_
  refine rn ik 4 [1,2,3,2,3] rfl (qv 3 rfl (ixz id.toNat (by omega) e4 rfl rfl rfl rfl rfl (by omega)) rfl (by kernel_rfl) (qv 4 rfl (ldq 1 rfl rfl rfl rfl rfl rfl rfl) rfl (by kernel_rfl) (q1 5 [0,0,0,0] rfl (by kernel_rfl) rfl (cm_ (dk:=kNodeO) (x:=emptyNode) (S:=[]) (by kernel_rfl) rfl rfl rfl sn0 (fun w_ hs_=>by exact impl_emptyNode w_) (fun cs_ o18 s19 w_ r20 t21=>?_)))))
  obtain ⟨A16,c17,rfl⟩:=kNodeO_sh r20
  refine qn (q1 6 [1,1,1,1] rfl (by kernel_rfl) rfl (cs_ (v:=.bool (decide (y7 = emptyNode))) (by kernel_rfl) rfl rfl rfl (fun w_ hs_=>by exact bor kNodeO_seal (hs_.at 0 rfl) fun _ lb0_=>impl_sameNode w_ (hs_.at 1 rfl) lb0_) (qn (r1_ ik 5 [8,9,0] rfl ⟨[1,1,1,1],rfl⟩ (ret1 rfl rfl (fun w_ hs_=>⟨?_,hs_.below⟩))))))
  exact rb (by rw [nodeAt_of m8])
theorem free_eq {a : Arena} {c : Int} (h : a.free.any (fun id=>!isPlace a id) = false) (k : c = if rises a.free = false ∨ a.free.any (fun id=>!decide (nodeAt a id = emptyNode)) = true then 1 else 0) : c = freeFault a:=by
  rw [k]; unfold freeFault rises; rw [h]; cases adj (fun a b=>decide (b ≤ a)) a.free <;> simp
theorem impl_Arena_freeFault (w : World) {a : Arena} (ha : kArenaS.Rel w [.int .i64 a.dims,.slice Aa1 a.nodes.length ca1,.slice Aa2 a.free.length ca2,.slice Aa3 a.retired.length ca3] a [] sa_)  : Calls Tryz.prog 85 #[.agg #[.int .i64 a.dims,.slice Aa1 a.nodes.length ca1,.slice Aa2 a.free.length ca2,.slice Aa3 a.retired.length ca3]] w (fun e_ w2_=>e_ = .returned (.int .i64 (freeFault a)) ∧ Below w.heap.size w w2_):=by
  have La2:=Kd.sub_len kArenaS_p2_1 ha; have Ca2:=Kd.sub_cap kArenaS_p2_1 ha rfl
  refine fnc (X:=X2 27 w) (l:=[(0,.agg #[.int .i64 a.dims,.slice Aa1 a.nodes.length ca1,.slice Aa2 a.free.length ca2,.slice Aa3 a.retired.length ca3])]) Tryz.func85 rfl rfl rfl ⟨rfl,trivial⟩ (s0d ha (s0n w)).1 ?_
  refine sq (rg (bx rfl rfl rfl rfl ?_))
  intro b1
  refine rn ik 13 [0,0] rfl ?_
  refine lp (σ:=Nat) (fun k : Nat=>[(1,.pointer (some ⟨b1,0,none⟩)),(6,.slice Aa2 a.free.length ca2),(7,.int .i64 ((a.free.length : Nat) : Int)),(8,.int .i64 ((k : Nat) : Int))])
      (fun k : Nat=>[blk b1 [.int .i64 a.dims,.slice Aa1 a.nodes.length ca1,.slice Aa2 a.free.length ca2,.slice Aa3 a.retired.length ca3] 40,dat kArenaS [.int .i64 a.dims,.slice Aa1 a.nodes.length ca1,.slice Aa2 a.free.length ca2,.slice Aa3 a.retired.length ca3] a ([]) sa_])
      (fun k : Nat=>k ≤ a.free.length ∧ ∀ j x,j < k → a.free[j]? = some x → (!isPlace a x) = false) (fun k : Nat=>a.free.length - k) 0 [0,0] ⟨Nat.zero_le _,by simp⟩ ⟨rfl,rfl,rfl,rfl,trivial⟩ rfl ?_
  intro k hp_
  obtain ⟨hk,hinv⟩:=hp_
  refine rn ik 6 [] rfl ?_
  by_cases h2 : ((k : Nat) : Int) < ((a.free.length : Nat) : Int)
  · refine r1_ ik 7 [1] rfl (decide_eq_true h2) ?_
    refine gd 1 kArenaS_p2_1 rfl (cs':=[.slice Aa2 a.free.length ca2]) rfl fun s3 w_ rs3 us3=>?_
    have Ls3:=Kd.sl_len rs3; have Cs3:=Kd.sl_cap rs3
    refine gx 0 k rfl (by omega) fun y9 p4 cs_ s5 w8 m10 e6 r7 us5=>?_
    obtain ⟨rfl,-,-⟩:=r7
    refine vl (ix k e6 rfl rfl rfl rfl rfl (by omega)) rfl (rn ik 8 [0,0,2,0] rfl (cs_ (v:=.bool (isPlace a y9)) (by kernel_rfl) rfl rfl rfl (fun w_ hs_=>impl_Arena_isPlace w_ _ (hs_.at 3 rfl)) (rn ik 3 [] rfl ?_)))
    by_cases h11 : isPlace a y9 = true
    · exact r1_ ik 5 [0] rfl (not_f h11) (vl (ra (c:=((k + 1 : Nat) : Int)) rfl rfl rfl (by omega) (by omega) (by omega)) rfl (rn ik 2 [] rfl (lpe (s:=k) (k + 1) [2,2] ⟨by omega,idx_step (p:=fun id=>!isPlace a id) hinv m10 (not_f h11)⟩ (by omega) ⟨rfl,rfl,rfl,rfl,trivial⟩ rfl)))
    · refine r1_ ik 12 [1] rfl (not_t (Bool.eq_false_iff.2 h11)) (ret1 rfl rfl (fun w_ hs_=>⟨?_,hs_.below⟩))
      exact ri (by have z:=any_some (p:=fun id=>!isPlace a id) m10 (not_t (Bool.eq_false_iff.2 h11)); grind [freeFault])
  · have hpl : ∀ x ∈ a.free,isPlace a x = true:=fun x hx=>by have z:=any_none (p:=fun id=>!isPlace a id) hinv (by omega); have y:=List.any_eq_false.1 z x hx; simpa using y
    refine r1_ ik 11 [0,0,0] rfl (decide_eq_false h2) ?_
    refine gd 1 kArenaS_p2_1 rfl (cs':=[.slice Aa2 a.free.length ca2]) rfl fun s12 w_ rs12 us12=>?_
    have Ls12:=Kd.sl_len rs12; have Cs12:=Kd.sl_cap rs12
    refine cs_ (v:=.bool (rises a.free)) (by kernel_rfl) rfl rfl rfl (fun w_ hs_=>impl_isRising w_ (hs_.at 0 rfl)) (rn ik 2 [] rfl ?_)
    by_cases h13 : rises a.free = true
    · refine r2_ ik 2 [1,1,1,0] rfl (not_f h13) (not_f h13) (vg (mf rfl rfl rfl) rfl rfl (not_f h13) (gw rfl rfl (not_f h13) (cs_ (v:=.bool (List.any a.free (fun (x0 : Int)=>!decide (nodeAt a x0 = emptyNode)))) (by kernel_rfl) rfl rfl rfl (fun w_ hs_=>slices_ContainsFunc_int64_int64 w_ (fun (x0 : Int)=>!decide (nodeAt a x0 = emptyNode)) (by kernel_rfl) (hs_.at 0 rfl) (fun w1 x0 m0_ b_ =>impl_Arena_freeFault_1 w1 x0 (ptr_blk ((hs_.step b_).at 1 rfl) ((hs_.step b_).at 2 rfl) rfl) (hpl x0 m0_))) (r1_ ik 3 [0] rfl (not_f h13) ?_))))
      by_cases h14 : List.any a.free (fun (x0 : Int)=>!decide (nodeAt a x0 = emptyNode)) = true
      · refine r1_ ik 8 [1] rfl h14 (ret1 rfl rfl (fun w_ hs_=>⟨?_,hs_.below⟩))
        exact ri (free_eq (any_none (p:=fun id=>!isPlace a id) hinv (by omega)) (by grind))
      · refine r1_ ik 9 [0] rfl (Bool.eq_false_iff.2 h14) (ret1 rfl rfl (fun w_ hs_=>⟨?_,hs_.below⟩))
        exact ri (free_eq (any_none (p:=fun id=>!isPlace a id) hinv (by omega)) (by grind))
    · refine rp ik 15 [0,0,0,0,1,1] rfl ⟨rfl,(not_t (Bool.eq_false_iff.2 h13)),(not_t (Bool.eq_false_iff.2 h13)),(not_t (Bool.eq_false_iff.2 h13)),(not_t (Bool.eq_false_iff.2 h13)),(not_t (Bool.eq_false_iff.2 h13)),⟨⟩⟩ (ret1 rfl rfl (fun w_ hs_=>⟨?_,hs_.below⟩))
      exact ri (free_eq (any_none (p:=fun id=>!isPlace a id) hinv (by omega)) (by grind))
theorem cut_one {a : Arena} {y : Int} (h : isPlace a y = true) : (a.nodes.take (y + 1).toNat).drop y.toNat = [nodeAt a y]:=by
  have h1:=within_t h
  have h2:=(nodeAt_mem h).2.2
  have h3 : (y + 1).toNat = y.toNat + 1:=by omega
  rw [h3,take_snoc h2,List.drop_append_of_le_length (by simp; omega),List.drop_of_length_le (by simp; omega)]
  rfl
def risesTo (l : List Int) (k : Nat) : Prop := ∀ j a b, j + 1 < k → l[j]? = some a → l[j + 1]? = some b → decide (b ≤ a) = false
theorem risesTo_on {l : List Int} {k : Nat} (h : risesTo l k) (hk : ∀ a b,l[k - 1]? = some a → l[k]? = some b → 0 < k → decide (b ≤ a) = false) : risesTo l (k + 1):=fun j a b hj ha hb=>by
  rcases Nat.lt_or_ge (j + 1) k with h1 | h1
  · exact h j a b h1 ha hb
  · have : k = j + 1:=by omega
    subst this
    exact hk a b (by simpa using ha) hb (by omega)
theorem risesTo_end {l : List Int} {k : Nat} (h : risesTo l k) (hk : l.length ≤ k) : rises l = true:=by
  unfold rises
  rw [adj_f (k:=l.length) (r:=fun a b=>decide (b ≤ a)) (fun j a b hj ha hb=>h j a b (by have:=(List.getElem?_eq_some_iff.1 hb).1; omega) ha hb) (by omega)]; rfl
theorem watch_one (l : List Int) : watchFault l 1 = if l.length = 0 then 2 else watchFault l 0:=by
  unfold watchFault; grind
theorem spec_l4Free (w : World) {a : Arena} (ha : (ptr kArenaS pa [.int .i64 a.dims,.slice Aa1 a.nodes.length ca1,.slice Aa2 a.free.length ca2,.slice Aa3 a.retired.length ca3] a sa_).P w)  : Calls Tryz.prog 100 #[.pointer (some pa)] w (fun e_ w2_=>e_ = .returned (.int .i64 (freeFault a)) ∧ Below w.heap.size w w2_):=by
  have La1:=Kd.sub_len kArenaS_p1_1 ha.2.2.2; have Ca1:=Kd.sub_cap kArenaS_p1_1 ha.2.2.2 rfl
  have La2:=Kd.sub_len kArenaS_p2_1 ha.2.2.2; have Ca2:=Kd.sub_cap kArenaS_p2_1 ha.2.2.2 rfl
  refine fnc (X:=X2 79 w) (l:=[(0,.pointer (some pa))]) Tryz.func100 rfl rfl rfl ⟨rfl,trivial⟩ (s0p ha (s0n w)).1 ?_
  refine rn ik 12 [] rfl ?_
  refine lp (σ:=Nat) (fun k : Nat=>[(0,.pointer (some pa)),(3,.int .i64 ((k : Nat) : Int))])
      (fun k : Nat=>[ptr kArenaS pa [.int .i64 a.dims,.slice Aa1 a.nodes.length ca1,.slice Aa2 a.free.length ca2,.slice Aa3 a.retired.length ca3] a sa_])
      (fun k : Nat=>k ≤ a.free.length ∧ ∀ j x,j < k → a.free[j]? = some x → (!isPlace a x) = false) (fun k : Nat=>a.free.length - k) 0 [0] ⟨Nat.zero_le _,by simp⟩ ⟨rfl,rfl,trivial⟩ rfl ?_
  intro k hp_
  obtain ⟨hk,hinv⟩:=hp_
  refine rn ik 12 [0,3] rfl ?_
  by_cases h1 : ((k : Nat) : Int) < ((a.free.length : Nat) : Int)
  · refine r1_ ik 13 [1,0,3] rfl (decide_eq_true h1) ?_
    refine gp 0 kArenaS_p2_1 rfl (cs':=[.slice Aa2 a.free.length ca2]) rfl fun s2 w_ rs2 us2=>?_
    have Ls2:=Kd.sl_len rs2; have Cs2:=Kd.sl_cap rs2
    refine gx 0 k rfl (by omega) fun y8 p3 cs_ s4 w7 m9 e5 r6 us4=>?_
    obtain ⟨rfl,-,-⟩:=r6
    refine vl (ix k e5 rfl rfl rfl rfl rfl (by omega)) rfl (vl (ldq (u:=.int .i64 y8) 0 rfl rfl rfl rfl rfl rfl rfl) rfl (cs_ (v:=.bool (isPlace a y8)) (by kernel_rfl) rfl rfl rfl (fun w_ hs_=>spec_l4Place w_ _ (hs_.at 2 rfl)) (rn ik 3 [] rfl ?_)))
    by_cases h10 : isPlace a y8 = true
    · exact r1_ ik 6 [0] rfl (not_f h10) (vl (ra (c:=((k + 1 : Nat) : Int)) rfl rfl rfl (by omega) (by omega) (by omega)) rfl (rn ik 2 [] rfl (lpe (s:=k) (k + 1) [2] ⟨by omega,idx_step (p:=fun id=>!isPlace a id) hinv m9 (not_f h10)⟩ (by omega) ⟨rfl,rfl,trivial⟩ rfl)))
    · refine r1_ ik 12 [1] rfl (not_t (Bool.eq_false_iff.2 h10)) (ret1 rfl rfl (fun w_ hs_=>⟨?_,hs_.below⟩))
      exact ri (by have z:=any_some (p:=fun id=>!isPlace a id) m9 (not_t (Bool.eq_false_iff.2 h10)); grind [freeFault])
  · have hpl : ∀ x ∈ a.free,isPlace a x = true:=fun x hx=>by have z:=any_none (p:=fun id=>!isPlace a id) hinv (by omega); have y:=List.any_eq_false.1 z x hx; simpa using y
    refine r1_ ik 13 [0] rfl (decide_eq_false h1) ?_
    refine lp (σ:=Nat) (fun k2 : Nat=>[(0,.pointer (some pa)),(4,.int .i64 ((k2 : Nat) : Int))])
        (fun k2 : Nat=>[ptr kArenaS pa [.int .i64 a.dims,.slice Aa1 a.nodes.length ca1,.slice Aa2 a.free.length ca2,.slice Aa3 a.retired.length ca3] a sa_])
        (fun k2 : Nat=>k2 ≤ a.free.length ∧ risesTo a.free k2 ∧ ∀ j x,j < k2 → a.free[j]? = some x → (!decide (nodeAt a x = emptyNode)) = false) (fun k2 : Nat=>a.free.length - k2) 0 [0] ⟨Nat.zero_le _,(fun j a b hj=>by omega),by simp⟩ ⟨rfl,rfl,trivial⟩ rfl ?_
    intro k2 hp_
    obtain ⟨hk2,hinv2⟩:=hp_
    refine rn ik 12 [0,3] rfl ?_
    by_cases h11 : ((k2 : Nat) : Int) < ((a.free.length : Nat) : Int)
    · refine r1_ ik 6 [1] rfl (decide_eq_true h11) ?_
      by_cases h12 : (0 : Int) < ((k2 : Nat) : Int)
      · refine gp 0 kArenaS_p2_1 rfl (cs':=[.slice Aa2 a.free.length ca2]) rfl fun s13 w_ rs13 us13=>?_
        have Ls13:=Kd.sl_len rs13; have Cs13:=Kd.sl_cap rs13
        refine gx 0 k2 rfl (by omega) fun y19 p14 cs_ s15 w18 m20 e16 r17 us15=>?_
        obtain ⟨rfl,-,-⟩:=r17
        have hpy19:=hpl _ (List.mem_of_getElem? m20); have hqy19:=within_t hpy19
        refine gx 1 (k2 - 1) rfl (by omega) fun y26 p21 cs_ s22 w25 m27 e23 r24 us22=>?_
        obtain ⟨rfl,-,-⟩:=r24
        by_cases h28 : y19 ≤ y26
        · refine rp ik 9 [1,2,3,4,1,5,1,6,1,7,1,3,3,8,1] rfl ⟨(decide_eq_true h12),(decide_eq_true h12),(decide_eq_true h12),(decide_eq_true h12),(decide_eq_true h12),⟨⟩⟩ (qg 8 rfl (ix k2 e16 rfl rfl rfl rfl rfl (by omega)) rfl rfl (decide_eq_true h12) (by kernel_rfl) (rp ik 6 [10,1,1,0,11,1,12,1,13,1,14,1,3,3,15,1] rfl ⟨(decide_eq_true h12),(decide_eq_true h12),(decide_eq_true h12),(decide_eq_true h12),(decide_eq_true h12),(decide_eq_true h12),⟨⟩⟩ (qg 15 rfl (rs (c:=((k2 - 1 : Nat) : Int)) rfl rfl rfl (by omega) (by omega) (by omega)) rfl rfl (decide_eq_true h12) (by kernel_rfl) (qg 16 rfl (ix (k2 - 1) e23 rfl rfl rfl rfl rfl (by omega)) rfl rfl (decide_eq_true h12) (by kernel_rfl) (rp ik 43 [18,1,0,0,19,1,20,1,21,22,0,23,0,24,0,25,0,26,0,27,0,28,0,29,0,30,0,31,0,32,0,33,0,34,0,35,0,36,0,37,0,38,0,39,0,40,0,41,0,42,0,43,0,44,0,45,0,46,1,0,1] rfl ⟨rfl,⟨[0,0,0,0],rfl⟩,(decide_eq_true h28),(decide_eq_true h28),(decide_eq_true h28),(decide_eq_true h28),(decide_eq_true h28),(decide_eq_true h28),(decide_eq_true h28),(decide_eq_true h28),(decide_eq_true h28),(decide_eq_true h28),(decide_eq_true h28),(decide_eq_true h28),(decide_eq_true h28),(decide_eq_true h28),(decide_eq_true h28),(decide_eq_true h28),(decide_eq_true h28),(decide_eq_true h28),(decide_eq_true h28),(decide_eq_true h28),(decide_eq_true h28),(decide_eq_true h28),(decide_eq_true h28),(decide_eq_true h28),(decide_eq_true h28),(decide_eq_true h12),(decide_eq_true h12),(decide_eq_true h12),⟨⟩⟩ (ret1 rfl rfl (fun w_ hs_=>⟨?_,hs_.below⟩)))))))
          exact ri (free_eq (any_none (p:=fun id=>!isPlace a id) hinv (by omega)) (by have q : rises a.free = false:=(by unfold rises; rw [adj_t (k:=k2 - 1) m27 (by rw [show k2 - 1 + 1 = k2 by omega]; exact m20) (decide_eq_true h28)]; rfl); grind))
        · refine gp 3 kArenaS_p1_1 rfl (cs':=[.slice Aa1 a.nodes.length ca1]) rfl fun s31 w_ rs31 us31=>?_
          have Ls31:=Kd.sl_len rs31; have Cs31:=Kd.sl_cap rs31
          refine gct 0 ((y19 + 1).toNat) rfl (by omega) fun s32 w_ rs32 us32=>?_
          refine gdr 0 y19.toNat rfl (by simp; omega) fun s33 w_ rs33 us33=>?_
          refine rp ik 9 [1,2,3,4,1,5,1,6,1,7,1,6,3,8,1] rfl ⟨(decide_eq_true h12),(decide_eq_true h12),(decide_eq_true h12),(decide_eq_true h12),(decide_eq_true h12),⟨⟩⟩ (qg 8 rfl (ix k2 e16 rfl rfl rfl rfl rfl (by omega)) rfl rfl (decide_eq_true h12) (by kernel_rfl) (rp ik 6 [10,1,4,0,11,1,12,1,13,1,14,1,6,3,15,1] rfl ⟨(decide_eq_true h12),(decide_eq_true h12),(decide_eq_true h12),(decide_eq_true h12),(decide_eq_true h12),(decide_eq_true h12),⟨⟩⟩ (qg 15 rfl (rs (c:=((k2 - 1 : Nat) : Int)) rfl rfl rfl (by omega) (by omega) (by omega)) rfl rfl (decide_eq_true h12) (by kernel_rfl) (qg 16 rfl (ix (k2 - 1) e23 rfl rfl rfl rfl rfl (by omega)) rfl rfl (decide_eq_true h12) (by kernel_rfl) (rp ik 13 [18,1,3,0,19,1,20,1,21,22,1,23,1,24,1,25,1,6,2,26,1,27,1,28,1,29,1,6,3,30,1] rfl ⟨(decide_eq_false h28),(decide_eq_false h28),(decide_eq_false h28),(decide_eq_false h28),(decide_eq_false h28),(decide_eq_false h28),(decide_eq_false h28),(decide_eq_false h28),(decide_eq_false h28),(decide_eq_true h12),(decide_eq_true h12),(decide_eq_true h12),⟨⟩⟩ (qg 30 rfl (ix k2 e16 rfl rfl rfl rfl rfl (by omega)) rfl rfl (decide_eq_false h28) (by kernel_rfl) (rp ik 6 [32,1,4,0,33,1,34,1,35,1,36,1,6,3,37,1] rfl ⟨(decide_eq_false h28),(decide_eq_false h28),(decide_eq_false h28),(decide_eq_false h28),(decide_eq_false h28),(decide_eq_false h28),⟨⟩⟩ (qg 37 rfl (ix k2 e16 rfl rfl rfl rfl rfl (by omega)) rfl rfl (decide_eq_false h28) (by kernel_rfl) (qg 38 rfl (ldq (u:=.int .i64 y19) 4 rfl rfl rfl rfl rfl rfl rfl) rfl rfl (decide_eq_false h28) (by kernel_rfl) (qg 39 rfl (ra (c:=y19 + 1) rfl rfl rfl rfl (by omega) (by omega)) rfl rfl (decide_eq_false h28) (by kernel_rfl) (qg 40 rfl (evr (v':=.slice (if ca1 = y19.toNat then Aa1 else (Aa1 : Option Addr).map (·.add (y19.toNat * 4))) (((a.nodes.take ((y19 + 1).toNat)).drop y19.toNat).length) (ca1 - y19.toNat)) (slh (i:=y19.toNat) (j:=((y19 + 1).toNat)) (by omega) (by omega) rfl rfl rfl rfl rfl rfl (by omega) (by omega)) (sl_eq (by simp; omega))) rfl rfl (decide_eq_false h28) (by kernel_rfl) (q1 41 [0,0,0,0,0,0,0] rfl (by kernel_rfl) rfl (gw rfl rfl (decide_eq_false h28) (cm_ (dk:=kNodeO) (x:=emptyNode) (S:=[]) (by kernel_rfl) rfl rfl rfl sn0 (fun w_ hs_=>by exact spec_l4Empty w_) (fun cs_ o38 s39 w_ r40 t41=>?_)))))))))))))))
          obtain ⟨A36,c37,rfl⟩:=kNodeO_sh r40
          refine qn (q1 42 [1,1,1,1,1,1,1] rfl (by kernel_rfl) rfl (gw rfl rfl (decide_eq_false h28) (bs1 (dk:=kNodeO) rfl info52 (by decide) rfl rfl rfl rfl ?_)))
          intro b43
          refine qn (q1 43 [1,1,1,1,1,1,1] rfl (by kernel_rfl) rfl (gw rfl rfl (decide_eq_false h28) (cs_ (v:=.bool (decide (((a.nodes.take ((y19 + 1).toNat)).drop y19.toNat) = ([emptyNode])))) (by kernel_rfl) rfl rfl rfl (fun w_ hs_=>by exact bor (Kd.Seals.row kNodeO_seal _) (hs_.at 0 rfl) fun _ lb0_=>spec_SameNodes w_ (hs_.at 1 rfl) lb0_) (qn (r3_ ik 4 [45,1,46,0,0] rfl (decide_eq_false h28) (decide_eq_false h28) ⟨[1,1,1,1,1,1,1],rfl⟩ ?_)))))
          by_cases h44 : decide (((a.nodes.take ((y19 + 1).toNat)).drop y19.toNat) = ([emptyNode])) = true
          · exact r1_ ik 6 [0] rfl (not_f h44) (vl (ra (c:=((k2 + 1 : Nat) : Int)) rfl rfl rfl (by omega) (by omega) (by omega)) rfl (rn ik 2 [] rfl (lpe (s:=k2) (k2 + 1) [7] ⟨by omega,⟨risesTo_on hinv2.1 (fun a_ b_ ha hb h0=>by rw [m27] at ha; rw [m20] at hb; cases ha; cases hb; exact decide_eq_false h28),idx_step (p:=fun id=>!decide (nodeAt a id = emptyNode)) hinv2.2 m20 (by have z:=h44; rw [cut_one hpy19] at z; simp at z; simp [z])⟩⟩ (by omega) ⟨rfl,rfl,trivial⟩ rfl)))
          · refine r1_ ik 12 [1] rfl (not_t (Bool.eq_false_iff.2 h44)) (ret1 rfl rfl (fun w_ hs_=>⟨?_,hs_.below⟩))
            exact ri (free_eq (any_none (p:=fun id=>!isPlace a id) hinv (by omega)) (by have q:=any_some (p:=fun id=>!decide (nodeAt a id = emptyNode)) m20 (by have z:=h44; rw [cut_one hpy19] at z; simp at z; simp [z]); grind))
      · refine gp 0 kArenaS_p2_1 rfl (cs':=[.slice Aa2 a.free.length ca2]) rfl fun s45 w_ rs45 us45=>?_
        have Ls45:=Kd.sl_len rs45; have Cs45:=Kd.sl_cap rs45
        refine gx 0 k2 rfl (by omega) fun y51 p46 cs_ s47 w50 m52 e48 r49 us47=>?_
        obtain ⟨rfl,-,-⟩:=r49
        have hpy51:=hpl _ (List.mem_of_getElem? m52); have hqy51:=within_t hpy51
        refine gp 2 kArenaS_p1_1 rfl (cs':=[.slice Aa1 a.nodes.length ca1]) rfl fun s55 w_ rs55 us55=>?_
        have Ls55:=Kd.sl_len rs55; have Cs55:=Kd.sl_cap rs55
        refine gct 0 ((y51 + 1).toNat) rfl (by omega) fun s56 w_ rs56 us56=>?_
        refine gdr 0 y51.toNat rfl (by simp; omega) fun s57 w_ rs57 us57=>?_
        refine rp ik 31 [1,2,3,4,0,5,0,6,0,7,0,8,0,9,0,10,0,11,0,12,0,13,0,14,0,15,0,16,0,17,0,18,0,19,0,20,0,21,22,1,23,1,24,1,25,1,5,2,26,1,27,1,28,1,29,1,5,3,30,1] rfl ⟨rfl,rfl,rfl,rfl,rfl,rfl,rfl,rfl,rfl,(decide_eq_false h12),(decide_eq_false h12),(decide_eq_false h12),(decide_eq_false h12),(decide_eq_false h12),(decide_eq_false h12),(decide_eq_false h12),(decide_eq_false h12),(decide_eq_false h12),(decide_eq_false h12),(decide_eq_false h12),(decide_eq_false h12),(decide_eq_false h12),(decide_eq_false h12),(decide_eq_false h12),(decide_eq_false h12),(decide_eq_false h12),⟨⟩⟩ (qg 30 rfl (ix k2 e48 rfl rfl rfl rfl rfl (by omega)) rfl rfl rfl (by kernel_rfl) (rp ik 6 [32,1,3,0,33,1,34,1,35,1,36,1,5,3,37,1] rfl ⟨rfl,rfl,rfl,rfl,rfl,rfl,⟨⟩⟩ (qg 37 rfl (ix k2 e48 rfl rfl rfl rfl rfl (by omega)) rfl rfl rfl (by kernel_rfl) (qg 38 rfl (ldq (u:=.int .i64 y51) 3 rfl rfl rfl rfl rfl rfl rfl) rfl rfl rfl (by kernel_rfl) (qg 39 rfl (ra (c:=y51 + 1) rfl rfl rfl rfl (by omega) (by omega)) rfl rfl rfl (by kernel_rfl) (qg 40 rfl (evr (v':=.slice (if ca1 = y51.toNat then Aa1 else (Aa1 : Option Addr).map (·.add (y51.toNat * 4))) (((a.nodes.take ((y51 + 1).toNat)).drop y51.toNat).length) (ca1 - y51.toNat)) (slh (i:=y51.toNat) (j:=((y51 + 1).toNat)) (by omega) (by omega) rfl rfl rfl rfl rfl rfl (by omega) (by omega)) (sl_eq (by simp; omega))) rfl rfl rfl (by kernel_rfl) (q1 41 [0,0,0,0,0,0] rfl (by kernel_rfl) rfl (gw rfl rfl rfl (cm_ (dk:=kNodeO) (x:=emptyNode) (S:=[]) (by kernel_rfl) rfl rfl rfl sn0 (fun w_ hs_=>by exact spec_l4Empty w_) (fun cs_ o62 s63 w_ r64 t65=>?_))))))))))
        obtain ⟨A60,c61,rfl⟩:=kNodeO_sh r64
        refine qn (q1 42 [1,1,1,1,1,1] rfl (by kernel_rfl) rfl (gw rfl rfl rfl (bs1 (dk:=kNodeO) rfl info52 (by decide) rfl rfl rfl rfl ?_)))
        intro b67
        refine qn (q1 43 [1,1,1,1,1,1] rfl (by kernel_rfl) rfl (gw rfl rfl rfl (cs_ (v:=.bool (decide (((a.nodes.take ((y51 + 1).toNat)).drop y51.toNat) = ([emptyNode])))) (by kernel_rfl) rfl rfl rfl (fun w_ hs_=>by exact bor (Kd.Seals.row kNodeO_seal _) (hs_.at 0 rfl) fun _ lb0_=>spec_SameNodes w_ (hs_.at 1 rfl) lb0_) (qn (r3_ ik 4 [45,1,46,0,0] rfl rfl rfl ⟨[1,1,1,1,1,1],rfl⟩ ?_)))))
        by_cases h68 : decide (((a.nodes.take ((y51 + 1).toNat)).drop y51.toNat) = ([emptyNode])) = true
        · exact r1_ ik 6 [0] rfl (not_f h68) (vl (ra (c:=((k2 + 1 : Nat) : Int)) rfl rfl rfl (by omega) (by omega) (by omega)) rfl (rn ik 2 [] rfl (lpe (s:=k2) (k2 + 1) [6] ⟨by omega,⟨risesTo_on hinv2.1 (fun a_ b_ ha hb h0=>by omega),idx_step (p:=fun id=>!decide (nodeAt a id = emptyNode)) hinv2.2 m52 (by have z:=h68; rw [cut_one hpy51] at z; simp at z; simp [z])⟩⟩ (by omega) ⟨rfl,rfl,trivial⟩ rfl)))
        · refine r1_ ik 12 [1] rfl (not_t (Bool.eq_false_iff.2 h68)) (ret1 rfl rfl (fun w_ hs_=>⟨?_,hs_.below⟩))
          exact ri (free_eq (any_none (p:=fun id=>!isPlace a id) hinv (by omega)) (by have q:=any_some (p:=fun id=>!decide (nodeAt a id = emptyNode)) m52 (by have z:=h68; rw [cut_one hpy51] at z; simp at z; simp [z]); grind))
    · refine r1_ ik 12 [0] rfl (decide_eq_false h11) (ret1 rfl rfl (fun w_ hs_=>⟨?_,hs_.below⟩))
      exact ri (free_eq (any_none (p:=fun id=>!isPlace a id) hinv (by omega)) (by have y:=risesTo_end hinv2.1 (by omega); have q:=any_none (p:=fun id=>!decide (nodeAt a id = emptyNode)) hinv2.2 (by omega); grind))
theorem impl_ArenaFault (w : World) {a : Arena} (ha : kArenaS.Rel w [.int .i64 a.dims,.slice Aa1 a.nodes.length ca1,.slice Aa2 a.free.length ca2,.slice Aa3 a.retired.length ca3] a [] sa_)  : Calls Tryz.prog 23 #[.agg #[.int .i64 a.dims,.slice Aa1 a.nodes.length ca1,.slice Aa2 a.free.length ca2,.slice Aa3 a.retired.length ca3]] w (fun e_ w2_=>e_ = .returned (.int .i64 (arenaFault a)) ∧ Below w.heap.size w w2_):=by
  have La1:=Kd.sub_len kArenaS_p1_1 ha; have Ca1:=Kd.sub_cap kArenaS_p1_1 ha rfl
  have La2:=Kd.sub_len kArenaS_p2_1 ha; have Ca2:=Kd.sub_cap kArenaS_p2_1 ha rfl
  have La3:=Kd.sub_len kArenaS_p3_1 ha; have Ca3:=Kd.sub_cap kArenaS_p3_1 ha rfl
  refine fnc (X:=X2 85 w) (l:=[(0,.agg #[.int .i64 a.dims,.slice Aa1 a.nodes.length ca1,.slice Aa2 a.free.length ca2,.slice Aa3 a.retired.length ca3])]) Tryz.func23 rfl rfl rfl ⟨rfl,trivial⟩ (s0d ha (s0n w)).1 ?_
  refine sq (rg (bx rfl rfl rfl rfl ?_))
  intro b1
  refine rn ik 9 [0,0] rfl (cs_ (v:=.bool (isDims a.dims)) (by kernel_rfl) rfl rfl rfl (fun w_ hs_=>impl_isDims w_ _) (rn ik 4 [] rfl ?_))
  by_cases h2 : isDims a.dims = true
  · refine r1_ ik 6 [0,0,0] rfl (not_f h2) (cs_ (v:=.bool (within ((a.nodes.length : Nat) : Int) 4 40)) (by kernel_rfl) rfl rfl rfl (fun w_ hs_=>impl_within w_ _ _ _) (rn ik 4 [] rfl ?_))
    by_cases h3 : within ((a.nodes.length : Nat) : Int) 4 40 = true
    · refine r1_ ik 14 [0,0,0] rfl (not_f h3) ?_
      refine lp (σ:=Nat) (fun k : Nat=>[(1,.pointer (some ⟨b1,0,none⟩)),(24,.slice Aa1 a.nodes.length ca1),(25,.int .i64 ((a.nodes.length : Nat) : Int)),(26,.int .i64 ((k : Nat) : Int))])
          (fun k : Nat=>[blk b1 [.int .i64 a.dims,.slice Aa1 a.nodes.length ca1,.slice Aa2 a.free.length ca2,.slice Aa3 a.retired.length ca3] 40,dat kArenaS [.int .i64 a.dims,.slice Aa1 a.nodes.length ca1,.slice Aa2 a.free.length ca2,.slice Aa3 a.retired.length ca3] a ([]) sa_])
          (fun k : Nat=>k ≤ a.nodes.length ∧ ∀ j x,j < k → a.nodes[j]? = some x → nodeFault x a.dims = 0) (fun k : Nat=>a.nodes.length - k) 0 [0,0] ⟨Nat.zero_le _,by simp⟩ ⟨rfl,rfl,rfl,rfl,trivial⟩ rfl ?_
      intro k hp_
      obtain ⟨hk,hinv⟩:=hp_
      refine rn ik 6 [] rfl ?_
      by_cases h4 : ((k : Nat) : Int) < ((a.nodes.length : Nat) : Int)
      · refine r1_ ik 7 [1] rfl (decide_eq_true h4) ?_
        refine gd 1 kArenaS_p1_1 rfl (cs':=[.slice Aa1 a.nodes.length ca1]) rfl fun s5 w_ rs5 us5=>?_
        have Ls5:=Kd.sl_len rs5; have Cs5:=Kd.sl_cap rs5
        refine gx 0 k rfl (by omega) fun y11 p6 cs_ s7 w10 m12 e8 r9 us7=>?_
        obtain ⟨A13,c14,rfl⟩:=kNodeS_sh r9
        refine vl (ix k e8 rfl rfl rfl rfl rfl (by omega)) rfl (vl (ldq 0 rfl rfl rfl rfl rfl rfl rfl) rfl (al zero52 rfl rfl rfl ?_))
        intro b15
        refine sto rfl rfl rfl rfl rfl rfl rfl (cs':=[.int .i64 y11.level,.int .i64 y11.nsn,.int .i64 y11.right,.slice A13 y11.entries.length c14]) rfl (rn ik 7 [0,0,3,0] rfl ?_)
        refine gp 1 Kd.Sub.rfl rfl (cs':=[.int .i64 y11.level,.int .i64 y11.nsn,.int .i64 y11.right,.slice A13 y11.entries.length c14]) rfl fun s16 w_ rs16 us16=>?_
        refine cs_ (v:=.int .i64 (nodeFault y11 a.dims)) (by kernel_rfl) rfl rfl rfl (fun w_ hs_=>impl_NodeFault w_ _ (hs_.at 0 rfl)) (rn ik 9 [] rfl ?_)
        by_cases h17 : (nodeFault y11 a.dims) = (0 : Int)
        · exact r1_ ik 5 [0] rfl (bne_eq_false_iff_eq.2 h17) (vl (ra (c:=((k + 1 : Nat) : Int)) rfl rfl rfl (by omega) (by omega) (by omega)) rfl (rn ik 2 [] rfl (lpe (s:=k) (k + 1) [4,4] ⟨by omega,zero_step (f:=fun n=>nodeFault n a.dims) hinv m12 h17⟩ (by omega) ⟨rfl,rfl,rfl,rfl,trivial⟩ rfl)))
        · refine r1_ ik 13 [1] rfl (bne_iff_ne.2 h17) (ret1 rfl rfl (fun w_ hs_=>⟨?_,hs_.below⟩))
          exact ri (by have z:=firstFault_at (f:=fun n=>nodeFault n a.dims) hinv m12 h17; grind [arenaFault,isDims,within])
      · refine r1_ ik 10 [0,0,0] rfl (decide_eq_false h4) (cs_ (v:=.int .i64 (freeFault a)) (by kernel_rfl) rfl rfl rfl (fun w_ hs_=>impl_Arena_freeFault w_ (hs_.at 1 rfl)) (rn ik 9 [] rfl ?_))
        by_cases h18 : (freeFault a) = (0 : Int)
        · refine r1_ ik 13 [0,0,0] rfl (bne_eq_false_iff_eq.2 h18) ?_
          refine lp (σ:=Nat) (fun k2 : Nat=>[(1,.pointer (some ⟨b1,0,none⟩)),(44,.slice Aa3 a.retired.length ca3),(45,.int .i64 ((a.retired.length : Nat) : Int)),(46,.int .i64 ((k2 : Nat) : Int))])
              (fun k2 : Nat=>[blk b1 [.int .i64 a.dims,.slice Aa1 a.nodes.length ca1,.slice Aa2 a.free.length ca2,.slice Aa3 a.retired.length ca3] 40,dat kArenaS [.int .i64 a.dims,.slice Aa1 a.nodes.length ca1,.slice Aa2 a.free.length ca2,.slice Aa3 a.retired.length ca3] a ([]) sa_])
              (fun k2 : Nat=>k2 ≤ a.retired.length ∧ ∀ j x,j < k2 → a.retired[j]? = some x → retFault a x = 0) (fun k2 : Nat=>a.retired.length - k2) 0 [0,0] ⟨Nat.zero_le _,by simp⟩ ⟨rfl,rfl,rfl,rfl,trivial⟩ rfl ?_
          intro k2 hp_
          obtain ⟨hk2,hinv2⟩:=hp_
          refine rn ik 6 [] rfl ?_
          by_cases h19 : ((k2 : Nat) : Int) < ((a.retired.length : Nat) : Int)
          · refine r1_ ik 7 [1] rfl (decide_eq_true h19) ?_
            refine gd 1 kArenaS_p3_1 rfl (cs':=[.slice Aa3 a.retired.length ca3]) rfl fun s20 w_ rs20 us20=>?_
            have Ls20:=Kd.sl_len rs20; have Cs20:=Kd.sl_cap rs20
            refine gx 0 k2 rfl (by omega) fun y26 p21 cs_ s22 w25 m27 e23 r24 us22=>?_
            obtain ⟨A28,c29,rfl⟩:=kRetiredS_sh r24
            refine vl (ix k2 e23 rfl rfl rfl rfl rfl (by omega)) rfl (vl (ldq 0 rfl rfl rfl rfl rfl rfl rfl) rfl (al zero133 rfl rfl rfl ?_))
            intro b30
            refine sto rfl rfl rfl rfl rfl rfl rfl (cs':=[.int .i64 y26.id,.slice A28 y26.watch.length c29]) rfl (rn ik 8 [3,0,0,0] rfl (cs_ (v:=.bool (isPlace a y26.id)) (by kernel_rfl) rfl rfl rfl (fun w_ hs_=>impl_Arena_isPlace w_ _ (hs_.at 4 rfl)) (rn ik 3 [] rfl ?_)))
            by_cases h31 : isPlace a y26.id = true
            · refine r1_ ik 7 [0,0,0] rfl (not_f h31) ?_
              refine gp 1 kRetiredS_p1_1 rfl (cs':=[.slice A28 y26.watch.length c29]) rfl fun s32 w_ rs32 us32=>?_
              have Ls32:=Kd.sl_len rs32; have Cs32:=Kd.sl_cap rs32
              refine cs_ (v:=.int .i64 (watchFault y26.watch 1)) (by kernel_rfl) rfl rfl rfl (fun w_ hs_=>impl_watchFault w_ _ (hs_.at 0 rfl)) (rn ik 9 [] rfl ?_)
              by_cases h33 : (watchFault y26.watch 1) = (0 : Int)
              · exact r1_ ik 5 [0] rfl (bne_eq_false_iff_eq.2 h33) (vl (ra (c:=((k2 + 1 : Nat) : Int)) rfl rfl rfl (by omega) (by omega) (by omega)) rfl (rn ik 2 [] rfl (lpe (s:=k2) (k2 + 1) [4,4] ⟨by omega,zero_step (f:=retFault a) hinv2 m27 (by have q:=watch_one y26.watch; grind [retFault])⟩ (by omega) ⟨rfl,rfl,rfl,rfl,trivial⟩ rfl)))
              · refine r1_ ik 13 [1] rfl (bne_iff_ne.2 h33) (ret1 rfl rfl (fun w_ hs_=>⟨?_,hs_.below⟩))
                exact ri (by have z1:=firstFault_0 (f:=fun n=>nodeFault n a.dims) hinv (by omega); have z:=firstFault_at (f:=retFault a) hinv2 m27 (by have q:=watch_one y26.watch; grind [retFault]); have q:=watch_one y26.watch; grind [arenaFault,isDims,retFault,within])
            · refine r1_ ik 13 [1] rfl (not_t (Bool.eq_false_iff.2 h31)) (ret1 rfl rfl (fun w_ hs_=>⟨?_,hs_.below⟩))
              exact ri (by have z1:=firstFault_0 (f:=fun n=>nodeFault n a.dims) hinv (by omega); have z:=firstFault_at (f:=retFault a) hinv2 m27 (by have q:=watch_one y26.watch; grind [retFault]); have q:=watch_one y26.watch; grind [arenaFault,isDims,retFault,within])
          · refine r1_ ik 16 [0,0,0] rfl (decide_eq_false h19) ?_
            refine lp (σ:=Nat) (fun k3 : Nat=>[(1,.pointer (some ⟨b1,0,none⟩)),(63,.slice Aa3 a.retired.length ca3),(64,.int .i64 ((a.retired.length : Nat) : Int)),(65,.int .i64 ((k3 : Nat) : Int))])
                (fun k3 : Nat=>[blk b1 [.int .i64 a.dims,.slice Aa1 a.nodes.length ca1,.slice Aa2 a.free.length ca2,.slice Aa3 a.retired.length ca3] 40,dat kArenaS [.int .i64 a.dims,.slice Aa1 a.nodes.length ca1,.slice Aa2 a.free.length ca2,.slice Aa3 a.retired.length ca3] a ([]) sa_])
                (fun k3 : Nat=>k3 ≤ a.retired.length ∧ Uniq Retired.id (a.retired.take k3) ∧ ∀ j x,j < k3 → a.retired[j]? = some x → decide (x.id ∈ a.free) = false) (fun k3 : Nat=>a.retired.length - k3) 0 [0,0] ⟨Nat.zero_le _,by simpa using Uniq.nil,by simp⟩ ⟨rfl,rfl,rfl,rfl,trivial⟩ rfl ?_
            intro k3 hp_
            obtain ⟨hk3,hinv3⟩:=hp_
            refine rn ik 6 [] rfl ?_
            by_cases h34 : ((k3 : Nat) : Int) < ((a.retired.length : Nat) : Int)
            · refine r1_ ik 8 [1] rfl (decide_eq_true h34) ?_
              refine gd 1 kArenaS_p3_1 rfl (cs':=[.slice Aa3 a.retired.length ca3]) rfl fun s35 w_ rs35 us35=>?_
              have Ls35:=Kd.sl_len rs35; have Cs35:=Kd.sl_cap rs35
              refine gx 0 k3 rfl (by omega) fun y41 p36 cs_ s37 w40 m42 e38 r39 us37=>?_
              obtain ⟨A43,c44,rfl⟩:=kRetiredS_sh r39
              refine vl (ix k3 e38 rfl rfl rfl rfl rfl (by omega)) rfl (vl (ldq 0 rfl rfl rfl rfl rfl rfl rfl) rfl (al zero133 rfl rfl rfl ?_))
              intro b45
              refine a_ rfl rfl (sto rfl rfl rfl rfl rfl rfl rfl (cs':=[.int .i64 y41.id,.slice A43 y41.watch.length c44]) rfl (en (nx (sq ?_))))
              refine gct 2 k3 rfl (by omega) fun s46 w_ rs46 us46=>?_
              have Ls46:=Kd.sl_len rs46
              by_cases h47 : (0 : Int) ≤ (idx (fun (x0 : Retired)=>x0.id == y41.id) (a.retired.take k3))
              · refine rn ik 4 [1,2,4,0,3] rfl (qv 3 rfl (evr (v':=.slice Aa3 ((a.retired.take k3).length) ca3) (shi (i:=k3) rfl rfl rfl rfl rfl (by omega)) (sl_eq (by first | (simp; done) | (simp; omega)))) rfl (by kernel_rfl) (rn ik 2 [5,6,1,0] rfl (q1 6 [0,0,0,0,0,0] rfl (by kernel_rfl) rfl (cs_ (v:=.int .i64 (idx (fun (x0 : Retired)=>x0.id == y41.id) (a.retired.take k3))) (by kernel_rfl) rfl rfl rfl (fun w_ hs_=>by exact impl_retiredAt w_ _ (hs_.at 0 rfl)) (qn (rp ik 21 [8,9,10,0,11,0,12,0,13,0,14,1,0,1] rfl ⟨rfl,⟨[0,0,0,0,0,0],rfl⟩,(decide_eq_true h47),(decide_eq_true h47),(decide_eq_true h47),(decide_eq_true h47),(decide_eq_true h47),⟨⟩⟩ (ret1 rfl rfl (fun w_ hs_=>⟨?_,hs_.below⟩))))))))
                exact ri (by have z1:=firstFault_0 (f:=fun n=>nodeFault n a.dims) hinv (by omega); have z2:=firstFault_0 (f:=retFault a) hinv2 (by omega); have y:=uniq_no (f:=Retired.id) m42 h47; grind [arenaFault,isDims,within])
              · refine rn ik 4 [1,2,4,0,3] rfl (qv 3 rfl (evr (v':=.slice Aa3 ((a.retired.take k3).length) ca3) (shi (i:=k3) rfl rfl rfl rfl rfl (by omega)) (sl_eq (by first | (simp; done) | (simp; omega)))) rfl (by kernel_rfl) (rn ik 2 [5,6,1,0] rfl (q1 6 [0,0,0,0,0,0] rfl (by kernel_rfl) rfl (cs_ (v:=.int .i64 (idx (fun (x0 : Retired)=>x0.id == y41.id) (a.retired.take k3))) (by kernel_rfl) rfl rfl rfl (fun w_ hs_=>by exact impl_retiredAt w_ _ (hs_.at 0 rfl)) (qn (r3_ ik 5 [8,9,10,1,4,0,11,1,12,1,1,0] rfl (decide_eq_false h47) (decide_eq_false h47) (decide_eq_false h47) (q1 12 [0,0,0,0,0,0] rfl (by kernel_rfl) rfl (gw rfl rfl (decide_eq_false h47) (cs_ (v:=.bool (decide (y41.id ∈ a.free))) (by kernel_rfl) rfl rfl rfl (fun w_ hs_=>by exact impl_Arena_isFree w_ _ (hs_.at 5 rfl)) (qn (r2_ ik 3 [14,0,0] rfl (decide_eq_false h47) ⟨[0,0,0,0,0,0],rfl⟩ ?_)))))))))))
                by_cases h48 : decide (y41.id ∈ a.free) = true
                · refine r1_ ik 12 [1] rfl h48 (ret1 rfl rfl (fun w_ hs_=>⟨?_,hs_.below⟩))
                  exact ri (by have z1:=firstFault_0 (f:=fun n=>nodeFault n a.dims) hinv (by omega); have z2:=firstFault_0 (f:=retFault a) hinv2 (by omega); have q:=any_some (p:=fun (r : Retired)=>decide (r.id ∈ a.free)) m42 h48; grind [arenaFault,isDims,within])
                · exact r1_ ik 5 [0] rfl (Bool.eq_false_iff.2 h48) (vl (ra (c:=((k3 + 1 : Nat) : Int)) rfl rfl rfl (by omega) (by omega) (by omega)) rfl (rn ik 2 [] rfl (lpe (s:=k3) (k3 + 1) [4,4] ⟨by omega,⟨uniq_step hinv3.1 m42 h47,idx_step (p:=fun (r : Retired)=>decide (r.id ∈ a.free)) hinv3.2 m42 (Bool.eq_false_iff.2 h48)⟩⟩ (by omega) ⟨rfl,rfl,rfl,rfl,trivial⟩ rfl)))
            · refine r1_ ik 12 [0] rfl (decide_eq_false h34) (ret1 rfl rfl (fun w_ hs_=>⟨?_,hs_.below⟩))
              exact ri (by have z1:=firstFault_0 (f:=fun n=>nodeFault n a.dims) hinv (by omega); have z2:=firstFault_0 (f:=retFault a) hinv2 (by omega); have y:=uniq_end hinv3.1 (by omega); have q:=any_none (p:=fun (r : Retired)=>decide (r.id ∈ a.free)) hinv3.2 (by omega); grind [arenaFault,isDims,within])
        · refine r1_ ik 9 [1] rfl (bne_iff_ne.2 h18) (ret1 rfl rfl (fun w_ hs_=>⟨?_,hs_.below⟩))
          exact ri (by have z1:=firstFault_0 (f:=fun n=>nodeFault n a.dims) hinv (by omega); grind [arenaFault,isDims,within])
    · refine r1_ ik 9 [1] rfl (not_t (Bool.eq_false_iff.2 h3)) (ret1 rfl rfl (fun w_ hs_=>⟨?_,hs_.below⟩))
      exact ri (by grind [arenaFault,isDims,within])
  · refine r1_ ik 9 [1] rfl (not_t (Bool.eq_false_iff.2 h2)) (ret1 rfl rfl (fun w_ hs_=>⟨?_,hs_.below⟩))
    exact ri (by grind [arenaFault,isDims,within])
theorem zero4 {l : List Retired} {k k3 : Nat} {y z0 : Retired} (h : ∀ j x z,j < k → l[j]? = some x → l[k3]? = some z → x.id ≠ z.id) (hy : l[k]? = some y) (hz : l[k3]? = some z0) (hn : ¬ y.id = z0.id) : ∀ j x z,j < k + 1 → l[j]? = some x → l[k3]? = some z → x.id ≠ z.id:=fun j x z hj hx hz'=>by
  rcases Nat.lt_succ_iff_lt_or_eq.1 hj with hlt | rfl
  · exact h j x z hlt hx hz'
  · rw [hy] at hx; rw [hz] at hz'; cases hx; cases hz'; exact hn
theorem uniq4 {l : List Retired} {k k3 : Nat} {y : Retired} (hu : Uniq Retired.id (l.take k3)) (h : ∀ j x z,j < k → l[j]? = some x → l[k3]? = some z → x.id ≠ z.id) (hk : k3 ≤ k) (hy : l[k3]? = some y) : Uniq Retired.id (l.take (k3 + 1)) :=
  uniq_snoc hu hy (fun x hx=>by
    obtain ⟨j,hj⟩:=List.getElem?_of_mem hx
    rw [List.getElem?_take] at hj
    split at hj
    · exact h j x y (by omega) hj hy
    · cases hj)
theorem spec_ArenaFault (w : World) {a : Arena} (ha : kArenaS.Rel w [.int .i64 a.dims,.slice Aa1 a.nodes.length ca1,.slice Aa2 a.free.length ca2,.slice Aa3 a.retired.length ca3] a [] sa_)  : Calls Tryz.prog 32 #[.agg #[.int .i64 a.dims,.slice Aa1 a.nodes.length ca1,.slice Aa2 a.free.length ca2,.slice Aa3 a.retired.length ca3]] w (fun e_ w2_=>e_ = .returned (.int .i64 (arenaFault a)) ∧ Below w.heap.size w w2_):=by
  have La1:=Kd.sub_len kArenaS_p1_1 ha; have Ca1:=Kd.sub_cap kArenaS_p1_1 ha rfl
  have La2:=Kd.sub_len kArenaS_p2_1 ha; have Ca2:=Kd.sub_cap kArenaS_p2_1 ha rfl
  have La3:=Kd.sub_len kArenaS_p3_1 ha; have Ca3:=Kd.sub_cap kArenaS_p3_1 ha rfl
  refine fnc (X:=X2 113 w) (l:=[(0,.agg #[.int .i64 a.dims,.slice Aa1 a.nodes.length ca1,.slice Aa2 a.free.length ca2,.slice Aa3 a.retired.length ca3])]) Tryz.func32 rfl rfl rfl ⟨rfl,trivial⟩ (s0d ha (s0n w)).1 ?_
  refine sq (rg (bx rfl rfl rfl rfl ?_))
  intro b1
  refine rn ik 8 [0,0] rfl (cs_ (v:=.bool (within a.dims 2 3)) (by kernel_rfl) rfl rfl rfl (fun w_ hs_=>spec_l1In w_ _ _ _) (rn ik 3 [] rfl ?_))
  by_cases h2 : within a.dims 2 3 = true
  · refine r1_ ik 11 [0,0,0] rfl (not_f h2) ?_
    by_cases h3 : ((a.nodes.length : Nat) : Int) < (4 : Int)
    · refine rp ik 15 [0,0,0,0,1,1] rfl ⟨rfl,(decide_eq_true h3),(decide_eq_true h3),(decide_eq_true h3),(decide_eq_true h3),(decide_eq_true h3),⟨⟩⟩ (ret1 rfl rfl (fun w_ hs_=>⟨?_,hs_.below⟩))
      exact ri (by grind [arenaFault,isDims,within])
    · refine rp ik 7 [1,1,0,0,1,1,0] rfl ⟨(decide_eq_false h3),(decide_eq_false h3),(decide_eq_false h3),(decide_eq_false h3),(decide_eq_false h3),⟨⟩⟩ ?_
      by_cases h4 : (40 : Int) < ((a.nodes.length : Nat) : Int)
      · refine r1_ ik 8 [1] rfl (decide_eq_true h4) (ret1 rfl rfl (fun w_ hs_=>⟨?_,hs_.below⟩))
        exact ri (by grind [arenaFault,isDims,within])
      · refine r1_ ik 10 [0] rfl (decide_eq_false h4) ?_
        refine lp (σ:=Nat) (fun k : Nat=>[(1,.pointer (some ⟨b1,0,none⟩)),(3,.int .i64 ((k : Nat) : Int))])
            (fun k : Nat=>[blk b1 [.int .i64 a.dims,.slice Aa1 a.nodes.length ca1,.slice Aa2 a.free.length ca2,.slice Aa3 a.retired.length ca3] 40,dat kArenaS [.int .i64 a.dims,.slice Aa1 a.nodes.length ca1,.slice Aa2 a.free.length ca2,.slice Aa3 a.retired.length ca3] a ([]) sa_])
            (fun k : Nat=>k ≤ a.nodes.length ∧ ∀ j x,j < k → a.nodes[j]? = some x → nodeFault x a.dims = 0) (fun k : Nat=>a.nodes.length - k) 0 [0,0] ⟨Nat.zero_le _,by simp⟩ ⟨rfl,rfl,trivial⟩ rfl ?_
        intro k hp_
        obtain ⟨hk,hinv⟩:=hp_
        refine rn ik 10 [0,0] rfl ?_
        by_cases h5 : ((k : Nat) : Int) < ((a.nodes.length : Nat) : Int)
        · refine r1_ ik 6 [1] rfl (decide_eq_true h5) ?_
          refine gd 1 kArenaS_p1_1 rfl (cs':=[.slice Aa1 a.nodes.length ca1]) rfl fun s6 w_ rs6 us6=>?_
          have Ls6:=Kd.sl_len rs6; have Cs6:=Kd.sl_cap rs6
          refine gx 0 k rfl (by omega) fun y12 p7 cs_ s8 w11 m13 e9 r10 us8=>?_
          obtain ⟨A14,c15,rfl⟩:=kNodeS_sh r10
          refine gp 0 Kd.Sub.rfl rfl (cs':=[.int .i64 y12.level,.int .i64 y12.nsn,.int .i64 y12.right,.slice A14 y12.entries.length c15]) rfl fun s16 w_ rs16 us16=>?_
          refine rn ik 4 [1,2,3,0,3] rfl (qv 3 rfl (ix k e9 rfl rfl rfl rfl rfl (by omega)) rfl (by kernel_rfl) (rn ik 3 [5,1,0,6,7,3,0] rfl (q1 7 [0,0,0,0,0] rfl (by kernel_rfl) rfl (cs_ (v:=.int .i64 (nodeFault y12 a.dims)) (by kernel_rfl) rfl rfl rfl (fun w_ hs_=>by exact spec_NodeFault w_ _ (hs_.at 0 rfl)) (qn (r1_ ik 9 [9,0] rfl ⟨[0,0,0,0,0],rfl⟩ ?_))))))
          by_cases h17 : (nodeFault y12 a.dims) = (0 : Int)
          · exact r1_ ik 6 [0] rfl (bne_eq_false_iff_eq.2 h17) (vl (ra (c:=((k + 1 : Nat) : Int)) rfl rfl rfl (by omega) (by omega) (by omega)) rfl (rn ik 2 [] rfl (lpe (s:=k) (k + 1) [3,3] ⟨by omega,zero_step (f:=fun n=>nodeFault n a.dims) hinv m13 h17⟩ (by omega) ⟨rfl,rfl,trivial⟩ rfl)))
          · refine r1_ ik 13 [1] rfl (bne_iff_ne.2 h17) (ret1 rfl rfl (fun w_ hs_=>⟨?_,hs_.below⟩))
            exact ri (by have z:=firstFault_at (f:=fun n=>nodeFault n a.dims) hinv m13 h17; grind [arenaFault,isDims,within])
        · refine r1_ ik 9 [0] rfl (decide_eq_false h5) (cs_ (v:=.int .i64 (freeFault a)) (by kernel_rfl) rfl rfl rfl (fun w_ hs_=>spec_l4Free w_ (ptr_blk (hs_.at 0 rfl) (hs_.at 1 rfl) rfl)) (rn ik 9 [] rfl ?_))
          by_cases h18 : (freeFault a) = (0 : Int)
          · refine r1_ ik 10 [0] rfl (bne_eq_false_iff_eq.2 h18) ?_
            refine lp (σ:=Nat) (fun k2 : Nat=>[(1,.pointer (some ⟨b1,0,none⟩)),(6,.int .i64 ((k2 : Nat) : Int))])
                (fun k2 : Nat=>[blk b1 [.int .i64 a.dims,.slice Aa1 a.nodes.length ca1,.slice Aa2 a.free.length ca2,.slice Aa3 a.retired.length ca3] 40,dat kArenaS [.int .i64 a.dims,.slice Aa1 a.nodes.length ca1,.slice Aa2 a.free.length ca2,.slice Aa3 a.retired.length ca3] a ([]) sa_])
                (fun k2 : Nat=>k2 ≤ a.retired.length ∧ ∀ j x,j < k2 → a.retired[j]? = some x → retFault a x = 0) (fun k2 : Nat=>a.retired.length - k2) 0 [0,0] ⟨Nat.zero_le _,by simp⟩ ⟨rfl,rfl,trivial⟩ rfl ?_
            intro k2 hp_
            obtain ⟨hk2,hinv2⟩:=hp_
            refine rn ik 10 [0,0] rfl ?_
            by_cases h19 : ((k2 : Nat) : Int) < ((a.retired.length : Nat) : Int)
            · refine r1_ ik 11 [1,0,0] rfl (decide_eq_true h19) ?_
              refine gd 1 kArenaS_p3_1 rfl (cs':=[.slice Aa3 a.retired.length ca3]) rfl fun s20 w_ rs20 us20=>?_
              have Ls20:=Kd.sl_len rs20; have Cs20:=Kd.sl_cap rs20
              refine gx 0 k2 rfl (by omega) fun y26 p21 cs_ s22 w25 m27 e23 r24 us22=>?_
              obtain ⟨A28,c29,rfl⟩:=kRetiredS_sh r24
              refine vl (ix k2 e23 rfl rfl rfl rfl rfl (by omega)) rfl (rn ik 2 [0,1] rfl (cs_ (v:=.bool (isPlace a y26.id)) (by kernel_rfl) rfl rfl rfl (fun w_ hs_=>spec_l4Place w_ _ (ptr_blk (hs_.at 2 rfl) (hs_.at 3 rfl) rfl)) (rn ik 3 [] rfl ?_)))
              by_cases h30 : isPlace a y26.id = true
              · refine r1_ ik 9 [0,2,0] rfl (not_f h30) (vl (ix k2 e23 rfl rfl rfl rfl rfl (by omega)) rfl (rn ik 6 [0,2] rfl ?_))
                by_cases h31 : ((y26.watch.length : Nat) : Int) = (0 : Int)
                · refine r1_ ik 13 [1] rfl (beq_iff_eq.2 h31) (ret1 rfl rfl (fun w_ hs_=>⟨?_,hs_.below⟩))
                  exact ri (by have z1:=firstFault_0 (f:=fun n=>nodeFault n a.dims) hinv (by omega); have z:=firstFault_at (f:=retFault a) hinv2 m27 (by have q:=watch_one y26.watch; grind [retFault]); have q:=watch_one y26.watch; grind [arenaFault,isDims,retFault,within])
                · refine r1_ ik 8 [0,2,0] rfl (beq_eq_false_iff_ne.2 h31) (vl (ix k2 e23 rfl rfl rfl rfl rfl (by omega)) rfl (rn ik 2 [0,2] rfl ?_))
                  refine gp 0 kRetiredS_p1_1 rfl (cs':=[.slice A28 y26.watch.length c29]) rfl fun s32 w_ rs32 us32=>?_
                  have Ls32:=Kd.sl_len rs32; have Cs32:=Kd.sl_cap rs32
                  refine cs_ (v:=.int .i64 (watchFault y26.watch 0)) (by kernel_rfl) rfl rfl rfl (fun w_ hs_=>spec_l4Watch w_ (hs_.at 0 rfl)) (rn ik 9 [] rfl ?_)
                  by_cases h33 : (watchFault y26.watch 0) = (0 : Int)
                  · exact r1_ ik 6 [0] rfl (bne_eq_false_iff_eq.2 h33) (vl (ra (c:=((k2 + 1 : Nat) : Int)) rfl rfl rfl (by omega) (by omega) (by omega)) rfl (rn ik 2 [] rfl (lpe (s:=k2) (k2 + 1) [3,3] ⟨by omega,zero_step (f:=retFault a) hinv2 m27 (by have q:=watch_one y26.watch; grind [retFault])⟩ (by omega) ⟨rfl,rfl,trivial⟩ rfl)))
                  · refine r1_ ik 13 [1] rfl (bne_iff_ne.2 h33) (ret1 rfl rfl (fun w_ hs_=>⟨?_,hs_.below⟩))
                    exact ri (by have z1:=firstFault_0 (f:=fun n=>nodeFault n a.dims) hinv (by omega); have z:=firstFault_at (f:=retFault a) hinv2 m27 (by have q:=watch_one y26.watch; grind [retFault]); have q:=watch_one y26.watch; grind [arenaFault,isDims,retFault,within])
              · refine r1_ ik 13 [1] rfl (not_t (Bool.eq_false_iff.2 h30)) (ret1 rfl rfl (fun w_ hs_=>⟨?_,hs_.below⟩))
                exact ri (by have z1:=firstFault_0 (f:=fun n=>nodeFault n a.dims) hinv (by omega); have z:=firstFault_at (f:=retFault a) hinv2 m27 (by have q:=watch_one y26.watch; grind [retFault]); have q:=watch_one y26.watch; grind [arenaFault,isDims,retFault,within])
            · refine r1_ ik 13 [0] rfl (decide_eq_false h19) ?_
              refine lp (σ:=Nat) (fun k3 : Nat=>[(1,.pointer (some ⟨b1,0,none⟩)),(8,.int .i64 ((k3 : Nat) : Int))])
                  (fun k3 : Nat=>[blk b1 [.int .i64 a.dims,.slice Aa1 a.nodes.length ca1,.slice Aa2 a.free.length ca2,.slice Aa3 a.retired.length ca3] 40,dat kArenaS [.int .i64 a.dims,.slice Aa1 a.nodes.length ca1,.slice Aa2 a.free.length ca2,.slice Aa3 a.retired.length ca3] a ([]) sa_])
                  (fun k3 : Nat=>k3 ≤ a.retired.length ∧ Uniq Retired.id (a.retired.take k3) ∧ ∀ j x,j < k3 → a.retired[j]? = some x → decide (x.id ∈ a.free) = false) (fun k3 : Nat=>a.retired.length - k3) 0 [0,0] ⟨Nat.zero_le _,by simpa using Uniq.nil,by simp⟩ ⟨rfl,rfl,trivial⟩ rfl ?_
              intro k3 hp_
              obtain ⟨hk3,hinv3⟩:=hp_
              refine rn ik 10 [0,0] rfl ?_
              by_cases h34 : ((k3 : Nat) : Int) < ((a.retired.length : Nat) : Int)
              · refine r1_ ik 12 [1] rfl (decide_eq_true h34) ?_
                refine lp (σ:=Nat) (fun k4 : Nat=>[(1,.pointer (some ⟨b1,0,none⟩)),(8,.int .i64 ((k3 : Nat) : Int)),(9,.int .i64 ((k4 : Nat) : Int))])
                    (fun k4 : Nat=>[blk b1 [.int .i64 a.dims,.slice Aa1 a.nodes.length ca1,.slice Aa2 a.free.length ca2,.slice Aa3 a.retired.length ca3] 40,dat kArenaS [.int .i64 a.dims,.slice Aa1 a.nodes.length ca1,.slice Aa2 a.free.length ca2,.slice Aa3 a.retired.length ca3] a ([]) sa_])
                    (fun k4 : Nat=>k4 ≤ k3 ∧ ∀ j x z,j < k4 → a.retired[j]? = some x → a.retired[k3]? = some z → x.id ≠ z.id) (fun k4 : Nat=>k3 - k4) 0 [0,0] ⟨Nat.zero_le _,by simp⟩ ⟨rfl,rfl,rfl,trivial⟩ rfl ?_
                intro k4 hp_
                obtain ⟨hk4,hinv4⟩:=hp_
                refine rn ik 8 [] rfl ?_
                by_cases h35 : ((k4 : Nat) : Int) < ((k3 : Nat) : Int)
                · refine r1_ ik 6 [1] rfl (decide_eq_true h35) ?_
                  refine gd 1 kArenaS_p3_1 rfl (cs':=[.slice Aa3 a.retired.length ca3]) rfl fun s36 w_ rs36 us36=>?_
                  have Ls36:=Kd.sl_len rs36; have Cs36:=Kd.sl_cap rs36
                  refine gx 0 k4 rfl (by omega) fun y42 p37 cs_ s38 w41 m43 e39 r40 us38=>?_
                  obtain ⟨A44,c45,rfl⟩:=kRetiredS_sh r40
                  refine gx 1 k3 rfl (by omega) fun y51 p46 cs_ s47 w50 m52 e48 r49 us47=>?_
                  obtain ⟨A53,c54,rfl⟩:=kRetiredS_sh r49
                  refine rn ik 4 [1,2,3,0,3] rfl (qv 3 rfl (ix k4 e39 rfl rfl rfl rfl rfl (by omega)) rfl (by kernel_rfl) (rn ik 5 [5,6,1,1,7,8,3,0,9] rfl (qv 9 rfl (ix k3 e48 rfl rfl rfl rfl rfl (by omega)) rfl (by kernel_rfl) (r1_ ik 5 [11,12,0,1,13,0] rfl ⟨[0,0,0,0,0],rfl⟩ ?_))))
                  by_cases h55 : y42.id = y51.id
                  · refine r1_ ik 17 [1] rfl (beq_iff_eq.2 h55) (ret1 rfl rfl (fun w_ hs_=>⟨?_,hs_.below⟩))
                    exact ri (by have z1:=firstFault_0 (f:=fun n=>nodeFault n a.dims) hinv (by omega); have z2:=firstFault_0 (f:=retFault a) hinv2 (by omega); have y : ¬ Uniq Retired.id a.retired:=(fun hu=>by have:=hu.at m43 m52 h55; omega); grind [arenaFault,isDims,within])
                  · exact r1_ ik 6 [0] rfl (beq_eq_false_iff_ne.2 h55) (vl (ra (c:=((k4 + 1 : Nat) : Int)) rfl rfl rfl (by omega) (by omega) (by omega)) rfl (rn ik 2 [] rfl (lpe (s:=k4) (k4 + 1) [3,3] ⟨by omega,zero4 hinv4 m43 m52 h55⟩ (by omega) ⟨rfl,rfl,rfl,trivial⟩ rfl)))
                · refine r1_ ik 7 [0] rfl (decide_eq_false h35) ?_
                  refine gd 1 kArenaS_p3_1 rfl (cs':=[.slice Aa3 a.retired.length ca3]) rfl fun s56 w_ rs56 us56=>?_
                  have Ls56:=Kd.sl_len rs56; have Cs56:=Kd.sl_cap rs56
                  refine gx 0 k3 rfl (by omega) fun y62 p57 cs_ s58 w61 m63 e59 r60 us58=>?_
                  obtain ⟨A64,c65,rfl⟩:=kRetiredS_sh r60
                  refine gd 3 kArenaS_p2_1 rfl (cs':=[.slice Aa2 a.free.length ca2]) rfl fun s66 w_ rs66 us66=>?_
                  have Ls66:=Kd.sl_len rs66; have Cs66:=Kd.sl_cap rs66
                  refine rn ik 6 [1,2,3,0,3,4,3,0,5] rfl (qv 5 rfl (ix k3 e59 rfl rfl rfl rfl rfl (by omega)) rfl (by kernel_rfl) (rn ik 2 [7,8,1,1] rfl (q1 8 [0,0,0,0,0] rfl (by kernel_rfl) rfl (cs_ (v:=.bool (decide (y62.id ∈ a.free))) (by kernel_rfl) rfl rfl rfl (fun w_ hs_=>by exact spec_l1Has w_ _ (hs_.at 0 rfl)) (qn (qe [0,0,0,0,0] (by kernel_rfl) rfl (nx ?_)))))))
                  by_cases h67 : decide (y62.id ∈ a.free) = true
                  · refine r1_ ik 12 [1] rfl h67 (ret1 rfl rfl (fun w_ hs_=>⟨?_,hs_.below⟩))
                    exact ri (by have z1:=firstFault_0 (f:=fun n=>nodeFault n a.dims) hinv (by omega); have z2:=firstFault_0 (f:=retFault a) hinv2 (by omega); have q:=any_some (p:=fun (r : Retired)=>decide (r.id ∈ a.free)) m63 h67; grind [arenaFault,isDims,within])
                  · exact r1_ ik 6 [0] rfl (Bool.eq_false_iff.2 h67) (vl (ra (c:=((k3 + 1 : Nat) : Int)) rfl rfl rfl (by omega) (by omega) (by omega)) rfl (rn ik 2 [] rfl (lpe (s:=k3) (k3 + 1) [3,3] ⟨by omega,⟨uniq4 hinv3.1 hinv4 (by omega) m63,idx_step (p:=fun (r : Retired)=>decide (r.id ∈ a.free)) hinv3.2 m63 (Bool.eq_false_iff.2 h67)⟩⟩ (by omega) ⟨rfl,rfl,trivial⟩ rfl)))
              · refine r1_ ik 12 [0] rfl (decide_eq_false h34) (ret1 rfl rfl (fun w_ hs_=>⟨?_,hs_.below⟩))
                exact ri (by have z1:=firstFault_0 (f:=fun n=>nodeFault n a.dims) hinv (by omega); have z2:=firstFault_0 (f:=retFault a) hinv2 (by omega); have y:=uniq_end hinv3.1 (by omega); have q:=any_none (p:=fun (r : Retired)=>decide (r.id ∈ a.free)) hinv3.2 (by omega); grind [arenaFault,isDims,within])
          · refine r1_ ik 9 [1] rfl (bne_iff_ne.2 h18) (ret1 rfl rfl (fun w_ hs_=>⟨?_,hs_.below⟩))
            exact ri (by have z1:=firstFault_0 (f:=fun n=>nodeFault n a.dims) hinv (by omega); grind [arenaFault,isDims,within])
  · refine r1_ ik 8 [1] rfl (not_t (Bool.eq_false_iff.2 h2)) (ret1 rfl rfl (fun w_ hs_=>⟨?_,hs_.below⟩))
    exact ri (by grind [arenaFault,isDims,within])
end Go.Proofs.YtjdkfibeogiekaaGreat.Sx
