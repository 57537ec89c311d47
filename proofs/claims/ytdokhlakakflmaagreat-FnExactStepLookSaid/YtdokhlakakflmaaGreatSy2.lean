/- What functions of the program answer, each at every input that its row names; walked through their code. -/
import Derived.Test.YtdokhlakakflmaaGreatSy1
namespace Go.Proofs.YtdokhlakakflmaaGreat.Sx
open Go Go.RowKit Go.Proofs
set_option linter.unusedVariables false
set_option linter.unusedSimpArgs false
def tab2 : Tab := { size := [(2, 1, false), (23, 1, false), (37, 2, true), (47, 1, false), (48, 1, false), (50, 4, true), (105, 1, false), (107, 4, true), (110, 2, true), (132, 4, true)], off := [((50, 0), 0), ((50, 1), 1), ((50, 2), 2), ((50, 3), 3), ((107, 0), 0), ((107, 1), 1), ((107, 2), 2), ((107, 3), 3), ((110, 0), 0), ((110, 1), 1), ((132, 0), 0), ((132, 1), 2), ((132, 2), 3)], elem := [(23, 2), (47, 107), (48, 110), (105, 132)] }
theorem tab_ok2 : tab2.check Tryz.prog = true:=by kernel_rfl
noncomputable abbrev X2 (N : Nat) (w : World) : Cx := ⟨Tryz.prog, tab2, tab_ok2, wide, N, w, none, []⟩
theorem bld107 : bld Tryz.prog 107 = some ([(0,1),(1,1),(2,1),(3,1)],[.int .i64 0,.int .i64 0,.int .i64 0,.slice none 0 0]):=by kernel_rfl

def rises (l : List Int) : Bool := !adj (fun a b => decide (b ≤ a)) l
theorem rises_t {l : List Int} {k : Nat} (h : ∀ j a b,j < k → l[j]? = some a → l[j + 1]? = some b → decide (b ≤ a) = false) (hk : ¬ ((k + 1 : Nat) : Int) < ((l.length : Nat) : Int)) : true = rises l:=by
  unfold rises; rw [adj_f h (by omega)]; rfl
theorem eqE (a b : Entry) : (decide (a.rect = b.rect) && decide (a.ref = b.ref) && decide (a.nsn = b.nsn)) = decide (a = b):=by
  rw [Entry_eq,Bool.and_assoc]
set_option maxRecDepth 20000 in
set_option maxHeartbeats 2000000 in
theorem impl_isRising (w : World) {Alist : Option Addr} {clist : Nat} {list : List Int} {slist_ : List Nat} (hlist : (Kd.sl Kd.i64).Rel w [.slice Alist list.length clist] list [] slist_)  : Calls Tryz.prog 135 #[.slice Alist list.length clist] w (fun e_ w2_=>e_ = .returned (.bool (rises list)) ∧ Below w.heap.size w w2_):=by
  have Llist:=Kd.sl_len hlist; have Clist:=Kd.sl_cap hlist
  refine fnc (X:=X2 20 w) (l:=[(0,.slice Alist list.length clist)]) Tryz.func135 rfl rfl rfl ⟨rfl,trivial⟩ (s0d hlist (s0n w)).1 ?_
  refine sq (rg (a_ rfl rfl (en (nx (sq (sq (rg (a_ rfl rfl (en (nx (bk ?_)))))))))))
  refine lp (σ:=Nat) (fun k : Nat=>[(0,.slice Alist list.length clist),(3,.int .i64 ((k + 1 : Nat) : Int))])
      (fun k : Nat=>[dat (Kd.sl Kd.i64) [.slice Alist list.length clist] list ([]) slist_])
      (fun k : Nat=>(k = 0 ∨ k + 1 ≤ list.length) ∧ ∀ j a b,j < k → list[j]? = some a → list[j + 1]? = some b → decide (b ≤ a) = false) (fun k : Nat=>list.length - k) 0 [0] ⟨.inl rfl,by simp⟩ ⟨rfl,rfl,trivial⟩ rfl ?_
  intro k hp_
  obtain ⟨hk2,hinv2⟩:=hp_
  refine sq (sq (rg (m_ rfl rfl (m_ rfl rfl (vl (ln rfl rfl rfl) rfl (vl (cm rfl rfl rfl rfl) rfl (en (nx ?_))))))))
  by_cases h1 : ((k + 1 : Nat) : Int) < ((list.length : Nat) : Int)
  · refine ct rfl (decide_eq_true h1) (sk (nx (sq (bk (sq ?_)))))
    refine gx 0 k rfl (by omega) fun y7 p2 cs_ s3 w6 m8 e4 r5 us3=>?_
    obtain ⟨rfl,-,-⟩:=r5
    refine gx 1 (k + 1) rfl (by omega) fun y14 p9 cs_ s10 w13 m15 e11 r12 us10=>?_
    obtain ⟨rfl,-,-⟩:=r12
    refine r0 (qv 0 rfl (mv rfl rfl) rfl (by kernel_rfl) (qv 1 rfl (mv rfl rfl) rfl (by kernel_rfl) (qv 2 rfl (rs (c:=((k : Nat) : Int)) rfl rfl rfl (by omega) (by omega) (by omega)) rfl (by kernel_rfl) (qv 3 rfl (ix k e4 rfl rfl rfl rfl rfl (by omega)) rfl (by kernel_rfl) (qv 4 rfl (ldq (u:=.int .i64 y7) 1 rfl rfl rfl rfl rfl rfl rfl) rfl (by kernel_rfl) (qv 5 rfl (mv rfl rfl) rfl (by kernel_rfl) (qv 6 rfl (mv rfl rfl) rfl (by kernel_rfl) (qv 7 rfl (ix (k + 1) e11 rfl rfl rfl rfl rfl (by omega)) rfl (by kernel_rfl) (qv 8 rfl (ldq (u:=.int .i64 y14) 0 rfl rfl rfl rfl rfl rfl rfl) rfl (by kernel_rfl) (qv 9 rfl (cm rfl rfl rfl rfl) rfl (by kernel_rfl) (qe [0,0,0] (by kernel_rfl) rfl (nx ?_))))))))))))
    by_cases h16 : y14 ≤ y7
    · refine ct rfl (decide_eq_true h16) (sq (rg (a_ rfl rfl (en (nx (rt (xrb (xr (xr (xrb (xr (ret1 rfl rfl (fun w_ hs_=>⟨?_,hs_.below⟩)))))))))))))
      exact rb (by unfold rises; rw [adj_t m8 m15 (decide_eq_true h16)]; rfl)
    · exact cf rfl (decide_eq_false h16) (sk (xn (nx (rg (m_ rfl rfl (vl (ra (c:=((k + 1 + 1 : Nat) : Int)) rfl rfl rfl (by omega) (by omega) (by omega)) rfl (a_ rfl rfl (en (lpe (s:=k) (k + 1) [2] ⟨.inr (by omega),adj_step hinv2 m8 m15 (decide_eq_false h16)⟩ (by omega) ⟨rfl,rfl,trivial⟩ rfl)))))))))
  · refine cf rfl (decide_eq_false h1) (xt (xq (xq (xb (nx (sq (rg (a_ rfl rfl (en (nx (rt (ret1 rfl rfl (fun w_ hs_=>⟨?_,hs_.below⟩)))))))))))))
    exact rb (rises_t hinv2 h1)
set_option maxRecDepth 20000 in
set_option maxHeartbeats 2000000 in
theorem impl_watchFault_1 (w : World) (n : Int)  : Calls Tryz.prog 140 #[.int .i64 n] w (fun e_ w2_=>e_ = .returned (.bool (!within n 0 3)) ∧ Below w.heap.size w w2_):=by
  refine fnc (X:=X2 6 w) (l:=[(0,.int .i64 n)]) Tryz.func140 rfl rfl rfl ⟨rfl,trivial⟩ (s0n w).1 ?_
  refine sq (rg (a_ rfl rfl (en (nx (sq (rg (m_ rfl rfl (cs_ (v:=.bool (within n 0 3)) (by kernel_rfl) rfl rfl rfl (fun w_ hs_=>impl_isClient w_ _) (vl (nt rfl rfl) rfl (a_ rfl rfl (en (nx (rt (ret1 rfl rfl (fun w_ hs_=>⟨?_,hs_.below⟩)))))))))))))))
  rfl
theorem watch_eq {l : List Int} {least : Int} {c : Int} (h : c = if (l.length : Int) < least ∨ 4 < (l.length : Int) then 2 else if l.any (fun n=>!within n 0 3) = true then 3 else if rises l = false then 1 else 0) : c = watchFault l least:=by
  rw [h]; unfold watchFault rises; cases adj (fun a b=>decide (b ≤ a)) l <;> simp
set_option maxRecDepth 20000 in
set_option maxHeartbeats 2000000 in
theorem impl_watchFault (w : World) (least : Int) {Awatch : Option Addr} {cwatch : Nat} {watch : List Int} {swatch_ : List Nat} (hwatch : (Kd.sl Kd.i64).Rel w [.slice Awatch watch.length cwatch] watch [] swatch_)  : Calls Tryz.prog 82 #[.slice Awatch watch.length cwatch,.int .i64 least] w (fun e_ w2_=>e_ = .returned (.int .i64 (watchFault watch least)) ∧ Below w.heap.size w w2_):=by
  have Lwatch:=Kd.sl_len hwatch; have Cwatch:=Kd.sl_cap hwatch
  refine fnc (X:=X2 22 w) (l:=[(0,.slice Awatch watch.length cwatch),(1,.int .i64 least)]) Tryz.func82 rfl rfl rfl ⟨rfl,rfl,trivial⟩ (s0d hwatch (s0n w)).1 ?_
  refine sq (rg (a_ rfl rfl (en (nx (sq (bk (sq (rg (m_ rfl rfl (vl (ln rfl rfl rfl) rfl (m_ rfl rfl (vl (cm rfl rfl rfl rfl) rfl (m_ rfl rfl ?_)))))))))))))
  by_cases h1 : ((watch.length : Nat) : Int) < least
  · refine sg rfl rfl (decide_eq_true h1) (sg rfl rfl (decide_eq_true h1) (sg rfl rfl (decide_eq_true h1) (vl (pk (b:=true) rfl rfl (decide_eq_true h1) rfl) rfl (a_ rfl rfl (en (nx (ct rfl rfl (sq (rg (a_ rfl rfl (en (nx (rt (xrb (xr (ret1 rfl rfl (fun w_ hs_=>⟨?_,hs_.below⟩)))))))))))))))))
    exact ri (watch_eq (by grind))
  · refine vg (mv rfl rfl) rfl rfl (decide_eq_false h1) (vg (ln rfl rfl rfl) rfl rfl (decide_eq_false h1) (vg (cm rfl rfl rfl rfl) rfl rfl (decide_eq_false h1) (vl (pk (b:=false) rfl rfl (decide_eq_false h1) rfl) rfl (a_ rfl rfl (en (nx ?_))))))
    by_cases h2 : (4 : Int) < ((watch.length : Nat) : Int)
    · refine ct rfl (decide_eq_true h2) (sq (rg (a_ rfl rfl (en (nx (rt (xrb (xr (ret1 rfl rfl (fun w_ hs_=>⟨?_,hs_.below⟩))))))))))
      exact ri (watch_eq (by grind))
    · refine cf rfl (decide_eq_false h2) (sq (rg (m_ rfl rfl (cs_ (v:=.bool (List.any watch (fun (x0 : Int)=>!within x0 0 3))) (by kernel_rfl) rfl rfl rfl (fun w_ hs_=>slices_ContainsFunc_int64_int64 w_ (fun (x0 : Int)=>!within x0 0 3) (by kernel_rfl) (hs_.at 0 rfl) (fun w1 x0 m0_ b_ =>impl_watchFault_1 w1 x0 )) (a_ rfl rfl (en (nx ?_)))))))
      by_cases h3 : List.any watch (fun (x0 : Int)=>!within x0 0 3) = true
      · refine ct rfl h3 (sq (rg (a_ rfl rfl (en (nx (rt (xrb (xr (ret1 rfl rfl (fun w_ hs_=>⟨?_,hs_.below⟩))))))))))
        exact ri (watch_eq (by grind))
      · refine cf rfl (Bool.eq_false_iff.2 h3) (sq (rg (m_ rfl rfl (cs_ (v:=.bool (rises watch)) (by kernel_rfl) rfl rfl rfl (fun w_ hs_=>impl_isRising w_ (hs_.at 0 rfl)) (vl (nt rfl rfl) rfl (a_ rfl rfl (en (nx ?_))))))))
        by_cases h4 : rises watch = true
        · refine cf rfl (not_f h4) (sk (xn (nx (sq (rg (a_ rfl rfl (en (nx (rt (ret1 rfl rfl (fun w_ hs_=>⟨?_,hs_.below⟩)))))))))))
          exact ri (watch_eq (by grind))
        · refine ct rfl (not_t (Bool.eq_false_iff.2 h4)) (sq (rg (a_ rfl rfl (en (nx (rt (xrb (xr (ret1 rfl rfl (fun w_ hs_=>⟨?_,hs_.below⟩))))))))))
          exact ri (watch_eq (by grind))
set_option maxRecDepth 20000 in
set_option maxHeartbeats 2000000 in
theorem spec_l4Watch (w : World) {Alist : Option Addr} {clist : Nat} {list : List Int} {slist_ : List Nat} (hlist : (Kd.sl Kd.i64).Rel w [.slice Alist list.length clist] list [] slist_)  : Calls Tryz.prog 60 #[.slice Alist list.length clist] w (fun e_ w2_=>e_ = .returned (.int .i64 (watchFault list 0)) ∧ Below w.heap.size w w2_):=by
  have Llist:=Kd.sl_len hlist; have Clist:=Kd.sl_cap hlist
  refine fnc (X:=X2 36 w) (l:=[(0,.slice Alist list.length clist)]) Tryz.func60 rfl rfl rfl ⟨rfl,trivial⟩ (s0d hlist (s0n w)).1 ?_
  refine sq (rg (a_ rfl rfl (en (nx (sq (sq (rg (m_ rfl rfl (vl (ln rfl rfl rfl) rfl (vl (cm rfl rfl rfl rfl) rfl (en (nx ?_))))))))))))
  by_cases h1 : (4 : Int) < ((list.length : Nat) : Int)
  · refine ct rfl (decide_eq_true h1) (sq (rg (a_ rfl rfl (en (nx (rt (xr (ret1 rfl rfl (fun w_ hs_=>⟨?_,hs_.below⟩)))))))))
    exact ri (watch_eq (by grind))
  · refine cf rfl (decide_eq_false h1) (sk (nx (sq (sq (rg (a_ rfl rfl (en (nx (bk ?_)))))))))
    refine lp (σ:=Nat) (fun k : Nat=>[(0,.slice Alist list.length clist),(3,.int .i64 ((k : Nat) : Int))])
        (fun k : Nat=>[dat (Kd.sl Kd.i64) [.slice Alist list.length clist] list ([]) slist_])
        (fun k : Nat=>k ≤ list.length ∧ ∀ j x,j < k → list[j]? = some x → (!within x 0 3) = false) (fun k : Nat=>list.length - k) 0 [0] ⟨Nat.zero_le _,by simp⟩ ⟨rfl,rfl,trivial⟩ rfl ?_
    intro k hp_
    obtain ⟨hk,hinv⟩:=hp_
    refine sq (sq (rg (m_ rfl rfl (m_ rfl rfl (vl (ln rfl rfl rfl) rfl (vl (cm rfl rfl rfl rfl) rfl (en (nx ?_))))))))
    by_cases h2 : ((k : Nat) : Int) < ((list.length : Nat) : Int)
    · refine ct rfl (decide_eq_true h2) (sk (nx (sq (bk (sq (rg (m_ rfl rfl (m_ rfl rfl ?_))))))))
      refine gx 0 k rfl (by omega) fun y8 p3 cs_ s4 w7 m9 e5 r6 us4=>?_
      obtain ⟨rfl,-,-⟩:=r6
      refine vl (ix k e5 rfl rfl rfl rfl rfl (by omega)) rfl (vl (ldq (u:=.int .i64 y8) 0 rfl rfl rfl rfl rfl rfl rfl) rfl (cs_ (v:=.bool (within y8 0 3)) (by kernel_rfl) rfl rfl rfl (fun w_ hs_=>spec_l1In w_ _ _ _) (vl (nt rfl rfl) rfl (en (nx ?_)))))
      by_cases h10 : within y8 0 3 = true
      · exact cf rfl (not_f h10) (sk (xn (nx (rg (m_ rfl rfl (vl (ra (c:=((k + 1 : Nat) : Int)) rfl rfl rfl (by omega) (by omega) (by omega)) rfl (a_ rfl rfl (en (lpe (s:=k) (k + 1) [1] ⟨by omega,idx_step hinv m9 (not_f h10)⟩ (by omega) ⟨rfl,rfl,trivial⟩ rfl)))))))))
      · refine ct rfl (not_t (Bool.eq_false_iff.2 h10)) (sq (rg (a_ rfl rfl (en (nx (rt (xrb (xr (xr (xrb (xr (ret1 rfl rfl (fun w_ hs_=>⟨?_,hs_.below⟩)))))))))))))
        exact ri (watch_eq (by have y:=any_some (p:=fun n=>!within n 0 3) m9 (not_t (Bool.eq_false_iff.2 h10)); grind))
    · refine cf rfl (decide_eq_false h2) (xt (xq (xq (xb (nx (sq (sq (rg (a_ rfl rfl (en (nx (bk ?_))))))))))))
      refine lp (σ:=Nat) (fun k2 : Nat=>[(0,.slice Alist list.length clist),(4,.int .i64 ((k2 + 1 : Nat) : Int))])
          (fun k2 : Nat=>[dat (Kd.sl Kd.i64) [.slice Alist list.length clist] list ([]) slist_])
          (fun k2 : Nat=>(k2 = 0 ∨ k2 + 1 ≤ list.length) ∧ ∀ j a b,j < k2 → list[j]? = some a → list[j + 1]? = some b → decide (b ≤ a) = false) (fun k2 : Nat=>list.length - k2) 0 [0] ⟨.inl rfl,by simp⟩ ⟨rfl,rfl,trivial⟩ rfl ?_
      intro k2 hp_
      obtain ⟨hk2,hinv2⟩:=hp_
      refine sq (sq (rg (m_ rfl rfl (m_ rfl rfl (vl (ln rfl rfl rfl) rfl (vl (cm rfl rfl rfl rfl) rfl (en (nx ?_))))))))
      by_cases h11 : ((k2 + 1 : Nat) : Int) < ((list.length : Nat) : Int)
      · refine ct rfl (decide_eq_true h11) (sk (nx (sq (bk (sq ?_)))))
        refine gx 0 (k2 + 1) rfl (by omega) fun y17 p12 cs_ s13 w16 m18 e14 r15 us13=>?_
        obtain ⟨rfl,-,-⟩:=r15
        refine gx 1 k2 rfl (by omega) fun y24 p19 cs_ s20 w23 m25 e21 r22 us20=>?_
        obtain ⟨rfl,-,-⟩:=r22
        refine r0 (qv 0 rfl (mv rfl rfl) rfl (by kernel_rfl) (qv 1 rfl (mv rfl rfl) rfl (by kernel_rfl) (qv 2 rfl (ix (k2 + 1) e14 rfl rfl rfl rfl rfl (by omega)) rfl (by kernel_rfl) (qv 3 rfl (ldq (u:=.int .i64 y17) 1 rfl rfl rfl rfl rfl rfl rfl) rfl (by kernel_rfl) (qv 4 rfl (mv rfl rfl) rfl (by kernel_rfl) (qv 5 rfl (mv rfl rfl) rfl (by kernel_rfl) (qv 6 rfl (rs (c:=((k2 : Nat) : Int)) rfl rfl rfl (by omega) (by omega) (by omega)) rfl (by kernel_rfl) (qv 7 rfl (ix k2 e21 rfl rfl rfl rfl rfl (by omega)) rfl (by kernel_rfl) (qv 8 rfl (ldq (u:=.int .i64 y24) 0 rfl rfl rfl rfl rfl rfl rfl) rfl (by kernel_rfl) (qv 9 rfl (cm rfl rfl rfl rfl) rfl (by kernel_rfl) (qe [0,0,0] (by kernel_rfl) rfl (nx ?_))))))))))))
        by_cases h26 : y17 ≤ y24
        · refine ct rfl (decide_eq_true h26) (sq (rg (a_ rfl rfl (en (nx (rt (xrb (xr (xr (xrb (xr (ret1 rfl rfl (fun w_ hs_=>⟨?_,hs_.below⟩)))))))))))))
          exact ri (watch_eq (by have q:=any_none (p:=fun n=>!within n 0 3) hinv (by omega); have y : rises list = false:=(by unfold rises; rw [adj_t m25 m18 (decide_eq_true h26)]; rfl); grind))
        · exact cf rfl (decide_eq_false h26) (sk (xn (nx (rg (m_ rfl rfl (vl (ra (c:=((k2 + 1 + 1 : Nat) : Int)) rfl rfl rfl (by omega) (by omega) (by omega)) rfl (a_ rfl rfl (en (lpe (s:=k2) (k2 + 1) [2] ⟨.inr (by omega),adj_step hinv2 m25 m18 (decide_eq_false h26)⟩ (by omega) ⟨rfl,rfl,trivial⟩ rfl)))))))))
      · refine cf rfl (decide_eq_false h11) (xt (xq (xq (xb (nx (sq (rg (a_ rfl rfl (en (nx (rt (ret1 rfl rfl (fun w_ hs_=>⟨?_,hs_.below⟩)))))))))))))
        exact ri (watch_eq (by have q:=any_none (p:=fun n=>!within n 0 3) hinv (by omega); have y:=rises_t hinv2 h11; grind))
set_option maxRecDepth 20000 in
set_option maxHeartbeats 2000000 in
theorem impl_retiredAt_1 (w : World) {Ar1 : Option Addr} {cr1 : Nat} {r : Retired} {sr_ : List Nat} (hr : kRetiredS.Rel w [.int .i64 r.id,.slice Ar1 r.watch.length cr1] r [] sr_)  {id : Int} {sid_ : List Nat} {pid : Addr} (hid : (ptr Kd.i64 pid [.int .i64 id] id sid_).P w)  : Calls Tryz.prog 143 #[.agg #[.int .i64 r.id,.slice Ar1 r.watch.length cr1],.pointer (some pid)] w (fun e_ w2_=>e_ = .returned (.bool (r.id == id)) ∧ Below w.heap.size w w2_):=by
  refine fnc (X:=X2 8 w) (l:=[(0,.agg #[.int .i64 r.id,.slice Ar1 r.watch.length cr1]),(1,.pointer (some pid))]) Tryz.func143 rfl rfl rfl ⟨rfl,rfl,trivial⟩ (s0p hid (s0d hr (s0n w))).1 ?_
  refine sq (rg (bx rfl rfl rfl rfl ?_))
  intro b1
  refine a_ rfl rfl (en (nx (sq (rg (vl (fa rfl rfl rfl) rfl (vl (ldb (u:=.int .i64 r.id) 0 rfl rfl rfl rfl rfl rfl rfl) rfl (vl (ldq (u:=.int .i64 id) 1 rfl rfl rfl rfl rfl rfl rfl) rfl (vl (cm rfl rfl rfl rfl) rfl (a_ rfl rfl (en (nx (rt (ret1 rfl rfl (fun w_ hs_=>⟨?_,hs_.below⟩))))))))))))))
  rfl
set_option maxRecDepth 20000 in
set_option maxHeartbeats 2000000 in
theorem impl_retiredAt (w : World) (id : Int) {Alist : Option Addr} {clist : Nat} {list : List Retired} {slist_ : List Nat} (hlist : (Kd.sl kRetiredS).Rel w [.slice Alist list.length clist] list [] slist_)  : Calls Tryz.prog 83 #[.slice Alist list.length clist,.int .i64 id] w (fun e_ w2_=>e_ = .returned (.int .i64 (idx (fun (x0 : Retired)=>x0.id == id) list)) ∧ Below w.heap.size w w2_):=by
  have Llist:=Kd.sl_len hlist; have Clist:=Kd.sl_cap hlist
  refine fnc (X:=X2 8 w) (l:=[(0,.slice Alist list.length clist),(1,.int .i64 id)]) Tryz.func83 rfl rfl rfl ⟨rfl,rfl,trivial⟩ (s0d hlist (s0n w)).1 ?_
  refine sq (rg (bx rfl rfl rfl rfl ?_))
  intro b1
  refine a_ rfl rfl (en (nx (sq (rg (m_ rfl rfl (vl (mf rfl rfl rfl) rfl (gs Kd.i64 [.int .i64 id] id (fun _=>⟨rfl,rfl,rfl⟩) ?_)))))))
  refine cs_ (v:=.int .i64 (idx (fun (x0 : Retired)=>x0.id == id) list)) (by kernel_rfl) rfl rfl rfl (fun w_ hs_=>slices_IndexFunc_impl_Retired_impl_Retired w_ (fun (x0 : Retired)=>x0.id == id) (by kernel_rfl) (hs_.at 2 rfl) (fun w1 x0 m0_ b_ _ _ _ r0_=>impl_retiredAt_1 w1  r0_ (ptr_blk ((hs_.step b_).at 1 rfl) ((hs_.step b_).at 0 rfl) rfl))) (a_ rfl rfl (en (nx (rt (ret1 rfl rfl (fun w_ hs_=>⟨?_,hs_.below⟩))))))
  rfl
theorem has_none {l : List Int} {v : Int} {k : Nat} (h : ∀ j x,j < k → l[j]? = some x → (x == v) = false) (hk : l.length ≤ k) : false = decide (v ∈ l):=by
  symm; rw [decide_eq_false_iff_not]; intro hm
  obtain ⟨j,hj⟩:=List.getElem?_of_mem hm
  have:=h j v (by have:=(List.getElem?_eq_some_iff.1 hj).1; omega) hj
  simp at this
theorem has_idx {l : List Int} {v : Int} : decide (0 ≤ idx (fun x=>x == v) l) = decide (v ∈ l):=by
  rw [show (decide (0 ≤ idx (fun x=>x == v) l)) = decide (idx (fun x=>x == v) l ≥ 0) from rfl,idx_ge,Bool.eq_iff_iff]
  simp
set_option maxRecDepth 20000 in
set_option maxHeartbeats 2000000 in
theorem spec_l1Has (w : World) (v : Int) {Alist : Option Addr} {clist : Nat} {list : List Int} {slist_ : List Nat} (hlist : (Kd.sl Kd.i64).Rel w [.slice Alist list.length clist] list [] slist_)  : Calls Tryz.prog 61 #[.slice Alist list.length clist,.int .i64 v] w (fun e_ w2_=>e_ = .returned (.bool (decide (v ∈ list))) ∧ Below w.heap.size w w2_):=by
  have Llist:=Kd.sl_len hlist; have Clist:=Kd.sl_cap hlist
  refine fnc (X:=X2 18 w) (l:=[(0,.slice Alist list.length clist),(1,.int .i64 v)]) Tryz.func61 rfl rfl rfl ⟨rfl,rfl,trivial⟩ (s0d hlist (s0n w)).1 ?_
  refine sq (rg (a_ rfl rfl (en (nx (sq (sq (rg (a_ rfl rfl (en (nx (bk ?_)))))))))))
  refine lp (σ:=Nat) (fun k : Nat=>[(0,.slice Alist list.length clist),(1,.int .i64 v),(5,.int .i64 ((k : Nat) : Int))])
      (fun k : Nat=>[dat (Kd.sl Kd.i64) [.slice Alist list.length clist] list ([]) slist_])
      (fun k : Nat=>k ≤ list.length ∧ ∀ j x,j < k → list[j]? = some x → (x == v) = false) (fun k : Nat=>list.length - k) 0 [0] ⟨Nat.zero_le _,by simp⟩ ⟨rfl,rfl,rfl,trivial⟩ rfl ?_
  intro k hp_
  obtain ⟨hk,hinv⟩:=hp_
  refine sq (sq (rg (m_ rfl rfl (m_ rfl rfl (vl (ln rfl rfl rfl) rfl (vl (cm rfl rfl rfl rfl) rfl (en (nx ?_))))))))
  by_cases h1 : ((k : Nat) : Int) < ((list.length : Nat) : Int)
  · refine ct rfl (decide_eq_true h1) (sk (nx (sq (bk (sq (rg (m_ rfl rfl (m_ rfl rfl ?_))))))))
    refine gx 0 k rfl (by omega) fun y7 p2 cs_ s3 w6 m8 e4 r5 us3=>?_
    obtain ⟨rfl,-,-⟩:=r5
    refine vl (ix k e4 rfl rfl rfl rfl rfl (by omega)) rfl (vl (ldq (u:=.int .i64 y7) 0 rfl rfl rfl rfl rfl rfl rfl) rfl (m_ rfl rfl (vl (cm rfl rfl rfl rfl) rfl (en (nx ?_)))))
    by_cases h9 : y7 = v
    · refine ct rfl (beq_iff_eq.2 h9) (sq (rg (a_ rfl rfl (en (nx (rt (xrb (xr (xr (xrb (xr (ret1 rfl rfl (fun w_ hs_=>⟨?_,hs_.below⟩)))))))))))))
      exact rb (by have z:=m8; rw [h9] at z; exact (decide_eq_true (List.mem_of_getElem? z)).symm)
    · exact cf rfl (beq_eq_false_iff_ne.2 h9) (sk (xn (nx (rg (m_ rfl rfl (vl (ra (c:=((k + 1 : Nat) : Int)) rfl rfl rfl (by omega) (by omega) (by omega)) rfl (a_ rfl rfl (en (lpe (s:=k) (k + 1) [1] ⟨by omega,idx_step (p:=fun x=>x == v) hinv m8 (beq_eq_false_iff_ne.2 h9)⟩ (by omega) ⟨rfl,rfl,rfl,trivial⟩ rfl)))))))))
  · refine cf rfl (decide_eq_false h1) (xt (xq (xq (xb (nx (sq (rg (a_ rfl rfl (en (nx (rt (ret1 rfl rfl (fun w_ hs_=>⟨?_,hs_.below⟩)))))))))))))
    exact rb (has_none hinv (by omega))
set_option maxRecDepth 20000 in
set_option maxHeartbeats 2000000 in
theorem slices_Index_int64_int64 (w : World) (v : Int) {As : Option Addr} {cs : Nat} {s : List Int} {ss_ : List Nat} (hs : (Kd.sl Kd.i64).Rel w [.slice As s.length cs] s [] ss_)  : Calls Tryz.prog 173 #[.slice As s.length cs,.int .i64 v] w (fun e_ w2_=>e_ = .returned (.int .i64 (idx (fun x=>x == v) s)) ∧ Below w.heap.size w w2_):=by
  have Ls:=Kd.sl_len hs; have Cs:=Kd.sl_cap hs
  refine fnc (X:=X2 19 w) (l:=[(0,.slice As s.length cs),(1,.int .i64 v)]) Tryz.func173 rfl rfl rfl ⟨rfl,rfl,trivial⟩ (s0d hs (s0n w)).1 ?_
  refine sq (rg (a_ rfl rfl (en (nx (sq (sq (rg (m_ rfl rfl (vl (ln rfl rfl rfl) rfl (m_ rfl rfl (en (nx (bk ?_)))))))))))))
  refine lp (σ:=Nat) (fun k : Nat=>[(0,.slice As s.length cs),(1,.int .i64 v),(7,.int .i64 ((s.length : Nat) : Int)),(8,.int .i64 ((k : Nat) : Int))])
      (fun k : Nat=>[dat (Kd.sl Kd.i64) [.slice As s.length cs] s ([]) ss_])
      (fun k : Nat=>k ≤ s.length ∧ ∀ j x,j < k → s[j]? = some x → (x == v) = false) (fun k : Nat=>s.length - k) 0 [0] ⟨Nat.zero_le _,by simp⟩ ⟨rfl,rfl,rfl,rfl,trivial⟩ rfl ?_
  intro k hp_
  obtain ⟨hk,hinv⟩:=hp_
  refine sq (rg (vl (cm rfl rfl rfl rfl) rfl (en (nx (sq ?_)))))
  by_cases h1 : ((k : Nat) : Int) < ((s.length : Nat) : Int)
  · refine ct rfl (decide_eq_true h1) (sk (nx (sq (bk (sq (rg (m_ rfl rfl (a_ rfl rfl (en (nx (sq (rg (m_ rfl rfl (m_ rfl rfl (m_ rfl rfl ?_)))))))))))))))
    refine gx 0 k rfl (by omega) fun y7 p2 cs_ s3 w6 m8 e4 r5 us3=>?_
    obtain ⟨rfl,-,-⟩:=r5
    refine vl (ix k e4 rfl rfl rfl rfl rfl (by omega)) rfl (vl (ldq (u:=.int .i64 y7) 0 rfl rfl rfl rfl rfl rfl rfl) rfl (vl (cm rfl rfl rfl rfl) rfl (en (nx ?_))))
    by_cases h9 : v = y7
    · refine ct rfl (beq_iff_eq.2 h9) (sq (rg (m_ rfl rfl (a_ rfl rfl (en (nx (rt (xrb (xr (xr (xrb (xr (ret1 rfl rfl (fun w_ hs_=>⟨?_,hs_.below⟩))))))))))))))
      rw [idx_some (p:=fun x=>x == v) hinv m8 (beq_iff_eq.2 (by simpa [eq_comm] using h9))]
    · exact cf rfl (beq_eq_false_iff_ne.2 h9) (sk (xn (nx (rg (vl (ra (c:=((k + 1 : Nat) : Int)) rfl rfl rfl (by omega) (by omega) (by omega)) rfl (m_ rfl rfl (en (lpe (s:=k) (k + 1) [1] ⟨by omega,idx_step (p:=fun x=>x == v) hinv m8 (beq_eq_false_iff_ne.2 (by simpa [eq_comm] using h9))⟩ (by omega) ⟨rfl,rfl,rfl,rfl,trivial⟩ rfl))))))))
  · refine cf rfl (decide_eq_false h1) (xt (xq (xq (xb (nx (sq (rg (a_ rfl rfl (en (nx (rt (ret1 rfl rfl (fun w_ hs_=>⟨?_,hs_.below⟩)))))))))))))
    rw [idx_none (p:=fun x=>x == v) hinv (by omega)]
set_option maxRecDepth 20000 in
set_option maxHeartbeats 2000000 in
theorem slices_Contains_int64_int64 (w : World) (v : Int) {As : Option Addr} {cs : Nat} {s : List Int} {ss_ : List Nat} (hs : (Kd.sl Kd.i64).Rel w [.slice As s.length cs] s [] ss_)  : Calls Tryz.prog 144 #[.slice As s.length cs,.int .i64 v] w (fun e_ w2_=>e_ = .returned (.bool (decide (v ∈ s))) ∧ Below w.heap.size w w2_):=by
  have Ls:=Kd.sl_len hs; have Cs:=Kd.sl_cap hs
  refine fnc (X:=X2 9 w) (l:=[(0,.slice As s.length cs),(1,.int .i64 v)]) Tryz.func144 rfl rfl rfl ⟨rfl,rfl,trivial⟩ (s0d hs (s0n w)).1 ?_
  refine sq (rg (a_ rfl rfl (en (nx (sq (rg (m_ rfl rfl (m_ rfl rfl (cs_ (v:=.int .i64 (idx (fun x=>x == v) s)) (by kernel_rfl) rfl rfl rfl (fun w_ hs_=>slices_Index_int64_int64 w_ _ (hs_.at 0 rfl)) (vl (cm rfl rfl rfl rfl) rfl (a_ rfl rfl (en (nx (rt (ret1 rfl rfl (fun w_ hs_=>⟨?_,hs_.below⟩))))))))))))))))
  rw [← has_idx]
set_option maxRecDepth 20000 in
set_option maxHeartbeats 2000000 in
theorem impl_Arena_isPlace (w : World) (id : Int) {Aa1 : Option Addr} {ca1 : Nat} {Aa2 : Option Addr} {ca2 : Nat} {Aa3 : Option Addr} {ca3 : Nat} {a : Arena} {sa_ : List Nat} (ha : kArenaS.Rel w [.int .i64 a.dims,.slice Aa1 a.nodes.length ca1,.slice Aa2 a.free.length ca2,.slice Aa3 a.retired.length ca3] a [] sa_)  : Calls Tryz.prog 81 #[.agg #[.int .i64 a.dims,.slice Aa1 a.nodes.length ca1,.slice Aa2 a.free.length ca2,.slice Aa3 a.retired.length ca3],.int .i64 id] w (fun e_ w2_=>e_ = .returned (.bool (isPlace a id)) ∧ Below w.heap.size w w2_):=by
  have La1:=Kd.sub_len kArenaS_p1_1 ha; have Ca1:=Kd.sub_cap kArenaS_p1_1 ha rfl
  refine fnc (X:=X2 11 w) (l:=[(0,.agg #[.int .i64 a.dims,.slice Aa1 a.nodes.length ca1,.slice Aa2 a.free.length ca2,.slice Aa3 a.retired.length ca3]),(1,.int .i64 id)]) Tryz.func81 rfl rfl rfl ⟨rfl,rfl,trivial⟩ (s0d ha (s0n w)).1 ?_
  refine sq (rg (bx rfl rfl rfl rfl ?_))
  intro b1
  refine a_ rfl rfl (en (nx (sq (rg (m_ rfl rfl (vl (fa rfl rfl rfl) rfl (vl (ldb (u:=.slice Aa1 a.nodes.length ca1) 0 rfl rfl rfl rfl rfl rfl rfl) rfl (vl (ln rfl rfl rfl) rfl (vl (rs (c:=((a.nodes.length : Nat) : Int) - 1) rfl rfl rfl rfl (by omega) (by omega)) rfl (cs_ (v:=.bool (within id 0 (((a.nodes.length : Nat) : Int) - 1))) (by kernel_rfl) rfl rfl rfl (fun w_ hs_=>impl_within w_ _ _ _) (a_ rfl rfl (en (nx (rt (ret1 rfl rfl (fun w_ hs_=>⟨?_,hs_.below⟩))))))))))))))))
  rfl
set_option maxRecDepth 20000 in
set_option maxHeartbeats 2000000 in
theorem spec_l4Place (w : World) (id : Int) {Aa1 : Option Addr} {ca1 : Nat} {Aa2 : Option Addr} {ca2 : Nat} {Aa3 : Option Addr} {ca3 : Nat} {a : Arena} {sa_ : List Nat} {pa : Addr} (ha : (ptr kArenaS pa [.int .i64 a.dims,.slice Aa1 a.nodes.length ca1,.slice Aa2 a.free.length ca2,.slice Aa3 a.retired.length ca3] a sa_).P w)  : Calls Tryz.prog 59 #[.pointer (some pa),.int .i64 id] w (fun e_ w2_=>e_ = .returned (.bool (isPlace a id)) ∧ Below w.heap.size w w2_):=by
  have La1:=Kd.sub_len kArenaS_p1_1 ha.2.2.2; have Ca1:=Kd.sub_cap kArenaS_p1_1 ha.2.2.2 rfl
  refine fnc (X:=X2 13 w) (l:=[(0,.pointer (some pa)),(1,.int .i64 id)]) Tryz.func59 rfl rfl rfl ⟨rfl,rfl,trivial⟩ (s0p ha (s0n w)).1 ?_
  refine sq (rg (a_ rfl rfl (en (nx (sq (rg (m_ rfl rfl (m_ rfl rfl (vl (nc rfl rfl) rfl (vl (fa rfl rfl rfl) rfl (vl (ldp (u:=.slice Aa1 a.nodes.length ca1) 0 rfl rfl rfl rfl rfl rfl rfl) rfl (vl (ln rfl rfl rfl) rfl (vl (rs (c:=((a.nodes.length : Nat) : Int) - 1) rfl rfl rfl rfl (by omega) (by omega)) rfl (cs_ (v:=.bool (within id 0 (((a.nodes.length : Nat) : Int) - 1))) (by kernel_rfl) rfl rfl rfl (fun w_ hs_=>spec_l1In w_ _ _ _) (a_ rfl rfl (en (nx (rt (ret1 rfl rfl (fun w_ hs_=>⟨?_,hs_.below⟩))))))))))))))))))))
  rfl
set_option maxRecDepth 20000 in
set_option maxHeartbeats 2000000 in
theorem impl_Arena_isFree (w : World) (id : Int) {Aa1 : Option Addr} {ca1 : Nat} {Aa2 : Option Addr} {ca2 : Nat} {Aa3 : Option Addr} {ca3 : Nat} {a : Arena} {sa_ : List Nat} (ha : kArenaS.Rel w [.int .i64 a.dims,.slice Aa1 a.nodes.length ca1,.slice Aa2 a.free.length ca2,.slice Aa3 a.retired.length ca3] a [] sa_)  : Calls Tryz.prog 84 #[.agg #[.int .i64 a.dims,.slice Aa1 a.nodes.length ca1,.slice Aa2 a.free.length ca2,.slice Aa3 a.retired.length ca3],.int .i64 id] w (fun e_ w2_=>e_ = .returned (.bool (decide (id ∈ a.free))) ∧ Below w.heap.size w w2_):=by
  refine fnc (X:=X2 9 w) (l:=[(0,.agg #[.int .i64 a.dims,.slice Aa1 a.nodes.length ca1,.slice Aa2 a.free.length ca2,.slice Aa3 a.retired.length ca3]),(1,.int .i64 id)]) Tryz.func84 rfl rfl rfl ⟨rfl,rfl,trivial⟩ (s0d ha (s0n w)).1 ?_
  refine sq (rg (bx rfl rfl rfl rfl ?_))
  intro b1
  refine a_ rfl rfl (en (nx (sq (rg (vl (fa rfl rfl rfl) rfl (vl (ldb (u:=.slice Aa2 a.free.length ca2) 0 rfl rfl rfl rfl rfl rfl rfl) rfl (m_ rfl rfl ?_)))))))
  refine gd 1 kArenaS_p2_1 rfl (cs':=[.slice Aa2 a.free.length ca2]) rfl fun s2 w_ rs2 us2=>?_
  have Ls2:=Kd.sl_len rs2; have Cs2:=Kd.sl_cap rs2
  refine cs_ (v:=.bool (decide (id ∈ a.free))) (by kernel_rfl) rfl rfl rfl (fun w_ hs_=>slices_Contains_int64_int64 w_ _ (hs_.at 0 rfl)) (a_ rfl rfl (en (nx (rt (ret1 rfl rfl (fun w_ hs_=>⟨?_,hs_.below⟩))))))
  rfl
set_option maxRecDepth 20000 in
set_option maxHeartbeats 2000000 in
theorem impl_sameNode_1 (w : World) {Ad0 : Option Addr} {cd0 : Nat} {Ad1 : Option Addr} {cd1 : Nat} {d : Entry} {sd_ : List Nat} (hd : kEntryS.Rel w [.slice Ad0 d.rect.low.length cd0,.slice Ad1 d.rect.high.length cd1,.int .i64 d.ref,.int .i64 d.nsn] d [] sd_) {Ae0 : Option Addr} {ce0 : Nat} {Ae1 : Option Addr} {ce1 : Nat} {e : Entry} {se_ : List Nat} (he : kEntryS.Rel w [.slice Ae0 e.rect.low.length ce0,.slice Ae1 e.rect.high.length ce1,.int .i64 e.ref,.int .i64 e.nsn] e [] se_)  : Calls Tryz.prog 171 #[.agg #[.slice Ad0 d.rect.low.length cd0,.slice Ad1 d.rect.high.length cd1,.int .i64 d.ref,.int .i64 d.nsn],.agg #[.slice Ae0 e.rect.low.length ce0,.slice Ae1 e.rect.high.length ce1,.int .i64 e.ref,.int .i64 e.nsn]] w (fun e_ w2_=>e_ = .returned (.bool (decide (d = e))) ∧ Below w.heap.size w w2_):=by
  refine fnc (X:=X2 24 w) (l:=[(0,.agg #[.slice Ad0 d.rect.low.length cd0,.slice Ad1 d.rect.high.length cd1,.int .i64 d.ref,.int .i64 d.nsn]),(1,.agg #[.slice Ae0 e.rect.low.length ce0,.slice Ae1 e.rect.high.length ce1,.int .i64 e.ref,.int .i64 e.nsn])]) Tryz.func171 rfl rfl rfl ⟨rfl,rfl,trivial⟩ (s0d he (s0d hd (s0n w))).1 ?_
  refine sq (rg (bx rfl rfl rfl rfl ?_))
  intro b1
  refine bx rfl rfl rfl rfl ?_
  intro b2
  refine a_ rfl rfl (en (nx (sq (rg (vl (fa rfl rfl rfl) rfl (vl (ldb 1 rfl rfl rfl rfl rfl rfl rfl) rfl (vl (fa rfl rfl rfl) rfl (vl (ldb 0 rfl rfl rfl rfl rfl rfl rfl) rfl ?_))))))))
  refine gd 3 kEntryS_p0_2 rfl (cs':=[.slice Ad0 d.rect.low.length cd0,.slice Ad1 d.rect.high.length cd1]) rfl fun s3 w_ rs3 us3=>?_
  refine gd 3 kEntryS_p0_2 rfl (cs':=[.slice Ae0 e.rect.low.length ce0,.slice Ae1 e.rect.high.length ce1]) rfl fun s4 w_ rs4 us4=>?_
  refine cs_ (v:=.bool (decide (d.rect = e.rect))) (by kernel_rfl) rfl rfl rfl (fun w_ hs_=>impl_SameRects w_ (hs_.at 1 rfl) (hs_.at 0 rfl)) (m_ rfl rfl ?_)
  by_cases h5 : decide (d.rect = e.rect) = true
  · refine vg (fa rfl rfl rfl) rfl rfl h5 (vg (ldb (u:=.int .i64 d.ref) 3 rfl rfl rfl rfl rfl rfl rfl) rfl rfl h5 (vg (fa rfl rfl rfl) rfl rfl h5 (vg (ldb (u:=.int .i64 e.ref) 2 rfl rfl rfl rfl rfl rfl rfl) rfl rfl h5 (vg (cm rfl rfl rfl rfl) rfl rfl h5 (vl (pk (b:=true) rfl rfl h5 rfl) rfl (m_ rfl rfl ?_))))))
    by_cases h6 : d.ref = e.ref
    · refine vg (fa rfl rfl rfl) rfl rfl (beq_iff_eq.2 h6) (vg (ldb (u:=.int .i64 d.nsn) 3 rfl rfl rfl rfl rfl rfl rfl) rfl rfl (beq_iff_eq.2 h6) (vg (fa rfl rfl rfl) rfl rfl (beq_iff_eq.2 h6) (vg (ldb (u:=.int .i64 e.nsn) 2 rfl rfl rfl rfl rfl rfl rfl) rfl rfl (beq_iff_eq.2 h6) (vg (cm rfl rfl rfl rfl) rfl rfl (beq_iff_eq.2 h6) (vl (pk (b:=true) rfl rfl (beq_iff_eq.2 h6) rfl) rfl (a_ rfl rfl (en (nx (rt (ret1 rfl rfl (fun w_ hs_=>⟨?_,hs_.below⟩)))))))))))
      exact rb (by rw [← eqE]; grind)
    · refine sg rfl rfl (beq_eq_false_iff_ne.2 h6) (sg rfl rfl (beq_eq_false_iff_ne.2 h6) (sg rfl rfl (beq_eq_false_iff_ne.2 h6) (sg rfl rfl (beq_eq_false_iff_ne.2 h6) (sg rfl rfl (beq_eq_false_iff_ne.2 h6) (vl (pk (b:=false) rfl rfl (beq_eq_false_iff_ne.2 h6) rfl) rfl (a_ rfl rfl (en (nx (rt (ret1 rfl rfl (fun w_ hs_=>⟨?_,hs_.below⟩)))))))))))
      exact rb (by rw [← eqE]; grind)
  · refine sg rfl rfl (Bool.eq_false_iff.2 h5) (sg rfl rfl (Bool.eq_false_iff.2 h5) (sg rfl rfl (Bool.eq_false_iff.2 h5) (sg rfl rfl (Bool.eq_false_iff.2 h5) (sg rfl rfl (Bool.eq_false_iff.2 h5) (vl (pk (b:=false) rfl rfl (Bool.eq_false_iff.2 h5) rfl) rfl (m_ rfl rfl (sg rfl rfl rfl (sg rfl rfl rfl (sg rfl rfl rfl (sg rfl rfl rfl (sg rfl rfl rfl (vl (pk (b:=false) rfl rfl rfl rfl) rfl (a_ rfl rfl (en (nx (rt (ret1 rfl rfl (fun w_ hs_=>⟨?_,hs_.below⟩))))))))))))))))))
    exact rb (by rw [← eqE]; grind)
theorem eqf_step {α β : Type} {p : α → β → Bool} {l : List α} {r : List β} {k : Nat} {u : α} {v : β} (h : ∀ j x y,j < k → l[j]? = some x → r[j]? = some y → p x y = true) (hu : l[k]? = some u) (hv : r[k]? = some v) (he : p u v = true) : ∀ j x y,j < k + 1 → l[j]? = some x → r[j]? = some y → p x y = true:=fun j x y hj hx hy=>by
  rcases Nat.lt_succ_iff_lt_or_eq.1 hj with hlt | rfl
  · exact h j x y hlt hx hy
  · rw [hu] at hx; rw [hv] at hy; cases hx; cases hy; exact he
set_option maxRecDepth 20000 in
set_option maxHeartbeats 2000000 in
theorem slices_EqualFunc_impl_Entry_impl_Entry_impl_Entry_impl_Entry (w : World) (p : Entry → Entry → Bool) {fp : FuncId} {cfp : List Value} (hEp : enters Tryz.prog fp = true) {As1 : Option Addr} {cs1 : Nat} {s1 : List Entry} {ss1_ : List Nat} (hs1 : (Kd.sl kEntryS).Rel w [.slice As1 s1.length cs1] s1 [] ss1_) {As2 : Option Addr} {cs2 : Nat} {s2 : List Entry} {ss2_ : List Nat} (hs2 : (Kd.sl kEntryS).Rel w [.slice As2 s2.length cs2] s2 [] ss2_) (hfp : ∀ (w1 : World) (x0 : Entry) (x1 : Entry),x0 ∈ s1 → x1 ∈ s2 → Below w.heap.size w w1 → ∀ (A1_1 : Option Addr) (c1_1 : Nat),∀ (A1_0 : Option Addr) (c1_0 : Nat),∀ (A0_1 : Option Addr) (c0_1 : Nat),∀ (A0_0 : Option Addr) (c0_0 : Nat),∀ s0_ : List Nat,kEntryS.Rel w1 [.slice A0_0 x0.rect.low.length c0_0,.slice A0_1 x0.rect.high.length c0_1,.int .i64 x0.ref,.int .i64 x0.nsn] x0 [] s0_ → ∀ s1_ : List Nat,kEntryS.Rel w1 [.slice A1_0 x1.rect.low.length c1_0,.slice A1_1 x1.rect.high.length c1_1,.int .i64 x1.ref,.int .i64 x1.nsn] x1 [] s1_ → Calls Tryz.prog fp (([.agg #[.slice A0_0 x0.rect.low.length c0_0,.slice A0_1 x0.rect.high.length c0_1,.int .i64 x0.ref,.int .i64 x0.nsn],.agg #[.slice A1_0 x1.rect.low.length c1_0,.slice A1_1 x1.rect.high.length c1_1,.int .i64 x1.ref,.int .i64 x1.nsn]] : List Value) ++ cfp).toArray w1 (fun e_ w2_=>e_ = .returned (.bool (p x0 x1)) ∧ Below w1.heap.size w1 w2_))  : Calls Tryz.prog 170 #[.slice As1 s1.length cs1,.slice As2 s2.length cs2,.func (.func fp) #[] cfp.toArray] w (fun e_ w2_=>e_ = .returned (.bool (eqBy p s1 s2)) ∧ Below w.heap.size w w2_):=by
  have Ls1:=Kd.sl_len hs1; have Cs1:=Kd.sl_cap hs1
  have Ls2:=Kd.sl_len hs2; have Cs2:=Kd.sl_cap hs2
  refine fnc (X:=X2 32 w) (l:=[(0,.slice As1 s1.length cs1),(1,.slice As2 s2.length cs2),(2,.func (.func fp) #[] cfp.toArray)]) Tryz.func170 rfl rfl rfl ⟨rfl,rfl,rfl,trivial⟩ (s0d hs2 (s0d hs1 (s0n w))).1 ?_
  refine sq (rg (a_ rfl rfl (en (nx (sq (sq (rg (m_ rfl rfl (vl (ln rfl rfl rfl) rfl (m_ rfl rfl (vl (ln rfl rfl rfl) rfl (vl (cm rfl rfl rfl rfl) rfl (en (nx ?_))))))))))))))
  by_cases h1 : ((s1.length : Nat) : Int) = ((s2.length : Nat) : Int)
  · refine cf rfl (bne_eq_false_iff_eq.2 h1) (sk (nx (sq (sq (rg (m_ rfl rfl (vl (ln rfl rfl rfl) rfl (m_ rfl rfl (en (nx (bk ?_)))))))))))
    refine lp (σ:=Nat) (fun k : Nat=>[(1,.slice As2 s2.length cs2),(2,.func (.func fp) #[] cfp.toArray),(15,.slice As1 s1.length cs1),(16,.int .i64 ((s1.length : Nat) : Int)),(17,.int .i64 ((k : Nat) : Int))])
        (fun k : Nat=>[dat (Kd.sl kEntryS) [.slice As2 s2.length cs2] s2 ([]) ss2_,dat (Kd.sl kEntryS) [.slice As1 s1.length cs1] s1 ([]) ss1_])
        (fun k : Nat=>k ≤ s1.length ∧ ∀ j x y,j < k → s1[j]? = some x → s2[j]? = some y → p x y = true) (fun k : Nat=>s1.length - k) 0 [0,0] ⟨Nat.zero_le _,by simp⟩ ⟨rfl,rfl,rfl,rfl,rfl,trivial⟩ rfl ?_
    intro k hp_
    obtain ⟨hk,hinv⟩:=hp_
    refine sq (rg (vl (cm rfl rfl rfl rfl) rfl (en (nx (sq ?_)))))
    by_cases h2 : ((k : Nat) : Int) < ((s1.length : Nat) : Int)
    · refine ct rfl (decide_eq_true h2) (sk (nx (sq (bk (sq (rg (m_ rfl rfl ?_)))))))
      refine gx 1 k rfl (by omega) fun y8 p3 cs_ s4 w7 m9 e5 r6 us4=>?_
      obtain ⟨A10,c11,A12,c13,rfl⟩:=kEntryS_sh r6
      refine vl (ix k e5 rfl rfl rfl rfl rfl (by omega)) rfl (vl (ldq 0 rfl rfl rfl rfl rfl rfl rfl) rfl (al zero132 rfl rfl rfl ?_))
      intro b14
      refine a_ rfl rfl (sto rfl rfl rfl rfl rfl rfl rfl (cs':=[.slice A10 y8.rect.low.length c11,.slice A12 y8.rect.high.length c13,.int .i64 y8.ref,.int .i64 y8.nsn]) rfl (en (nx (sq (rg (m_ rfl rfl (m_ rfl rfl ?_)))))))
      refine gx 2 k rfl (by omega) fun y20 p15 cs_ s16 w19 m21 e17 r18 us16=>?_
      obtain ⟨A22,c23,A24,c25,rfl⟩:=kEntryS_sh r18
      refine vl (ix k e17 rfl rfl rfl rfl rfl (by omega)) rfl (vl (ldq 0 rfl rfl rfl rfl rfl rfl rfl) rfl (al zero132 rfl rfl rfl ?_))
      intro b26
      refine sto rfl rfl rfl rfl rfl rfl rfl (cs':=[.slice A22 y20.rect.low.length c23,.slice A24 y20.rect.high.length c25,.int .i64 y20.ref,.int .i64 y20.nsn]) rfl (en (nx (sq (rg (m_ rfl rfl (vl (ldb 2 rfl rfl rfl rfl rfl rfl rfl) rfl (vl (ldb 0 rfl rfl rfl rfl rfl rfl rfl) rfl ?_)))))))
      refine gp 3 Kd.Sub.rfl rfl (cs':=[.slice A10 y8.rect.low.length c11,.slice A12 y8.rect.high.length c13,.int .i64 y8.ref,.int .i64 y8.nsn]) rfl fun s27 w_ rs27 us27=>?_
      refine gp 2 Kd.Sub.rfl rfl (cs':=[.slice A22 y20.rect.low.length c23,.slice A24 y20.rect.high.length c25,.int .i64 y20.ref,.int .i64 y20.nsn]) rfl fun s28 w_ rs28 us28=>?_
      refine cv_ (v:=.bool (p y8 y20)) hEp rfl rfl rfl rfl (fun w_ hs_=>hfp w_ y8 y20 (List.mem_of_getElem? m9) (List.mem_of_getElem? m21) hs_.below _ _ _ _ _ _ _ _ _ (hs_.at 1 rfl) _ (hs_.at 0 rfl)) (vl (nt rfl rfl) rfl (en (nx ?_)))
      by_cases h29 : p y8 y20 = true
      · exact cf rfl (not_f h29) (sk (xn (nx (rg (vl (ra (c:=((k + 1 : Nat) : Int)) rfl rfl rfl (by omega) (by omega) (by omega)) rfl (m_ rfl rfl (en (lpe (s:=k) (k + 1) [6,6] ⟨by omega,eqf_step hinv m9 m21 h29⟩ (by omega) ⟨rfl,rfl,rfl,rfl,rfl,trivial⟩ rfl))))))))
      · refine ct rfl (not_t (Bool.eq_false_iff.2 h29)) (sq (rg (a_ rfl rfl (en (nx (rt (xrb (xr (xr (xrb (xr (ret1 rfl rfl (fun w_ hs_=>⟨?_,hs_.below⟩)))))))))))))
        exact rb (eqBy_at m9 m21 (Bool.eq_false_iff.2 h29)).symm
    · refine cf rfl (decide_eq_false h2) (xt (xq (xq (xb (nx (sq (rg (a_ rfl rfl (en (nx (rt (ret1 rfl rfl (fun w_ hs_=>⟨?_,hs_.below⟩)))))))))))))
      exact rb (eqBy_all (by omega) (fun i a b ha hb=>hinv i a b (by have:=(List.getElem?_eq_some_iff.1 ha).1; omega) ha hb)).symm
  · refine ct rfl (bne_iff_ne.2 h1) (sq (rg (a_ rfl rfl (en (nx (rt (xr (ret1 rfl rfl (fun w_ hs_=>⟨?_,hs_.below⟩)))))))))
    exact rb (eqBy_len (by omega)).symm
set_option maxRecDepth 20000 in
set_option maxHeartbeats 2000000 in
theorem impl_sameNode (w : World) {Aa3 : Option Addr} {ca3 : Nat} {a : Node} {sa_ : List Nat} (ha : kNodeS.Rel w [.int .i64 a.level,.int .i64 a.nsn,.int .i64 a.right,.slice Aa3 a.entries.length ca3] a [] sa_) {Ab3 : Option Addr} {cb3 : Nat} {b : Node} {sb_ : List Nat} (hb : kNodeS.Rel w [.int .i64 b.level,.int .i64 b.nsn,.int .i64 b.right,.slice Ab3 b.entries.length cb3] b [] sb_)  : Calls Tryz.prog 138 #[.agg #[.int .i64 a.level,.int .i64 a.nsn,.int .i64 a.right,.slice Aa3 a.entries.length ca3],.agg #[.int .i64 b.level,.int .i64 b.nsn,.int .i64 b.right,.slice Ab3 b.entries.length cb3]] w (fun e_ w2_=>e_ = .returned (.bool (decide (a = b))) ∧ Below w.heap.size w w2_):=by
  refine fnc (X:=X2 31 w) (l:=[(0,.agg #[.int .i64 a.level,.int .i64 a.nsn,.int .i64 a.right,.slice Aa3 a.entries.length ca3]),(1,.agg #[.int .i64 b.level,.int .i64 b.nsn,.int .i64 b.right,.slice Ab3 b.entries.length cb3])]) Tryz.func138 rfl rfl rfl ⟨rfl,rfl,trivial⟩ (s0d hb (s0d ha (s0n w))).1 ?_
  refine sq (rg (bx rfl rfl rfl rfl ?_))
  intro b1
  refine bx rfl rfl rfl rfl ?_
  intro b2
  refine a_ rfl rfl (en (nx (sq (rg (vl (fa rfl rfl rfl) rfl (vl (ldb (u:=.int .i64 a.level) 1 rfl rfl rfl rfl rfl rfl rfl) rfl (vl (fa rfl rfl rfl) rfl (vl (ldb (u:=.int .i64 b.level) 0 rfl rfl rfl rfl rfl rfl rfl) rfl (vl (cm rfl rfl rfl rfl) rfl (m_ rfl rfl ?_))))))))))
  by_cases h3 : a.level = b.level
  · refine vg (fa rfl rfl rfl) rfl rfl (beq_iff_eq.2 h3) (vg (ldb (u:=.int .i64 a.nsn) 1 rfl rfl rfl rfl rfl rfl rfl) rfl rfl (beq_iff_eq.2 h3) (vg (fa rfl rfl rfl) rfl rfl (beq_iff_eq.2 h3) (vg (ldb (u:=.int .i64 b.nsn) 0 rfl rfl rfl rfl rfl rfl rfl) rfl rfl (beq_iff_eq.2 h3) (vg (cm rfl rfl rfl rfl) rfl rfl (beq_iff_eq.2 h3) (vl (pk (b:=true) rfl rfl (beq_iff_eq.2 h3) rfl) rfl (m_ rfl rfl ?_))))))
    by_cases h4 : a.nsn = b.nsn
    · refine vg (fa rfl rfl rfl) rfl rfl (beq_iff_eq.2 h4) (vg (ldb (u:=.int .i64 a.right) 1 rfl rfl rfl rfl rfl rfl rfl) rfl rfl (beq_iff_eq.2 h4) (vg (fa rfl rfl rfl) rfl rfl (beq_iff_eq.2 h4) (vg (ldb (u:=.int .i64 b.right) 0 rfl rfl rfl rfl rfl rfl rfl) rfl rfl (beq_iff_eq.2 h4) (vg (cm rfl rfl rfl rfl) rfl rfl (beq_iff_eq.2 h4) (vl (pk (b:=true) rfl rfl (beq_iff_eq.2 h4) rfl) rfl (m_ rfl rfl ?_))))))
      by_cases h5 : a.right = b.right
      · refine vg (fa rfl rfl rfl) rfl rfl (beq_iff_eq.2 h5) (vg (ldb (u:=.slice Aa3 a.entries.length ca3) 1 rfl rfl rfl rfl rfl rfl rfl) rfl rfl (beq_iff_eq.2 h5) (vg (fa rfl rfl rfl) rfl rfl (beq_iff_eq.2 h5) (vg (ldb (u:=.slice Ab3 b.entries.length cb3) 0 rfl rfl rfl rfl rfl rfl rfl) rfl rfl (beq_iff_eq.2 h5) (gw rfl rfl (beq_iff_eq.2 h5) ?_))))
        refine gd 3 kNodeS_p3_1 rfl (cs':=[.slice Aa3 a.entries.length ca3]) rfl fun s6 w_ rs6 us6=>?_
        have Ls6:=Kd.sl_len rs6; have Cs6:=Kd.sl_cap rs6
        refine gd 3 kNodeS_p3_1 rfl (cs':=[.slice Ab3 b.entries.length cb3]) rfl fun s7 w_ rs7 us7=>?_
        have Ls7:=Kd.sl_len rs7; have Cs7:=Kd.sl_cap rs7
        refine cs_ (v:=.bool (eqBy (fun (x0 : Entry) (x1 : Entry)=>decide (x0 = x1)) a.entries b.entries)) (by kernel_rfl) rfl rfl rfl (fun w_ hs_=>slices_EqualFunc_impl_Entry_impl_Entry_impl_Entry_impl_Entry w_ (fun (x0 : Entry) (x1 : Entry)=>decide (x0 = x1)) (by kernel_rfl) (hs_.at 1 rfl) (hs_.at 0 rfl) (fun w1 x0 x1 m0_ m1_ b_ _ _ _ _ _ _ _ _ _ r0_ _ r1_=>impl_sameNode_1 w1  r0_ r1_)) (vl (pk (b:=true) rfl rfl (beq_iff_eq.2 h5) rfl) rfl (a_ rfl rfl (en (nx (rt (ret1 rfl rfl (fun w_ hs_=>⟨?_,hs_.below⟩)))))))
        exact rb (by rw [Node_eq]; have z:=eqBy_eq (p:=fun (x0 : Entry) (x1 : Entry)=>decide (x0 = x1)) (fun _ _=>rfl) a.entries b.entries; grind)
      · refine sg rfl rfl (beq_eq_false_iff_ne.2 h5) (sg rfl rfl (beq_eq_false_iff_ne.2 h5) (sg rfl rfl (beq_eq_false_iff_ne.2 h5) (sg rfl rfl (beq_eq_false_iff_ne.2 h5) (sg rfl rfl (beq_eq_false_iff_ne.2 h5) (vl (pk (b:=false) rfl rfl (beq_eq_false_iff_ne.2 h5) rfl) rfl (a_ rfl rfl (en (nx (rt (ret1 rfl rfl (fun w_ hs_=>⟨?_,hs_.below⟩)))))))))))
        exact rb (by rw [Node_eq]; have z:=eqBy_eq (p:=fun (x0 : Entry) (x1 : Entry)=>decide (x0 = x1)) (fun _ _=>rfl) a.entries b.entries; grind)
    · refine sg rfl rfl (beq_eq_false_iff_ne.2 h4) (sg rfl rfl (beq_eq_false_iff_ne.2 h4) (sg rfl rfl (beq_eq_false_iff_ne.2 h4) (sg rfl rfl (beq_eq_false_iff_ne.2 h4) (sg rfl rfl (beq_eq_false_iff_ne.2 h4) (vl (pk (b:=false) rfl rfl (beq_eq_false_iff_ne.2 h4) rfl) rfl (m_ rfl rfl (sg rfl rfl rfl (sg rfl rfl rfl (sg rfl rfl rfl (sg rfl rfl rfl (sg rfl rfl rfl (vl (pk (b:=false) rfl rfl rfl rfl) rfl (a_ rfl rfl (en (nx (rt (ret1 rfl rfl (fun w_ hs_=>⟨?_,hs_.below⟩))))))))))))))))))
      exact rb (by rw [Node_eq]; have z:=eqBy_eq (p:=fun (x0 : Entry) (x1 : Entry)=>decide (x0 = x1)) (fun _ _=>rfl) a.entries b.entries; grind)
  · refine sg rfl rfl (beq_eq_false_iff_ne.2 h3) (sg rfl rfl (beq_eq_false_iff_ne.2 h3) (sg rfl rfl (beq_eq_false_iff_ne.2 h3) (sg rfl rfl (beq_eq_false_iff_ne.2 h3) (sg rfl rfl (beq_eq_false_iff_ne.2 h3) (vl (pk (b:=false) rfl rfl (beq_eq_false_iff_ne.2 h3) rfl) rfl (m_ rfl rfl (sg rfl rfl rfl (sg rfl rfl rfl (sg rfl rfl rfl (sg rfl rfl rfl (sg rfl rfl rfl (vl (pk (b:=false) rfl rfl rfl rfl) rfl (m_ rfl rfl (sg rfl rfl rfl (sg rfl rfl rfl (sg rfl rfl rfl (sg rfl rfl rfl (sg rfl rfl rfl (vl (pk (b:=false) rfl rfl rfl rfl) rfl (a_ rfl rfl (en (nx (rt (ret1 rfl rfl (fun w_ hs_=>⟨?_,hs_.below⟩)))))))))))))))))))))))))
    exact rb (by rw [Node_eq]; have z:=eqBy_eq (p:=fun (x0 : Entry) (x1 : Entry)=>decide (x0 = x1)) (fun _ _=>rfl) a.entries b.entries; grind)
set_option maxRecDepth 20000 in
set_option maxHeartbeats 2000000 in
theorem spec_l3SameEntries (w : World) {Aa : Option Addr} {ca : Nat} {a : List Entry} {sa_ : List Nat} (ha : (Kd.sl kEntryS).Rel w [.slice Aa a.length ca] a [] sa_) {Ab : Option Addr} {cb : Nat} {b : List Entry} {sb_ : List Nat} (hb : (Kd.sl kEntryS).Rel w [.slice Ab b.length cb] b [] sb_)  : Calls Tryz.prog 163 #[.slice Aa a.length ca,.slice Ab b.length cb] w (fun e_ w2_=>e_ = .returned (.bool (decide (a = b))) ∧ Below w.heap.size w w2_):=by
  have La:=Kd.sl_len ha; have Ca:=Kd.sl_cap ha
  have Lb:=Kd.sl_len hb; have Cb:=Kd.sl_cap hb
  refine fnc (X:=X2 55 w) (l:=[(0,.slice Aa a.length ca),(1,.slice Ab b.length cb)]) Tryz.func163 rfl rfl rfl ⟨rfl,rfl,trivial⟩ (s0d hb (s0d ha (s0n w))).1 ?_
  refine sq (rg (a_ rfl rfl (en (nx (sq (sq (rg (m_ rfl rfl (vl (ln rfl rfl rfl) rfl (m_ rfl rfl (vl (ln rfl rfl rfl) rfl (vl (cm rfl rfl rfl rfl) rfl (en (nx ?_))))))))))))))
  by_cases h1 : ((a.length : Nat) : Int) = ((b.length : Nat) : Int)
  · refine cf rfl (bne_eq_false_iff_eq.2 h1) (sk (nx (sq (sq (rg (a_ rfl rfl (en (nx (bk ?_)))))))))
    refine lp (σ:=Nat) (fun k : Nat=>[(0,.slice Aa a.length ca),(1,.slice Ab b.length cb),(5,.int .i64 ((k : Nat) : Int))])
        (fun k : Nat=>[dat (Kd.sl kEntryS) [.slice Ab b.length cb] b ([]) sb_,dat (Kd.sl kEntryS) [.slice Aa a.length ca] a ([]) sa_])
        (fun k : Nat=>k ≤ a.length ∧ ∀ j x y,j < k → a[j]? = some x → b[j]? = some y → x = y) (fun k : Nat=>a.length - k) 0 [0,0] ⟨Nat.zero_le _,by simp⟩ ⟨rfl,rfl,rfl,trivial⟩ rfl ?_
    intro k hp_
    obtain ⟨hk,hinv⟩:=hp_
    refine sq (sq (rg (m_ rfl rfl (m_ rfl rfl (vl (ln rfl rfl rfl) rfl (vl (cm rfl rfl rfl rfl) rfl (en (nx ?_))))))))
    by_cases h2 : ((k : Nat) : Int) < ((a.length : Nat) : Int)
    · refine ct rfl (decide_eq_true h2) (sk (nx (sq (bk (sq ?_)))))
      refine gx 1 k rfl (by omega) fun y8 p3 cs_ s4 w7 m9 e5 r6 us4=>?_
      obtain ⟨A10,c11,A12,c13,rfl⟩:=kEntryS_sh r6
      refine gx 1 k rfl (by omega) fun y19 p14 cs_ s15 w18 m20 e16 r17 us15=>?_
      obtain ⟨A21,c22,A23,c24,rfl⟩:=kEntryS_sh r17
      by_cases h25 : y8.ref = y19.ref
      · by_cases h26 : y8.nsn = y19.nsn
        · refine gp 1 kEntryS_p0_2 rfl (cs':=[.slice A10 y8.rect.low.length c11,.slice A12 y8.rect.high.length c13]) rfl fun s27 w_ rs27 us27=>?_
          refine gp 1 kEntryS_p0_2 rfl (cs':=[.slice A21 y19.rect.low.length c22,.slice A23 y19.rect.high.length c24]) rfl fun s28 w_ rs28 us28=>?_
          refine r0 (qv 0 rfl (mv rfl rfl) rfl (by kernel_rfl) (qv 1 rfl (mv rfl rfl) rfl (by kernel_rfl) (qv 2 rfl (ix k e5 rfl rfl rfl rfl rfl (by omega)) rfl (by kernel_rfl) (qv 3 rfl (fa rfl rfl rfl) rfl (by kernel_rfl) (qv 4 rfl (ldp (u:=.int .i64 y8.ref) 3 rfl rfl rfl rfl rfl rfl rfl) rfl (by kernel_rfl) (qv 5 rfl (mv rfl rfl) rfl (by kernel_rfl) (qv 6 rfl (mv rfl rfl) rfl (by kernel_rfl) (qv 7 rfl (ix k e16 rfl rfl rfl rfl rfl (by omega)) rfl (by kernel_rfl) (qv 8 rfl (fa rfl rfl rfl) rfl (by kernel_rfl) (qv 9 rfl (ldp (u:=.int .i64 y19.ref) 2 rfl rfl rfl rfl rfl rfl rfl) rfl (by kernel_rfl) (qv 10 rfl (cm rfl rfl rfl rfl) rfl (by kernel_rfl) (qv 11 rfl (mv rfl rfl) rfl (by kernel_rfl) (qg 12 rfl (mv rfl rfl) rfl rfl (bne_eq_false_iff_eq.2 h25) (by kernel_rfl) (qg 13 rfl (mv rfl rfl) rfl rfl (bne_eq_false_iff_eq.2 h25) (by kernel_rfl) (qg 14 rfl (ix k e5 rfl rfl rfl rfl rfl (by omega)) rfl rfl (bne_eq_false_iff_eq.2 h25) (by kernel_rfl) (qg 15 rfl (fa rfl rfl rfl) rfl rfl (bne_eq_false_iff_eq.2 h25) (by kernel_rfl) (qg 16 rfl (ldp (u:=.int .i64 y8.nsn) 3 rfl rfl rfl rfl rfl rfl rfl) rfl rfl (bne_eq_false_iff_eq.2 h25) (by kernel_rfl) (qg 17 rfl (mv rfl rfl) rfl rfl (bne_eq_false_iff_eq.2 h25) (by kernel_rfl) (qg 18 rfl (mv rfl rfl) rfl rfl (bne_eq_false_iff_eq.2 h25) (by kernel_rfl) (qg 19 rfl (ix k e16 rfl rfl rfl rfl rfl (by omega)) rfl rfl (bne_eq_false_iff_eq.2 h25) (by kernel_rfl) (qg 20 rfl (fa rfl rfl rfl) rfl rfl (bne_eq_false_iff_eq.2 h25) (by kernel_rfl) (qg 21 rfl (ldp (u:=.int .i64 y19.nsn) 2 rfl rfl rfl rfl rfl rfl rfl) rfl rfl (bne_eq_false_iff_eq.2 h25) (by kernel_rfl) (qg 22 rfl (cm rfl rfl rfl rfl) rfl rfl (bne_eq_false_iff_eq.2 h25) (by kernel_rfl) (qv 23 rfl (pk (b:=false) rfl rfl (bne_eq_false_iff_eq.2 h25) rfl) rfl (by kernel_rfl) (qv 24 rfl (mv rfl rfl) rfl (by kernel_rfl) (qg 25 rfl (mv rfl rfl) rfl rfl (bne_eq_false_iff_eq.2 h26) (by kernel_rfl) (qg 26 rfl (mv rfl rfl) rfl rfl (bne_eq_false_iff_eq.2 h26) (by kernel_rfl) (qg 27 rfl (ix k e5 rfl rfl rfl rfl rfl (by omega)) rfl rfl (bne_eq_false_iff_eq.2 h26) (by kernel_rfl) (qg 28 rfl (fa rfl rfl rfl) rfl rfl (bne_eq_false_iff_eq.2 h26) (by kernel_rfl) (qg 29 rfl (ldp 3 rfl rfl rfl rfl rfl rfl rfl) rfl rfl (bne_eq_false_iff_eq.2 h26) (by kernel_rfl) (qg 30 rfl (mv rfl rfl) rfl rfl (bne_eq_false_iff_eq.2 h26) (by kernel_rfl) (qg 31 rfl (mv rfl rfl) rfl rfl (bne_eq_false_iff_eq.2 h26) (by kernel_rfl) (qg 32 rfl (ix k e16 rfl rfl rfl rfl rfl (by omega)) rfl rfl (bne_eq_false_iff_eq.2 h26) (by kernel_rfl) (qg 33 rfl (fa rfl rfl rfl) rfl rfl (bne_eq_false_iff_eq.2 h26) (by kernel_rfl) (qg 34 rfl (ldp 2 rfl rfl rfl rfl rfl rfl rfl) rfl rfl (bne_eq_false_iff_eq.2 h26) (by kernel_rfl) (q1 35 [0,0,0,0,0,0] rfl (by kernel_rfl) rfl (gw rfl rfl (bne_eq_false_iff_eq.2 h26) (cs_ (v:=.bool (decide (y8.rect = y19.rect))) (by kernel_rfl) rfl rfl rfl (fun w_ hs_=>by exact spec_SameRects w_ (hs_.at 1 rfl) (hs_.at 0 rfl)) (qn (qg 36 rfl (nt rfl rfl) rfl rfl (bne_eq_false_iff_eq.2 h26) (by kernel_rfl) (qv 37 rfl (pk (b:=false) rfl rfl (bne_eq_false_iff_eq.2 h26) rfl) rfl (by kernel_rfl) (qe [0,0,0,0,0,0] (by kernel_rfl) rfl (nx ?_)))))))))))))))))))))))))))))))))))))))))))
          by_cases h29 : decide (y8.rect = y19.rect) = true
          · exact cf rfl (not_f h29) (sk (xn (nx (rg (m_ rfl rfl (vl (ra (c:=((k + 1 : Nat) : Int)) rfl rfl rfl (by omega) (by omega) (by omega)) rfl (a_ rfl rfl (en (lpe (s:=k) (k + 1) [4,4] ⟨by omega,eq_step hinv m9 m20 (by cases y8; cases y19; simp_all)⟩ (by omega) ⟨rfl,rfl,rfl,trivial⟩ rfl)))))))))
          · refine ct rfl (not_t (Bool.eq_false_iff.2 h29)) (sq (rg (a_ rfl rfl (en (nx (rt (xrb (xr (xr (xrb (xr (ret1 rfl rfl (fun w_ hs_=>⟨?_,hs_.below⟩)))))))))))))
            exact rb (eqS_f m9 m20 (by rintro rfl; simp_all)).symm
        · refine r0 (qv 0 rfl (mv rfl rfl) rfl (by kernel_rfl) (qv 1 rfl (mv rfl rfl) rfl (by kernel_rfl) (qv 2 rfl (ix k e5 rfl rfl rfl rfl rfl (by omega)) rfl (by kernel_rfl) (qv 3 rfl (fa rfl rfl rfl) rfl (by kernel_rfl) (qv 4 rfl (ldp (u:=.int .i64 y8.ref) 1 rfl rfl rfl rfl rfl rfl rfl) rfl (by kernel_rfl) (qv 5 rfl (mv rfl rfl) rfl (by kernel_rfl) (qv 6 rfl (mv rfl rfl) rfl (by kernel_rfl) (qv 7 rfl (ix k e16 rfl rfl rfl rfl rfl (by omega)) rfl (by kernel_rfl) (qv 8 rfl (fa rfl rfl rfl) rfl (by kernel_rfl) (qv 9 rfl (ldp (u:=.int .i64 y19.ref) 0 rfl rfl rfl rfl rfl rfl rfl) rfl (by kernel_rfl) (qv 10 rfl (cm rfl rfl rfl rfl) rfl (by kernel_rfl) (qv 11 rfl (mv rfl rfl) rfl (by kernel_rfl) (qg 12 rfl (mv rfl rfl) rfl rfl (bne_eq_false_iff_eq.2 h25) (by kernel_rfl) (qg 13 rfl (mv rfl rfl) rfl rfl (bne_eq_false_iff_eq.2 h25) (by kernel_rfl) (qg 14 rfl (ix k e5 rfl rfl rfl rfl rfl (by omega)) rfl rfl (bne_eq_false_iff_eq.2 h25) (by kernel_rfl) (qg 15 rfl (fa rfl rfl rfl) rfl rfl (bne_eq_false_iff_eq.2 h25) (by kernel_rfl) (qg 16 rfl (ldp (u:=.int .i64 y8.nsn) 1 rfl rfl rfl rfl rfl rfl rfl) rfl rfl (bne_eq_false_iff_eq.2 h25) (by kernel_rfl) (qg 17 rfl (mv rfl rfl) rfl rfl (bne_eq_false_iff_eq.2 h25) (by kernel_rfl) (qg 18 rfl (mv rfl rfl) rfl rfl (bne_eq_false_iff_eq.2 h25) (by kernel_rfl) (qg 19 rfl (ix k e16 rfl rfl rfl rfl rfl (by omega)) rfl rfl (bne_eq_false_iff_eq.2 h25) (by kernel_rfl) (qg 20 rfl (fa rfl rfl rfl) rfl rfl (bne_eq_false_iff_eq.2 h25) (by kernel_rfl) (qg 21 rfl (ldp (u:=.int .i64 y19.nsn) 0 rfl rfl rfl rfl rfl rfl rfl) rfl rfl (bne_eq_false_iff_eq.2 h25) (by kernel_rfl) (qg 22 rfl (cm rfl rfl rfl rfl) rfl rfl (bne_eq_false_iff_eq.2 h25) (by kernel_rfl) (qv 23 rfl (pk (b:=false) rfl rfl (bne_eq_false_iff_eq.2 h25) rfl) rfl (by kernel_rfl) (qv 24 rfl (mv rfl rfl) rfl (by kernel_rfl) (qs 25 rfl rfl rfl (bne_iff_ne.2 h26) (by kernel_rfl) (qs 26 rfl rfl rfl (bne_iff_ne.2 h26) (by kernel_rfl) (qs 27 rfl rfl rfl (bne_iff_ne.2 h26) (by kernel_rfl) (qs 28 rfl rfl rfl (bne_iff_ne.2 h26) (by kernel_rfl) (qs 29 rfl rfl rfl (bne_iff_ne.2 h26) (by kernel_rfl) (qs 30 rfl rfl rfl (bne_iff_ne.2 h26) (by kernel_rfl) (qs 31 rfl rfl rfl (bne_iff_ne.2 h26) (by kernel_rfl) (qs 32 rfl rfl rfl (bne_iff_ne.2 h26) (by kernel_rfl) (qs 33 rfl rfl rfl (bne_iff_ne.2 h26) (by kernel_rfl) (qs 34 rfl rfl rfl (bne_iff_ne.2 h26) (by kernel_rfl) (qs 35 rfl rfl rfl (bne_iff_ne.2 h26) (by kernel_rfl) (qs 36 rfl rfl rfl (bne_iff_ne.2 h26) (by kernel_rfl) (qv 37 rfl (pk (b:=true) rfl rfl (bne_iff_ne.2 h26) rfl) rfl (by kernel_rfl) (qe [0,0,0,0] (by kernel_rfl) rfl (nx (ct rfl rfl (sq (rg (a_ rfl rfl (en (nx (rt (xrb (xr (xr (xrb (xr (ret1 rfl rfl (fun w_ hs_=>⟨?_,hs_.below⟩))))))))))))))))))))))))))))))))))))))))))))))))))))))
          exact rb (eqS_f m9 m20 (by rintro rfl; simp_all)).symm
      · refine r0 (qv 0 rfl (mv rfl rfl) rfl (by kernel_rfl) (qv 1 rfl (mv rfl rfl) rfl (by kernel_rfl) (qv 2 rfl (ix k e5 rfl rfl rfl rfl rfl (by omega)) rfl (by kernel_rfl) (qv 3 rfl (fa rfl rfl rfl) rfl (by kernel_rfl) (qv 4 rfl (ldp (u:=.int .i64 y8.ref) 1 rfl rfl rfl rfl rfl rfl rfl) rfl (by kernel_rfl) (qv 5 rfl (mv rfl rfl) rfl (by kernel_rfl) (qv 6 rfl (mv rfl rfl) rfl (by kernel_rfl) (qv 7 rfl (ix k e16 rfl rfl rfl rfl rfl (by omega)) rfl (by kernel_rfl) (qv 8 rfl (fa rfl rfl rfl) rfl (by kernel_rfl) (qv 9 rfl (ldp (u:=.int .i64 y19.ref) 0 rfl rfl rfl rfl rfl rfl rfl) rfl (by kernel_rfl) (qv 10 rfl (cm rfl rfl rfl rfl) rfl (by kernel_rfl) (qv 11 rfl (mv rfl rfl) rfl (by kernel_rfl) (qs 12 rfl rfl rfl (bne_iff_ne.2 h25) (by kernel_rfl) (qs 13 rfl rfl rfl (bne_iff_ne.2 h25) (by kernel_rfl) (qs 14 rfl rfl rfl (bne_iff_ne.2 h25) (by kernel_rfl) (qs 15 rfl rfl rfl (bne_iff_ne.2 h25) (by kernel_rfl) (qs 16 rfl rfl rfl (bne_iff_ne.2 h25) (by kernel_rfl) (qs 17 rfl rfl rfl (bne_iff_ne.2 h25) (by kernel_rfl) (qs 18 rfl rfl rfl (bne_iff_ne.2 h25) (by kernel_rfl) (qs 19 rfl rfl rfl (bne_iff_ne.2 h25) (by kernel_rfl) (qs 20 rfl rfl rfl (bne_iff_ne.2 h25) (by kernel_rfl) (qs 21 rfl rfl rfl (bne_iff_ne.2 h25) (by kernel_rfl) (qs 22 rfl rfl rfl (bne_iff_ne.2 h25) (by kernel_rfl) (qv 23 rfl (pk (b:=true) rfl rfl (bne_iff_ne.2 h25) rfl) rfl (by kernel_rfl) (qv 24 rfl (mv rfl rfl) rfl (by kernel_rfl) (qs 25 rfl rfl rfl rfl (by kernel_rfl) (qs 26 rfl rfl rfl rfl (by kernel_rfl) (qs 27 rfl rfl rfl rfl (by kernel_rfl) (qs 28 rfl rfl rfl rfl (by kernel_rfl) (qs 29 rfl rfl rfl rfl (by kernel_rfl) (qs 30 rfl rfl rfl rfl (by kernel_rfl) (qs 31 rfl rfl rfl rfl (by kernel_rfl) (qs 32 rfl rfl rfl rfl (by kernel_rfl) (qs 33 rfl rfl rfl rfl (by kernel_rfl) (qs 34 rfl rfl rfl rfl (by kernel_rfl) (qs 35 rfl rfl rfl rfl (by kernel_rfl) (qs 36 rfl rfl rfl rfl (by kernel_rfl) (qv 37 rfl (pk (b:=true) rfl rfl rfl rfl) rfl (by kernel_rfl) (qe [0,0,0,0] (by kernel_rfl) rfl (nx (ct rfl rfl (sq (rg (a_ rfl rfl (en (nx (rt (xrb (xr (xr (xrb (xr (ret1 rfl rfl (fun w_ hs_=>⟨?_,hs_.below⟩))))))))))))))))))))))))))))))))))))))))))))))))))))))
        exact rb (eqS_f m9 m20 (by rintro rfl; simp_all)).symm
    · refine cf rfl (decide_eq_false h2) (xt (xq (xq (xb (nx (sq (rg (a_ rfl rfl (en (nx (rt (ret1 rfl rfl (fun w_ hs_=>⟨?_,hs_.below⟩)))))))))))))
      exact rb (eqS_t (by omega) hinv (by omega)).symm
  · refine ct rfl (bne_iff_ne.2 h1) (sq (rg (a_ rfl rfl (en (nx (rt (xr (ret1 rfl rfl (fun w_ hs_=>⟨?_,hs_.below⟩)))))))))
    exact rb (by rw [eq_comm,decide_eq_false_iff_not]; rintro rfl; exact h1 rfl)
set_option maxRecDepth 20000 in
set_option maxHeartbeats 2000000 in
theorem spec_SameNodes (w : World) {Aa : Option Addr} {ca : Nat} {a : List Node} {sa_ : List Nat} (ha : (Kd.sl kNodeS).Rel w [.slice Aa a.length ca] a [] sa_) {Ab : Option Addr} {cb : Nat} {b : List Node} {sb_ : List Nat} (hb : (Kd.sl kNodeS).Rel w [.slice Ab b.length cb] b [] sb_)  : Calls Tryz.prog 115 #[.slice Aa a.length ca,.slice Ab b.length cb] w (fun e_ w2_=>e_ = .returned (.bool (decide (a = b))) ∧ Below w.heap.size w w2_):=by
  have La:=Kd.sl_len ha; have Ca:=Kd.sl_cap ha
  have Lb:=Kd.sl_len hb; have Cb:=Kd.sl_cap hb
  refine fnc (X:=X2 68 w) (l:=[(0,.slice Aa a.length ca),(1,.slice Ab b.length cb)]) Tryz.func115 rfl rfl rfl ⟨rfl,rfl,trivial⟩ (s0d hb (s0d ha (s0n w))).1 ?_
  refine sq (rg (a_ rfl rfl (en (nx (sq (sq (rg (m_ rfl rfl (vl (ln rfl rfl rfl) rfl (m_ rfl rfl (vl (ln rfl rfl rfl) rfl (vl (cm rfl rfl rfl rfl) rfl (en (nx ?_))))))))))))))
  by_cases h1 : ((a.length : Nat) : Int) = ((b.length : Nat) : Int)
  · refine cf rfl (bne_eq_false_iff_eq.2 h1) (sk (nx (sq (sq (rg (a_ rfl rfl (en (nx (bk ?_)))))))))
    refine lp (σ:=Nat) (fun k : Nat=>[(0,.slice Aa a.length ca),(1,.slice Ab b.length cb),(5,.int .i64 ((k : Nat) : Int))])
        (fun k : Nat=>[dat (Kd.sl kNodeS) [.slice Ab b.length cb] b ([]) sb_,dat (Kd.sl kNodeS) [.slice Aa a.length ca] a ([]) sa_])
        (fun k : Nat=>k ≤ a.length ∧ ∀ j x y,j < k → a[j]? = some x → b[j]? = some y → x = y) (fun k : Nat=>a.length - k) 0 [0,0] ⟨Nat.zero_le _,by simp⟩ ⟨rfl,rfl,rfl,trivial⟩ rfl ?_
    intro k hp_
    obtain ⟨hk,hinv⟩:=hp_
    refine sq (sq (rg (m_ rfl rfl (m_ rfl rfl (vl (ln rfl rfl rfl) rfl (vl (cm rfl rfl rfl rfl) rfl (en (nx ?_))))))))
    by_cases h2 : ((k : Nat) : Int) < ((a.length : Nat) : Int)
    · refine ct rfl (decide_eq_true h2) (sk (nx (sq (bk (sq ?_)))))
      refine gx 1 k rfl (by omega) fun y8 p3 cs_ s4 w7 m9 e5 r6 us4=>?_
      obtain ⟨A10,c11,rfl⟩:=kNodeS_sh r6
      refine gx 1 k rfl (by omega) fun y17 p12 cs_ s13 w16 m18 e14 r15 us13=>?_
      obtain ⟨A19,c20,rfl⟩:=kNodeS_sh r15
      by_cases h21 : y8.level = y17.level
      · by_cases h22 : y8.nsn = y17.nsn
        · by_cases h23 : y8.right = y17.right
          · refine gp 1 kNodeS_p3_1 rfl (cs':=[.slice A10 y8.entries.length c11]) rfl fun s24 w_ rs24 us24=>?_
            have Ls24:=Kd.sl_len rs24; have Cs24:=Kd.sl_cap rs24
            refine gp 1 kNodeS_p3_1 rfl (cs':=[.slice A19 y17.entries.length c20]) rfl fun s25 w_ rs25 us25=>?_
            have Ls25:=Kd.sl_len rs25; have Cs25:=Kd.sl_cap rs25
            refine r0 (qv 0 rfl (mv rfl rfl) rfl (by kernel_rfl) (qv 1 rfl (mv rfl rfl) rfl (by kernel_rfl) (qv 2 rfl (ix k e5 rfl rfl rfl rfl rfl (by omega)) rfl (by kernel_rfl) (qv 3 rfl (fa rfl rfl rfl) rfl (by kernel_rfl) (qv 4 rfl (ldp (u:=.int .i64 y8.level) 3 rfl rfl rfl rfl rfl rfl rfl) rfl (by kernel_rfl) (qv 5 rfl (mv rfl rfl) rfl (by kernel_rfl) (qv 6 rfl (mv rfl rfl) rfl (by kernel_rfl) (qv 7 rfl (ix k e14 rfl rfl rfl rfl rfl (by omega)) rfl (by kernel_rfl) (qv 8 rfl (fa rfl rfl rfl) rfl (by kernel_rfl) (qv 9 rfl (ldp (u:=.int .i64 y17.level) 2 rfl rfl rfl rfl rfl rfl rfl) rfl (by kernel_rfl) (qv 10 rfl (cm rfl rfl rfl rfl) rfl (by kernel_rfl) (qv 11 rfl (mv rfl rfl) rfl (by kernel_rfl) (qg 12 rfl (mv rfl rfl) rfl rfl (bne_eq_false_iff_eq.2 h21) (by kernel_rfl) (qg 13 rfl (mv rfl rfl) rfl rfl (bne_eq_false_iff_eq.2 h21) (by kernel_rfl) (qg 14 rfl (ix k e5 rfl rfl rfl rfl rfl (by omega)) rfl rfl (bne_eq_false_iff_eq.2 h21) (by kernel_rfl) (qg 15 rfl (fa rfl rfl rfl) rfl rfl (bne_eq_false_iff_eq.2 h21) (by kernel_rfl) (qg 16 rfl (ldp (u:=.int .i64 y8.nsn) 3 rfl rfl rfl rfl rfl rfl rfl) rfl rfl (bne_eq_false_iff_eq.2 h21) (by kernel_rfl) (qg 17 rfl (mv rfl rfl) rfl rfl (bne_eq_false_iff_eq.2 h21) (by kernel_rfl) (qg 18 rfl (mv rfl rfl) rfl rfl (bne_eq_false_iff_eq.2 h21) (by kernel_rfl) (qg 19 rfl (ix k e14 rfl rfl rfl rfl rfl (by omega)) rfl rfl (bne_eq_false_iff_eq.2 h21) (by kernel_rfl) (qg 20 rfl (fa rfl rfl rfl) rfl rfl (bne_eq_false_iff_eq.2 h21) (by kernel_rfl) (qg 21 rfl (ldp (u:=.int .i64 y17.nsn) 2 rfl rfl rfl rfl rfl rfl rfl) rfl rfl (bne_eq_false_iff_eq.2 h21) (by kernel_rfl) (qg 22 rfl (cm rfl rfl rfl rfl) rfl rfl (bne_eq_false_iff_eq.2 h21) (by kernel_rfl) (qv 23 rfl (pk (b:=false) rfl rfl (bne_eq_false_iff_eq.2 h21) rfl) rfl (by kernel_rfl) (qv 24 rfl (mv rfl rfl) rfl (by kernel_rfl) (qg 25 rfl (mv rfl rfl) rfl rfl (bne_eq_false_iff_eq.2 h22) (by kernel_rfl) (qg 26 rfl (mv rfl rfl) rfl rfl (bne_eq_false_iff_eq.2 h22) (by kernel_rfl) (qg 27 rfl (ix k e5 rfl rfl rfl rfl rfl (by omega)) rfl rfl (bne_eq_false_iff_eq.2 h22) (by kernel_rfl) (qg 28 rfl (fa rfl rfl rfl) rfl rfl (bne_eq_false_iff_eq.2 h22) (by kernel_rfl) (qg 29 rfl (ldp (u:=.int .i64 y8.right) 3 rfl rfl rfl rfl rfl rfl rfl) rfl rfl (bne_eq_false_iff_eq.2 h22) (by kernel_rfl) (qg 30 rfl (mv rfl rfl) rfl rfl (bne_eq_false_iff_eq.2 h22) (by kernel_rfl) (qg 31 rfl (mv rfl rfl) rfl rfl (bne_eq_false_iff_eq.2 h22) (by kernel_rfl) (qg 32 rfl (ix k e14 rfl rfl rfl rfl rfl (by omega)) rfl rfl (bne_eq_false_iff_eq.2 h22) (by kernel_rfl) (qg 33 rfl (fa rfl rfl rfl) rfl rfl (bne_eq_false_iff_eq.2 h22) (by kernel_rfl) (qg 34 rfl (ldp (u:=.int .i64 y17.right) 2 rfl rfl rfl rfl rfl rfl rfl) rfl rfl (bne_eq_false_iff_eq.2 h22) (by kernel_rfl) (qg 35 rfl (cm rfl rfl rfl rfl) rfl rfl (bne_eq_false_iff_eq.2 h22) (by kernel_rfl) (qv 36 rfl (pk (b:=false) rfl rfl (bne_eq_false_iff_eq.2 h22) rfl) rfl (by kernel_rfl) (qv 37 rfl (mv rfl rfl) rfl (by kernel_rfl) (qg 38 rfl (mv rfl rfl) rfl rfl (bne_eq_false_iff_eq.2 h23) (by kernel_rfl) (qg 39 rfl (mv rfl rfl) rfl rfl (bne_eq_false_iff_eq.2 h23) (by kernel_rfl) (qg 40 rfl (ix k e5 rfl rfl rfl rfl rfl (by omega)) rfl rfl (bne_eq_false_iff_eq.2 h23) (by kernel_rfl) (qg 41 rfl (fa rfl rfl rfl) rfl rfl (bne_eq_false_iff_eq.2 h23) (by kernel_rfl) (qg 42 rfl (ldp (u:=.slice A10 y8.entries.length c11) 3 rfl rfl rfl rfl rfl rfl rfl) rfl rfl (bne_eq_false_iff_eq.2 h23) (by kernel_rfl) (qg 43 rfl (mv rfl rfl) rfl rfl (bne_eq_false_iff_eq.2 h23) (by kernel_rfl) (qg 44 rfl (mv rfl rfl) rfl rfl (bne_eq_false_iff_eq.2 h23) (by kernel_rfl) (qg 45 rfl (ix k e14 rfl rfl rfl rfl rfl (by omega)) rfl rfl (bne_eq_false_iff_eq.2 h23) (by kernel_rfl) (qg 46 rfl (fa rfl rfl rfl) rfl rfl (bne_eq_false_iff_eq.2 h23) (by kernel_rfl) (qg 47 rfl (ldp (u:=.slice A19 y17.entries.length c20) 2 rfl rfl rfl rfl rfl rfl rfl) rfl rfl (bne_eq_false_iff_eq.2 h23) (by kernel_rfl) (q1 48 [0,0,0,0,0,0] rfl (by kernel_rfl) rfl (gw rfl rfl (bne_eq_false_iff_eq.2 h23) (cs_ (v:=.bool (decide (y8.entries = y17.entries))) (by kernel_rfl) rfl rfl rfl (fun w_ hs_=>by exact spec_l3SameEntries w_ (hs_.at 1 rfl) (hs_.at 0 rfl)) (qn (qg 49 rfl (nt rfl rfl) rfl rfl (bne_eq_false_iff_eq.2 h23) (by kernel_rfl) (qv 50 rfl (pk (b:=false) rfl rfl (bne_eq_false_iff_eq.2 h23) rfl) rfl (by kernel_rfl) (qe [0,0,0,0,0,0] (by kernel_rfl) rfl (nx ?_))))))))))))))))))))))))))))))))))))))))))))))))))))))))
            by_cases h26 : decide (y8.entries = y17.entries) = true
            · exact cf rfl (not_f h26) (sk (xn (nx (rg (m_ rfl rfl (vl (ra (c:=((k + 1 : Nat) : Int)) rfl rfl rfl (by omega) (by omega) (by omega)) rfl (a_ rfl rfl (en (lpe (s:=k) (k + 1) [4,4] ⟨by omega,eq_step hinv m9 m18 (by cases y8; cases y17; simp_all)⟩ (by omega) ⟨rfl,rfl,rfl,trivial⟩ rfl)))))))))
            · refine ct rfl (not_t (Bool.eq_false_iff.2 h26)) (sq (rg (a_ rfl rfl (en (nx (rt (xrb (xr (xr (xrb (xr (ret1 rfl rfl (fun w_ hs_=>⟨?_,hs_.below⟩)))))))))))))
              exact rb (eqS_f m9 m18 (by rintro rfl; simp_all)).symm
          · refine r0 (qv 0 rfl (mv rfl rfl) rfl (by kernel_rfl) (qv 1 rfl (mv rfl rfl) rfl (by kernel_rfl) (qv 2 rfl (ix k e5 rfl rfl rfl rfl rfl (by omega)) rfl (by kernel_rfl) (qv 3 rfl (fa rfl rfl rfl) rfl (by kernel_rfl) (qv 4 rfl (ldp (u:=.int .i64 y8.level) 1 rfl rfl rfl rfl rfl rfl rfl) rfl (by kernel_rfl) (qv 5 rfl (mv rfl rfl) rfl (by kernel_rfl) (qv 6 rfl (mv rfl rfl) rfl (by kernel_rfl) (qv 7 rfl (ix k e14 rfl rfl rfl rfl rfl (by omega)) rfl (by kernel_rfl) (qv 8 rfl (fa rfl rfl rfl) rfl (by kernel_rfl) (qv 9 rfl (ldp (u:=.int .i64 y17.level) 0 rfl rfl rfl rfl rfl rfl rfl) rfl (by kernel_rfl) (qv 10 rfl (cm rfl rfl rfl rfl) rfl (by kernel_rfl) (qv 11 rfl (mv rfl rfl) rfl (by kernel_rfl) (qg 12 rfl (mv rfl rfl) rfl rfl (bne_eq_false_iff_eq.2 h21) (by kernel_rfl) (qg 13 rfl (mv rfl rfl) rfl rfl (bne_eq_false_iff_eq.2 h21) (by kernel_rfl) (qg 14 rfl (ix k e5 rfl rfl rfl rfl rfl (by omega)) rfl rfl (bne_eq_false_iff_eq.2 h21) (by kernel_rfl) (qg 15 rfl (fa rfl rfl rfl) rfl rfl (bne_eq_false_iff_eq.2 h21) (by kernel_rfl) (qg 16 rfl (ldp (u:=.int .i64 y8.nsn) 1 rfl rfl rfl rfl rfl rfl rfl) rfl rfl (bne_eq_false_iff_eq.2 h21) (by kernel_rfl) (qg 17 rfl (mv rfl rfl) rfl rfl (bne_eq_false_iff_eq.2 h21) (by kernel_rfl) (qg 18 rfl (mv rfl rfl) rfl rfl (bne_eq_false_iff_eq.2 h21) (by kernel_rfl) (qg 19 rfl (ix k e14 rfl rfl rfl rfl rfl (by omega)) rfl rfl (bne_eq_false_iff_eq.2 h21) (by kernel_rfl) (qg 20 rfl (fa rfl rfl rfl) rfl rfl (bne_eq_false_iff_eq.2 h21) (by kernel_rfl) (qg 21 rfl (ldp (u:=.int .i64 y17.nsn) 0 rfl rfl rfl rfl rfl rfl rfl) rfl rfl (bne_eq_false_iff_eq.2 h21) (by kernel_rfl) (qg 22 rfl (cm rfl rfl rfl rfl) rfl rfl (bne_eq_false_iff_eq.2 h21) (by kernel_rfl) (qv 23 rfl (pk (b:=false) rfl rfl (bne_eq_false_iff_eq.2 h21) rfl) rfl (by kernel_rfl) (qv 24 rfl (mv rfl rfl) rfl (by kernel_rfl) (qg 25 rfl (mv rfl rfl) rfl rfl (bne_eq_false_iff_eq.2 h22) (by kernel_rfl) (qg 26 rfl (mv rfl rfl) rfl rfl (bne_eq_false_iff_eq.2 h22) (by kernel_rfl) (qg 27 rfl (ix k e5 rfl rfl rfl rfl rfl (by omega)) rfl rfl (bne_eq_false_iff_eq.2 h22) (by kernel_rfl) (qg 28 rfl (fa rfl rfl rfl) rfl rfl (bne_eq_false_iff_eq.2 h22) (by kernel_rfl) (qg 29 rfl (ldp (u:=.int .i64 y8.right) 1 rfl rfl rfl rfl rfl rfl rfl) rfl rfl (bne_eq_false_iff_eq.2 h22) (by kernel_rfl) (qg 30 rfl (mv rfl rfl) rfl rfl (bne_eq_false_iff_eq.2 h22) (by kernel_rfl) (qg 31 rfl (mv rfl rfl) rfl rfl (bne_eq_false_iff_eq.2 h22) (by kernel_rfl) (qg 32 rfl (ix k e14 rfl rfl rfl rfl rfl (by omega)) rfl rfl (bne_eq_false_iff_eq.2 h22) (by kernel_rfl) (qg 33 rfl (fa rfl rfl rfl) rfl rfl (bne_eq_false_iff_eq.2 h22) (by kernel_rfl) (qg 34 rfl (ldp (u:=.int .i64 y17.right) 0 rfl rfl rfl rfl rfl rfl rfl) rfl rfl (bne_eq_false_iff_eq.2 h22) (by kernel_rfl) (qg 35 rfl (cm rfl rfl rfl rfl) rfl rfl (bne_eq_false_iff_eq.2 h22) (by kernel_rfl) (qv 36 rfl (pk (b:=false) rfl rfl (bne_eq_false_iff_eq.2 h22) rfl) rfl (by kernel_rfl) (qv 37 rfl (mv rfl rfl) rfl (by kernel_rfl) (qs 38 rfl rfl rfl (bne_iff_ne.2 h23) (by kernel_rfl) (qs 39 rfl rfl rfl (bne_iff_ne.2 h23) (by kernel_rfl) (qs 40 rfl rfl rfl (bne_iff_ne.2 h23) (by kernel_rfl) (qs 41 rfl rfl rfl (bne_iff_ne.2 h23) (by kernel_rfl) (qs 42 rfl rfl rfl (bne_iff_ne.2 h23) (by kernel_rfl) (qs 43 rfl rfl rfl (bne_iff_ne.2 h23) (by kernel_rfl) (qs 44 rfl rfl rfl (bne_iff_ne.2 h23) (by kernel_rfl) (qs 45 rfl rfl rfl (bne_iff_ne.2 h23) (by kernel_rfl) (qs 46 rfl rfl rfl (bne_iff_ne.2 h23) (by kernel_rfl) (qs 47 rfl rfl rfl (bne_iff_ne.2 h23) (by kernel_rfl) (qs 48 rfl rfl rfl (bne_iff_ne.2 h23) (by kernel_rfl) (qs 49 rfl rfl rfl (bne_iff_ne.2 h23) (by kernel_rfl) (qv 50 rfl (pk (b:=true) rfl rfl (bne_iff_ne.2 h23) rfl) rfl (by kernel_rfl) (qe [0,0,0,0] (by kernel_rfl) rfl (nx (ct rfl rfl (sq (rg (a_ rfl rfl (en (nx (rt (xrb (xr (xr (xrb (xr (ret1 rfl rfl (fun w_ hs_=>⟨?_,hs_.below⟩)))))))))))))))))))))))))))))))))))))))))))))))))))))))))))))))))))
            exact rb (eqS_f m9 m18 (by rintro rfl; simp_all)).symm
        · refine r0 (qv 0 rfl (mv rfl rfl) rfl (by kernel_rfl) (qv 1 rfl (mv rfl rfl) rfl (by kernel_rfl) (qv 2 rfl (ix k e5 rfl rfl rfl rfl rfl (by omega)) rfl (by kernel_rfl) (qv 3 rfl (fa rfl rfl rfl) rfl (by kernel_rfl) (qv 4 rfl (ldp (u:=.int .i64 y8.level) 1 rfl rfl rfl rfl rfl rfl rfl) rfl (by kernel_rfl) (qv 5 rfl (mv rfl rfl) rfl (by kernel_rfl) (qv 6 rfl (mv rfl rfl) rfl (by kernel_rfl) (qv 7 rfl (ix k e14 rfl rfl rfl rfl rfl (by omega)) rfl (by kernel_rfl) (qv 8 rfl (fa rfl rfl rfl) rfl (by kernel_rfl) (qv 9 rfl (ldp (u:=.int .i64 y17.level) 0 rfl rfl rfl rfl rfl rfl rfl) rfl (by kernel_rfl) (qv 10 rfl (cm rfl rfl rfl rfl) rfl (by kernel_rfl) (qv 11 rfl (mv rfl rfl) rfl (by kernel_rfl) (qg 12 rfl (mv rfl rfl) rfl rfl (bne_eq_false_iff_eq.2 h21) (by kernel_rfl) (qg 13 rfl (mv rfl rfl) rfl rfl (bne_eq_false_iff_eq.2 h21) (by kernel_rfl) (qg 14 rfl (ix k e5 rfl rfl rfl rfl rfl (by omega)) rfl rfl (bne_eq_false_iff_eq.2 h21) (by kernel_rfl) (qg 15 rfl (fa rfl rfl rfl) rfl rfl (bne_eq_false_iff_eq.2 h21) (by kernel_rfl) (qg 16 rfl (ldp (u:=.int .i64 y8.nsn) 1 rfl rfl rfl rfl rfl rfl rfl) rfl rfl (bne_eq_false_iff_eq.2 h21) (by kernel_rfl) (qg 17 rfl (mv rfl rfl) rfl rfl (bne_eq_false_iff_eq.2 h21) (by kernel_rfl) (qg 18 rfl (mv rfl rfl) rfl rfl (bne_eq_false_iff_eq.2 h21) (by kernel_rfl) (qg 19 rfl (ix k e14 rfl rfl rfl rfl rfl (by omega)) rfl rfl (bne_eq_false_iff_eq.2 h21) (by kernel_rfl) (qg 20 rfl (fa rfl rfl rfl) rfl rfl (bne_eq_false_iff_eq.2 h21) (by kernel_rfl) (qg 21 rfl (ldp (u:=.int .i64 y17.nsn) 0 rfl rfl rfl rfl rfl rfl rfl) rfl rfl (bne_eq_false_iff_eq.2 h21) (by kernel_rfl) (qg 22 rfl (cm rfl rfl rfl rfl) rfl rfl (bne_eq_false_iff_eq.2 h21) (by kernel_rfl) (qv 23 rfl (pk (b:=false) rfl rfl (bne_eq_false_iff_eq.2 h21) rfl) rfl (by kernel_rfl) (qv 24 rfl (mv rfl rfl) rfl (by kernel_rfl) (qs 25 rfl rfl rfl (bne_iff_ne.2 h22) (by kernel_rfl) (qs 26 rfl rfl rfl (bne_iff_ne.2 h22) (by kernel_rfl) (qs 27 rfl rfl rfl (bne_iff_ne.2 h22) (by kernel_rfl) (qs 28 rfl rfl rfl (bne_iff_ne.2 h22) (by kernel_rfl) (qs 29 rfl rfl rfl (bne_iff_ne.2 h22) (by kernel_rfl) (qs 30 rfl rfl rfl (bne_iff_ne.2 h22) (by kernel_rfl) (qs 31 rfl rfl rfl (bne_iff_ne.2 h22) (by kernel_rfl) (qs 32 rfl rfl rfl (bne_iff_ne.2 h22) (by kernel_rfl) (qs 33 rfl rfl rfl (bne_iff_ne.2 h22) (by kernel_rfl) (qs 34 rfl rfl rfl (bne_iff_ne.2 h22) (by kernel_rfl) (qs 35 rfl rfl rfl (bne_iff_ne.2 h22) (by kernel_rfl) (qv 36 rfl (pk (b:=true) rfl rfl (bne_iff_ne.2 h22) rfl) rfl (by kernel_rfl) (qv 37 rfl (mv rfl rfl) rfl (by kernel_rfl) (qs 38 rfl rfl rfl rfl (by kernel_rfl) (qs 39 rfl rfl rfl rfl (by kernel_rfl) (qs 40 rfl rfl rfl rfl (by kernel_rfl) (qs 41 rfl rfl rfl rfl (by kernel_rfl) (qs 42 rfl rfl rfl rfl (by kernel_rfl) (qs 43 rfl rfl rfl rfl (by kernel_rfl) (qs 44 rfl rfl rfl rfl (by kernel_rfl) (qs 45 rfl rfl rfl rfl (by kernel_rfl) (qs 46 rfl rfl rfl rfl (by kernel_rfl) (qs 47 rfl rfl rfl rfl (by kernel_rfl) (qs 48 rfl rfl rfl rfl (by kernel_rfl) (qs 49 rfl rfl rfl rfl (by kernel_rfl) (qv 50 rfl (pk (b:=true) rfl rfl rfl rfl) rfl (by kernel_rfl) (qe [0,0,0,0] (by kernel_rfl) rfl (nx (ct rfl rfl (sq (rg (a_ rfl rfl (en (nx (rt (xrb (xr (xr (xrb (xr (ret1 rfl rfl (fun w_ hs_=>⟨?_,hs_.below⟩)))))))))))))))))))))))))))))))))))))))))))))))))))))))))))))))))))
          exact rb (eqS_f m9 m18 (by rintro rfl; simp_all)).symm
      · refine r0 (qv 0 rfl (mv rfl rfl) rfl (by kernel_rfl) (qv 1 rfl (mv rfl rfl) rfl (by kernel_rfl) (qv 2 rfl (ix k e5 rfl rfl rfl rfl rfl (by omega)) rfl (by kernel_rfl) (qv 3 rfl (fa rfl rfl rfl) rfl (by kernel_rfl) (qv 4 rfl (ldp (u:=.int .i64 y8.level) 1 rfl rfl rfl rfl rfl rfl rfl) rfl (by kernel_rfl) (qv 5 rfl (mv rfl rfl) rfl (by kernel_rfl) (qv 6 rfl (mv rfl rfl) rfl (by kernel_rfl) (qv 7 rfl (ix k e14 rfl rfl rfl rfl rfl (by omega)) rfl (by kernel_rfl) (qv 8 rfl (fa rfl rfl rfl) rfl (by kernel_rfl) (qv 9 rfl (ldp (u:=.int .i64 y17.level) 0 rfl rfl rfl rfl rfl rfl rfl) rfl (by kernel_rfl) (qv 10 rfl (cm rfl rfl rfl rfl) rfl (by kernel_rfl) (qv 11 rfl (mv rfl rfl) rfl (by kernel_rfl) (qs 12 rfl rfl rfl (bne_iff_ne.2 h21) (by kernel_rfl) (qs 13 rfl rfl rfl (bne_iff_ne.2 h21) (by kernel_rfl) (qs 14 rfl rfl rfl (bne_iff_ne.2 h21) (by kernel_rfl) (qs 15 rfl rfl rfl (bne_iff_ne.2 h21) (by kernel_rfl) (qs 16 rfl rfl rfl (bne_iff_ne.2 h21) (by kernel_rfl) (qs 17 rfl rfl rfl (bne_iff_ne.2 h21) (by kernel_rfl) (qs 18 rfl rfl rfl (bne_iff_ne.2 h21) (by kernel_rfl) (qs 19 rfl rfl rfl (bne_iff_ne.2 h21) (by kernel_rfl) (qs 20 rfl rfl rfl (bne_iff_ne.2 h21) (by kernel_rfl) (qs 21 rfl rfl rfl (bne_iff_ne.2 h21) (by kernel_rfl) (qs 22 rfl rfl rfl (bne_iff_ne.2 h21) (by kernel_rfl) (qv 23 rfl (pk (b:=true) rfl rfl (bne_iff_ne.2 h21) rfl) rfl (by kernel_rfl) (qv 24 rfl (mv rfl rfl) rfl (by kernel_rfl) (qs 25 rfl rfl rfl rfl (by kernel_rfl) (qs 26 rfl rfl rfl rfl (by kernel_rfl) (qs 27 rfl rfl rfl rfl (by kernel_rfl) (qs 28 rfl rfl rfl rfl (by kernel_rfl) (qs 29 rfl rfl rfl rfl (by kernel_rfl) (qs 30 rfl rfl rfl rfl (by kernel_rfl) (qs 31 rfl rfl rfl rfl (by kernel_rfl) (qs 32 rfl rfl rfl rfl (by kernel_rfl) (qs 33 rfl rfl rfl rfl (by kernel_rfl) (qs 34 rfl rfl rfl rfl (by kernel_rfl) (qs 35 rfl rfl rfl rfl (by kernel_rfl) (qv 36 rfl (pk (b:=true) rfl rfl rfl rfl) rfl (by kernel_rfl) (qv 37 rfl (mv rfl rfl) rfl (by kernel_rfl) (qs 38 rfl rfl rfl rfl (by kernel_rfl) (qs 39 rfl rfl rfl rfl (by kernel_rfl) (qs 40 rfl rfl rfl rfl (by kernel_rfl) (qs 41 rfl rfl rfl rfl (by kernel_rfl) (qs 42 rfl rfl rfl rfl (by kernel_rfl) (qs 43 rfl rfl rfl rfl (by kernel_rfl) (qs 44 rfl rfl rfl rfl (by kernel_rfl) (qs 45 rfl rfl rfl rfl (by kernel_rfl) (qs 46 rfl rfl rfl rfl (by kernel_rfl) (qs 47 rfl rfl rfl rfl (by kernel_rfl) (qs 48 rfl rfl rfl rfl (by kernel_rfl) (qs 49 rfl rfl rfl rfl (by kernel_rfl) (qv 50 rfl (pk (b:=true) rfl rfl rfl rfl) rfl (by kernel_rfl) (qe [0,0,0,0] (by kernel_rfl) rfl (nx (ct rfl rfl (sq (rg (a_ rfl rfl (en (nx (rt (xrb (xr (xr (xrb (xr (ret1 rfl rfl (fun w_ hs_=>⟨?_,hs_.below⟩)))))))))))))))))))))))))))))))))))))))))))))))))))))))))))))))))))
        exact rb (eqS_f m9 m18 (by rintro rfl; simp_all)).symm
    · refine cf rfl (decide_eq_false h2) (xt (xq (xq (xb (nx (sq (rg (a_ rfl rfl (en (nx (rt (ret1 rfl rfl (fun w_ hs_=>⟨?_,hs_.below⟩)))))))))))))
      exact rb (eqS_t (by omega) hinv (by omega)).symm
  · refine ct rfl (bne_iff_ne.2 h1) (sq (rg (a_ rfl rfl (en (nx (rt (xr (ret1 rfl rfl (fun w_ hs_=>⟨?_,hs_.below⟩)))))))))
    exact rb (by rw [eq_comm,decide_eq_false_iff_not]; rintro rfl; exact h1 rfl)
set_option maxRecDepth 20000 in
set_option maxHeartbeats 2000000 in
theorem impl_emptyNode (w : World)   : Calls Tryz.prog 139 #[] w (Made kNodeO w emptyNode []):=by
  refine fnc (X:=X2 2 w) (l:=[]) Tryz.func139 rfl rfl rfl trivial (s0n w).1 ?_
  refine sq (rg (al zero107 rfl rfl rfl ?_))
  intro b1
  exact en (nx (sq (rg (vl (bd bld107 rfl rfl rfl) rfl (sto rfl rfl rfl rfl rfl rfl rfl (cs':=[.int .i64 0,.int .i64 0,.int .i64 (-1),.slice none 0 0]) rfl (en (nx (rt (gs (Kd.row 132 kEntryO) [.slice none 0 0] emptyNode.entries (fun _=>.inl ⟨rfl,rfl,rfl,rfl⟩) (gs Kd.i64 [.int .i64 (-1)] emptyNode.right (fun _=>⟨rfl,rfl,rfl⟩) (gj (da:=(Kd.via Kd.i64 Node.right)) (db:=(Kd.via (Kd.row 132 kEntryO) Node.entries)) (x:=emptyNode) rfl (gs Kd.i64 [.int .i64 0] emptyNode.nsn (fun _=>⟨rfl,rfl,rfl⟩) (gj (da:=(Kd.via Kd.i64 Node.nsn)) (db:=((Kd.via Kd.i64 Node.right).cat (Kd.via (Kd.row 132 kEntryO) Node.entries))) (x:=emptyNode) rfl (gs Kd.i64 [.int .i64 0] emptyNode.level (fun _=>⟨rfl,rfl,rfl⟩) (gj (da:=(Kd.via Kd.i64 Node.level)) (db:=((Kd.via Kd.i64 Node.nsn).cat ((Kd.via Kd.i64 Node.right).cat (Kd.via (Kd.row 132 kEntryO) Node.entries)))) (x:=emptyNode) rfl (retc 1 rfl rfl rfl rfl rfl rfl (fun w_ hs_=>made hs_ rfl (see_app see_nil (see_app see_nil (see_app see_nil see_nil))))))))))))))))))))
set_option maxRecDepth 20000 in
set_option maxHeartbeats 2000000 in
theorem spec_l4Empty (w : World)   : Calls Tryz.prog 116 #[] w (Made kNodeO w emptyNode []):=by
  refine fnc (X:=X2 2 w) (l:=[]) Tryz.func116 rfl rfl rfl trivial (s0n w).1 ?_
  refine sq (rg (al zero107 rfl rfl rfl ?_))
  intro b1
  exact en (nx (sq (rg (vl (bd bld107 rfl rfl rfl) rfl (sto rfl rfl rfl rfl rfl rfl rfl (cs':=[.int .i64 0,.int .i64 0,.int .i64 (-1),.slice none 0 0]) rfl (en (nx (rt (gs (Kd.row 132 kEntryO) [.slice none 0 0] emptyNode.entries (fun _=>.inl ⟨rfl,rfl,rfl,rfl⟩) (gs Kd.i64 [.int .i64 (-1)] emptyNode.right (fun _=>⟨rfl,rfl,rfl⟩) (gj (da:=(Kd.via Kd.i64 Node.right)) (db:=(Kd.via (Kd.row 132 kEntryO) Node.entries)) (x:=emptyNode) rfl (gs Kd.i64 [.int .i64 0] emptyNode.nsn (fun _=>⟨rfl,rfl,rfl⟩) (gj (da:=(Kd.via Kd.i64 Node.nsn)) (db:=((Kd.via Kd.i64 Node.right).cat (Kd.via (Kd.row 132 kEntryO) Node.entries))) (x:=emptyNode) rfl (gs Kd.i64 [.int .i64 0] emptyNode.level (fun _=>⟨rfl,rfl,rfl⟩) (gj (da:=(Kd.via Kd.i64 Node.level)) (db:=((Kd.via Kd.i64 Node.nsn).cat ((Kd.via Kd.i64 Node.right).cat (Kd.via (Kd.row 132 kEntryO) Node.entries)))) (x:=emptyNode) rfl (retc 1 rfl rfl rfl rfl rfl rfl (fun w_ hs_=>made hs_ rfl (see_app see_nil (see_app see_nil (see_app see_nil see_nil))))))))))))))))))))
set_option maxRecDepth 20000 in
set_option maxHeartbeats 2000000 in
theorem impl_Arena_freeFault_1 (w : World) (id : Int) {Aa1 : Option Addr} {ca1 : Nat} {Aa2 : Option Addr} {ca2 : Nat} {Aa3 : Option Addr} {ca3 : Nat} {a : Arena} {sa_ : List Nat} {pa : Addr} (ha : (ptr kArenaS pa [.int .i64 a.dims,.slice Aa1 a.nodes.length ca1,.slice Aa2 a.free.length ca2,.slice Aa3 a.retired.length ca3] a sa_).P w) (hp : isPlace a id = true) : Calls Tryz.prog 137 #[.int .i64 id,.pointer (some pa)] w (fun e_ w2_=>e_ = .returned (.bool (!decide (nodeAt a id = emptyNode))) ∧ Below w.heap.size w w2_):=by
  have hq:=within_t hp
  refine fnc (X:=X2 12 w) (l:=[(0,.int .i64 id),(1,.pointer (some pa))]) Tryz.func137 rfl rfl rfl ⟨rfl,rfl,trivial⟩ (s0p ha (s0n w)).1 ?_
  refine sq (rg (a_ rfl rfl (en (nx (sq ?_)))))
  refine gp 0 kArenaS_p1_1 rfl (cs':=[.slice Aa1 a.nodes.length ca1]) rfl fun s1 w_ rs1 us1=>?_
  have Ls1:=Kd.sl_len rs1; have Cs1:=Kd.sl_cap rs1
  refine gx 0 id.toNat rfl (by omega) fun y7 p2 cs_ s3 w6 m8 e4 r5 us3=>?_
  obtain ⟨A9,c10,rfl⟩:=kNodeS_sh r5
  refine gp 0 Kd.Sub.rfl rfl (cs':=[.int .i64 y7.level,.int .i64 y7.nsn,.int .i64 y7.right,.slice A9 y7.entries.length c10]) rfl fun s13 w_ rs13 us13=>?_
  refine r0 (qv 0 rfl (fa rfl rfl rfl) rfl (by kernel_rfl) (qv 1 rfl (ldp (u:=.slice Aa1 a.nodes.length ca1) 3 rfl rfl rfl rfl rfl rfl rfl) rfl (by kernel_rfl) (qv 2 rfl (mv rfl rfl) rfl (by kernel_rfl) (qv 3 rfl (ixz id.toNat (by omega) e4 rfl rfl rfl rfl rfl (by omega)) rfl (by kernel_rfl) (qv 4 rfl (ldq 1 rfl rfl rfl rfl rfl rfl rfl) rfl (by kernel_rfl) (q1 5 [0,0,0,0] rfl (by kernel_rfl) rfl (cm_ (dk:=kNodeO) (x:=emptyNode) (S:=[]) (by kernel_rfl) rfl rfl rfl sn0 (fun w_ hs_=>by exact impl_emptyNode w_) (fun cs_ o18 s19 w_ r20 t21=>?_))))))))
  obtain ⟨A16,c17,rfl⟩:=kNodeO_sh r20
  refine qn (q1 6 [1,1,1,1] rfl (by kernel_rfl) rfl (cs_ (v:=.bool (decide (y7 = emptyNode))) (by kernel_rfl) rfl rfl rfl (fun w_ hs_=>by exact bor kNodeO_seal (hs_.at 0 rfl) fun _ lb0_=>impl_sameNode w_ (hs_.at 1 rfl) lb0_) (qn (qv 7 rfl (nt rfl rfl) rfl (by kernel_rfl) (qv 8 rfl (as_ rfl rfl) rfl (by kernel_rfl) (qe [1,1,1,1] (by kernel_rfl) rfl (nx (rt (ret1 rfl rfl (fun w_ hs_=>⟨?_,hs_.below⟩))))))))))
  exact rb (by rw [nodeAt_of m8])
theorem free_eq {a : Arena} {c : Int} (h : a.free.any (fun id=>!isPlace a id) = false) (k : c = if rises a.free = false ∨ a.free.any (fun id=>!decide (nodeAt a id = emptyNode)) = true then 1 else 0) : c = freeFault a:=by
  rw [k]; unfold freeFault rises; rw [h]; cases adj (fun a b=>decide (b ≤ a)) a.free <;> simp
set_option maxRecDepth 20000 in
set_option maxHeartbeats 2000000 in
theorem impl_Arena_freeFault (w : World) {Aa1 : Option Addr} {ca1 : Nat} {Aa2 : Option Addr} {ca2 : Nat} {Aa3 : Option Addr} {ca3 : Nat} {a : Arena} {sa_ : List Nat} (ha : kArenaS.Rel w [.int .i64 a.dims,.slice Aa1 a.nodes.length ca1,.slice Aa2 a.free.length ca2,.slice Aa3 a.retired.length ca3] a [] sa_)  : Calls Tryz.prog 80 #[.agg #[.int .i64 a.dims,.slice Aa1 a.nodes.length ca1,.slice Aa2 a.free.length ca2,.slice Aa3 a.retired.length ca3]] w (fun e_ w2_=>e_ = .returned (.int .i64 (freeFault a)) ∧ Below w.heap.size w w2_):=by
  have La2:=Kd.sub_len kArenaS_p2_1 ha; have Ca2:=Kd.sub_cap kArenaS_p2_1 ha rfl
  refine fnc (X:=X2 27 w) (l:=[(0,.agg #[.int .i64 a.dims,.slice Aa1 a.nodes.length ca1,.slice Aa2 a.free.length ca2,.slice Aa3 a.retired.length ca3])]) Tryz.func80 rfl rfl rfl ⟨rfl,trivial⟩ (s0d ha (s0n w)).1 ?_
  refine sq (rg (bx rfl rfl rfl rfl ?_))
  intro b1
  refine a_ rfl rfl (en (nx (sq (sq (rg (vl (fa rfl rfl rfl) rfl (vl (ldb (u:=.slice Aa2 a.free.length ca2) 0 rfl rfl rfl rfl rfl rfl rfl) rfl (vl (ln rfl rfl rfl) rfl (m_ rfl rfl (en (nx (bk ?_))))))))))))
  refine lp (σ:=Nat) (fun k : Nat=>[(1,.pointer (some ⟨b1,0,none⟩)),(6,.slice Aa2 a.free.length ca2),(7,.int .i64 ((a.free.length : Nat) : Int)),(8,.int .i64 ((k : Nat) : Int))])
      (fun k : Nat=>[blk b1 [.int .i64 a.dims,.slice Aa1 a.nodes.length ca1,.slice Aa2 a.free.length ca2,.slice Aa3 a.retired.length ca3] 50,dat kArenaS [.int .i64 a.dims,.slice Aa1 a.nodes.length ca1,.slice Aa2 a.free.length ca2,.slice Aa3 a.retired.length ca3] a ([]) sa_])
      (fun k : Nat=>k ≤ a.free.length ∧ ∀ j x,j < k → a.free[j]? = some x → (!isPlace a x) = false) (fun k : Nat=>a.free.length - k) 0 [0,0] ⟨Nat.zero_le _,by simp⟩ ⟨rfl,rfl,rfl,rfl,trivial⟩ rfl ?_
  intro k hp_
  obtain ⟨hk,hinv⟩:=hp_
  refine sq (rg (vl (cm rfl rfl rfl rfl) rfl (en (nx (sq ?_)))))
  by_cases h2 : ((k : Nat) : Int) < ((a.free.length : Nat) : Int)
  · refine ct rfl (decide_eq_true h2) (sk (nx (sq (bk (sq (rg ?_))))))
    refine gd 1 kArenaS_p2_1 rfl (cs':=[.slice Aa2 a.free.length ca2]) rfl fun s3 w_ rs3 us3=>?_
    have Ls3:=Kd.sl_len rs3; have Cs3:=Kd.sl_cap rs3
    refine gx 0 k rfl (by omega) fun y9 p4 cs_ s5 w8 m10 e6 r7 us5=>?_
    obtain ⟨rfl,-,-⟩:=r7
    refine vl (ix k e6 rfl rfl rfl rfl rfl (by omega)) rfl (vl (ldq (u:=.int .i64 y9) 0 rfl rfl rfl rfl rfl rfl rfl) rfl (a_ rfl rfl (en (nx (sq (rg (vl (ldb 2 rfl rfl rfl rfl rfl rfl rfl) rfl (m_ rfl rfl (cs_ (v:=.bool (isPlace a y9)) (by kernel_rfl) rfl rfl rfl (fun w_ hs_=>impl_Arena_isPlace w_ _ (hs_.at 3 rfl)) (vl (nt rfl rfl) rfl (en (nx ?_))))))))))))
    by_cases h11 : isPlace a y9 = true
    · exact cf rfl (not_f h11) (sk (xn (nx (rg (vl (ra (c:=((k + 1 : Nat) : Int)) rfl rfl rfl (by omega) (by omega) (by omega)) rfl (m_ rfl rfl (en (lpe (s:=k) (k + 1) [2,2] ⟨by omega,idx_step (p:=fun id=>!isPlace a id) hinv m10 (not_f h11)⟩ (by omega) ⟨rfl,rfl,rfl,rfl,trivial⟩ rfl))))))))
    · refine ct rfl (not_t (Bool.eq_false_iff.2 h11)) (sq (rg (a_ rfl rfl (en (nx (rt (xrb (xr (xr (xrb (xr (ret1 rfl rfl (fun w_ hs_=>⟨?_,hs_.below⟩)))))))))))))
      exact ri (by have z:=any_some (p:=fun id=>!isPlace a id) m10 (not_t (Bool.eq_false_iff.2 h11)); grind [freeFault])
  · have hpl : ∀ x ∈ a.free,isPlace a x = true:=fun x hx=>by have z:=any_none (p:=fun id=>!isPlace a id) hinv (by omega); have y:=List.any_eq_false.1 z x hx; simpa using y
    refine cf rfl (decide_eq_false h2) (xt (xq (xq (xb (nx (sq (sq (rg (vl (fa rfl rfl rfl) rfl (vl (ldb (u:=.slice Aa2 a.free.length ca2) 0 rfl rfl rfl rfl rfl rfl rfl) rfl ?_))))))))))
    refine gd 1 kArenaS_p2_1 rfl (cs':=[.slice Aa2 a.free.length ca2]) rfl fun s12 w_ rs12 us12=>?_
    have Ls12:=Kd.sl_len rs12; have Cs12:=Kd.sl_cap rs12
    refine cs_ (v:=.bool (rises a.free)) (by kernel_rfl) rfl rfl rfl (fun w_ hs_=>impl_isRising w_ (hs_.at 0 rfl)) (vl (nt rfl rfl) rfl (m_ rfl rfl ?_))
    by_cases h13 : rises a.free = true
    · refine vg (fa rfl rfl rfl) rfl rfl (not_f h13) (vg (ldb (u:=.slice Aa2 a.free.length ca2) 1 rfl rfl rfl rfl rfl rfl rfl) rfl rfl (not_f h13) (vg (mf rfl rfl rfl) rfl rfl (not_f h13) (gw rfl rfl (not_f h13) (cs_ (v:=.bool (List.any a.free (fun (x0 : Int)=>!decide (nodeAt a x0 = emptyNode)))) (by kernel_rfl) rfl rfl rfl (fun w_ hs_=>slices_ContainsFunc_int64_int64 w_ (fun (x0 : Int)=>!decide (nodeAt a x0 = emptyNode)) (by kernel_rfl) (hs_.at 0 rfl) (fun w1 x0 m0_ b_ =>impl_Arena_freeFault_1 w1 x0 (ptr_blk ((hs_.step b_).at 1 rfl) ((hs_.step b_).at 2 rfl) rfl) (hpl x0 m0_))) (vl (pk (b:=false) rfl rfl (not_f h13) rfl) rfl (en (nx ?_)))))))
      by_cases h14 : List.any a.free (fun (x0 : Int)=>!decide (nodeAt a x0 = emptyNode)) = true
      · refine ct rfl h14 (sq (rg (a_ rfl rfl (en (nx (rt (xr (ret1 rfl rfl (fun w_ hs_=>⟨?_,hs_.below⟩)))))))))
        exact ri (free_eq (any_none (p:=fun id=>!isPlace a id) hinv (by omega)) (by grind))
      · refine cf rfl (Bool.eq_false_iff.2 h14) (sk (nx (sq (rg (a_ rfl rfl (en (nx (rt (ret1 rfl rfl (fun w_ hs_=>⟨?_,hs_.below⟩))))))))))
        exact ri (free_eq (any_none (p:=fun id=>!isPlace a id) hinv (by omega)) (by grind))
    · refine sg rfl rfl (not_t (Bool.eq_false_iff.2 h13)) (sg rfl rfl (not_t (Bool.eq_false_iff.2 h13)) (sg rfl rfl (not_t (Bool.eq_false_iff.2 h13)) (sg rfl rfl (not_t (Bool.eq_false_iff.2 h13)) (vl (pk (b:=true) rfl rfl (not_t (Bool.eq_false_iff.2 h13)) rfl) rfl (en (nx (ct rfl rfl (sq (rg (a_ rfl rfl (en (nx (rt (xr (ret1 rfl rfl (fun w_ hs_=>⟨?_,hs_.below⟩))))))))))))))))
      exact ri (free_eq (any_none (p:=fun id=>!isPlace a id) hinv (by omega)) (by grind))
theorem cut_one {a : Arena} {y : Int} (h : isPlace a y = true) : (a.nodes.take (y + 1).toNat).drop y.toNat = [nodeAt a y]:=by
  have h1:=within_t h
  have h2:=(nodeAt_mem h).2.2
  have h3 : (y + 1).toNat = y.toNat + 1:=by omega
  rw [h3,take_snoc h2,List.drop_append_of_le_length (by simp; omega),List.drop_of_length_le (by simp; omega)]
  rfl
def risesTo (l : List Int) (k : Nat) : Prop := ∀ j a b, j + 1 < k → l[j]? = some a → l[j + 1]? = some b → decide (b ≤ a) = false
theorem risesTo_on {l : List Int} {k : Nat} (h : risesTo l k) (hk : ∀ a b,l[k - 1]? = some a → l[k]? = some b → 0 < k → decide (b ≤ a) = false) : risesTo l (k + 1):=fun j a b hj ha hb=>by
  rcases Nat.lt_or_ge (j + 1) k with h1 | h1
  · exact h j a b h1 ha hb
  · have : k = j + 1:=by omega
    subst this
    exact hk a b (by simpa using ha) hb (by omega)
theorem risesTo_end {l : List Int} {k : Nat} (h : risesTo l k) (hk : l.length ≤ k) : rises l = true:=by
  unfold rises
  rw [adj_f (k:=l.length) (r:=fun a b=>decide (b ≤ a)) (fun j a b hj ha hb=>h j a b (by have:=(List.getElem?_eq_some_iff.1 hb).1; omega) ha hb) (by omega)]; rfl
theorem watch_one (l : List Int) : watchFault l 1 = if l.length = 0 then 2 else watchFault l 0:=by
  unfold watchFault; grind
set_option maxRecDepth 20000 in
set_option maxHeartbeats 2000000 in
theorem spec_l4Free (w : World) {Aa1 : Option Addr} {ca1 : Nat} {Aa2 : Option Addr} {ca2 : Nat} {Aa3 : Option Addr} {ca3 : Nat} {a : Arena} {sa_ : List Nat} {pa : Addr} (ha : (ptr kArenaS pa [.int .i64 a.dims,.slice Aa1 a.nodes.length ca1,.slice Aa2 a.free.length ca2,.slice Aa3 a.retired.length ca3] a sa_).P w)  : Calls Tryz.prog 58 #[.pointer (some pa)] w (fun e_ w2_=>e_ = .returned (.int .i64 (freeFault a)) ∧ Below w.heap.size w w2_):=by
  have La1:=Kd.sub_len kArenaS_p1_1 ha.2.2.2; have Ca1:=Kd.sub_cap kArenaS_p1_1 ha.2.2.2 rfl
  have La2:=Kd.sub_len kArenaS_p2_1 ha.2.2.2; have Ca2:=Kd.sub_cap kArenaS_p2_1 ha.2.2.2 rfl
  refine fnc (X:=X2 79 w) (l:=[(0,.pointer (some pa))]) Tryz.func58 rfl rfl rfl ⟨rfl,trivial⟩ (s0p ha (s0n w)).1 ?_
  refine sq (rg (a_ rfl rfl (en (nx (sq (sq (rg (a_ rfl rfl (en (nx (bk ?_)))))))))))
  refine lp (σ:=Nat) (fun k : Nat=>[(0,.pointer (some pa)),(3,.int .i64 ((k : Nat) : Int))])
      (fun k : Nat=>[ptr kArenaS pa [.int .i64 a.dims,.slice Aa1 a.nodes.length ca1,.slice Aa2 a.free.length ca2,.slice Aa3 a.retired.length ca3] a sa_])
      (fun k : Nat=>k ≤ a.free.length ∧ ∀ j x,j < k → a.free[j]? = some x → (!isPlace a x) = false) (fun k : Nat=>a.free.length - k) 0 [0] ⟨Nat.zero_le _,by simp⟩ ⟨rfl,rfl,trivial⟩ rfl ?_
  intro k hp_
  obtain ⟨hk,hinv⟩:=hp_
  refine sq (sq (rg (m_ rfl rfl (m_ rfl rfl (vl (nc rfl rfl) rfl (vl (fa rfl rfl rfl) rfl (vl (ldp (u:=.slice Aa2 a.free.length ca2) 0 rfl rfl rfl rfl rfl rfl rfl) rfl (vl (ln rfl rfl rfl) rfl (vl (cm rfl rfl rfl rfl) rfl (en (nx ?_)))))))))))
  by_cases h1 : ((k : Nat) : Int) < ((a.free.length : Nat) : Int)
  · refine ct rfl (decide_eq_true h1) (sk (nx (sq (bk (sq (rg (m_ rfl rfl (m_ rfl rfl (vl (nc rfl rfl) rfl (vl (fa rfl rfl rfl) rfl (vl (ldp (u:=.slice Aa2 a.free.length ca2) 0 rfl rfl rfl rfl rfl rfl rfl) rfl (m_ rfl rfl ?_))))))))))))
    refine gp 0 kArenaS_p2_1 rfl (cs':=[.slice Aa2 a.free.length ca2]) rfl fun s2 w_ rs2 us2=>?_
    have Ls2:=Kd.sl_len rs2; have Cs2:=Kd.sl_cap rs2
    refine gx 0 k rfl (by omega) fun y8 p3 cs_ s4 w7 m9 e5 r6 us4=>?_
    obtain ⟨rfl,-,-⟩:=r6
    refine vl (ix k e5 rfl rfl rfl rfl rfl (by omega)) rfl (vl (ldq (u:=.int .i64 y8) 0 rfl rfl rfl rfl rfl rfl rfl) rfl (cs_ (v:=.bool (isPlace a y8)) (by kernel_rfl) rfl rfl rfl (fun w_ hs_=>spec_l4Place w_ _ (hs_.at 2 rfl)) (vl (nt rfl rfl) rfl (en (nx ?_)))))
    by_cases h10 : isPlace a y8 = true
    · exact cf rfl (not_f h10) (sk (xn (nx (rg (m_ rfl rfl (vl (ra (c:=((k + 1 : Nat) : Int)) rfl rfl rfl (by omega) (by omega) (by omega)) rfl (a_ rfl rfl (en (lpe (s:=k) (k + 1) [2] ⟨by omega,idx_step (p:=fun id=>!isPlace a id) hinv m9 (not_f h10)⟩ (by omega) ⟨rfl,rfl,trivial⟩ rfl)))))))))
    · refine ct rfl (not_t (Bool.eq_false_iff.2 h10)) (sq (rg (a_ rfl rfl (en (nx (rt (xrb (xr (xr (xrb (xr (ret1 rfl rfl (fun w_ hs_=>⟨?_,hs_.below⟩)))))))))))))
      exact ri (by have z:=any_some (p:=fun id=>!isPlace a id) m9 (not_t (Bool.eq_false_iff.2 h10)); grind [freeFault])
  · have hpl : ∀ x ∈ a.free,isPlace a x = true:=fun x hx=>by have z:=any_none (p:=fun id=>!isPlace a id) hinv (by omega); have y:=List.any_eq_false.1 z x hx; simpa using y
    refine cf rfl (decide_eq_false h1) (xt (xq (xq (xb (nx (sq (sq (rg (a_ rfl rfl (en (nx (bk ?_))))))))))))
    refine lp (σ:=Nat) (fun k2 : Nat=>[(0,.pointer (some pa)),(4,.int .i64 ((k2 : Nat) : Int))])
        (fun k2 : Nat=>[ptr kArenaS pa [.int .i64 a.dims,.slice Aa1 a.nodes.length ca1,.slice Aa2 a.free.length ca2,.slice Aa3 a.retired.length ca3] a sa_])
        (fun k2 : Nat=>k2 ≤ a.free.length ∧ risesTo a.free k2 ∧ ∀ j x,j < k2 → a.free[j]? = some x → (!decide (nodeAt a x = emptyNode)) = false) (fun k2 : Nat=>a.free.length - k2) 0 [0] ⟨Nat.zero_le _,(fun j a b hj=>by omega),by simp⟩ ⟨rfl,rfl,trivial⟩ rfl ?_
    intro k2 hp_
    obtain ⟨hk2,hinv2⟩:=hp_
    refine sq (sq (rg (m_ rfl rfl (m_ rfl rfl (vl (nc rfl rfl) rfl (vl (fa rfl rfl rfl) rfl (vl (ldp (u:=.slice Aa2 a.free.length ca2) 0 rfl rfl rfl rfl rfl rfl rfl) rfl (vl (ln rfl rfl rfl) rfl (vl (cm rfl rfl rfl rfl) rfl (en (nx ?_)))))))))))
    by_cases h11 : ((k2 : Nat) : Int) < ((a.free.length : Nat) : Int)
    · refine ct rfl (decide_eq_true h11) (sk (nx (sq (bk (sq ?_)))))
      by_cases h12 : (0 : Int) < ((k2 : Nat) : Int)
      · refine gp 0 kArenaS_p2_1 rfl (cs':=[.slice Aa2 a.free.length ca2]) rfl fun s13 w_ rs13 us13=>?_
        have Ls13:=Kd.sl_len rs13; have Cs13:=Kd.sl_cap rs13
        refine gx 0 k2 rfl (by omega) fun y19 p14 cs_ s15 w18 m20 e16 r17 us15=>?_
        obtain ⟨rfl,-,-⟩:=r17
        have hpy19:=hpl _ (List.mem_of_getElem? m20); have hqy19:=within_t hpy19
        refine gx 1 (k2 - 1) rfl (by omega) fun y26 p21 cs_ s22 w25 m27 e23 r24 us22=>?_
        obtain ⟨rfl,-,-⟩:=r24
        by_cases h28 : y19 ≤ y26
        · refine r0 (qv 0 rfl (mv rfl rfl) rfl (by kernel_rfl) (qv 1 rfl (cm rfl rfl rfl rfl) rfl (by kernel_rfl) (qv 2 rfl (mv rfl rfl) rfl (by kernel_rfl) (qg 3 rfl (mv rfl rfl) rfl rfl (decide_eq_true h12) (by kernel_rfl) (qg 4 rfl (nc rfl rfl) rfl rfl (decide_eq_true h12) (by kernel_rfl) (qg 5 rfl (fa rfl rfl rfl) rfl rfl (decide_eq_true h12) (by kernel_rfl) (qg 6 rfl (ldp (u:=.slice Aa2 a.free.length ca2) 3 rfl rfl rfl rfl rfl rfl rfl) rfl rfl (decide_eq_true h12) (by kernel_rfl) (qg 7 rfl (mv rfl rfl) rfl rfl (decide_eq_true h12) (by kernel_rfl) (qg 8 rfl (ix k2 e16 rfl rfl rfl rfl rfl (by omega)) rfl rfl (decide_eq_true h12) (by kernel_rfl) (qg 9 rfl (ldq (u:=.int .i64 y19) 1 rfl rfl rfl rfl rfl rfl rfl) rfl rfl (decide_eq_true h12) (by kernel_rfl) (qg 10 rfl (mv rfl rfl) rfl rfl (decide_eq_true h12) (by kernel_rfl) (qg 11 rfl (nc rfl rfl) rfl rfl (decide_eq_true h12) (by kernel_rfl) (qg 12 rfl (fa rfl rfl rfl) rfl rfl (decide_eq_true h12) (by kernel_rfl) (qg 13 rfl (ldp (u:=.slice Aa2 a.free.length ca2) 3 rfl rfl rfl rfl rfl rfl rfl) rfl rfl (decide_eq_true h12) (by kernel_rfl) (qg 14 rfl (mv rfl rfl) rfl rfl (decide_eq_true h12) (by kernel_rfl) (qg 15 rfl (rs (c:=((k2 - 1 : Nat) : Int)) rfl rfl rfl (by omega) (by omega) (by omega)) rfl rfl (decide_eq_true h12) (by kernel_rfl) (qg 16 rfl (ix (k2 - 1) e23 rfl rfl rfl rfl rfl (by omega)) rfl rfl (decide_eq_true h12) (by kernel_rfl) (qg 17 rfl (ldq (u:=.int .i64 y26) 0 rfl rfl rfl rfl rfl rfl rfl) rfl rfl (decide_eq_true h12) (by kernel_rfl) (qg 18 rfl (cm rfl rfl rfl rfl) rfl rfl (decide_eq_true h12) (by kernel_rfl) (qv 19 rfl (pk (b:=true) rfl rfl (decide_eq_true h12) rfl) rfl (by kernel_rfl) (qv 20 rfl (mv rfl rfl) rfl (by kernel_rfl) (qs 21 rfl rfl rfl (decide_eq_true h28) (by kernel_rfl) (qs 22 rfl rfl rfl (decide_eq_true h28) (by kernel_rfl) (qs 23 rfl rfl rfl (decide_eq_true h28) (by kernel_rfl) (qs 24 rfl rfl rfl (decide_eq_true h28) (by kernel_rfl) (qs 25 rfl rfl rfl (decide_eq_true h28) (by kernel_rfl) (qs 26 rfl rfl rfl (decide_eq_true h28) (by kernel_rfl) (qs 27 rfl rfl rfl (decide_eq_true h28) (by kernel_rfl) (qs 28 rfl rfl rfl (decide_eq_true h28) (by kernel_rfl) (qs 29 rfl rfl rfl (decide_eq_true h28) (by kernel_rfl) (qs 30 rfl rfl rfl (decide_eq_true h28) (by kernel_rfl) (qs 31 rfl rfl rfl (decide_eq_true h28) (by kernel_rfl) (qs 32 rfl rfl rfl (decide_eq_true h28) (by kernel_rfl) (qs 33 rfl rfl rfl (decide_eq_true h28) (by kernel_rfl) (qs 34 rfl rfl rfl (decide_eq_true h28) (by kernel_rfl) (qs 35 rfl rfl rfl (decide_eq_true h28) (by kernel_rfl) (qs 36 rfl rfl rfl (decide_eq_true h28) (by kernel_rfl) (qs 37 rfl rfl rfl (decide_eq_true h28) (by kernel_rfl) (qs 38 rfl rfl rfl (decide_eq_true h28) (by kernel_rfl) (qs 39 rfl rfl rfl (decide_eq_true h28) (by kernel_rfl) (qs 40 rfl rfl rfl (decide_eq_true h28) (by kernel_rfl) (qs 41 rfl rfl rfl (decide_eq_true h28) (by kernel_rfl) (qs 42 rfl rfl rfl (decide_eq_true h28) (by kernel_rfl) (qs 43 rfl rfl rfl (decide_eq_true h28) (by kernel_rfl) (qs 44 rfl rfl rfl (decide_eq_true h28) (by kernel_rfl) (qv 45 rfl (pk (b:=true) rfl rfl (decide_eq_true h28) rfl) rfl (by kernel_rfl) (qe [0,0,0,0] (by kernel_rfl) rfl (nx (ct rfl rfl (sq (rg (a_ rfl rfl (en (nx (rt (xrb (xr (xr (xrb (xr (ret1 rfl rfl (fun w_ hs_=>⟨?_,hs_.below⟩))))))))))))))))))))))))))))))))))))))))))))))))))))))))))))))
          exact ri (free_eq (any_none (p:=fun id=>!isPlace a id) hinv (by omega)) (by have q : rises a.free = false:=(by unfold rises; rw [adj_t (k:=k2 - 1) m27 (by rw [show k2 - 1 + 1 = k2 by omega]; exact m20) (decide_eq_true h28)]; rfl); grind))
        · refine gp 3 kArenaS_p1_1 rfl (cs':=[.slice Aa1 a.nodes.length ca1]) rfl fun s31 w_ rs31 us31=>?_
          have Ls31:=Kd.sl_len rs31; have Cs31:=Kd.sl_cap rs31
          refine gct 0 ((y19 + 1).toNat) rfl (by omega) fun s32 w_ rs32 us32=>?_
          refine gdr 0 y19.toNat rfl (by simp; omega) fun s33 w_ rs33 us33=>?_
          refine r0 (qv 0 rfl (mv rfl rfl) rfl (by kernel_rfl) (qv 1 rfl (cm rfl rfl rfl rfl) rfl (by kernel_rfl) (qv 2 rfl (mv rfl rfl) rfl (by kernel_rfl) (qg 3 rfl (mv rfl rfl) rfl rfl (decide_eq_true h12) (by kernel_rfl) (qg 4 rfl (nc rfl rfl) rfl rfl (decide_eq_true h12) (by kernel_rfl) (qg 5 rfl (fa rfl rfl rfl) rfl rfl (decide_eq_true h12) (by kernel_rfl) (qg 6 rfl (ldp (u:=.slice Aa2 a.free.length ca2) 6 rfl rfl rfl rfl rfl rfl rfl) rfl rfl (decide_eq_true h12) (by kernel_rfl) (qg 7 rfl (mv rfl rfl) rfl rfl (decide_eq_true h12) (by kernel_rfl) (qg 8 rfl (ix k2 e16 rfl rfl rfl rfl rfl (by omega)) rfl rfl (decide_eq_true h12) (by kernel_rfl) (qg 9 rfl (ldq (u:=.int .i64 y19) 4 rfl rfl rfl rfl rfl rfl rfl) rfl rfl (decide_eq_true h12) (by kernel_rfl) (qg 10 rfl (mv rfl rfl) rfl rfl (decide_eq_true h12) (by kernel_rfl) (qg 11 rfl (nc rfl rfl) rfl rfl (decide_eq_true h12) (by kernel_rfl) (qg 12 rfl (fa rfl rfl rfl) rfl rfl (decide_eq_true h12) (by kernel_rfl) (qg 13 rfl (ldp (u:=.slice Aa2 a.free.length ca2) 6 rfl rfl rfl rfl rfl rfl rfl) rfl rfl (decide_eq_true h12) (by kernel_rfl) (qg 14 rfl (mv rfl rfl) rfl rfl (decide_eq_true h12) (by kernel_rfl) (qg 15 rfl (rs (c:=((k2 - 1 : Nat) : Int)) rfl rfl rfl (by omega) (by omega) (by omega)) rfl rfl (decide_eq_true h12) (by kernel_rfl) (qg 16 rfl (ix (k2 - 1) e23 rfl rfl rfl rfl rfl (by omega)) rfl rfl (decide_eq_true h12) (by kernel_rfl) (qg 17 rfl (ldq (u:=.int .i64 y26) 3 rfl rfl rfl rfl rfl rfl rfl) rfl rfl (decide_eq_true h12) (by kernel_rfl) (qg 18 rfl (cm rfl rfl rfl rfl) rfl rfl (decide_eq_true h12) (by kernel_rfl) (qv 19 rfl (pk (b:=true) rfl rfl (decide_eq_true h12) rfl) rfl (by kernel_rfl) (qv 20 rfl (mv rfl rfl) rfl (by kernel_rfl) (qg 21 rfl (mv rfl rfl) rfl rfl (decide_eq_false h28) (by kernel_rfl) (qg 22 rfl (nc rfl rfl) rfl rfl (decide_eq_false h28) (by kernel_rfl) (qg 23 rfl (fa rfl rfl rfl) rfl rfl (decide_eq_false h28) (by kernel_rfl) (qg 24 rfl (ldp (u:=.slice Aa1 a.nodes.length ca1) 6 rfl rfl rfl rfl rfl rfl rfl) rfl rfl (decide_eq_false h28) (by kernel_rfl) (qg 25 rfl (mv rfl rfl) rfl rfl (decide_eq_false h28) (by kernel_rfl) (qg 26 rfl (nc rfl rfl) rfl rfl (decide_eq_false h28) (by kernel_rfl) (qg 27 rfl (fa rfl rfl rfl) rfl rfl (decide_eq_false h28) (by kernel_rfl) (qg 28 rfl (ldp (u:=.slice Aa2 a.free.length ca2) 6 rfl rfl rfl rfl rfl rfl rfl) rfl rfl (decide_eq_false h28) (by kernel_rfl) (qg 29 rfl (mv rfl rfl) rfl rfl (decide_eq_false h28) (by kernel_rfl) (qg 30 rfl (ix k2 e16 rfl rfl rfl rfl rfl (by omega)) rfl rfl (decide_eq_false h28) (by kernel_rfl) (qg 31 rfl (ldq (u:=.int .i64 y19) 4 rfl rfl rfl rfl rfl rfl rfl) rfl rfl (decide_eq_false h28) (by kernel_rfl) (qg 32 rfl (mv rfl rfl) rfl rfl (decide_eq_false h28) (by kernel_rfl) (qg 33 rfl (nc rfl rfl) rfl rfl (decide_eq_false h28) (by kernel_rfl) (qg 34 rfl (fa rfl rfl rfl) rfl rfl (decide_eq_false h28) (by kernel_rfl) (qg 35 rfl (ldp (u:=.slice Aa2 a.free.length ca2) 6 rfl rfl rfl rfl rfl rfl rfl) rfl rfl (decide_eq_false h28) (by kernel_rfl) (qg 36 rfl (mv rfl rfl) rfl rfl (decide_eq_false h28) (by kernel_rfl) (qg 37 rfl (ix k2 e16 rfl rfl rfl rfl rfl (by omega)) rfl rfl (decide_eq_false h28) (by kernel_rfl) (qg 38 rfl (ldq (u:=.int .i64 y19) 4 rfl rfl rfl rfl rfl rfl rfl) rfl rfl (decide_eq_false h28) (by kernel_rfl) (qg 39 rfl (ra (c:=y19 + 1) rfl rfl rfl rfl (by omega) (by omega)) rfl rfl (decide_eq_false h28) (by kernel_rfl) (qg 40 rfl (evr (v':=.slice (if ca1 = y19.toNat then Aa1 else (Aa1 : Option Addr).map (·.add (y19.toNat * 4))) (((a.nodes.take ((y19 + 1).toNat)).drop y19.toNat).length) (ca1 - y19.toNat)) (slh (i:=y19.toNat) (j:=((y19 + 1).toNat)) (by omega) (by omega) rfl rfl rfl rfl rfl rfl (by omega) (by omega)) (sl_eq (by simp; omega))) rfl rfl (decide_eq_false h28) (by kernel_rfl) (q1 41 [0,0,0,0,0,0,0] rfl (by kernel_rfl) rfl (gw rfl rfl (decide_eq_false h28) (cm_ (dk:=kNodeO) (x:=emptyNode) (S:=[]) (by kernel_rfl) rfl rfl rfl sn0 (fun w_ hs_=>by exact spec_l4Empty w_) (fun cs_ o38 s39 w_ r40 t41=>?_)))))))))))))))))))))))))))))))))))))))))))))
          obtain ⟨A36,c37,rfl⟩:=kNodeO_sh r40
          refine qn (q1 42 [1,1,1,1,1,1,1] rfl (by kernel_rfl) rfl (gw rfl rfl (decide_eq_false h28) (bs1 (dk:=kNodeO) rfl info107 (by decide) rfl rfl rfl rfl ?_)))
          intro b43
          refine qn (q1 43 [1,1,1,1,1,1,1] rfl (by kernel_rfl) rfl (gw rfl rfl (decide_eq_false h28) (cs_ (v:=.bool (decide (((a.nodes.take ((y19 + 1).toNat)).drop y19.toNat) = ([emptyNode])))) (by kernel_rfl) rfl rfl rfl (fun w_ hs_=>by exact bor (Kd.Seals.row kNodeO_seal _) (hs_.at 0 rfl) fun _ lb0_=>spec_SameNodes w_ (hs_.at 1 rfl) lb0_) (qn (qg 44 rfl (nt rfl rfl) rfl rfl (decide_eq_false h28) (by kernel_rfl) (qv 45 rfl (pk (b:=false) rfl rfl (decide_eq_false h28) rfl) rfl (by kernel_rfl) (qe [1,1,1,1,1,1,1] (by kernel_rfl) rfl (nx ?_))))))))
          by_cases h44 : decide (((a.nodes.take ((y19 + 1).toNat)).drop y19.toNat) = ([emptyNode])) = true
          · exact cf rfl (not_f h44) (sk (xn (nx (rg (m_ rfl rfl (vl (ra (c:=((k2 + 1 : Nat) : Int)) rfl rfl rfl (by omega) (by omega) (by omega)) rfl (a_ rfl rfl (en (lpe (s:=k2) (k2 + 1) [7] ⟨by omega,⟨risesTo_on hinv2.1 (fun a_ b_ ha hb h0=>by rw [m27] at ha; rw [m20] at hb; cases ha; cases hb; exact decide_eq_false h28),idx_step (p:=fun id=>!decide (nodeAt a id = emptyNode)) hinv2.2 m20 (by have z:=h44; rw [cut_one hpy19] at z; simp at z; simp [z])⟩⟩ (by omega) ⟨rfl,rfl,trivial⟩ rfl)))))))))
          · refine ct rfl (not_t (Bool.eq_false_iff.2 h44)) (sq (rg (a_ rfl rfl (en (nx (rt (xrb (xr (xr (xrb (xr (ret1 rfl rfl (fun w_ hs_=>⟨?_,hs_.below⟩)))))))))))))
            exact ri (free_eq (any_none (p:=fun id=>!isPlace a id) hinv (by omega)) (by have q:=any_some (p:=fun id=>!decide (nodeAt a id = emptyNode)) m20 (by have z:=h44; rw [cut_one hpy19] at z; simp at z; simp [z]); grind))
      · refine gp 0 kArenaS_p2_1 rfl (cs':=[.slice Aa2 a.free.length ca2]) rfl fun s45 w_ rs45 us45=>?_
        have Ls45:=Kd.sl_len rs45; have Cs45:=Kd.sl_cap rs45
        refine gx 0 k2 rfl (by omega) fun y51 p46 cs_ s47 w50 m52 e48 r49 us47=>?_
        obtain ⟨rfl,-,-⟩:=r49
        have hpy51:=hpl _ (List.mem_of_getElem? m52); have hqy51:=within_t hpy51
        refine gp 2 kArenaS_p1_1 rfl (cs':=[.slice Aa1 a.nodes.length ca1]) rfl fun s55 w_ rs55 us55=>?_
        have Ls55:=Kd.sl_len rs55; have Cs55:=Kd.sl_cap rs55
        refine gct 0 ((y51 + 1).toNat) rfl (by omega) fun s56 w_ rs56 us56=>?_
        refine gdr 0 y51.toNat rfl (by simp; omega) fun s57 w_ rs57 us57=>?_
        refine r0 (qv 0 rfl (mv rfl rfl) rfl (by kernel_rfl) (qv 1 rfl (cm rfl rfl rfl rfl) rfl (by kernel_rfl) (qv 2 rfl (mv rfl rfl) rfl (by kernel_rfl) (qs 3 rfl rfl rfl (decide_eq_false h12) (by kernel_rfl) (qs 4 rfl rfl rfl (decide_eq_false h12) (by kernel_rfl) (qs 5 rfl rfl rfl (decide_eq_false h12) (by kernel_rfl) (qs 6 rfl rfl rfl (decide_eq_false h12) (by kernel_rfl) (qs 7 rfl rfl rfl (decide_eq_false h12) (by kernel_rfl) (qs 8 rfl rfl rfl (decide_eq_false h12) (by kernel_rfl) (qs 9 rfl rfl rfl (decide_eq_false h12) (by kernel_rfl) (qs 10 rfl rfl rfl (decide_eq_false h12) (by kernel_rfl) (qs 11 rfl rfl rfl (decide_eq_false h12) (by kernel_rfl) (qs 12 rfl rfl rfl (decide_eq_false h12) (by kernel_rfl) (qs 13 rfl rfl rfl (decide_eq_false h12) (by kernel_rfl) (qs 14 rfl rfl rfl (decide_eq_false h12) (by kernel_rfl) (qs 15 rfl rfl rfl (decide_eq_false h12) (by kernel_rfl) (qs 16 rfl rfl rfl (decide_eq_false h12) (by kernel_rfl) (qs 17 rfl rfl rfl (decide_eq_false h12) (by kernel_rfl) (qs 18 rfl rfl rfl (decide_eq_false h12) (by kernel_rfl) (qv 19 rfl (pk (b:=false) rfl rfl (decide_eq_false h12) rfl) rfl (by kernel_rfl) (qv 20 rfl (mv rfl rfl) rfl (by kernel_rfl) (qg 21 rfl (mv rfl rfl) rfl rfl rfl (by kernel_rfl) (qg 22 rfl (nc rfl rfl) rfl rfl rfl (by kernel_rfl) (qg 23 rfl (fa rfl rfl rfl) rfl rfl rfl (by kernel_rfl) (qg 24 rfl (ldp (u:=.slice Aa1 a.nodes.length ca1) 5 rfl rfl rfl rfl rfl rfl rfl) rfl rfl rfl (by kernel_rfl) (qg 25 rfl (mv rfl rfl) rfl rfl rfl (by kernel_rfl) (qg 26 rfl (nc rfl rfl) rfl rfl rfl (by kernel_rfl) (qg 27 rfl (fa rfl rfl rfl) rfl rfl rfl (by kernel_rfl) (qg 28 rfl (ldp (u:=.slice Aa2 a.free.length ca2) 5 rfl rfl rfl rfl rfl rfl rfl) rfl rfl rfl (by kernel_rfl) (qg 29 rfl (mv rfl rfl) rfl rfl rfl (by kernel_rfl) (qg 30 rfl (ix k2 e48 rfl rfl rfl rfl rfl (by omega)) rfl rfl rfl (by kernel_rfl) (qg 31 rfl (ldq (u:=.int .i64 y51) 3 rfl rfl rfl rfl rfl rfl rfl) rfl rfl rfl (by kernel_rfl) (qg 32 rfl (mv rfl rfl) rfl rfl rfl (by kernel_rfl) (qg 33 rfl (nc rfl rfl) rfl rfl rfl (by kernel_rfl) (qg 34 rfl (fa rfl rfl rfl) rfl rfl rfl (by kernel_rfl) (qg 35 rfl (ldp (u:=.slice Aa2 a.free.length ca2) 5 rfl rfl rfl rfl rfl rfl rfl) rfl rfl rfl (by kernel_rfl) (qg 36 rfl (mv rfl rfl) rfl rfl rfl (by kernel_rfl) (qg 37 rfl (ix k2 e48 rfl rfl rfl rfl rfl (by omega)) rfl rfl rfl (by kernel_rfl) (qg 38 rfl (ldq (u:=.int .i64 y51) 3 rfl rfl rfl rfl rfl rfl rfl) rfl rfl rfl (by kernel_rfl) (qg 39 rfl (ra (c:=y51 + 1) rfl rfl rfl rfl (by omega) (by omega)) rfl rfl rfl (by kernel_rfl) (qg 40 rfl (evr (v':=.slice (if ca1 = y51.toNat then Aa1 else (Aa1 : Option Addr).map (·.add (y51.toNat * 4))) (((a.nodes.take ((y51 + 1).toNat)).drop y51.toNat).length) (ca1 - y51.toNat)) (slh (i:=y51.toNat) (j:=((y51 + 1).toNat)) (by omega) (by omega) rfl rfl rfl rfl rfl rfl (by omega) (by omega)) (sl_eq (by simp; omega))) rfl rfl rfl (by kernel_rfl) (q1 41 [0,0,0,0,0,0] rfl (by kernel_rfl) rfl (gw rfl rfl rfl (cm_ (dk:=kNodeO) (x:=emptyNode) (S:=[]) (by kernel_rfl) rfl rfl rfl sn0 (fun w_ hs_=>by exact spec_l4Empty w_) (fun cs_ o62 s63 w_ r64 t65=>?_)))))))))))))))))))))))))))))))))))))))))))))
        obtain ⟨A60,c61,rfl⟩:=kNodeO_sh r64
        refine qn (q1 42 [1,1,1,1,1,1] rfl (by kernel_rfl) rfl (gw rfl rfl rfl (bs1 (dk:=kNodeO) rfl info107 (by decide) rfl rfl rfl rfl ?_)))
        intro b67
        refine qn (q1 43 [1,1,1,1,1,1] rfl (by kernel_rfl) rfl (gw rfl rfl rfl (cs_ (v:=.bool (decide (((a.nodes.take ((y51 + 1).toNat)).drop y51.toNat) = ([emptyNode])))) (by kernel_rfl) rfl rfl rfl (fun w_ hs_=>by exact bor (Kd.Seals.row kNodeO_seal _) (hs_.at 0 rfl) fun _ lb0_=>spec_SameNodes w_ (hs_.at 1 rfl) lb0_) (qn (qg 44 rfl (nt rfl rfl) rfl rfl rfl (by kernel_rfl) (qv 45 rfl (pk (b:=false) rfl rfl rfl rfl) rfl (by kernel_rfl) (qe [1,1,1,1,1,1] (by kernel_rfl) rfl (nx ?_))))))))
        by_cases h68 : decide (((a.nodes.take ((y51 + 1).toNat)).drop y51.toNat) = ([emptyNode])) = true
        · exact cf rfl (not_f h68) (sk (xn (nx (rg (m_ rfl rfl (vl (ra (c:=((k2 + 1 : Nat) : Int)) rfl rfl rfl (by omega) (by omega) (by omega)) rfl (a_ rfl rfl (en (lpe (s:=k2) (k2 + 1) [6] ⟨by omega,⟨risesTo_on hinv2.1 (fun a_ b_ ha hb h0=>by omega),idx_step (p:=fun id=>!decide (nodeAt a id = emptyNode)) hinv2.2 m52 (by have z:=h68; rw [cut_one hpy51] at z; simp at z; simp [z])⟩⟩ (by omega) ⟨rfl,rfl,trivial⟩ rfl)))))))))
        · refine ct rfl (not_t (Bool.eq_false_iff.2 h68)) (sq (rg (a_ rfl rfl (en (nx (rt (xrb (xr (xr (xrb (xr (ret1 rfl rfl (fun w_ hs_=>⟨?_,hs_.below⟩)))))))))))))
          exact ri (free_eq (any_none (p:=fun id=>!isPlace a id) hinv (by omega)) (by have q:=any_some (p:=fun id=>!decide (nodeAt a id = emptyNode)) m52 (by have z:=h68; rw [cut_one hpy51] at z; simp at z; simp [z]); grind))
    · refine cf rfl (decide_eq_false h11) (xt (xq (xq (xb (nx (sq (rg (a_ rfl rfl (en (nx (rt (ret1 rfl rfl (fun w_ hs_=>⟨?_,hs_.below⟩)))))))))))))
      exact ri (free_eq (any_none (p:=fun id=>!isPlace a id) hinv (by omega)) (by have y:=risesTo_end hinv2.1 (by omega); have q:=any_none (p:=fun id=>!decide (nodeAt a id = emptyNode)) hinv2.2 (by omega); grind))
set_option maxRecDepth 20000 in
set_option maxHeartbeats 2000000 in
theorem impl_ArenaFault (w : World) {Aa1 : Option Addr} {ca1 : Nat} {Aa2 : Option Addr} {ca2 : Nat} {Aa3 : Option Addr} {ca3 : Nat} {a : Arena} {sa_ : List Nat} (ha : kArenaS.Rel w [.int .i64 a.dims,.slice Aa1 a.nodes.length ca1,.slice Aa2 a.free.length ca2,.slice Aa3 a.retired.length ca3] a [] sa_)  : Calls Tryz.prog 34 #[.agg #[.int .i64 a.dims,.slice Aa1 a.nodes.length ca1,.slice Aa2 a.free.length ca2,.slice Aa3 a.retired.length ca3]] w (fun e_ w2_=>e_ = .returned (.int .i64 (arenaFault a)) ∧ Below w.heap.size w w2_):=by
  have La1:=Kd.sub_len kArenaS_p1_1 ha; have Ca1:=Kd.sub_cap kArenaS_p1_1 ha rfl
  have La2:=Kd.sub_len kArenaS_p2_1 ha; have Ca2:=Kd.sub_cap kArenaS_p2_1 ha rfl
  have La3:=Kd.sub_len kArenaS_p3_1 ha; have Ca3:=Kd.sub_cap kArenaS_p3_1 ha rfl
  refine fnc (X:=X2 85 w) (l:=[(0,.agg #[.int .i64 a.dims,.slice Aa1 a.nodes.length ca1,.slice Aa2 a.free.length ca2,.slice Aa3 a.retired.length ca3])]) Tryz.func34 rfl rfl rfl ⟨rfl,trivial⟩ (s0d ha (s0n w)).1 ?_
  refine sq (rg (bx rfl rfl rfl rfl ?_))
  intro b1
  refine a_ rfl rfl (en (nx (sq (bk (sq (rg (vl (fa rfl rfl rfl) rfl (vl (ldb (u:=.int .i64 a.dims) 0 rfl rfl rfl rfl rfl rfl rfl) rfl (cs_ (v:=.bool (isDims a.dims)) (by kernel_rfl) rfl rfl rfl (fun w_ hs_=>impl_isDims w_ _) (vl (nt rfl rfl) rfl (a_ rfl rfl (en (nx ?_)))))))))))))
  by_cases h2 : isDims a.dims = true
  · refine cf rfl (not_f h2) (sq (rg (vl (fa rfl rfl rfl) rfl (vl (ldb (u:=.slice Aa1 a.nodes.length ca1) 0 rfl rfl rfl rfl rfl rfl rfl) rfl (vl (ln rfl rfl rfl) rfl (cs_ (v:=.bool (within ((a.nodes.length : Nat) : Int) 4 40)) (by kernel_rfl) rfl rfl rfl (fun w_ hs_=>impl_within w_ _ _ _) (vl (nt rfl rfl) rfl (a_ rfl rfl (en (nx ?_))))))))))
    by_cases h3 : within ((a.nodes.length : Nat) : Int) 4 40 = true
    · refine cf rfl (not_f h3) (sk (xn (nx (sq (sq (rg (vl (fa rfl rfl rfl) rfl (vl (ldb (u:=.slice Aa1 a.nodes.length ca1) 0 rfl rfl rfl rfl rfl rfl rfl) rfl (vl (ln rfl rfl rfl) rfl (m_ rfl rfl (en (nx (bk ?_)))))))))))))
      refine lp (σ:=Nat) (fun k : Nat=>[(1,.pointer (some ⟨b1,0,none⟩)),(24,.slice Aa1 a.nodes.length ca1),(25,.int .i64 ((a.nodes.length : Nat) : Int)),(26,.int .i64 ((k : Nat) : Int))])
          (fun k : Nat=>[blk b1 [.int .i64 a.dims,.slice Aa1 a.nodes.length ca1,.slice Aa2 a.free.length ca2,.slice Aa3 a.retired.length ca3] 50,dat kArenaS [.int .i64 a.dims,.slice Aa1 a.nodes.length ca1,.slice Aa2 a.free.length ca2,.slice Aa3 a.retired.length ca3] a ([]) sa_])
          (fun k : Nat=>k ≤ a.nodes.length ∧ ∀ j x,j < k → a.nodes[j]? = some x → nodeFault x a.dims = 0) (fun k : Nat=>a.nodes.length - k) 0 [0,0] ⟨Nat.zero_le _,by simp⟩ ⟨rfl,rfl,rfl,rfl,trivial⟩ rfl ?_
      intro k hp_
      obtain ⟨hk,hinv⟩:=hp_
      refine sq (rg (vl (cm rfl rfl rfl rfl) rfl (en (nx (sq ?_)))))
      by_cases h4 : ((k : Nat) : Int) < ((a.nodes.length : Nat) : Int)
      · refine ct rfl (decide_eq_true h4) (sk (nx (sq (bk (sq (rg ?_))))))
        refine gd 1 kArenaS_p1_1 rfl (cs':=[.slice Aa1 a.nodes.length ca1]) rfl fun s5 w_ rs5 us5=>?_
        have Ls5:=Kd.sl_len rs5; have Cs5:=Kd.sl_cap rs5
        refine gx 0 k rfl (by omega) fun y11 p6 cs_ s7 w10 m12 e8 r9 us7=>?_
        obtain ⟨A13,c14,rfl⟩:=kNodeS_sh r9
        refine vl (ix k e8 rfl rfl rfl rfl rfl (by omega)) rfl (vl (ldq 0 rfl rfl rfl rfl rfl rfl rfl) rfl (al zero107 rfl rfl rfl ?_))
        intro b15
        refine sto rfl rfl rfl rfl rfl rfl rfl (cs':=[.int .i64 y11.level,.int .i64 y11.nsn,.int .i64 y11.right,.slice A13 y11.entries.length c14]) rfl (en (nx (sq (rg (vl (ldb 0 rfl rfl rfl rfl rfl rfl rfl) rfl (vl (fa rfl rfl rfl) rfl (vl (ldb (u:=.int .i64 a.dims) 3 rfl rfl rfl rfl rfl rfl rfl) rfl ?_)))))))
        refine gp 1 Kd.Sub.rfl rfl (cs':=[.int .i64 y11.level,.int .i64 y11.nsn,.int .i64 y11.right,.slice A13 y11.entries.length c14]) rfl fun s16 w_ rs16 us16=>?_
        refine cs_ (v:=.int .i64 (nodeFault y11 a.dims)) (by kernel_rfl) rfl rfl rfl (fun w_ hs_=>impl_NodeFault w_ _ (hs_.at 0 rfl)) (a_ rfl rfl (en (nx (sq (rg (m_ rfl rfl (vl (cm rfl rfl rfl rfl) rfl (en (nx ?_)))))))))
        by_cases h17 : (nodeFault y11 a.dims) = (0 : Int)
        · exact cf rfl (bne_eq_false_iff_eq.2 h17) (sk (xn (nx (rg (vl (ra (c:=((k + 1 : Nat) : Int)) rfl rfl rfl (by omega) (by omega) (by omega)) rfl (m_ rfl rfl (en (lpe (s:=k) (k + 1) [4,4] ⟨by omega,zero_step (f:=fun n=>nodeFault n a.dims) hinv m12 h17⟩ (by omega) ⟨rfl,rfl,rfl,rfl,trivial⟩ rfl))))))))
        · refine ct rfl (bne_iff_ne.2 h17) (sq (rg (m_ rfl rfl (a_ rfl rfl (en (nx (rt (xrb (xr (xr (xrb (xr (ret1 rfl rfl (fun w_ hs_=>⟨?_,hs_.below⟩))))))))))))))
          exact ri (by have z:=firstFault_at (f:=fun n=>nodeFault n a.dims) hinv m12 h17; grind [arenaFault,isDims,within])
      · refine cf rfl (decide_eq_false h4) (xt (xq (xq (xb (nx (sq (sq (rg (vl (ldb 0 rfl rfl rfl rfl rfl rfl rfl) rfl (cs_ (v:=.int .i64 (freeFault a)) (by kernel_rfl) rfl rfl rfl (fun w_ hs_=>impl_Arena_freeFault w_ (hs_.at 1 rfl)) (a_ rfl rfl (en (nx (sq (rg (m_ rfl rfl (vl (cm rfl rfl rfl rfl) rfl (en (nx ?_)))))))))))))))))))
        by_cases h18 : (freeFault a) = (0 : Int)
        · refine cf rfl (bne_eq_false_iff_eq.2 h18) (sk (nx (sq (sq (rg (vl (fa rfl rfl rfl) rfl (vl (ldb (u:=.slice Aa3 a.retired.length ca3) 0 rfl rfl rfl rfl rfl rfl rfl) rfl (vl (ln rfl rfl rfl) rfl (m_ rfl rfl (en (nx (bk ?_))))))))))))
          refine lp (σ:=Nat) (fun k2 : Nat=>[(1,.pointer (some ⟨b1,0,none⟩)),(44,.slice Aa3 a.retired.length ca3),(45,.int .i64 ((a.retired.length : Nat) : Int)),(46,.int .i64 ((k2 : Nat) : Int))])
              (fun k2 : Nat=>[blk b1 [.int .i64 a.dims,.slice Aa1 a.nodes.length ca1,.slice Aa2 a.free.length ca2,.slice Aa3 a.retired.length ca3] 50,dat kArenaS [.int .i64 a.dims,.slice Aa1 a.nodes.length ca1,.slice Aa2 a.free.length ca2,.slice Aa3 a.retired.length ca3] a ([]) sa_])
              (fun k2 : Nat=>k2 ≤ a.retired.length ∧ ∀ j x,j < k2 → a.retired[j]? = some x → retFault a x = 0) (fun k2 : Nat=>a.retired.length - k2) 0 [0,0] ⟨Nat.zero_le _,by simp⟩ ⟨rfl,rfl,rfl,rfl,trivial⟩ rfl ?_
          intro k2 hp_
          obtain ⟨hk2,hinv2⟩:=hp_
          refine sq (rg (vl (cm rfl rfl rfl rfl) rfl (en (nx (sq ?_)))))
          by_cases h19 : ((k2 : Nat) : Int) < ((a.retired.length : Nat) : Int)
          · refine ct rfl (decide_eq_true h19) (sk (nx (sq (bk (sq (rg ?_))))))
            refine gd 1 kArenaS_p3_1 rfl (cs':=[.slice Aa3 a.retired.length ca3]) rfl fun s20 w_ rs20 us20=>?_
            have Ls20:=Kd.sl_len rs20; have Cs20:=Kd.sl_cap rs20
            refine gx 0 k2 rfl (by omega) fun y26 p21 cs_ s22 w25 m27 e23 r24 us22=>?_
            obtain ⟨A28,c29,rfl⟩:=kRetiredS_sh r24
            refine vl (ix k2 e23 rfl rfl rfl rfl rfl (by omega)) rfl (vl (ldq 0 rfl rfl rfl rfl rfl rfl rfl) rfl (al zero110 rfl rfl rfl ?_))
            intro b30
            refine sto rfl rfl rfl rfl rfl rfl rfl (cs':=[.int .i64 y26.id,.slice A28 y26.watch.length c29]) rfl (en (nx (sq (sq (rg (vl (ldb 3 rfl rfl rfl rfl rfl rfl rfl) rfl (vl (fa rfl rfl rfl) rfl (vl (ldb (u:=.int .i64 y26.id) 0 rfl rfl rfl rfl rfl rfl rfl) rfl (cs_ (v:=.bool (isPlace a y26.id)) (by kernel_rfl) rfl rfl rfl (fun w_ hs_=>impl_Arena_isPlace w_ _ (hs_.at 4 rfl)) (vl (nt rfl rfl) rfl (en (nx ?_))))))))))))
            by_cases h31 : isPlace a y26.id = true
            · refine cf rfl (not_f h31) (sk (nx (sq (rg (vl (fa rfl rfl rfl) rfl (vl (ldb (u:=.slice A28 y26.watch.length c29) 0 rfl rfl rfl rfl rfl rfl rfl) rfl ?_))))))
              refine gp 1 kRetiredS_p1_1 rfl (cs':=[.slice A28 y26.watch.length c29]) rfl fun s32 w_ rs32 us32=>?_
              have Ls32:=Kd.sl_len rs32; have Cs32:=Kd.sl_cap rs32
              refine cs_ (v:=.int .i64 (watchFault y26.watch 1)) (by kernel_rfl) rfl rfl rfl (fun w_ hs_=>impl_watchFault w_ _ (hs_.at 0 rfl)) (a_ rfl rfl (en (nx (sq (rg (m_ rfl rfl (vl (cm rfl rfl rfl rfl) rfl (en (nx ?_)))))))))
              by_cases h33 : (watchFault y26.watch 1) = (0 : Int)
              · exact cf rfl (bne_eq_false_iff_eq.2 h33) (sk (xn (nx (rg (vl (ra (c:=((k2 + 1 : Nat) : Int)) rfl rfl rfl (by omega) (by omega) (by omega)) rfl (m_ rfl rfl (en (lpe (s:=k2) (k2 + 1) [4,4] ⟨by omega,zero_step (f:=retFault a) hinv2 m27 (by have q:=watch_one y26.watch; grind [retFault])⟩ (by omega) ⟨rfl,rfl,rfl,rfl,trivial⟩ rfl))))))))
              · refine ct rfl (bne_iff_ne.2 h33) (sq (rg (m_ rfl rfl (a_ rfl rfl (en (nx (rt (xrb (xr (xr (xrb (xr (ret1 rfl rfl (fun w_ hs_=>⟨?_,hs_.below⟩))))))))))))))
                exact ri (by have z1:=firstFault_0 (f:=fun n=>nodeFault n a.dims) hinv (by omega); have z:=firstFault_at (f:=retFault a) hinv2 m27 (by have q:=watch_one y26.watch; grind [retFault]); have q:=watch_one y26.watch; grind [arenaFault,isDims,retFault,within])
            · refine ct rfl (not_t (Bool.eq_false_iff.2 h31)) (sq (rg (a_ rfl rfl (en (nx (rt (xr (xrb (xr (xr (xrb (xr (ret1 rfl rfl (fun w_ hs_=>⟨?_,hs_.below⟩))))))))))))))
              exact ri (by have z1:=firstFault_0 (f:=fun n=>nodeFault n a.dims) hinv (by omega); have z:=firstFault_at (f:=retFault a) hinv2 m27 (by have q:=watch_one y26.watch; grind [retFault]); have q:=watch_one y26.watch; grind [arenaFault,isDims,retFault,within])
          · refine cf rfl (decide_eq_false h19) (xt (xq (xq (xb (nx (sq (sq (rg (vl (fa rfl rfl rfl) rfl (vl (ldb (u:=.slice Aa3 a.retired.length ca3) 0 rfl rfl rfl rfl rfl rfl rfl) rfl (vl (ln rfl rfl rfl) rfl (m_ rfl rfl (en (nx (bk ?_)))))))))))))))
            refine lp (σ:=Nat) (fun k3 : Nat=>[(1,.pointer (some ⟨b1,0,none⟩)),(63,.slice Aa3 a.retired.length ca3),(64,.int .i64 ((a.retired.length : Nat) : Int)),(65,.int .i64 ((k3 : Nat) : Int))])
                (fun k3 : Nat=>[blk b1 [.int .i64 a.dims,.slice Aa1 a.nodes.length ca1,.slice Aa2 a.free.length ca2,.slice Aa3 a.retired.length ca3] 50,dat kArenaS [.int .i64 a.dims,.slice Aa1 a.nodes.length ca1,.slice Aa2 a.free.length ca2,.slice Aa3 a.retired.length ca3] a ([]) sa_])
                (fun k3 : Nat=>k3 ≤ a.retired.length ∧ Uniq Retired.id (a.retired.take k3) ∧ ∀ j x,j < k3 → a.retired[j]? = some x → decide (x.id ∈ a.free) = false) (fun k3 : Nat=>a.retired.length - k3) 0 [0,0] ⟨Nat.zero_le _,by simpa using Uniq.nil,by simp⟩ ⟨rfl,rfl,rfl,rfl,trivial⟩ rfl ?_
            intro k3 hp_
            obtain ⟨hk3,hinv3⟩:=hp_
            refine sq (rg (vl (cm rfl rfl rfl rfl) rfl (en (nx (sq ?_)))))
            by_cases h34 : ((k3 : Nat) : Int) < ((a.retired.length : Nat) : Int)
            · refine ct rfl (decide_eq_true h34) (sk (nx (sq (bk (sq (rg (m_ rfl rfl ?_)))))))
              refine gd 1 kArenaS_p3_1 rfl (cs':=[.slice Aa3 a.retired.length ca3]) rfl fun s35 w_ rs35 us35=>?_
              have Ls35:=Kd.sl_len rs35; have Cs35:=Kd.sl_cap rs35
              refine gx 0 k3 rfl (by omega) fun y41 p36 cs_ s37 w40 m42 e38 r39 us37=>?_
              obtain ⟨A43,c44,rfl⟩:=kRetiredS_sh r39
              refine vl (ix k3 e38 rfl rfl rfl rfl rfl (by omega)) rfl (vl (ldq 0 rfl rfl rfl rfl rfl rfl rfl) rfl (al zero110 rfl rfl rfl ?_))
              intro b45
              refine a_ rfl rfl (sto rfl rfl rfl rfl rfl rfl rfl (cs':=[.int .i64 y41.id,.slice A43 y41.watch.length c44]) rfl (en (nx (sq ?_))))
              refine gct 2 k3 rfl (by omega) fun s46 w_ rs46 us46=>?_
              have Ls46:=Kd.sl_len rs46
              by_cases h47 : (0 : Int) ≤ (idx (fun (x0 : Retired)=>x0.id == y41.id) (a.retired.take k3))
              · refine r0 (qv 0 rfl (fa rfl rfl rfl) rfl (by kernel_rfl) (qv 1 rfl (ldb (u:=.slice Aa3 a.retired.length ca3) 4 rfl rfl rfl rfl rfl rfl rfl) rfl (by kernel_rfl) (qv 2 rfl (mv rfl rfl) rfl (by kernel_rfl) (qv 3 rfl (evr (v':=.slice Aa3 ((a.retired.take k3).length) ca3) (shi (i:=k3) rfl rfl rfl rfl rfl (by omega)) (sl_eq (by first | (simp; done) | (simp; omega)))) rfl (by kernel_rfl) (qv 4 rfl (fa rfl rfl rfl) rfl (by kernel_rfl) (qv 5 rfl (ldb (u:=.int .i64 y41.id) 1 rfl rfl rfl rfl rfl rfl rfl) rfl (by kernel_rfl) (q1 6 [0,0,0,0,0,0] rfl (by kernel_rfl) rfl (cs_ (v:=.int .i64 (idx (fun (x0 : Retired)=>x0.id == y41.id) (a.retired.take k3))) (by kernel_rfl) rfl rfl rfl (fun w_ hs_=>by exact impl_retiredAt w_ _ (hs_.at 0 rfl)) (qn (qv 7 rfl (cm rfl rfl rfl rfl) rfl (by kernel_rfl) (qv 8 rfl (mv rfl rfl) rfl (by kernel_rfl) (qs 9 rfl rfl rfl (decide_eq_true h47) (by kernel_rfl) (qs 10 rfl rfl rfl (decide_eq_true h47) (by kernel_rfl) (qs 11 rfl rfl rfl (decide_eq_true h47) (by kernel_rfl) (qs 12 rfl rfl rfl (decide_eq_true h47) (by kernel_rfl) (qv 13 rfl (pk (b:=true) rfl rfl (decide_eq_true h47) rfl) rfl (by kernel_rfl) (qe [0,0,0,0,0,0] (by kernel_rfl) rfl (nx (ct rfl rfl (sq (rg (a_ rfl rfl (en (nx (rt (xrb (xr (xr (xrb (xr (ret1 rfl rfl (fun w_ hs_=>⟨?_,hs_.below⟩))))))))))))))))))))))))))))))))
                exact ri (by have z1:=firstFault_0 (f:=fun n=>nodeFault n a.dims) hinv (by omega); have z2:=firstFault_0 (f:=retFault a) hinv2 (by omega); have y:=uniq_no (f:=Retired.id) m42 h47; grind [arenaFault,isDims,within])
              · refine r0 (qv 0 rfl (fa rfl rfl rfl) rfl (by kernel_rfl) (qv 1 rfl (ldb (u:=.slice Aa3 a.retired.length ca3) 4 rfl rfl rfl rfl rfl rfl rfl) rfl (by kernel_rfl) (qv 2 rfl (mv rfl rfl) rfl (by kernel_rfl) (qv 3 rfl (evr (v':=.slice Aa3 ((a.retired.take k3).length) ca3) (shi (i:=k3) rfl rfl rfl rfl rfl (by omega)) (sl_eq (by first | (simp; done) | (simp; omega)))) rfl (by kernel_rfl) (qv 4 rfl (fa rfl rfl rfl) rfl (by kernel_rfl) (qv 5 rfl (ldb (u:=.int .i64 y41.id) 1 rfl rfl rfl rfl rfl rfl rfl) rfl (by kernel_rfl) (q1 6 [0,0,0,0,0,0] rfl (by kernel_rfl) rfl (cs_ (v:=.int .i64 (idx (fun (x0 : Retired)=>x0.id == y41.id) (a.retired.take k3))) (by kernel_rfl) rfl rfl rfl (fun w_ hs_=>by exact impl_retiredAt w_ _ (hs_.at 0 rfl)) (qn (qv 7 rfl (cm rfl rfl rfl rfl) rfl (by kernel_rfl) (qv 8 rfl (mv rfl rfl) rfl (by kernel_rfl) (qg 9 rfl (ldb 4 rfl rfl rfl rfl rfl rfl rfl) rfl rfl (decide_eq_false h47) (by kernel_rfl) (qg 10 rfl (fa rfl rfl rfl) rfl rfl (decide_eq_false h47) (by kernel_rfl) (qg 11 rfl (ldb (u:=.int .i64 y41.id) 1 rfl rfl rfl rfl rfl rfl rfl) rfl rfl (decide_eq_false h47) (by kernel_rfl) (q1 12 [0,0,0,0,0,0] rfl (by kernel_rfl) rfl (gw rfl rfl (decide_eq_false h47) (cs_ (v:=.bool (decide (y41.id ∈ a.free))) (by kernel_rfl) rfl rfl rfl (fun w_ hs_=>by exact impl_Arena_isFree w_ _ (hs_.at 5 rfl)) (qn (qv 13 rfl (pk (b:=false) rfl rfl (decide_eq_false h47) rfl) rfl (by kernel_rfl) (qe [0,0,0,0,0,0] (by kernel_rfl) rfl (nx ?_)))))))))))))))))))))
                by_cases h48 : decide (y41.id ∈ a.free) = true
                · refine ct rfl h48 (sq (rg (a_ rfl rfl (en (nx (rt (xrb (xr (xr (xrb (xr (ret1 rfl rfl (fun w_ hs_=>⟨?_,hs_.below⟩)))))))))))))
                  exact ri (by have z1:=firstFault_0 (f:=fun n=>nodeFault n a.dims) hinv (by omega); have z2:=firstFault_0 (f:=retFault a) hinv2 (by omega); have q:=any_some (p:=fun (r : Retired)=>decide (r.id ∈ a.free)) m42 h48; grind [arenaFault,isDims,within])
                · exact cf rfl (Bool.eq_false_iff.2 h48) (sk (xn (nx (rg (vl (ra (c:=((k3 + 1 : Nat) : Int)) rfl rfl rfl (by omega) (by omega) (by omega)) rfl (m_ rfl rfl (en (lpe (s:=k3) (k3 + 1) [4,4] ⟨by omega,⟨uniq_step hinv3.1 m42 h47,idx_step (p:=fun (r : Retired)=>decide (r.id ∈ a.free)) hinv3.2 m42 (Bool.eq_false_iff.2 h48)⟩⟩ (by omega) ⟨rfl,rfl,rfl,rfl,trivial⟩ rfl))))))))
            · refine cf rfl (decide_eq_false h34) (xt (xq (xq (xb (nx (sq (rg (a_ rfl rfl (en (nx (rt (ret1 rfl rfl (fun w_ hs_=>⟨?_,hs_.below⟩)))))))))))))
              exact ri (by have z1:=firstFault_0 (f:=fun n=>nodeFault n a.dims) hinv (by omega); have z2:=firstFault_0 (f:=retFault a) hinv2 (by omega); have y:=uniq_end hinv3.1 (by omega); have q:=any_none (p:=fun (r : Retired)=>decide (r.id ∈ a.free)) hinv3.2 (by omega); grind [arenaFault,isDims,within])
        · refine ct rfl (bne_iff_ne.2 h18) (sq (rg (m_ rfl rfl (a_ rfl rfl (en (nx (rt (xr (ret1 rfl rfl (fun w_ hs_=>⟨?_,hs_.below⟩))))))))))
          exact ri (by have z1:=firstFault_0 (f:=fun n=>nodeFault n a.dims) hinv (by omega); grind [arenaFault,isDims,within])
    · refine ct rfl (not_t (Bool.eq_false_iff.2 h3)) (sq (rg (a_ rfl rfl (en (nx (rt (xrb (xr (ret1 rfl rfl (fun w_ hs_=>⟨?_,hs_.below⟩))))))))))
      exact ri (by grind [arenaFault,isDims,within])
  · refine ct rfl (not_t (Bool.eq_false_iff.2 h2)) (sq (rg (a_ rfl rfl (en (nx (rt (xrb (xr (ret1 rfl rfl (fun w_ hs_=>⟨?_,hs_.below⟩))))))))))
    exact ri (by grind [arenaFault,isDims,within])
theorem zero4 {l : List Retired} {k k3 : Nat} {y z0 : Retired} (h : ∀ j x z,j < k → l[j]? = some x → l[k3]? = some z → x.id ≠ z.id) (hy : l[k]? = some y) (hz : l[k3]? = some z0) (hn : ¬ y.id = z0.id) : ∀ j x z,j < k + 1 → l[j]? = some x → l[k3]? = some z → x.id ≠ z.id:=fun j x z hj hx hz'=>by
  rcases Nat.lt_succ_iff_lt_or_eq.1 hj with hlt | rfl
  · exact h j x z hlt hx hz'
  · rw [hy] at hx; rw [hz] at hz'; cases hx; cases hz'; exact hn
theorem uniq4 {l : List Retired} {k k3 : Nat} {y : Retired} (hu : Uniq Retired.id (l.take k3)) (h : ∀ j x z,j < k → l[j]? = some x → l[k3]? = some z → x.id ≠ z.id) (hk : k3 ≤ k) (hy : l[k3]? = some y) : Uniq Retired.id (l.take (k3 + 1)) :=
  uniq_snoc hu hy (fun x hx=>by
    obtain ⟨j,hj⟩:=List.getElem?_of_mem hx
    rw [List.getElem?_take] at hj
    split at hj
    · exact h j x y (by omega) hj hy
    · cases hj)
set_option maxRecDepth 20000 in
set_option maxHeartbeats 2000000 in
theorem spec_ArenaFault (w : World) {Aa1 : Option Addr} {ca1 : Nat} {Aa2 : Option Addr} {ca2 : Nat} {Aa3 : Option Addr} {ca3 : Nat} {a : Arena} {sa_ : List Nat} (ha : kArenaS.Rel w [.int .i64 a.dims,.slice Aa1 a.nodes.length ca1,.slice Aa2 a.free.length ca2,.slice Aa3 a.retired.length ca3] a [] sa_)  : Calls Tryz.prog 23 #[.agg #[.int .i64 a.dims,.slice Aa1 a.nodes.length ca1,.slice Aa2 a.free.length ca2,.slice Aa3 a.retired.length ca3]] w (fun e_ w2_=>e_ = .returned (.int .i64 (arenaFault a)) ∧ Below w.heap.size w w2_):=by
  have La1:=Kd.sub_len kArenaS_p1_1 ha; have Ca1:=Kd.sub_cap kArenaS_p1_1 ha rfl
  have La2:=Kd.sub_len kArenaS_p2_1 ha; have Ca2:=Kd.sub_cap kArenaS_p2_1 ha rfl
  have La3:=Kd.sub_len kArenaS_p3_1 ha; have Ca3:=Kd.sub_cap kArenaS_p3_1 ha rfl
  refine fnc (X:=X2 113 w) (l:=[(0,.agg #[.int .i64 a.dims,.slice Aa1 a.nodes.length ca1,.slice Aa2 a.free.length ca2,.slice Aa3 a.retired.length ca3])]) Tryz.func23 rfl rfl rfl ⟨rfl,trivial⟩ (s0d ha (s0n w)).1 ?_
  refine sq (rg (bx rfl rfl rfl rfl ?_))
  intro b1
  refine a_ rfl rfl (en (nx (sq (sq (rg (vl (fa rfl rfl rfl) rfl (vl (ldb (u:=.int .i64 a.dims) 0 rfl rfl rfl rfl rfl rfl rfl) rfl (cs_ (v:=.bool (within a.dims 2 3)) (by kernel_rfl) rfl rfl rfl (fun w_ hs_=>spec_l1In w_ _ _ _) (vl (nt rfl rfl) rfl (en (nx ?_)))))))))))
  by_cases h2 : within a.dims 2 3 = true
  · refine cf rfl (not_f h2) (sk (nx (sq (sq (rg (vl (fa rfl rfl rfl) rfl (vl (ldb (u:=.slice Aa1 a.nodes.length ca1) 0 rfl rfl rfl rfl rfl rfl rfl) rfl (vl (ln rfl rfl rfl) rfl (vl (cm rfl rfl rfl rfl) rfl (m_ rfl rfl ?_))))))))))
    by_cases h3 : ((a.nodes.length : Nat) : Int) < (4 : Int)
    · refine sg rfl rfl (decide_eq_true h3) (sg rfl rfl (decide_eq_true h3) (sg rfl rfl (decide_eq_true h3) (sg rfl rfl (decide_eq_true h3) (vl (pk (b:=true) rfl rfl (decide_eq_true h3) rfl) rfl (en (nx (ct rfl rfl (sq (rg (a_ rfl rfl (en (nx (rt (xr (ret1 rfl rfl (fun w_ hs_=>⟨?_,hs_.below⟩))))))))))))))))
      exact ri (by grind [arenaFault,isDims,within])
    · refine vg (fa rfl rfl rfl) rfl rfl (decide_eq_false h3) (vg (ldb (u:=.slice Aa1 a.nodes.length ca1) 0 rfl rfl rfl rfl rfl rfl rfl) rfl rfl (decide_eq_false h3) (vg (ln rfl rfl rfl) rfl rfl (decide_eq_false h3) (vg (cm rfl rfl rfl rfl) rfl rfl (decide_eq_false h3) (vl (pk (b:=false) rfl rfl (decide_eq_false h3) rfl) rfl (en (nx ?_))))))
      by_cases h4 : (40 : Int) < ((a.nodes.length : Nat) : Int)
      · refine ct rfl (decide_eq_true h4) (sq (rg (a_ rfl rfl (en (nx (rt (xr (ret1 rfl rfl (fun w_ hs_=>⟨?_,hs_.below⟩)))))))))
        exact ri (by grind [arenaFault,isDims,within])
      · refine cf rfl (decide_eq_false h4) (sk (nx (sq (sq (rg (a_ rfl rfl (en (nx (bk ?_)))))))))
        refine lp (σ:=Nat) (fun k : Nat=>[(1,.pointer (some ⟨b1,0,none⟩)),(3,.int .i64 ((k : Nat) : Int))])
            (fun k : Nat=>[blk b1 [.int .i64 a.dims,.slice Aa1 a.nodes.length ca1,.slice Aa2 a.free.length ca2,.slice Aa3 a.retired.length ca3] 50,dat kArenaS [.int .i64 a.dims,.slice Aa1 a.nodes.length ca1,.slice Aa2 a.free.length ca2,.slice Aa3 a.retired.length ca3] a ([]) sa_])
            (fun k : Nat=>k ≤ a.nodes.length ∧ ∀ j x,j < k → a.nodes[j]? = some x → nodeFault x a.dims = 0) (fun k : Nat=>a.nodes.length - k) 0 [0,0] ⟨Nat.zero_le _,by simp⟩ ⟨rfl,rfl,trivial⟩ rfl ?_
        intro k hp_
        obtain ⟨hk,hinv⟩:=hp_
        refine sq (sq (rg (m_ rfl rfl (vl (fa rfl rfl rfl) rfl (vl (ldb (u:=.slice Aa1 a.nodes.length ca1) 0 rfl rfl rfl rfl rfl rfl rfl) rfl (vl (ln rfl rfl rfl) rfl (vl (cm rfl rfl rfl rfl) rfl (en (nx ?_)))))))))
        by_cases h5 : ((k : Nat) : Int) < ((a.nodes.length : Nat) : Int)
        · refine ct rfl (decide_eq_true h5) (sk (nx (sq (bk (sq ?_)))))
          refine gd 1 kArenaS_p1_1 rfl (cs':=[.slice Aa1 a.nodes.length ca1]) rfl fun s6 w_ rs6 us6=>?_
          have Ls6:=Kd.sl_len rs6; have Cs6:=Kd.sl_cap rs6
          refine gx 0 k rfl (by omega) fun y12 p7 cs_ s8 w11 m13 e9 r10 us8=>?_
          obtain ⟨A14,c15,rfl⟩:=kNodeS_sh r10
          refine gp 0 Kd.Sub.rfl rfl (cs':=[.int .i64 y12.level,.int .i64 y12.nsn,.int .i64 y12.right,.slice A14 y12.entries.length c15]) rfl fun s16 w_ rs16 us16=>?_
          refine r0 (qv 0 rfl (fa rfl rfl rfl) rfl (by kernel_rfl) (qv 1 rfl (ldb (u:=.slice Aa1 a.nodes.length ca1) 3 rfl rfl rfl rfl rfl rfl rfl) rfl (by kernel_rfl) (qv 2 rfl (mv rfl rfl) rfl (by kernel_rfl) (qv 3 rfl (ix k e9 rfl rfl rfl rfl rfl (by omega)) rfl (by kernel_rfl) (qv 4 rfl (ldq 1 rfl rfl rfl rfl rfl rfl rfl) rfl (by kernel_rfl) (qv 5 rfl (fa rfl rfl rfl) rfl (by kernel_rfl) (qv 6 rfl (ldb (u:=.int .i64 a.dims) 3 rfl rfl rfl rfl rfl rfl rfl) rfl (by kernel_rfl) (q1 7 [0,0,0,0,0] rfl (by kernel_rfl) rfl (cs_ (v:=.int .i64 (nodeFault y12 a.dims)) (by kernel_rfl) rfl rfl rfl (fun w_ hs_=>by exact spec_NodeFault w_ _ (hs_.at 0 rfl)) (qn (qv 8 rfl (as_ rfl rfl) rfl (by kernel_rfl) (qe [0,0,0,0,0] (by kernel_rfl) rfl (nx (sq (rg (m_ rfl rfl (vl (cm rfl rfl rfl rfl) rfl (en (nx ?_)))))))))))))))))))
          by_cases h17 : (nodeFault y12 a.dims) = (0 : Int)
          · exact cf rfl (bne_eq_false_iff_eq.2 h17) (sk (xn (nx (rg (m_ rfl rfl (vl (ra (c:=((k + 1 : Nat) : Int)) rfl rfl rfl (by omega) (by omega) (by omega)) rfl (a_ rfl rfl (en (lpe (s:=k) (k + 1) [3,3] ⟨by omega,zero_step (f:=fun n=>nodeFault n a.dims) hinv m13 h17⟩ (by omega) ⟨rfl,rfl,trivial⟩ rfl)))))))))
          · refine ct rfl (bne_iff_ne.2 h17) (sq (rg (m_ rfl rfl (a_ rfl rfl (en (nx (rt (xrb (xr (xr (xrb (xr (ret1 rfl rfl (fun w_ hs_=>⟨?_,hs_.below⟩))))))))))))))
            exact ri (by have z:=firstFault_at (f:=fun n=>nodeFault n a.dims) hinv m13 h17; grind [arenaFault,isDims,within])
        · refine cf rfl (decide_eq_false h5) (xt (xq (xq (xb (nx (sq (sq (rg (cs_ (v:=.int .i64 (freeFault a)) (by kernel_rfl) rfl rfl rfl (fun w_ hs_=>spec_l4Free w_ (ptr_blk (hs_.at 0 rfl) (hs_.at 1 rfl) rfl)) (a_ rfl rfl (en (nx (sq (rg (m_ rfl rfl (vl (cm rfl rfl rfl rfl) rfl (en (nx ?_))))))))))))))))))
          by_cases h18 : (freeFault a) = (0 : Int)
          · refine cf rfl (bne_eq_false_iff_eq.2 h18) (sk (nx (sq (sq (rg (a_ rfl rfl (en (nx (bk ?_)))))))))
            refine lp (σ:=Nat) (fun k2 : Nat=>[(1,.pointer (some ⟨b1,0,none⟩)),(6,.int .i64 ((k2 : Nat) : Int))])
                (fun k2 : Nat=>[blk b1 [.int .i64 a.dims,.slice Aa1 a.nodes.length ca1,.slice Aa2 a.free.length ca2,.slice Aa3 a.retired.length ca3] 50,dat kArenaS [.int .i64 a.dims,.slice Aa1 a.nodes.length ca1,.slice Aa2 a.free.length ca2,.slice Aa3 a.retired.length ca3] a ([]) sa_])
                (fun k2 : Nat=>k2 ≤ a.retired.length ∧ ∀ j x,j < k2 → a.retired[j]? = some x → retFault a x = 0) (fun k2 : Nat=>a.retired.length - k2) 0 [0,0] ⟨Nat.zero_le _,by simp⟩ ⟨rfl,rfl,trivial⟩ rfl ?_
            intro k2 hp_
            obtain ⟨hk2,hinv2⟩:=hp_
            refine sq (sq (rg (m_ rfl rfl (vl (fa rfl rfl rfl) rfl (vl (ldb (u:=.slice Aa3 a.retired.length ca3) 0 rfl rfl rfl rfl rfl rfl rfl) rfl (vl (ln rfl rfl rfl) rfl (vl (cm rfl rfl rfl rfl) rfl (en (nx ?_)))))))))
            by_cases h19 : ((k2 : Nat) : Int) < ((a.retired.length : Nat) : Int)
            · refine ct rfl (decide_eq_true h19) (sk (nx (sq (bk (sq (sq (rg (vl (fa rfl rfl rfl) rfl (vl (ldb (u:=.slice Aa3 a.retired.length ca3) 0 rfl rfl rfl rfl rfl rfl rfl) rfl (m_ rfl rfl ?_))))))))))
              refine gd 1 kArenaS_p3_1 rfl (cs':=[.slice Aa3 a.retired.length ca3]) rfl fun s20 w_ rs20 us20=>?_
              have Ls20:=Kd.sl_len rs20; have Cs20:=Kd.sl_cap rs20
              refine gx 0 k2 rfl (by omega) fun y26 p21 cs_ s22 w25 m27 e23 r24 us22=>?_
              obtain ⟨A28,c29,rfl⟩:=kRetiredS_sh r24
              refine vl (ix k2 e23 rfl rfl rfl rfl rfl (by omega)) rfl (vl (fa rfl rfl rfl) rfl (vl (ldp (u:=.int .i64 y26.id) 0 rfl rfl rfl rfl rfl rfl rfl) rfl (cs_ (v:=.bool (isPlace a y26.id)) (by kernel_rfl) rfl rfl rfl (fun w_ hs_=>spec_l4Place w_ _ (ptr_blk (hs_.at 2 rfl) (hs_.at 3 rfl) rfl)) (vl (nt rfl rfl) rfl (en (nx ?_))))))
              by_cases h30 : isPlace a y26.id = true
              · refine cf rfl (not_f h30) (sk (nx (sq (sq (rg (vl (fa rfl rfl rfl) rfl (vl (ldb (u:=.slice Aa3 a.retired.length ca3) 2 rfl rfl rfl rfl rfl rfl rfl) rfl (m_ rfl rfl (vl (ix k2 e23 rfl rfl rfl rfl rfl (by omega)) rfl (vl (fa rfl rfl rfl) rfl (vl (ldp (u:=.slice A28 y26.watch.length c29) 0 rfl rfl rfl rfl rfl rfl rfl) rfl (vl (ln rfl rfl rfl) rfl (vl (cm rfl rfl rfl rfl) rfl (en (nx ?_)))))))))))))))
                by_cases h31 : ((y26.watch.length : Nat) : Int) = (0 : Int)
                · refine ct rfl (beq_iff_eq.2 h31) (sq (rg (a_ rfl rfl (en (nx (rt (xr (xrb (xr (xr (xrb (xr (ret1 rfl rfl (fun w_ hs_=>⟨?_,hs_.below⟩))))))))))))))
                  exact ri (by have z1:=firstFault_0 (f:=fun n=>nodeFault n a.dims) hinv (by omega); have z:=firstFault_at (f:=retFault a) hinv2 m27 (by have q:=watch_one y26.watch; grind [retFault]); have q:=watch_one y26.watch; grind [arenaFault,isDims,retFault,within])
                · refine cf rfl (beq_eq_false_iff_ne.2 h31) (sk (nx (sq (rg (vl (fa rfl rfl rfl) rfl (vl (ldb (u:=.slice Aa3 a.retired.length ca3) 2 rfl rfl rfl rfl rfl rfl rfl) rfl (m_ rfl rfl (vl (ix k2 e23 rfl rfl rfl rfl rfl (by omega)) rfl (vl (fa rfl rfl rfl) rfl (vl (ldp (u:=.slice A28 y26.watch.length c29) 0 rfl rfl rfl rfl rfl rfl rfl) rfl ?_))))))))))
                  refine gp 0 kRetiredS_p1_1 rfl (cs':=[.slice A28 y26.watch.length c29]) rfl fun s32 w_ rs32 us32=>?_
                  have Ls32:=Kd.sl_len rs32; have Cs32:=Kd.sl_cap rs32
                  refine cs_ (v:=.int .i64 (watchFault y26.watch 0)) (by kernel_rfl) rfl rfl rfl (fun w_ hs_=>spec_l4Watch w_ (hs_.at 0 rfl)) (a_ rfl rfl (en (nx (sq (rg (m_ rfl rfl (vl (cm rfl rfl rfl rfl) rfl (en (nx ?_)))))))))
                  by_cases h33 : (watchFault y26.watch 0) = (0 : Int)
                  · exact cf rfl (bne_eq_false_iff_eq.2 h33) (sk (xn (nx (rg (m_ rfl rfl (vl (ra (c:=((k2 + 1 : Nat) : Int)) rfl rfl rfl (by omega) (by omega) (by omega)) rfl (a_ rfl rfl (en (lpe (s:=k2) (k2 + 1) [3,3] ⟨by omega,zero_step (f:=retFault a) hinv2 m27 (by have q:=watch_one y26.watch; grind [retFault])⟩ (by omega) ⟨rfl,rfl,trivial⟩ rfl)))))))))
                  · refine ct rfl (bne_iff_ne.2 h33) (sq (rg (m_ rfl rfl (a_ rfl rfl (en (nx (rt (xrb (xr (xr (xrb (xr (ret1 rfl rfl (fun w_ hs_=>⟨?_,hs_.below⟩))))))))))))))
                    exact ri (by have z1:=firstFault_0 (f:=fun n=>nodeFault n a.dims) hinv (by omega); have z:=firstFault_at (f:=retFault a) hinv2 m27 (by have q:=watch_one y26.watch; grind [retFault]); have q:=watch_one y26.watch; grind [arenaFault,isDims,retFault,within])
              · refine ct rfl (not_t (Bool.eq_false_iff.2 h30)) (sq (rg (a_ rfl rfl (en (nx (rt (xr (xrb (xr (xr (xrb (xr (ret1 rfl rfl (fun w_ hs_=>⟨?_,hs_.below⟩))))))))))))))
                exact ri (by have z1:=firstFault_0 (f:=fun n=>nodeFault n a.dims) hinv (by omega); have z:=firstFault_at (f:=retFault a) hinv2 m27 (by have q:=watch_one y26.watch; grind [retFault]); have q:=watch_one y26.watch; grind [arenaFault,isDims,retFault,within])
            · refine cf rfl (decide_eq_false h19) (xt (xq (xq (xb (nx (sq (sq (rg (a_ rfl rfl (en (nx (bk ?_))))))))))))
              refine lp (σ:=Nat) (fun k3 : Nat=>[(1,.pointer (some ⟨b1,0,none⟩)),(8,.int .i64 ((k3 : Nat) : Int))])
                  (fun k3 : Nat=>[blk b1 [.int .i64 a.dims,.slice Aa1 a.nodes.length ca1,.slice Aa2 a.free.length ca2,.slice Aa3 a.retired.length ca3] 50,dat kArenaS [.int .i64 a.dims,.slice Aa1 a.nodes.length ca1,.slice Aa2 a.free.length ca2,.slice Aa3 a.retired.length ca3] a ([]) sa_])
                  (fun k3 : Nat=>k3 ≤ a.retired.length ∧ Uniq Retired.id (a.retired.take k3) ∧ ∀ j x,j < k3 → a.retired[j]? = some x → decide (x.id ∈ a.free) = false) (fun k3 : Nat=>a.retired.length - k3) 0 [0,0] ⟨Nat.zero_le _,by simpa using Uniq.nil,by simp⟩ ⟨rfl,rfl,trivial⟩ rfl ?_
              intro k3 hp_
              obtain ⟨hk3,hinv3⟩:=hp_
              refine sq (sq (rg (m_ rfl rfl (vl (fa rfl rfl rfl) rfl (vl (ldb (u:=.slice Aa3 a.retired.length ca3) 0 rfl rfl rfl rfl rfl rfl rfl) rfl (vl (ln rfl rfl rfl) rfl (vl (cm rfl rfl rfl rfl) rfl (en (nx ?_)))))))))
              by_cases h34 : ((k3 : Nat) : Int) < ((a.retired.length : Nat) : Int)
              · refine ct rfl (decide_eq_true h34) (sk (nx (sq (bk (sq (sq (rg (a_ rfl rfl (en (nx (bk ?_)))))))))))
                refine lp (σ:=Nat) (fun k4 : Nat=>[(1,.pointer (some ⟨b1,0,none⟩)),(8,.int .i64 ((k3 : Nat) : Int)),(9,.int .i64 ((k4 : Nat) : Int))])
                    (fun k4 : Nat=>[blk b1 [.int .i64 a.dims,.slice Aa1 a.nodes.length ca1,.slice Aa2 a.free.length ca2,.slice Aa3 a.retired.length ca3] 50,dat kArenaS [.int .i64 a.dims,.slice Aa1 a.nodes.length ca1,.slice Aa2 a.free.length ca2,.slice Aa3 a.retired.length ca3] a ([]) sa_])
                    (fun k4 : Nat=>k4 ≤ k3 ∧ ∀ j x z,j < k4 → a.retired[j]? = some x → a.retired[k3]? = some z → x.id ≠ z.id) (fun k4 : Nat=>k3 - k4) 0 [0,0] ⟨Nat.zero_le _,by simp⟩ ⟨rfl,rfl,rfl,trivial⟩ rfl ?_
                intro k4 hp_
                obtain ⟨hk4,hinv4⟩:=hp_
                refine sq (sq (rg (m_ rfl rfl (m_ rfl rfl (vl (cm rfl rfl rfl rfl) rfl (en (nx ?_)))))))
                by_cases h35 : ((k4 : Nat) : Int) < ((k3 : Nat) : Int)
                · refine ct rfl (decide_eq_true h35) (sk (nx (sq (bk (sq ?_)))))
                  refine gd 1 kArenaS_p3_1 rfl (cs':=[.slice Aa3 a.retired.length ca3]) rfl fun s36 w_ rs36 us36=>?_
                  have Ls36:=Kd.sl_len rs36; have Cs36:=Kd.sl_cap rs36
                  refine gx 0 k4 rfl (by omega) fun y42 p37 cs_ s38 w41 m43 e39 r40 us38=>?_
                  obtain ⟨A44,c45,rfl⟩:=kRetiredS_sh r40
                  refine gx 1 k3 rfl (by omega) fun y51 p46 cs_ s47 w50 m52 e48 r49 us47=>?_
                  obtain ⟨A53,c54,rfl⟩:=kRetiredS_sh r49
                  refine r0 (qv 0 rfl (fa rfl rfl rfl) rfl (by kernel_rfl) (qv 1 rfl (ldb (u:=.slice Aa3 a.retired.length ca3) 3 rfl rfl rfl rfl rfl rfl rfl) rfl (by kernel_rfl) (qv 2 rfl (mv rfl rfl) rfl (by kernel_rfl) (qv 3 rfl (ix k4 e39 rfl rfl rfl rfl rfl (by omega)) rfl (by kernel_rfl) (qv 4 rfl (fa rfl rfl rfl) rfl (by kernel_rfl) (qv 5 rfl (ldp (u:=.int .i64 y42.id) 1 rfl rfl rfl rfl rfl rfl rfl) rfl (by kernel_rfl) (qv 6 rfl (fa rfl rfl rfl) rfl (by kernel_rfl) (qv 7 rfl (ldb (u:=.slice Aa3 a.retired.length ca3) 3 rfl rfl rfl rfl rfl rfl rfl) rfl (by kernel_rfl) (qv 8 rfl (mv rfl rfl) rfl (by kernel_rfl) (qv 9 rfl (ix k3 e48 rfl rfl rfl rfl rfl (by omega)) rfl (by kernel_rfl) (qv 10 rfl (fa rfl rfl rfl) rfl (by kernel_rfl) (qv 11 rfl (ldp (u:=.int .i64 y51.id) 0 rfl rfl rfl rfl rfl rfl rfl) rfl (by kernel_rfl) (qv 12 rfl (cm rfl rfl rfl rfl) rfl (by kernel_rfl) (qe [0,0,0,0,0] (by kernel_rfl) rfl (nx ?_)))))))))))))))
                  by_cases h55 : y42.id = y51.id
                  · refine ct rfl (beq_iff_eq.2 h55) (sq (rg (a_ rfl rfl (en (nx (rt (xrb (xr (xr (xrb (xr (xrb (xr (xr (xrb (xr (ret1 rfl rfl (fun w_ hs_=>⟨?_,hs_.below⟩))))))))))))))))))
                    exact ri (by have z1:=firstFault_0 (f:=fun n=>nodeFault n a.dims) hinv (by omega); have z2:=firstFault_0 (f:=retFault a) hinv2 (by omega); have y : ¬ Uniq Retired.id a.retired:=(fun hu=>by have:=hu.at m43 m52 h55; omega); grind [arenaFault,isDims,within])
                  · exact cf rfl (beq_eq_false_iff_ne.2 h55) (sk (xn (nx (rg (m_ rfl rfl (vl (ra (c:=((k4 + 1 : Nat) : Int)) rfl rfl rfl (by omega) (by omega) (by omega)) rfl (a_ rfl rfl (en (lpe (s:=k4) (k4 + 1) [3,3] ⟨by omega,zero4 hinv4 m43 m52 h55⟩ (by omega) ⟨rfl,rfl,rfl,trivial⟩ rfl)))))))))
                · refine cf rfl (decide_eq_false h35) (xt (xq (xq (xb (nx (sq ?_))))))
                  refine gd 1 kArenaS_p3_1 rfl (cs':=[.slice Aa3 a.retired.length ca3]) rfl fun s56 w_ rs56 us56=>?_
                  have Ls56:=Kd.sl_len rs56; have Cs56:=Kd.sl_cap rs56
                  refine gx 0 k3 rfl (by omega) fun y62 p57 cs_ s58 w61 m63 e59 r60 us58=>?_
                  obtain ⟨A64,c65,rfl⟩:=kRetiredS_sh r60
                  refine gd 3 kArenaS_p2_1 rfl (cs':=[.slice Aa2 a.free.length ca2]) rfl fun s66 w_ rs66 us66=>?_
                  have Ls66:=Kd.sl_len rs66; have Cs66:=Kd.sl_cap rs66
                  refine r0 (qv 0 rfl (fa rfl rfl rfl) rfl (by kernel_rfl) (qv 1 rfl (ldb (u:=.slice Aa2 a.free.length ca2) 3 rfl rfl rfl rfl rfl rfl rfl) rfl (by kernel_rfl) (qv 2 rfl (fa rfl rfl rfl) rfl (by kernel_rfl) (qv 3 rfl (ldb (u:=.slice Aa3 a.retired.length ca3) 3 rfl rfl rfl rfl rfl rfl rfl) rfl (by kernel_rfl) (qv 4 rfl (mv rfl rfl) rfl (by kernel_rfl) (qv 5 rfl (ix k3 e59 rfl rfl rfl rfl rfl (by omega)) rfl (by kernel_rfl) (qv 6 rfl (fa rfl rfl rfl) rfl (by kernel_rfl) (qv 7 rfl (ldp (u:=.int .i64 y62.id) 1 rfl rfl rfl rfl rfl rfl rfl) rfl (by kernel_rfl) (q1 8 [0,0,0,0,0] rfl (by kernel_rfl) rfl (cs_ (v:=.bool (decide (y62.id ∈ a.free))) (by kernel_rfl) rfl rfl rfl (fun w_ hs_=>by exact spec_l1Has w_ _ (hs_.at 0 rfl)) (qn (qe [0,0,0,0,0] (by kernel_rfl) rfl (nx ?_)))))))))))))
                  by_cases h67 : decide (y62.id ∈ a.free) = true
                  · refine ct rfl h67 (sq (rg (a_ rfl rfl (en (nx (rt (xrb (xr (xr (xrb (xr (ret1 rfl rfl (fun w_ hs_=>⟨?_,hs_.below⟩)))))))))))))
                    exact ri (by have z1:=firstFault_0 (f:=fun n=>nodeFault n a.dims) hinv (by omega); have z2:=firstFault_0 (f:=retFault a) hinv2 (by omega); have q:=any_some (p:=fun (r : Retired)=>decide (r.id ∈ a.free)) m63 h67; grind [arenaFault,isDims,within])
                  · exact cf rfl (Bool.eq_false_iff.2 h67) (sk (xn (nx (rg (m_ rfl rfl (vl (ra (c:=((k3 + 1 : Nat) : Int)) rfl rfl rfl (by omega) (by omega) (by omega)) rfl (a_ rfl rfl (en (lpe (s:=k3) (k3 + 1) [3,3] ⟨by omega,⟨uniq4 hinv3.1 hinv4 (by omega) m63,idx_step (p:=fun (r : Retired)=>decide (r.id ∈ a.free)) hinv3.2 m63 (Bool.eq_false_iff.2 h67)⟩⟩ (by omega) ⟨rfl,rfl,trivial⟩ rfl)))))))))
              · refine cf rfl (decide_eq_false h34) (xt (xq (xq (xb (nx (sq (rg (a_ rfl rfl (en (nx (rt (ret1 rfl rfl (fun w_ hs_=>⟨?_,hs_.below⟩)))))))))))))
                exact ri (by have z1:=firstFault_0 (f:=fun n=>nodeFault n a.dims) hinv (by omega); have z2:=firstFault_0 (f:=retFault a) hinv2 (by omega); have y:=uniq_end hinv3.1 (by omega); have q:=any_none (p:=fun (r : Retired)=>decide (r.id ∈ a.free)) hinv3.2 (by omega); grind [arenaFault,isDims,within])
          · refine ct rfl (bne_iff_ne.2 h18) (sq (rg (m_ rfl rfl (a_ rfl rfl (en (nx (rt (xr (ret1 rfl rfl (fun w_ hs_=>⟨?_,hs_.below⟩))))))))))
            exact ri (by have z1:=firstFault_0 (f:=fun n=>nodeFault n a.dims) hinv (by omega); grind [arenaFault,isDims,within])
  · refine ct rfl (not_t (Bool.eq_false_iff.2 h2)) (sq (rg (a_ rfl rfl (en (nx (rt (xr (ret1 rfl rfl (fun w_ hs_=>⟨?_,hs_.below⟩)))))))))
    exact ri (by grind [arenaFault,isDims,within])
end Go.Proofs.YtdokhlakakflmaaGreat.Sx
