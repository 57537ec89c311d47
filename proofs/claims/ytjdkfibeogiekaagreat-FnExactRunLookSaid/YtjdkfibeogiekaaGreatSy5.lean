/- What functions of the program answer, each at every input that its row names; walked through their code. -/
import Derived.Test.YtjdkfibeogiekaaGreatSy4
namespace Go.Proofs.YtjdkfibeogiekaaGreat.Sx
open Go Go.RowKit Go.Proofs
set_option linter.unusedVariables false
set_option linter.unusedSimpArgs false
set_option maxRecDepth 20000
set_option maxHeartbeats 2000000
variable {Aa0 Aa1 Ab0 Ab1 Ap Aq1 Aq2 Aq3 Ar0 Ar1 : Option Addr} {ca0 ca1 cb0 cb1 cp cq1 cq2 cq3 cr0 cr1 : Nat} {sa_ sb_ sp_ sq_ sr_ : List Nat} {pa pb pq pr : Addr}
def tab5 : Tab := { size := [(2, 1, false), (37, 1, false), (82, 2, true), (84, 5, true)], off := [((82, 0), 0), ((82, 1), 1), ((84, 0), 0), ((84, 1), 1), ((84, 2), 3)], elem := [(37, 2), (154, 210)] }
theorem tab_ok5 : tab5.check Tryz.prog = true:=by kernel_rfl
noncomputable abbrev X5 (N : Nat) (w : World) : Cx := ⟨Tryz.prog, tab5, tab_ok5, wide, N, w, none, []⟩
theorem info210 : (Tryz.prog.info? 210).map (fun i=>(i.zero,i.size,i.bytes)) = some (some (.agg #[.int .i64 0,.int .i64 0,.int .i64 0]),3,24):=by kernel_rfl

def Bnd (l : List Int) : Prop := ∀ x ∈ l, -1000 ≤ x ∧ x ≤ 1000
structure FitR (d : Nat) (r : Rect) : Prop where
  lo : r.low.length = d
  hi : r.high.length = d
  bl : Bnd r.low
  bh : Bnd r.high
  le : ∀ (j : Nat) (a b : Int),r.low[j]? = some a → r.high[j]? = some b → a ≤ b
structure FitP (d : Nat) (p : List Int) : Prop where
  len : p.length = d
  bnd : Bnd p
theorem Bnd.at {l : List Int} (h : Bnd l) {k : Nat} {a : Int} (ha : l[k]? = some a) : -1000 ≤ a ∧ a ≤ 1000:=h a (List.mem_of_getElem? ha)
theorem point_fit {p : List Int} {d : Int} (h : pointFault p d = 0) (hd : isDims d = true) : FitP d.toNat p:=by
  have h1:=pointFault_len h
  refine ⟨by omega,fun x hx=>?_⟩
  unfold pointFault at h
  rw [if_pos hd,if_pos h1] at h
  split at h
  · cases h
  · rename_i h2
    have h3 : p.any (fun n=>!within n (-1000) 1000) = false:=by simpa using h2
    have h4:=List.any_eq_false.1 h3 x hx
    have h5 : within x (-1000) 1000 = true:=by simpa using h4
    unfold within at h5
    simpa using h5
theorem rect_fit {r : Rect} {d : Int} (h : rectFault r d = 0) (hd : isDims d = true) : FitR d.toNat r:=by
  unfold rectFault at h
  split at h
  · rename_i h1
    split at h
    · rename_i h2
      have f1:=point_fit h1 hd
      have f2:=point_fit h2 hd
      split at h
      · cases h
      · rename_i h3
        refine ⟨f1.len,f2.len,f1.bnd,f2.bnd,fun j a b ha hb=>?_⟩
        refine Decidable.byContradiction fun hab=>h3 (rectBad_t ha hb (by omega))
    · contradiction
  · contradiction
def dist1 (a b n : Int) : Int := if n < a then a - n else if b < n then n - b else 0
def distTo (r : Rect) (p : List Int) : Nat → Int
  | 0=>0
  | k + 1=>distTo r p k + dist1 (r.low.getD k 0) (r.high.getD k 0) (p.getD k 0)
def distR (r : Rect) (p : List Int) : Int := distTo r p p.length
theorem distTo_on {r : Rect} {p : List Int} {k : Nat} {a b n : Int} (ha : r.low[k]? = some a) (hb : r.high[k]? = some b) (hn : p[k]? = some n) : distTo r p (k + 1) = distTo r p k + dist1 a b n:=by
  simp only [distTo,List.getD_eq_getElem?_getD,ha,hb,hn,Option.getD_some]
theorem dist1_b {a b n : Int} (ha : -1000 ≤ a ∧ a ≤ 1000) (hb : -1000 ≤ b ∧ b ≤ 1000) (hn : -1000 ≤ n ∧ n ≤ 1000) : 0 ≤ dist1 a b n ∧ dist1 a b n ≤ 2000:=by unfold dist1; split <;> (try split) <;> omega
theorem distTo_b {d : Nat} {r : Rect} {p : List Int} (hr : FitR d r) (hp : FitP d p) : ∀ k : Nat,k ≤ d → 0 ≤ distTo r p k ∧ distTo r p k ≤ 2000 * k
  | 0,_=>by simp [distTo]
  | k + 1,hk=>by
    have ih:=distTo_b hr hp k (by omega)
    have l1 : k < r.low.length:=by rw [hr.lo]; omega
    have l2 : k < r.high.length:=by rw [hr.hi]; omega
    have l3 : k < p.length:=by rw [hp.len]; omega
    have h1 : r.low[k]? = some r.low[k]:=List.getElem?_eq_getElem l1
    have h2 : r.high[k]? = some r.high[k]:=List.getElem?_eq_getElem l2
    have h3 : p[k]? = some p[k]:=List.getElem?_eq_getElem l3
    rw [distTo_on h1 h2 h3]
    have:=dist1_b (hr.bl.at h1) (hr.bh.at h2) (hp.bnd.at h3)
    omega
theorem dist1_max {a b n : Int} (h : a ≤ b) : gmax (gmax 0 (a - n)) (n - b) = dist1 a b n:=by unfold gmax dist1; split <;> split <;> (try split) <;> omega
theorem dist1_two {a b n : Int} (h : a ≤ b) : gmax (a - n) 0 + gmax (n - b) 0 = dist1 a b n:=by unfold gmax dist1; split <;> split <;> (try split) <;> omega
theorem range_t {f : Nat → Bool} {n : Nat} (h : ∀ j,j < n → f j = true) : true = (List.range n).all f:=by
  symm; rw [List.all_eq_true]; intro j hj; exact h j (List.mem_range.1 hj)
theorem range_f {f : Nat → Bool} {n k : Nat} (hk : k < n) (h : f k = false) : false = (List.range n).all f:=by
  symm; rw [List.all_eq_false]; exact ⟨k,List.mem_range.2 hk,by simp [h]⟩
def meets1 (a b : Rect) (i : Nat) : Bool := !(decide (b.high.getD i 0 < a.low.getD i 0) || decide (a.high.getD i 0 < b.low.getD i 0))
def covers1 (a b : Rect) (i : Nat) : Bool := !(decide (b.low.getD i 0 < a.low.getD i 0) || decide (a.high.getD i 0 < b.high.getD i 0))
def meetsR (a b : Rect) : Bool := (List.range a.low.length).all (meets1 a b)
def coversR (a b : Rect) : Bool := (List.range a.low.length).all (covers1 a b)
theorem getD_of {l : List Int} {k : Nat} {a : Int} (h : l[k]? = some a) : l.getD k 0 = a:=by simp [List.getD_eq_getElem?_getD,h]
theorem meets1_t {a b : Rect} {k : Nat} {x y : Int} {z w : Int} (h1 : a.low[k]? = some x) (h2 : b.high[k]? = some y) (h3 : b.low[k]? = some z) (h4 : a.high[k]? = some w) (p : ¬ y < x) (q : ¬ w < z) : meets1 a b k = true:=by
  unfold meets1; rw [getD_of h1,getD_of h2,getD_of h3,getD_of h4]; simp; omega
theorem meets1_f1 {a b : Rect} {k : Nat} {x y : Int} (h1 : a.low[k]? = some x) (h2 : b.high[k]? = some y) (p : y < x) : meets1 a b k = false:=by
  unfold meets1; rw [getD_of h1,getD_of h2]; simp; omega
theorem meets1_f2 {a b : Rect} {k : Nat} {z w : Int} (h3 : b.low[k]? = some z) (h4 : a.high[k]? = some w) (q : w < z) : meets1 a b k = false:=by
  unfold meets1; rw [getD_of h3,getD_of h4]; simp; omega
theorem covers1_t {a b : Rect} {k : Nat} {x y : Int} {z w : Int} (h1 : a.low[k]? = some x) (h2 : b.low[k]? = some y) (h3 : b.high[k]? = some z) (h4 : a.high[k]? = some w) (p : ¬ y < x) (q : ¬ w < z) : covers1 a b k = true:=by
  unfold covers1; rw [getD_of h1,getD_of h2,getD_of h3,getD_of h4]; simp; omega
theorem covers1_f1 {a b : Rect} {k : Nat} {x y : Int} (h1 : a.low[k]? = some x) (h2 : b.low[k]? = some y) (p : y < x) : covers1 a b k = false:=by
  unfold covers1; rw [getD_of h1,getD_of h2]; simp; omega
theorem covers1_f2 {a b : Rect} {k : Nat} {z w : Int} (h3 : b.high[k]? = some z) (h4 : a.high[k]? = some w) (q : w < z) : covers1 a b k = false:=by
  unfold covers1; rw [getD_of h3,getD_of h4]; simp; omega
structure FitQ (d : Nat) (q : Query) : Prop where
  rect : q.kind = 1 ∨ q.kind = 2 → FitR d q.rect
  pt : q.kind = 3 ∨ q.kind = 4 → FitP d q.point
  k : q.kind = 4 → 1 ≤ q.k ∧ q.k ≤ 20
  kind : 1 ≤ q.kind ∧ q.kind ≤ 4
theorem query_fit {q : Query} {d : Int} (h : queryFault q d = 0) : FitQ d.toNat q ∧ isDims d = true:=by
  unfold queryFault at h
  split at h
  · rename_i hd
    split at h
    · rename_i hk
      have hk1 : 1 ≤ q.kind ∧ q.kind ≤ 4:=by unfold within at hk; simpa using hk
      split at h
      · cases h
      · split at h
        · cases h
        · split at h
          · cases h
          · split at h
            · rename_i hr
              have hr1 : q.kind = 1 ∨ q.kind = 2:=by unfold hasRect at hr; simpa using hr
              exact ⟨⟨fun _=>rect_fit h hd,fun h3=>by omega,fun h4=>by omega,hk1⟩,hd⟩
            · rename_i hr
              have hr1 : ¬ (q.kind = 1 ∨ q.kind = 2):=by unfold hasRect at hr; simpa using hr
              split at h
              · rename_i hp
                refine ⟨⟨fun h1=>absurd h1 hr1,fun _=>point_fit hp hd,fun h4=>?_,hk1⟩,hd⟩
                split at h
                · cases h
                · rename_i h5
                  have h6 : within q.k 1 20 = true:=by
                    cases hw : within q.k 1 20
                    · exact absurd ⟨h4,hw⟩ h5
                    · rfl
                  unfold within at h6; simpa using h6
              · contradiction
    · cases h
  · cases h
def matchQ (q : Query) (r : Rect) : Bool := if q.kind = 1 then meetsR q.rect r else if q.kind = 2 then coversR q.rect r else if q.kind = 3 then distR r q.point == 0 else true
def nearerP (p : List Int) (a b : Pair) : Bool := decide (distR a.rect p < distR b.rect p) || (distR a.rect p == distR b.rect p && decide (a.id < b.id))
def cmpI (x y : Int) : Int := if x < y then -1 else if y < x then 1 else 0
def nearC (p : List Int) (a b : Pair) : Int := if cmpI (distR a.rect p) (distR b.rect p) = 0 then cmpI a.id b.id else cmpI (distR a.rect p) (distR b.rect p)
theorem nearC_ge {p : List Int} {a b : Pair} : (decide (0 ≤ nearC p a b)) = !nearerP p a b:=by
  unfold nearC nearerP cmpI
  rw [Bool.eq_iff_iff]
  simp
  split <;> (try split) <;> (try split) <;> (try split) <;> omega
theorem true_stepP {α : Type} {p : α → Prop} {xs : List α} {k : Nat} {y : α} (h : ∀ (j : Nat) (x : α),j < k → xs[j]? = some x → p x) (hy : xs[k]? = some y) (hp : p y) : ∀ (j : Nat) (x : α),j < k + 1 → xs[j]? = some x → p x:=fun j x hj hx=>by
  rcases Nat.lt_succ_iff_lt_or_eq.1 hj with hlt | rfl
  · exact h j x hlt hx
  · rw [hy] at hx; cases hx; exact hp

theorem fit_sz {d : Nat} {r : Rect} (h : FitR d r) (hd : d ≤ 3) : szRect r ≤ 6:=by
  have h1:=h.lo; have h2:=h.hi
  unfold szRect; omega

theorem impl_meets (w : World) {a : Rect} (ha : kRectS.Rel w [.slice Aa0 a.low.length ca0,.slice Aa1 a.high.length ca1] a [] sa_) {b : Rect} (hb : kRectS.Rel w [.slice Ab0 b.low.length cb0,.slice Ab1 b.high.length cb1] b [] sb_) {d : Nat} (yFa : FitR d a) (yFb : FitR d b) : Calls Tryz.prog 264 #[.agg #[.slice Aa0 a.low.length ca0,.slice Aa1 a.high.length ca1],.agg #[.slice Ab0 b.low.length cb0,.slice Ab1 b.high.length cb1]] w (fun e_ w2_=>e_ = .returned (.bool (meetsR a b)) ∧ Below w.heap.size w w2_):=by
  have l1:=yFa.lo; have l2:=yFa.hi; have l3:=yFb.lo; have l4:=yFb.hi
  refine fnc (X:=X5 37 w) (l:=[(0,.agg #[.slice Aa0 a.low.length ca0,.slice Aa1 a.high.length ca1]),(1,.agg #[.slice Ab0 b.low.length cb0,.slice Ab1 b.high.length cb1])]) Tryz.func264 rfl rfl rfl ⟨rfl,rfl,trivial⟩ (s0d hb (s0d ha (s0n w))).1 ?_
  refine sq (rg (bx rfl rfl rfl rfl ?_))
  intro b1
  refine bx rfl rfl rfl rfl ?_
  intro b2
  refine rn ik 13 [1,0] rfl ?_
  refine lp (σ:=Nat) (fun k : Nat=>[(2,.pointer (some ⟨b1,0,none⟩)),(3,.pointer (some ⟨b2,0,none⟩)),(8,.int .i64 ((a.low.length : Nat) : Int)),(9,.int .i64 ((k : Nat) : Int))])
      (fun k : Nat=>[blk b2 [.slice Ab0 b.low.length cb0,.slice Ab1 b.high.length cb1] 82,blk b1 [.slice Aa0 a.low.length ca0,.slice Aa1 a.high.length ca1] 82,dat kRectS [.slice Ab0 b.low.length cb0,.slice Ab1 b.high.length cb1] b ([]) sb_,dat kRectS [.slice Aa0 a.low.length ca0,.slice Aa1 a.high.length ca1] a ([]) sa_])
      (fun k : Nat=>k ≤ a.low.length ∧ ∀ j,j < k → meets1 a b j = true) (fun k : Nat=>a.low.length - k) 0 [0,0,0,0] ⟨Nat.zero_le _,by simp⟩ ⟨rfl,rfl,rfl,rfl,trivial⟩ rfl ?_
  intro k hp_
  obtain ⟨hk,hinv⟩:=hp_
  refine rn ik 6 [] rfl ?_
  by_cases h3 : ((k : Nat) : Int) < ((a.low.length : Nat) : Int)
  · refine r1_ ik 12 [1] rfl (decide_eq_true h3) ?_
    refine gd 3 kRectS_p0_1 rfl (cs':=[.slice Aa0 a.low.length ca0]) rfl fun s4 w_ rs4 us4=>?_
    have Ls4:=Kd.sl_len rs4; have Cs4:=Kd.sl_cap rs4
    refine gx 0 k rfl (by omega) fun y10 p5 cs_ s6 w9 m11 e7 r8 us6=>?_
    obtain ⟨rfl,-,-⟩:=r8
    refine gd 4 kRectS_p1_1 rfl (cs':=[.slice Ab1 b.high.length cb1]) rfl fun s12 w_ rs12 us12=>?_
    have Ls12:=Kd.sl_len rs12; have Cs12:=Kd.sl_cap rs12
    refine gx 0 k rfl (by omega) fun y18 p13 cs_ s14 w17 m19 e15 r16 us14=>?_
    obtain ⟨rfl,-,-⟩:=r16
    by_cases h20 : y18 < y10
    · refine rn ik 4 [1,2,5,0,3] rfl (qv 3 rfl (ix k e7 rfl rfl rfl rfl rfl (by omega)) rfl (by kernel_rfl) (rn ik 4 [5,2,0,6,7,4,0,8] rfl (qv 8 rfl (ix k e15 rfl rfl rfl rfl rfl (by omega)) rfl (by kernel_rfl) (rp ik 29 [10,0,0,11,12,13,0,14,0,15,0,16,0,17,0,18,0,19,0,20,0,21,0,22,0,23,0,24,1,0,1] rfl ⟨rfl,⟨[0,0,0,0,0,0,0,0],rfl⟩,(decide_eq_true h20),(decide_eq_true h20),(decide_eq_true h20),(decide_eq_true h20),(decide_eq_true h20),(decide_eq_true h20),(decide_eq_true h20),(decide_eq_true h20),(decide_eq_true h20),(decide_eq_true h20),(decide_eq_true h20),(decide_eq_true h20),⟨⟩⟩ (ret1 rfl rfl (fun w_ hs_=>⟨?_,hs_.below⟩))))))
      exact rb (range_f (k:=k) (by omega) (meets1_f1 m11 m19 h20))
    · refine gd 6 kRectS_p0_1 rfl (cs':=[.slice Ab0 b.low.length cb0]) rfl fun s21 w_ rs21 us21=>?_
      have Ls21:=Kd.sl_len rs21; have Cs21:=Kd.sl_cap rs21
      refine gx 0 k rfl (by omega) fun y27 p22 cs_ s23 w26 m28 e24 r25 us23=>?_
      obtain ⟨rfl,-,-⟩:=r25
      refine gd 9 kRectS_p1_1 rfl (cs':=[.slice Aa1 a.high.length ca1]) rfl fun s29 w_ rs29 us29=>?_
      have Ls29:=Kd.sl_len rs29; have Cs29:=Kd.sl_cap rs29
      refine gx 0 k rfl (by omega) fun y35 p30 cs_ s31 w34 m36 e32 r33 us31=>?_
      obtain ⟨rfl,-,-⟩:=r33
      refine rn ik 4 [1,2,9,0,3] rfl (qv 3 rfl (ix k e7 rfl rfl rfl rfl rfl (by omega)) rfl (by kernel_rfl) (rn ik 4 [5,6,0,6,7,8,0,8] rfl (qv 8 rfl (ix k e15 rfl rfl rfl rfl rfl (by omega)) rfl (by kernel_rfl) (r3_ ik 6 [10,4,0,11,12,13,1,14,1,8,0,15,1] rfl (decide_eq_false h20) (decide_eq_false h20) (decide_eq_false h20) (qg 15 rfl (ix k e24 rfl rfl rfl rfl rfl (by omega)) rfl rfl (decide_eq_false h20) (by kernel_rfl) (r4_ ik 4 [17,1,2,0,18,1,19,1,9,0,20,1] rfl (decide_eq_false h20) (decide_eq_false h20) (decide_eq_false h20) (decide_eq_false h20) (qg 20 rfl (ix k e32 rfl rfl rfl rfl rfl (by omega)) rfl rfl (decide_eq_false h20) (by kernel_rfl) (r4_ ik 5 [22,1,0,0,23,1,24,0,0] rfl (decide_eq_false h20) (decide_eq_false h20) (decide_eq_false h20) ⟨[0,0,0,0,0,0,0,0,0,0,0,0],rfl⟩ ?_))))))))
      by_cases h37 : y35 < y27
      · refine r1_ ik 12 [1] rfl (decide_eq_true h37) (ret1 rfl rfl (fun w_ hs_=>⟨?_,hs_.below⟩))
        exact rb (range_f (k:=k) (by omega) (meets1_f2 m28 m36 h37))
      · exact r1_ ik 5 [0] rfl (decide_eq_false h37) (vl (ra (c:=((k + 1 : Nat) : Int)) rfl rfl rfl (by omega) (by omega) (by omega)) rfl (rn ik 2 [] rfl (lpe (s:=k) (k + 1) [8,8,8,8] ⟨by omega,(fun j hj=>by rcases Nat.lt_succ_iff_lt_or_eq.1 hj with h_ | rfl; exact hinv j h_; exact meets1_t m11 m19 m28 m36 h20 h37)⟩ (by omega) ⟨rfl,rfl,rfl,rfl,trivial⟩ rfl)))
  · refine r1_ ik 12 [0] rfl (decide_eq_false h3) (ret1 rfl rfl (fun w_ hs_=>⟨?_,hs_.below⟩))
    exact rb (range_t (fun j hj=>hinv j (by omega)))
theorem spec_l1Meets (w : World) {a : Rect} (ha : (ptr kRectS pa [.slice Aa0 a.low.length ca0,.slice Aa1 a.high.length ca1] a sa_).P w) {b : Rect} (hb : (ptr kRectS pb [.slice Ab0 b.low.length cb0,.slice Ab1 b.high.length cb1] b sb_).P w) {d : Nat} (yFa : FitR d a) (yFb : FitR d b) : Calls Tryz.prog 247 #[.pointer (some pa),.pointer (some pb)] w (fun e_ w2_=>e_ = .returned (.bool (meetsR a b)) ∧ Below w.heap.size w w2_):=by
  have l1:=yFa.lo; have l2:=yFa.hi; have l3:=yFb.lo; have l4:=yFb.hi
  refine fnc (X:=X5 47 w) (l:=[(0,.pointer (some pa)),(1,.pointer (some pb))]) Tryz.func247 rfl rfl rfl ⟨rfl,rfl,trivial⟩ (s0p hb (s0p ha (s0n w))).1 ?_
  refine rn ik 12 [] rfl ?_
  refine lp (σ:=Nat) (fun k : Nat=>[(0,.pointer (some pa)),(1,.pointer (some pb)),(5,.int .i64 ((k : Nat) : Int))])
      (fun k : Nat=>[ptr kRectS pb [.slice Ab0 b.low.length cb0,.slice Ab1 b.high.length cb1] b sb_,ptr kRectS pa [.slice Aa0 a.low.length ca0,.slice Aa1 a.high.length ca1] a sa_])
      (fun k : Nat=>k ≤ a.low.length ∧ ∀ j,j < k → meets1 a b j = true) (fun k : Nat=>a.low.length - k) 0 [0,0] ⟨Nat.zero_le _,by simp⟩ ⟨rfl,rfl,rfl,trivial⟩ rfl ?_
  intro k hp_
  obtain ⟨hk,hinv⟩:=hp_
  refine rn ik 12 [1,1] rfl ?_
  by_cases h1 : ((k : Nat) : Int) < ((a.low.length : Nat) : Int)
  · refine r1_ ik 6 [1] rfl (decide_eq_true h1) ?_
    refine gp 1 kRectS_p0_1 rfl (cs':=[.slice Aa0 a.low.length ca0]) rfl fun s2 w_ rs2 us2=>?_
    have Ls2:=Kd.sl_len rs2; have Cs2:=Kd.sl_cap rs2
    refine gx 0 k rfl (by omega) fun y8 p3 cs_ s4 w7 m9 e5 r6 us4=>?_
    obtain ⟨rfl,-,-⟩:=r6
    refine gp 2 kRectS_p1_1 rfl (cs':=[.slice Ab1 b.high.length cb1]) rfl fun s10 w_ rs10 us10=>?_
    have Ls10:=Kd.sl_len rs10; have Cs10:=Kd.sl_cap rs10
    refine gx 0 k rfl (by omega) fun y16 p11 cs_ s12 w15 m17 e13 r14 us12=>?_
    obtain ⟨rfl,-,-⟩:=r14
    by_cases h18 : y16 < y8
    · refine rn ik 6 [1,2,3,4,5,1,5] rfl (qv 5 rfl (ix k e5 rfl rfl rfl rfl rfl (by omega)) rfl (by kernel_rfl) (rn ik 6 [7,2,0,8,9,10,11,4,2,12] rfl (qv 12 rfl (ix k e13 rfl rfl rfl rfl rfl (by omega)) rfl (by kernel_rfl) (rp ik 33 [14,0,0,15,16,17,0,18,0,19,0,20,0,21,0,22,0,23,0,24,0,25,0,26,0,27,0,28,0,29,0,30,0,31,0,32,1,0,1] rfl ⟨rfl,⟨[0,0,0,0,0,0],rfl⟩,(decide_eq_true h18),(decide_eq_true h18),(decide_eq_true h18),(decide_eq_true h18),(decide_eq_true h18),(decide_eq_true h18),(decide_eq_true h18),(decide_eq_true h18),(decide_eq_true h18),(decide_eq_true h18),(decide_eq_true h18),(decide_eq_true h18),(decide_eq_true h18),(decide_eq_true h18),(decide_eq_true h18),(decide_eq_true h18),⟨⟩⟩ (ret1 rfl rfl (fun w_ hs_=>⟨?_,hs_.below⟩))))))
      exact rb (range_f (k:=k) (by omega) (meets1_f1 m9 m17 h18))
    · refine gp 4 kRectS_p0_1 rfl (cs':=[.slice Ab0 b.low.length cb0]) rfl fun s19 w_ rs19 us19=>?_
      have Ls19:=Kd.sl_len rs19; have Cs19:=Kd.sl_cap rs19
      refine gx 0 k rfl (by omega) fun y25 p20 cs_ s21 w24 m26 e22 r23 us21=>?_
      obtain ⟨rfl,-,-⟩:=r23
      refine gp 7 kRectS_p1_1 rfl (cs':=[.slice Aa1 a.high.length ca1]) rfl fun s27 w_ rs27 us27=>?_
      have Ls27:=Kd.sl_len rs27; have Cs27:=Kd.sl_cap rs27
      refine gx 0 k rfl (by omega) fun y33 p28 cs_ s29 w32 m34 e30 r31 us29=>?_
      obtain ⟨rfl,-,-⟩:=r31
      refine rn ik 6 [1,2,3,4,9,1,5] rfl (qv 5 rfl (ix k e5 rfl rfl rfl rfl rfl (by omega)) rfl (by kernel_rfl) (rn ik 6 [7,6,0,8,9,10,11,8,2,12] rfl (qv 12 rfl (ix k e13 rfl rfl rfl rfl rfl (by omega)) rfl (by kernel_rfl) (rp ik 8 [14,4,0,15,16,17,1,18,1,19,1,20,1,8,1,21,1] rfl ⟨(decide_eq_false h18),(decide_eq_false h18),(decide_eq_false h18),(decide_eq_false h18),(decide_eq_false h18),⟨⟩⟩ (qg 21 rfl (ix k e22 rfl rfl rfl rfl rfl (by omega)) rfl rfl (decide_eq_false h18) (by kernel_rfl) (rp ik 6 [23,1,2,0,24,1,25,1,26,1,27,1,9,2,28,1] rfl ⟨(decide_eq_false h18),(decide_eq_false h18),(decide_eq_false h18),(decide_eq_false h18),(decide_eq_false h18),(decide_eq_false h18),⟨⟩⟩ (qg 28 rfl (ix k e30 rfl rfl rfl rfl rfl (by omega)) rfl rfl (decide_eq_false h18) (by kernel_rfl) (r4_ ik 5 [30,1,0,0,31,1,32,0,0] rfl (decide_eq_false h18) (decide_eq_false h18) (decide_eq_false h18) ⟨[0,0,0,0,0,0,0,0,0,0],rfl⟩ ?_))))))))
      by_cases h35 : y33 < y25
      · refine r1_ ik 12 [1] rfl (decide_eq_true h35) (ret1 rfl rfl (fun w_ hs_=>⟨?_,hs_.below⟩))
        exact rb (range_f (k:=k) (by omega) (meets1_f2 m26 m34 h35))
      · exact r1_ ik 6 [0] rfl (decide_eq_false h35) (vl (ra (c:=((k + 1 : Nat) : Int)) rfl rfl rfl (by omega) (by omega) (by omega)) rfl (rn ik 2 [] rfl (lpe (s:=k) (k + 1) [8,8] ⟨by omega,(fun j hj=>by rcases Nat.lt_succ_iff_lt_or_eq.1 hj with h_ | rfl; exact hinv j h_; exact meets1_t m9 m17 m26 m34 h18 h35)⟩ (by omega) ⟨rfl,rfl,rfl,trivial⟩ rfl)))
  · refine r1_ ik 12 [0] rfl (decide_eq_false h1) (ret1 rfl rfl (fun w_ hs_=>⟨?_,hs_.below⟩))
    exact rb (range_t (fun j hj=>hinv j (by omega)))
theorem impl_covers (w : World) {a : Rect} (ha : kRectS.Rel w [.slice Aa0 a.low.length ca0,.slice Aa1 a.high.length ca1] a [] sa_) {b : Rect} (hb : kRectS.Rel w [.slice Ab0 b.low.length cb0,.slice Ab1 b.high.length cb1] b [] sb_) {d : Nat} (yFa : FitR d a) (yFb : FitR d b) : Calls Tryz.prog 295 #[.agg #[.slice Aa0 a.low.length ca0,.slice Aa1 a.high.length ca1],.agg #[.slice Ab0 b.low.length cb0,.slice Ab1 b.high.length cb1]] w (fun e_ w2_=>e_ = .returned (.bool (coversR a b)) ∧ Below w.heap.size w w2_):=by
  have l1:=yFa.lo; have l2:=yFa.hi; have l3:=yFb.lo; have l4:=yFb.hi
  refine fnc (X:=X5 37 w) (l:=[(0,.agg #[.slice Aa0 a.low.length ca0,.slice Aa1 a.high.length ca1]),(1,.agg #[.slice Ab0 b.low.length cb0,.slice Ab1 b.high.length cb1])]) Tryz.func295 rfl rfl rfl ⟨rfl,rfl,trivial⟩ (s0d hb (s0d ha (s0n w))).1 ?_
  refine sq (rg (bx rfl rfl rfl rfl ?_))
  intro b1
  refine bx rfl rfl rfl rfl ?_
  intro b2
  refine rn ik 13 [1,0] rfl ?_
  refine lp (σ:=Nat) (fun k : Nat=>[(2,.pointer (some ⟨b1,0,none⟩)),(3,.pointer (some ⟨b2,0,none⟩)),(8,.int .i64 ((a.low.length : Nat) : Int)),(9,.int .i64 ((k : Nat) : Int))])
      (fun k : Nat=>[blk b2 [.slice Ab0 b.low.length cb0,.slice Ab1 b.high.length cb1] 82,blk b1 [.slice Aa0 a.low.length ca0,.slice Aa1 a.high.length ca1] 82,dat kRectS [.slice Ab0 b.low.length cb0,.slice Ab1 b.high.length cb1] b ([]) sb_,dat kRectS [.slice Aa0 a.low.length ca0,.slice Aa1 a.high.length ca1] a ([]) sa_])
      (fun k : Nat=>k ≤ a.low.length ∧ ∀ j,j < k → covers1 a b j = true) (fun k : Nat=>a.low.length - k) 0 [0,0,0,0] ⟨Nat.zero_le _,by simp⟩ ⟨rfl,rfl,rfl,rfl,trivial⟩ rfl ?_
  intro k hp_
  obtain ⟨hk,hinv⟩:=hp_
  refine rn ik 6 [] rfl ?_
  by_cases h3 : ((k : Nat) : Int) < ((a.low.length : Nat) : Int)
  · refine r1_ ik 12 [1] rfl (decide_eq_true h3) ?_
    refine gd 3 kRectS_p0_1 rfl (cs':=[.slice Aa0 a.low.length ca0]) rfl fun s4 w_ rs4 us4=>?_
    have Ls4:=Kd.sl_len rs4; have Cs4:=Kd.sl_cap rs4
    refine gx 0 k rfl (by omega) fun y10 p5 cs_ s6 w9 m11 e7 r8 us6=>?_
    obtain ⟨rfl,-,-⟩:=r8
    refine gd 4 kRectS_p0_1 rfl (cs':=[.slice Ab0 b.low.length cb0]) rfl fun s12 w_ rs12 us12=>?_
    have Ls12:=Kd.sl_len rs12; have Cs12:=Kd.sl_cap rs12
    refine gx 0 k rfl (by omega) fun y18 p13 cs_ s14 w17 m19 e15 r16 us14=>?_
    obtain ⟨rfl,-,-⟩:=r16
    by_cases h20 : y18 < y10
    · refine rn ik 4 [1,2,5,0,3] rfl (qv 3 rfl (ix k e7 rfl rfl rfl rfl rfl (by omega)) rfl (by kernel_rfl) (rn ik 4 [5,2,0,6,7,4,0,8] rfl (qv 8 rfl (ix k e15 rfl rfl rfl rfl rfl (by omega)) rfl (by kernel_rfl) (rp ik 29 [10,0,0,11,12,13,0,14,0,15,0,16,0,17,0,18,0,19,0,20,0,21,0,22,0,23,0,24,1,0,1] rfl ⟨rfl,⟨[0,0,0,0,0,0,0,0],rfl⟩,(decide_eq_true h20),(decide_eq_true h20),(decide_eq_true h20),(decide_eq_true h20),(decide_eq_true h20),(decide_eq_true h20),(decide_eq_true h20),(decide_eq_true h20),(decide_eq_true h20),(decide_eq_true h20),(decide_eq_true h20),(decide_eq_true h20),⟨⟩⟩ (ret1 rfl rfl (fun w_ hs_=>⟨?_,hs_.below⟩))))))
      exact rb (range_f (k:=k) (by omega) (covers1_f1 m11 m19 h20))
    · refine gd 7 kRectS_p1_1 rfl (cs':=[.slice Aa1 a.high.length ca1]) rfl fun s21 w_ rs21 us21=>?_
      have Ls21:=Kd.sl_len rs21; have Cs21:=Kd.sl_cap rs21
      refine gx 0 k rfl (by omega) fun y27 p22 cs_ s23 w26 m28 e24 r25 us23=>?_
      obtain ⟨rfl,-,-⟩:=r25
      refine gd 8 kRectS_p1_1 rfl (cs':=[.slice Ab1 b.high.length cb1]) rfl fun s29 w_ rs29 us29=>?_
      have Ls29:=Kd.sl_len rs29; have Cs29:=Kd.sl_cap rs29
      refine gx 0 k rfl (by omega) fun y35 p30 cs_ s31 w34 m36 e32 r33 us31=>?_
      obtain ⟨rfl,-,-⟩:=r33
      refine rn ik 4 [1,2,9,0,3] rfl (qv 3 rfl (ix k e7 rfl rfl rfl rfl rfl (by omega)) rfl (by kernel_rfl) (rn ik 4 [5,6,0,6,7,8,0,8] rfl (qv 8 rfl (ix k e15 rfl rfl rfl rfl rfl (by omega)) rfl (by kernel_rfl) (r3_ ik 6 [10,4,0,11,12,13,1,14,1,9,0,15,1] rfl (decide_eq_false h20) (decide_eq_false h20) (decide_eq_false h20) (qg 15 rfl (ix k e24 rfl rfl rfl rfl rfl (by omega)) rfl rfl (decide_eq_false h20) (by kernel_rfl) (r4_ ik 4 [17,1,2,0,18,1,19,1,8,0,20,1] rfl (decide_eq_false h20) (decide_eq_false h20) (decide_eq_false h20) (decide_eq_false h20) (qg 20 rfl (ix k e32 rfl rfl rfl rfl rfl (by omega)) rfl rfl (decide_eq_false h20) (by kernel_rfl) (r4_ ik 5 [22,1,0,0,23,1,24,0,0] rfl (decide_eq_false h20) (decide_eq_false h20) (decide_eq_false h20) ⟨[0,0,0,0,0,0,0,0,0,0,0,0],rfl⟩ ?_))))))))
      by_cases h37 : y27 < y35
      · refine r1_ ik 12 [1] rfl (decide_eq_true h37) (ret1 rfl rfl (fun w_ hs_=>⟨?_,hs_.below⟩))
        exact rb (range_f (k:=k) (by omega) (covers1_f2 m36 m28 h37))
      · exact r1_ ik 5 [0] rfl (decide_eq_false h37) (vl (ra (c:=((k + 1 : Nat) : Int)) rfl rfl rfl (by omega) (by omega) (by omega)) rfl (rn ik 2 [] rfl (lpe (s:=k) (k + 1) [8,8,8,8] ⟨by omega,(fun j hj=>by rcases Nat.lt_succ_iff_lt_or_eq.1 hj with h_ | rfl; exact hinv j h_; exact covers1_t m11 m19 m36 m28 h20 h37)⟩ (by omega) ⟨rfl,rfl,rfl,rfl,trivial⟩ rfl)))
  · refine r1_ ik 12 [0] rfl (decide_eq_false h3) (ret1 rfl rfl (fun w_ hs_=>⟨?_,hs_.below⟩))
    exact rb (range_t (fun j hj=>hinv j (by omega)))
theorem spec_l1Covers (w : World) {a : Rect} (ha : (ptr kRectS pa [.slice Aa0 a.low.length ca0,.slice Aa1 a.high.length ca1] a sa_).P w) {b : Rect} (hb : (ptr kRectS pb [.slice Ab0 b.low.length cb0,.slice Ab1 b.high.length cb1] b sb_).P w) {d : Nat} (yFa : FitR d a) (yFb : FitR d b) : Calls Tryz.prog 285 #[.pointer (some pa),.pointer (some pb)] w (fun e_ w2_=>e_ = .returned (.bool (coversR a b)) ∧ Below w.heap.size w w2_):=by
  have l1:=yFa.lo; have l2:=yFa.hi; have l3:=yFb.lo; have l4:=yFb.hi
  refine fnc (X:=X5 47 w) (l:=[(0,.pointer (some pa)),(1,.pointer (some pb))]) Tryz.func285 rfl rfl rfl ⟨rfl,rfl,trivial⟩ (s0p hb (s0p ha (s0n w))).1 ?_
  refine rn ik 12 [] rfl ?_
  refine lp (σ:=Nat) (fun k : Nat=>[(0,.pointer (some pa)),(1,.pointer (some pb)),(5,.int .i64 ((k : Nat) : Int))])
      (fun k : Nat=>[ptr kRectS pb [.slice Ab0 b.low.length cb0,.slice Ab1 b.high.length cb1] b sb_,ptr kRectS pa [.slice Aa0 a.low.length ca0,.slice Aa1 a.high.length ca1] a sa_])
      (fun k : Nat=>k ≤ a.low.length ∧ ∀ j,j < k → covers1 a b j = true) (fun k : Nat=>a.low.length - k) 0 [0,0] ⟨Nat.zero_le _,by simp⟩ ⟨rfl,rfl,rfl,trivial⟩ rfl ?_
  intro k hp_
  obtain ⟨hk,hinv⟩:=hp_
  refine rn ik 12 [1,1] rfl ?_
  by_cases h1 : ((k : Nat) : Int) < ((a.low.length : Nat) : Int)
  · refine r1_ ik 6 [1] rfl (decide_eq_true h1) ?_
    refine gp 1 kRectS_p0_1 rfl (cs':=[.slice Aa0 a.low.length ca0]) rfl fun s2 w_ rs2 us2=>?_
    have Ls2:=Kd.sl_len rs2; have Cs2:=Kd.sl_cap rs2
    refine gx 0 k rfl (by omega) fun y8 p3 cs_ s4 w7 m9 e5 r6 us4=>?_
    obtain ⟨rfl,-,-⟩:=r6
    refine gp 2 kRectS_p0_1 rfl (cs':=[.slice Ab0 b.low.length cb0]) rfl fun s10 w_ rs10 us10=>?_
    have Ls10:=Kd.sl_len rs10; have Cs10:=Kd.sl_cap rs10
    refine gx 0 k rfl (by omega) fun y16 p11 cs_ s12 w15 m17 e13 r14 us12=>?_
    obtain ⟨rfl,-,-⟩:=r14
    by_cases h18 : y16 < y8
    · refine rn ik 6 [1,2,3,4,5,1,5] rfl (qv 5 rfl (ix k e5 rfl rfl rfl rfl rfl (by omega)) rfl (by kernel_rfl) (rn ik 6 [7,2,0,8,9,10,11,4,1,12] rfl (qv 12 rfl (ix k e13 rfl rfl rfl rfl rfl (by omega)) rfl (by kernel_rfl) (rp ik 33 [14,0,0,15,16,17,0,18,0,19,0,20,0,21,0,22,0,23,0,24,0,25,0,26,0,27,0,28,0,29,0,30,0,31,0,32,1,0,1] rfl ⟨rfl,⟨[0,0,0,0,0,0],rfl⟩,(decide_eq_true h18),(decide_eq_true h18),(decide_eq_true h18),(decide_eq_true h18),(decide_eq_true h18),(decide_eq_true h18),(decide_eq_true h18),(decide_eq_true h18),(decide_eq_true h18),(decide_eq_true h18),(decide_eq_true h18),(decide_eq_true h18),(decide_eq_true h18),(decide_eq_true h18),(decide_eq_true h18),(decide_eq_true h18),⟨⟩⟩ (ret1 rfl rfl (fun w_ hs_=>⟨?_,hs_.below⟩))))))
      exact rb (range_f (k:=k) (by omega) (covers1_f1 m9 m17 h18))
    · refine gp 5 kRectS_p1_1 rfl (cs':=[.slice Aa1 a.high.length ca1]) rfl fun s19 w_ rs19 us19=>?_
      have Ls19:=Kd.sl_len rs19; have Cs19:=Kd.sl_cap rs19
      refine gx 0 k rfl (by omega) fun y25 p20 cs_ s21 w24 m26 e22 r23 us21=>?_
      obtain ⟨rfl,-,-⟩:=r23
      refine gp 6 kRectS_p1_1 rfl (cs':=[.slice Ab1 b.high.length cb1]) rfl fun s27 w_ rs27 us27=>?_
      have Ls27:=Kd.sl_len rs27; have Cs27:=Kd.sl_cap rs27
      refine gx 0 k rfl (by omega) fun y33 p28 cs_ s29 w32 m34 e30 r31 us29=>?_
      obtain ⟨rfl,-,-⟩:=r31
      refine rn ik 6 [1,2,3,4,9,1,5] rfl (qv 5 rfl (ix k e5 rfl rfl rfl rfl rfl (by omega)) rfl (by kernel_rfl) (rn ik 6 [7,6,0,8,9,10,11,8,1,12] rfl (qv 12 rfl (ix k e13 rfl rfl rfl rfl rfl (by omega)) rfl (by kernel_rfl) (rp ik 8 [14,4,0,15,16,17,1,18,1,19,1,20,1,9,2,21,1] rfl ⟨(decide_eq_false h18),(decide_eq_false h18),(decide_eq_false h18),(decide_eq_false h18),(decide_eq_false h18),⟨⟩⟩ (qg 21 rfl (ix k e22 rfl rfl rfl rfl rfl (by omega)) rfl rfl (decide_eq_false h18) (by kernel_rfl) (rp ik 6 [23,1,2,0,24,1,25,1,26,1,27,1,8,2,28,1] rfl ⟨(decide_eq_false h18),(decide_eq_false h18),(decide_eq_false h18),(decide_eq_false h18),(decide_eq_false h18),(decide_eq_false h18),⟨⟩⟩ (qg 28 rfl (ix k e30 rfl rfl rfl rfl rfl (by omega)) rfl rfl (decide_eq_false h18) (by kernel_rfl) (r4_ ik 5 [30,1,0,0,31,1,32,0,0] rfl (decide_eq_false h18) (decide_eq_false h18) (decide_eq_false h18) ⟨[0,0,0,0,0,0,0,0,0,0],rfl⟩ ?_))))))))
      by_cases h35 : y25 < y33
      · refine r1_ ik 12 [1] rfl (decide_eq_true h35) (ret1 rfl rfl (fun w_ hs_=>⟨?_,hs_.below⟩))
        exact rb (range_f (k:=k) (by omega) (covers1_f2 m34 m26 h35))
      · exact r1_ ik 6 [0] rfl (decide_eq_false h35) (vl (ra (c:=((k + 1 : Nat) : Int)) rfl rfl rfl (by omega) (by omega) (by omega)) rfl (rn ik 2 [] rfl (lpe (s:=k) (k + 1) [8,8] ⟨by omega,(fun j hj=>by rcases Nat.lt_succ_iff_lt_or_eq.1 hj with h_ | rfl; exact hinv j h_; exact covers1_t m9 m17 m34 m26 h18 h35)⟩ (by omega) ⟨rfl,rfl,rfl,trivial⟩ rfl)))
  · refine r1_ ik 12 [0] rfl (decide_eq_false h1) (ret1 rfl rfl (fun w_ hs_=>⟨?_,hs_.below⟩))
    exact rb (range_t (fun j hj=>hinv j (by omega)))
theorem spec_l1Max (w : World) (a : Int) (b : Int)  : Calls Tryz.prog 94 #[.int .i64 a,.int .i64 b] w (fun e_ w2_=>e_ = .returned (.int .i64 (gmax a b)) ∧ Below w.heap.size w w2_):=by
  refine fnc (X:=X5 10 w) (l:=[(0,.int .i64 a),(1,.int .i64 b)]) Tryz.func94 rfl rfl rfl ⟨rfl,rfl,trivial⟩ (s0n w).1 ?_
  refine rn ik 13 [] rfl ?_
  by_cases h1 : b < a
  · refine r1_ ik 9 [1] rfl (decide_eq_true h1) (ret1 rfl rfl (fun w_ hs_=>⟨?_,hs_.below⟩))
    exact ri (by unfold gmax; split <;> omega)
  · refine r1_ ik 10 [0] rfl (decide_eq_false h1) (ret1 rfl rfl (fun w_ hs_=>⟨?_,hs_.below⟩))
    exact ri (by unfold gmax; split <;> omega)
theorem impl_distance (w : World) {r : Rect} (hr : kRectS.Rel w [.slice Ar0 r.low.length cr0,.slice Ar1 r.high.length cr1] r [] sr_) {p : List Int} (hp : (Kd.sl Kd.i64).Rel w [.slice Ap p.length cp] p [] sp_) {d : Nat} (hd : d ≤ 3) (yFr : FitR d r) (yFp : FitP d p) : Calls Tryz.prog 191 #[.agg #[.slice Ar0 r.low.length cr0,.slice Ar1 r.high.length cr1],.slice Ap p.length cp] w (fun e_ w2_=>e_ = .returned (.int .i64 (distR r p)) ∧ Below w.heap.size w w2_):=by
  have Lp:=Kd.sl_len hp; have Cp:=Kd.sl_cap hp
  have l1:=yFr.lo; have l2:=yFr.hi; have l3:=yFp.len
  refine fnc (X:=X5 34 w) (l:=[(0,.agg #[.slice Ar0 r.low.length cr0,.slice Ar1 r.high.length cr1]),(1,.slice Ap p.length cp)]) Tryz.func191 rfl rfl rfl ⟨rfl,rfl,trivial⟩ (s0d hp (s0d hr (s0n w))).1 ?_
  refine sq (rg (bx rfl rfl rfl rfl ?_))
  intro b1
  refine rn ik 17 [] rfl ?_
  refine lp (σ:=Nat × Int) (fun z_ : Nat × Int=>match z_ with | (k,v)=>[(2,.pointer (some ⟨b1,0,none⟩)),(5,.int .i64 v),(8,.slice Ap p.length cp),(9,.int .i64 ((p.length : Nat) : Int)),(10,.int .i64 ((k : Nat) : Int))])
      (fun z_ : Nat × Int=>match z_ with | (k,v)=>[blk b1 [.slice Ar0 r.low.length cr0,.slice Ar1 r.high.length cr1] 82,dat (Kd.sl Kd.i64) [.slice Ap p.length cp] p ([]) sp_,dat kRectS [.slice Ar0 r.low.length cr0,.slice Ar1 r.high.length cr1] r ([]) sr_])
      (fun z_ : Nat × Int=>match z_ with | (k,v)=>k ≤ p.length ∧ v = distTo r p k) (fun z_ : Nat × Int=>match z_ with | (k,v)=>p.length - k) (0,0) [0,0,0] ⟨Nat.zero_le _,rfl⟩ ⟨rfl,rfl,rfl,rfl,rfl,trivial⟩ rfl ?_
  rintro ⟨k,v⟩ hp_
  obtain ⟨hk,hv⟩:=hp_; have zk:=distTo_b yFr yFp k (by omega)
  refine rn ik 6 [] rfl ?_
  by_cases h2 : ((k : Nat) : Int) < ((p.length : Nat) : Int)
  · refine r1_ ik 8 [1] rfl (decide_eq_true h2) ?_
    refine gx 1 k rfl (by omega) fun y8 p3 cs_ s4 w7 m9 e5 r6 us4=>?_
    obtain ⟨rfl,-,-⟩:=r6
    have zby8:=yFp.bnd.at m9
    refine vl (ix k e5 rfl rfl rfl rfl rfl (by omega)) rfl (rn ik 5 [0,0] rfl ?_)
    refine gd 3 kRectS_p0_1 rfl (cs':=[.slice Ar0 r.low.length cr0]) rfl fun s10 w_ rs10 us10=>?_
    have Ls10:=Kd.sl_len rs10; have Cs10:=Kd.sl_cap rs10
    refine gx 0 k rfl (by omega) fun y16 p11 cs_ s12 w15 m17 e13 r14 us12=>?_
    obtain ⟨rfl,-,-⟩:=r14
    have zby16:=yFr.bl.at m17
    refine gd 5 kRectS_p1_1 rfl (cs':=[.slice Ar1 r.high.length cr1]) rfl fun s18 w_ rs18 us18=>?_
    have Ls18:=Kd.sl_len rs18; have Cs18:=Kd.sl_cap rs18
    refine gx 0 k rfl (by omega) fun y24 p19 cs_ s20 w23 m25 e21 r22 us20=>?_
    obtain ⟨rfl,-,-⟩:=r22
    have zby24:=yFr.bh.at m25
    have zle:=yFr.le k _ _ m17 m25; have zm:=dist1_max (n:=y8) zle; have zt:=dist1_two (n:=y8) zle; have zo:=distTo_on m17 m25 m9; have zd:=dist1_b zby16 zby24 zby8; have zg1 : 0 ≤ gmax (y16 - y8) 0:=(by unfold gmax; split <;> omega); have zg2 : 0 ≤ gmax (y8 - y24) 0:=(by unfold gmax; split <;> omega)
    exact rn ik 5 [1,2,3,5,0,4] rfl (qv 4 rfl (ix k e13 rfl rfl rfl rfl rfl (by omega)) rfl (by kernel_rfl) (rn ik 2 [6,2,0,7] rfl (qv 7 rfl (rs (c:=y16 - y8) rfl rfl rfl rfl (by omega) (by omega)) rfl (by kernel_rfl) (rn ik 4 [9,10,11,5,0,12] rfl (qv 12 rfl (ix k e21 rfl rfl rfl rfl rfl (by omega)) rfl (by kernel_rfl) (qv 13 rfl (ldq (u:=.int .i64 y24) 0 rfl rfl rfl rfl rfl rfl rfl) rfl (by kernel_rfl) (qv 14 rfl (rs (c:=y8 - y24) rfl rfl rfl rfl (by omega) (by omega)) rfl (by kernel_rfl) (qv 15 rfl (mx3 rfl rfl rfl rfl) rfl (by kernel_rfl) (qv 16 rfl (ra (c:=v + (gmax (gmax 0 (y16 - y8)) (y8 - y24))) rfl rfl rfl rfl (by omega) (by omega)) rfl (by kernel_rfl) (r1_ ik 5 [18,0] rfl ⟨[0,0,0,0,0,0,0,0],rfl⟩ (vl (ra (c:=((k + 1 : Nat) : Int)) rfl rfl rfl (by omega) (by omega) (by omega)) rfl (rn ik 2 [] rfl (lpe (s:=(k,v)) (k + 1,v + (gmax (gmax 0 (y16 - y8)) (y8 - y24))) [5,5,5] ⟨by omega,by omega⟩ (by show p.length - (k + 1) < p.length - k; omega) ⟨rfl,rfl,rfl,rfl,rfl,trivial⟩ rfl)))))))))))))
  · refine r1_ ik 13 [0] rfl (decide_eq_false h2) (ret1 rfl rfl (fun w_ hs_=>⟨?_,hs_.below⟩))
    exact ri (by unfold distR; rw [hv]; congr 1; omega)
theorem spec_l1Dist (w : World) {r : Rect} (hr : (ptr kRectS pr [.slice Ar0 r.low.length cr0,.slice Ar1 r.high.length cr1] r sr_).P w) {p : List Int} (hp : (Kd.sl Kd.i64).Rel w [.slice Ap p.length cp] p [] sp_) {d : Nat} (hd : d ≤ 3) (yFr : FitR d r) (yFp : FitP d p) : Calls Tryz.prog 179 #[.pointer (some pr),.slice Ap p.length cp] w (fun e_ w2_=>e_ = .returned (.int .i64 (distR r p)) ∧ Below w.heap.size w w2_):=by
  have Lp:=Kd.sl_len hp; have Cp:=Kd.sl_cap hp
  have l1:=yFr.lo; have l2:=yFr.hi; have l3:=yFp.len
  refine fnc (X:=X5 46 w) (l:=[(0,.pointer (some pr)),(1,.slice Ap p.length cp)]) Tryz.func179 rfl rfl rfl ⟨rfl,rfl,trivial⟩ (s0d hp (s0p hr (s0n w))).1 ?_
  refine rn ik 17 [] rfl ?_
  refine lp (σ:=Nat × Int) (fun z_ : Nat × Int=>match z_ with | (k,v)=>[(0,.pointer (some pr)),(1,.slice Ap p.length cp),(5,.int .i64 v),(6,.int .i64 ((k : Nat) : Int))])
      (fun z_ : Nat × Int=>match z_ with | (k,v)=>[dat (Kd.sl Kd.i64) [.slice Ap p.length cp] p ([]) sp_,ptr kRectS pr [.slice Ar0 r.low.length cr0,.slice Ar1 r.high.length cr1] r sr_])
      (fun z_ : Nat × Int=>match z_ with | (k,v)=>k ≤ r.low.length ∧ v = distTo r p k) (fun z_ : Nat × Int=>match z_ with | (k,v)=>r.low.length - k) (0,0) [0,0] ⟨Nat.zero_le _,rfl⟩ ⟨rfl,rfl,rfl,rfl,trivial⟩ rfl ?_
  rintro ⟨k,v⟩ hp_
  obtain ⟨hk,hv⟩:=hp_; have zk:=distTo_b yFr yFp k (by omega)
  refine rn ik 12 [1,1] rfl ?_
  by_cases h1 : ((k : Nat) : Int) < ((r.low.length : Nat) : Int)
  · refine r1_ ik 5 [1] rfl (decide_eq_true h1) ?_
    refine gp 1 kRectS_p0_1 rfl (cs':=[.slice Ar0 r.low.length cr0]) rfl fun s2 w_ rs2 us2=>?_
    have Ls2:=Kd.sl_len rs2; have Cs2:=Kd.sl_cap rs2
    refine gx 0 k rfl (by omega) fun y8 p3 cs_ s4 w7 m9 e5 r6 us4=>?_
    obtain ⟨rfl,-,-⟩:=r6
    have zby8:=yFr.bl.at m9
    refine gx 2 k rfl (by omega) fun y15 p10 cs_ s11 w14 m16 e12 r13 us11=>?_
    obtain ⟨rfl,-,-⟩:=r13
    have zby15:=yFp.bnd.at m16
    refine gp 4 kRectS_p1_1 rfl (cs':=[.slice Ar1 r.high.length cr1]) rfl fun s17 w_ rs17 us17=>?_
    have Ls17:=Kd.sl_len rs17; have Cs17:=Kd.sl_cap rs17
    refine gx 0 k rfl (by omega) fun y23 p18 cs_ s19 w22 m24 e20 r21 us19=>?_
    obtain ⟨rfl,-,-⟩:=r21
    have zby23:=yFr.bh.at m24
    have zle:=yFr.le k _ _ m9 m24; have zm:=dist1_max (n:=y15) zle; have zt:=dist1_two (n:=y15) zle; have zo:=distTo_on m9 m24 m16; have zd:=dist1_b zby8 zby23 zby15; have zg1 : 0 ≤ gmax (y8 - y15) 0:=(by unfold gmax; split <;> omega); have zg2 : 0 ≤ gmax (y15 - y23) 0:=(by unfold gmax; split <;> omega)
    exact rn ik 7 [1,2,3,4,5,6,1,6] rfl (qv 6 rfl (ix k e5 rfl rfl rfl rfl rfl (by omega)) rfl (by kernel_rfl) (rn ik 3 [8,3,0,9,10] rfl (qv 10 rfl (ix k e12 rfl rfl rfl rfl rfl (by omega)) rfl (by kernel_rfl) (qv 11 rfl (ldq (u:=.int .i64 y15) 2 rfl rfl rfl rfl rfl rfl rfl) rfl (by kernel_rfl) (qv 12 rfl (rs (c:=y8 - y15) rfl rfl rfl rfl (by omega) (by omega)) rfl (by kernel_rfl) (rn ik 2 [16,17] rfl (qv 17 rfl (ix k e12 rfl rfl rfl rfl rfl (by omega)) rfl (by kernel_rfl) (rn ik 6 [19,2,0,20,21,22,23,6,2,24] rfl (qv 24 rfl (ix k e20 rfl rfl rfl rfl rfl (by omega)) rfl (by kernel_rfl) (qv 25 rfl (ldq (u:=.int .i64 y23) 0 rfl rfl rfl rfl rfl rfl rfl) rfl (by kernel_rfl) (qv 26 rfl (rs (c:=y15 - y23) rfl rfl rfl rfl (by omega) (by omega)) rfl (by kernel_rfl) (q1 13 [0,0,0,0,0,0,0] rfl (by kernel_rfl) rfl (cs_ (v:=.int .i64 (gmax (y8 - y15) 0)) (by kernel_rfl) rfl rfl rfl (fun w_ hs_=>by exact spec_l1Max w_ _ _) (qn (qv 14 rfl (ra (c:=v + (gmax (y8 - y15) 0)) rfl rfl rfl rfl (by omega) (by omega)) rfl (by kernel_rfl) (q1 27 [0,0,0,0,0,0,0] rfl (by kernel_rfl) rfl (cs_ (v:=.int .i64 (gmax (y15 - y23) 0)) (by kernel_rfl) rfl rfl rfl (fun w_ hs_=>by exact spec_l1Max w_ _ _) (qn (qv 28 rfl (ra (c:=v + (gmax (y8 - y15) 0) + (gmax (y15 - y23) 0)) rfl rfl rfl rfl (by omega) (by omega)) rfl (by kernel_rfl) (r1_ ik 6 [30,0] rfl ⟨[0,0,0,0,0,0,0],rfl⟩ (vl (ra (c:=((k + 1 : Nat) : Int)) rfl rfl rfl (by omega) (by omega) (by omega)) rfl (rn ik 2 [] rfl (lpe (s:=(k,v)) (k + 1,v + (gmax (y8 - y15) 0) + (gmax (y15 - y23) 0)) [5,5] ⟨by omega,by omega⟩ (by show r.low.length - (k + 1) < r.low.length - k; omega) ⟨rfl,rfl,rfl,rfl,trivial⟩ rfl)))))))))))))))))))))))
  · refine r1_ ik 13 [0] rfl (decide_eq_false h1) (ret1 rfl rfl (fun w_ hs_=>⟨?_,hs_.below⟩))
    exact ri (by unfold distR; rw [hv]; congr 1; omega)
theorem impl_Query_matches (w : World) {q : Query} (hq : kQueryS.Rel w [.int .i64 q.kind,.slice Aq1 q.rect.low.length cq1,.slice Aq2 q.rect.high.length cq2,.slice Aq3 q.point.length cq3,.int .i64 q.k] q [] sq_) {r : Rect} (hr : kRectS.Rel w [.slice Ar0 r.low.length cr0,.slice Ar1 r.high.length cr1] r [] sr_) {d : Nat} (hd : d ≤ 3) (yFq : FitQ d q) (yFr : FitR d r) : Calls Tryz.prog 261 #[.agg #[.int .i64 q.kind,.slice Aq1 q.rect.low.length cq1,.slice Aq2 q.rect.high.length cq2,.slice Aq3 q.point.length cq3,.int .i64 q.k],.agg #[.slice Ar0 r.low.length cr0,.slice Ar1 r.high.length cr1]] w (fun e_ w2_=>e_ = .returned (.bool (matchQ q r)) ∧ Below w.heap.size w w2_):=by
  refine fnc (X:=X5 26 w) (l:=[(0,.agg #[.int .i64 q.kind,.slice Aq1 q.rect.low.length cq1,.slice Aq2 q.rect.high.length cq2,.slice Aq3 q.point.length cq3,.int .i64 q.k]),(1,.agg #[.slice Ar0 r.low.length cr0,.slice Ar1 r.high.length cr1])]) Tryz.func261 rfl rfl rfl ⟨rfl,rfl,trivial⟩ (s0d hr (s0d hq (s0n w))).1 ?_
  refine sq (rg (bx rfl rfl rfl rfl ?_))
  intro b1
  refine bx rfl rfl rfl rfl ?_
  intro b2
  refine rn ik 17 [1,0] rfl ?_
  by_cases h3 : q.kind = (1 : Int)
  · refine r1_ ik 6 [1,1,0,0,0] rfl (beq_iff_eq.2 h3) ?_
    refine gd 3 kQueryS_p1_2 rfl (cs':=[.slice Aq1 q.rect.low.length cq1,.slice Aq2 q.rect.high.length cq2]) rfl fun s4 w_ rs4 us4=>?_
    refine cs_ (v:=.bool (meetsR q.rect r)) (by kernel_rfl) rfl rfl rfl (fun w_ hs_=>impl_meets w_ (hs_.at 0 rfl) (hs_.at 3 rfl) (yFq.rect (by omega)) yFr) (rn ik 6 [] rfl (ret1 rfl rfl (fun w_ hs_=>⟨?_,hs_.below⟩)))
    simp [matchQ,h3]
  · refine r1_ ik 7 [0] rfl (beq_eq_false_iff_ne.2 h3) ?_
    by_cases h5 : q.kind = (2 : Int)
    · refine r1_ ik 6 [1,1,0,0,0] rfl (beq_iff_eq.2 h5) ?_
      refine gd 3 kQueryS_p1_2 rfl (cs':=[.slice Aq1 q.rect.low.length cq1,.slice Aq2 q.rect.high.length cq2]) rfl fun s6 w_ rs6 us6=>?_
      refine cs_ (v:=.bool (coversR q.rect r)) (by kernel_rfl) rfl rfl rfl (fun w_ hs_=>impl_covers w_ (hs_.at 0 rfl) (hs_.at 3 rfl) (yFq.rect (by omega)) yFr) (rn ik 6 [] rfl (ret1 rfl rfl (fun w_ hs_=>⟨?_,hs_.below⟩)))
      simp [matchQ,h3,h5]
    · refine r1_ ik 7 [0] rfl (beq_eq_false_iff_ne.2 h5) ?_
      by_cases h7 : q.kind = (3 : Int)
      · refine r1_ ik 6 [1,0,0,1,0] rfl (beq_iff_eq.2 h7) ?_
        refine gd 3 kQueryS_p3_1 rfl (cs':=[.slice Aq3 q.point.length cq3]) rfl fun s8 w_ rs8 us8=>?_
        have Ls8:=Kd.sl_len rs8; have Cs8:=Kd.sl_cap rs8
        refine cs_ (v:=.int .i64 (distR r q.point)) (by kernel_rfl) rfl rfl rfl (fun w_ hs_=>impl_distance w_ (hs_.at 3 rfl) (hs_.at 0 rfl) hd yFr (yFq.pt (by omega))) (rn ik 7 [] rfl (ret1 rfl rfl (fun w_ hs_=>⟨?_,hs_.below⟩)))
        simp [matchQ,h3,h5,h7]
      · refine r1_ ik 10 [0] rfl (beq_eq_false_iff_ne.2 h7) (ret1 rfl rfl (fun w_ hs_=>⟨?_,hs_.below⟩))
        simp [matchQ,h3,h5,h7]
theorem spec_l2Matches (w : World) {q : Query} (hq : (ptr kQueryS pq [.int .i64 q.kind,.slice Aq1 q.rect.low.length cq1,.slice Aq2 q.rect.high.length cq2,.slice Aq3 q.point.length cq3,.int .i64 q.k] q sq_).P w) {r : Rect} (hr : (ptr kRectS pr [.slice Ar0 r.low.length cr0,.slice Ar1 r.high.length cr1] r sr_).P w) {d : Nat} (hd : d ≤ 3) (yFq : FitQ d q) (yFr : FitR d r) : Calls Tryz.prog 245 #[.pointer (some pq),.pointer (some pr)] w (fun e_ w2_=>e_ = .returned (.bool (matchQ q r)) ∧ Below w.heap.size w w2_):=by
  refine fnc (X:=X5 32 w) (l:=[(0,.pointer (some pq)),(1,.pointer (some pr))]) Tryz.func245 rfl rfl rfl ⟨rfl,rfl,trivial⟩ (s0p hr (s0p hq (s0n w))).1 ?_
  refine rn ik 21 [1,1] rfl ?_
  by_cases h1 : q.kind = (1 : Int)
  · refine r1_ ik 7 [1] rfl (beq_iff_eq.2 h1) ?_
    refine gq 1 kQueryS_p1_2 rfl (cs':=[.slice Aq1 q.rect.low.length cq1,.slice Aq2 q.rect.high.length cq2]) rfl fun s2 w_ rs2 us2=>?_
    refine cs_ (v:=.bool (meetsR q.rect r)) (by kernel_rfl) rfl rfl rfl (fun w_ hs_=>spec_l1Meets w_ (hs_.at 0 rfl) (hs_.at 1 rfl) (yFq.rect (by omega)) yFr) (rn ik 6 [] rfl (ret1 rfl rfl (fun w_ hs_=>⟨?_,hs_.below⟩)))
    simp [matchQ,h1]
  · refine r1_ ik 7 [0] rfl (beq_eq_false_iff_ne.2 h1) ?_
    by_cases h3 : q.kind = (2 : Int)
    · refine r1_ ik 7 [1] rfl (beq_iff_eq.2 h3) ?_
      refine gq 1 kQueryS_p1_2 rfl (cs':=[.slice Aq1 q.rect.low.length cq1,.slice Aq2 q.rect.high.length cq2]) rfl fun s4 w_ rs4 us4=>?_
      refine cs_ (v:=.bool (coversR q.rect r)) (by kernel_rfl) rfl rfl rfl (fun w_ hs_=>spec_l1Covers w_ (hs_.at 0 rfl) (hs_.at 1 rfl) (yFq.rect (by omega)) yFr) (rn ik 6 [] rfl (ret1 rfl rfl (fun w_ hs_=>⟨?_,hs_.below⟩)))
      simp [matchQ,h1,h3]
    · refine r1_ ik 7 [0] rfl (beq_eq_false_iff_ne.2 h3) ?_
      by_cases h5 : q.kind = (3 : Int)
      · refine r1_ ik 8 [1,1,4] rfl (beq_iff_eq.2 h5) ?_
        refine gp 1 kQueryS_p3_1 rfl (cs':=[.slice Aq3 q.point.length cq3]) rfl fun s6 w_ rs6 us6=>?_
        have Ls6:=Kd.sl_len rs6; have Cs6:=Kd.sl_cap rs6
        refine cs_ (v:=.int .i64 (distR r q.point)) (by kernel_rfl) rfl rfl rfl (fun w_ hs_=>spec_l1Dist w_ (hs_.at 1 rfl) (hs_.at 0 rfl) hd yFr (yFq.pt (by omega))) (rn ik 7 [] rfl (ret1 rfl rfl (fun w_ hs_=>⟨?_,hs_.below⟩)))
        simp [matchQ,h1,h3,h5]
      · refine r1_ ik 10 [0] rfl (beq_eq_false_iff_ne.2 h5) (ret1 rfl rfl (fun w_ hs_=>⟨?_,hs_.below⟩))
        simp [matchQ,h1,h3,h5]
section
section
theorem bors {α γ : Type} {da db : Kd α} {dc : Kd γ} {off : Nat} {g : α → γ} {w : World} {cs cs2 : List Value} {x : α} {oo ss : List Nat} {C : Prop} (hS : Kd.Seals da db) (hsub : Kd.Sub db off dc g) (hc : (cs.drop off).take dc.sz = cs2) (hr : da.Rel w cs x oo ss) (h : ∀ s',dc.Rel w cs2 (g x) [] s' → C) : C:=by
  obtain ⟨s1,-,h1⟩:=hS.2 w cs x oo ss hr
  obtain ⟨s2,-,h2⟩:=hsub w cs x s1 h1
  rw [hc] at h2
  exact h s2 h2
theorem own2_of_tag {α : Type} {da db : Kd α} {e : TypeId} (hS : Kd.Seals da db) (hp : db.Pure) {P : Program} {f : FuncId} {vs : Array Value} {w : World} {A : Option Addr} {c : Nat} {xs x' : List α} {x : α} {cs : List Value} {o1 s1 o2 s2 : List Nat} (g : List (Tg α) → Tg α → List (Tg α))
    (hst : St (nul w) w [dat (Kd.row e da) [.slice A xs.length c] xs o1 s1,dat da cs x o2 s2])
    (hcall : ∀ (ts : List (Tg α)) (t : Tg α) (s3 s4 : List Nat),ts.map (·.1) = xs → t.1 = x → (Kd.sl db.tag).Rel w [.slice A ts.length c] ts [] s3 → db.tag.Rel w cs t [] s4 → Calls P f vs w (Made (Kd.row e db.tag) w (g ts t) (s3 ++ s4)))
    (hg : ∀ ts t,(g ts t).Perm (ts ++ [t])) (hx : ∀ ts t,ts.map (·.1) = xs → t.1 = x → (g ts t).map (·.1) = x') : Calls P f vs w (MadeO (Kd.row e da) w (o1 ++ o2) x' (s1 ++ s2)):=by
  have hr : (Kd.row e da).Rel w [.slice A xs.length c] xs o1 s1:=hst.at 0 rfl
  have hq : da.Rel w cs x o2 s2:=hst.at 1 rfl
  have hu : o1.Nodup ∧ ∀ b ∈ o1,b ∉ s1:=hst.uniq (dat (Kd.row e da) [.slice A xs.length c] xs o1 s1) (by simp)
  have hv : o2.Nodup ∧ ∀ b ∈ o2,b ∉ s2:=hst.uniq (dat da cs x o2 s2) (by simp)
  have hap : Apart (dat (Kd.row e da) [.slice A xs.length c] xs o1 s1) (dat da cs x o2 s2):=(List.pairwise_cons.1 hst.sep).1 _ (by simp)
  have hl1 : ∀ b,b ∈ o1 ∨ b ∈ s1 → b < w.heap.size:=fun b hb=>(Kd.row e da).lt hr b hb
  have hl2 : ∀ b,b ∈ o2 ∨ b ∈ s2 → b < w.heap.size:=fun b hb=>da.lt hq b hb
  obtain ⟨ts,bs,s',h1,h2,h3,h4,h5,h6⟩:=row_tags hS hr
  have hnd : bs.Nodup ∧ (ts.flatMap (·.2.2.1)).Nodup ∧ ∀ b ∈ bs,b ∉ ts.flatMap (·.2.2.1):=by
    have:=hu.1; rw [h2,List.nodup_append] at this
    exact ⟨this.1,this.2.1,fun b hb hb'=>this.2.2 b hb b hb' rfl⟩
  have hfo : ∀ b ∈ ts.flatMap (·.2.2.1),b ∈ o1:=fun b hb=>by rw [h2]; exact List.mem_append_right _ hb
  obtain ⟨s3,m3,r3⟩:=(Kd.Seals.row (da:=db.tag) (db:=db.tag) ⟨rfl,fun w cs x o s h=>⟨s,fun b hb=>.inr hb,by have ho : o = []:=hp.tag _ _ _ _ _ h; subst ho; exact h⟩⟩ e).2 w _ ts bs s' h6
  obtain ⟨s4,m4,r4⟩:=hS.2 w cs x o2 s2 hq
  let t : Tg α:=(x,cs,o2,s2)
  have hcm:=hcall ts t s3 s4 h1 rfl r3 ⟨rfl,r4⟩
  refine hcm.mono ?_
  rintro en w' ⟨hb,ds,oo,ss,rfl,hP,hnew,hon,hos,hse⟩
  have hpm:=hg ts t
  have hmem : ∀ u ∈ g ts t,u ∈ ts ∨ u = t:=fun u hu=>by
    rcases List.mem_append.1 (hpm.subset hu) with h | h
    · exact .inl h
    · simp at h; exact .inr h
  have hsame : ∀ b,b < w.heap.size → w'.heap[b]? = w.heap[b]?:=fun b hlt=>hb.block b hlt
  have hk : ∀ u ∈ g ts t,da.Rel w' u.2.1 u.1 u.2.2.1 u.2.2.2:=fun u hu=>by
    have hru : da.Rel w u.2.1 u.1 u.2.2.1 u.2.2.2:=by
      rcases hmem u hu with h | rfl
      · exact h4 u h
      · exact hq
    exact da.keep (fun b hb'=>hsame b (da.lt hru b (.inl hb'))) (fun b hb'=>hsame b (da.lt hru b (.inr hb'))) hru
  have hfl : ((g ts t).flatMap (·.2.2.1)).Perm (ts.flatMap (·.2.2.1) ++ o2):=by
    have:=(hpm.map (fun u : Tg α=>u.2.2.1)).flatten
    rw [← List.flatMap_def,← List.flatMap_def,List.flatMap_append] at this
    simpa using this
  have hfs : ((g ts t).flatMap (·.2.2.2)).Perm (ts.flatMap (·.2.2.2) ++ s2):=by
    have:=(hpm.map (fun u : Tg α=>u.2.2.2)).flatten
    rw [← List.flatMap_def,← List.flatMap_def,List.flatMap_append] at this
    simpa using this
  have hfmem : ∀ b ∈ (g ts t).flatMap (·.2.2.1),b ∈ o1 ∨ b ∈ o2:=fun b hb'=>(List.mem_append.1 (hfl.subset hb')).imp_left (hfo b)
  have hsmem : ∀ b ∈ (g ts t).flatMap (·.2.2.2),b ∈ s1 ∨ b ∈ s2:=fun b hb'=>(List.mem_append.1 (hfs.subset hb')).imp_left (fun h=>by rw [h3]; exact h)
  have hflnd : ((g ts t).flatMap (·.2.2.1)).Nodup:=hfl.nodup_iff.2 (List.nodup_append.2 ⟨hnd.2.1,hv.1,fun b hb' b2 hb2 e=>(hap.1 b (hfo b hb')).1 (e ▸ hb2)⟩)
  have hold : ∀ b ∈ (g ts t).flatMap (·.2.2.1),b < w.heap.size:=fun b hb'=>(hfmem b hb').elim (fun h=>hl1 b (.inl h)) (fun h=>hl2 b (.inl h))
  have hsold : ∀ b ∈ (g ts t).flatMap (·.2.2.2),b < w.heap.size:=fun b hb'=>(hsmem b hb').elim (fun h=>hl1 b (.inr h)) (fun h=>hl2 b (.inr h))
  have hos2 : ∀ b ∈ (g ts t).flatMap (·.2.2.1),b ∉ (g ts t).flatMap (·.2.2.2):=fun b hb' hs'=>by
    rcases hfmem b hb' with h | h <;> rcases hsmem b hs' with k | k
    · exact hu.2 b h k
    · exact (hap.1 b h).2 k
    · exact hap.2 b h k
    · exact hv.2 b h k
  have done : ∃ o3 : List Nat,(Kd.row e da).Rel w' ds ((g ts t).map (·.1)) o3 ((g ts t).flatMap (·.2.2.2)) ∧ (∀ b ∈ o3,b ∈ o1 ++ o2 ∨ w.heap.size ≤ b) ∧ o3.Nodup ∧ ∀ b ∈ o3,b ∉ (g ts t).flatMap (·.2.2.2):=by
    rcases hP with ⟨hgn,rfl,rfl,hc⟩ | ⟨b,c',cur,o',hc,rfl,hbb,h7,h8,h9,he⟩
    · rw [hgn]; exact ⟨[],.inl ⟨rfl,rfl,rfl,hc⟩,by simp,by simp,by simp⟩
    · have hbn:=hnew b (by simp)
      have hsz : da.sz = db.sz:=hS.1
      refine ⟨b :: (g ts t).flatMap (·.2.2.1),.inr ⟨b,c',cur,_,by rw [List.length_map]; exact hc,rfl,hbb,by rw [List.length_map]; exact h7,⟨h8.1,by rw [List.length_map]; exact h8.2⟩,h9.trans (by rw [hsz]; rfl),?_⟩,?_,?_,?_⟩
      · rw [List.length_map,hsz]; exact he.untag hk
      · intro q hq'
        rcases List.mem_cons.1 hq' with rfl | hq'
        · exact .inr hbn
        · exact .inl (List.mem_append.2 (hfmem q hq'))
      · exact List.nodup_cons.2 ⟨fun hq'=>by have:=hold b hq'; omega,hflnd⟩
      · intro q hq' hq2
        rcases List.mem_cons.1 hq' with rfl | hq'
        · have:=hsold _ hq2; omega
        · exact hos2 q hq' hq2
  obtain ⟨o3,d1,d2,d3,d4⟩:=done
  rw [← hx ts t h1 rfl]
  refine ⟨ds,o3,(g ts t).flatMap (·.2.2.2),rfl,.of_below hb _,?_,?_,?_,?_,by simp⟩
  · intro B hB; simp at hB; subst hB; exact d1
  · intro B hB b hb; simp at hB; subst hB; exact d2 b hb
  · intro B hB b hb; simp at hB; subst hB; exact .inl (List.mem_append.2 (hsmem b hb))
  · intro B hB; simp at hB; subst hB; exact ⟨d3,d4⟩
end
section
variable {α : Type} {dk : Kd α} {X : Cx} {o : Oper} {l : List (Nat × Value)} {G : List Asn} {ops : Array Oper} {Q : Exit → Act → World → Prop} {r : List Oper} {d : Nat} {K : Act → World → Prop}
theorem co2 {x : α} {S : List Nat} {A0 A1 : Asn} {f : FuncId} {args : List Operand} {ts : Array TypeId} {vs : List Value} (hE : enters X.P f = true)
    (ho : o.op = .call { callee:=.value (.func f),args:=args.toArray,argTypes:=ts }) (hv : evs l args = some vs) (hp : pl X.N o = some d)
    (hS : ∀ b ∈ S,∃ A ∈ A0 :: A1 :: G,b ∈ A.see) (m : Nat) (hm : ∀ w,St X.w0 w (A0 :: A1 :: G) → m ≤ w.heap.size)
    (hc : ∀ w,St X.w0 w (A0 :: A1 :: G) → Calls X.P f vs.toArray w (MadeO dk w (A0.own ++ A1.own) x S))
    (h : ∀ cs oo ss w,dk.Rel w cs x oo ss → (∀ b ∈ ss,b ∈ S ∨ m ≤ b) → SL X ops Q r ((d,valof cs) :: l) (dat dk cs x oo ss :: G)) : SL X ops Q (o :: r) l (A0 :: A1 :: G):=by
  obtain ⟨fn,h1,h2,h3⟩:=enters_spec hE
  refine clx ho h1 h2 h3 hv hp fun a w hk hs=>(hc w hs).mono ?_
  rintro e w' ⟨cs,oo,ss,rfl,hmo,hP,hoo,hss,hu,hpw⟩
  refine ⟨_,rfl,fun a' ha'=>h cs oo ss w' (hP (dat dk cs x oo ss) (by simp)) (fun b hb=>(hss (dat dk cs x oo ss) (by simp) b hb).imp_right (Nat.le_trans (hm w hs))) a' w' ha' ?_⟩
  exact hs.swap' (As:=[A0,A1]) (Bs:=[dat dk cs x oo ss]) (hmo.mono (fun b h=>by simpa [owns] using h)) hP (fun B hB b hb=>(hoo B hB b hb).imp_left (fun h=>by simpa [owns] using h)) (fun B hB b hb=>(hss B hB b hb).imp_left (hS b)) hu hpw
theorem pool2 {da : Kd α} {ts us : List (Tg α)} (h : SK X K l (pool da (ts ++ us) :: G)) : SK X K l (pool da ts :: pool da us :: G):=fun a w hk hs=>by
  have h1 : ∀ t ∈ ts,da.Rel w t.2.1 t.1 t.2.2.1 t.2.2.2:=hs.at 0 rfl
  have h2 : ∀ t ∈ us,da.Rel w t.2.1 t.1 t.2.2.1 t.2.2.2:=hs.at 1 rfl
  obtain ⟨hsep,htl⟩:=List.pairwise_cons.1 hs.sep
  obtain ⟨hsep2,-⟩:=List.pairwise_cons.1 htl
  refine h a w hk (hs.tail.tail.cons (fun t ht=>(List.mem_append.1 ht).elim (h1 t) (h2 t)) (by simp [pool]) ⟨by simp [pool],by simp [pool]⟩ (fun B hB=>⟨by simp [pool],fun b hb hb'=>?_⟩))
  have p1 : Apart (pool da ts) B:=hsep B (List.mem_cons_of_mem _ hB)
  have p2 : Apart (pool da us) B:=hsep2 B hB
  have q1:=p1.2 b hb
  have q2:=p2.2 b hb
  simp only [pool,List.flatMap_append,List.mem_append] at hb' q1 q2
  rcases hb' with (hb' | hb') | (hb' | hb')
  · exact q1 (.inl hb')
  · exact q2 (.inl hb')
  · exact q1 (.inr hb')
  · exact q2 (.inr hb')
theorem gtagx {e : TypeId} {da db : Kd α} {A : Option Addr} {c n : Nat} {xs : List α} {o s : List Nat} (hS : Kd.Seals da db) (hn : n = xs.length)
    (h : ∀ (ts : List (Tg α)) (bs s' : List Nat),ts.map (·.1) = xs → (∀ b ∈ ts.flatMap (·.2.2.1),X.w0.heap.size ≤ b) → (ts.flatMap (·.2.2.1)).Nodup → s = ts.flatMap (·.2.2.2) → (∀ t ∈ ts,∀ b ∈ t.2.2.1,∀ t' ∈ ts,b ∉ t'.2.2.2) → (∀ b ∈ s',b ∈ ts.flatMap (·.2.2.1) ∨ b ∈ s) → (∀ b ∈ ts.flatMap (·.2.2.1),b ∈ o) → SK X K l (dat (Kd.row e db.tag) [.slice A n c] ts bs s' :: pool da ts :: G)) :
    SK X K l (dat (Kd.row e da) [.slice A n c] xs o s :: G):=fun a w hk hs=>by
  subst hn
  have hr : (Kd.row e da).Rel w [.slice A xs.length c] xs o s:=hs.at 0 rfl
  have hu0:=hs.uniq _ (List.mem_cons_self ..)
  have hu : o.Nodup ∧ ∀ b ∈ o,b ∉ s:=hu0
  have hnew : ∀ b ∈ o,X.w0.heap.size ≤ b:=hs.new _ (List.mem_cons_self ..)
  obtain ⟨hsep,htl⟩:=List.pairwise_cons.1 hs.sep
  obtain ⟨ts,bs,s',h1,h2,h3,h4,h5,h6⟩:=row_tags hS hr
  rw [show ts.length = xs.length by rw [← h1,List.length_map]] at h6
  have hnd : bs.Nodup ∧ (ts.flatMap (·.2.2.1)).Nodup ∧ ∀ b ∈ bs,b ∉ ts.flatMap (·.2.2.1):=by
    have:=hu.1; rw [h2,List.nodup_append] at this
    exact ⟨this.1,this.2.1,fun b hb hb'=>this.2.2 b hb b hb' rfl⟩
  have hbo : ∀ b ∈ bs,b ∈ o:=fun b hb=>by rw [h2]; exact List.mem_append_left _ hb
  have hfo : ∀ b ∈ ts.flatMap (·.2.2.1),b ∈ o:=fun b hb=>by rw [h2]; exact List.mem_append_right _ hb
  have hpool : ∀ B ∈ G,Apart (pool da ts) B:=fun B hB=>⟨fun b hb=>by simp [pool] at hb,fun b hb hb'=>by
    have hA : Apart (dat (Kd.row e da) [.slice A xs.length c] xs o s) B:=hsep B hB
    rcases List.mem_append.1 hb' with hb' | hb'
    · exact (hA.1 b (hfo b hb')).1 hb
    · rw [← h3] at hb'; exact hA.2 b hb hb'⟩
  have hst1 : St X.w0 w (pool da ts :: G):=hs.tail.cons h4 (fun b hb=>by simp [pool] at hb) ⟨by simp [pool],fun b hb=>by simp [pool] at hb⟩ hpool
  refine h ts bs s' h1 (fun b hb=>hnew b (hfo b hb)) hnd.2.1 h3 (fun t ht b hb t' ht' hb'=>hu.2 b (hfo b (List.mem_flatMap.2 ⟨t,ht,hb⟩)) (by rw [h3]; exact List.mem_flatMap.2 ⟨t',ht',hb'⟩)) h5 hfo a w hk (hst1.cons h6 (fun b hb=>hnew b (hbo b hb)) ⟨hnd.1,fun b hb hb'=>?_⟩ (fun B hB=>?_))
  · rcases h5 b hb' with h | h
    · exact hnd.2.2 b hb h
    · exact hu.2 b (hbo b hb) h
  · rcases List.mem_cons.1 hB with rfl | hB
    · refine ⟨fun b hb=>⟨by simp [pool],fun hb'=>?_⟩,fun b hb=>by simp [pool] at hb⟩
      rcases List.mem_append.1 hb' with hb' | hb'
      · exact hnd.2.2 b hb hb'
      · rw [← h3] at hb'; exact hu.2 b (hbo b hb) hb'
    · have hA : Apart (dat (Kd.row e da) [.slice A xs.length c] xs o s) B:=hsep B hB
      refine ⟨fun b hb=>hA.1 b (hbo b hb),fun b hb hb'=>?_⟩
      rcases h5 b hb' with h | h
      · exact (hA.1 b (hfo b h)).1 hb
      · exact hA.2 b hb h
theorem gap {B : Asn} {dd : Kd α} {cs : List Value} {x : α} {o s : List Nat} (k : Nat) (hk : G[k]? = some B) (h : (∀ b ∈ o,b ∉ B.see) → SK X K l (dat dd cs x o s :: G)) : SK X K l (dat dd cs x o s :: G):=fun a w hk' hs=>by
  have hA : Apart (dat dd cs x o s) B:=(List.pairwise_cons.1 hs.sep).1 _ (List.mem_of_getElem? hk)
  exact h (fun b hb=>(hA.1 b hb).2) a w hk' hs
end
def Kd.NoSee {α : Type} (d : Kd α) : Prop := ∀ w cs x o s, d.Rel w cs x o s → s = []
section
variable {α β : Type}
theorem Kd.NoSee.i64 : Kd.i64.NoSee:=fun _ _ _ _ _ h=>h.2.2
theorem Kd.NoSee.bool : Kd.bool.NoSee:=fun _ _ _ _ _ h=>h.2.2
theorem Kd.NoSee.elems {d : Kd α} (hd : d.NoSee) {w : World} {cs : List Value} {xs : List α} {o s : List Nat} (h : Kd.Elems d w cs xs o s) : s = []:=by
  induction h with
  | nil=>rfl
  | cons hr _ ih=>rw [hd _ _ _ _ _ hr,ih]; rfl
theorem Kd.NoSee.row {d : Kd α} (hd : d.NoSee) (e : TypeId) : (Kd.row e d).NoSee:=fun w cs xs o s h=>by
  rcases h with ⟨-,-,h,-⟩ | ⟨b,c,cur,o',-,-,-,-,-,-,he⟩
  · exact h
  · exact hd.elems he
theorem Kd.NoSee.via {d : Kd β} (hd : d.NoSee) (g : α → β) : (d.via g).NoSee:=fun w cs x o s h=>hd w cs (g x) o s h
theorem Kd.NoSee.cat {a b : Kd α} (ha : a.NoSee) (hb : b.NoSee) : (a.cat b).NoSee:=by
  rintro w cs x o s ⟨c1,c2,o1,o2,s1,s2,rfl,rfl,rfl,h1,h2⟩
  rw [ha _ _ _ _ _ h1,hb _ _ _ _ _ h2]; rfl
theorem gnos {X : Cx} {l : List (Nat × Value)} {G : List Asn} {K : Act → World → Prop} {d : Kd α} {cs : List Value} {x : α} {o s : List Nat} (hd : d.NoSee) (h : s = [] → SK X K l (dat d cs x o [] :: G)) : SK X K l (dat d cs x o s :: G):=fun a w hk hs=>by
  have hr : d.Rel w cs x o s:=hs.at 0 rfl
  have e:=hd w cs x o s hr
  subst e
  exact h rfl a w hk hs
end
theorem St.ptrOf {α : Type} {w0 w : World} {A0 : Asn} {d : Kd α} {b off : Nat} {ty : TypeId} {cs cs' : List Value} {x : α} {s : List Nat} (h : St w0 w [A0,blk b cs ty,dat d cs' x [] s]) (hc : (cs.drop off).take cs'.length = cs') : St w0 w [A0,ptr d ⟨b,off,none⟩ cs' x s]:=by
  have h1 : (blk b cs ty).P w:=h.at 1 rfl
  have h2 : d.Rel w cs' x [] s:=h.at 2 rfl
  have s0:=(List.pairwise_cons.1 h.sep).1
  have a1 : Apart A0 (blk b cs ty):=s0 _ (by simp)
  have a2 : Apart A0 (dat d cs' x [] s):=s0 _ (by simp)
  have hp : (ptr d ⟨b,off,none⟩ cs' x s).P w:=ptr_blk h1 h2 hc
  refine (((St.nil h.below).cons hp (by simp [ptr]) ⟨by simp [ptr],by simp [ptr]⟩ (by simp)).cons (h.holds A0 (by simp)) (h.new A0 (by simp)) (h.uniq A0 (by simp)) (fun B hB=>?_))
  rw [List.mem_singleton] at hB; subst hB
  refine ⟨fun q hq=>⟨by simp [ptr],fun hq'=>?_⟩,fun q hq=>by simp [ptr] at hq⟩
  simp only [ptr,List.mem_cons] at hq'
  rcases hq' with rfl | hq'
  · exact (a1.1 _ hq).1 (by simp [blk])
  · exact (a2.1 q hq).2 hq'
end
theorem kMarkO_nos : kMarkO.NoSee:=.cat (.via .i64 _) (.cat (.via .i64 _) (.via .i64 _))
theorem impl_clonedQuery (w : World) {q : Query} (hq : kQueryS.Rel w [.int .i64 q.kind,.slice Aq1 q.rect.low.length cq1,.slice Aq2 q.rect.high.length cq2,.slice Aq3 q.point.length cq3,.int .i64 q.k] q [] sq_) (hz : szQuery q ≤ 1048576) : Calls Tryz.prog 254 #[.agg #[.int .i64 q.kind,.slice Aq1 q.rect.low.length cq1,.slice Aq2 q.rect.high.length cq2,.slice Aq3 q.point.length cq3,.int .i64 q.k]] w (Made kQueryO w q []):=by
  have hz1:=szRect_nn q.rect; unfold szQuery at hz
  refine fnc (X:=X5 12 w) (l:=[(0,.agg #[.int .i64 q.kind,.slice Aq1 q.rect.low.length cq1,.slice Aq2 q.rect.high.length cq2,.slice Aq3 q.point.length cq3,.int .i64 q.k])]) Tryz.func254 rfl rfl rfl ⟨rfl,trivial⟩ (s0d hq (s0n w)).1 ?_
  refine sq (rg (bx rfl rfl rfl rfl ?_))
  intro b1
  refine al zero84 rfl rfl rfl ?_
  intro b2
  refine en (nx (sq ?_))
  refine gd 2 kQueryS_p1_2 rfl (cs':=[.slice Aq1 q.rect.low.length cq1,.slice Aq2 q.rect.high.length cq2]) rfl fun s3 w_ rs3 us3=>?_
  refine gd 3 kQueryS_p3_1 rfl (cs':=[.slice Aq3 q.point.length cq3]) rfl fun s8 w_ rs8 us8=>?_
  have Ls8:=Kd.sl_len rs8; have Cs8:=Kd.sl_cap rs8
  refine rx (σ:=Option Addr × Nat × Option Addr × Nat × Option Addr × Nat × List Nat × List Nat × List Nat × List Nat) (fun z_ : Option Addr × Nat × Option Addr × Nat × Option Addr × Nat × List Nat × List Nat × List Nat × List Nat=>match z_ with | (A33,c34,A35,c36,A42,c43,o44,s45,o37,s38)=>[(1,.pointer (some ⟨b1,0,none⟩)),(2,.pointer (some ⟨b2,0,none⟩))])
      (fun z_ : Option Addr × Nat × Option Addr × Nat × Option Addr × Nat × List Nat × List Nat × List Nat × List Nat=>match z_ with | (A33,c34,A35,c36,A42,c43,o44,s45,o37,s38)=>[blk b1 [.int .i64 q.kind,.slice A33 q.rect.low.length c34,.slice A35 q.rect.high.length c36,.slice A42 q.point.length c43,.int .i64 q.k] 84,dat (Kd.row 2 Kd.i64) [.slice A42 q.point.length c43] q.point o44 s45,dat kRectO [.slice A33 q.rect.low.length c34,.slice A35 q.rect.high.length c36] q.rect o37 s38,dat (Kd.sl Kd.i64) [.slice Aq3 q.point.length cq3] q.point ([]) s8,dat kRectS [.slice Aq1 q.rect.low.length cq1,.slice Aq2 q.rect.high.length cq2] q.rect ([]) s3,blk b2 [.int .i64 0,.slice none 0 0,.slice none 0 0,.slice none 0 0,.int .i64 0] 84,dat kQueryS [.int .i64 q.kind,.slice Aq1 q.rect.low.length cq1,.slice Aq2 q.rect.high.length cq2,.slice Aq3 q.point.length cq3,.int .i64 q.k] q ([]) sq_])
      (fun z_ : Option Addr × Nat × Option Addr × Nat × Option Addr × Nat × List Nat × List Nat × List Nat × List Nat=>match z_ with | (A33,c34,A35,c36,A42,c43,o44,s45,o37,s38)=>(∀ q ∈ s45,q ∈ ([] : List Nat) ∨ w.heap.size ≤ q) ∧ (∀ q ∈ s38,q ∈ ([] : List Nat) ∨ w.heap.size ≤ q) ∧ True) ?_ ?_
  · rintro ⟨A33,c34,A35,c36,A42,c43,o44,s45,o37,s38⟩ ⟨t81,t82,-⟩
    exact rn ik 4 [0,0] rfl (f5 (sto rfl rfl rfl rfl rfl rfl rfl (cs':=[.int .i64 q.kind,.slice A33 q.rect.low.length c34,.slice A35 q.rect.high.length c36,.slice A42 q.point.length c43,.int .i64 q.k]) rfl (en (nx (rt (gs Kd.i64 [.int .i64 q.k] q.k (fun _=>⟨rfl,rfl,rfl⟩) (f3 (gj (da:=(Kd.via (Kd.row 2 Kd.i64) Query.point)) (db:=(Kd.via Kd.i64 Query.k)) (x:=q) rfl (f3 (gj (da:=(Kd.via kRectO Query.rect)) (db:=((Kd.via (Kd.row 2 Kd.i64) Query.point).cat (Kd.via Kd.i64 Query.k))) (x:=q) rfl (gs Kd.i64 [.int .i64 q.kind] q.kind (fun _=>⟨rfl,rfl,rfl⟩) (gj (da:=(Kd.via Kd.i64 Query.kind)) (db:=((Kd.via kRectO Query.rect).cat ((Kd.via (Kd.row 2 Kd.i64) Query.point).cat (Kd.via Kd.i64 Query.k)))) (x:=q) rfl (retc 1 rfl rfl rfl rfl rfl rfl (fun w_ hs_=>made hs_ rfl (see_app see_nil (see_app t82 (see_app t81 see_nil)))))))))))))))))
  · refine rd (Gq:=[dat (Kd.sl Kd.i64) [.slice Aq3 q.point.length cq3] q.point ([]) s8,dat kRectS [.slice Aq1 q.rect.low.length cq1,.slice Aq2 q.rect.high.length cq2] q.rect ([]) s3,blk b2 [.int .i64 0,.slice none 0 0,.slice none 0 0,.slice none 0 0,.int .i64 0] 84,dat kQueryS [.int .i64 q.kind,.slice Aq1 q.rect.low.length cq1,.slice Aq2 q.rect.high.length cq2,.slice Aq3 q.point.length cq3,.int .i64 q.k] q ([]) sq_]) [0,0,0,1] rfl (rn ik 2 [1,4] rfl ?_)
    refine qo 1 4 [0,0,0,1] rfl rfl (by kernel_rfl) rfl ?_ ?_
    · refine vl (ldb 3 rfl rfl rfl rfl rfl rfl rfl) rfl (qn ?_)
      refine qo 2 4 [0,0,0,1] rfl rfl (by kernel_rfl) rfl ?_ ?_
      · refine cm_ (dk:=kRectO) (x:=q.rect) (S:=[]) (by kernel_rfl) rfl rfl rfl sn0 (fun w_ hs_=>by exact impl_Rect_cloned w_ (hs_.at 1 rfl) (by omega)) (fun cs_ o87 s88 w_ r89 t90=>?_)
        obtain ⟨A83,c84,A85,c86,rfl⟩:=kRectO_sh r89
        refine qn (q1 4 [1,1,1,2] rfl (by kernel_rfl) rfl (vl (ldb (u:=.slice Aq3 q.point.length cq3) 4 rfl rfl rfl rfl rfl rfl rfl) rfl (qn (qv 6 rfl (fa rfl rfl rfl) rfl (by kernel_rfl) (q1 5 [1,1,1,2] rfl (by kernel_rfl) rfl (cm_ (dk:=(Kd.row 2 Kd.i64)) (x:=q.point) (S:=[]) (by kernel_rfl) rfl rfl rfl sn0 (fun w_ hs_=>by exact slices_Clone_int64_int64 w_ (hs_.at 1 rfl) (by omega)) (fun cs_ o94 s95 w_ r96 t97=>?_)))))))
        obtain ⟨A92,c93,rfl⟩:=Kd.row_sh r96
        exact qn (q1 7 [2,2,2,3] rfl (by kernel_rfl) rfl (f5 (sto rfl rfl rfl rfl rfl rfl rfl (cs':=[.int .i64 q.kind,.slice A83 q.rect.low.length c84,.slice A85 q.rect.high.length c86,.slice Aq3 q.point.length cq3,.int .i64 q.k]) rfl (qn (qv 8 rfl (fa rfl rfl rfl) rfl (by kernel_rfl) (q1 9 [3,3,3,3] rfl (by kernel_rfl) rfl (sto rfl rfl rfl rfl rfl rfl rfl (cs':=[.int .i64 q.kind,.slice A83 q.rect.low.length c84,.slice A85 q.rect.high.length c86,.slice A92 q.point.length c93,.int .i64 q.k]) rfl (qn (qe [3,3,3,3] (by kernel_rfl) rfl (cx (A83,c84,A85,c86,A92,c93,o94,s95,o87,s88) [0,0,0,0,0,0,0] ⟨t97,t90,trivial⟩ ⟨rfl,rfl,trivial⟩ rfl))))))))))
      · refine vl (ldb (u:=.slice Aq3 q.point.length cq3) 3 rfl rfl rfl rfl rfl rfl rfl) rfl (qn (q1 2 [0,0,0,1] rfl (by kernel_rfl) rfl (cm_ (dk:=kRectO) (x:=q.rect) (S:=[]) (by kernel_rfl) rfl rfl rfl sn0 (fun w_ hs_=>by exact impl_Rect_cloned w_ (hs_.at 1 rfl) (by omega)) (fun cs_ o103 s104 w_ r105 t106=>?_))))
        obtain ⟨A99,c100,A101,c102,rfl⟩:=kRectO_sh r105
        refine qn (qv 6 rfl (fa rfl rfl rfl) rfl (by kernel_rfl) (q1 5 [1,1,1,2] rfl (by kernel_rfl) rfl (cm_ (dk:=(Kd.row 2 Kd.i64)) (x:=q.point) (S:=[]) (by kernel_rfl) rfl rfl rfl sn0 (fun w_ hs_=>by exact slices_Clone_int64_int64 w_ (hs_.at 1 rfl) (by omega)) (fun cs_ o110 s111 w_ r112 t113=>?_))))
        obtain ⟨A108,c109,rfl⟩:=Kd.row_sh r112
        exact qn (q1 7 [2,2,2,3] rfl (by kernel_rfl) rfl (f5 (sto rfl rfl rfl rfl rfl rfl rfl (cs':=[.int .i64 q.kind,.slice A99 q.rect.low.length c100,.slice A101 q.rect.high.length c102,.slice Aq3 q.point.length cq3,.int .i64 q.k]) rfl (qn (qv 8 rfl (fa rfl rfl rfl) rfl (by kernel_rfl) (q1 9 [3,3,3,3] rfl (by kernel_rfl) rfl (sto rfl rfl rfl rfl rfl rfl rfl (cs':=[.int .i64 q.kind,.slice A99 q.rect.low.length c100,.slice A101 q.rect.high.length c102,.slice A108 q.point.length c109,.int .i64 q.k]) rfl (qn (qe [3,3,3,3] (by kernel_rfl) rfl (cx (A99,c100,A101,c102,A108,c109,o110,s111,o103,s104) [0,0,0,0,0,0,0] ⟨t113,t106,trivial⟩ ⟨rfl,rfl,trivial⟩ rfl))))))))))
    · refine vl (ldb (u:=.slice Aq3 q.point.length cq3) 3 rfl rfl rfl rfl rfl rfl rfl) rfl (qn (q1 1 [0,0,0,1] rfl (by kernel_rfl) rfl (vl (ldb 3 rfl rfl rfl rfl rfl rfl rfl) rfl (qn (q1 2 [0,0,0,1] rfl (by kernel_rfl) rfl (cm_ (dk:=kRectO) (x:=q.rect) (S:=[]) (by kernel_rfl) rfl rfl rfl sn0 (fun w_ hs_=>by exact impl_Rect_cloned w_ (hs_.at 1 rfl) (by omega)) (fun cs_ o119 s120 w_ r121 t122=>?_)))))))
      obtain ⟨A115,c116,A117,c118,rfl⟩:=kRectO_sh r121
      refine qn (qv 6 rfl (fa rfl rfl rfl) rfl (by kernel_rfl) (q1 5 [1,1,1,2] rfl (by kernel_rfl) rfl (cm_ (dk:=(Kd.row 2 Kd.i64)) (x:=q.point) (S:=[]) (by kernel_rfl) rfl rfl rfl sn0 (fun w_ hs_=>by exact slices_Clone_int64_int64 w_ (hs_.at 1 rfl) (by omega)) (fun cs_ o126 s127 w_ r128 t129=>?_))))
      obtain ⟨A124,c125,rfl⟩:=Kd.row_sh r128
      exact qn (q1 7 [2,2,2,3] rfl (by kernel_rfl) rfl (f5 (sto rfl rfl rfl rfl rfl rfl rfl (cs':=[.int .i64 q.kind,.slice A115 q.rect.low.length c116,.slice A117 q.rect.high.length c118,.slice Aq3 q.point.length cq3,.int .i64 q.k]) rfl (qn (qv 8 rfl (fa rfl rfl rfl) rfl (by kernel_rfl) (q1 9 [3,3,3,3] rfl (by kernel_rfl) rfl (sto rfl rfl rfl rfl rfl rfl rfl (cs':=[.int .i64 q.kind,.slice A115 q.rect.low.length c116,.slice A117 q.rect.high.length c118,.slice A124 q.point.length c125,.int .i64 q.k]) rfl (qn (qe [3,3,3,3] (by kernel_rfl) rfl (cx (A115,c116,A117,c118,A124,c125,o126,s127,o119,s120) [0,0,0,0,0,0,0] ⟨t129,t122,trivial⟩ ⟨rfl,rfl,trivial⟩ rfl))))))))))
theorem spec_l9Query (w : World) {q : Query} (hq : (ptr kQueryS pq [.int .i64 q.kind,.slice Aq1 q.rect.low.length cq1,.slice Aq2 q.rect.high.length cq2,.slice Aq3 q.point.length cq3,.int .i64 q.k] q sq_).P w) (hz : szQuery q ≤ 1048576) : Calls Tryz.prog 243 #[.pointer (some pq)] w (Made kQueryO w q []):=by
  have hz1:=szRect_nn q.rect; unfold szQuery at hz
  refine fnc (X:=X5 19 w) (l:=[(0,.pointer (some pq))]) Tryz.func243 rfl rfl rfl ⟨rfl,trivial⟩ (s0p hq (s0n w)).1 ?_
  refine sq (rg (al zero84 rfl rfl rfl ?_))
  intro b1
  refine rn ik 7 [1,0] rfl (al zero84 rfl rfl rfl ?_)
  intro b2
  refine sto rfl rfl rfl rfl rfl rfl rfl (cs':=[.int .i64 q.kind,.slice Aq1 q.rect.low.length cq1,.slice Aq2 q.rect.high.length cq2,.slice Aq3 q.point.length cq3,.int .i64 q.k]) rfl (rn ik 7 [] rfl ?_)
  refine gq 2 kQueryS_p1_2 rfl (cs':=[.slice Aq1 q.rect.low.length cq1,.slice Aq2 q.rect.high.length cq2]) rfl fun s3 w_ rs3 us3=>?_
  refine cm_ (dk:=kRectO) (x:=q.rect) (S:=[]) (by kernel_rfl) rfl rfl rfl sn0 (fun w_ hs_=>spec_l1Copy w_ (hs_.at 0 rfl) (by omega)) (fun cs_ o8 s9 w_ r10 t11=>?_)
  obtain ⟨A4,c5,A6,c7,rfl⟩:=kRectO_sh r10
  refine vl (fa rfl rfl rfl) rfl (f2 (sto rfl rfl rfl rfl rfl rfl rfl (cs':=[.int .i64 q.kind,.slice A4 q.rect.low.length c5,.slice A6 q.rect.high.length c7,.slice Aq3 q.point.length cq3,.int .i64 q.k]) rfl (rn ik 8 [4,4] rfl ?_)))
  refine gp 4 kQueryS_p3_1 rfl (cs':=[.slice Aq3 q.point.length cq3]) rfl fun s13 w_ rs13 us13=>?_
  have Ls13:=Kd.sl_len rs13; have Cs13:=Kd.sl_cap rs13
  refine cm_ (dk:=(Kd.row 2 Kd.i64)) (x:=q.point) (S:=[]) (by kernel_rfl) rfl rfl rfl sn0 (fun w_ hs_=>spec_l1Ints w_ (hs_.at 0 rfl) (by omega)) (fun cs_ o16 s17 w_ r18 t19=>?_)
  obtain ⟨A14,c15,rfl⟩:=Kd.row_sh r18
  exact vl (fa rfl rfl rfl) rfl (f2 (sto rfl rfl rfl rfl rfl rfl rfl (cs':=[.int .i64 q.kind,.slice A4 q.rect.low.length c5,.slice A6 q.rect.high.length c7,.slice A14 q.point.length c15,.int .i64 q.k]) rfl (rn ik 5 [0,0] rfl (f5 (sto rfl rfl rfl rfl rfl rfl rfl (cs':=[.int .i64 q.kind,.slice A4 q.rect.low.length c5,.slice A6 q.rect.high.length c7,.slice A14 q.point.length c15,.int .i64 q.k]) rfl (en (nx (rt (gs Kd.i64 [.int .i64 q.k] q.k (fun _=>⟨rfl,rfl,rfl⟩) (f3 (gj (da:=(Kd.via (Kd.row 2 Kd.i64) Query.point)) (db:=(Kd.via Kd.i64 Query.k)) (x:=q) rfl (f4 (gj (da:=(Kd.via kRectO Query.rect)) (db:=((Kd.via (Kd.row 2 Kd.i64) Query.point).cat (Kd.via Kd.i64 Query.k))) (x:=q) rfl (gs Kd.i64 [.int .i64 q.kind] q.kind (fun _=>⟨rfl,rfl,rfl⟩) (gj (da:=(Kd.via Kd.i64 Query.kind)) (db:=((Kd.via kRectO Query.rect).cat ((Kd.via (Kd.row 2 Kd.i64) Query.point).cat (Kd.via Kd.i64 Query.k)))) (x:=q) rfl (retc 1 rfl rfl rfl rfl rfl rfl (fun w_ hs_=>made hs_ rfl (see_app see_nil (see_app t11 (see_app t19 see_nil))))))))))))))))))))
theorem slices_Clone_impl_Mark_impl_Mark (w : World) {As : Option Addr} {cs : Nat} {s : List Mark} {ss_ : List Nat} (hs : (Kd.sl kMarkS).Rel w [.slice As s.length cs] s [] ss_) (hz : s.length ≤ 1048576) : Calls Tryz.prog 259 #[.slice As s.length cs] w (Made (Kd.row 210 kMarkO) w s []):=by
  have Ls:=Kd.sl_len hs; have Cs:=Kd.sl_cap hs
  refine fnc (X:=X5 8 w) (l:=[(0,.slice As s.length cs)]) Tryz.func259 rfl rfl rfl ⟨rfl,trivial⟩ (s0d hs (s0n w)).1 ?_
  refine rn ik 9 [] rfl (vl (cmN rfl rfl rfl rfl) rfl (en (nx ?_)))
  by_cases h1 : As.isNone = true
  · exact r1_ ik 8 [1] rfl h1 (gs (Kd.row 210 kMarkO) [.slice none 0 0] [] (fun _=>.inl ⟨rfl,rfl,rfl,rfl⟩) (gr s (by rw [Option.isNone_iff_eq_none] at h1; subst h1; exact (Kd.sl_nil hs).symm) (ret1 rfl rfl (fun w_ hs_=>made hs_ rfl see_nil))))
  · refine r1_ ik 5 [0] rfl (Bool.eq_false_iff.2 h1) (bs0 (dk:=kMarkO) rfl info210 rfl rfl ?_)
    intro b2
    refine m_ rfl rfl ?_
    refine f1 (f1 (aps s rfl info210 rfl rfl (by decide) rfl rfl rfl rfl (by omega) (by omega) rfl (fun A3 c4 o5 s6 t7=>?_)))
    refine rn ik 4 [] rfl (gr s rfl ?_)
    refine gnos (Kd.NoSee.row kMarkO_nos _) (fun _=>?_)
    exact ret1 rfl rfl (fun w_ hs_=>made hs_ rfl see_nil)

end Go.Proofs.YtjdkfibeogiekaaGreat.Sx
