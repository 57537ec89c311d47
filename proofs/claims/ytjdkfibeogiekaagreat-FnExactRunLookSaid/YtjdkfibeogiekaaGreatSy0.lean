/- What functions of the program answer, each at every input that its row names; walked through their code. -/
import Derived.Test.YtjdkfibeogiekaaGreatSxb
import Derived.Test.YtjdkfibeogiekaaGreatProg
import Derived.KernelRfl
namespace Go.Proofs.YtjdkfibeogiekaaGreat.Sx
open Go Go.RowKit Go.Proofs
set_option linter.unusedVariables false
set_option linter.unusedSimpArgs false
set_option maxRecDepth 20000
set_option maxHeartbeats 2000000
variable {fp : FuncId} {cfp : List Value} {Aa Aa0 Aa1 Aa2 Aa3 Aa4 Ab Ab0 Ab1 Ab2 Ab3 Ap Ar0 Ar1 As : Option Addr} {sa_ sb_ sp_ sr_ ss_ : List Nat} {ca ca0 ca1 ca2 ca3 ca4 cb cb0 cb1 cb2 cb3 cp cr0 cr1 : Nat}
def tab : Tab := { size := [(2, 1, false), (22, 1, false), (24, 1, false), (36, 1, false), (37, 1, false), (38, 1, false), (40, 4, true), (52, 4, true), (63, 1, false), (64, 1, false), (66, 4, true), (70, 2, true), (80, 8, true), (82, 2, true), (95, 4, true), (102, 4, true), (133, 2, true), (260, 4, true), (262, 2, true)], off := [((40, 0), 0), ((40, 1), 1), ((40, 2), 2), ((40, 3), 3), ((52, 0), 0), ((52, 1), 1), ((52, 2), 2), ((52, 3), 3), ((66, 0), 0), ((66, 1), 1), ((66, 2), 2), ((66, 3), 3), ((68, 0), 0), ((68, 1), 1), ((68, 2), 5), ((68, 3), 6), ((68, 4), 7), ((70, 0), 0), ((70, 1), 1), ((80, 0), 0), ((80, 1), 1), ((80, 2), 5), ((80, 3), 6), ((80, 4), 7), ((82, 0), 0), ((82, 1), 1), ((95, 0), 0), ((95, 1), 2), ((95, 2), 3), ((102, 0), 0), ((102, 1), 2), ((102, 2), 3), ((133, 0), 0), ((133, 1), 1), ((260, 0), 0), ((260, 1), 1), ((260, 2), 2), ((260, 3), 3), ((262, 0), 0), ((262, 1), 1)], elem := [(22, 95), (24, 102), (36, 52), (37, 2), (38, 133), (63, 260), (64, 262)] }
theorem tab_ok : tab.check Tryz.prog = true:=by kernel_rfl
theorem wide : Tryz.prog.follows .mixedOrders = true:=by kernel_rfl
noncomputable abbrev X (N : Nat) (w : World) : Cx := ⟨Tryz.prog, tab, tab_ok, wide, N, w, none, []⟩
theorem zero40 : (Tryz.prog.info? 40).bind (·.zero) = some (.agg #[.int .i64 0,.slice none 0 0,.slice none 0 0,.slice none 0 0]):=by kernel_rfl
theorem zero52 : (Tryz.prog.info? 52).bind (·.zero) = some (.agg #[.int .i64 0,.int .i64 0,.int .i64 0,.slice none 0 0]):=by kernel_rfl
theorem zero80 : (Tryz.prog.info? 80).bind (·.zero) = some (.agg #[.int .i64 0,.int .i64 0,.slice none 0 0,.slice none 0 0,.slice none 0 0,.int .i64 0,.int .i64 0,.int .i64 0]):=by kernel_rfl
theorem zero82 : (Tryz.prog.info? 82).bind (·.zero) = some (.agg #[.slice none 0 0,.slice none 0 0]):=by kernel_rfl
theorem zero102 : (Tryz.prog.info? 102).bind (·.zero) = some (.agg #[.slice none 0 0,.slice none 0 0,.int .i64 0,.int .i64 0]):=by kernel_rfl
theorem zero133 : (Tryz.prog.info? 133).bind (·.zero) = some (.agg #[.int .i64 0,.slice none 0 0]):=by kernel_rfl
theorem info2 : (Tryz.prog.info? 2).map (fun i=>(i.zero,i.size,i.bytes)) = some (some (.int .i64 0),1,8):=by kernel_rfl
theorem info52 : (Tryz.prog.info? 52).map (fun i=>(i.zero,i.size,i.bytes)) = some (some (.agg #[.int .i64 0,.int .i64 0,.int .i64 0,.slice none 0 0]),4,48):=by kernel_rfl
theorem info102 : (Tryz.prog.info? 102).map (fun i=>(i.zero,i.size,i.bytes)) = some (some (.agg #[.slice none 0 0,.slice none 0 0,.int .i64 0,.int .i64 0]),4,64):=by kernel_rfl
theorem info133 : (Tryz.prog.info? 133).map (fun i=>(i.zero,i.size,i.bytes)) = some (some (.agg #[.int .i64 0,.slice none 0 0]),2,32):=by kernel_rfl
theorem bld82 : bld Tryz.prog 82 = some ([(0,1),(1,1)],[.slice none 0 0,.slice none 0 0]):=by kernel_rfl

structure Rect where
  low : List Int
  high : List Int
  deriving DecidableEq
def kRectS : Kd Rect := (((Kd.sl Kd.i64).via Rect.low).cat ((Kd.sl Kd.i64).via Rect.high))
theorem kRectS_sh {w : World} {cs : List Value} {x : Rect} {o s : List Nat} (h : kRectS.Rel w cs x o s) : ∃ (A0 : Option Addr) (c0 : Nat) (A1 : Option Addr) (c1 : Nat),cs = [.slice A0 x.low.length c0,.slice A1 x.high.length c1]:=by
  obtain ⟨c10,c20,o10,o20,s10,s20,rfl,rfl,rfl,h0,k0⟩:=h
  obtain ⟨-,A0_,c0_,rfl,-⟩:=h0
  obtain ⟨-,A1_,c1_,rfl,-⟩:=k0
  exact ⟨_,_,_,_,rfl⟩
theorem kRectS_p0_1 : Kd.Sub kRectS 0 (Kd.sl Kd.i64) (fun x=>x.low):=(Kd.Sub.left (Kd.Sub.rfl.via Rect.low) _ (by decide))
theorem kRectS_p1_1 : Kd.Sub kRectS 1 (Kd.sl Kd.i64) (fun x=>x.high):=(Kd.Sub.right (Kd.Sub.rfl.via Rect.high) _)
theorem kRectS_self : Kd.Seals kRectS kRectS:=(Kd.Seals.cat (Kd.Seals.via Kd.Seals.refl_sl _) (Kd.Seals.via Kd.Seals.refl_sl _))
theorem kRectS_pure : Kd.Pure kRectS:=(Kd.Pure.cat (Kd.Pure.via (Kd.Pure.sl _) _) (Kd.Pure.via (Kd.Pure.sl _) _))
def kRectO : Kd Rect := (((Kd.row 2 Kd.i64).via Rect.low).cat ((Kd.row 2 Kd.i64).via Rect.high))
theorem kRectO_sh {w : World} {cs : List Value} {x : Rect} {o s : List Nat} (h : kRectO.Rel w cs x o s) : ∃ (A0 : Option Addr) (c0 : Nat) (A1 : Option Addr) (c1 : Nat),cs = [.slice A0 x.low.length c0,.slice A1 x.high.length c1]:=by
  obtain ⟨c10,c20,o10,o20,s10,s20,rfl,rfl,rfl,h0,k0⟩:=h
  obtain ⟨A0_,c0_,rfl⟩:=Kd.row_sh h0
  obtain ⟨A1_,c1_,rfl⟩:=Kd.row_sh k0
  exact ⟨_,_,_,_,rfl⟩
theorem kRectO_seal : Kd.Seals kRectO kRectS:=(Kd.Seals.cat (Kd.Seals.via (Kd.Seals.row Kd.Seals.i64 _) _) (Kd.Seals.via (Kd.Seals.row Kd.Seals.i64 _) _))
theorem Rect_eq (a b : Rect) : decide (a = b) = (decide (a.low = b.low) && decide (a.high = b.high)):=by
  cases a; cases b; rw [Bool.eq_iff_iff]; simp [and_assoc]
def within (n low high : Int) : Bool := decide (low ≤ n ∧ n ≤ high)
theorem within_t {n low high : Int} (h : within n low high = true) : low ≤ n ∧ n ≤ high:=of_decide_eq_true h
def isDims (d : Int) : Bool := within d 2 3
theorem impl_within (w : World) (n : Int) (low : Int) (high : Int)  : Calls Tryz.prog 83 #[.int .i64 n,.int .i64 low,.int .i64 high] w (fun e_ w2_=>e_ = .returned (.bool (within n low high)) ∧ Below w.heap.size w w2_):=by
  refine fnc (X:=X 15 w) (l:=[(0,.int .i64 n),(1,.int .i64 low),(2,.int .i64 high)]) Tryz.func83 rfl rfl rfl ⟨rfl,rfl,rfl,trivial⟩ (s0n w).1 ?_
  refine rn ik 11 [] rfl ?_
  by_cases h1 : low ≤ n
  · refine r4_ ik 8 [1,1,1,1] rfl (decide_eq_true h1) (decide_eq_true h1) (decide_eq_true h1) (decide_eq_true h1) (ret1 rfl rfl (fun w_ hs_=>⟨?_,hs_.below⟩))
    simp [within,h1]
  · refine r4_ ik 8 [0,0,0,0] rfl (decide_eq_false h1) (decide_eq_false h1) (decide_eq_false h1) (decide_eq_false h1) (ret1 rfl rfl (fun w_ hs_=>⟨?_,hs_.below⟩))
    simp [within,h1]
theorem spec_l1In (w : World) (n : Int) (low : Int) (high : Int)  : Calls Tryz.prog 49 #[.int .i64 n,.int .i64 low,.int .i64 high] w (fun e_ w2_=>e_ = .returned (.bool (within n low high)) ∧ Below w.heap.size w w2_):=by
  refine fnc (X:=X 15 w) (l:=[(0,.int .i64 n),(1,.int .i64 low),(2,.int .i64 high)]) Tryz.func49 rfl rfl rfl ⟨rfl,rfl,rfl,trivial⟩ (s0n w).1 ?_
  refine rn ik 11 [] rfl ?_
  by_cases h1 : low ≤ n
  · refine r4_ ik 8 [1,1,1,1] rfl (decide_eq_true h1) (decide_eq_true h1) (decide_eq_true h1) (decide_eq_true h1) (ret1 rfl rfl (fun w_ hs_=>⟨?_,hs_.below⟩))
    simp [within,h1]
  · refine r4_ ik 8 [0,0,0,0] rfl (decide_eq_false h1) (decide_eq_false h1) (decide_eq_false h1) (decide_eq_false h1) (ret1 rfl rfl (fun w_ hs_=>⟨?_,hs_.below⟩))
    simp [within,h1]
theorem impl_isDims (w : World) (dims : Int)  : Calls Tryz.prog 82 #[.int .i64 dims] w (fun e_ w2_=>e_ = .returned (.bool (isDims dims)) ∧ Below w.heap.size w w2_):=by
  refine fnc (X:=X 5 w) (l:=[(0,.int .i64 dims)]) Tryz.func82 rfl rfl rfl ⟨rfl,trivial⟩ (s0n w).1 ?_
  refine rn ik 8 [] rfl (cs_ (v:=.bool (within dims 2 3)) (by kernel_rfl) rfl rfl rfl (fun w_ hs_=>impl_within w_ _ _ _) (rn ik 4 [] rfl (ret1 rfl rfl (fun w_ hs_=>⟨?_,hs_.below⟩))))
  rfl
theorem slices_IndexFunc_int64_int64 (w : World) (p : Int → Bool) (hEp : enters Tryz.prog fp = true) {cs : Nat} {s : List Int} (hs : (Kd.sl Kd.i64).Rel w [.slice As s.length cs] s [] ss_) (hfp : ∀ (w1 : World) (x0 : Int),x0 ∈ s → Below w.heap.size w w1 → Calls Tryz.prog fp (([.int .i64 x0] : List Value) ++ cfp).toArray w1 (fun e_ w2_=>e_ = .returned (.bool (p x0)) ∧ Below w1.heap.size w1 w2_))  : Calls Tryz.prog 227 #[.slice As s.length cs,.func (.func fp) #[] cfp.toArray] w (fun e_ w2_=>e_ = .returned (.int .i64 (idx p s)) ∧ Below w.heap.size w w2_):=by
  have Ls:=Kd.sl_len hs; have Cs:=Kd.sl_cap hs
  refine fnc (X:=X 19 w) (l:=[(0,.slice As s.length cs),(1,.func (.func fp) #[] cfp.toArray)]) Tryz.func227 rfl rfl rfl ⟨rfl,rfl,trivial⟩ (s0d hs (s0n w)).1 ?_
  refine rn ik 14 [] rfl ?_
  refine lp (σ:=Nat) (fun k : Nat=>[(0,.slice As s.length cs),(1,.func (.func fp) #[] cfp.toArray),(7,.int .i64 ((s.length : Nat) : Int)),(8,.int .i64 ((k : Nat) : Int))])
      (fun k : Nat=>[dat (Kd.sl Kd.i64) [.slice As s.length cs] s ([]) ss_])
      (fun k : Nat=>k ≤ s.length ∧ ∀ j x,j < k → s[j]? = some x → p x = false) (fun k : Nat=>s.length - k) 0 [0] ⟨Nat.zero_le _,by simp⟩ ⟨rfl,rfl,rfl,rfl,trivial⟩ rfl ?_
  intro k hp_
  obtain ⟨hk,hinv⟩:=hp_
  refine rn ik 6 [] rfl ?_
  by_cases h1 : ((k : Nat) : Int) < ((s.length : Nat) : Int)
  · refine r1_ ik 16 [1] rfl (decide_eq_true h1) ?_
    refine gx 0 k rfl (by omega) fun y7 p2 cs_ s3 w6 m8 e4 r5 us3=>?_
    obtain ⟨rfl,-,-⟩:=r5
    refine vl (ix k e4 rfl rfl rfl rfl rfl (by omega)) rfl (vl (ldq (u:=.int .i64 y7) 0 rfl rfl rfl rfl rfl rfl rfl) rfl (cv_ (v:=.bool (p y7)) hEp rfl rfl rfl rfl (fun w_ hs_=>hfp w_ y7 (List.mem_of_getElem? m8) hs_.below  ) (en (nx ?_))))
    by_cases h9 : p y7 = true
    · refine r1_ ik 13 [1] rfl h9 (ret1 rfl rfl (fun w_ hs_=>⟨?_,hs_.below⟩))
      rw [idx_some hinv m8 h9]
    · exact r1_ ik 5 [0] rfl (Bool.eq_false_iff.2 h9) (vl (ra (c:=((k + 1 : Nat) : Int)) rfl rfl rfl (by omega) (by omega) (by omega)) rfl (rn ik 2 [] rfl (lpe (s:=k) (k + 1) [1] ⟨by omega,idx_step hinv m8 (Bool.eq_false_iff.2 h9)⟩ (by omega) ⟨rfl,rfl,rfl,rfl,trivial⟩ rfl)))
  · refine r1_ ik 12 [0] rfl (decide_eq_false h1) (ret1 rfl rfl (fun w_ hs_=>⟨?_,hs_.below⟩))
    rw [idx_none hinv (by omega)]
theorem slices_ContainsFunc_int64_int64 (w : World) (p : Int → Bool) (hEp : enters Tryz.prog fp = true) {cs : Nat} {s : List Int} (hs : (Kd.sl Kd.i64).Rel w [.slice As s.length cs] s [] ss_) (hfp : ∀ (w1 : World) (x0 : Int),x0 ∈ s → Below w.heap.size w w1 → Calls Tryz.prog fp (([.int .i64 x0] : List Value) ++ cfp).toArray w1 (fun e_ w2_=>e_ = .returned (.bool (p x0)) ∧ Below w1.heap.size w1 w2_))  : Calls Tryz.prog 140 #[.slice As s.length cs,.func (.func fp) #[] cfp.toArray] w (fun e_ w2_=>e_ = .returned (.bool (List.any s p)) ∧ Below w.heap.size w w2_):=by
  have Ls:=Kd.sl_len hs; have Cs:=Kd.sl_cap hs
  refine fnc (X:=X 9 w) (l:=[(0,.slice As s.length cs),(1,.func (.func fp) #[] cfp.toArray)]) Tryz.func140 rfl rfl rfl ⟨rfl,rfl,trivial⟩ (s0d hs (s0n w)).1 ?_
  refine rn ik 9 [] rfl (cs_ (v:=.int .i64 (idx p s)) (by kernel_rfl) rfl rfl rfl (fun w_ hs_=>slices_IndexFunc_int64_int64 w_ p hEp (hs_.at 0 rfl) (fun w1 x0 m0_ b_=>hfp w1 x0 m0_ (hs_.below.trans (b_.mono hs_.below.size)))) (rn ik 5 [] rfl (ret1 rfl rfl (fun w_ hs_=>⟨?_,hs_.below⟩))))
  rw [idx_ge]
theorem impl_PointFault_1 (w : World) (n : Int)  : Calls Tryz.prog 280 #[.int .i64 n] w (fun e_ w2_=>e_ = .returned (.bool (!within n (-1000) 1000)) ∧ Below w.heap.size w w2_):=by
  refine fnc (X:=X 6 w) (l:=[(0,.int .i64 n)]) Tryz.func280 rfl rfl rfl ⟨rfl,trivial⟩ (s0n w).1 ?_
  refine rn ik 8 [] rfl (cs_ (v:=.bool (within n (-1000) 1000)) (by kernel_rfl) rfl rfl rfl (fun w_ hs_=>impl_within w_ _ _ _) (rn ik 5 [] rfl (ret1 rfl rfl (fun w_ hs_=>⟨?_,hs_.below⟩))))
  rfl
def pointFault (p : List Int) (dims : Int) : Int := if isDims dims = true then if (p.length : Int) = dims then if p.any (fun n => !within n (-1000) 1000) = true then 3 else 0 else 2 else 3
theorem pointFault_len {p : List Int} {d : Int} (h : pointFault p d = 0) : (p.length : Int) = d:=by
  unfold pointFault at h
  split at h
  · split at h
    · assumption
    · simp at h
  · simp at h
def rectBad (lo hi : List Int) : Bool := (lo.zip hi).any (fun q => decide (q.2 < q.1))
theorem rectBad_t {lo hi : List Int} {k : Nat} {a b : Int} (ha : lo[k]? = some a) (hb : hi[k]? = some b) (h : b < a) : rectBad lo hi = true :=
  any_some (k:=k) (y:=(a,b)) (by rw [List.getElem?_zip_eq_some]; exact ⟨ha,hb⟩) (by simpa using h)
theorem rectBad_f {lo hi : List Int} {k : Nat} (h : ∀ j a b,j < k → lo[j]? = some a → hi[j]? = some b → a ≤ b) (hk : lo.length ≤ k) : rectBad lo hi = false :=
  any_none (k:=k) (fun j x hj hx=>by
    obtain ⟨h1,h2⟩:=List.getElem?_zip_eq_some.1 hx
    have:=h j _ _ hj h1 h2
    simp; omega) (by simp; omega)
theorem rectStep {lo hi : List Int} {k : Nat} {x y : Int} (h : ∀ j a b,j < k → lo[j]? = some a → hi[j]? = some b → a ≤ b) (hx : lo[k]? = some x) (hy : hi[k]? = some y) (hn : ¬ y < x) : ∀ j a b,j < k + 1 → lo[j]? = some a → hi[j]? = some b → a ≤ b:=fun j a b hj ha hb=>by
  rcases Nat.lt_succ_iff_lt_or_eq.1 hj with hlt | rfl
  · exact h j a b hlt ha hb
  · rw [hx] at ha; rw [hy] at hb; cases ha; cases hb; omega
def rectFault (r : Rect) (dims : Int) : Int := if pointFault r.low dims = 0 then if pointFault r.high dims = 0 then if rectBad r.low r.high = true then 1 else 0 else pointFault r.high dims else pointFault r.low dims
theorem impl_PointFault (w : World) (dims : Int) {p : List Int} (hp : (Kd.sl Kd.i64).Rel w [.slice Ap p.length cp] p [] sp_)  : Calls Tryz.prog 230 #[.slice Ap p.length cp,.int .i64 dims] w (fun e_ w2_=>e_ = .returned (.int .i64 (pointFault p dims)) ∧ Below w.heap.size w w2_):=by
  have Lp:=Kd.sl_len hp; have Cp:=Kd.sl_cap hp
  refine fnc (X:=X 17 w) (l:=[(0,.slice Ap p.length cp),(1,.int .i64 dims)]) Tryz.func230 rfl rfl rfl ⟨rfl,rfl,trivial⟩ (s0d hp (s0n w)).1 ?_
  refine rn ik 10 [] rfl (cs_ (v:=.bool (isDims dims)) (by kernel_rfl) rfl rfl rfl (fun w_ hs_=>impl_isDims w_ _) (rn ik 4 [] rfl ?_))
  by_cases h1 : isDims dims = true
  · refine r1_ ik 10 [0] rfl (not_f h1) ?_
    by_cases h2 : ((p.length : Nat) : Int) = dims
    · refine r1_ ik 4 [0] rfl (bne_eq_false_iff_eq.2 h2) (cs_ (v:=.bool (List.any p (fun (x0 : Int)=>!within x0 (-1000) 1000))) (by kernel_rfl) rfl rfl rfl (fun w_ hs_=>slices_ContainsFunc_int64_int64 w_ (fun (x0 : Int)=>!within x0 (-1000) 1000) (by kernel_rfl) (hs_.at 0 rfl) (fun w1 x0 m0_ b_ =>impl_PointFault_1 w1 x0 )) (rn ik 3 [] rfl ?_))
      by_cases h3 : List.any p (fun (x0 : Int)=>!within x0 (-1000) 1000) = true
      · refine r1_ ik 9 [1] rfl h3 (ret1 rfl rfl (fun w_ hs_=>⟨?_,hs_.below⟩))
        simp [pointFault,h1,h2,h3]
      · refine r1_ ik 10 [0] rfl (Bool.eq_false_iff.2 h3) (ret1 rfl rfl (fun w_ hs_=>⟨?_,hs_.below⟩))
        simp [pointFault,h1,h2,h3]
    · refine r1_ ik 9 [1] rfl (bne_iff_ne.2 h2) (ret1 rfl rfl (fun w_ hs_=>⟨?_,hs_.below⟩))
      simp [pointFault,h1,h2]
  · refine r1_ ik 9 [1] rfl (not_t (Bool.eq_false_iff.2 h1)) (ret1 rfl rfl (fun w_ hs_=>⟨?_,hs_.below⟩))
    simp [pointFault,h1]
theorem spec_PointFault (w : World) (dims : Int) {p : List Int} (hp : (Kd.sl Kd.i64).Rel w [.slice Ap p.length cp] p [] sp_)  : Calls Tryz.prog 242 #[.slice Ap p.length cp,.int .i64 dims] w (fun e_ w2_=>e_ = .returned (.int .i64 (pointFault p dims)) ∧ Below w.heap.size w w2_):=by
  have Lp:=Kd.sl_len hp; have Cp:=Kd.sl_cap hp
  refine fnc (X:=X 25 w) (l:=[(0,.slice Ap p.length cp),(1,.int .i64 dims)]) Tryz.func242 rfl rfl rfl ⟨rfl,rfl,trivial⟩ (s0d hp (s0n w)).1 ?_
  refine rn ik 9 [] rfl (cs_ (v:=.bool (within dims 2 3)) (by kernel_rfl) rfl rfl rfl (fun w_ hs_=>spec_l1In w_ _ _ _) (rn ik 3 [] rfl ?_))
  by_cases h1 : within dims 2 3 = true
  · refine r1_ ik 12 [0] rfl (not_f h1) ?_
    by_cases h2 : ((p.length : Nat) : Int) = dims
    · refine r1_ ik 10 [0] rfl (bne_eq_false_iff_eq.2 h2) ?_
      refine lp (σ:=Nat) (fun k : Nat=>[(0,.slice Ap p.length cp),(5,.int .i64 ((k : Nat) : Int))])
          (fun k : Nat=>[dat (Kd.sl Kd.i64) [.slice Ap p.length cp] p ([]) sp_])
          (fun k : Nat=>k ≤ p.length ∧ ∀ j x,j < k → p[j]? = some x → (!within x (-1000) 1000) = false) (fun k : Nat=>p.length - k) 0 [0] ⟨Nat.zero_le _,by simp⟩ ⟨rfl,rfl,trivial⟩ rfl ?_
      intro k hp_
      obtain ⟨hk,hinv⟩:=hp_
      refine rn ik 9 [] rfl ?_
      by_cases h3 : ((k : Nat) : Int) < ((p.length : Nat) : Int)
      · refine r1_ ik 9 [1] rfl (decide_eq_true h3) ?_
        refine gx 0 k rfl (by omega) fun y9 p4 cs_ s5 w8 m10 e6 r7 us5=>?_
        obtain ⟨rfl,-,-⟩:=r7
        refine vl (ix k e6 rfl rfl rfl rfl rfl (by omega)) rfl (vl (ldq (u:=.int .i64 y9) 0 rfl rfl rfl rfl rfl rfl rfl) rfl (cs_ (v:=.bool (within y9 (-1000) 1000)) (by kernel_rfl) rfl rfl rfl (fun w_ hs_=>spec_l1In w_ _ _ _) (rn ik 3 [] rfl ?_)))
        by_cases h11 : within y9 (-1000) 1000 = true
        · exact r1_ ik 6 [0] rfl (not_f h11) (vl (ra (c:=((k + 1 : Nat) : Int)) rfl rfl rfl (by omega) (by omega) (by omega)) rfl (rn ik 2 [] rfl (lpe (s:=k) (k + 1) [1] ⟨by omega,idx_step hinv m10 (not_f h11)⟩ (by omega) ⟨rfl,rfl,trivial⟩ rfl)))
        · refine r1_ ik 12 [1] rfl (not_t (Bool.eq_false_iff.2 h11)) (ret1 rfl rfl (fun w_ hs_=>⟨?_,hs_.below⟩))
          simp [pointFault,h1,h2,h3,any_some (p:=fun n=>!within n (-1000) 1000) m10 (not_t (Bool.eq_false_iff.2 h11))]
      · refine r1_ ik 12 [0] rfl (decide_eq_false h3) (ret1 rfl rfl (fun w_ hs_=>⟨?_,hs_.below⟩))
        simp [pointFault,h1,h2,h3,isDims,any_none (p:=fun n=>!within n (-1000) 1000) hinv (by omega)]
    · refine r1_ ik 8 [1] rfl (bne_iff_ne.2 h2) (ret1 rfl rfl (fun w_ hs_=>⟨?_,hs_.below⟩))
      simp [pointFault,isDims,h1,h2]
  · refine r1_ ik 8 [1] rfl (not_t (Bool.eq_false_iff.2 h1)) (ret1 rfl rfl (fun w_ hs_=>⟨?_,hs_.below⟩))
    simp [pointFault,isDims,h1]
theorem impl_RectFault (w : World) (dims : Int) {r : Rect} (hr : kRectS.Rel w [.slice Ar0 r.low.length cr0,.slice Ar1 r.high.length cr1] r [] sr_)  : Calls Tryz.prog 153 #[.agg #[.slice Ar0 r.low.length cr0,.slice Ar1 r.high.length cr1],.int .i64 dims] w (fun e_ w2_=>e_ = .returned (.int .i64 (rectFault r dims)) ∧ Below w.heap.size w w2_):=by
  refine fnc (X:=X 39 w) (l:=[(0,.agg #[.slice Ar0 r.low.length cr0,.slice Ar1 r.high.length cr1]),(1,.int .i64 dims)]) Tryz.func153 rfl rfl rfl ⟨rfl,rfl,trivial⟩ (s0d hr (s0n w)).1 ?_
  refine sq (rg (bx rfl rfl rfl rfl ?_))
  intro b1
  refine rn ik 9 [0,0] rfl ?_
  refine gd 1 kRectS_p0_1 rfl (cs':=[.slice Ar0 r.low.length cr0]) rfl fun s2 w_ rs2 us2=>?_
  have Ls2:=Kd.sl_len rs2; have Cs2:=Kd.sl_cap rs2
  refine cs_ (v:=.int .i64 (pointFault r.low dims)) (by kernel_rfl) rfl rfl rfl (fun w_ hs_=>impl_PointFault w_ _ (hs_.at 0 rfl)) (rn ik 9 [] rfl ?_)
  by_cases h3 : (pointFault r.low dims) = (0 : Int)
  · have eh3:=pointFault_len h3
    refine r1_ ik 9 [0,1,0] rfl (bne_eq_false_iff_eq.2 h3) ?_
    refine gd 2 kRectS_p1_1 rfl (cs':=[.slice Ar1 r.high.length cr1]) rfl fun s4 w_ rs4 us4=>?_
    have Ls4:=Kd.sl_len rs4; have Cs4:=Kd.sl_cap rs4
    refine cs_ (v:=.int .i64 (pointFault r.high dims)) (by kernel_rfl) rfl rfl rfl (fun w_ hs_=>impl_PointFault w_ _ (hs_.at 0 rfl)) (rn ik 9 [] rfl ?_)
    by_cases h5 : (pointFault r.high dims) = (0 : Int)
    · have eh5:=pointFault_len h5
      refine r1_ ik 13 [0,2,0] rfl (bne_eq_false_iff_eq.2 h5) ?_
      refine lp (σ:=Nat) (fun k : Nat=>[(2,.pointer (some ⟨b1,0,none⟩)),(24,.slice Ar0 r.low.length cr0),(25,.int .i64 ((r.low.length : Nat) : Int)),(26,.int .i64 ((k : Nat) : Int))])
          (fun k : Nat=>[dat (Kd.sl Kd.i64) [.slice Ar1 r.high.length cr1] r.high ([]) s4,dat (Kd.sl Kd.i64) [.slice Ar0 r.low.length cr0] r.low ([]) s2,blk b1 [.slice Ar0 r.low.length cr0,.slice Ar1 r.high.length cr1] 82,dat kRectS [.slice Ar0 r.low.length cr0,.slice Ar1 r.high.length cr1] r ([]) sr_])
          (fun k : Nat=>k ≤ r.low.length ∧ ∀ j a b,j < k → r.low[j]? = some a → r.high[j]? = some b → a ≤ b) (fun k : Nat=>r.low.length - k) 0 [0,0,0,0] ⟨Nat.zero_le _,by simp⟩ ⟨rfl,rfl,rfl,rfl,trivial⟩ rfl ?_
      intro k hp_
      obtain ⟨hk,hinv⟩:=hp_
      refine rn ik 6 [] rfl ?_
      by_cases h6 : ((k : Nat) : Int) < ((r.low.length : Nat) : Int)
      · refine r1_ ik 8 [1] rfl (decide_eq_true h6) ?_
        refine gx 1 k rfl (by omega) fun y12 p7 cs_ s8 w11 m13 e9 r10 us8=>?_
        obtain ⟨rfl,-,-⟩:=r10
        refine vl (ix k e9 rfl rfl rfl rfl rfl (by omega)) rfl (rn ik 11 [0,0,3,0] rfl ?_)
        refine gx 1 k rfl (by omega) fun y19 p14 cs_ s15 w18 m20 e16 r17 us15=>?_
        obtain ⟨rfl,-,-⟩:=r17
        refine vl (ix k e16 rfl rfl rfl rfl rfl (by omega)) rfl (rn ik 4 [0,0] rfl ?_)
        by_cases h21 : y19 < y12
        · refine r1_ ik 12 [1] rfl (decide_eq_true h21) (ret1 rfl rfl (fun w_ hs_=>⟨?_,hs_.below⟩))
          simp [rectFault,h3,h5,rectBad_t m13 m20 h21]
        · exact r1_ ik 5 [0] rfl (decide_eq_false h21) (vl (ra (c:=((k + 1 : Nat) : Int)) rfl rfl rfl (by omega) (by omega) (by omega)) rfl (rn ik 2 [] rfl (lpe (s:=k) (k + 1) [2,2,2,2] ⟨by omega,rectStep hinv m13 m20 h21⟩ (by omega) ⟨rfl,rfl,rfl,rfl,trivial⟩ rfl)))
      · refine r1_ ik 12 [0] rfl (decide_eq_false h6) (ret1 rfl rfl (fun w_ hs_=>⟨?_,hs_.below⟩))
        simp [rectFault,h3,h5,rectBad_f hinv (by omega)]
    · refine r1_ ik 9 [1] rfl (bne_iff_ne.2 h5) (ret1 rfl rfl (fun w_ hs_=>⟨?_,hs_.below⟩))
      simp [rectFault,h3,h5]
  · refine r1_ ik 9 [1] rfl (bne_iff_ne.2 h3) (ret1 rfl rfl (fun w_ hs_=>⟨?_,hs_.below⟩))
    simp [rectFault,h3]
theorem spec_RectFault (w : World) (dims : Int) {r : Rect} (hr : kRectS.Rel w [.slice Ar0 r.low.length cr0,.slice Ar1 r.high.length cr1] r [] sr_)  : Calls Tryz.prog 237 #[.agg #[.slice Ar0 r.low.length cr0,.slice Ar1 r.high.length cr1],.int .i64 dims] w (fun e_ w2_=>e_ = .returned (.int .i64 (rectFault r dims)) ∧ Below w.heap.size w w2_):=by
  refine fnc (X:=X 40 w) (l:=[(0,.agg #[.slice Ar0 r.low.length cr0,.slice Ar1 r.high.length cr1]),(1,.int .i64 dims)]) Tryz.func237 rfl rfl rfl ⟨rfl,rfl,trivial⟩ (s0d hr (s0n w)).1 ?_
  refine sq (rg (bx rfl rfl rfl rfl ?_))
  intro b1
  refine rn ik 9 [0,0] rfl ?_
  refine gd 1 kRectS_p0_1 rfl (cs':=[.slice Ar0 r.low.length cr0]) rfl fun s2 w_ rs2 us2=>?_
  have Ls2:=Kd.sl_len rs2; have Cs2:=Kd.sl_cap rs2
  refine cs_ (v:=.int .i64 (pointFault r.low dims)) (by kernel_rfl) rfl rfl rfl (fun w_ hs_=>spec_PointFault w_ _ (hs_.at 0 rfl)) (rn ik 9 [] rfl ?_)
  by_cases h3 : (pointFault r.low dims) = (0 : Int)
  · have eh3:=pointFault_len h3
    refine r1_ ik 9 [0,1,0] rfl (bne_eq_false_iff_eq.2 h3) ?_
    refine gd 2 kRectS_p1_1 rfl (cs':=[.slice Ar1 r.high.length cr1]) rfl fun s4 w_ rs4 us4=>?_
    have Ls4:=Kd.sl_len rs4; have Cs4:=Kd.sl_cap rs4
    refine cs_ (v:=.int .i64 (pointFault r.high dims)) (by kernel_rfl) rfl rfl rfl (fun w_ hs_=>spec_PointFault w_ _ (hs_.at 0 rfl)) (rn ik 9 [] rfl ?_)
    by_cases h5 : (pointFault r.high dims) = (0 : Int)
    · have eh5:=pointFault_len h5
      refine r1_ ik 10 [0] rfl (bne_eq_false_iff_eq.2 h5) ?_
      refine lp (σ:=Nat) (fun k : Nat=>[(2,.pointer (some ⟨b1,0,none⟩)),(7,.int .i64 ((k : Nat) : Int))])
          (fun k : Nat=>[dat (Kd.sl Kd.i64) [.slice Ar1 r.high.length cr1] r.high ([]) s4,dat (Kd.sl Kd.i64) [.slice Ar0 r.low.length cr0] r.low ([]) s2,blk b1 [.slice Ar0 r.low.length cr0,.slice Ar1 r.high.length cr1] 82,dat kRectS [.slice Ar0 r.low.length cr0,.slice Ar1 r.high.length cr1] r ([]) sr_])
          (fun k : Nat=>k ≤ r.low.length ∧ ∀ j a b,j < k → r.low[j]? = some a → r.high[j]? = some b → a ≤ b) (fun k : Nat=>r.low.length - k) 0 [0,0,0,0] ⟨Nat.zero_le _,by simp⟩ ⟨rfl,rfl,trivial⟩ rfl ?_
      intro k hp_
      obtain ⟨hk,hinv⟩:=hp_
      refine rn ik 10 [2,0] rfl ?_
      by_cases h6 : ((k : Nat) : Int) < ((r.low.length : Nat) : Int)
      · refine r1_ ik 6 [1] rfl (decide_eq_true h6) ?_
        refine gx 1 k rfl (by omega) fun y12 p7 cs_ s8 w11 m13 e9 r10 us8=>?_
        obtain ⟨rfl,-,-⟩:=r10
        refine gx 1 k rfl (by omega) fun y19 p14 cs_ s15 w18 m20 e16 r17 us15=>?_
        obtain ⟨rfl,-,-⟩:=r17
        refine rn ik 4 [1,2,4,0,3] rfl (qv 3 rfl (ix k e9 rfl rfl rfl rfl rfl (by omega)) rfl (by kernel_rfl) (rn ik 4 [5,1,0,6,7,4,0,8] rfl (qv 8 rfl (ix k e16 rfl rfl rfl rfl rfl (by omega)) rfl (by kernel_rfl) (r1_ ik 4 [10,0,0,11,0] rfl ⟨[0,0,0,0,0,0],rfl⟩ ?_))))
        by_cases h21 : y19 < y12
        · refine r1_ ik 12 [1] rfl (decide_eq_true h21) (ret1 rfl rfl (fun w_ hs_=>⟨?_,hs_.below⟩))
          simp [rectFault,h3,h5,rectBad_t m13 m20 h21]
        · exact r1_ ik 6 [0] rfl (decide_eq_false h21) (vl (ra (c:=((k + 1 : Nat) : Int)) rfl rfl rfl (by omega) (by omega) (by omega)) rfl (rn ik 2 [] rfl (lpe (s:=k) (k + 1) [2,2,2,2] ⟨by omega,rectStep hinv m13 m20 h21⟩ (by omega) ⟨rfl,rfl,trivial⟩ rfl)))
      · refine r1_ ik 12 [0] rfl (decide_eq_false h6) (ret1 rfl rfl (fun w_ hs_=>⟨?_,hs_.below⟩))
        simp [rectFault,h3,h5,rectBad_f hinv (by omega)]
    · refine r1_ ik 9 [1] rfl (bne_iff_ne.2 h5) (ret1 rfl rfl (fun w_ hs_=>⟨?_,hs_.below⟩))
      simp [rectFault,h3,h5]
  · refine r1_ ik 9 [1] rfl (bne_iff_ne.2 h3) (ret1 rfl rfl (fun w_ hs_=>⟨?_,hs_.below⟩))
    simp [rectFault,h3]
theorem laws_eqInt64S (w : World) {a : List Int} (ha : (Kd.sl Kd.i64).Rel w [.slice Aa a.length ca] a [] sa_) {b : List Int} (hb : (Kd.sl Kd.i64).Rel w [.slice Ab b.length cb] b [] sb_)  : Calls Tryz.prog 125 #[.slice Aa a.length ca,.slice Ab b.length cb] w (fun e_ w2_=>e_ = .returned (.bool (decide (a = b))) ∧ Below w.heap.size w w2_):=by
  have La:=Kd.sl_len ha; have Ca:=Kd.sl_cap ha
  have Lb:=Kd.sl_len hb; have Cb:=Kd.sl_cap hb
  refine fnc (X:=X 26 w) (l:=[(0,.slice Aa a.length ca),(1,.slice Ab b.length cb)]) Tryz.func125 rfl rfl rfl ⟨rfl,rfl,trivial⟩ (s0d hb (s0d ha (s0n w))).1 ?_
  refine rn ik 15 [] rfl ?_
  by_cases h1 : ((a.length : Nat) : Int) = ((b.length : Nat) : Int)
  · refine r1_ ik 10 [0] rfl (bne_eq_false_iff_eq.2 h1) ?_
    refine lp (σ:=Nat) (fun k : Nat=>[(0,.slice Aa a.length ca),(1,.slice Ab b.length cb),(5,.int .i64 ((k : Nat) : Int))])
        (fun k : Nat=>[dat (Kd.sl Kd.i64) [.slice Ab b.length cb] b ([]) sb_,dat (Kd.sl Kd.i64) [.slice Aa a.length ca] a ([]) sa_])
        (fun k : Nat=>k ≤ a.length ∧ ∀ j x y,j < k → a[j]? = some x → b[j]? = some y → x = y) (fun k : Nat=>a.length - k) 0 [0,0] ⟨Nat.zero_le _,by simp⟩ ⟨rfl,rfl,rfl,trivial⟩ rfl ?_
    intro k hp_
    obtain ⟨hk,hinv⟩:=hp_
    refine rn ik 9 [] rfl ?_
    by_cases h2 : ((k : Nat) : Int) < ((a.length : Nat) : Int)
    · refine r1_ ik 6 [1] rfl (decide_eq_true h2) ?_
      refine gx 1 k rfl (by omega) fun y8 p3 cs_ s4 w7 m9 e5 r6 us4=>?_
      obtain ⟨rfl,-,-⟩:=r6
      refine gx 1 k rfl (by omega) fun y15 p10 cs_ s11 w14 m16 e12 r13 us11=>?_
      obtain ⟨rfl,-,-⟩:=r13
      refine rn ik 3 [1,2] rfl (qv 2 rfl (ix k e5 rfl rfl rfl rfl rfl (by omega)) rfl (by kernel_rfl) (rn ik 3 [4,1,0,5,6] rfl (qv 6 rfl (ix k e12 rfl rfl rfl rfl rfl (by omega)) rfl (by kernel_rfl) (r1_ ik 4 [8,0,0,9,0] rfl ⟨[0,0,0,0],rfl⟩ ?_))))
      by_cases h17 : y8 = y15
      · exact r1_ ik 6 [0] rfl (bne_eq_false_iff_eq.2 h17) (vl (ra (c:=((k + 1 : Nat) : Int)) rfl rfl rfl (by omega) (by omega) (by omega)) rfl (rn ik 2 [] rfl (lpe (s:=k) (k + 1) [2,2] ⟨by omega,eq_step hinv m9 m16 (by simpa using h17)⟩ (by omega) ⟨rfl,rfl,rfl,trivial⟩ rfl)))
      · refine r1_ ik 12 [1] rfl (bne_iff_ne.2 h17) (ret1 rfl rfl (fun w_ hs_=>⟨?_,hs_.below⟩))
        exact rb (eqS_f m9 m16 (by simpa using h17)).symm
    · refine r1_ ik 12 [0] rfl (decide_eq_false h2) (ret1 rfl rfl (fun w_ hs_=>⟨?_,hs_.below⟩))
      exact rb (eqS_t (by omega) hinv (by omega)).symm
  · refine r1_ ik 8 [1] rfl (bne_iff_ne.2 h1) (ret1 rfl rfl (fun w_ hs_=>⟨?_,hs_.below⟩))
    exact rb (by rw [eq_comm,decide_eq_false_iff_not]; rintro rfl; exact h1 rfl)
theorem spec_l1Same (w : World) {a : List Int} (ha : (Kd.sl Kd.i64).Rel w [.slice Aa a.length ca] a [] sa_) {b : List Int} (hb : (Kd.sl Kd.i64).Rel w [.slice Ab b.length cb] b [] sb_)  : Calls Tryz.prog 107 #[.slice Aa a.length ca,.slice Ab b.length cb] w (fun e_ w2_=>e_ = .returned (.bool (decide (a = b))) ∧ Below w.heap.size w w2_):=by
  have La:=Kd.sl_len ha; have Ca:=Kd.sl_cap ha
  have Lb:=Kd.sl_len hb; have Cb:=Kd.sl_cap hb
  refine fnc (X:=X 26 w) (l:=[(0,.slice Aa a.length ca),(1,.slice Ab b.length cb)]) Tryz.func107 rfl rfl rfl ⟨rfl,rfl,trivial⟩ (s0d hb (s0d ha (s0n w))).1 ?_
  refine rn ik 15 [] rfl ?_
  by_cases h1 : ((a.length : Nat) : Int) = ((b.length : Nat) : Int)
  · refine r1_ ik 10 [0] rfl (bne_eq_false_iff_eq.2 h1) ?_
    refine lp (σ:=Nat) (fun k : Nat=>[(0,.slice Aa a.length ca),(1,.slice Ab b.length cb),(5,.int .i64 ((k : Nat) : Int))])
        (fun k : Nat=>[dat (Kd.sl Kd.i64) [.slice Ab b.length cb] b ([]) sb_,dat (Kd.sl Kd.i64) [.slice Aa a.length ca] a ([]) sa_])
        (fun k : Nat=>k ≤ a.length ∧ ∀ j x y,j < k → a[j]? = some x → b[j]? = some y → x = y) (fun k : Nat=>a.length - k) 0 [0,0] ⟨Nat.zero_le _,by simp⟩ ⟨rfl,rfl,rfl,trivial⟩ rfl ?_
    intro k hp_
    obtain ⟨hk,hinv⟩:=hp_
    refine rn ik 9 [] rfl ?_
    by_cases h2 : ((k : Nat) : Int) < ((a.length : Nat) : Int)
    · refine r1_ ik 6 [1] rfl (decide_eq_true h2) ?_
      refine gx 1 k rfl (by omega) fun y8 p3 cs_ s4 w7 m9 e5 r6 us4=>?_
      obtain ⟨rfl,-,-⟩:=r6
      refine gx 1 k rfl (by omega) fun y15 p10 cs_ s11 w14 m16 e12 r13 us11=>?_
      obtain ⟨rfl,-,-⟩:=r13
      refine rn ik 3 [1,2] rfl (qv 2 rfl (ix k e5 rfl rfl rfl rfl rfl (by omega)) rfl (by kernel_rfl) (rn ik 3 [4,1,0,5,6] rfl (qv 6 rfl (ix k e12 rfl rfl rfl rfl rfl (by omega)) rfl (by kernel_rfl) (r1_ ik 4 [8,0,0,9,0] rfl ⟨[0,0,0,0],rfl⟩ ?_))))
      by_cases h17 : y8 = y15
      · exact r1_ ik 6 [0] rfl (bne_eq_false_iff_eq.2 h17) (vl (ra (c:=((k + 1 : Nat) : Int)) rfl rfl rfl (by omega) (by omega) (by omega)) rfl (rn ik 2 [] rfl (lpe (s:=k) (k + 1) [2,2] ⟨by omega,eq_step hinv m9 m16 (by simpa using h17)⟩ (by omega) ⟨rfl,rfl,rfl,trivial⟩ rfl)))
      · refine r1_ ik 12 [1] rfl (bne_iff_ne.2 h17) (ret1 rfl rfl (fun w_ hs_=>⟨?_,hs_.below⟩))
        exact rb (eqS_f m9 m16 (by simpa using h17)).symm
    · refine r1_ ik 12 [0] rfl (decide_eq_false h2) (ret1 rfl rfl (fun w_ hs_=>⟨?_,hs_.below⟩))
      exact rb (eqS_t (by omega) hinv (by omega)).symm
  · refine r1_ ik 8 [1] rfl (bne_iff_ne.2 h1) (ret1 rfl rfl (fun w_ hs_=>⟨?_,hs_.below⟩))
    exact rb (by rw [eq_comm,decide_eq_false_iff_not]; rintro rfl; exact h1 rfl)
theorem slices_Equal_int64_int64 (w : World) {a : List Int} (ha : (Kd.sl Kd.i64).Rel w [.slice Aa a.length ca] a [] sa_) {b : List Int} (hb : (Kd.sl Kd.i64).Rel w [.slice Ab b.length cb] b [] sb_)  : Calls Tryz.prog 103 #[.slice Aa a.length ca,.slice Ab b.length cb] w (fun e_ w2_=>e_ = .returned (.bool (decide (a = b))) ∧ Below w.heap.size w w2_):=by
  have La:=Kd.sl_len ha; have Ca:=Kd.sl_cap ha
  have Lb:=Kd.sl_len hb; have Cb:=Kd.sl_cap hb
  refine fnc (X:=X 26 w) (l:=[(0,.slice Aa a.length ca),(1,.slice Ab b.length cb)]) Tryz.func103 rfl rfl rfl ⟨rfl,rfl,trivial⟩ (s0d hb (s0d ha (s0n w))).1 ?_
  refine rn ik 15 [] rfl ?_
  by_cases h1 : ((a.length : Nat) : Int) = ((b.length : Nat) : Int)
  · refine r1_ ik 12 [0] rfl (bne_eq_false_iff_eq.2 h1) ?_
    refine lp (σ:=Nat) (fun k : Nat=>[(0,.slice Aa a.length ca),(1,.slice Ab b.length cb),(12,.int .i64 ((a.length : Nat) : Int)),(13,.int .i64 ((k : Nat) : Int))])
        (fun k : Nat=>[dat (Kd.sl Kd.i64) [.slice Ab b.length cb] b ([]) sb_,dat (Kd.sl Kd.i64) [.slice Aa a.length ca] a ([]) sa_])
        (fun k : Nat=>k ≤ a.length ∧ ∀ j x y,j < k → a[j]? = some x → b[j]? = some y → x = y) (fun k : Nat=>a.length - k) 0 [0,0] ⟨Nat.zero_le _,by simp⟩ ⟨rfl,rfl,rfl,rfl,trivial⟩ rfl ?_
    intro k hp_
    obtain ⟨hk,hinv⟩:=hp_
    refine rn ik 6 [] rfl ?_
    by_cases h2 : ((k : Nat) : Int) < ((a.length : Nat) : Int)
    · refine r1_ ik 12 [1] rfl (decide_eq_true h2) ?_
      refine gx 1 k rfl (by omega) fun y8 p3 cs_ s4 w7 m9 e5 r6 us4=>?_
      obtain ⟨rfl,-,-⟩:=r6
      refine gx 1 k rfl (by omega) fun y15 p10 cs_ s11 w14 m16 e12 r13 us11=>?_
      obtain ⟨rfl,-,-⟩:=r13
      refine rn ik 3 [1,2] rfl (qv 2 rfl (ix k e5 rfl rfl rfl rfl rfl (by omega)) rfl (by kernel_rfl) (rn ik 3 [4,1,0,5,6] rfl (qv 6 rfl (ix k e12 rfl rfl rfl rfl rfl (by omega)) rfl (by kernel_rfl) (r1_ ik 4 [8,0,0,9,0] rfl ⟨[0,0,0,0],rfl⟩ ?_))))
      by_cases h17 : y8 = y15
      · exact r1_ ik 5 [0] rfl (bne_eq_false_iff_eq.2 h17) (vl (ra (c:=((k + 1 : Nat) : Int)) rfl rfl rfl (by omega) (by omega) (by omega)) rfl (rn ik 2 [] rfl (lpe (s:=k) (k + 1) [2,2] ⟨by omega,eq_step hinv m9 m16 (by simpa using h17)⟩ (by omega) ⟨rfl,rfl,rfl,rfl,trivial⟩ rfl)))
      · refine r1_ ik 12 [1] rfl (bne_iff_ne.2 h17) (ret1 rfl rfl (fun w_ hs_=>⟨?_,hs_.below⟩))
        exact rb (eqS_f m9 m16 (by simpa using h17)).symm
    · refine r1_ ik 12 [0] rfl (decide_eq_false h2) (ret1 rfl rfl (fun w_ hs_=>⟨?_,hs_.below⟩))
      exact rb (eqS_t (by omega) hinv (by omega)).symm
  · refine r1_ ik 8 [1] rfl (bne_iff_ne.2 h1) (ret1 rfl rfl (fun w_ hs_=>⟨?_,hs_.below⟩))
    exact rb (by rw [eq_comm,decide_eq_false_iff_not]; rintro rfl; exact h1 rfl)
theorem spec_SameRects (w : World) {a : Rect} (ha : kRectS.Rel w [.slice Aa0 a.low.length ca0,.slice Aa1 a.high.length ca1] a [] sa_) {b : Rect} (hb : kRectS.Rel w [.slice Ab0 b.low.length cb0,.slice Ab1 b.high.length cb1] b [] sb_)  : Calls Tryz.prog 238 #[.agg #[.slice Aa0 a.low.length ca0,.slice Aa1 a.high.length ca1],.agg #[.slice Ab0 b.low.length cb0,.slice Ab1 b.high.length cb1]] w (fun e_ w2_=>e_ = .returned (.bool (decide (a = b))) ∧ Below w.heap.size w w2_):=by
  refine fnc (X:=X 17 w) (l:=[(0,.agg #[.slice Aa0 a.low.length ca0,.slice Aa1 a.high.length ca1]),(1,.agg #[.slice Ab0 b.low.length cb0,.slice Ab1 b.high.length cb1])]) Tryz.func238 rfl rfl rfl ⟨rfl,rfl,trivial⟩ (s0d hb (s0d ha (s0n w))).1 ?_
  refine sq (rg (bx rfl rfl rfl rfl ?_))
  intro b1
  refine bx rfl rfl rfl rfl ?_
  intro b2
  refine rn ik 9 [1,0,0,0] rfl ?_
  refine gd 3 kRectS_p0_1 rfl (cs':=[.slice Aa0 a.low.length ca0]) rfl fun s3 w_ rs3 us3=>?_
  have Ls3:=Kd.sl_len rs3; have Cs3:=Kd.sl_cap rs3
  refine gd 3 kRectS_p0_1 rfl (cs':=[.slice Ab0 b.low.length cb0]) rfl fun s4 w_ rs4 us4=>?_
  have Ls4:=Kd.sl_len rs4; have Cs4:=Kd.sl_cap rs4
  refine cs_ (v:=.bool (decide (a.low = b.low))) (by kernel_rfl) rfl rfl rfl (fun w_ hs_=>spec_l1Same w_ (hs_.at 1 rfl) (hs_.at 0 rfl)) (m_ rfl rfl ?_)
  by_cases h5 : decide (a.low = b.low) = true
  · refine r4_ ik 4 [1,1,3,0,1,1,2,0] rfl h5 h5 h5 h5 (gw rfl rfl h5 ?_)
    refine gd 5 kRectS_p1_1 rfl (cs':=[.slice Aa1 a.high.length ca1]) rfl fun s6 w_ rs6 us6=>?_
    have Ls6:=Kd.sl_len rs6; have Cs6:=Kd.sl_cap rs6
    refine gd 5 kRectS_p1_1 rfl (cs':=[.slice Ab1 b.high.length cb1]) rfl fun s7 w_ rs7 us7=>?_
    have Ls7:=Kd.sl_len rs7; have Cs7:=Kd.sl_cap rs7
    refine cs_ (v:=.bool (decide (a.high = b.high))) (by kernel_rfl) rfl rfl rfl (fun w_ hs_=>spec_l1Same w_ (hs_.at 1 rfl) (hs_.at 0 rfl)) (r1_ ik 5 [1] rfl h5 (ret1 rfl rfl (fun w_ hs_=>⟨?_,hs_.below⟩)))
    rw [Rect_eq]; simp [h5]
  · refine rp ik 10 [0,0,0,0,0,0] rfl ⟨(Bool.eq_false_iff.2 h5),(Bool.eq_false_iff.2 h5),(Bool.eq_false_iff.2 h5),(Bool.eq_false_iff.2 h5),(Bool.eq_false_iff.2 h5),(Bool.eq_false_iff.2 h5),⟨⟩⟩ (ret1 rfl rfl (fun w_ hs_=>⟨?_,hs_.below⟩))
    rw [Rect_eq]; simp [h5]
theorem impl_SameRects (w : World) {a : Rect} (ha : kRectS.Rel w [.slice Aa0 a.low.length ca0,.slice Aa1 a.high.length ca1] a [] sa_) {b : Rect} (hb : kRectS.Rel w [.slice Ab0 b.low.length cb0,.slice Ab1 b.high.length cb1] b [] sb_)  : Calls Tryz.prog 164 #[.agg #[.slice Aa0 a.low.length ca0,.slice Aa1 a.high.length ca1],.agg #[.slice Ab0 b.low.length cb0,.slice Ab1 b.high.length cb1]] w (fun e_ w2_=>e_ = .returned (.bool (decide (a = b))) ∧ Below w.heap.size w w2_):=by
  refine fnc (X:=X 17 w) (l:=[(0,.agg #[.slice Aa0 a.low.length ca0,.slice Aa1 a.high.length ca1]),(1,.agg #[.slice Ab0 b.low.length cb0,.slice Ab1 b.high.length cb1])]) Tryz.func164 rfl rfl rfl ⟨rfl,rfl,trivial⟩ (s0d hb (s0d ha (s0n w))).1 ?_
  refine sq (rg (bx rfl rfl rfl rfl ?_))
  intro b1
  refine bx rfl rfl rfl rfl ?_
  intro b2
  refine rn ik 9 [1,0,0,0] rfl ?_
  refine gd 3 kRectS_p0_1 rfl (cs':=[.slice Aa0 a.low.length ca0]) rfl fun s3 w_ rs3 us3=>?_
  have Ls3:=Kd.sl_len rs3; have Cs3:=Kd.sl_cap rs3
  refine gd 3 kRectS_p0_1 rfl (cs':=[.slice Ab0 b.low.length cb0]) rfl fun s4 w_ rs4 us4=>?_
  have Ls4:=Kd.sl_len rs4; have Cs4:=Kd.sl_cap rs4
  refine cs_ (v:=.bool (decide (a.low = b.low))) (by kernel_rfl) rfl rfl rfl (fun w_ hs_=>slices_Equal_int64_int64 w_ (hs_.at 1 rfl) (hs_.at 0 rfl)) (m_ rfl rfl ?_)
  by_cases h5 : decide (a.low = b.low) = true
  · refine r4_ ik 4 [1,1,3,0,1,1,2,0] rfl h5 h5 h5 h5 (gw rfl rfl h5 ?_)
    refine gd 5 kRectS_p1_1 rfl (cs':=[.slice Aa1 a.high.length ca1]) rfl fun s6 w_ rs6 us6=>?_
    have Ls6:=Kd.sl_len rs6; have Cs6:=Kd.sl_cap rs6
    refine gd 5 kRectS_p1_1 rfl (cs':=[.slice Ab1 b.high.length cb1]) rfl fun s7 w_ rs7 us7=>?_
    have Ls7:=Kd.sl_len rs7; have Cs7:=Kd.sl_cap rs7
    refine cs_ (v:=.bool (decide (a.high = b.high))) (by kernel_rfl) rfl rfl rfl (fun w_ hs_=>slices_Equal_int64_int64 w_ (hs_.at 1 rfl) (hs_.at 0 rfl)) (r1_ ik 5 [1] rfl h5 (ret1 rfl rfl (fun w_ hs_=>⟨?_,hs_.below⟩)))
    rw [Rect_eq]; simp [h5]
  · refine rp ik 10 [0,0,0,0,0,0] rfl ⟨(Bool.eq_false_iff.2 h5),(Bool.eq_false_iff.2 h5),(Bool.eq_false_iff.2 h5),(Bool.eq_false_iff.2 h5),(Bool.eq_false_iff.2 h5),(Bool.eq_false_iff.2 h5),⟨⟩⟩ (ret1 rfl rfl (fun w_ hs_=>⟨?_,hs_.below⟩))
    rw [Rect_eq]; simp [h5]
theorem laws_szInt64S (w : World) (left : Int) {a : List Int} (ha : (Kd.sl Kd.i64).Rel w [.slice Aa a.length ca] a [] sa_) (h0 : 0 ≤ left) (h1 : left ≤ 1152921504606846976) : Calls Tryz.prog 110 #[.slice Aa a.length ca,.int .i64 left] w (fun e_ w2_=>e_ = .returned (.int .i64 (szTake ((a.length : Nat) : Int) left)) ∧ Below w.heap.size w w2_):=by
  have La:=Kd.sl_len ha; have Ca:=Kd.sl_cap ha
  refine fnc (X:=X 12 w) (l:=[(0,.slice Aa a.length ca),(1,.int .i64 left)]) Tryz.func110 rfl rfl rfl ⟨rfl,rfl,trivial⟩ (s0d ha (s0n w)).1 ?_
  refine rn ik 10 [] rfl (vl (rs (c:=left - ((a.length : Nat) : Int)) rfl rfl rfl rfl (by omega) (by omega)) rfl (rn ik 10 [] rfl ?_))
  by_cases h1 : left - ((a.length : Nat) : Int) < (0 : Int)
  · refine r1_ ik 8 [1] rfl (decide_eq_true h1) (ret1 rfl rfl (fun w_ hs_=>⟨?_,hs_.below⟩))
    exact ri (by unfold szTake; split <;> omega)
  · refine r1_ ik 10 [0] rfl (decide_eq_false h1) (ret1 rfl rfl (fun w_ hs_=>⟨?_,hs_.below⟩))
    exact ri (by unfold szTake; split <;> omega)
def szList {α : Type} (f : α → Int) (l : List α) : Int := (l.length : Int) + (l.map f).sum
theorem szList_nn {α : Type} {f : α → Int} (hf : ∀ x,0 ≤ f x) (l : List α) : 0 ≤ szList f l:=by have:=sum_nn hf l; unfold szList; omega
theorem szList_mem {α : Type} {f : α → Int} (hf : ∀ x,0 ≤ f x) {l : List α} {k : Nat} {y : α} (h : l[k]? = some y) : f y ≤ szList f l:=by
  have h1:=sumTo_step (f:=f) h
  have h2:=sumTo_le hf l (k + 1)
  have h3:=sumTo_nn hf l k
  unfold szList; omega
theorem szList_len {α : Type} {f : α → Int} (hf : ∀ x,0 ≤ f x) (l : List α) : (l.length : Int) ≤ szList f l:=by have:=sum_nn hf l; unfold szList; omega
theorem cnt_list {α : Type} {f g : α → Int} (h : ∀ x,f x ≤ 32 * (1 + g x)) : ∀ l : List α,(l.map f).sum ≤ 32 * szList g l
  | []=>by simp [szList]
  | a :: l=>by
    have h1:=h a
    have h2:=cnt_list h l
    unfold szList at *
    simp only [List.map_cons,List.sum_cons,List.length_cons]
    omega
theorem sum_le {α : Type} {f : α → Int} {c : Int} : ∀ {l : List α},(∀ x ∈ l,f x ≤ c) → (l.map f).sum ≤ c * (l.length : Int)
  | [],_=>by simp
  | a :: l,h=>by
    have h1:=h a (List.mem_cons_self ..)
    have h2:=sum_le (l:=l) (fun x hx=>h x (List.mem_cons_of_mem _ hx))
    simp only [List.map_cons,List.sum_cons,List.length_cons]
    have : c * ((l.length + 1 : Nat) : Int) = c * (l.length : Int) + c:=by rw [Int.natCast_add,Int.mul_add]; simp
    omega
theorem laws_toInt64S (w : World) {a : List Int} (ha : (Kd.sl Kd.i64).Rel w [.slice Aa a.length ca] a [] sa_) (hz : (a.length : Int) ≤ 1048576) : Calls Tryz.prog 117 #[.slice Aa a.length ca] w (Made (Kd.row 2 Kd.i64) w a []):=by
  have La:=Kd.sl_len ha; have Ca:=Kd.sl_cap ha
  refine fnc (X:=X 22 w) (l:=[(0,.slice Aa a.length ca)]) Tryz.func117 rfl rfl rfl ⟨rfl,trivial⟩ (s0d ha (s0n w)).1 ?_
  refine rn ik 9 [] rfl (mk (dk:=Kd.i64) (z:=0) rfl info2 rfl (fun _=>⟨rfl,rfl,rfl⟩) rfl rfl (by omega) (by omega) rfl ?_)
  intro b1
  refine rn ik 10 [] rfl ?_
  refine lp (σ:=Nat × List Nat × List Nat) (fun z_ : Nat × List Nat × List Nat=>match z_ with | (k,o,s)=>[(0,.slice Aa a.length ca),(3,.slice (some ⟨b1,0,none⟩) a.length a.length),(4,.int .i64 ((k : Nat) : Int))])
      (fun z_ : Nat × List Nat × List Nat=>match z_ with | (k,o,s)=>[dat (Kd.row 2 Kd.i64) [.slice (some ⟨b1,0,none⟩) a.length a.length] (a.take k ++ List.replicate (a.length - k) 0) o s,dat (Kd.sl Kd.i64) [.slice Aa a.length ca] a ([]) sa_])
      (fun z_ : Nat × List Nat × List Nat=>match z_ with | (k,o,s)=>k ≤ a.length ∧ ∀ q ∈ s,w.heap.size ≤ q) (fun z_ : Nat × List Nat × List Nat=>match z_ with | (k,o,s)=>a.length - k) (0,[b1],[]) [0,0] ⟨Nat.zero_le _,by simp⟩ ⟨rfl,rfl,rfl,trivial⟩ rfl ?_
  rintro ⟨k,o,s⟩ hp_
  obtain ⟨hk,hinv⟩:=hp_
  refine rn ik 9 [] rfl ?_
  by_cases h2 : ((k : Nat) : Int) < ((a.length : Nat) : Int)
  · refine r1_ ik 10 [1] rfl (decide_eq_true h2) ?_
    refine gx 1 k rfl (by omega) fun y8 p3 cs_ s4 w7 m9 e5 r6 us4=>?_
    obtain ⟨rfl,-,-⟩:=r6
    refine vl (ix k e5 rfl rfl rfl rfl rfl (by omega)) rfl (vl (ldq (u:=.int .i64 y8) 0 rfl rfl rfl rfl rfl rfl rfl) rfl (vl (ix k rfl rfl rfl rfl rfl rfl (by omega)) rfl (gs Kd.i64 [.int .i64 y8] y8 (fun _=>⟨rfl,rfl,rfl⟩) (f2 (ste k rfl rfl rfl rfl rfl (by first | omega | (simp; omega)) (fun o10 s11 t12=>?_))))))
    exact gr (a.take (k + 1) ++ List.replicate (a.length - (k + 1)) 0) (rowStep m9) (rn ik 5 [] rfl (vl (ra (c:=((k + 1 : Nat) : Int)) rfl rfl rfl (by omega) (by omega) (by omega)) rfl (rn ik 2 [] rfl (lpe (s:=(k,o,s)) (k + 1,o10,s11) [0,1] ⟨by omega,fun q hq=>(t12 q hq).elim (hinv q) (fun h=>by cases h)⟩ (by show a.length - (k + 1) < a.length - k; omega) ⟨rfl,rfl,rfl,trivial⟩ rfl))))
  · exact r1_ ik 13 [0] rfl (decide_eq_false h2) (gr a (rowEnd (by omega)) (ret1 rfl rfl (fun w_ hs_=>made hs_ rfl (fun q hq=>.inr (hinv q hq)))))
def szRect (a : Rect) : Int := (a.low.length : Int) + (a.high.length : Int)
theorem szRect_nn (a : Rect) : 0 ≤ szRect a:=by unfold szRect; omega
def zRect : Rect := (⟨[], []⟩ : Rect)
theorem laws_eqRect (w : World) {a : Rect} (ha : kRectS.Rel w [.slice Aa0 a.low.length ca0,.slice Aa1 a.high.length ca1] a [] sa_) {b : Rect} (hb : kRectS.Rel w [.slice Ab0 b.low.length cb0,.slice Ab1 b.high.length cb1] b [] sb_)  : Calls Tryz.prog 124 #[.agg #[.slice Aa0 a.low.length ca0,.slice Aa1 a.high.length ca1],.agg #[.slice Ab0 b.low.length cb0,.slice Ab1 b.high.length cb1]] w (fun e_ w2_=>e_ = .returned (.bool (decide (a = b))) ∧ Below w.heap.size w w2_):=by
  refine fnc (X:=X 17 w) (l:=[(0,.agg #[.slice Aa0 a.low.length ca0,.slice Aa1 a.high.length ca1]),(1,.agg #[.slice Ab0 b.low.length cb0,.slice Ab1 b.high.length cb1])]) Tryz.func124 rfl rfl rfl ⟨rfl,rfl,trivial⟩ (s0d hb (s0d ha (s0n w))).1 ?_
  refine sq (rg (bx rfl rfl rfl rfl ?_))
  intro b1
  refine bx rfl rfl rfl rfl ?_
  intro b2
  refine rn ik 10 [1,0,0,0] rfl ?_
  refine gd 3 kRectS_p0_1 rfl (cs':=[.slice Aa0 a.low.length ca0]) rfl fun s3 w_ rs3 us3=>?_
  have Ls3:=Kd.sl_len rs3; have Cs3:=Kd.sl_cap rs3
  refine gd 3 kRectS_p0_1 rfl (cs':=[.slice Ab0 b.low.length cb0]) rfl fun s4 w_ rs4 us4=>?_
  have Ls4:=Kd.sl_len rs4; have Cs4:=Kd.sl_cap rs4
  refine cs_ (v:=.bool (decide (a.low = b.low))) (by kernel_rfl) rfl rfl rfl (fun w_ hs_=>laws_eqInt64S w_ (hs_.at 1 rfl) (hs_.at 0 rfl)) (rn ik 3 [] rfl ?_)
  by_cases h5 : decide (a.low = b.low) = true
  · refine r1_ ik 10 [0,3,0,2,0] rfl (not_f h5) ?_
    refine gd 5 kRectS_p1_1 rfl (cs':=[.slice Aa1 a.high.length ca1]) rfl fun s6 w_ rs6 us6=>?_
    have Ls6:=Kd.sl_len rs6; have Cs6:=Kd.sl_cap rs6
    refine gd 5 kRectS_p1_1 rfl (cs':=[.slice Ab1 b.high.length cb1]) rfl fun s7 w_ rs7 us7=>?_
    have Ls7:=Kd.sl_len rs7; have Cs7:=Kd.sl_cap rs7
    refine cs_ (v:=.bool (decide (a.high = b.high))) (by kernel_rfl) rfl rfl rfl (fun w_ hs_=>laws_eqInt64S w_ (hs_.at 1 rfl) (hs_.at 0 rfl)) (rn ik 3 [] rfl ?_)
    by_cases h8 : decide (a.high = b.high) = true
    · refine r1_ ik 9 [0] rfl (not_f h8) (ret1 rfl rfl (fun w_ hs_=>⟨?_,hs_.below⟩))
      rw [Rect_eq]; simp [h5,h8]
    · refine r1_ ik 8 [1] rfl (not_t (Bool.eq_false_iff.2 h8)) (ret1 rfl rfl (fun w_ hs_=>⟨?_,hs_.below⟩))
      rw [Rect_eq]; simp [h5,h8]
  · refine r1_ ik 8 [1] rfl (not_t (Bool.eq_false_iff.2 h5)) (ret1 rfl rfl (fun w_ hs_=>⟨?_,hs_.below⟩))
    rw [Rect_eq]; simp [h5]
theorem laws_szRect (w : World) (left : Int) {a : Rect} (ha : kRectS.Rel w [.slice Aa0 a.low.length ca0,.slice Aa1 a.high.length ca1] a [] sa_) (h0 : 0 ≤ left) (h1 : left ≤ 1152921504606846976) : Calls Tryz.prog 109 #[.agg #[.slice Aa0 a.low.length ca0,.slice Aa1 a.high.length ca1],.int .i64 left] w (fun e_ w2_=>e_ = .returned (.int .i64 (szTake (szRect a) left)) ∧ Below w.heap.size w w2_):=by
  skip
  refine fnc (X:=X 18 w) (l:=[(0,.agg #[.slice Aa0 a.low.length ca0,.slice Aa1 a.high.length ca1]),(1,.int .i64 left)]) Tryz.func109 rfl rfl rfl ⟨rfl,rfl,trivial⟩ (s0d ha (s0n w)).1 ?_
  refine sq (rg (bx rfl rfl rfl rfl ?_))
  intro b1
  refine rn ik 8 [0,0] rfl ?_
  refine gd 1 kRectS_p0_1 rfl (cs':=[.slice Aa0 a.low.length ca0]) rfl fun s2 w_ rs2 us2=>?_
  have Ls2:=Kd.sl_len rs2; have Cs2:=Kd.sl_cap rs2
  refine cs_ (v:=.int .i64 (szTake ((a.low.length : Nat) : Int) left)) (by kernel_rfl) rfl rfl rfl (fun w_ hs_=>laws_szInt64S w_ _ (hs_.at 0 rfl) (by omega) (by omega)) (rn ik 10 [] rfl ?_)
  by_cases h3 : (szTake ((a.low.length : Nat) : Int) left) < (0 : Int)
  · have eh3:=szTake_t h3
    refine r1_ ik 8 [1] rfl (decide_eq_true h3) (ret1 rfl rfl (fun w_ hs_=>⟨?_,hs_.below⟩))
    exact ri (by unfold szTake szRect; split <;> omega)
  · have eh3:=szTake_f h3
    refine r1_ ik 8 [0,1,0] rfl (decide_eq_false h3) ?_
    refine gd 2 kRectS_p1_1 rfl (cs':=[.slice Aa1 a.high.length ca1]) rfl fun s4 w_ rs4 us4=>?_
    have Ls4:=Kd.sl_len rs4; have Cs4:=Kd.sl_cap rs4
    refine cs_ (v:=.int .i64 (szTake ((a.high.length : Nat) : Int) (szTake ((a.low.length : Nat) : Int) left))) (by kernel_rfl) rfl rfl rfl (fun w_ hs_=>laws_szInt64S w_ _ (hs_.at 0 rfl) (by omega) (by omega)) (rn ik 10 [] rfl ?_)
    by_cases h5 : (szTake ((a.high.length : Nat) : Int) (szTake ((a.low.length : Nat) : Int) left)) < (0 : Int)
    · have eh5:=szTake_t h5
      refine r1_ ik 8 [1] rfl (decide_eq_true h5) (ret1 rfl rfl (fun w_ hs_=>⟨?_,hs_.below⟩))
      exact ri (by unfold szTake szRect; split <;> omega)
    · have eh5:=szTake_f h5
      refine r1_ ik 10 [0] rfl (decide_eq_false h5) (ret1 rfl rfl (fun w_ hs_=>⟨?_,hs_.below⟩))
      exact ri (by unfold szTake szRect; split <;> omega)
theorem laws_toRect (w : World) {a : Rect} (ha : kRectS.Rel w [.slice Aa0 a.low.length ca0,.slice Aa1 a.high.length ca1] a [] sa_) (hz : szRect a ≤ 1048576) : Calls Tryz.prog 116 #[.agg #[.slice Aa0 a.low.length ca0,.slice Aa1 a.high.length ca1]] w (Made kRectO w a []):=by
  unfold szRect at hz
  refine fnc (X:=X 13 w) (l:=[(0,.agg #[.slice Aa0 a.low.length ca0,.slice Aa1 a.high.length ca1])]) Tryz.func116 rfl rfl rfl ⟨rfl,trivial⟩ (s0d ha (s0n w)).1 ?_
  refine sq (rg (bx rfl rfl rfl rfl ?_))
  intro b1
  refine al zero82 rfl rfl rfl ?_
  intro b2
  refine rn ik 4 [] rfl (al zero82 rfl rfl rfl ?_)
  intro b3
  refine rn ik 6 [2,0] rfl ?_
  refine gd 3 kRectS_p0_1 rfl (cs':=[.slice Aa0 a.low.length ca0]) rfl fun s4 w_ rs4 us4=>?_
  have Ls4:=Kd.sl_len rs4; have Cs4:=Kd.sl_cap rs4
  refine cm_ (dk:=(Kd.row 2 Kd.i64)) (x:=a.low) (S:=[]) (by kernel_rfl) rfl rfl rfl sn0 (fun w_ hs_=>laws_toInt64S w_ (hs_.at 0 rfl) (by omega)) (fun cs_ o7 s8 w_ r9 t10=>?_)
  obtain ⟨A5,c6,rfl⟩:=Kd.row_sh r9
  refine vl (fa rfl rfl rfl) rfl (f2 (sto rfl rfl rfl rfl rfl rfl rfl (cs':=[.slice A5 a.low.length c6,.slice none 0 0]) rfl (rn ik 6 [4,0] rfl ?_)))
  refine gd 5 kRectS_p1_1 rfl (cs':=[.slice Aa1 a.high.length ca1]) rfl fun s12 w_ rs12 us12=>?_
  have Ls12:=Kd.sl_len rs12; have Cs12:=Kd.sl_cap rs12
  refine cm_ (dk:=(Kd.row 2 Kd.i64)) (x:=a.high) (S:=[]) (by kernel_rfl) rfl rfl rfl sn0 (fun w_ hs_=>laws_toInt64S w_ (hs_.at 0 rfl) (by omega)) (fun cs_ o15 s16 w_ r17 t18=>?_)
  obtain ⟨A13,c14,rfl⟩:=Kd.row_sh r17
  exact vl (fa rfl rfl rfl) rfl (f2 (sto rfl rfl rfl rfl rfl rfl rfl (cs':=[.slice A5 a.low.length c6,.slice A13 a.high.length c14]) rfl (rn ik 5 [0,0] rfl (f5 (sto rfl rfl rfl rfl rfl rfl rfl (cs':=[.slice A5 a.low.length c6,.slice A13 a.high.length c14]) rfl (en (nx (rt (f2 (f4 (gj (da:=(Kd.via (Kd.row 2 Kd.i64) Rect.low)) (db:=(Kd.via (Kd.row 2 Kd.i64) Rect.high)) (x:=a) rfl (retc 1 rfl rfl rfl rfl rfl rfl (fun w_ hs_=>made hs_ rfl (see_app t10 t18))))))))))))))
theorem spec_l1Ints (w : World) {Alist : Option Addr} {clist : Nat} {list : List Int} {slist_ : List Nat} (hlist : (Kd.sl Kd.i64).Rel w [.slice Alist list.length clist] list [] slist_) (hz : (list.length : Int) ≤ 1048576) : Calls Tryz.prog 146 #[.slice Alist list.length clist] w (Made (Kd.row 2 Kd.i64) w list []):=by
  have Llist:=Kd.sl_len hlist; have Clist:=Kd.sl_cap hlist
  refine fnc (X:=X 6 w) (l:=[(0,.slice Alist list.length clist)]) Tryz.func146 rfl rfl rfl ⟨rfl,trivial⟩ (s0d hlist (s0n w)).1 ?_
  refine rn ik 7 [] rfl (bs0 (dk:=Kd.i64) rfl info2 rfl rfl ?_)
  intro b1
  refine m_ rfl rfl ?_
  refine f1 (f1 (aps0 pure_i64 list rfl info2 rfl rfl (by decide) rfl rfl rfl rfl (by omega) (by omega) rfl (fun A2 c3 o4 s5 t6=>?_)))
  exact rn ik 4 [] rfl (ret1 rfl rfl (fun w_ hs_=>made hs_ rfl (by grind)))
theorem spec_l1Copy (w : World) {r : Rect} {pr : Addr} (hr : (ptr kRectS pr [.slice Ar0 r.low.length cr0,.slice Ar1 r.high.length cr1] r sr_).P w) (hz : szRect r ≤ 1048576) : Calls Tryz.prog 206 #[.pointer (some pr)] w (Made kRectO w r []):=by
  unfold szRect at hz
  refine fnc (X:=X 14 w) (l:=[(0,.pointer (some pr))]) Tryz.func206 rfl rfl rfl ⟨rfl,trivial⟩ (s0p hr (s0n w)).1 ?_
  refine sq (rg (al zero82 rfl rfl rfl ?_))
  intro b1
  refine en (nx (sq ?_))
  refine gp 1 kRectS_p0_1 rfl (cs':=[.slice Ar0 r.low.length cr0]) rfl fun s2 w_ rs2 us2=>?_
  have Ls2:=Kd.sl_len rs2; have Cs2:=Kd.sl_cap rs2
  refine gp 2 kRectS_p1_1 rfl (cs':=[.slice Ar1 r.high.length cr1]) rfl fun s5 w_ rs5 us5=>?_
  have Ls5:=Kd.sl_len rs5; have Cs5:=Kd.sl_cap rs5
  refine rd (Gq:=[dat (Kd.sl Kd.i64) [.slice Ar1 r.high.length cr1] r.high ([]) s5,dat (Kd.sl Kd.i64) [.slice Ar0 r.low.length cr0] r.low ([]) s2,ptr kRectS pr [.slice Ar0 r.low.length cr0,.slice Ar1 r.high.length cr1] r sr_]) [0,0,1] rfl (rn ik 8 [1,2,3,4,2,1,6,7,8,9,2,2] rfl (q1 4 [0,0,1] rfl (by kernel_rfl) rfl (cm_ (dk:=(Kd.row 2 Kd.i64)) (x:=r.low) (S:=[]) (by kernel_rfl) rfl rfl rfl sn0 (fun w_ hs_=>by exact spec_l1Ints w_ (hs_.at 1 rfl) (by omega)) (fun cs_ o12 s13 w_ r14 t15=>?_))))
  obtain ⟨A10,c11,rfl⟩:=Kd.row_sh r14
  refine qn (q1 9 [1,1,2] rfl (by kernel_rfl) rfl (cm_ (dk:=(Kd.row 2 Kd.i64)) (x:=r.high) (S:=[]) (by kernel_rfl) rfl rfl rfl sn0 (fun w_ hs_=>by exact spec_l1Ints w_ (hs_.at 1 rfl) (by omega)) (fun cs_ o19 s20 w_ r21 t22=>?_)))
  obtain ⟨A17,c18,rfl⟩:=Kd.row_sh r21
  exact qn (qv 10 rfl (bd bld82 rfl rfl rfl) rfl (by kernel_rfl) (q1 11 [2,2,3] rfl (by kernel_rfl) rfl (f4 (sto rfl rfl rfl rfl rfl rfl rfl (cs':=[.slice A10 r.low.length c11,.slice A17 r.high.length c18]) rfl (qn (r1_ ik 3 [0] rfl ⟨[3,3,3],rfl⟩ (f1 (f2 (gj (da:=(Kd.via (Kd.row 2 Kd.i64) Rect.low)) (db:=(Kd.via (Kd.row 2 Kd.i64) Rect.high)) (x:=r) rfl (retc 1 rfl rfl rfl rfl rfl rfl (fun w_ hs_=>made hs_ rfl (see_app t15 t22))))))))))))
theorem slices_Clone_int64_int64 (w : World) {cs : Nat} {s : List Int} (hs : (Kd.sl Kd.i64).Rel w [.slice As s.length cs] s [] ss_) (hz : (s.length : Int) ≤ 1048576) : Calls Tryz.prog 143 #[.slice As s.length cs] w (Made (Kd.row 2 Kd.i64) w s []):=by
  have Ls:=Kd.sl_len hs; have Cs:=Kd.sl_cap hs
  refine fnc (X:=X 8 w) (l:=[(0,.slice As s.length cs)]) Tryz.func143 rfl rfl rfl ⟨rfl,trivial⟩ (s0d hs (s0n w)).1 ?_
  refine rn ik 9 [] rfl (vl (cmN rfl rfl rfl rfl) rfl (en (nx ?_)))
  by_cases h1 : As.isNone = true
  · exact r1_ ik 8 [1] rfl h1 (gs (Kd.row 2 Kd.i64) [.slice none 0 0] [] (fun _=>.inl ⟨rfl,rfl,rfl,rfl⟩) (gr s (by rw [Option.isNone_iff_eq_none] at h1; subst h1; exact (Kd.sl_nil hs).symm) (ret1 rfl rfl (fun w_ hs_=>made hs_ rfl (by grind)))))
  · refine r1_ ik 5 [0] rfl (Bool.eq_false_iff.2 h1) (bs0 (dk:=Kd.i64) rfl info2 rfl rfl ?_)
    intro b2
    refine m_ rfl rfl ?_
    refine f1 (f1 (aps0 pure_i64 s rfl info2 rfl rfl (by decide) rfl rfl rfl rfl (by omega) (by omega) rfl (fun A3 c4 o5 s6 t7=>?_)))
    exact rn ik 4 [] rfl (gr s rfl (ret1 rfl rfl (fun w_ hs_=>made hs_ rfl (by grind))))
theorem impl_Rect_cloned (w : World) {r : Rect} (hr : kRectS.Rel w [.slice Ar0 r.low.length cr0,.slice Ar1 r.high.length cr1] r [] sr_) (hz : szRect r ≤ 1048576) : Calls Tryz.prog 235 #[.agg #[.slice Ar0 r.low.length cr0,.slice Ar1 r.high.length cr1]] w (Made kRectO w r []):=by
  unfold szRect at hz
  refine fnc (X:=X 10 w) (l:=[(0,.agg #[.slice Ar0 r.low.length cr0,.slice Ar1 r.high.length cr1])]) Tryz.func235 rfl rfl rfl ⟨rfl,trivial⟩ (s0d hr (s0n w)).1 ?_
  refine sq (rg (bx rfl rfl rfl rfl ?_))
  intro b1
  refine al zero82 rfl rfl rfl ?_
  intro b2
  refine en (nx (sq ?_))
  refine gd 2 kRectS_p0_1 rfl (cs':=[.slice Ar0 r.low.length cr0]) rfl fun s3 w_ rs3 us3=>?_
  have Ls3:=Kd.sl_len rs3; have Cs3:=Kd.sl_cap rs3
  refine gd 3 kRectS_p1_1 rfl (cs':=[.slice Ar1 r.high.length cr1]) rfl fun s6 w_ rs6 us6=>?_
  have Ls6:=Kd.sl_len rs6; have Cs6:=Kd.sl_cap rs6
  refine rd (Gq:=[dat (Kd.sl Kd.i64) [.slice Ar1 r.high.length cr1] r.high ([]) s6,dat (Kd.sl Kd.i64) [.slice Ar0 r.low.length cr0] r.low ([]) s3,blk b1 [.slice Ar0 r.low.length cr0,.slice Ar1 r.high.length cr1] 82,dat kRectS [.slice Ar0 r.low.length cr0,.slice Ar1 r.high.length cr1] r ([]) sr_]) [0,0,1,1] rfl (rn ik 4 [1,2,2,0,4,5,2,0] rfl (q1 2 [0,0,1,1] rfl (by kernel_rfl) rfl (cm_ (dk:=(Kd.row 2 Kd.i64)) (x:=r.low) (S:=[]) (by kernel_rfl) rfl rfl rfl sn0 (fun w_ hs_=>by exact slices_Clone_int64_int64 w_ (hs_.at 1 rfl) (by omega)) (fun cs_ o13 s14 w_ r15 t16=>?_))))
  obtain ⟨A11,c12,rfl⟩:=Kd.row_sh r15
  refine qn (q1 5 [1,1,2,2] rfl (by kernel_rfl) rfl (cm_ (dk:=(Kd.row 2 Kd.i64)) (x:=r.high) (S:=[]) (by kernel_rfl) rfl rfl rfl sn0 (fun w_ hs_=>by exact slices_Clone_int64_int64 w_ (hs_.at 1 rfl) (by omega)) (fun cs_ o20 s21 w_ r22 t23=>?_)))
  obtain ⟨A18,c19,rfl⟩:=Kd.row_sh r22
  exact qn (qv 6 rfl (bd bld82 rfl rfl rfl) rfl (by kernel_rfl) (q1 7 [2,2,3,3] rfl (by kernel_rfl) rfl (f4 (sto rfl rfl rfl rfl rfl rfl rfl (cs':=[.slice A11 r.low.length c12,.slice A18 r.high.length c19]) rfl (qn (r1_ ik 3 [0] rfl ⟨[3,3,3,3],rfl⟩ (f1 (f2 (gj (da:=(Kd.via (Kd.row 2 Kd.i64) Rect.low)) (db:=(Kd.via (Kd.row 2 Kd.i64) Rect.high)) (x:=r) rfl (retc 1 rfl rfl rfl rfl rfl rfl (fun w_ hs_=>made hs_ rfl (see_app t16 t23))))))))))))
structure Pair where
  id : Int
  rect : Rect
  deriving DecidableEq
structure Entry where
  rect : Rect
  ref : Int
  nsn : Int
  deriving DecidableEq
structure Node where
  level : Int
  nsn : Int
  right : Int
  entries : List Entry
  deriving DecidableEq
structure Retired where
  id : Int
  watch : List Int
  deriving DecidableEq
structure Arena where
  dims : Int
  nodes : List Node
  free : List Int
  retired : List Retired
  deriving DecidableEq
structure Tree where
  style : Int
  arena : Arena
  root : Int
  rootNsn : Int
  counter : Int
  deriving DecidableEq
def kPairS : Kd Pair := ((Kd.i64.via Pair.id).cat (kRectS.via Pair.rect))
theorem kPairS_sh {w : World} {cs : List Value} {x : Pair} {o s : List Nat} (h : kPairS.Rel w cs x o s) : ∃ (A1 : Option Addr) (c1 : Nat) (A2 : Option Addr) (c2 : Nat),cs = [.int .i64 x.id,.slice A1 x.rect.low.length c1,.slice A2 x.rect.high.length c2]:=by
  obtain ⟨c10,c20,o10,o20,s10,s20,rfl,rfl,rfl,h0,k0⟩:=h
  obtain ⟨rfl,-,-⟩:=h0
  obtain ⟨_,_,_,_,rfl⟩:=kRectS_sh k0
  exact ⟨_,_,_,_,rfl⟩
theorem kPairS_p1_2 : Kd.Sub kPairS 1 kRectS (fun x=>x.rect):=(Kd.Sub.right (Kd.Sub.rfl.via Pair.rect) _)
theorem kPairS_p1_1 : Kd.Sub kPairS 1 (Kd.sl Kd.i64) (fun x=>x.rect.low):=(Kd.Sub.right (kRectS_p0_1.via Pair.rect) _)
theorem kPairS_p2_1 : Kd.Sub kPairS 2 (Kd.sl Kd.i64) (fun x=>x.rect.high):=(Kd.Sub.right (kRectS_p1_1.via Pair.rect) _)
theorem kPairS_self : Kd.Seals kPairS kPairS:=(Kd.Seals.cat (Kd.Seals.via Kd.Seals.i64 _) (Kd.Seals.via kRectS_self _))
theorem kPairS_pure : Kd.Pure kPairS:=(Kd.Pure.cat (Kd.Pure.via Kd.Pure.i64 _) (Kd.Pure.via kRectS_pure _))
def kEntryS : Kd Entry := ((kRectS.via Entry.rect).cat ((Kd.i64.via Entry.ref).cat (Kd.i64.via Entry.nsn)))
theorem kEntryS_sh {w : World} {cs : List Value} {x : Entry} {o s : List Nat} (h : kEntryS.Rel w cs x o s) : ∃ (A0 : Option Addr) (c0 : Nat) (A1 : Option Addr) (c1 : Nat),cs = [.slice A0 x.rect.low.length c0,.slice A1 x.rect.high.length c1,.int .i64 x.ref,.int .i64 x.nsn]:=by
  obtain ⟨c10,c20,o10,o20,s10,s20,rfl,rfl,rfl,h0,k0⟩:=h
  obtain ⟨_,_,_,_,rfl⟩:=kRectS_sh h0
  obtain ⟨c11,c21,o11,o21,s11,s21,rfl,rfl,rfl,h1,k1⟩:=k0
  obtain ⟨rfl,-,-⟩:=h1
  obtain ⟨rfl,-,-⟩:=k1
  exact ⟨_,_,_,_,rfl⟩
theorem kEntryS_p0_2 : Kd.Sub kEntryS 0 kRectS (fun x=>x.rect):=(Kd.Sub.left (Kd.Sub.rfl.via Entry.rect) _ (by decide))
theorem kEntryS_self : Kd.Seals kEntryS kEntryS:=(Kd.Seals.cat (Kd.Seals.via kRectS_self _) (Kd.Seals.cat (Kd.Seals.via Kd.Seals.i64 _) (Kd.Seals.via Kd.Seals.i64 _)))
def kNodeS : Kd Node := ((Kd.i64.via Node.level).cat ((Kd.i64.via Node.nsn).cat ((Kd.i64.via Node.right).cat ((Kd.sl kEntryS).via Node.entries))))
theorem kNodeS_sh {w : World} {cs : List Value} {x : Node} {o s : List Nat} (h : kNodeS.Rel w cs x o s) : ∃ (A3 : Option Addr) (c3 : Nat),cs = [.int .i64 x.level,.int .i64 x.nsn,.int .i64 x.right,.slice A3 x.entries.length c3]:=by
  obtain ⟨c10,c20,o10,o20,s10,s20,rfl,rfl,rfl,h0,k0⟩:=h
  obtain ⟨rfl,-,-⟩:=h0
  obtain ⟨c11,c21,o11,o21,s11,s21,rfl,rfl,rfl,h1,k1⟩:=k0
  obtain ⟨rfl,-,-⟩:=h1
  obtain ⟨c12,c22,o12,o22,s12,s22,rfl,rfl,rfl,h2,k2⟩:=k1
  obtain ⟨rfl,-,-⟩:=h2
  obtain ⟨-,A3_,c3_,rfl,-⟩:=k2
  exact ⟨_,_,rfl⟩
theorem kNodeS_p3_1 : Kd.Sub kNodeS 3 (Kd.sl kEntryS) (fun x=>x.entries):=(Kd.Sub.right (Kd.Sub.right (Kd.Sub.right (Kd.Sub.rfl.via Node.entries) _) _) _)
def kRetiredS : Kd Retired := ((Kd.i64.via Retired.id).cat ((Kd.sl Kd.i64).via Retired.watch))
theorem kRetiredS_sh {w : World} {cs : List Value} {x : Retired} {o s : List Nat} (h : kRetiredS.Rel w cs x o s) : ∃ (A1 : Option Addr) (c1 : Nat),cs = [.int .i64 x.id,.slice A1 x.watch.length c1]:=by
  obtain ⟨c10,c20,o10,o20,s10,s20,rfl,rfl,rfl,h0,k0⟩:=h
  obtain ⟨rfl,-,-⟩:=h0
  obtain ⟨-,A1_,c1_,rfl,-⟩:=k0
  exact ⟨_,_,rfl⟩
theorem kRetiredS_p1_1 : Kd.Sub kRetiredS 1 (Kd.sl Kd.i64) (fun x=>x.watch):=(Kd.Sub.right (Kd.Sub.rfl.via Retired.watch) _)
def kArenaS : Kd Arena := ((Kd.i64.via Arena.dims).cat (((Kd.sl kNodeS).via Arena.nodes).cat (((Kd.sl Kd.i64).via Arena.free).cat ((Kd.sl kRetiredS).via Arena.retired))))
theorem kArenaS_sh {w : World} {cs : List Value} {x : Arena} {o s : List Nat} (h : kArenaS.Rel w cs x o s) : ∃ (A1 : Option Addr) (c1 : Nat) (A2 : Option Addr) (c2 : Nat) (A3 : Option Addr) (c3 : Nat),cs = [.int .i64 x.dims,.slice A1 x.nodes.length c1,.slice A2 x.free.length c2,.slice A3 x.retired.length c3]:=by
  obtain ⟨c10,c20,o10,o20,s10,s20,rfl,rfl,rfl,h0,k0⟩:=h
  obtain ⟨rfl,-,-⟩:=h0
  obtain ⟨c11,c21,o11,o21,s11,s21,rfl,rfl,rfl,h1,k1⟩:=k0
  obtain ⟨-,A1_,c1_,rfl,-⟩:=h1
  obtain ⟨c12,c22,o12,o22,s12,s22,rfl,rfl,rfl,h2,k2⟩:=k1
  obtain ⟨-,A2_,c2_,rfl,-⟩:=h2
  obtain ⟨-,A3_,c3_,rfl,-⟩:=k2
  exact ⟨_,_,_,_,_,_,rfl⟩
theorem kArenaS_p1_1 : Kd.Sub kArenaS 1 (Kd.sl kNodeS) (fun x=>x.nodes):=(Kd.Sub.right (Kd.Sub.left (Kd.Sub.rfl.via Arena.nodes) _ (by decide)) _)
theorem kArenaS_p2_1 : Kd.Sub kArenaS 2 (Kd.sl Kd.i64) (fun x=>x.free):=(Kd.Sub.right (Kd.Sub.right (Kd.Sub.left (Kd.Sub.rfl.via Arena.free) _ (by decide)) _) _)
theorem kArenaS_p3_1 : Kd.Sub kArenaS 3 (Kd.sl kRetiredS) (fun x=>x.retired):=(Kd.Sub.right (Kd.Sub.right (Kd.Sub.right (Kd.Sub.rfl.via Arena.retired) _) _) _)
def kTreeS : Kd Tree := ((Kd.i64.via Tree.style).cat ((kArenaS.via Tree.arena).cat ((Kd.i64.via Tree.root).cat ((Kd.i64.via Tree.rootNsn).cat (Kd.i64.via Tree.counter)))))
theorem kTreeS_sh {w : World} {cs : List Value} {x : Tree} {o s : List Nat} (h : kTreeS.Rel w cs x o s) : ∃ (A2 : Option Addr) (c2 : Nat) (A3 : Option Addr) (c3 : Nat) (A4 : Option Addr) (c4 : Nat),cs = [.int .i64 x.style,.int .i64 x.arena.dims,.slice A2 x.arena.nodes.length c2,.slice A3 x.arena.free.length c3,.slice A4 x.arena.retired.length c4,.int .i64 x.root,.int .i64 x.rootNsn,.int .i64 x.counter]:=by
  obtain ⟨c10,c20,o10,o20,s10,s20,rfl,rfl,rfl,h0,k0⟩:=h
  obtain ⟨rfl,-,-⟩:=h0
  obtain ⟨c11,c21,o11,o21,s11,s21,rfl,rfl,rfl,h1,k1⟩:=k0
  obtain ⟨_,_,_,_,_,_,rfl⟩:=kArenaS_sh h1
  obtain ⟨c12,c22,o12,o22,s12,s22,rfl,rfl,rfl,h2,k2⟩:=k1
  obtain ⟨rfl,-,-⟩:=h2
  obtain ⟨c13,c23,o13,o23,s13,s23,rfl,rfl,rfl,h3,k3⟩:=k2
  obtain ⟨rfl,-,-⟩:=h3
  obtain ⟨rfl,-,-⟩:=k3
  exact ⟨_,_,_,_,_,_,rfl⟩
theorem kTreeS_p1_4 : Kd.Sub kTreeS 1 kArenaS (fun x=>x.arena):=(Kd.Sub.right (Kd.Sub.left (Kd.Sub.rfl.via Tree.arena) _ (by decide)) _)
theorem kTreeS_p2_1 : Kd.Sub kTreeS 2 (Kd.sl kNodeS) (fun x=>x.arena.nodes):=(Kd.Sub.right (Kd.Sub.left (kArenaS_p1_1.via Tree.arena) _ (by decide)) _)
def kPairO : Kd Pair := ((Kd.i64.via Pair.id).cat (kRectO.via Pair.rect))
theorem kPairO_sh {w : World} {cs : List Value} {x : Pair} {o s : List Nat} (h : kPairO.Rel w cs x o s) : ∃ (A1 : Option Addr) (c1 : Nat) (A2 : Option Addr) (c2 : Nat),cs = [.int .i64 x.id,.slice A1 x.rect.low.length c1,.slice A2 x.rect.high.length c2]:=by
  obtain ⟨c10,c20,o10,o20,s10,s20,rfl,rfl,rfl,h0,k0⟩:=h
  obtain ⟨rfl,-,-⟩:=h0
  obtain ⟨_,_,_,_,rfl⟩:=kRectO_sh k0
  exact ⟨_,_,_,_,rfl⟩
theorem kPairO_seal : Kd.Seals kPairO kPairS:=(Kd.Seals.cat (Kd.Seals.via Kd.Seals.i64 _) (Kd.Seals.via kRectO_seal _))
def kEntryO : Kd Entry := ((kRectO.via Entry.rect).cat ((Kd.i64.via Entry.ref).cat (Kd.i64.via Entry.nsn)))
theorem kEntryO_sh {w : World} {cs : List Value} {x : Entry} {o s : List Nat} (h : kEntryO.Rel w cs x o s) : ∃ (A0 : Option Addr) (c0 : Nat) (A1 : Option Addr) (c1 : Nat),cs = [.slice A0 x.rect.low.length c0,.slice A1 x.rect.high.length c1,.int .i64 x.ref,.int .i64 x.nsn]:=by
  obtain ⟨c10,c20,o10,o20,s10,s20,rfl,rfl,rfl,h0,k0⟩:=h
  obtain ⟨_,_,_,_,rfl⟩:=kRectO_sh h0
  obtain ⟨c11,c21,o11,o21,s11,s21,rfl,rfl,rfl,h1,k1⟩:=k0
  obtain ⟨rfl,-,-⟩:=h1
  obtain ⟨rfl,-,-⟩:=k1
  exact ⟨_,_,_,_,rfl⟩
theorem kEntryO_seal : Kd.Seals kEntryO kEntryS:=(Kd.Seals.cat (Kd.Seals.via kRectO_seal _) (Kd.Seals.cat (Kd.Seals.via Kd.Seals.i64 _) (Kd.Seals.via Kd.Seals.i64 _)))
def kNodeO : Kd Node := ((Kd.i64.via Node.level).cat ((Kd.i64.via Node.nsn).cat ((Kd.i64.via Node.right).cat ((Kd.row 102 kEntryO).via Node.entries))))
theorem kNodeO_sh {w : World} {cs : List Value} {x : Node} {o s : List Nat} (h : kNodeO.Rel w cs x o s) : ∃ (A3 : Option Addr) (c3 : Nat),cs = [.int .i64 x.level,.int .i64 x.nsn,.int .i64 x.right,.slice A3 x.entries.length c3]:=by
  obtain ⟨c10,c20,o10,o20,s10,s20,rfl,rfl,rfl,h0,k0⟩:=h
  obtain ⟨rfl,-,-⟩:=h0
  obtain ⟨c11,c21,o11,o21,s11,s21,rfl,rfl,rfl,h1,k1⟩:=k0
  obtain ⟨rfl,-,-⟩:=h1
  obtain ⟨c12,c22,o12,o22,s12,s22,rfl,rfl,rfl,h2,k2⟩:=k1
  obtain ⟨rfl,-,-⟩:=h2
  obtain ⟨A3_,c3_,rfl⟩:=Kd.row_sh k2
  exact ⟨_,_,rfl⟩
theorem kNodeO_seal : Kd.Seals kNodeO kNodeS:=(Kd.Seals.cat (Kd.Seals.via Kd.Seals.i64 _) (Kd.Seals.cat (Kd.Seals.via Kd.Seals.i64 _) (Kd.Seals.cat (Kd.Seals.via Kd.Seals.i64 _) (Kd.Seals.via (Kd.Seals.row kEntryO_seal _) _))))
def kRetiredO : Kd Retired := ((Kd.i64.via Retired.id).cat ((Kd.row 2 Kd.i64).via Retired.watch))
theorem kRetiredO_sh {w : World} {cs : List Value} {x : Retired} {o s : List Nat} (h : kRetiredO.Rel w cs x o s) : ∃ (A1 : Option Addr) (c1 : Nat),cs = [.int .i64 x.id,.slice A1 x.watch.length c1]:=by
  obtain ⟨c10,c20,o10,o20,s10,s20,rfl,rfl,rfl,h0,k0⟩:=h
  obtain ⟨rfl,-,-⟩:=h0
  obtain ⟨A1_,c1_,rfl⟩:=Kd.row_sh k0
  exact ⟨_,_,rfl⟩
theorem kRetiredO_seal : Kd.Seals kRetiredO kRetiredS:=(Kd.Seals.cat (Kd.Seals.via Kd.Seals.i64 _) (Kd.Seals.via (Kd.Seals.row Kd.Seals.i64 _) _))
def kArenaO : Kd Arena := ((Kd.i64.via Arena.dims).cat (((Kd.row 52 kNodeO).via Arena.nodes).cat (((Kd.row 2 Kd.i64).via Arena.free).cat ((Kd.row 133 kRetiredO).via Arena.retired))))
theorem kArenaO_sh {w : World} {cs : List Value} {x : Arena} {o s : List Nat} (h : kArenaO.Rel w cs x o s) : ∃ (A1 : Option Addr) (c1 : Nat) (A2 : Option Addr) (c2 : Nat) (A3 : Option Addr) (c3 : Nat),cs = [.int .i64 x.dims,.slice A1 x.nodes.length c1,.slice A2 x.free.length c2,.slice A3 x.retired.length c3]:=by
  obtain ⟨c10,c20,o10,o20,s10,s20,rfl,rfl,rfl,h0,k0⟩:=h
  obtain ⟨rfl,-,-⟩:=h0
  obtain ⟨c11,c21,o11,o21,s11,s21,rfl,rfl,rfl,h1,k1⟩:=k0
  obtain ⟨A1_,c1_,rfl⟩:=Kd.row_sh h1
  obtain ⟨c12,c22,o12,o22,s12,s22,rfl,rfl,rfl,h2,k2⟩:=k1
  obtain ⟨A2_,c2_,rfl⟩:=Kd.row_sh h2
  obtain ⟨A3_,c3_,rfl⟩:=Kd.row_sh k2
  exact ⟨_,_,_,_,_,_,rfl⟩
theorem kArenaO_seal : Kd.Seals kArenaO kArenaS:=(Kd.Seals.cat (Kd.Seals.via Kd.Seals.i64 _) (Kd.Seals.cat (Kd.Seals.via (Kd.Seals.row kNodeO_seal _) _) (Kd.Seals.cat (Kd.Seals.via (Kd.Seals.row Kd.Seals.i64 _) _) (Kd.Seals.via (Kd.Seals.row kRetiredO_seal _) _))))
def kTreeO : Kd Tree := ((Kd.i64.via Tree.style).cat ((kArenaO.via Tree.arena).cat ((Kd.i64.via Tree.root).cat ((Kd.i64.via Tree.rootNsn).cat (Kd.i64.via Tree.counter)))))
theorem kTreeO_sh {w : World} {cs : List Value} {x : Tree} {o s : List Nat} (h : kTreeO.Rel w cs x o s) : ∃ (A2 : Option Addr) (c2 : Nat) (A3 : Option Addr) (c3 : Nat) (A4 : Option Addr) (c4 : Nat),cs = [.int .i64 x.style,.int .i64 x.arena.dims,.slice A2 x.arena.nodes.length c2,.slice A3 x.arena.free.length c3,.slice A4 x.arena.retired.length c4,.int .i64 x.root,.int .i64 x.rootNsn,.int .i64 x.counter]:=by
  obtain ⟨c10,c20,o10,o20,s10,s20,rfl,rfl,rfl,h0,k0⟩:=h
  obtain ⟨rfl,-,-⟩:=h0
  obtain ⟨c11,c21,o11,o21,s11,s21,rfl,rfl,rfl,h1,k1⟩:=k0
  obtain ⟨_,_,_,_,_,_,rfl⟩:=kArenaO_sh h1
  obtain ⟨c12,c22,o12,o22,s12,s22,rfl,rfl,rfl,h2,k2⟩:=k1
  obtain ⟨rfl,-,-⟩:=h2
  obtain ⟨c13,c23,o13,o23,s13,s23,rfl,rfl,rfl,h3,k3⟩:=k2
  obtain ⟨rfl,-,-⟩:=h3
  obtain ⟨rfl,-,-⟩:=k3
  exact ⟨_,_,_,_,_,_,rfl⟩
theorem kTreeO_seal : Kd.Seals kTreeO kTreeS:=(Kd.Seals.cat (Kd.Seals.via Kd.Seals.i64 _) (Kd.Seals.cat (Kd.Seals.via kArenaO_seal _) (Kd.Seals.cat (Kd.Seals.via Kd.Seals.i64 _) (Kd.Seals.cat (Kd.Seals.via Kd.Seals.i64 _) (Kd.Seals.via Kd.Seals.i64 _)))))
theorem Pair_eq (a b : Pair) : decide (a = b) = (decide (a.id = b.id) && decide (a.rect = b.rect)):=by
  cases a; cases b; rw [Bool.eq_iff_iff]; simp [and_assoc]
theorem Entry_eq (a b : Entry) : decide (a = b) = (decide (a.rect = b.rect) && decide (a.ref = b.ref) && decide (a.nsn = b.nsn)):=by
  cases a; cases b; rw [Bool.eq_iff_iff]; simp [and_assoc]
theorem Node_eq (a b : Node) : decide (a = b) = (decide (a.level = b.level) && decide (a.nsn = b.nsn) && decide (a.right = b.right) && decide (a.entries = b.entries)):=by
  cases a; cases b; rw [Bool.eq_iff_iff]; simp [and_assoc]
theorem Retired_eq (a b : Retired) : decide (a = b) = (decide (a.id = b.id) && decide (a.watch = b.watch)):=by
  cases a; cases b; rw [Bool.eq_iff_iff]; simp [and_assoc]
theorem Arena_eq (a b : Arena) : decide (a = b) = (decide (a.dims = b.dims) && decide (a.nodes = b.nodes) && decide (a.free = b.free) && decide (a.retired = b.retired)):=by
  cases a; cases b; rw [Bool.eq_iff_iff]; simp [and_assoc]
theorem Tree_eq (a b : Tree) : decide (a = b) = (decide (a.style = b.style) && decide (a.arena = b.arena) && decide (a.root = b.root) && decide (a.rootNsn = b.rootNsn) && decide (a.counter = b.counter)):=by
  cases a; cases b; rw [Bool.eq_iff_iff]; simp [and_assoc]
def szEntry (a : Entry) : Int := szRect a.rect
theorem szEntry_nn (a : Entry) : 0 ≤ szEntry a:=by have:=szRect_nn a.rect; unfold szEntry; omega
def zEntry : Entry := (⟨zRect, 0, 0⟩ : Entry)
theorem laws_eqEntry (w : World) {a : Entry} (ha : kEntryS.Rel w [.slice Aa0 a.rect.low.length ca0,.slice Aa1 a.rect.high.length ca1,.int .i64 a.ref,.int .i64 a.nsn] a [] sa_) {b : Entry} (hb : kEntryS.Rel w [.slice Ab0 b.rect.low.length cb0,.slice Ab1 b.rect.high.length cb1,.int .i64 b.ref,.int .i64 b.nsn] b [] sb_)  : Calls Tryz.prog 59 #[.agg #[.slice Aa0 a.rect.low.length ca0,.slice Aa1 a.rect.high.length ca1,.int .i64 a.ref,.int .i64 a.nsn],.agg #[.slice Ab0 b.rect.low.length cb0,.slice Ab1 b.rect.high.length cb1,.int .i64 b.ref,.int .i64 b.nsn]] w (fun e_ w2_=>e_ = .returned (.bool (decide (a = b))) ∧ Below w.heap.size w w2_):=by
  refine fnc (X:=X 21 w) (l:=[(0,.agg #[.slice Aa0 a.rect.low.length ca0,.slice Aa1 a.rect.high.length ca1,.int .i64 a.ref,.int .i64 a.nsn]),(1,.agg #[.slice Ab0 b.rect.low.length cb0,.slice Ab1 b.rect.high.length cb1,.int .i64 b.ref,.int .i64 b.nsn])]) Tryz.func59 rfl rfl rfl ⟨rfl,rfl,trivial⟩ (s0d hb (s0d ha (s0n w))).1 ?_
  refine sq (rg (bx rfl rfl rfl rfl ?_))
  intro b1
  refine bx rfl rfl rfl rfl ?_
  intro b2
  refine rn ik 10 [1,0,0,0] rfl ?_
  refine gd 3 kEntryS_p0_2 rfl (cs':=[.slice Aa0 a.rect.low.length ca0,.slice Aa1 a.rect.high.length ca1]) rfl fun s3 w_ rs3 us3=>?_
  refine gd 3 kEntryS_p0_2 rfl (cs':=[.slice Ab0 b.rect.low.length cb0,.slice Ab1 b.rect.high.length cb1]) rfl fun s4 w_ rs4 us4=>?_
  refine cs_ (v:=.bool (decide (a.rect = b.rect))) (by kernel_rfl) rfl rfl rfl (fun w_ hs_=>laws_eqRect w_ (hs_.at 1 rfl) (hs_.at 0 rfl)) (rn ik 3 [] rfl ?_)
  by_cases h5 : decide (a.rect = b.rect) = true
  · refine r1_ ik 13 [0,3,0,2,0] rfl (not_f h5) ?_
    by_cases h6 : a.ref = b.ref
    · refine r1_ ik 13 [0,3,0,2,0] rfl (bne_eq_false_iff_eq.2 h6) ?_
      by_cases h7 : a.nsn = b.nsn
      · refine r1_ ik 9 [0] rfl (bne_eq_false_iff_eq.2 h7) (ret1 rfl rfl (fun w_ hs_=>⟨?_,hs_.below⟩))
        rw [Entry_eq]; simp [h5,h6,h7]
      · refine r1_ ik 8 [1] rfl (bne_iff_ne.2 h7) (ret1 rfl rfl (fun w_ hs_=>⟨?_,hs_.below⟩))
        rw [Entry_eq]; simp [h5,h6,h7]
    · refine r1_ ik 8 [1] rfl (bne_iff_ne.2 h6) (ret1 rfl rfl (fun w_ hs_=>⟨?_,hs_.below⟩))
      rw [Entry_eq]; simp [h5,h6]
  · refine r1_ ik 8 [1] rfl (not_t (Bool.eq_false_iff.2 h5)) (ret1 rfl rfl (fun w_ hs_=>⟨?_,hs_.below⟩))
    rw [Entry_eq]; simp [h5]
theorem laws_szEntry (w : World) (left : Int) {a : Entry} (ha : kEntryS.Rel w [.slice Aa0 a.rect.low.length ca0,.slice Aa1 a.rect.high.length ca1,.int .i64 a.ref,.int .i64 a.nsn] a [] sa_) (h0 : 0 ≤ left) (h1 : left ≤ 1152921504606846976) : Calls Tryz.prog 48 #[.agg #[.slice Aa0 a.rect.low.length ca0,.slice Aa1 a.rect.high.length ca1,.int .i64 a.ref,.int .i64 a.nsn],.int .i64 left] w (fun e_ w2_=>e_ = .returned (.int .i64 (szTake (szEntry a) left)) ∧ Below w.heap.size w w2_):=by
  have n0:=szRect_nn a.rect
  refine fnc (X:=X 12 w) (l:=[(0,.agg #[.slice Aa0 a.rect.low.length ca0,.slice Aa1 a.rect.high.length ca1,.int .i64 a.ref,.int .i64 a.nsn]),(1,.int .i64 left)]) Tryz.func48 rfl rfl rfl ⟨rfl,rfl,trivial⟩ (s0d ha (s0n w)).1 ?_
  refine sq (rg (bx rfl rfl rfl rfl ?_))
  intro b1
  refine rn ik 8 [0,0] rfl ?_
  refine gd 1 kEntryS_p0_2 rfl (cs':=[.slice Aa0 a.rect.low.length ca0,.slice Aa1 a.rect.high.length ca1]) rfl fun s2 w_ rs2 us2=>?_
  refine cs_ (v:=.int .i64 (szTake (szRect a.rect) left)) (by kernel_rfl) rfl rfl rfl (fun w_ hs_=>laws_szRect w_ _ (hs_.at 0 rfl) (by omega) (by omega)) (rn ik 10 [] rfl ?_)
  by_cases h3 : (szTake (szRect a.rect) left) < (0 : Int)
  · have eh3:=szTake_t h3
    refine r1_ ik 8 [1] rfl (decide_eq_true h3) (ret1 rfl rfl (fun w_ hs_=>⟨?_,hs_.below⟩))
    exact ri (by unfold szTake szEntry; split <;> omega)
  · have eh3:=szTake_f h3
    refine r1_ ik 10 [0] rfl (decide_eq_false h3) (ret1 rfl rfl (fun w_ hs_=>⟨?_,hs_.below⟩))
    exact ri (by unfold szTake szEntry; split <;> omega)
theorem laws_toEntry (w : World) {a : Entry} (ha : kEntryS.Rel w [.slice Aa0 a.rect.low.length ca0,.slice Aa1 a.rect.high.length ca1,.int .i64 a.ref,.int .i64 a.nsn] a [] sa_) (hz : szEntry a ≤ 1048576) : Calls Tryz.prog 53 #[.agg #[.slice Aa0 a.rect.low.length ca0,.slice Aa1 a.rect.high.length ca1,.int .i64 a.ref,.int .i64 a.nsn]] w (Made kEntryO w a []):=by
  unfold szEntry at hz; have n0:=szRect_nn a.rect
  refine fnc (X:=X 15 w) (l:=[(0,.agg #[.slice Aa0 a.rect.low.length ca0,.slice Aa1 a.rect.high.length ca1,.int .i64 a.ref,.int .i64 a.nsn])]) Tryz.func53 rfl rfl rfl ⟨rfl,trivial⟩ (s0d ha (s0n w)).1 ?_
  refine sq (rg (bx rfl rfl rfl rfl ?_))
  intro b1
  refine al zero102 rfl rfl rfl ?_
  intro b2
  refine rn ik 4 [] rfl (al zero102 rfl rfl rfl ?_)
  intro b3
  refine rn ik 6 [2,0] rfl ?_
  refine gd 3 kEntryS_p0_2 rfl (cs':=[.slice Aa0 a.rect.low.length ca0,.slice Aa1 a.rect.high.length ca1]) rfl fun s4 w_ rs4 us4=>?_
  refine cm_ (dk:=kRectO) (x:=a.rect) (S:=[]) (by kernel_rfl) rfl rfl rfl sn0 (fun w_ hs_=>laws_toRect w_ (hs_.at 0 rfl) (by omega)) (fun cs_ o9 s10 w_ r11 t12=>?_)
  obtain ⟨A5,c6,A7,c8,rfl⟩:=kRectO_sh r11
  exact vl (fa rfl rfl rfl) rfl (f2 (sto rfl rfl rfl rfl rfl rfl rfl (cs':=[.slice A5 a.rect.low.length c6,.slice A7 a.rect.high.length c8,.int .i64 0,.int .i64 0]) rfl (rn ik 7 [4,0] rfl (sto rfl rfl rfl rfl rfl rfl rfl (cs':=[.slice A5 a.rect.low.length c6,.slice A7 a.rect.high.length c8,.int .i64 a.ref,.int .i64 0]) rfl (rn ik 7 [4,0] rfl (sto rfl rfl rfl rfl rfl rfl rfl (cs':=[.slice A5 a.rect.low.length c6,.slice A7 a.rect.high.length c8,.int .i64 a.ref,.int .i64 a.nsn]) rfl (rn ik 5 [0,0] rfl (f3 (sto rfl rfl rfl rfl rfl rfl rfl (cs':=[.slice A5 a.rect.low.length c6,.slice A7 a.rect.high.length c8,.int .i64 a.ref,.int .i64 a.nsn]) rfl (en (nx (rt (gs Kd.i64 [.int .i64 a.nsn] a.nsn (fun _=>⟨rfl,rfl,rfl⟩) (gs Kd.i64 [.int .i64 a.ref] a.ref (fun _=>⟨rfl,rfl,rfl⟩) (gj (da:=(Kd.via Kd.i64 Entry.ref)) (db:=(Kd.via Kd.i64 Entry.nsn)) (x:=a) rfl (f3 (gj (da:=(Kd.via kRectO Entry.rect)) (db:=((Kd.via Kd.i64 Entry.ref).cat (Kd.via Kd.i64 Entry.nsn))) (x:=a) rfl (retc 1 rfl rfl rfl rfl rfl rfl (fun w_ hs_=>made hs_ rfl (see_app t12 (see_app see_nil see_nil)))))))))))))))))))))
theorem laws_eqEntryS (w : World) {a : List Entry} (ha : (Kd.sl kEntryS).Rel w [.slice Aa a.length ca] a [] sa_) {b : List Entry} (hb : (Kd.sl kEntryS).Rel w [.slice Ab b.length cb] b [] sb_)  : Calls Tryz.prog 12 #[.slice Aa a.length ca,.slice Ab b.length cb] w (fun e_ w2_=>e_ = .returned (.bool (decide (a = b))) ∧ Below w.heap.size w w2_):=by
  have La:=Kd.sl_len ha; have Ca:=Kd.sl_cap ha
  have Lb:=Kd.sl_len hb; have Cb:=Kd.sl_cap hb
  refine fnc (X:=X 27 w) (l:=[(0,.slice Aa a.length ca),(1,.slice Ab b.length cb)]) Tryz.func12 rfl rfl rfl ⟨rfl,rfl,trivial⟩ (s0d hb (s0d ha (s0n w))).1 ?_
  refine rn ik 15 [] rfl ?_
  by_cases h1 : ((a.length : Nat) : Int) = ((b.length : Nat) : Int)
  · refine r1_ ik 10 [0] rfl (bne_eq_false_iff_eq.2 h1) ?_
    refine lp (σ:=Nat) (fun k : Nat=>[(0,.slice Aa a.length ca),(1,.slice Ab b.length cb),(5,.int .i64 ((k : Nat) : Int))])
        (fun k : Nat=>[dat (Kd.sl kEntryS) [.slice Ab b.length cb] b ([]) sb_,dat (Kd.sl kEntryS) [.slice Aa a.length ca] a ([]) sa_])
        (fun k : Nat=>k ≤ a.length ∧ ∀ j x y,j < k → a[j]? = some x → b[j]? = some y → x = y) (fun k : Nat=>a.length - k) 0 [0,0] ⟨Nat.zero_le _,by simp⟩ ⟨rfl,rfl,rfl,trivial⟩ rfl ?_
    intro k hp_
    obtain ⟨hk,hinv⟩:=hp_
    refine rn ik 9 [] rfl ?_
    by_cases h2 : ((k : Nat) : Int) < ((a.length : Nat) : Int)
    · refine r1_ ik 6 [1] rfl (decide_eq_true h2) ?_
      refine gx 1 k rfl (by omega) fun y8 p3 cs_ s4 w7 m9 e5 r6 us4=>?_
      obtain ⟨A10,c11,A12,c13,rfl⟩:=kEntryS_sh r6
      refine gx 1 k rfl (by omega) fun y19 p14 cs_ s15 w18 m20 e16 r17 us15=>?_
      obtain ⟨A21,c22,A23,c24,rfl⟩:=kEntryS_sh r17
      refine gp 1 Kd.Sub.rfl rfl (cs':=[.slice A10 y8.rect.low.length c11,.slice A12 y8.rect.high.length c13,.int .i64 y8.ref,.int .i64 y8.nsn]) rfl fun s25 w_ rs25 us25=>?_
      refine gp 1 Kd.Sub.rfl rfl (cs':=[.slice A21 y19.rect.low.length c22,.slice A23 y19.rect.high.length c24,.int .i64 y19.ref,.int .i64 y19.nsn]) rfl fun s26 w_ rs26 us26=>?_
      refine rn ik 3 [1,2] rfl (qv 2 rfl (ix k e5 rfl rfl rfl rfl rfl (by omega)) rfl (by kernel_rfl) (rn ik 3 [4,3,0,5,6] rfl (qv 6 rfl (ix k e16 rfl rfl rfl rfl rfl (by omega)) rfl (by kernel_rfl) (qv 7 rfl (ldq 2 rfl rfl rfl rfl rfl rfl rfl) rfl (by kernel_rfl) (q1 8 [0,0,0,0,0,0] rfl (by kernel_rfl) rfl (cs_ (v:=.bool (decide (y8 = y19))) (by kernel_rfl) rfl rfl rfl (fun w_ hs_=>by exact laws_eqEntry w_ (hs_.at 1 rfl) (hs_.at 0 rfl)) (qn (r1_ ik 3 [10,0] rfl ⟨[0,0,0,0,0,0],rfl⟩ ?_))))))))
      by_cases h27 : decide (y8 = y19) = true
      · exact r1_ ik 6 [0] rfl (not_f h27) (vl (ra (c:=((k + 1 : Nat) : Int)) rfl rfl rfl (by omega) (by omega) (by omega)) rfl (rn ik 2 [] rfl (lpe (s:=k) (k + 1) [4,4] ⟨by omega,eq_step hinv m9 m20 (by simpa using h27)⟩ (by omega) ⟨rfl,rfl,rfl,trivial⟩ rfl)))
      · refine r1_ ik 12 [1] rfl (not_t (Bool.eq_false_iff.2 h27)) (ret1 rfl rfl (fun w_ hs_=>⟨?_,hs_.below⟩))
        exact rb (eqS_f m9 m20 (by simpa using h27)).symm
    · refine r1_ ik 12 [0] rfl (decide_eq_false h2) (ret1 rfl rfl (fun w_ hs_=>⟨?_,hs_.below⟩))
      exact rb (eqS_t (by omega) hinv (by omega)).symm
  · refine r1_ ik 8 [1] rfl (bne_iff_ne.2 h1) (ret1 rfl rfl (fun w_ hs_=>⟨?_,hs_.below⟩))
    exact rb (by rw [eq_comm,decide_eq_false_iff_not]; rintro rfl; exact h1 rfl)
theorem laws_szEntryS (w : World) (left : Int) {a : List Entry} (ha : (Kd.sl kEntryS).Rel w [.slice Aa a.length ca] a [] sa_) (h0 : 0 ≤ left) (h1 : left ≤ 1152921504606846976) : Calls Tryz.prog 7 #[.slice Aa a.length ca,.int .i64 left] w (fun e_ w2_=>e_ = .returned (.int .i64 (szTake (szList szEntry a) left)) ∧ Below w.heap.size w w2_):=by
  have La:=Kd.sl_len ha; have Ca:=Kd.sl_cap ha
  refine fnc (X:=X 27 w) (l:=[(0,.slice Aa a.length ca),(1,.int .i64 left)]) Tryz.func7 rfl rfl rfl ⟨rfl,rfl,trivial⟩ (s0d ha (s0n w)).1 ?_
  refine rn ik 10 [] rfl (vl (rs (c:=left - ((a.length : Nat) : Int)) rfl rfl rfl rfl (by omega) (by omega)) rfl (rn ik 10 [] rfl ?_))
  by_cases h1 : left - ((a.length : Nat) : Int) < (0 : Int)
  · refine r1_ ik 8 [1] rfl (decide_eq_true h1) (ret1 rfl rfl (fun w_ hs_=>⟨?_,hs_.below⟩))
    exact ri (by have z:=sum_nn szEntry_nn a; unfold szTake szList; split <;> omega)
  · refine r1_ ik 10 [0] rfl (decide_eq_false h1) ?_
    refine lp (σ:=Nat × Int) (fun z_ : Nat × Int=>match z_ with | (k,v)=>[(0,.slice Aa a.length ca),(1,.int .i64 v),(5,.int .i64 ((k : Nat) : Int))])
        (fun z_ : Nat × Int=>match z_ with | (k,v)=>[dat (Kd.sl kEntryS) [.slice Aa a.length ca] a ([]) sa_])
        (fun z_ : Nat × Int=>match z_ with | (k,v)=>k ≤ a.length ∧ 0 ≤ v ∧ v = left - (a.length : Int) - sumTo szEntry a k) (fun z_ : Nat × Int=>match z_ with | (k,v)=>a.length - k) (0,left - (a.length : Int)) [0] ⟨Nat.zero_le _,by omega,by simp [sumTo]⟩ ⟨rfl,rfl,rfl,trivial⟩ rfl ?_
    rintro ⟨k,v⟩ hp_
    obtain ⟨hk,hv0,hinv⟩:=hp_; have z1:=sumTo_nn szEntry_nn a k; have z2:=sumTo_le szEntry_nn a k
    refine rn ik 9 [] rfl ?_
    by_cases h2 : ((k : Nat) : Int) < ((a.length : Nat) : Int)
    · refine r1_ ik 9 [1] rfl (decide_eq_true h2) ?_
      refine gx 0 k rfl (by omega) fun y8 p3 cs_ s4 w7 m9 e5 r6 us4=>?_
      obtain ⟨A10,c11,A12,c13,rfl⟩:=kEntryS_sh r6
      refine vl (ix k e5 rfl rfl rfl rfl rfl (by omega)) rfl (rn ik 2 [0,0] rfl ?_)
      refine gp 0 Kd.Sub.rfl rfl (cs':=[.slice A10 y8.rect.low.length c11,.slice A12 y8.rect.high.length c13,.int .i64 y8.ref,.int .i64 y8.nsn]) rfl fun s14 w_ rs14 us14=>?_
      refine cs_ (v:=.int .i64 (szTake (szEntry y8) v)) (by kernel_rfl) rfl rfl rfl (fun w_ hs_=>laws_szEntry w_ _ (hs_.at 0 rfl) (by omega) (by omega)) (rn ik 9 [] rfl ?_)
      by_cases h15 : (szTake (szEntry y8) v) < (0 : Int)
      · have eh15:=szTake_t h15
        refine r1_ ik 12 [1] rfl (decide_eq_true h15) (ret1 rfl rfl (fun w_ hs_=>⟨?_,hs_.below⟩))
        exact ri (by have z:=sumTo_step (f:=szEntry) m9; have z3:=sumTo_le szEntry_nn a (k + 1); unfold szTake szList; split <;> omega)
      · have eh15:=szTake_f h15
        exact r1_ ik 6 [0] rfl (decide_eq_false h15) (vl (ra (c:=((k + 1 : Nat) : Int)) rfl rfl rfl (by omega) (by omega) (by omega)) rfl (rn ik 2 [] rfl (lpe (s:=(k,v)) (k + 1,(szTake (szEntry y8) v)) [2] ⟨by omega,by omega,by have z:=sumTo_step (f:=szEntry) m9; omega⟩ (by show a.length - (k + 1) < a.length - k; omega) ⟨rfl,rfl,rfl,trivial⟩ rfl)))
    · refine r1_ ik 13 [0] rfl (decide_eq_false h2) (ret1 rfl rfl (fun w_ hs_=>⟨?_,hs_.below⟩))
      exact ri (by have z:=sumTo_end (f:=szEntry) (l:=a) (k:=k) (by omega); unfold szTake szList; split <;> omega)
theorem laws_toEntryS (w : World) {a : List Entry} (ha : (Kd.sl kEntryS).Rel w [.slice Aa a.length ca] a [] sa_) (hz : szList szEntry a ≤ 1048576) : Calls Tryz.prog 9 #[.slice Aa a.length ca] w (Made (Kd.row 102 kEntryO) w a []):=by
  have La:=Kd.sl_len ha; have Ca:=Kd.sl_cap ha
  have zl:=szList_len szEntry_nn a
  refine fnc (X:=X 23 w) (l:=[(0,.slice Aa a.length ca)]) Tryz.func9 rfl rfl rfl ⟨rfl,trivial⟩ (s0d ha (s0n w)).1 ?_
  refine rn ik 9 [] rfl (mk (dk:=kEntryO) (z:=zEntry) rfl info102 rfl (fun _=>⟨[_,_],_,[],[],[],[],rfl,rfl,rfl,⟨[_],_,[],[],[],[],rfl,rfl,rfl,.inl ⟨rfl,rfl,rfl,rfl⟩,.inl ⟨rfl,rfl,rfl,rfl⟩⟩,⟨[_],_,[],[],[],[],rfl,rfl,rfl,⟨rfl,rfl,rfl⟩,⟨rfl,rfl,rfl⟩⟩⟩) rfl rfl (by omega) (by omega) rfl ?_)
  intro b1
  refine rn ik 10 [] rfl ?_
  refine lp (σ:=Nat × List Nat × List Nat) (fun z_ : Nat × List Nat × List Nat=>match z_ with | (k,o,s)=>[(0,.slice Aa a.length ca),(3,.slice (some ⟨b1,0,none⟩) a.length a.length),(4,.int .i64 ((k : Nat) : Int))])
      (fun z_ : Nat × List Nat × List Nat=>match z_ with | (k,o,s)=>[dat (Kd.row 102 kEntryO) [.slice (some ⟨b1,0,none⟩) a.length a.length] (a.take k ++ List.replicate (a.length - k) zEntry) o s,dat (Kd.sl kEntryS) [.slice Aa a.length ca] a ([]) sa_])
      (fun z_ : Nat × List Nat × List Nat=>match z_ with | (k,o,s)=>k ≤ a.length ∧ ∀ q ∈ s,w.heap.size ≤ q) (fun z_ : Nat × List Nat × List Nat=>match z_ with | (k,o,s)=>a.length - k) (0,[b1],[]) [0,0] ⟨Nat.zero_le _,by simp⟩ ⟨rfl,rfl,rfl,trivial⟩ rfl ?_
  rintro ⟨k,o,s⟩ hp_
  obtain ⟨hk,hinv⟩:=hp_
  refine rn ik 9 [] rfl ?_
  by_cases h2 : ((k : Nat) : Int) < ((a.length : Nat) : Int)
  · refine r1_ ik 10 [1] rfl (decide_eq_true h2) ?_
    refine gx 1 k rfl (by omega) fun y8 p3 cs_ s4 w7 m9 e5 r6 us4=>?_
    obtain ⟨A10,c11,A12,c13,rfl⟩:=kEntryS_sh r6
    refine vl (ix k e5 rfl rfl rfl rfl rfl (by omega)) rfl (vl (ldq 0 rfl rfl rfl rfl rfl rfl rfl) rfl ?_)
    refine gp 0 Kd.Sub.rfl rfl (cs':=[.slice A10 y8.rect.low.length c11,.slice A12 y8.rect.high.length c13,.int .i64 y8.ref,.int .i64 y8.nsn]) rfl fun s14 w_ rs14 us14=>?_
    refine cm_ (dk:=kEntryO) (x:=y8) (S:=[]) (by kernel_rfl) rfl rfl rfl sn0 (fun w_ hs_=>laws_toEntry w_ (hs_.at 0 rfl) (by have z:=szList_mem szEntry_nn m9; omega)) (fun cs_ o19 s20 w_ r21 t22=>?_)
    obtain ⟨A15,c16,A17,c18,rfl⟩:=kEntryO_sh r21
    refine vl (ix k rfl rfl rfl rfl rfl rfl (by omega)) rfl (f3 (ste k rfl rfl rfl rfl rfl (by first | omega | (simp; omega)) (fun o24 s25 t26=>?_)))
    exact gr (a.take (k + 1) ++ List.replicate (a.length - (k + 1)) zEntry) (rowStep m9) (rn ik 5 [] rfl (vl (ra (c:=((k + 1 : Nat) : Int)) rfl rfl rfl (by omega) (by omega) (by omega)) rfl (rn ik 2 [] rfl (lpe (s:=(k,o,s)) (k + 1,o24,s25) [0,2] ⟨by omega,fun q hq=>(t26 q hq).elim (hinv q) (fun h=>(t22 q h).resolve_left (by simp))⟩ (by show a.length - (k + 1) < a.length - k; omega) ⟨rfl,rfl,rfl,trivial⟩ rfl))))
  · exact r1_ ik 13 [0] rfl (decide_eq_false h2) (gr a (rowEnd (by omega)) (ret1 rfl rfl (fun w_ hs_=>made hs_ rfl (fun q hq=>.inr (hinv q hq)))))
def szNode (a : Node) : Int := szList szEntry a.entries
theorem szNode_nn (a : Node) : 0 ≤ szNode a:=by have:=szList_nn szEntry_nn a.entries; unfold szNode; omega
def zNode : Node := (⟨0, 0, 0, []⟩ : Node)
theorem laws_eqNode (w : World) {a : Node} (ha : kNodeS.Rel w [.int .i64 a.level,.int .i64 a.nsn,.int .i64 a.right,.slice Aa3 a.entries.length ca3] a [] sa_) {b : Node} (hb : kNodeS.Rel w [.int .i64 b.level,.int .i64 b.nsn,.int .i64 b.right,.slice Ab3 b.entries.length cb3] b [] sb_)  : Calls Tryz.prog 265 #[.agg #[.int .i64 a.level,.int .i64 a.nsn,.int .i64 a.right,.slice Aa3 a.entries.length ca3],.agg #[.int .i64 b.level,.int .i64 b.nsn,.int .i64 b.right,.slice Ab3 b.entries.length cb3]] w (fun e_ w2_=>e_ = .returned (.bool (decide (a = b))) ∧ Below w.heap.size w w2_):=by
  refine fnc (X:=X 26 w) (l:=[(0,.agg #[.int .i64 a.level,.int .i64 a.nsn,.int .i64 a.right,.slice Aa3 a.entries.length ca3]),(1,.agg #[.int .i64 b.level,.int .i64 b.nsn,.int .i64 b.right,.slice Ab3 b.entries.length cb3])]) Tryz.func265 rfl rfl rfl ⟨rfl,rfl,trivial⟩ (s0d hb (s0d ha (s0n w))).1 ?_
  refine sq (rg (bx rfl rfl rfl rfl ?_))
  intro b1
  refine bx rfl rfl rfl rfl ?_
  intro b2
  refine rn ik 13 [1,0,0,0] rfl ?_
  by_cases h3 : a.level = b.level
  · refine r1_ ik 13 [0,1,0,0,0] rfl (bne_eq_false_iff_eq.2 h3) ?_
    by_cases h4 : a.nsn = b.nsn
    · refine r1_ ik 13 [0,1,0,0,0] rfl (bne_eq_false_iff_eq.2 h4) ?_
      by_cases h5 : a.right = b.right
      · refine r1_ ik 10 [0,1,0,0,0] rfl (bne_eq_false_iff_eq.2 h5) ?_
        refine gd 3 kNodeS_p3_1 rfl (cs':=[.slice Aa3 a.entries.length ca3]) rfl fun s6 w_ rs6 us6=>?_
        have Ls6:=Kd.sl_len rs6; have Cs6:=Kd.sl_cap rs6
        refine gd 3 kNodeS_p3_1 rfl (cs':=[.slice Ab3 b.entries.length cb3]) rfl fun s7 w_ rs7 us7=>?_
        have Ls7:=Kd.sl_len rs7; have Cs7:=Kd.sl_cap rs7
        refine cs_ (v:=.bool (decide (a.entries = b.entries))) (by kernel_rfl) rfl rfl rfl (fun w_ hs_=>laws_eqEntryS w_ (hs_.at 1 rfl) (hs_.at 0 rfl)) (rn ik 3 [] rfl ?_)
        by_cases h8 : decide (a.entries = b.entries) = true
        · refine r1_ ik 9 [0] rfl (not_f h8) (ret1 rfl rfl (fun w_ hs_=>⟨?_,hs_.below⟩))
          rw [Node_eq]; simp [h3,h4,h5,h8]
        · refine r1_ ik 8 [1] rfl (not_t (Bool.eq_false_iff.2 h8)) (ret1 rfl rfl (fun w_ hs_=>⟨?_,hs_.below⟩))
          rw [Node_eq]; simp [h3,h4,h5,h8]
      · refine r1_ ik 8 [1] rfl (bne_iff_ne.2 h5) (ret1 rfl rfl (fun w_ hs_=>⟨?_,hs_.below⟩))
        rw [Node_eq]; simp [h3,h4,h5]
    · refine r1_ ik 8 [1] rfl (bne_iff_ne.2 h4) (ret1 rfl rfl (fun w_ hs_=>⟨?_,hs_.below⟩))
      rw [Node_eq]; simp [h3,h4]
  · refine r1_ ik 8 [1] rfl (bne_iff_ne.2 h3) (ret1 rfl rfl (fun w_ hs_=>⟨?_,hs_.below⟩))
    rw [Node_eq]; simp [h3]
theorem laws_szNode (w : World) (left : Int) {a : Node} (ha : kNodeS.Rel w [.int .i64 a.level,.int .i64 a.nsn,.int .i64 a.right,.slice Aa3 a.entries.length ca3] a [] sa_) (h0 : 0 ≤ left) (h1 : left ≤ 1152921504606846976) : Calls Tryz.prog 239 #[.agg #[.int .i64 a.level,.int .i64 a.nsn,.int .i64 a.right,.slice Aa3 a.entries.length ca3],.int .i64 left] w (fun e_ w2_=>e_ = .returned (.int .i64 (szTake (szNode a) left)) ∧ Below w.heap.size w w2_):=by
  have n0:=szList_nn szEntry_nn a.entries
  refine fnc (X:=X 12 w) (l:=[(0,.agg #[.int .i64 a.level,.int .i64 a.nsn,.int .i64 a.right,.slice Aa3 a.entries.length ca3]),(1,.int .i64 left)]) Tryz.func239 rfl rfl rfl ⟨rfl,rfl,trivial⟩ (s0d ha (s0n w)).1 ?_
  refine sq (rg (bx rfl rfl rfl rfl ?_))
  intro b1
  refine rn ik 8 [0,0] rfl ?_
  refine gd 1 kNodeS_p3_1 rfl (cs':=[.slice Aa3 a.entries.length ca3]) rfl fun s2 w_ rs2 us2=>?_
  have Ls2:=Kd.sl_len rs2; have Cs2:=Kd.sl_cap rs2
  refine cs_ (v:=.int .i64 (szTake (szList szEntry a.entries) left)) (by kernel_rfl) rfl rfl rfl (fun w_ hs_=>laws_szEntryS w_ _ (hs_.at 0 rfl) (by omega) (by omega)) (rn ik 10 [] rfl ?_)
  by_cases h3 : (szTake (szList szEntry a.entries) left) < (0 : Int)
  · have eh3:=szTake_t h3
    refine r1_ ik 8 [1] rfl (decide_eq_true h3) (ret1 rfl rfl (fun w_ hs_=>⟨?_,hs_.below⟩))
    exact ri (by unfold szTake szNode; split <;> omega)
  · have eh3:=szTake_f h3
    refine r1_ ik 10 [0] rfl (decide_eq_false h3) (ret1 rfl rfl (fun w_ hs_=>⟨?_,hs_.below⟩))
    exact ri (by unfold szTake szNode; split <;> omega)
theorem laws_toNode (w : World) {a : Node} (ha : kNodeS.Rel w [.int .i64 a.level,.int .i64 a.nsn,.int .i64 a.right,.slice Aa3 a.entries.length ca3] a [] sa_) (hz : szNode a ≤ 1048576) : Calls Tryz.prog 250 #[.agg #[.int .i64 a.level,.int .i64 a.nsn,.int .i64 a.right,.slice Aa3 a.entries.length ca3]] w (Made kNodeO w a []):=by
  unfold szNode at hz; have n0:=szList_nn szEntry_nn a.entries
  refine fnc (X:=X 18 w) (l:=[(0,.agg #[.int .i64 a.level,.int .i64 a.nsn,.int .i64 a.right,.slice Aa3 a.entries.length ca3])]) Tryz.func250 rfl rfl rfl ⟨rfl,trivial⟩ (s0d ha (s0n w)).1 ?_
  refine sq (rg (bx rfl rfl rfl rfl ?_))
  intro b1
  refine al zero52 rfl rfl rfl ?_
  intro b2
  refine rn ik 4 [] rfl (al zero52 rfl rfl rfl ?_)
  intro b3
  refine rn ik 7 [2,0] rfl (sto rfl rfl rfl rfl rfl rfl rfl (cs':=[.int .i64 a.level,.int .i64 0,.int .i64 0,.slice none 0 0]) rfl (rn ik 7 [2,0] rfl (sto rfl rfl rfl rfl rfl rfl rfl (cs':=[.int .i64 a.level,.int .i64 a.nsn,.int .i64 0,.slice none 0 0]) rfl (rn ik 7 [2,0] rfl (sto rfl rfl rfl rfl rfl rfl rfl (cs':=[.int .i64 a.level,.int .i64 a.nsn,.int .i64 a.right,.slice none 0 0]) rfl (rn ik 6 [2,0] rfl ?_))))))
  refine gd 3 kNodeS_p3_1 rfl (cs':=[.slice Aa3 a.entries.length ca3]) rfl fun s4 w_ rs4 us4=>?_
  have Ls4:=Kd.sl_len rs4; have Cs4:=Kd.sl_cap rs4
  refine cm_ (dk:=(Kd.row 102 kEntryO)) (x:=a.entries) (S:=[]) (by kernel_rfl) rfl rfl rfl sn0 (fun w_ hs_=>laws_toEntryS w_ (hs_.at 0 rfl) (by omega)) (fun cs_ o7 s8 w_ r9 t10=>?_)
  obtain ⟨A5,c6,rfl⟩:=Kd.row_sh r9
  exact vl (fa rfl rfl rfl) rfl (f2 (sto rfl rfl rfl rfl rfl rfl rfl (cs':=[.int .i64 a.level,.int .i64 a.nsn,.int .i64 a.right,.slice A5 a.entries.length c6]) rfl (rn ik 5 [0,0] rfl (f3 (sto rfl rfl rfl rfl rfl rfl rfl (cs':=[.int .i64 a.level,.int .i64 a.nsn,.int .i64 a.right,.slice A5 a.entries.length c6]) rfl (en (nx (rt (f2 (gs Kd.i64 [.int .i64 a.right] a.right (fun _=>⟨rfl,rfl,rfl⟩) (gj (da:=(Kd.via Kd.i64 Node.right)) (db:=(Kd.via (Kd.row 102 kEntryO) Node.entries)) (x:=a) rfl (gs Kd.i64 [.int .i64 a.nsn] a.nsn (fun _=>⟨rfl,rfl,rfl⟩) (gj (da:=(Kd.via Kd.i64 Node.nsn)) (db:=((Kd.via Kd.i64 Node.right).cat (Kd.via (Kd.row 102 kEntryO) Node.entries))) (x:=a) rfl (gs Kd.i64 [.int .i64 a.level] a.level (fun _=>⟨rfl,rfl,rfl⟩) (gj (da:=(Kd.via Kd.i64 Node.level)) (db:=((Kd.via Kd.i64 Node.nsn).cat ((Kd.via Kd.i64 Node.right).cat (Kd.via (Kd.row 102 kEntryO) Node.entries)))) (x:=a) rfl (retc 1 rfl rfl rfl rfl rfl rfl (fun w_ hs_=>made hs_ rfl (see_app see_nil (see_app see_nil (see_app see_nil t10))))))))))))))))))))
theorem laws_eqNodeS (w : World) {a : List Node} (ha : (Kd.sl kNodeS).Rel w [.slice Aa a.length ca] a [] sa_) {b : List Node} (hb : (Kd.sl kNodeS).Rel w [.slice Ab b.length cb] b [] sb_)  : Calls Tryz.prog 202 #[.slice Aa a.length ca,.slice Ab b.length cb] w (fun e_ w2_=>e_ = .returned (.bool (decide (a = b))) ∧ Below w.heap.size w w2_):=by
  have La:=Kd.sl_len ha; have Ca:=Kd.sl_cap ha
  have Lb:=Kd.sl_len hb; have Cb:=Kd.sl_cap hb
  refine fnc (X:=X 27 w) (l:=[(0,.slice Aa a.length ca),(1,.slice Ab b.length cb)]) Tryz.func202 rfl rfl rfl ⟨rfl,rfl,trivial⟩ (s0d hb (s0d ha (s0n w))).1 ?_
  refine rn ik 15 [] rfl ?_
  by_cases h1 : ((a.length : Nat) : Int) = ((b.length : Nat) : Int)
  · refine r1_ ik 10 [0] rfl (bne_eq_false_iff_eq.2 h1) ?_
    refine lp (σ:=Nat) (fun k : Nat=>[(0,.slice Aa a.length ca),(1,.slice Ab b.length cb),(5,.int .i64 ((k : Nat) : Int))])
        (fun k : Nat=>[dat (Kd.sl kNodeS) [.slice Ab b.length cb] b ([]) sb_,dat (Kd.sl kNodeS) [.slice Aa a.length ca] a ([]) sa_])
        (fun k : Nat=>k ≤ a.length ∧ ∀ j x y,j < k → a[j]? = some x → b[j]? = some y → x = y) (fun k : Nat=>a.length - k) 0 [0,0] ⟨Nat.zero_le _,by simp⟩ ⟨rfl,rfl,rfl,trivial⟩ rfl ?_
    intro k hp_
    obtain ⟨hk,hinv⟩:=hp_
    refine rn ik 9 [] rfl ?_
    by_cases h2 : ((k : Nat) : Int) < ((a.length : Nat) : Int)
    · refine r1_ ik 6 [1] rfl (decide_eq_true h2) ?_
      refine gx 1 k rfl (by omega) fun y8 p3 cs_ s4 w7 m9 e5 r6 us4=>?_
      obtain ⟨A10,c11,rfl⟩:=kNodeS_sh r6
      refine gx 1 k rfl (by omega) fun y17 p12 cs_ s13 w16 m18 e14 r15 us13=>?_
      obtain ⟨A19,c20,rfl⟩:=kNodeS_sh r15
      refine gp 1 Kd.Sub.rfl rfl (cs':=[.int .i64 y8.level,.int .i64 y8.nsn,.int .i64 y8.right,.slice A10 y8.entries.length c11]) rfl fun s21 w_ rs21 us21=>?_
      refine gp 1 Kd.Sub.rfl rfl (cs':=[.int .i64 y17.level,.int .i64 y17.nsn,.int .i64 y17.right,.slice A19 y17.entries.length c20]) rfl fun s22 w_ rs22 us22=>?_
      refine rn ik 3 [1,2] rfl (qv 2 rfl (ix k e5 rfl rfl rfl rfl rfl (by omega)) rfl (by kernel_rfl) (rn ik 3 [4,3,0,5,6] rfl (qv 6 rfl (ix k e14 rfl rfl rfl rfl rfl (by omega)) rfl (by kernel_rfl) (qv 7 rfl (ldq 2 rfl rfl rfl rfl rfl rfl rfl) rfl (by kernel_rfl) (q1 8 [0,0,0,0,0,0] rfl (by kernel_rfl) rfl (cs_ (v:=.bool (decide (y8 = y17))) (by kernel_rfl) rfl rfl rfl (fun w_ hs_=>by exact laws_eqNode w_ (hs_.at 1 rfl) (hs_.at 0 rfl)) (qn (r1_ ik 3 [10,0] rfl ⟨[0,0,0,0,0,0],rfl⟩ ?_))))))))
      by_cases h23 : decide (y8 = y17) = true
      · exact r1_ ik 6 [0] rfl (not_f h23) (vl (ra (c:=((k + 1 : Nat) : Int)) rfl rfl rfl (by omega) (by omega) (by omega)) rfl (rn ik 2 [] rfl (lpe (s:=k) (k + 1) [4,4] ⟨by omega,eq_step hinv m9 m18 (by simpa using h23)⟩ (by omega) ⟨rfl,rfl,rfl,trivial⟩ rfl)))
      · refine r1_ ik 12 [1] rfl (not_t (Bool.eq_false_iff.2 h23)) (ret1 rfl rfl (fun w_ hs_=>⟨?_,hs_.below⟩))
        exact rb (eqS_f m9 m18 (by simpa using h23)).symm
    · refine r1_ ik 12 [0] rfl (decide_eq_false h2) (ret1 rfl rfl (fun w_ hs_=>⟨?_,hs_.below⟩))
      exact rb (eqS_t (by omega) hinv (by omega)).symm
  · refine r1_ ik 8 [1] rfl (bne_iff_ne.2 h1) (ret1 rfl rfl (fun w_ hs_=>⟨?_,hs_.below⟩))
    exact rb (by rw [eq_comm,decide_eq_false_iff_not]; rintro rfl; exact h1 rfl)
theorem laws_szNodeS (w : World) (left : Int) {a : List Node} (ha : (Kd.sl kNodeS).Rel w [.slice Aa a.length ca] a [] sa_) (h0 : 0 ≤ left) (h1 : left ≤ 1152921504606846976) : Calls Tryz.prog 174 #[.slice Aa a.length ca,.int .i64 left] w (fun e_ w2_=>e_ = .returned (.int .i64 (szTake (szList szNode a) left)) ∧ Below w.heap.size w w2_):=by
  have La:=Kd.sl_len ha; have Ca:=Kd.sl_cap ha
  refine fnc (X:=X 27 w) (l:=[(0,.slice Aa a.length ca),(1,.int .i64 left)]) Tryz.func174 rfl rfl rfl ⟨rfl,rfl,trivial⟩ (s0d ha (s0n w)).1 ?_
  refine rn ik 10 [] rfl (vl (rs (c:=left - ((a.length : Nat) : Int)) rfl rfl rfl rfl (by omega) (by omega)) rfl (rn ik 10 [] rfl ?_))
  by_cases h1 : left - ((a.length : Nat) : Int) < (0 : Int)
  · refine r1_ ik 8 [1] rfl (decide_eq_true h1) (ret1 rfl rfl (fun w_ hs_=>⟨?_,hs_.below⟩))
    exact ri (by have z:=sum_nn szNode_nn a; unfold szTake szList; split <;> omega)
  · refine r1_ ik 10 [0] rfl (decide_eq_false h1) ?_
    refine lp (σ:=Nat × Int) (fun z_ : Nat × Int=>match z_ with | (k,v)=>[(0,.slice Aa a.length ca),(1,.int .i64 v),(5,.int .i64 ((k : Nat) : Int))])
        (fun z_ : Nat × Int=>match z_ with | (k,v)=>[dat (Kd.sl kNodeS) [.slice Aa a.length ca] a ([]) sa_])
        (fun z_ : Nat × Int=>match z_ with | (k,v)=>k ≤ a.length ∧ 0 ≤ v ∧ v = left - (a.length : Int) - sumTo szNode a k) (fun z_ : Nat × Int=>match z_ with | (k,v)=>a.length - k) (0,left - (a.length : Int)) [0] ⟨Nat.zero_le _,by omega,by simp [sumTo]⟩ ⟨rfl,rfl,rfl,trivial⟩ rfl ?_
    rintro ⟨k,v⟩ hp_
    obtain ⟨hk,hv0,hinv⟩:=hp_; have z1:=sumTo_nn szNode_nn a k; have z2:=sumTo_le szNode_nn a k
    refine rn ik 9 [] rfl ?_
    by_cases h2 : ((k : Nat) : Int) < ((a.length : Nat) : Int)
    · refine r1_ ik 9 [1] rfl (decide_eq_true h2) ?_
      refine gx 0 k rfl (by omega) fun y8 p3 cs_ s4 w7 m9 e5 r6 us4=>?_
      obtain ⟨A10,c11,rfl⟩:=kNodeS_sh r6
      refine vl (ix k e5 rfl rfl rfl rfl rfl (by omega)) rfl (rn ik 2 [0,0] rfl ?_)
      refine gp 0 Kd.Sub.rfl rfl (cs':=[.int .i64 y8.level,.int .i64 y8.nsn,.int .i64 y8.right,.slice A10 y8.entries.length c11]) rfl fun s12 w_ rs12 us12=>?_
      refine cs_ (v:=.int .i64 (szTake (szNode y8) v)) (by kernel_rfl) rfl rfl rfl (fun w_ hs_=>laws_szNode w_ _ (hs_.at 0 rfl) (by omega) (by omega)) (rn ik 9 [] rfl ?_)
      by_cases h13 : (szTake (szNode y8) v) < (0 : Int)
      · have eh13:=szTake_t h13
        refine r1_ ik 12 [1] rfl (decide_eq_true h13) (ret1 rfl rfl (fun w_ hs_=>⟨?_,hs_.below⟩))
        exact ri (by have z:=sumTo_step (f:=szNode) m9; have z3:=sumTo_le szNode_nn a (k + 1); unfold szTake szList; split <;> omega)
      · have eh13:=szTake_f h13
        exact r1_ ik 6 [0] rfl (decide_eq_false h13) (vl (ra (c:=((k + 1 : Nat) : Int)) rfl rfl rfl (by omega) (by omega) (by omega)) rfl (rn ik 2 [] rfl (lpe (s:=(k,v)) (k + 1,(szTake (szNode y8) v)) [2] ⟨by omega,by omega,by have z:=sumTo_step (f:=szNode) m9; omega⟩ (by show a.length - (k + 1) < a.length - k; omega) ⟨rfl,rfl,rfl,trivial⟩ rfl)))
    · refine r1_ ik 13 [0] rfl (decide_eq_false h2) (ret1 rfl rfl (fun w_ hs_=>⟨?_,hs_.below⟩))
      exact ri (by have z:=sumTo_end (f:=szNode) (l:=a) (k:=k) (by omega); unfold szTake szList; split <;> omega)
theorem laws_toNodeS (w : World) {a : List Node} (ha : (Kd.sl kNodeS).Rel w [.slice Aa a.length ca] a [] sa_) (hz : szList szNode a ≤ 1048576) : Calls Tryz.prog 185 #[.slice Aa a.length ca] w (Made (Kd.row 52 kNodeO) w a []):=by
  have La:=Kd.sl_len ha; have Ca:=Kd.sl_cap ha
  have zl:=szList_len szNode_nn a
  refine fnc (X:=X 23 w) (l:=[(0,.slice Aa a.length ca)]) Tryz.func185 rfl rfl rfl ⟨rfl,trivial⟩ (s0d ha (s0n w)).1 ?_
  refine rn ik 9 [] rfl (mk (dk:=kNodeO) (z:=zNode) rfl info52 rfl (fun _=>⟨[_],_,[],[],[],[],rfl,rfl,rfl,⟨rfl,rfl,rfl⟩,⟨[_],_,[],[],[],[],rfl,rfl,rfl,⟨rfl,rfl,rfl⟩,⟨[_],_,[],[],[],[],rfl,rfl,rfl,⟨rfl,rfl,rfl⟩,.inl ⟨rfl,rfl,rfl,rfl⟩⟩⟩⟩) rfl rfl (by omega) (by omega) rfl ?_)
  intro b1
  refine rn ik 10 [] rfl ?_
  refine lp (σ:=Nat × List Nat × List Nat) (fun z_ : Nat × List Nat × List Nat=>match z_ with | (k,o,s)=>[(0,.slice Aa a.length ca),(3,.slice (some ⟨b1,0,none⟩) a.length a.length),(4,.int .i64 ((k : Nat) : Int))])
      (fun z_ : Nat × List Nat × List Nat=>match z_ with | (k,o,s)=>[dat (Kd.row 52 kNodeO) [.slice (some ⟨b1,0,none⟩) a.length a.length] (a.take k ++ List.replicate (a.length - k) zNode) o s,dat (Kd.sl kNodeS) [.slice Aa a.length ca] a ([]) sa_])
      (fun z_ : Nat × List Nat × List Nat=>match z_ with | (k,o,s)=>k ≤ a.length ∧ ∀ q ∈ s,w.heap.size ≤ q) (fun z_ : Nat × List Nat × List Nat=>match z_ with | (k,o,s)=>a.length - k) (0,[b1],[]) [0,0] ⟨Nat.zero_le _,by simp⟩ ⟨rfl,rfl,rfl,trivial⟩ rfl ?_
  rintro ⟨k,o,s⟩ hp_
  obtain ⟨hk,hinv⟩:=hp_
  refine rn ik 9 [] rfl ?_
  by_cases h2 : ((k : Nat) : Int) < ((a.length : Nat) : Int)
  · refine r1_ ik 10 [1] rfl (decide_eq_true h2) ?_
    refine gx 1 k rfl (by omega) fun y8 p3 cs_ s4 w7 m9 e5 r6 us4=>?_
    obtain ⟨A10,c11,rfl⟩:=kNodeS_sh r6
    refine vl (ix k e5 rfl rfl rfl rfl rfl (by omega)) rfl (vl (ldq 0 rfl rfl rfl rfl rfl rfl rfl) rfl ?_)
    refine gp 0 Kd.Sub.rfl rfl (cs':=[.int .i64 y8.level,.int .i64 y8.nsn,.int .i64 y8.right,.slice A10 y8.entries.length c11]) rfl fun s12 w_ rs12 us12=>?_
    refine cm_ (dk:=kNodeO) (x:=y8) (S:=[]) (by kernel_rfl) rfl rfl rfl sn0 (fun w_ hs_=>laws_toNode w_ (hs_.at 0 rfl) (by have z:=szList_mem szNode_nn m9; omega)) (fun cs_ o15 s16 w_ r17 t18=>?_)
    obtain ⟨A13,c14,rfl⟩:=kNodeO_sh r17
    refine vl (ix k rfl rfl rfl rfl rfl rfl (by omega)) rfl (f3 (ste k rfl rfl rfl rfl rfl (by first | omega | (simp; omega)) (fun o20 s21 t22=>?_)))
    exact gr (a.take (k + 1) ++ List.replicate (a.length - (k + 1)) zNode) (rowStep m9) (rn ik 5 [] rfl (vl (ra (c:=((k + 1 : Nat) : Int)) rfl rfl rfl (by omega) (by omega) (by omega)) rfl (rn ik 2 [] rfl (lpe (s:=(k,o,s)) (k + 1,o20,s21) [0,2] ⟨by omega,fun q hq=>(t22 q hq).elim (hinv q) (fun h=>(t18 q h).resolve_left (by simp))⟩ (by show a.length - (k + 1) < a.length - k; omega) ⟨rfl,rfl,rfl,trivial⟩ rfl))))
  · exact r1_ ik 13 [0] rfl (decide_eq_false h2) (gr a (rowEnd (by omega)) (ret1 rfl rfl (fun w_ hs_=>made hs_ rfl (fun q hq=>.inr (hinv q hq)))))
def szRetired (a : Retired) : Int := (a.watch.length : Int)
theorem szRetired_nn (a : Retired) : 0 ≤ szRetired a:=by unfold szRetired; omega
def zRetired : Retired := (⟨0, []⟩ : Retired)
theorem laws_eqRetired (w : World) {a : Retired} (ha : kRetiredS.Rel w [.int .i64 a.id,.slice Aa1 a.watch.length ca1] a [] sa_) {b : Retired} (hb : kRetiredS.Rel w [.int .i64 b.id,.slice Ab1 b.watch.length cb1] b [] sb_)  : Calls Tryz.prog 266 #[.agg #[.int .i64 a.id,.slice Aa1 a.watch.length ca1],.agg #[.int .i64 b.id,.slice Ab1 b.watch.length cb1]] w (fun e_ w2_=>e_ = .returned (.bool (decide (a = b))) ∧ Below w.heap.size w w2_):=by
  refine fnc (X:=X 16 w) (l:=[(0,.agg #[.int .i64 a.id,.slice Aa1 a.watch.length ca1]),(1,.agg #[.int .i64 b.id,.slice Ab1 b.watch.length cb1])]) Tryz.func266 rfl rfl rfl ⟨rfl,rfl,trivial⟩ (s0d hb (s0d ha (s0n w))).1 ?_
  refine sq (rg (bx rfl rfl rfl rfl ?_))
  intro b1
  refine bx rfl rfl rfl rfl ?_
  intro b2
  refine rn ik 13 [1,0,0,0] rfl ?_
  by_cases h3 : a.id = b.id
  · refine r1_ ik 10 [0,1,0,0,0] rfl (bne_eq_false_iff_eq.2 h3) ?_
    refine gd 3 kRetiredS_p1_1 rfl (cs':=[.slice Aa1 a.watch.length ca1]) rfl fun s4 w_ rs4 us4=>?_
    have Ls4:=Kd.sl_len rs4; have Cs4:=Kd.sl_cap rs4
    refine gd 3 kRetiredS_p1_1 rfl (cs':=[.slice Ab1 b.watch.length cb1]) rfl fun s5 w_ rs5 us5=>?_
    have Ls5:=Kd.sl_len rs5; have Cs5:=Kd.sl_cap rs5
    refine cs_ (v:=.bool (decide (a.watch = b.watch))) (by kernel_rfl) rfl rfl rfl (fun w_ hs_=>laws_eqInt64S w_ (hs_.at 1 rfl) (hs_.at 0 rfl)) (rn ik 3 [] rfl ?_)
    by_cases h6 : decide (a.watch = b.watch) = true
    · refine r1_ ik 9 [0] rfl (not_f h6) (ret1 rfl rfl (fun w_ hs_=>⟨?_,hs_.below⟩))
      rw [Retired_eq]; simp [h3,h6]
    · refine r1_ ik 8 [1] rfl (not_t (Bool.eq_false_iff.2 h6)) (ret1 rfl rfl (fun w_ hs_=>⟨?_,hs_.below⟩))
      rw [Retired_eq]; simp [h3,h6]
  · refine r1_ ik 8 [1] rfl (bne_iff_ne.2 h3) (ret1 rfl rfl (fun w_ hs_=>⟨?_,hs_.below⟩))
    rw [Retired_eq]; simp [h3]
theorem laws_szRetired (w : World) (left : Int) {a : Retired} (ha : kRetiredS.Rel w [.int .i64 a.id,.slice Aa1 a.watch.length ca1] a [] sa_) (h0 : 0 ≤ left) (h1 : left ≤ 1152921504606846976) : Calls Tryz.prog 240 #[.agg #[.int .i64 a.id,.slice Aa1 a.watch.length ca1],.int .i64 left] w (fun e_ w2_=>e_ = .returned (.int .i64 (szTake (szRetired a) left)) ∧ Below w.heap.size w w2_):=by
  skip
  refine fnc (X:=X 12 w) (l:=[(0,.agg #[.int .i64 a.id,.slice Aa1 a.watch.length ca1]),(1,.int .i64 left)]) Tryz.func240 rfl rfl rfl ⟨rfl,rfl,trivial⟩ (s0d ha (s0n w)).1 ?_
  refine sq (rg (bx rfl rfl rfl rfl ?_))
  intro b1
  refine rn ik 8 [0,0] rfl ?_
  refine gd 1 kRetiredS_p1_1 rfl (cs':=[.slice Aa1 a.watch.length ca1]) rfl fun s2 w_ rs2 us2=>?_
  have Ls2:=Kd.sl_len rs2; have Cs2:=Kd.sl_cap rs2
  refine cs_ (v:=.int .i64 (szTake ((a.watch.length : Nat) : Int) left)) (by kernel_rfl) rfl rfl rfl (fun w_ hs_=>laws_szInt64S w_ _ (hs_.at 0 rfl) (by omega) (by omega)) (rn ik 10 [] rfl ?_)
  by_cases h3 : (szTake ((a.watch.length : Nat) : Int) left) < (0 : Int)
  · have eh3:=szTake_t h3
    refine r1_ ik 8 [1] rfl (decide_eq_true h3) (ret1 rfl rfl (fun w_ hs_=>⟨?_,hs_.below⟩))
    exact ri (by unfold szTake szRetired; split <;> omega)
  · have eh3:=szTake_f h3
    refine r1_ ik 10 [0] rfl (decide_eq_false h3) (ret1 rfl rfl (fun w_ hs_=>⟨?_,hs_.below⟩))
    exact ri (by unfold szTake szRetired; split <;> omega)
theorem laws_toRetired (w : World) {a : Retired} (ha : kRetiredS.Rel w [.int .i64 a.id,.slice Aa1 a.watch.length ca1] a [] sa_) (hz : szRetired a ≤ 1048576) : Calls Tryz.prog 251 #[.agg #[.int .i64 a.id,.slice Aa1 a.watch.length ca1]] w (Made kRetiredO w a []):=by
  unfold szRetired at hz
  refine fnc (X:=X 12 w) (l:=[(0,.agg #[.int .i64 a.id,.slice Aa1 a.watch.length ca1])]) Tryz.func251 rfl rfl rfl ⟨rfl,trivial⟩ (s0d ha (s0n w)).1 ?_
  refine sq (rg (bx rfl rfl rfl rfl ?_))
  intro b1
  refine al zero133 rfl rfl rfl ?_
  intro b2
  refine rn ik 4 [] rfl (al zero133 rfl rfl rfl ?_)
  intro b3
  refine rn ik 7 [2,0] rfl (sto rfl rfl rfl rfl rfl rfl rfl (cs':=[.int .i64 a.id,.slice none 0 0]) rfl (rn ik 6 [2,0] rfl ?_))
  refine gd 3 kRetiredS_p1_1 rfl (cs':=[.slice Aa1 a.watch.length ca1]) rfl fun s4 w_ rs4 us4=>?_
  have Ls4:=Kd.sl_len rs4; have Cs4:=Kd.sl_cap rs4
  refine cm_ (dk:=(Kd.row 2 Kd.i64)) (x:=a.watch) (S:=[]) (by kernel_rfl) rfl rfl rfl sn0 (fun w_ hs_=>laws_toInt64S w_ (hs_.at 0 rfl) (by omega)) (fun cs_ o7 s8 w_ r9 t10=>?_)
  obtain ⟨A5,c6,rfl⟩:=Kd.row_sh r9
  exact vl (fa rfl rfl rfl) rfl (f2 (sto rfl rfl rfl rfl rfl rfl rfl (cs':=[.int .i64 a.id,.slice A5 a.watch.length c6]) rfl (rn ik 5 [0,0] rfl (f3 (sto rfl rfl rfl rfl rfl rfl rfl (cs':=[.int .i64 a.id,.slice A5 a.watch.length c6]) rfl (en (nx (rt (f2 (gs Kd.i64 [.int .i64 a.id] a.id (fun _=>⟨rfl,rfl,rfl⟩) (gj (da:=(Kd.via Kd.i64 Retired.id)) (db:=(Kd.via (Kd.row 2 Kd.i64) Retired.watch)) (x:=a) rfl (retc 1 rfl rfl rfl rfl rfl rfl (fun w_ hs_=>made hs_ rfl (see_app see_nil t10))))))))))))))
theorem laws_eqRetiredS (w : World) {a : List Retired} (ha : (Kd.sl kRetiredS).Rel w [.slice Aa a.length ca] a [] sa_) {b : List Retired} (hb : (Kd.sl kRetiredS).Rel w [.slice Ab b.length cb] b [] sb_)  : Calls Tryz.prog 203 #[.slice Aa a.length ca,.slice Ab b.length cb] w (fun e_ w2_=>e_ = .returned (.bool (decide (a = b))) ∧ Below w.heap.size w w2_):=by
  have La:=Kd.sl_len ha; have Ca:=Kd.sl_cap ha
  have Lb:=Kd.sl_len hb; have Cb:=Kd.sl_cap hb
  refine fnc (X:=X 27 w) (l:=[(0,.slice Aa a.length ca),(1,.slice Ab b.length cb)]) Tryz.func203 rfl rfl rfl ⟨rfl,rfl,trivial⟩ (s0d hb (s0d ha (s0n w))).1 ?_
  refine rn ik 15 [] rfl ?_
  by_cases h1 : ((a.length : Nat) : Int) = ((b.length : Nat) : Int)
  · refine r1_ ik 10 [0] rfl (bne_eq_false_iff_eq.2 h1) ?_
    refine lp (σ:=Nat) (fun k : Nat=>[(0,.slice Aa a.length ca),(1,.slice Ab b.length cb),(5,.int .i64 ((k : Nat) : Int))])
        (fun k : Nat=>[dat (Kd.sl kRetiredS) [.slice Ab b.length cb] b ([]) sb_,dat (Kd.sl kRetiredS) [.slice Aa a.length ca] a ([]) sa_])
        (fun k : Nat=>k ≤ a.length ∧ ∀ j x y,j < k → a[j]? = some x → b[j]? = some y → x = y) (fun k : Nat=>a.length - k) 0 [0,0] ⟨Nat.zero_le _,by simp⟩ ⟨rfl,rfl,rfl,trivial⟩ rfl ?_
    intro k hp_
    obtain ⟨hk,hinv⟩:=hp_
    refine rn ik 9 [] rfl ?_
    by_cases h2 : ((k : Nat) : Int) < ((a.length : Nat) : Int)
    · refine r1_ ik 6 [1] rfl (decide_eq_true h2) ?_
      refine gx 1 k rfl (by omega) fun y8 p3 cs_ s4 w7 m9 e5 r6 us4=>?_
      obtain ⟨A10,c11,rfl⟩:=kRetiredS_sh r6
      refine gx 1 k rfl (by omega) fun y17 p12 cs_ s13 w16 m18 e14 r15 us13=>?_
      obtain ⟨A19,c20,rfl⟩:=kRetiredS_sh r15
      refine gp 1 Kd.Sub.rfl rfl (cs':=[.int .i64 y8.id,.slice A10 y8.watch.length c11]) rfl fun s21 w_ rs21 us21=>?_
      refine gp 1 Kd.Sub.rfl rfl (cs':=[.int .i64 y17.id,.slice A19 y17.watch.length c20]) rfl fun s22 w_ rs22 us22=>?_
      refine rn ik 3 [1,2] rfl (qv 2 rfl (ix k e5 rfl rfl rfl rfl rfl (by omega)) rfl (by kernel_rfl) (rn ik 3 [4,3,0,5,6] rfl (qv 6 rfl (ix k e14 rfl rfl rfl rfl rfl (by omega)) rfl (by kernel_rfl) (qv 7 rfl (ldq 2 rfl rfl rfl rfl rfl rfl rfl) rfl (by kernel_rfl) (q1 8 [0,0,0,0,0,0] rfl (by kernel_rfl) rfl (cs_ (v:=.bool (decide (y8 = y17))) (by kernel_rfl) rfl rfl rfl (fun w_ hs_=>by exact laws_eqRetired w_ (hs_.at 1 rfl) (hs_.at 0 rfl)) (qn (r1_ ik 3 [10,0] rfl ⟨[0,0,0,0,0,0],rfl⟩ ?_))))))))
      by_cases h23 : decide (y8 = y17) = true
      · exact r1_ ik 6 [0] rfl (not_f h23) (vl (ra (c:=((k + 1 : Nat) : Int)) rfl rfl rfl (by omega) (by omega) (by omega)) rfl (rn ik 2 [] rfl (lpe (s:=k) (k + 1) [4,4] ⟨by omega,eq_step hinv m9 m18 (by simpa using h23)⟩ (by omega) ⟨rfl,rfl,rfl,trivial⟩ rfl)))
      · refine r1_ ik 12 [1] rfl (not_t (Bool.eq_false_iff.2 h23)) (ret1 rfl rfl (fun w_ hs_=>⟨?_,hs_.below⟩))
        exact rb (eqS_f m9 m18 (by simpa using h23)).symm
    · refine r1_ ik 12 [0] rfl (decide_eq_false h2) (ret1 rfl rfl (fun w_ hs_=>⟨?_,hs_.below⟩))
      exact rb (eqS_t (by omega) hinv (by omega)).symm
  · refine r1_ ik 8 [1] rfl (bne_iff_ne.2 h1) (ret1 rfl rfl (fun w_ hs_=>⟨?_,hs_.below⟩))
    exact rb (by rw [eq_comm,decide_eq_false_iff_not]; rintro rfl; exact h1 rfl)
theorem laws_szRetiredS (w : World) (left : Int) {a : List Retired} (ha : (Kd.sl kRetiredS).Rel w [.slice Aa a.length ca] a [] sa_) (h0 : 0 ≤ left) (h1 : left ≤ 1152921504606846976) : Calls Tryz.prog 175 #[.slice Aa a.length ca,.int .i64 left] w (fun e_ w2_=>e_ = .returned (.int .i64 (szTake (szList szRetired a) left)) ∧ Below w.heap.size w w2_):=by
  have La:=Kd.sl_len ha; have Ca:=Kd.sl_cap ha
  refine fnc (X:=X 27 w) (l:=[(0,.slice Aa a.length ca),(1,.int .i64 left)]) Tryz.func175 rfl rfl rfl ⟨rfl,rfl,trivial⟩ (s0d ha (s0n w)).1 ?_
  refine rn ik 10 [] rfl (vl (rs (c:=left - ((a.length : Nat) : Int)) rfl rfl rfl rfl (by omega) (by omega)) rfl (rn ik 10 [] rfl ?_))
  by_cases h1 : left - ((a.length : Nat) : Int) < (0 : Int)
  · refine r1_ ik 8 [1] rfl (decide_eq_true h1) (ret1 rfl rfl (fun w_ hs_=>⟨?_,hs_.below⟩))
    exact ri (by have z:=sum_nn szRetired_nn a; unfold szTake szList; split <;> omega)
  · refine r1_ ik 10 [0] rfl (decide_eq_false h1) ?_
    refine lp (σ:=Nat × Int) (fun z_ : Nat × Int=>match z_ with | (k,v)=>[(0,.slice Aa a.length ca),(1,.int .i64 v),(5,.int .i64 ((k : Nat) : Int))])
        (fun z_ : Nat × Int=>match z_ with | (k,v)=>[dat (Kd.sl kRetiredS) [.slice Aa a.length ca] a ([]) sa_])
        (fun z_ : Nat × Int=>match z_ with | (k,v)=>k ≤ a.length ∧ 0 ≤ v ∧ v = left - (a.length : Int) - sumTo szRetired a k) (fun z_ : Nat × Int=>match z_ with | (k,v)=>a.length - k) (0,left - (a.length : Int)) [0] ⟨Nat.zero_le _,by omega,by simp [sumTo]⟩ ⟨rfl,rfl,rfl,trivial⟩ rfl ?_
    rintro ⟨k,v⟩ hp_
    obtain ⟨hk,hv0,hinv⟩:=hp_; have z1:=sumTo_nn szRetired_nn a k; have z2:=sumTo_le szRetired_nn a k
    refine rn ik 9 [] rfl ?_
    by_cases h2 : ((k : Nat) : Int) < ((a.length : Nat) : Int)
    · refine r1_ ik 9 [1] rfl (decide_eq_true h2) ?_
      refine gx 0 k rfl (by omega) fun y8 p3 cs_ s4 w7 m9 e5 r6 us4=>?_
      obtain ⟨A10,c11,rfl⟩:=kRetiredS_sh r6
      refine vl (ix k e5 rfl rfl rfl rfl rfl (by omega)) rfl (rn ik 2 [0,0] rfl ?_)
      refine gp 0 Kd.Sub.rfl rfl (cs':=[.int .i64 y8.id,.slice A10 y8.watch.length c11]) rfl fun s12 w_ rs12 us12=>?_
      refine cs_ (v:=.int .i64 (szTake (szRetired y8) v)) (by kernel_rfl) rfl rfl rfl (fun w_ hs_=>laws_szRetired w_ _ (hs_.at 0 rfl) (by omega) (by omega)) (rn ik 9 [] rfl ?_)
      by_cases h13 : (szTake (szRetired y8) v) < (0 : Int)
      · have eh13:=szTake_t h13
        refine r1_ ik 12 [1] rfl (decide_eq_true h13) (ret1 rfl rfl (fun w_ hs_=>⟨?_,hs_.below⟩))
        exact ri (by have z:=sumTo_step (f:=szRetired) m9; have z3:=sumTo_le szRetired_nn a (k + 1); unfold szTake szList; split <;> omega)
      · have eh13:=szTake_f h13
        exact r1_ ik 6 [0] rfl (decide_eq_false h13) (vl (ra (c:=((k + 1 : Nat) : Int)) rfl rfl rfl (by omega) (by omega) (by omega)) rfl (rn ik 2 [] rfl (lpe (s:=(k,v)) (k + 1,(szTake (szRetired y8) v)) [2] ⟨by omega,by omega,by have z:=sumTo_step (f:=szRetired) m9; omega⟩ (by show a.length - (k + 1) < a.length - k; omega) ⟨rfl,rfl,rfl,trivial⟩ rfl)))
    · refine r1_ ik 13 [0] rfl (decide_eq_false h2) (ret1 rfl rfl (fun w_ hs_=>⟨?_,hs_.below⟩))
      exact ri (by have z:=sumTo_end (f:=szRetired) (l:=a) (k:=k) (by omega); unfold szTake szList; split <;> omega)
theorem laws_toRetiredS (w : World) {a : List Retired} (ha : (Kd.sl kRetiredS).Rel w [.slice Aa a.length ca] a [] sa_) (hz : szList szRetired a ≤ 1048576) : Calls Tryz.prog 186 #[.slice Aa a.length ca] w (Made (Kd.row 133 kRetiredO) w a []):=by
  have La:=Kd.sl_len ha; have Ca:=Kd.sl_cap ha
  have zl:=szList_len szRetired_nn a
  refine fnc (X:=X 23 w) (l:=[(0,.slice Aa a.length ca)]) Tryz.func186 rfl rfl rfl ⟨rfl,trivial⟩ (s0d ha (s0n w)).1 ?_
  refine rn ik 9 [] rfl (mk (dk:=kRetiredO) (z:=zRetired) rfl info133 rfl (fun _=>⟨[_],_,[],[],[],[],rfl,rfl,rfl,⟨rfl,rfl,rfl⟩,.inl ⟨rfl,rfl,rfl,rfl⟩⟩) rfl rfl (by omega) (by omega) rfl ?_)
  intro b1
  refine rn ik 10 [] rfl ?_
  refine lp (σ:=Nat × List Nat × List Nat) (fun z_ : Nat × List Nat × List Nat=>match z_ with | (k,o,s)=>[(0,.slice Aa a.length ca),(3,.slice (some ⟨b1,0,none⟩) a.length a.length),(4,.int .i64 ((k : Nat) : Int))])
      (fun z_ : Nat × List Nat × List Nat=>match z_ with | (k,o,s)=>[dat (Kd.row 133 kRetiredO) [.slice (some ⟨b1,0,none⟩) a.length a.length] (a.take k ++ List.replicate (a.length - k) zRetired) o s,dat (Kd.sl kRetiredS) [.slice Aa a.length ca] a ([]) sa_])
      (fun z_ : Nat × List Nat × List Nat=>match z_ with | (k,o,s)=>k ≤ a.length ∧ ∀ q ∈ s,w.heap.size ≤ q) (fun z_ : Nat × List Nat × List Nat=>match z_ with | (k,o,s)=>a.length - k) (0,[b1],[]) [0,0] ⟨Nat.zero_le _,by simp⟩ ⟨rfl,rfl,rfl,trivial⟩ rfl ?_
  rintro ⟨k,o,s⟩ hp_
  obtain ⟨hk,hinv⟩:=hp_
  refine rn ik 9 [] rfl ?_
  by_cases h2 : ((k : Nat) : Int) < ((a.length : Nat) : Int)
  · refine r1_ ik 10 [1] rfl (decide_eq_true h2) ?_
    refine gx 1 k rfl (by omega) fun y8 p3 cs_ s4 w7 m9 e5 r6 us4=>?_
    obtain ⟨A10,c11,rfl⟩:=kRetiredS_sh r6
    refine vl (ix k e5 rfl rfl rfl rfl rfl (by omega)) rfl (vl (ldq 0 rfl rfl rfl rfl rfl rfl rfl) rfl ?_)
    refine gp 0 Kd.Sub.rfl rfl (cs':=[.int .i64 y8.id,.slice A10 y8.watch.length c11]) rfl fun s12 w_ rs12 us12=>?_
    refine cm_ (dk:=kRetiredO) (x:=y8) (S:=[]) (by kernel_rfl) rfl rfl rfl sn0 (fun w_ hs_=>laws_toRetired w_ (hs_.at 0 rfl) (by have z:=szList_mem szRetired_nn m9; omega)) (fun cs_ o15 s16 w_ r17 t18=>?_)
    obtain ⟨A13,c14,rfl⟩:=kRetiredO_sh r17
    refine vl (ix k rfl rfl rfl rfl rfl rfl (by omega)) rfl (f3 (ste k rfl rfl rfl rfl rfl (by first | omega | (simp; omega)) (fun o20 s21 t22=>?_)))
    exact gr (a.take (k + 1) ++ List.replicate (a.length - (k + 1)) zRetired) (rowStep m9) (rn ik 5 [] rfl (vl (ra (c:=((k + 1 : Nat) : Int)) rfl rfl rfl (by omega) (by omega) (by omega)) rfl (rn ik 2 [] rfl (lpe (s:=(k,o,s)) (k + 1,o20,s21) [0,2] ⟨by omega,fun q hq=>(t22 q hq).elim (hinv q) (fun h=>(t18 q h).resolve_left (by simp))⟩ (by show a.length - (k + 1) < a.length - k; omega) ⟨rfl,rfl,rfl,trivial⟩ rfl))))
  · exact r1_ ik 13 [0] rfl (decide_eq_false h2) (gr a (rowEnd (by omega)) (ret1 rfl rfl (fun w_ hs_=>made hs_ rfl (fun q hq=>.inr (hinv q hq)))))
def szArena (a : Arena) : Int := szList szNode a.nodes + (a.free.length : Int) + szList szRetired a.retired
theorem szArena_nn (a : Arena) : 0 ≤ szArena a:=by have:=szList_nn szNode_nn a.nodes; have:=szList_nn szRetired_nn a.retired; unfold szArena; omega

theorem laws_eqArena (w : World) {a : Arena} (ha : kArenaS.Rel w [.int .i64 a.dims,.slice Aa1 a.nodes.length ca1,.slice Aa2 a.free.length ca2,.slice Aa3 a.retired.length ca3] a [] sa_) {b : Arena} (hb : kArenaS.Rel w [.int .i64 b.dims,.slice Ab1 b.nodes.length cb1,.slice Ab2 b.free.length cb2,.slice Ab3 b.retired.length cb3] b [] sb_)  : Calls Tryz.prog 123 #[.agg #[.int .i64 a.dims,.slice Aa1 a.nodes.length ca1,.slice Aa2 a.free.length ca2,.slice Aa3 a.retired.length ca3],.agg #[.int .i64 b.dims,.slice Ab1 b.nodes.length cb1,.slice Ab2 b.free.length cb2,.slice Ab3 b.retired.length cb3]] w (fun e_ w2_=>e_ = .returned (.bool (decide (a = b))) ∧ Below w.heap.size w w2_):=by
  refine fnc (X:=X 28 w) (l:=[(0,.agg #[.int .i64 a.dims,.slice Aa1 a.nodes.length ca1,.slice Aa2 a.free.length ca2,.slice Aa3 a.retired.length ca3]),(1,.agg #[.int .i64 b.dims,.slice Ab1 b.nodes.length cb1,.slice Ab2 b.free.length cb2,.slice Ab3 b.retired.length cb3])]) Tryz.func123 rfl rfl rfl ⟨rfl,rfl,trivial⟩ (s0d hb (s0d ha (s0n w))).1 ?_
  refine sq (rg (bx rfl rfl rfl rfl ?_))
  intro b1
  refine bx rfl rfl rfl rfl ?_
  intro b2
  refine rn ik 13 [1,0,0,0] rfl ?_
  by_cases h3 : a.dims = b.dims
  · refine r1_ ik 10 [0,1,0,0,0] rfl (bne_eq_false_iff_eq.2 h3) ?_
    refine gd 3 kArenaS_p1_1 rfl (cs':=[.slice Aa1 a.nodes.length ca1]) rfl fun s4 w_ rs4 us4=>?_
    have Ls4:=Kd.sl_len rs4; have Cs4:=Kd.sl_cap rs4
    refine gd 3 kArenaS_p1_1 rfl (cs':=[.slice Ab1 b.nodes.length cb1]) rfl fun s5 w_ rs5 us5=>?_
    have Ls5:=Kd.sl_len rs5; have Cs5:=Kd.sl_cap rs5
    refine cs_ (v:=.bool (decide (a.nodes = b.nodes))) (by kernel_rfl) rfl rfl rfl (fun w_ hs_=>laws_eqNodeS w_ (hs_.at 1 rfl) (hs_.at 0 rfl)) (rn ik 3 [] rfl ?_)
    by_cases h6 : decide (a.nodes = b.nodes) = true
    · refine r1_ ik 10 [0,3,0,2,0] rfl (not_f h6) ?_
      refine gd 5 kArenaS_p2_1 rfl (cs':=[.slice Aa2 a.free.length ca2]) rfl fun s7 w_ rs7 us7=>?_
      have Ls7:=Kd.sl_len rs7; have Cs7:=Kd.sl_cap rs7
      refine gd 5 kArenaS_p2_1 rfl (cs':=[.slice Ab2 b.free.length cb2]) rfl fun s8 w_ rs8 us8=>?_
      have Ls8:=Kd.sl_len rs8; have Cs8:=Kd.sl_cap rs8
      refine cs_ (v:=.bool (decide (a.free = b.free))) (by kernel_rfl) rfl rfl rfl (fun w_ hs_=>laws_eqInt64S w_ (hs_.at 1 rfl) (hs_.at 0 rfl)) (rn ik 3 [] rfl ?_)
      by_cases h9 : decide (a.free = b.free) = true
      · refine r1_ ik 10 [0,5,0,4,0] rfl (not_f h9) ?_
        refine gd 7 kArenaS_p3_1 rfl (cs':=[.slice Aa3 a.retired.length ca3]) rfl fun s10 w_ rs10 us10=>?_
        have Ls10:=Kd.sl_len rs10; have Cs10:=Kd.sl_cap rs10
        refine gd 7 kArenaS_p3_1 rfl (cs':=[.slice Ab3 b.retired.length cb3]) rfl fun s11 w_ rs11 us11=>?_
        have Ls11:=Kd.sl_len rs11; have Cs11:=Kd.sl_cap rs11
        refine cs_ (v:=.bool (decide (a.retired = b.retired))) (by kernel_rfl) rfl rfl rfl (fun w_ hs_=>laws_eqRetiredS w_ (hs_.at 1 rfl) (hs_.at 0 rfl)) (rn ik 3 [] rfl ?_)
        by_cases h12 : decide (a.retired = b.retired) = true
        · refine r1_ ik 9 [0] rfl (not_f h12) (ret1 rfl rfl (fun w_ hs_=>⟨?_,hs_.below⟩))
          rw [Arena_eq]; simp [h3,h6,h9,h12]
        · refine r1_ ik 8 [1] rfl (not_t (Bool.eq_false_iff.2 h12)) (ret1 rfl rfl (fun w_ hs_=>⟨?_,hs_.below⟩))
          rw [Arena_eq]; simp [h3,h6,h9,h12]
      · refine r1_ ik 8 [1] rfl (not_t (Bool.eq_false_iff.2 h9)) (ret1 rfl rfl (fun w_ hs_=>⟨?_,hs_.below⟩))
        rw [Arena_eq]; simp [h3,h6,h9]
    · refine r1_ ik 8 [1] rfl (not_t (Bool.eq_false_iff.2 h6)) (ret1 rfl rfl (fun w_ hs_=>⟨?_,hs_.below⟩))
      rw [Arena_eq]; simp [h3,h6]
  · refine r1_ ik 8 [1] rfl (bne_iff_ne.2 h3) (ret1 rfl rfl (fun w_ hs_=>⟨?_,hs_.below⟩))
    rw [Arena_eq]; simp [h3]
theorem laws_szArena (w : World) (left : Int) {a : Arena} (ha : kArenaS.Rel w [.int .i64 a.dims,.slice Aa1 a.nodes.length ca1,.slice Aa2 a.free.length ca2,.slice Aa3 a.retired.length ca3] a [] sa_) (h0 : 0 ≤ left) (h1 : left ≤ 1152921504606846976) : Calls Tryz.prog 108 #[.agg #[.int .i64 a.dims,.slice Aa1 a.nodes.length ca1,.slice Aa2 a.free.length ca2,.slice Aa3 a.retired.length ca3],.int .i64 left] w (fun e_ w2_=>e_ = .returned (.int .i64 (szTake (szArena a) left)) ∧ Below w.heap.size w w2_):=by
  have n0:=szList_nn szNode_nn a.nodes; have n1:=szList_nn szRetired_nn a.retired
  refine fnc (X:=X 24 w) (l:=[(0,.agg #[.int .i64 a.dims,.slice Aa1 a.nodes.length ca1,.slice Aa2 a.free.length ca2,.slice Aa3 a.retired.length ca3]),(1,.int .i64 left)]) Tryz.func108 rfl rfl rfl ⟨rfl,rfl,trivial⟩ (s0d ha (s0n w)).1 ?_
  refine sq (rg (bx rfl rfl rfl rfl ?_))
  intro b1
  refine rn ik 8 [0,0] rfl ?_
  refine gd 1 kArenaS_p1_1 rfl (cs':=[.slice Aa1 a.nodes.length ca1]) rfl fun s2 w_ rs2 us2=>?_
  have Ls2:=Kd.sl_len rs2; have Cs2:=Kd.sl_cap rs2
  refine cs_ (v:=.int .i64 (szTake (szList szNode a.nodes) left)) (by kernel_rfl) rfl rfl rfl (fun w_ hs_=>laws_szNodeS w_ _ (hs_.at 0 rfl) (by omega) (by omega)) (rn ik 10 [] rfl ?_)
  by_cases h3 : (szTake (szList szNode a.nodes) left) < (0 : Int)
  · have eh3:=szTake_t h3
    refine r1_ ik 8 [1] rfl (decide_eq_true h3) (ret1 rfl rfl (fun w_ hs_=>⟨?_,hs_.below⟩))
    exact ri (by unfold szTake szArena; split <;> omega)
  · have eh3:=szTake_f h3
    refine r1_ ik 8 [0,1,0] rfl (decide_eq_false h3) ?_
    refine gd 2 kArenaS_p2_1 rfl (cs':=[.slice Aa2 a.free.length ca2]) rfl fun s4 w_ rs4 us4=>?_
    have Ls4:=Kd.sl_len rs4; have Cs4:=Kd.sl_cap rs4
    refine cs_ (v:=.int .i64 (szTake ((a.free.length : Nat) : Int) (szTake (szList szNode a.nodes) left))) (by kernel_rfl) rfl rfl rfl (fun w_ hs_=>laws_szInt64S w_ _ (hs_.at 0 rfl) (by omega) (by omega)) (rn ik 10 [] rfl ?_)
    by_cases h5 : (szTake ((a.free.length : Nat) : Int) (szTake (szList szNode a.nodes) left)) < (0 : Int)
    · have eh5:=szTake_t h5
      refine r1_ ik 8 [1] rfl (decide_eq_true h5) (ret1 rfl rfl (fun w_ hs_=>⟨?_,hs_.below⟩))
      exact ri (by unfold szTake szArena; split <;> omega)
    · have eh5:=szTake_f h5
      refine r1_ ik 8 [0,2,0] rfl (decide_eq_false h5) ?_
      refine gd 3 kArenaS_p3_1 rfl (cs':=[.slice Aa3 a.retired.length ca3]) rfl fun s6 w_ rs6 us6=>?_
      have Ls6:=Kd.sl_len rs6; have Cs6:=Kd.sl_cap rs6
      refine cs_ (v:=.int .i64 (szTake (szList szRetired a.retired) (szTake ((a.free.length : Nat) : Int) (szTake (szList szNode a.nodes) left)))) (by kernel_rfl) rfl rfl rfl (fun w_ hs_=>laws_szRetiredS w_ _ (hs_.at 0 rfl) (by omega) (by omega)) (rn ik 10 [] rfl ?_)
      by_cases h7 : (szTake (szList szRetired a.retired) (szTake ((a.free.length : Nat) : Int) (szTake (szList szNode a.nodes) left))) < (0 : Int)
      · have eh7:=szTake_t h7
        refine r1_ ik 8 [1] rfl (decide_eq_true h7) (ret1 rfl rfl (fun w_ hs_=>⟨?_,hs_.below⟩))
        exact ri (by unfold szTake szArena; split <;> omega)
      · have eh7:=szTake_f h7
        refine r1_ ik 10 [0] rfl (decide_eq_false h7) (ret1 rfl rfl (fun w_ hs_=>⟨?_,hs_.below⟩))
        exact ri (by unfold szTake szArena; split <;> omega)
theorem laws_toArena (w : World) {a : Arena} (ha : kArenaS.Rel w [.int .i64 a.dims,.slice Aa1 a.nodes.length ca1,.slice Aa2 a.free.length ca2,.slice Aa3 a.retired.length ca3] a [] sa_) (hz : szArena a ≤ 1048576) : Calls Tryz.prog 115 #[.agg #[.int .i64 a.dims,.slice Aa1 a.nodes.length ca1,.slice Aa2 a.free.length ca2,.slice Aa3 a.retired.length ca3]] w (Made kArenaO w a []):=by
  unfold szArena at hz; have n0:=szList_nn szNode_nn a.nodes; have n1:=szList_nn szRetired_nn a.retired
  refine fnc (X:=X 20 w) (l:=[(0,.agg #[.int .i64 a.dims,.slice Aa1 a.nodes.length ca1,.slice Aa2 a.free.length ca2,.slice Aa3 a.retired.length ca3])]) Tryz.func115 rfl rfl rfl ⟨rfl,trivial⟩ (s0d ha (s0n w)).1 ?_
  refine sq (rg (bx rfl rfl rfl rfl ?_))
  intro b1
  refine al zero40 rfl rfl rfl ?_
  intro b2
  refine rn ik 4 [] rfl (al zero40 rfl rfl rfl ?_)
  intro b3
  refine rn ik 7 [2,0] rfl (sto rfl rfl rfl rfl rfl rfl rfl (cs':=[.int .i64 a.dims,.slice none 0 0,.slice none 0 0,.slice none 0 0]) rfl (rn ik 6 [2,0] rfl ?_))
  refine gd 3 kArenaS_p1_1 rfl (cs':=[.slice Aa1 a.nodes.length ca1]) rfl fun s4 w_ rs4 us4=>?_
  have Ls4:=Kd.sl_len rs4; have Cs4:=Kd.sl_cap rs4
  refine cm_ (dk:=(Kd.row 52 kNodeO)) (x:=a.nodes) (S:=[]) (by kernel_rfl) rfl rfl rfl sn0 (fun w_ hs_=>laws_toNodeS w_ (hs_.at 0 rfl) (by omega)) (fun cs_ o7 s8 w_ r9 t10=>?_)
  obtain ⟨A5,c6,rfl⟩:=Kd.row_sh r9
  refine vl (fa rfl rfl rfl) rfl (f2 (sto rfl rfl rfl rfl rfl rfl rfl (cs':=[.int .i64 a.dims,.slice A5 a.nodes.length c6,.slice none 0 0,.slice none 0 0]) rfl (rn ik 6 [4,0] rfl ?_)))
  refine gd 5 kArenaS_p2_1 rfl (cs':=[.slice Aa2 a.free.length ca2]) rfl fun s12 w_ rs12 us12=>?_
  have Ls12:=Kd.sl_len rs12; have Cs12:=Kd.sl_cap rs12
  refine cm_ (dk:=(Kd.row 2 Kd.i64)) (x:=a.free) (S:=[]) (by kernel_rfl) rfl rfl rfl sn0 (fun w_ hs_=>laws_toInt64S w_ (hs_.at 0 rfl) (by omega)) (fun cs_ o15 s16 w_ r17 t18=>?_)
  obtain ⟨A13,c14,rfl⟩:=Kd.row_sh r17
  refine vl (fa rfl rfl rfl) rfl (f2 (sto rfl rfl rfl rfl rfl rfl rfl (cs':=[.int .i64 a.dims,.slice A5 a.nodes.length c6,.slice A13 a.free.length c14,.slice none 0 0]) rfl (rn ik 6 [6,0] rfl ?_)))
  refine gd 7 kArenaS_p3_1 rfl (cs':=[.slice Aa3 a.retired.length ca3]) rfl fun s20 w_ rs20 us20=>?_
  have Ls20:=Kd.sl_len rs20; have Cs20:=Kd.sl_cap rs20
  refine cm_ (dk:=(Kd.row 133 kRetiredO)) (x:=a.retired) (S:=[]) (by kernel_rfl) rfl rfl rfl sn0 (fun w_ hs_=>laws_toRetiredS w_ (hs_.at 0 rfl) (by omega)) (fun cs_ o23 s24 w_ r25 t26=>?_)
  obtain ⟨A21,c22,rfl⟩:=Kd.row_sh r25
  exact vl (fa rfl rfl rfl) rfl (f2 (sto rfl rfl rfl rfl rfl rfl rfl (cs':=[.int .i64 a.dims,.slice A5 a.nodes.length c6,.slice A13 a.free.length c14,.slice A21 a.retired.length c22]) rfl (rn ik 5 [0,0] rfl (f7 (sto rfl rfl rfl rfl rfl rfl rfl (cs':=[.int .i64 a.dims,.slice A5 a.nodes.length c6,.slice A13 a.free.length c14,.slice A21 a.retired.length c22]) rfl (en (nx (rt (f2 (f4 (gj (da:=(Kd.via (Kd.row 2 Kd.i64) Arena.free)) (db:=(Kd.via (Kd.row 133 kRetiredO) Arena.retired)) (x:=a) rfl (f5 (gj (da:=(Kd.via (Kd.row 52 kNodeO) Arena.nodes)) (db:=((Kd.via (Kd.row 2 Kd.i64) Arena.free).cat (Kd.via (Kd.row 133 kRetiredO) Arena.retired))) (x:=a) rfl (gs Kd.i64 [.int .i64 a.dims] a.dims (fun _=>⟨rfl,rfl,rfl⟩) (gj (da:=(Kd.via Kd.i64 Arena.dims)) (db:=((Kd.via (Kd.row 52 kNodeO) Arena.nodes).cat ((Kd.via (Kd.row 2 Kd.i64) Arena.free).cat (Kd.via (Kd.row 133 kRetiredO) Arena.retired)))) (x:=a) rfl (retc 1 rfl rfl rfl rfl rfl rfl (fun w_ hs_=>made hs_ rfl (see_app see_nil (see_app t10 (see_app t18 t26))))))))))))))))))))
def szTree (a : Tree) : Int := szArena a.arena
theorem szTree_nn (a : Tree) : 0 ≤ szTree a:=by have:=szArena_nn a.arena; unfold szTree; omega

theorem laws_eqTree (w : World) {a : Tree} (ha : kTreeS.Rel w [.int .i64 a.style,.int .i64 a.arena.dims,.slice Aa2 a.arena.nodes.length ca2,.slice Aa3 a.arena.free.length ca3,.slice Aa4 a.arena.retired.length ca4,.int .i64 a.root,.int .i64 a.rootNsn,.int .i64 a.counter] a [] sa_) {Ab4 : Option Addr} {cb4 : Nat} {b : Tree} (hb : kTreeS.Rel w [.int .i64 b.style,.int .i64 b.arena.dims,.slice Ab2 b.arena.nodes.length cb2,.slice Ab3 b.arena.free.length cb3,.slice Ab4 b.arena.retired.length cb4,.int .i64 b.root,.int .i64 b.rootNsn,.int .i64 b.counter] b [] sb_)  : Calls Tryz.prog 42 #[.agg #[.int .i64 a.style,.int .i64 a.arena.dims,.slice Aa2 a.arena.nodes.length ca2,.slice Aa3 a.arena.free.length ca3,.slice Aa4 a.arena.retired.length ca4,.int .i64 a.root,.int .i64 a.rootNsn,.int .i64 a.counter],.agg #[.int .i64 b.style,.int .i64 b.arena.dims,.slice Ab2 b.arena.nodes.length cb2,.slice Ab3 b.arena.free.length cb3,.slice Ab4 b.arena.retired.length cb4,.int .i64 b.root,.int .i64 b.rootNsn,.int .i64 b.counter]] w (fun e_ w2_=>e_ = .returned (.bool (decide (a = b))) ∧ Below w.heap.size w w2_):=by
  refine fnc (X:=X 31 w) (l:=[(0,.agg #[.int .i64 a.style,.int .i64 a.arena.dims,.slice Aa2 a.arena.nodes.length ca2,.slice Aa3 a.arena.free.length ca3,.slice Aa4 a.arena.retired.length ca4,.int .i64 a.root,.int .i64 a.rootNsn,.int .i64 a.counter]),(1,.agg #[.int .i64 b.style,.int .i64 b.arena.dims,.slice Ab2 b.arena.nodes.length cb2,.slice Ab3 b.arena.free.length cb3,.slice Ab4 b.arena.retired.length cb4,.int .i64 b.root,.int .i64 b.rootNsn,.int .i64 b.counter])]) Tryz.func42 rfl rfl rfl ⟨rfl,rfl,trivial⟩ (s0d hb (s0d ha (s0n w))).1 ?_
  refine sq (rg (bx rfl rfl rfl rfl ?_))
  intro b1
  refine bx rfl rfl rfl rfl ?_
  intro b2
  refine rn ik 13 [1,0,0,0] rfl ?_
  by_cases h3 : a.style = b.style
  · refine r1_ ik 10 [0,1,0,0,0] rfl (bne_eq_false_iff_eq.2 h3) ?_
    refine gd 3 kTreeS_p1_4 rfl (cs':=[.int .i64 a.arena.dims,.slice Aa2 a.arena.nodes.length ca2,.slice Aa3 a.arena.free.length ca3,.slice Aa4 a.arena.retired.length ca4]) rfl fun s4 w_ rs4 us4=>?_
    refine gd 3 kTreeS_p1_4 rfl (cs':=[.int .i64 b.arena.dims,.slice Ab2 b.arena.nodes.length cb2,.slice Ab3 b.arena.free.length cb3,.slice Ab4 b.arena.retired.length cb4]) rfl fun s5 w_ rs5 us5=>?_
    refine cs_ (v:=.bool (decide (a.arena = b.arena))) (by kernel_rfl) rfl rfl rfl (fun w_ hs_=>laws_eqArena w_ (hs_.at 1 rfl) (hs_.at 0 rfl)) (rn ik 3 [] rfl ?_)
    by_cases h6 : decide (a.arena = b.arena) = true
    · refine r1_ ik 13 [0,3,0,2,0] rfl (not_f h6) ?_
      by_cases h7 : a.root = b.root
      · refine r1_ ik 13 [0,3,0,2,0] rfl (bne_eq_false_iff_eq.2 h7) ?_
        by_cases h8 : a.rootNsn = b.rootNsn
        · refine r1_ ik 13 [0,3,0,2,0] rfl (bne_eq_false_iff_eq.2 h8) ?_
          by_cases h9 : a.counter = b.counter
          · refine r1_ ik 9 [0] rfl (bne_eq_false_iff_eq.2 h9) (ret1 rfl rfl (fun w_ hs_=>⟨?_,hs_.below⟩))
            rw [Tree_eq]; simp [h3,h6,h7,h8,h9]
          · refine r1_ ik 8 [1] rfl (bne_iff_ne.2 h9) (ret1 rfl rfl (fun w_ hs_=>⟨?_,hs_.below⟩))
            rw [Tree_eq]; simp [h3,h6,h7,h8,h9]
        · refine r1_ ik 8 [1] rfl (bne_iff_ne.2 h8) (ret1 rfl rfl (fun w_ hs_=>⟨?_,hs_.below⟩))
          rw [Tree_eq]; simp [h3,h6,h7,h8]
      · refine r1_ ik 8 [1] rfl (bne_iff_ne.2 h7) (ret1 rfl rfl (fun w_ hs_=>⟨?_,hs_.below⟩))
        rw [Tree_eq]; simp [h3,h6,h7]
    · refine r1_ ik 8 [1] rfl (not_t (Bool.eq_false_iff.2 h6)) (ret1 rfl rfl (fun w_ hs_=>⟨?_,hs_.below⟩))
      rw [Tree_eq]; simp [h3,h6]
  · refine r1_ ik 8 [1] rfl (bne_iff_ne.2 h3) (ret1 rfl rfl (fun w_ hs_=>⟨?_,hs_.below⟩))
    rw [Tree_eq]; simp [h3]
theorem laws_szTree (w : World) (left : Int) {a : Tree} (ha : kTreeS.Rel w [.int .i64 a.style,.int .i64 a.arena.dims,.slice Aa2 a.arena.nodes.length ca2,.slice Aa3 a.arena.free.length ca3,.slice Aa4 a.arena.retired.length ca4,.int .i64 a.root,.int .i64 a.rootNsn,.int .i64 a.counter] a [] sa_) (h0 : 0 ≤ left) (h1 : left ≤ 1152921504606846976) : Calls Tryz.prog 35 #[.agg #[.int .i64 a.style,.int .i64 a.arena.dims,.slice Aa2 a.arena.nodes.length ca2,.slice Aa3 a.arena.free.length ca3,.slice Aa4 a.arena.retired.length ca4,.int .i64 a.root,.int .i64 a.rootNsn,.int .i64 a.counter],.int .i64 left] w (fun e_ w2_=>e_ = .returned (.int .i64 (szTake (szTree a) left)) ∧ Below w.heap.size w w2_):=by
  have n0:=szArena_nn a.arena
  refine fnc (X:=X 12 w) (l:=[(0,.agg #[.int .i64 a.style,.int .i64 a.arena.dims,.slice Aa2 a.arena.nodes.length ca2,.slice Aa3 a.arena.free.length ca3,.slice Aa4 a.arena.retired.length ca4,.int .i64 a.root,.int .i64 a.rootNsn,.int .i64 a.counter]),(1,.int .i64 left)]) Tryz.func35 rfl rfl rfl ⟨rfl,rfl,trivial⟩ (s0d ha (s0n w)).1 ?_
  refine sq (rg (bx rfl rfl rfl rfl ?_))
  intro b1
  refine rn ik 8 [0,0] rfl ?_
  refine gd 1 kTreeS_p1_4 rfl (cs':=[.int .i64 a.arena.dims,.slice Aa2 a.arena.nodes.length ca2,.slice Aa3 a.arena.free.length ca3,.slice Aa4 a.arena.retired.length ca4]) rfl fun s2 w_ rs2 us2=>?_
  refine cs_ (v:=.int .i64 (szTake (szArena a.arena) left)) (by kernel_rfl) rfl rfl rfl (fun w_ hs_=>laws_szArena w_ _ (hs_.at 0 rfl) (by omega) (by omega)) (rn ik 10 [] rfl ?_)
  by_cases h3 : (szTake (szArena a.arena) left) < (0 : Int)
  · have eh3:=szTake_t h3
    refine r1_ ik 8 [1] rfl (decide_eq_true h3) (ret1 rfl rfl (fun w_ hs_=>⟨?_,hs_.below⟩))
    exact ri (by unfold szTake szTree; split <;> omega)
  · have eh3:=szTake_f h3
    refine r1_ ik 10 [0] rfl (decide_eq_false h3) (ret1 rfl rfl (fun w_ hs_=>⟨?_,hs_.below⟩))
    exact ri (by unfold szTake szTree; split <;> omega)
theorem laws_toTree (w : World) {a : Tree} (ha : kTreeS.Rel w [.int .i64 a.style,.int .i64 a.arena.dims,.slice Aa2 a.arena.nodes.length ca2,.slice Aa3 a.arena.free.length ca3,.slice Aa4 a.arena.retired.length ca4,.int .i64 a.root,.int .i64 a.rootNsn,.int .i64 a.counter] a [] sa_) (hz : szTree a ≤ 1048576) : Calls Tryz.prog 38 #[.agg #[.int .i64 a.style,.int .i64 a.arena.dims,.slice Aa2 a.arena.nodes.length ca2,.slice Aa3 a.arena.free.length ca3,.slice Aa4 a.arena.retired.length ca4,.int .i64 a.root,.int .i64 a.rootNsn,.int .i64 a.counter]] w (Made kTreeO w a []):=by
  unfold szTree at hz; have n0:=szArena_nn a.arena
  refine fnc (X:=X 21 w) (l:=[(0,.agg #[.int .i64 a.style,.int .i64 a.arena.dims,.slice Aa2 a.arena.nodes.length ca2,.slice Aa3 a.arena.free.length ca3,.slice Aa4 a.arena.retired.length ca4,.int .i64 a.root,.int .i64 a.rootNsn,.int .i64 a.counter])]) Tryz.func38 rfl rfl rfl ⟨rfl,trivial⟩ (s0d ha (s0n w)).1 ?_
  refine sq (rg (bx rfl rfl rfl rfl ?_))
  intro b1
  refine al zero80 rfl rfl rfl ?_
  intro b2
  refine rn ik 4 [] rfl (al zero80 rfl rfl rfl ?_)
  intro b3
  refine rn ik 7 [2,0] rfl (sto rfl rfl rfl rfl rfl rfl rfl (cs':=[.int .i64 a.style,.int .i64 0,.slice none 0 0,.slice none 0 0,.slice none 0 0,.int .i64 0,.int .i64 0,.int .i64 0]) rfl (rn ik 6 [2,0] rfl ?_))
  refine gd 3 kTreeS_p1_4 rfl (cs':=[.int .i64 a.arena.dims,.slice Aa2 a.arena.nodes.length ca2,.slice Aa3 a.arena.free.length ca3,.slice Aa4 a.arena.retired.length ca4]) rfl fun s4 w_ rs4 us4=>?_
  refine cm_ (dk:=kArenaO) (x:=a.arena) (S:=[]) (by kernel_rfl) rfl rfl rfl sn0 (fun w_ hs_=>laws_toArena w_ (hs_.at 0 rfl) (by omega)) (fun cs_ o11 s12 w_ r13 t14=>?_)
  obtain ⟨A5,c6,A7,c8,A9,c10,rfl⟩:=kArenaO_sh r13
  exact vl (fa rfl rfl rfl) rfl (f2 (sto rfl rfl rfl rfl rfl rfl rfl (cs':=[.int .i64 a.style,.int .i64 a.arena.dims,.slice A5 a.arena.nodes.length c6,.slice A7 a.arena.free.length c8,.slice A9 a.arena.retired.length c10,.int .i64 0,.int .i64 0,.int .i64 0]) rfl (rn ik 7 [4,0] rfl (sto rfl rfl rfl rfl rfl rfl rfl (cs':=[.int .i64 a.style,.int .i64 a.arena.dims,.slice A5 a.arena.nodes.length c6,.slice A7 a.arena.free.length c8,.slice A9 a.arena.retired.length c10,.int .i64 a.root,.int .i64 0,.int .i64 0]) rfl (rn ik 7 [4,0] rfl (sto rfl rfl rfl rfl rfl rfl rfl (cs':=[.int .i64 a.style,.int .i64 a.arena.dims,.slice A5 a.arena.nodes.length c6,.slice A7 a.arena.free.length c8,.slice A9 a.arena.retired.length c10,.int .i64 a.root,.int .i64 a.rootNsn,.int .i64 0]) rfl (rn ik 7 [4,0] rfl (sto rfl rfl rfl rfl rfl rfl rfl (cs':=[.int .i64 a.style,.int .i64 a.arena.dims,.slice A5 a.arena.nodes.length c6,.slice A7 a.arena.free.length c8,.slice A9 a.arena.retired.length c10,.int .i64 a.root,.int .i64 a.rootNsn,.int .i64 a.counter]) rfl (rn ik 5 [0,0] rfl (f3 (sto rfl rfl rfl rfl rfl rfl rfl (cs':=[.int .i64 a.style,.int .i64 a.arena.dims,.slice A5 a.arena.nodes.length c6,.slice A7 a.arena.free.length c8,.slice A9 a.arena.retired.length c10,.int .i64 a.root,.int .i64 a.rootNsn,.int .i64 a.counter]) rfl (en (nx (rt (gs Kd.i64 [.int .i64 a.counter] a.counter (fun _=>⟨rfl,rfl,rfl⟩) (gs Kd.i64 [.int .i64 a.rootNsn] a.rootNsn (fun _=>⟨rfl,rfl,rfl⟩) (gj (da:=(Kd.via Kd.i64 Tree.rootNsn)) (db:=(Kd.via Kd.i64 Tree.counter)) (x:=a) rfl (gs Kd.i64 [.int .i64 a.root] a.root (fun _=>⟨rfl,rfl,rfl⟩) (gj (da:=(Kd.via Kd.i64 Tree.root)) (db:=((Kd.via Kd.i64 Tree.rootNsn).cat (Kd.via Kd.i64 Tree.counter))) (x:=a) rfl (f3 (gj (da:=(Kd.via kArenaO Tree.arena)) (db:=((Kd.via Kd.i64 Tree.root).cat ((Kd.via Kd.i64 Tree.rootNsn).cat (Kd.via Kd.i64 Tree.counter)))) (x:=a) rfl (gs Kd.i64 [.int .i64 a.style] a.style (fun _=>⟨rfl,rfl,rfl⟩) (gj (da:=(Kd.via Kd.i64 Tree.style)) (db:=((Kd.via kArenaO Tree.arena).cat ((Kd.via Kd.i64 Tree.root).cat ((Kd.via Kd.i64 Tree.rootNsn).cat (Kd.via Kd.i64 Tree.counter))))) (x:=a) rfl (retc 1 rfl rfl rfl rfl rfl rfl (fun w_ hs_=>made hs_ rfl (see_app see_nil (see_app t14 (see_app see_nil (see_app see_nil see_nil)))))))))))))))))))))))))))))
end Go.Proofs.YtjdkfibeogiekaaGreat.Sx
