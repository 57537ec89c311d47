/- What functions of the program answer, each at every input that its row names; walked through their code. -/
import Derived.Test.YtjdkfibeogiekaaGreatSy11
namespace Go.Proofs.YtjdkfibeogiekaaGreat.Sx
open Go Go.RowKit Go.Proofs
set_option linter.unusedVariables false
set_option linter.unusedSimpArgs false
set_option maxRecDepth 20000
set_option maxHeartbeats 2000000
def tab12 : Tab := { size := [(208, 3, true)], off := [], elem := [(75, 208)] }
theorem tab_ok12 : tab12.check Tryz.prog = true:=by kernel_rfl
noncomputable abbrev X12 (N : Nat) (w : World) : Cx := ⟨Tryz.prog, tab12, tab_ok12, wide, N, w, none, []⟩





def nearIns (p : List Int) (out : List Pair) (x : Pair) : List Pair := out.takeWhile (fun a => nearerP p a x) ++ [x] ++ out.dropWhile (fun a => nearerP p a x)
def nearList (p : List Int) (l : List Pair) : List Pair := l.foldl (nearIns p) []
def hits (l : List Pair) (q : Query) : List Pair := l.filter (fun x => matchQ q x.rect)
def answerL (l : List Pair) (q : Query) : List Pair := if q.kind = 4 then (nearList q.point (hits l q)).take q.k.toNat else hits l q
theorem while_at {α : Type} {f : α → Bool} : ∀ {l : List α} {k : Nat},(∀ (j : Nat) (x : α),j < k → l[j]? = some x → f x = true) → (∀ x,l[k]? = some x → f x = false) → l.takeWhile f = l.take k ∧ l.dropWhile f = l.drop k
  | [],k,_,_=>by simp
  | a :: l,0,_,h=>by have:=h a rfl; simp [this]
  | a :: l,k + 1,h1,h2=>by
    have h0:=h1 0 a (by omega) rfl
    have ih:=while_at (l:=l) (k:=k) (fun j x hj hx=>h1 (j + 1) x (by omega) (by simpa using hx)) (fun x hx=>h2 x (by simpa using hx))
    simp [h0,ih.1,ih.2]
def nearUp (p : List Int) (list out : List Pair) (k i : Nat) : Prop := ∀ (j : Nat) (x y : Pair), j < k → out[j]? = some x → list[i]? = some y → nearerP p x y = true
theorem nearUp_0 {p : List Int} {list out : List Pair} {i : Nat} : nearUp p list out 0 i:=fun j x y h=>by omega
theorem nearUp_on {p : List Int} {list out : List Pair} {k i : Nat} {x y : Pair} (h : nearUp p list out k i) (hx : out[k]? = some x) (hy : list[i]? = some y) (hn : nearerP p x y = true) : nearUp p list out (k + 1) i:=fun j a b hj ha hb=>by
  rcases Nat.lt_succ_iff_lt_or_eq.1 hj with hlt | rfl
  · exact h j a b hlt ha hb
  · rw [hx] at ha; rw [hy] at hb; cases ha; cases hb; exact hn
theorem nearIns_end {p : List Int} {list out : List Pair} {k i : Nat} {y : Pair} (h : nearUp p list out k i) (hy : list[i]? = some y) (hk : out.length ≤ k) : nearIns p out y = out.take k ++ [y] ++ out.drop k:=by
  have:=while_at (f:=fun a=>nearerP p a y) (l:=out) (k:=k) (fun j x hj hx=>h j x y hj hx hy) (fun x hx=>by rw [List.getElem?_eq_none (by omega)] at hx; cases hx)
  unfold nearIns; rw [this.1,this.2]
theorem nearIns_at {p : List Int} {list out : List Pair} {k i : Nat} {x y : Pair} (h : nearUp p list out k i) (hy : list[i]? = some y) (hx : out[k]? = some x) (hn : ¬ nearerP p x y = true) : nearIns p out y = out.take k ++ [y] ++ out.drop k:=by
  have:=while_at (f:=fun a=>nearerP p a y) (l:=out) (k:=k) (fun j x hj hx=>h j x y hj hx hy) (fun z hz=>by rw [hx] at hz; cases hz; exact Bool.eq_false_iff.2 hn)
  unfold nearIns; rw [this.1,this.2]
theorem nearIns_perm (p : List Int) (out : List Pair) (x : Pair) : (nearIns p out x).Perm (x :: out):=by
  unfold nearIns
  have h1 : out.takeWhile (fun a=>nearerP p a x) ++ out.dropWhile (fun a=>nearerP p a x) = out:=List.takeWhile_append_dropWhile
  have h2:=List.perm_middle (l₁:=out.takeWhile (fun a=>nearerP p a x)) (l₂:=out.dropWhile (fun a=>nearerP p a x)) (a:=x)
  rw [h1] at h2
  simpa using h2
theorem nearList_snoc {p : List Int} {l : List Pair} {k : Nat} {y : Pair} (hy : l[k]? = some y) : nearIns p (nearList p (l.take k)) y = nearList p (l.take (k + 1)):=by
  unfold nearList; rw [take_snoc hy,List.foldl_append]; rfl
theorem nearFold_perm (p : List Int) : ∀ (l out : List Pair),(l.foldl (nearIns p) out).Perm (out ++ l)
  | [],out=>by simp
  | x :: l,out=>by
    rw [List.foldl_cons]
    refine (nearFold_perm p l _).trans ?_
    refine ((nearIns_perm p out x).append_right l).trans ?_
    exact (List.perm_middle (l₁:=out) (l₂:=l) (a:=x)).symm
theorem nearList_perm (p : List Int) (l : List Pair) : (nearList p l).Perm l:=by simpa [nearList] using nearFold_perm p l []
theorem nearList_len (p : List Int) (l : List Pair) : (nearList p l).length = l.length:=(nearList_perm p l).length_eq
theorem near_tri {p : List Int} {a b c : Pair} (h1 : nearerP p a b = true) (h2 : nearerP p b c = true) : nearerP p a c = true:=by
  unfold nearerP at *; simp only [Bool.or_eq_true,Bool.and_eq_true,decide_eq_true_eq,beq_iff_eq] at *; omega
theorem near_asym {p : List Int} {a b : Pair} (h1 : nearerP p a b = true) : nearerP p b a = false:=by
  rw [Bool.eq_false_iff]; intro h2; unfold nearerP at *; simp only [Bool.or_eq_true,Bool.and_eq_true,decide_eq_true_eq,beq_iff_eq] at *; omega
theorem near_le {p : List Int} {a b c : Pair} (h1 : nearerP p b a = false) (h2 : nearerP p c b = false) : nearerP p c a = false:=by
  rw [Bool.eq_false_iff] at *; unfold nearerP at *; simp only [Bool.or_eq_true,Bool.and_eq_true,decide_eq_true_eq,beq_iff_eq,ne_eq] at *; omega
def nearSorted (p : List Int) (l : List Pair) : Prop := l.Pairwise (fun a b => nearerP p b a = false)
theorem nearIns_sorted {p : List Int} {x : Pair} : ∀ {out : List Pair},nearSorted p out → nearSorted p (nearIns p out x)
  | [],_=>by simp [nearIns,nearSorted]
  | a :: l,h=>by
    obtain ⟨h1,h2⟩:=List.pairwise_cons.1 h
    by_cases hn : nearerP p a x = true
    · have ih : nearSorted p (nearIns p l x):=nearIns_sorted h2
      have e : nearIns p (a :: l) x = a :: nearIns p l x:=by unfold nearIns; simp [hn]
      rw [e]
      refine List.pairwise_cons.2 ⟨fun b hb=>?_,ih⟩
      rcases List.mem_cons.1 ((nearIns_perm p l x).mem_iff.1 hb) with rfl | hb
      · exact near_asym hn
      · exact h1 b hb
    · have hf : nearerP p a x = false:=Bool.eq_false_iff.2 hn
      have e : nearIns p (a :: l) x = x :: a :: l:=by unfold nearIns; simp [hf]
      rw [e]
      refine List.pairwise_cons.2 ⟨fun b hb=>?_,h⟩
      rcases List.mem_cons.1 hb with rfl | hb
      · exact hf
      · exact near_le hf (h1 b hb)
theorem nearList_sorted (p : List Int) (l : List Pair) : nearSorted p (nearList p l):=by
  unfold nearList
  have : ∀ (l out : List Pair),nearSorted p out → nearSorted p (l.foldl (nearIns p) out):=by
    intro l
    induction l with
    | nil=>intro out h; exact h
    | cons x l ih=>intro out h; exact ih _ (nearIns_sorted h)
  exact this l [] .nil
theorem near_one {p : List Int} {a b : Pair} (h1 : nearerP p a b = false) (h2 : nearerP p b a = false) : a.id = b.id:=by
  rw [Bool.eq_false_iff] at *; unfold nearerP at *; simp only [Bool.or_eq_true,Bool.and_eq_true,decide_eq_true_eq,beq_iff_eq,ne_eq] at *; omega
theorem ltOf_near (p : List Int) (a b : Pair) : decide (nearC p a b < 0) = nearerP p a b:=by
  have h:=nearC_ge (p:=p) (a:=a) (b:=b)
  cases hn : nearerP p a b <;> simp [hn] at h ⊢ <;> omega
theorem sort_near {p : List Int} {l : List Pair} (hu : ∀ x ∈ l,∀ y ∈ l,x.id = y.id → x = y) : l.mergeSort (fun x y=>!nearerP p y x) = nearList p l:=by
  have hs : (l.mergeSort (fun x y=>!nearerP p y x)).Pairwise (fun a b=>(!nearerP p b a) = true):=List.pairwise_mergeSort (fun a b c h1 h2=>by simp at *; exact near_le h1 h2) (fun a b=>by
    cases h : nearerP p b a
    · simp
    · simp [near_asym h]) l
  have hp:=List.mergeSort_perm l (fun x y=>!nearerP p y x)
  refine List.Perm.eq_of_pairwise (le:=fun a b=>nearerP p b a = false) (fun a b ha hb h1 h2=>?_) (hs.imp (fun h=>by simpa using h)) (nearList_sorted p l) (hp.trans (nearList_perm p l).symm)
  exact hu a (hp.mem_iff.1 ha) b ((nearList_perm p l).mem_iff.1 hb) (near_one h2 h1)
theorem near_mem {p : List Int} {l : List Pair} {x : Pair} (h : x ∈ nearList p l) : x ∈ l:=(nearList_perm p l).mem_iff.1 h

theorem spec_l2Near (w : World) {Alist : Option Addr} {clist : Nat} {list : List Pair} {slist_ : List Nat} (hlist : (Kd.sl kPairS).Rel w [.slice Alist list.length clist] list [] slist_) {Apoint : Option Addr} {cpoint : Nat} {point : List Int} {spoint_ : List Nat} (hpoint : (Kd.sl Kd.i64).Rel w [.slice Apoint point.length cpoint] point [] spoint_) {d : Nat} (hd : d ≤ 3) (yFl : ∀ x ∈ list,FitR d x.rect) (yFp : FitP d point) (hz : list.length ≤ 1000) : Calls Tryz.prog 184 #[.slice Alist list.length clist,.slice Apoint point.length cpoint] w (Made (Kd.sl kPairS) w (nearList point list) (slist_)):=by
  have Llist:=Kd.sl_len hlist; have Clist:=Kd.sl_cap hlist
  have Lpoint:=Kd.sl_len hpoint; have Cpoint:=Kd.sl_cap hpoint
  have hw0 : (0 : Nat) = 0:=rfl
  refine fnc (X:=X12 50 w) (l:=[(0,.slice Alist list.length clist),(1,.slice Apoint point.length cpoint)]) Tryz.func184 rfl rfl rfl ⟨rfl,rfl,trivial⟩ (s0d hpoint (s0d hlist (s0n w))).1 ?_
  refine rn ik 7 [] rfl (bs0 (dk:=kPairS) rfl info208 rfl rfl ?_)
  intro b1
  refine rn ik 10 [] rfl (gl (Kd.Seals.row kPairS_self _) (fun s2 us2=>?_))
  refine lp (σ:=Nat × List Pair × Option Addr × Nat × List Nat) (fun z_ : Nat × List Pair × Option Addr × Nat × List Nat=>match z_ with | (k,out1,A_out1,c_out1,s_out1)=>[(0,.slice Alist list.length clist),(1,.slice Apoint point.length cpoint),(5,.slice A_out1 out1.length c_out1),(6,.int .i64 ((k : Nat) : Int))])
      (fun z_ : Nat × List Pair × Option Addr × Nat × List Nat=>match z_ with | (k,out1,A_out1,c_out1,s_out1)=>[dat (Kd.sl kPairS) [.slice A_out1 out1.length c_out1] out1 ([]) s_out1,dat (Kd.sl Kd.i64) [.slice Apoint point.length cpoint] point ([]) spoint_,dat (Kd.sl kPairS) [.slice Alist list.length clist] list ([]) slist_])
      (fun z_ : Nat × List Pair × Option Addr × Nat × List Nat=>match z_ with | (k,out1,A_out1,c_out1,s_out1)=>(k ≤ list.length ∧ out1 = nearList point (list.take k) ∧ out1.length = k ∧ out1.length ≤ c_out1) ∧ (∀ q ∈ s_out1,q ∈ slist_ ∨ w.heap.size ≤ q)) (fun z_ : Nat × List Pair × Option Addr × Nat × List Nat=>match z_ with | (k,out1,A_out1,c_out1,s_out1)=>list.length - k) (0,[],(some ⟨b1,0,none⟩),0,s2) [0,0,0] ⟨⟨Nat.zero_le _,rfl,rfl,Nat.le_refl _⟩,by grind⟩ ⟨rfl,rfl,rfl,rfl,trivial⟩ rfl ?_
  rintro ⟨k,out1,A_out1,c_out1,s_out1⟩ hp_
  obtain ⟨hinv1,hsee1out1⟩:=hp_
  refine rn ik 9 [] rfl ?_
  by_cases h3 : ((k : Nat) : Int) < ((list.length : Nat) : Int)
  · refine r1_ ik 12 [1] rfl (decide_eq_true h3) ?_
    refine lp (σ:=Nat) (fun z_ : Nat=>match z_ with | k2=>[(0,.slice Alist list.length clist),(1,.slice Apoint point.length cpoint),(5,.slice A_out1 out1.length c_out1),(6,.int .i64 ((k : Nat) : Int)),(7,.int .i64 ((k2 : Nat) : Int))])
        (fun z_ : Nat=>match z_ with | k2=>[dat (Kd.sl kPairS) [.slice A_out1 out1.length c_out1] out1 ([]) s_out1,dat (Kd.sl Kd.i64) [.slice Apoint point.length cpoint] point ([]) spoint_,dat (Kd.sl kPairS) [.slice Alist list.length clist] list ([]) slist_])
        (fun z_ : Nat=>match z_ with | k2=>(k2 ≤ out1.length ∧ nearUp point list out1 k2 k)) (fun z_ : Nat=>match z_ with | k2=>out1.length - k2) (0) [0,0,0] ⟨Nat.zero_le _,nearUp_0⟩ ⟨rfl,rfl,rfl,rfl,rfl,trivial⟩ rfl ?_
    rintro k2 hp_
    have hinv2:=hp_
    refine sq (sq ?_)
    by_cases h4 : ((k2 : Nat) : Int) < ((out1.length : Nat) : Int)
    · refine gx 0 k2 rfl (by omega) fun y10 p5 cs_ s6 w9 m11 e7 r8 us6=>?_
      obtain ⟨A12,c13,A14,c15,rfl⟩:=kPairS_sh r8
      refine gx 3 k rfl (by omega) fun y21 p16 cs_ s17 w20 m22 e18 r19 us17=>?_
      obtain ⟨A23,c24,A25,c26,rfl⟩:=kPairS_sh r19
      refine r3_ ik 9 [1,2,3,4,5,6,1,7,1,8,1] rfl (decide_eq_true h4) (decide_eq_true h4) (decide_eq_true h4) (qg 8 rfl (ix k2 e7 rfl rfl rfl rfl rfl (by omega)) rfl rfl (decide_eq_true h4) (by kernel_rfl) (r2_ ik 2 [10,1,11,1] rfl (decide_eq_true h4) (decide_eq_true h4) (qg 11 rfl (ix k e18 rfl rfl rfl rfl rfl (by omega)) rfl rfl (decide_eq_true h4) (by kernel_rfl) (q1 12 [0,0,0,0,0] rfl (by kernel_rfl) rfl (gw rfl rfl (decide_eq_true h4) (cs_ (v:=.bool (nearerP point y10 y21)) (by kernel_rfl) rfl rfl rfl (fun w_ hs_=>by exact spec_l2Nearer w_ (hs_.at 3 rfl) (hs_.at 1 rfl) (hs_.at 0 rfl) hd (yFl _ (by have z : out1.Perm (list.take k):=(by rw [hinv1.2.1]; exact nearList_perm _ _); exact List.mem_of_mem_take (z.mem_iff.1 (List.mem_of_getElem? m11)))) (yFl _ (List.mem_of_getElem? m22)) yFp) (qn (r2_ ik 3 [14,1,0] rfl (decide_eq_true h4) ⟨[0,0,0,0,0],rfl⟩ ?_))))))))
      by_cases h27 : nearerP point y10 y21 = true
      · refine r1_ ik 6 [1] rfl h27 (vl (ra (c:=((k2 + 1 : Nat) : Int)) rfl rfl rfl (by omega) (by omega) (by omega)) rfl (rn ik 3 [] rfl ?_))
        exact lpe (s:=k2) (k2 + 1) [2,2,2] ⟨by omega,nearUp_on hinv2.2 m11 m22 h27⟩ (by show out1.length - (k2 + 1) < out1.length - k2; omega) ⟨rfl,rfl,rfl,rfl,rfl,trivial⟩ rfl
      · refine r1_ ik 8 [0] rfl (Bool.eq_false_iff.2 h27) (bs0 (dk:=kPairS) rfl info208 rfl rfl ?_)
        intro b28
        refine rn ik 2 [] rfl (vl (evr (v':=.slice A_out1 ((out1.take k2).length) c_out1) (shi (i:=k2) rfl rfl rfl rfl rfl (by omega)) (sl_eq (by first | (simp; done) | (simp; omega)))) rfl ?_)
        refine gct 3 k2 rfl (by omega) fun s29 w_ rs29 us29=>?_
        have Ls29:=Kd.sl_len rs29
        refine f1 (aps ([] ++ (out1.take k2)) rfl info208 rfl rfl (by decide) rfl rfl rfl rfl (by simp only [List.length_append,List.length_take,List.length_drop,List.length_cons,List.length_nil]; omega) (by simp only [List.length_append,List.length_take,List.length_drop,List.length_cons,List.length_nil]; omega) rfl (fun A30 c31 o32 s33 t34=>?_))
        refine rn ik 8 [] rfl (vl (ix k e18 rfl rfl rfl rfl rfl (by omega)) rfl (vl (ldq 2 rfl rfl rfl rfl rfl rfl rfl) rfl ?_))
        refine gp 2 Kd.Sub.rfl rfl (cs':=[.int .i64 y21.id,.slice A23 y21.rect.low.length c24,.slice A25 y21.rect.high.length c26]) rfl fun s36 w_ rs36 us36=>?_
        refine gd 0 Kd.Sub.rfl rfl (cs':=[.int .i64 y21.id,.slice A23 y21.rect.low.length c24,.slice A25 y21.rect.high.length c26]) rfl fun s37 w_ rs37 us37=>?_
        refine bs1 (dk:=kPairS) rfl info208 (by decide) rfl rfl rfl rfl ?_
        intro b35
        refine f2 (ap (([] ++ (out1.take k2)) ++ [y21]) rfl info208 rfl rfl (by decide) rfl rfl rfl rfl (by simp only [List.length_append,List.length_take,List.length_drop,List.length_cons,List.length_nil]; omega) (by simp only [List.length_append,List.length_take,List.length_drop,List.length_cons,List.length_nil]; omega) rfl (fun A38 c39 o40 s41 t42=>?_))
        refine rn ik 7 [] rfl (vl (evr (v':=.slice (if c_out1 = k2 then A_out1 else (A_out1 : Option Addr).map (·.add (k2 * 3))) ((out1.drop k2).length) (c_out1 - k2)) (slo (i:=k2) rfl rfl rfl rfl rfl (by omega) (by omega)) (sl_eq (by simp))) rfl ?_)
        refine gdr 5 k2 rfl (by omega) fun s43 w_ rs43 us43=>?_
        have Ls43:=Kd.sl_len rs43
        refine f1 (aps ((([] ++ (out1.take k2)) ++ [y21]) ++ (out1.drop k2)) rfl info208 rfl rfl (by decide) rfl rfl rfl rfl (by simp only [List.length_append,List.length_take,List.length_drop,List.length_cons,List.length_nil]; omega) (by simp only [List.length_append,List.length_take,List.length_drop,List.length_cons,List.length_nil]; omega) rfl (fun A44 c45 o46 s47 t48=>?_))
        refine rn ik 6 [] rfl (vl (ra (c:=((k + 1 : Nat) : Int)) rfl rfl rfl (by omega) (by omega) (by omega)) rfl (rn ik 2 [] rfl (gl (Kd.Seals.row kPairS_self _) (fun s49 us49=>?_))))
        refine gd 0 Kd.Sub.rfl rfl (cs':=[.slice A44 (((([] ++ (out1.take k2)) ++ [y21]) ++ (out1.drop k2)).length) c45]) rfl fun s50 w_ rs50 us50=>?_
        have Cs50:=Kd.sl_cap rs50
        exact lpe (s:=(k,out1,A_out1,c_out1,s_out1)) (k + 1,((([] ++ (out1.take k2)) ++ [y21]) ++ (out1.drop k2)),A44,c45,s50) [0,7,7] ⟨⟨by omega,by rw [← nearList_snoc m22,← hinv1.2.1,nearIns_at hinv2.2 m22 m11 h27]; simp,by simp only [List.length_append,List.length_take,List.length_drop,List.length_cons,List.length_nil]; omega,by first | omega | (simp only [List.length_append,List.length_take,List.length_drop,List.length_cons,List.length_nil] at *; omega)⟩,by grind⟩ (by show list.length - (k + 1) < list.length - k; omega) ⟨rfl,rfl,rfl,rfl,trivial⟩ rfl
    · refine rp ik 25 [1,2,3,4,5,6,0,7,0,8,0,9,0,10,0,11,0,12,0,13,0,14,0,0,0] rfl ⟨rfl,sid,(decide_eq_false h4),(decide_eq_false h4),(decide_eq_false h4),(decide_eq_false h4),(decide_eq_false h4),(decide_eq_false h4),(decide_eq_false h4),(decide_eq_false h4),(decide_eq_false h4),⟨⟩⟩ (bs0 (dk:=kPairS) rfl info208 rfl rfl ?_)
      intro b51
      refine rn ik 2 [] rfl (vl (evr (v':=.slice A_out1 ((out1.take k2).length) c_out1) (shi (i:=k2) rfl rfl rfl rfl rfl (by omega)) (sl_eq (by first | (simp; done) | (simp; omega)))) rfl ?_)
      refine gct 1 k2 rfl (by omega) fun s52 w_ rs52 us52=>?_
      have Ls52:=Kd.sl_len rs52
      refine f1 (aps ([] ++ (out1.take k2)) rfl info208 rfl rfl (by decide) rfl rfl rfl rfl (by simp only [List.length_append,List.length_take,List.length_drop,List.length_cons,List.length_nil]; omega) (by simp only [List.length_append,List.length_take,List.length_drop,List.length_cons,List.length_nil]; omega) rfl (fun A53 c54 o55 s56 t57=>?_))
      refine rn ik 8 [] rfl ?_
      refine gx 4 k rfl (by omega) fun y63 p58 cs_ s59 w62 m64 e60 r61 us59=>?_
      obtain ⟨A65,c66,A67,c68,rfl⟩:=kPairS_sh r61
      refine vl (ix k e60 rfl rfl rfl rfl rfl (by omega)) rfl (vl (ldq 0 rfl rfl rfl rfl rfl rfl rfl) rfl ?_)
      refine gp 0 Kd.Sub.rfl rfl (cs':=[.int .i64 y63.id,.slice A65 y63.rect.low.length c66,.slice A67 y63.rect.high.length c68]) rfl fun s70 w_ rs70 us70=>?_
      refine gd 0 Kd.Sub.rfl rfl (cs':=[.int .i64 y63.id,.slice A65 y63.rect.low.length c66,.slice A67 y63.rect.high.length c68]) rfl fun s71 w_ rs71 us71=>?_
      refine bs1 (dk:=kPairS) rfl info208 (by decide) rfl rfl rfl rfl ?_
      intro b69
      refine f3 (ap (([] ++ (out1.take k2)) ++ [y63]) rfl info208 rfl rfl (by decide) rfl rfl rfl rfl (by simp only [List.length_append,List.length_take,List.length_drop,List.length_cons,List.length_nil]; omega) (by simp only [List.length_append,List.length_take,List.length_drop,List.length_cons,List.length_nil]; omega) rfl (fun A72 c73 o74 s75 t76=>?_))
      refine rn ik 7 [] rfl (vl (evr (v':=.slice (if c_out1 = k2 then A_out1 else (A_out1 : Option Addr).map (·.add (k2 * 3))) ((out1.drop k2).length) (c_out1 - k2)) (slo (i:=k2) rfl rfl rfl rfl rfl (by omega) (by omega)) (sl_eq (by simp))) rfl ?_)
      refine gdr 4 k2 rfl (by omega) fun s77 w_ rs77 us77=>?_
      have Ls77:=Kd.sl_len rs77
      refine f1 (aps ((([] ++ (out1.take k2)) ++ [y63]) ++ (out1.drop k2)) rfl info208 rfl rfl (by decide) rfl rfl rfl rfl (by simp only [List.length_append,List.length_take,List.length_drop,List.length_cons,List.length_nil]; omega) (by simp only [List.length_append,List.length_take,List.length_drop,List.length_cons,List.length_nil]; omega) rfl (fun A78 c79 o80 s81 t82=>?_))
      refine rn ik 6 [] rfl (vl (ra (c:=((k + 1 : Nat) : Int)) rfl rfl rfl (by omega) (by omega) (by omega)) rfl (rn ik 2 [] rfl (gl (Kd.Seals.row kPairS_self _) (fun s83 us83=>?_))))
      refine gd 0 Kd.Sub.rfl rfl (cs':=[.slice A78 (((([] ++ (out1.take k2)) ++ [y63]) ++ (out1.drop k2)).length) c79]) rfl fun s84 w_ rs84 us84=>?_
      have Cs84:=Kd.sl_cap rs84
      exact lpe (s:=(k,out1,A_out1,c_out1,s_out1)) (k + 1,((([] ++ (out1.take k2)) ++ [y63]) ++ (out1.drop k2)),A78,c79,s84) [0,6,6] ⟨⟨by omega,by rw [← nearList_snoc m64,← hinv1.2.1,nearIns_end hinv2.2 m64 (by omega)]; simp,by simp only [List.length_append,List.length_take,List.length_drop,List.length_cons,List.length_nil]; omega,by first | omega | (simp only [List.length_append,List.length_take,List.length_drop,List.length_cons,List.length_nil] at *; omega)⟩,by grind⟩ (by show list.length - (k + 1) < list.length - k; omega) ⟨rfl,rfl,rfl,rfl,trivial⟩ rfl
  · exact r1_ ik 13 [0] rfl (decide_eq_false h3) (gr (nearList point list) (by rw [hinv1.2.1,List.take_of_length_le (by omega)]) (ret1 rfl rfl (fun w_ hs_=>made hs_ rfl (by grind))))

end Go.Proofs.YtjdkfibeogiekaaGreat.Sx
