/- What functions of the program answer, each at every input that its row names; walked through their code. -/
import Derived.Test.YtjdkfibeogiekaaGreatSy17
namespace Go.Proofs.YtjdkfibeogiekaaGreat.Sx
open Go Go.RowKit Go.Proofs
set_option linter.unusedVariables false
set_option linter.unusedSimpArgs false
set_option maxRecDepth 20000
set_option maxHeartbeats 2000000
variable {Aa0 Aa1 Aa2 Aa3 Ab0 Ab1 Alist : Option Addr} {ca0 ca1 ca2 ca3 cb0 cb1 clist d : Nat} {sa_ sb_ slist_ : List Nat} {pa : Addr}
def tab18 : Tab := { size := [(2, 1, false), (24, 1, false), (37, 1, false), (38, 1, false), (40, 4, true), (82, 2, true), (102, 4, true)], off := [((40, 2), 2), ((40, 3), 3), ((52, 0), 0), ((52, 3), 3), ((82, 0), 0), ((82, 1), 1), ((102, 0), 0)], elem := [(24, 102), (37, 2)] }
theorem tab_ok18 : tab18.check Tryz.prog = true:=by kernel_rfl
noncomputable abbrev X18 (N : Nat) (w : World) : Cx := ⟨Tryz.prog, tab18, tab_ok18, wide, N, w, none, []⟩



theorem zw_step {f : Int → Int → Int} {la lb : List Int} {k : Nat} {x y : Int} (hx : la[k]? = some x) (hy : lb[k]? = some y) : (List.zipWith f (la.take k) (lb.take k) ++ la.drop k).set k (f x y) = List.zipWith f (la.take (k + 1)) (lb.take (k + 1)) ++ la.drop (k + 1):=by
  have h1:=(List.getElem?_eq_some_iff.1 hx).1
  have h2:=(List.getElem?_eq_some_iff.1 hy).1
  have h3 : (List.zipWith f (la.take k) (lb.take k)).length = k:=by simp; omega
  rw [List.set_append_right _ _ (by omega),h3,Nat.sub_self,take_snoc hx,take_snoc hy,List.zipWith_append (by simp; omega),List.append_assoc]
  congr 1
  rw [drop_at hx]
  rfl
theorem zw_end {f : Int → Int → Int} {la lb : List Int} {k : Nat} (h : la.length ≤ k) (hl : lb.length = la.length) : List.zipWith f (la.take k) (lb.take k) ++ la.drop k = List.zipWith f la lb:=by
  rw [List.take_of_length_le h,List.take_of_length_le (by omega),List.drop_of_length_le h,List.append_nil]
theorem zw_snoc {f : Int → Int → Int} {la lb : List Int} {k : Nat} {x y : Int} (hx : la[k]? = some x) (hy : lb[k]? = some y) : List.zipWith f (la.take k) (lb.take k) ++ [f x y] = List.zipWith f (la.take (k + 1)) (lb.take (k + 1)):=by
  have h1:=(List.getElem?_eq_some_iff.1 hx).1
  have h2:=(List.getElem?_eq_some_iff.1 hy).1
  rw [take_snoc hx,take_snoc hy,List.zipWith_append (by simp; omega)]
  rfl
theorem zw_all {f : Int → Int → Int} {la lb : List Int} {k : Nat} (h : la.length ≤ k) (hl : lb.length = la.length) : List.zipWith f (la.take k) (lb.take k) = List.zipWith f la lb:=by
  rw [List.take_of_length_le h,List.take_of_length_le (by omega)]
theorem Dim.sz {d : Nat} {r : Rect} (h : Dim d r) (hd : 0 < d ∧ d ≤ 3) : szRect r ≤ 1048576:=by
  unfold Dim at h; unfold szRect; omega
theorem Sound.dimOk {a : Arena} (h : Sound a) : 0 < a.dims.toNat ∧ a.dims.toNat ≤ 3:=by
  have:=within_t h.dims; omega
theorem Sound.kids {a : Arena} (h : Sound a) {id : Int} (hp : isPlace a id = true) : ∀ e ∈ (nodeAt a id).entries,Dim a.dims.toNat e.rect:=fun e he=>h.dim (nodeAt_mem hp).1 he
theorem box_head {l : List Entry} {y : Entry} (h : l[0]? = some y) : boxOf l = boxFrom y.rect (l.drop 1):=by
  cases l with
  | nil=>simp at h
  | cons a l=>simp at h; subst h; rfl
theorem box_on {l : List Entry} {r m : Rect} {k : Nat} {y : Entry} (h : m = boxFrom r (l.take k)) (hy : l[k]? = some y) : unionR m y.rect = boxFrom r (l.take (k + 1)):=by rw [boxFrom_snoc hy,h]
def walkM (t : Tree) (L : Nat) (id : Int) (met : List Int) : List Int := (walkF t L id met).getD []
theorem walk_eq {t : Tree} {L : Nat} {id : Int} {met : List Int} (hL : L ≠ 0) (hc : counts t id (nodeAt t.arena id) = true) : walkF t L id met = (nodeAt t.arena id).entries.foldlM (walkStep t (L - 1) (nodeAt t.arena id)) (met ++ [id]):=by
  cases L with
  | zero=>exact absurd rfl hL
  | succ L=>rw [walkF,if_pos hc]; rfl
theorem walk_zero {t : Tree} {L : Nat} {id : Int} {met : List Int} (hL : L = 0) (hc : counts t id (nodeAt t.arena id) = true) : walkF t L id met = some (met ++ [id]):=by
  subst hL; rw [walkF,if_pos hc]
theorem walk_bad {t : Tree} {L : Nat} {id : Int} {met : List Int} (hc : counts t id (nodeAt t.arena id) = false) : walkF t L id met = none:=by
  cases L <;> rw [walkF,if_neg (by rw [hc]; simp)]
theorem wf_on {f : List Int → Entry → Option (List Int)} {es : List Entry} {k : Nat} {y : Entry} {m m' : List Int} {r : Option (List Int)} (h : (es.drop k).foldlM f m = r) (hy : es[k]? = some y) (hs : f m y = some m') : (es.drop (k + 1)).foldlM f m' = r:=by
  rw [drop_at hy,List.foldlM_cons,hs] at h; exact h
theorem wf_no {f : List Int → Entry → Option (List Int)} {es : List Entry} {k : Nat} {y : Entry} {m : List Int} {r : Option (List Int)} (h : (es.drop k).foldlM f m = r) (hy : es[k]? = some y) (hs : f m y = none) : r = none:=by
  rw [drop_at hy,List.foldlM_cons,hs] at h; exact h.symm
theorem wf_end {f : List Int → Entry → Option (List Int)} {es : List Entry} {k : Nat} {m : List Int} {r : Option (List Int)} (h : (es.drop k).foldlM f m = r) (hk : es.length ≤ k) : r = some m:=by
  rw [List.drop_of_length_le hk] at h; exact h.symm
theorem ws_no1 {t : Tree} {L : Nat} {n : Node} {m : List Int} {e : Entry} (h : ¬ (isUsed t.arena e.ref = true ∧ e.ref ∉ m ∧ kidOk n e (nodeAt t.arena e.ref) = true)) : walkStep t L n m e = none:=by
  unfold walkStep; rw [if_neg h]
theorem ws_yes {t : Tree} {L : Nat} {n : Node} {m : List Int} {e : Entry} (h1 : isUsed t.arena e.ref = true) (h2 : e.ref ∉ m) (h3 : kidOk n e (nodeAt t.arena e.ref) = true) : walkStep t L n m e = walkF t L e.ref m:=by
  unfold walkStep; rw [if_pos ⟨h1,h2,h3⟩]
theorem kid_t {n c : Node} {e : Entry} (h1 : c.level = n.level - 1) (h2 : c.nsn = e.nsn) (h3 : ¬ ((c.entries.length : Nat) : Int) = 0) (h4 : decide (boxOf c.entries = e.rect) = true) : kidOk n e c = true:=by
  unfold kidOk
  have : ¬ c.entries.length = 0:=by omega
  simp [h1,h2,this]
  simpa using h4
theorem some_of {α : Type} {o : Option (List α)} (h : o.isSome = true) : o = some (o.getD []):=by cases o <;> simp_all
theorem none_of {α : Type} {o : Option α} (h : ¬ o.isSome = true) : o = none:=by cases o <;> simp_all
theorem counts_t {t : Tree} {id : Int} {n : Node} (h1 : ¬ (4 : Int) < ((n.entries.length : Nat) : Int)) (h2 : ¬ ((n.entries.length : Nat) : Int) < 2 ∨ (id = t.root ∧ n.level = 0)) : counts t id n = true:=by
  unfold counts; rw [decide_eq_true_eq]; refine ⟨by omega,?_⟩
  rcases h2 with h2 | h2
  · exact .inl (by omega)
  · exact .inr h2
theorem counts_f1 {t : Tree} {id : Int} {n : Node} (h1 : (4 : Int) < ((n.entries.length : Nat) : Int)) : counts t id n = false:=by
  unfold counts; rw [decide_eq_false_iff_not]; rintro ⟨h,_⟩; omega
theorem counts_f2 {t : Tree} {id : Int} {n : Node} (h1 : ((n.entries.length : Nat) : Int) < 2) (h2 : ¬ (id = t.root ∧ n.level = 0)) : counts t id n = false:=by
  unfold counts; rw [decide_eq_false_iff_not]; rintro ⟨_,h | h⟩
  · omega
  · exact h2 h

theorem spec_l1Min (w : World) (a : Int) (b : Int)  : Calls Tryz.prog 93 #[.int .i64 a,.int .i64 b] w (fun e_ w2_=>e_ = .returned (.int .i64 (gmin a b)) ∧ Below w.heap.size w w2_):=by
  refine fnc (X:=X18 10 w) (l:=[(0,.int .i64 a),(1,.int .i64 b)]) Tryz.func93 rfl rfl rfl ⟨rfl,rfl,trivial⟩ (s0n w).1 ?_
  refine rn ik 13 [] rfl ?_
  by_cases h1 : a < b
  · refine r1_ ik 9 [1] rfl (decide_eq_true h1) (ret1 rfl rfl (fun w_ hs_=>⟨?_,hs_.below⟩))
    exact ri (by unfold gmin; split <;> omega)
  · refine r1_ ik 10 [0] rfl (decide_eq_false h1) (ret1 rfl rfl (fun w_ hs_=>⟨?_,hs_.below⟩))
    exact ri (by unfold gmin; split <;> omega)
theorem impl_union (w : World) {a : Rect} (ha : kRectS.Rel w [.slice Aa0 a.low.length ca0,.slice Aa1 a.high.length ca1] a [] sa_) {b : Rect} (hb : kRectS.Rel w [.slice Ab0 b.low.length cb0,.slice Ab1 b.high.length cb1] b [] sb_) (hda : Dim d a) (hdb : Dim d b) (hd : 0 < d ∧ d ≤ 3) : Calls Tryz.prog 270 #[.agg #[.slice Aa0 a.low.length ca0,.slice Aa1 a.high.length ca1],.agg #[.slice Ab0 b.low.length cb0,.slice Ab1 b.high.length cb1]] w (Made kRectO w (unionR a b) []):=by
  have La0:=Kd.sub_len kRectS_p0_1 ha; have Ca0:=Kd.sub_cap kRectS_p0_1 ha rfl
  have La1:=Kd.sub_len kRectS_p1_1 ha; have Ca1:=Kd.sub_cap kRectS_p1_1 ha rfl
  have Lb0:=Kd.sub_len kRectS_p0_1 hb; have Cb0:=Kd.sub_cap kRectS_p0_1 hb rfl
  have Lb1:=Kd.sub_len kRectS_p1_1 hb; have Cb1:=Kd.sub_cap kRectS_p1_1 hb rfl
  have hsz:=hda.sz hd; have hq:=hda; have hq2:=hdb; unfold Dim at hq hq2
  refine fnc (X:=X18 47 w) (l:=[(0,.agg #[.slice Aa0 a.low.length ca0,.slice Aa1 a.high.length ca1]),(1,.agg #[.slice Ab0 b.low.length cb0,.slice Ab1 b.high.length cb1])]) Tryz.func270 rfl rfl rfl ⟨rfl,rfl,trivial⟩ (s0d hb (s0d ha (s0n w))).1 ?_
  refine sq (rg (bx rfl rfl rfl rfl ?_))
  intro b1
  refine bx rfl rfl rfl rfl ?_
  intro b2
  refine al zero82 rfl rfl rfl ?_
  intro b3
  refine rn ik 5 [2,0] rfl (cm_ (dk:=kRectO) (x:=a) (S:=[]) (by kernel_rfl) rfl rfl rfl sn0 (fun w_ hs_=>impl_Rect_cloned w_ (hs_.at 4 rfl) (by omega)) (fun cs_ o8 s9 w_ r10 t11=>?_))
  obtain ⟨A4,c5,A6,c7,rfl⟩:=kRectO_sh r10
  refine al zero82 rfl rfl rfl ?_
  intro b13
  refine sto rfl rfl rfl rfl rfl rfl rfl (cs':=[.slice A4 a.low.length c5,.slice A6 a.high.length c7]) rfl (rn ik 12 [0,0] rfl (f1 (gsp (da:=(Kd.via (Kd.row 2 Kd.i64) Rect.low)) rfl rfl (fun o14 o15 s16 s17 us16 us17=>?_))))
  refine gv (f1 (gv ?_))
  refine gpos 1 rfl (by omega) fun b18 hb18=>?_
  subst hb18
  refine gpos 0 rfl (by omega) fun b19 hb19=>?_
  subst hb19
  refine lp (σ:=Nat × List Nat × List Nat × List Nat × List Nat) (fun z_ : Nat × List Nat × List Nat × List Nat × List Nat=>match z_ with | (k,o1,s1,o2,s2)=>[(2,.pointer (some ⟨b1,0,none⟩)),(3,.pointer (some ⟨b2,0,none⟩)),(4,.pointer (some ⟨b3,0,none⟩)),(5,.pointer (some ⟨b13,0,none⟩)),(11,.int .i64 ((a.low.length : Nat) : Int)),(12,.int .i64 ((k : Nat) : Int))])
      (fun z_ : Nat × List Nat × List Nat × List Nat × List Nat=>match z_ with | (k,o1,s1,o2,s2)=>[dat (Kd.row 2 Kd.i64) [.slice (some ⟨b18,0,none⟩) a.low.length c5] (List.zipWith gmin (a.low.take k) (b.low.take k) ++ a.low.drop k) o1 s1,dat (Kd.row 2 Kd.i64) [.slice (some ⟨b19,0,none⟩) a.high.length c7] (List.zipWith gmax (a.high.take k) (b.high.take k) ++ a.high.drop k) o2 s2,blk b13 [.slice (some ⟨b18,0,none⟩) a.low.length c5,.slice (some ⟨b19,0,none⟩) a.high.length c7] 82,blk b3 [.slice none 0 0,.slice none 0 0] 82,blk b2 [.slice Ab0 b.low.length cb0,.slice Ab1 b.high.length cb1] 82,blk b1 [.slice Aa0 a.low.length ca0,.slice Aa1 a.high.length ca1] 82,dat kRectS [.slice Ab0 b.low.length cb0,.slice Ab1 b.high.length cb1] b ([]) sb_,dat kRectS [.slice Aa0 a.low.length ca0,.slice Aa1 a.high.length ca1] a ([]) sa_])
      (fun z_ : Nat × List Nat × List Nat × List Nat × List Nat=>match z_ with | (k,o1,s1,o2,s2)=>k ≤ a.low.length ∧ (∀ q ∈ s1,w.heap.size ≤ q) ∧ ∀ q ∈ s2,w.heap.size ≤ q) (fun z_ : Nat × List Nat × List Nat × List Nat × List Nat=>match z_ with | (k,o1,s1,o2,s2)=>a.low.length - k) (0,o14,s16,o15,s17) [1,0,0,0,0,0,0,0] ⟨Nat.zero_le _,by grind,by grind⟩ ⟨rfl,rfl,rfl,rfl,rfl,rfl,trivial⟩ rfl ?_
  rintro ⟨k,o1,s1,o2,s2⟩ hp_
  obtain ⟨hk,hs1,hs2⟩:=hp_
  refine rn ik 6 [] rfl ?_
  by_cases h20 : ((k : Nat) : Int) < ((a.low.length : Nat) : Int)
  · refine r1_ ik 11 [1] rfl (decide_eq_true h20) ?_
    refine gd 7 kRectS_p0_1 rfl (cs':=[.slice Aa0 a.low.length ca0]) rfl fun s21 w_ rs21 us21=>?_
    have Ls21:=Kd.sl_len rs21; have Cs21:=Kd.sl_cap rs21
    refine gx 0 k rfl (by omega) fun y27 p22 cs_ s23 w26 m28 e24 r25 us23=>?_
    obtain ⟨rfl,-,-⟩:=r25
    refine gd 8 kRectS_p0_1 rfl (cs':=[.slice Ab0 b.low.length cb0]) rfl fun s29 w_ rs29 us29=>?_
    have Ls29:=Kd.sl_len rs29; have Cs29:=Kd.sl_cap rs29
    refine gx 0 k rfl (by omega) fun y35 p30 cs_ s31 w34 m36 e32 r33 us31=>?_
    obtain ⟨rfl,-,-⟩:=r33
    refine gd 11 kRectS_p1_1 rfl (cs':=[.slice Aa1 a.high.length ca1]) rfl fun s37 w_ rs37 us37=>?_
    have Ls37:=Kd.sl_len rs37; have Cs37:=Kd.sl_cap rs37
    refine gx 0 k rfl (by omega) fun y43 p38 cs_ s39 w42 m44 e40 r41 us39=>?_
    obtain ⟨rfl,-,-⟩:=r41
    refine gd 12 kRectS_p1_1 rfl (cs':=[.slice Ab1 b.high.length cb1]) rfl fun s45 w_ rs45 us45=>?_
    have Ls45:=Kd.sl_len rs45; have Cs45:=Kd.sl_cap rs45
    refine gx 0 k rfl (by omega) fun y51 p46 cs_ s47 w50 m52 e48 r49 us47=>?_
    obtain ⟨rfl,-,-⟩:=r49
    refine rd (Gq:=[ptr Kd.i64 p46 [.int .i64 y51] y51 s47,dat (Kd.sl Kd.i64) [.slice Ab1 b.high.length cb1] b.high ([]) s45,ptr Kd.i64 p38 [.int .i64 y43] y43 s39,dat (Kd.sl Kd.i64) [.slice Aa1 a.high.length ca1] a.high ([]) s37,ptr Kd.i64 p30 [.int .i64 y35] y35 s31,dat (Kd.sl Kd.i64) [.slice Ab0 b.low.length cb0] b.low ([]) s29,ptr Kd.i64 p22 [.int .i64 y27] y27 s23,dat (Kd.sl Kd.i64) [.slice Aa0 a.low.length ca0] a.low ([]) s21,blk b13 [.slice (some ⟨b18,0,none⟩) a.low.length c5,.slice (some ⟨b19,0,none⟩) a.high.length c7] 82,blk b3 [.slice none 0 0,.slice none 0 0] 82,blk b2 [.slice Ab0 b.low.length cb0,.slice Ab1 b.high.length cb1] 82,blk b1 [.slice Aa0 a.low.length ca0,.slice Aa1 a.high.length ca1] 82,dat kRectS [.slice Ab0 b.low.length cb0,.slice Ab1 b.high.length cb1] b ([]) sb_,dat kRectS [.slice Aa0 a.low.length ca0,.slice Aa1 a.high.length ca1] a ([]) sa_]) [0,0,0,0,0,0,0,0,2,2,2,2,2,2] rfl (rn ik 9 [1,2,8,0,3,4,5,8,0,6,7,8,11,0,9] rfl (qv 9 rfl (ix k e24 rfl rfl rfl rfl rfl (by omega)) rfl (by kernel_rfl) (rn ik 4 [11,6,0,12,13,10,0,14] rfl (qv 14 rfl (ix k e32 rfl rfl rfl rfl rfl (by omega)) rfl (by kernel_rfl) (qv 15 rfl (ldq (u:=.int .i64 y35) 4 rfl rfl rfl rfl rfl rfl rfl) rfl (by kernel_rfl) (qv 16 rfl (mn rfl rfl rfl) rfl (by kernel_rfl) (rn ik 3 [18,19,11,0,20] rfl (qv 20 rfl (ix k e40 rfl rfl rfl rfl rfl (by omega)) rfl (by kernel_rfl) (rn ik 4 [22,2,0,23,24,10,0,25] rfl (qv 25 rfl (ix k e48 rfl rfl rfl rfl rfl (by omega)) rfl (by kernel_rfl) (qv 26 rfl (ldq (u:=.int .i64 y51) 0 rfl rfl rfl rfl rfl rfl rfl) rfl (by kernel_rfl) (qv 27 rfl (mx rfl rfl rfl) rfl (by kernel_rfl) (qv 28 rfl (ix k rfl rfl rfl rfl rfl rfl (by omega)) rfl (by kernel_rfl) (q1 29 [0,0,0,0,0,0,0,0,2,2,2,2,2,2] rfl (by kernel_rfl) rfl (gs Kd.i64 [.int .i64 (gmin y27 y35)] (gmin y27 y35) (fun _=>⟨rfl,rfl,rfl⟩) (f9 (ste k rfl rfl rfl rfl rfl (by simp; omega) (fun o53 s54 t55=>?_))))))))))))))))))
    refine gr (List.zipWith gmin (a.low.take (k + 1)) (b.low.take (k + 1)) ++ a.low.drop (k + 1)) (zw_step m28 m36) (qn (qv 30 rfl (ix k rfl rfl rfl rfl rfl rfl (by omega)) rfl (by kernel_rfl) (q1 31 [1,1,1,1,1,1,1,1,2,2,2,2,2,2] rfl (by kernel_rfl) rfl (gs Kd.i64 [.int .i64 (gmax y43 y51)] (gmax y43 y51) (fun _=>⟨rfl,rfl,rfl⟩) (f10 (ste k rfl rfl rfl rfl rfl (by simp; omega) (fun o56 s57 t58=>?_)))))))
    exact gr (List.zipWith gmax (a.high.take (k + 1)) (b.high.take (k + 1)) ++ a.high.drop (k + 1)) (zw_step m44 m52) (qn (r1_ ik 4 [0] rfl ⟨[2,2,2,2,2,2,2,2,2,2,2,2,2,2],rfl⟩ (vl (ra (c:=((k + 1 : Nat) : Int)) rfl rfl rfl (by omega) (by omega) (by omega)) rfl (rn ik 2 [] rfl (lpe (s:=(k,o1,s1,o2,s2)) (k + 1,o53,s54,o56,s57) [1,0,8,8,8,8,8,8] ⟨by omega,by grind,by grind⟩ (by show a.low.length - (k + 1) < a.low.length - k; omega) ⟨rfl,rfl,rfl,rfl,rfl,rfl,trivial⟩ rfl)))))
  · exact r1_ ik 9 [0,2,0] rfl (decide_eq_false h20) (f3 (sto rfl rfl rfl rfl rfl rfl rfl (cs':=[.slice (some ⟨b18,0,none⟩) a.low.length c5,.slice (some ⟨b19,0,none⟩) a.high.length c7]) rfl (en (nx (rt (f2 (f2 (gj (da:=(Kd.via (Kd.row 2 Kd.i64) Rect.low)) (db:=(Kd.via (Kd.row 2 Kd.i64) Rect.high)) (x:=(⟨(List.zipWith gmin (a.low.take k) (b.low.take k) ++ a.low.drop k),(List.zipWith gmax (a.high.take k) (b.high.take k) ++ a.high.drop k)⟩ : Rect)) rfl (gr (unionR a b) (by unfold unionR; rw [zw_end (by omega) (by omega),zw_end (by omega) (by omega)]) (retc 1 rfl rfl rfl rfl rfl rfl (fun w_ hs_=>made hs_ rfl (see_app (by grind) (by grind)))))))))))))
theorem spec_l1Union (w : World) {a : Rect} (ha : (ptr kRectS pa [.slice Aa0 a.low.length ca0,.slice Aa1 a.high.length ca1] a sa_).P w) {b : Rect} {pb : Addr} (hb : (ptr kRectS pb [.slice Ab0 b.low.length cb0,.slice Ab1 b.high.length cb1] b sb_).P w) (hda : Dim d a) (hdb : Dim d b) (hd : 0 < d ∧ d ≤ 3) : Calls Tryz.prog 268 #[.pointer (some pa),.pointer (some pb)] w (Made kRectO w (unionR a b) []):=by
  have La0:=Kd.sub_len kRectS_p0_1 ha.2.2.2; have Ca0:=Kd.sub_cap kRectS_p0_1 ha.2.2.2 rfl
  have La1:=Kd.sub_len kRectS_p1_1 ha.2.2.2; have Ca1:=Kd.sub_cap kRectS_p1_1 ha.2.2.2 rfl
  have Lb0:=Kd.sub_len kRectS_p0_1 hb.2.2.2; have Cb0:=Kd.sub_cap kRectS_p0_1 hb.2.2.2 rfl
  have Lb1:=Kd.sub_len kRectS_p1_1 hb.2.2.2; have Cb1:=Kd.sub_cap kRectS_p1_1 hb.2.2.2 rfl
  have hsz:=hda.sz hd; have hq:=hda; have hq2:=hdb; unfold Dim at hq hq2
  refine fnc (X:=X18 58 w) (l:=[(0,.pointer (some pa)),(1,.pointer (some pb))]) Tryz.func268 rfl rfl rfl ⟨rfl,rfl,trivial⟩ (s0p hb (s0p ha (s0n w))).1 ?_
  refine sq (rg (al zero82 rfl rfl rfl ?_))
  intro b1
  refine rn ik 4 [] rfl (vl (bd bld82 rfl rfl rfl) rfl (al zero82 rfl rfl rfl ?_))
  intro b2
  refine sto rfl rfl rfl rfl rfl rfl rfl (cs':=[.slice none 0 0,.slice none 0 0]) rfl (rn ik 9 [] rfl (gs (Kd.row 2 Kd.i64) [.slice none 0 0] [] (fun _=>.inl ⟨rfl,rfl,rfl,rfl⟩) (gs (Kd.row 2 Kd.i64) [.slice none 0 0] [] (fun _=>.inl ⟨rfl,rfl,rfl,rfl⟩) ?_)))
  refine lp (σ:=Nat × List Int × Option Addr × Nat × List Nat × List Nat × List Int × Option Addr × Nat × List Nat × List Nat) (fun z_ : Nat × List Int × Option Addr × Nat × List Nat × List Nat × List Int × Option Addr × Nat × List Nat × List Nat=>match z_ with | (k,lo,A1,c1,o1,s1,hi,A2,c2,o2,s2)=>[(0,.pointer (some pa)),(1,.pointer (some pb)),(4,.pointer (some ⟨b1,0,none⟩)),(5,.pointer (some ⟨b2,0,none⟩)),(6,.int .i64 ((k : Nat) : Int))])
      (fun z_ : Nat × List Int × Option Addr × Nat × List Nat × List Nat × List Int × Option Addr × Nat × List Nat × List Nat=>match z_ with | (k,lo,A1,c1,o1,s1,hi,A2,c2,o2,s2)=>[blk b2 [.slice A1 lo.length c1,.slice A2 hi.length c2] 82,dat (Kd.row 2 Kd.i64) [.slice A1 lo.length c1] lo o1 s1,dat (Kd.row 2 Kd.i64) [.slice A2 hi.length c2] hi o2 s2,blk b1 [.slice none 0 0,.slice none 0 0] 82,ptr kRectS pb [.slice Ab0 b.low.length cb0,.slice Ab1 b.high.length cb1] b sb_,ptr kRectS pa [.slice Aa0 a.low.length ca0,.slice Aa1 a.high.length ca1] a sa_])
      (fun z_ : Nat × List Int × Option Addr × Nat × List Nat × List Nat × List Int × Option Addr × Nat × List Nat × List Nat=>match z_ with | (k,lo,A1,c1,o1,s1,hi,A2,c2,o2,s2)=>k ≤ a.low.length ∧ lo = List.zipWith gmin (a.low.take k) (b.low.take k) ∧ hi = List.zipWith gmax (a.high.take k) (b.high.take k) ∧ (∀ q ∈ s1,w.heap.size ≤ q) ∧ ∀ q ∈ s2,w.heap.size ≤ q) (fun z_ : Nat × List Int × Option Addr × Nat × List Nat × List Nat × List Int × Option Addr × Nat × List Nat × List Nat=>match z_ with | (k,lo,A1,c1,o1,s1,hi,A2,c2,o2,s2)=>a.low.length - k) (0,[],none,0,[],[],[],none,0,[],[]) [2,0,0,0,0,0] ⟨Nat.zero_le _,by simp,by simp,by grind,by grind⟩ ⟨rfl,rfl,rfl,rfl,rfl,trivial⟩ rfl ?_
  rintro ⟨k,lo,A1,c1,o1,s1,hi,A2,c2,o2,s2⟩ hp_
  obtain ⟨hk,hlo,hhi,hs1,hs2⟩:=hp_; have hl1 : lo.length ≤ 3:=(by rw [hlo]; simp; omega); have hl2 : hi.length ≤ 3:=(by rw [hhi]; simp; omega)
  refine rn ik 12 [5,1] rfl ?_
  by_cases h3 : ((k : Nat) : Int) < ((a.low.length : Nat) : Int)
  · refine r1_ ik 6 [1] rfl (decide_eq_true h3) ?_
    refine gp 5 kRectS_p0_1 rfl (cs':=[.slice Aa0 a.low.length ca0]) rfl fun s4 w_ rs4 us4=>?_
    have Ls4:=Kd.sl_len rs4; have Cs4:=Kd.sl_cap rs4
    refine gx 0 k rfl (by omega) fun y10 p5 cs_ s6 w9 m11 e7 r8 us6=>?_
    obtain ⟨rfl,-,-⟩:=r8
    refine gp 6 kRectS_p0_1 rfl (cs':=[.slice Ab0 b.low.length cb0]) rfl fun s12 w_ rs12 us12=>?_
    have Ls12:=Kd.sl_len rs12; have Cs12:=Kd.sl_cap rs12
    refine gx 0 k rfl (by omega) fun y18 p13 cs_ s14 w17 m19 e15 r16 us14=>?_
    obtain ⟨rfl,-,-⟩:=r16
    refine rdz (Gq:=[ptr Kd.i64 p13 [.int .i64 y18] y18 s14,dat (Kd.sl Kd.i64) [.slice Ab0 b.low.length cb0] b.low ([]) s12,ptr Kd.i64 p5 [.int .i64 y10] y10 s6,dat (Kd.sl Kd.i64) [.slice Aa0 a.low.length ca0] a.low ([]) s4,blk b2 [.slice A1 lo.length c1,.slice A2 hi.length c2] 82,dat (Kd.row 2 Kd.i64) [.slice A2 hi.length c2] hi o2 s2,blk b1 [.slice none 0 0,.slice none 0 0] 82,ptr kRectS pb [.slice Ab0 b.low.length cb0,.slice Ab1 b.high.length cb1] b sb_,ptr kRectS pa [.slice Aa0 a.low.length ca0,.slice Aa1 a.high.length ca1] a sa_]) 20 [0,0,0,0,0,1,1,1,1] rfl (zv 0 rfl (fa rfl rfl rfl) rfl (by kernel_rfl) (by kernel_rfl) (zv 1 rfl (ldb (u:=.slice A1 lo.length c1) 4 rfl rfl rfl rfl rfl rfl rfl) rfl (by kernel_rfl) (by kernel_rfl) (zv 2 rfl (mv rfl rfl) rfl (by kernel_rfl) (by kernel_rfl) (zv 3 rfl (nc rfl rfl) rfl (by kernel_rfl) (by kernel_rfl) (zv 4 rfl (fa rfl rfl rfl) rfl (by kernel_rfl) (by kernel_rfl) (zv 5 rfl (ldp (u:=.slice Aa0 a.low.length ca0) 8 rfl rfl rfl rfl rfl rfl rfl) rfl (by kernel_rfl) (by kernel_rfl) (zv 6 rfl (mv rfl rfl) rfl (by kernel_rfl) (by kernel_rfl) (zv 7 rfl (ix k e7 rfl rfl rfl rfl rfl (by omega)) rfl (by kernel_rfl) (by kernel_rfl) (zv 8 rfl (ldq (u:=.int .i64 y10) 2 rfl rfl rfl rfl rfl rfl rfl) rfl (by kernel_rfl) (by kernel_rfl) (zv 9 rfl (mv rfl rfl) rfl (by kernel_rfl) (by kernel_rfl) (zv 10 rfl (nc rfl rfl) rfl (by kernel_rfl) (by kernel_rfl) (zv 11 rfl (fa rfl rfl rfl) rfl (by kernel_rfl) (by kernel_rfl) (zv 12 rfl (ldp (u:=.slice Ab0 b.low.length cb0) 7 rfl rfl rfl rfl rfl rfl rfl) rfl (by kernel_rfl) (by kernel_rfl) (zv 13 rfl (mv rfl rfl) rfl (by kernel_rfl) (by kernel_rfl) (zv 14 rfl (ix k e15 rfl rfl rfl rfl rfl (by omega)) rfl (by kernel_rfl) (by kernel_rfl) (zv 15 rfl (ldq (u:=.int .i64 y18) 0 rfl rfl rfl rfl rfl rfl rfl) rfl (by kernel_rfl) (by kernel_rfl) (z1 16 [0,0,0,0,0,1,1,1,1] rfl (by kernel_rfl) rfl (cs_ (v:=.int .i64 (gmin y10 y18)) (by kernel_rfl) rfl rfl rfl (fun w_ hs_=>by exact spec_l1Min w_ _ _) (qn (z1 17 [0,0,0,0,0,1,1,1,1] rfl (by kernel_rfl) rfl (gs Kd.i64 [.int .i64 (gmin y10 y18)] (gmin y10 y18) (fun _=>⟨rfl,rfl,rfl⟩) (bs1 (dk:=Kd.i64) rfl info2 (by decide) rfl rfl rfl rfl ?_))))))))))))))))))))))
    intro b20
    refine qn (z1 18 [1,1,1,1,1,2,2,2,2] rfl (by kernel_rfl) rfl ?_)
    refine f6 (ap (lo ++ [(gmin y10 y18)]) rfl info2 rfl rfl (by decide) rfl rfl rfl rfl (by simp only [List.length_append,List.length_cons,List.length_nil]; omega) (by simp only [List.length_append,List.length_cons,List.length_nil]; omega) rfl (fun A21 c22 o23 s24 t25=>?_))
    refine qn (zv 19 rfl (fa rfl rfl rfl) rfl (by kernel_rfl) (by kernel_rfl) (z1 20 [1,1,1,1,1,1,1,1,1] rfl (by kernel_rfl) rfl (f5 (sto rfl rfl rfl rfl rfl rfl rfl (cs':=[.slice A21 ((lo ++ [(gmin y10 y18)]).length) c22,.slice A2 hi.length c2]) rfl (qn (ze (by kernel_rfl) rfl (nx ?_)))))))
    refine gp 9 kRectS_p1_1 rfl (cs':=[.slice Aa1 a.high.length ca1]) rfl fun s26 w_ rs26 us26=>?_
    have Ls26:=Kd.sl_len rs26; have Cs26:=Kd.sl_cap rs26
    refine gx 0 k rfl (by omega) fun y32 p27 cs_ s28 w31 m33 e29 r30 us28=>?_
    obtain ⟨rfl,-,-⟩:=r30
    refine gp 10 kRectS_p1_1 rfl (cs':=[.slice Ab1 b.high.length cb1]) rfl fun s34 w_ rs34 us34=>?_
    have Ls34:=Kd.sl_len rs34; have Cs34:=Kd.sl_cap rs34
    refine gx 0 k rfl (by omega) fun y40 p35 cs_ s36 w39 m41 e37 r38 us36=>?_
    obtain ⟨rfl,-,-⟩:=r38
    refine rdz (Gq:=[ptr Kd.i64 p35 [.int .i64 y40] y40 s36,dat (Kd.sl Kd.i64) [.slice Ab1 b.high.length cb1] b.high ([]) s34,ptr Kd.i64 p27 [.int .i64 y32] y32 s28,dat (Kd.sl Kd.i64) [.slice Aa1 a.high.length ca1] a.high ([]) s26,blk b2 [.slice A21 ((lo ++ [(gmin y10 y18)]).length) c22,.slice A2 hi.length c2] 82,dat (Kd.row 2 Kd.i64) [.slice A21 ((lo ++ [(gmin y10 y18)]).length) c22] (lo ++ [(gmin y10 y18)]) o23 s24,ptr Kd.i64 p13 [.int .i64 y18] y18 s14,dat (Kd.sl Kd.i64) [.slice Ab0 b.low.length cb0] b.low ([]) s12,ptr Kd.i64 p5 [.int .i64 y10] y10 s6,dat (Kd.sl Kd.i64) [.slice Aa0 a.low.length ca0] a.low ([]) s4,blk b1 [.slice none 0 0,.slice none 0 0] 82,ptr kRectS pb [.slice Ab0 b.low.length cb0,.slice Ab1 b.high.length cb1] b sb_,ptr kRectS pa [.slice Aa0 a.low.length ca0,.slice Aa1 a.high.length ca1] a sa_]) 20 [0,0,0,0,0,0,0,0,0,0,1,1,1] rfl (zv 0 rfl (fa rfl rfl rfl) rfl (by kernel_rfl) (by kernel_rfl) (zv 1 rfl (ldb (u:=.slice A2 hi.length c2) 4 rfl rfl rfl rfl rfl rfl rfl) rfl (by kernel_rfl) (by kernel_rfl) (zv 2 rfl (mv rfl rfl) rfl (by kernel_rfl) (by kernel_rfl) (zv 3 rfl (nc rfl rfl) rfl (by kernel_rfl) (by kernel_rfl) (zv 4 rfl (fa rfl rfl rfl) rfl (by kernel_rfl) (by kernel_rfl) (zv 5 rfl (ldp (u:=.slice Aa1 a.high.length ca1) 12 rfl rfl rfl rfl rfl rfl rfl) rfl (by kernel_rfl) (by kernel_rfl) (zv 6 rfl (mv rfl rfl) rfl (by kernel_rfl) (by kernel_rfl) (zv 7 rfl (ix k e29 rfl rfl rfl rfl rfl (by omega)) rfl (by kernel_rfl) (by kernel_rfl) (zv 8 rfl (ldq (u:=.int .i64 y32) 2 rfl rfl rfl rfl rfl rfl rfl) rfl (by kernel_rfl) (by kernel_rfl) (zv 9 rfl (mv rfl rfl) rfl (by kernel_rfl) (by kernel_rfl) (zv 10 rfl (nc rfl rfl) rfl (by kernel_rfl) (by kernel_rfl) (zv 11 rfl (fa rfl rfl rfl) rfl (by kernel_rfl) (by kernel_rfl) (zv 12 rfl (ldp (u:=.slice Ab1 b.high.length cb1) 11 rfl rfl rfl rfl rfl rfl rfl) rfl (by kernel_rfl) (by kernel_rfl) (zv 13 rfl (mv rfl rfl) rfl (by kernel_rfl) (by kernel_rfl) (zv 14 rfl (ix k e37 rfl rfl rfl rfl rfl (by omega)) rfl (by kernel_rfl) (by kernel_rfl) (zv 15 rfl (ldq (u:=.int .i64 y40) 0 rfl rfl rfl rfl rfl rfl rfl) rfl (by kernel_rfl) (by kernel_rfl) (z1 16 [0,0,0,0,0,0,0,0,0,0,1,1,1] rfl (by kernel_rfl) rfl (cs_ (v:=.int .i64 (gmax y32 y40)) (by kernel_rfl) rfl rfl rfl (fun w_ hs_=>by exact spec_l1Max w_ _ _) (qn (z1 17 [0,0,0,0,0,0,0,0,0,0,1,1,1] rfl (by kernel_rfl) rfl (gs Kd.i64 [.int .i64 (gmax y32 y40)] (gmax y32 y40) (fun _=>⟨rfl,rfl,rfl⟩) (bs1 (dk:=Kd.i64) rfl info2 (by decide) rfl rfl rfl rfl ?_))))))))))))))))))))))
    intro b42
    refine qn (z1 18 [1,1,1,1,1,1,1,1,1,1,2,2,2] rfl (by kernel_rfl) rfl ?_)
    refine f11 (ap (hi ++ [(gmax y32 y40)]) rfl info2 rfl rfl (by decide) rfl rfl rfl rfl (by simp only [List.length_append,List.length_cons,List.length_nil]; omega) (by simp only [List.length_append,List.length_cons,List.length_nil]; omega) rfl (fun A43 c44 o45 s46 t47=>?_))
    exact qn (zv 19 rfl (fa rfl rfl rfl) rfl (by kernel_rfl) (by kernel_rfl) (z1 20 [1,1,1,1,1,1,1,1,1,1,1,1,1] rfl (by kernel_rfl) rfl (f5 (sto rfl rfl rfl rfl rfl rfl rfl (cs':=[.slice A21 ((lo ++ [(gmin y10 y18)]).length) c22,.slice A43 ((hi ++ [(gmax y32 y40)]).length) c44]) rfl (qn (ze (by kernel_rfl) rfl (rn ik 4 [] rfl (vl (ra (c:=((k + 1 : Nat) : Int)) rfl rfl rfl (by omega) (by omega) (by omega)) rfl (rn ik 2 [] rfl (lpe (s:=(k,lo,A1,c1,o1,s1,hi,A2,c2,o2,s2)) (k + 1,(lo ++ [(gmin y10 y18)]),A21,c22,o23,s24,(hi ++ [(gmax y32 y40)]),A43,c44,o45,s46) [0,5,0,8,8,8] ⟨by omega,by rw [hlo]; exact zw_snoc m11 m19,by rw [hhi]; exact zw_snoc m33 m41,by grind,by grind⟩ (by show a.low.length - (k + 1) < a.low.length - k; omega) ⟨rfl,rfl,rfl,rfl,rfl,trivial⟩ rfl))))))))))
  · exact r1_ ik 9 [0,0,0] rfl (decide_eq_false h3) (f3 (sto rfl rfl rfl rfl rfl rfl rfl (cs':=[.slice A1 lo.length c1,.slice A2 hi.length c2]) rfl (en (nx (rt (f3 (f3 (gj (da:=(Kd.via (Kd.row 2 Kd.i64) Rect.low)) (db:=(Kd.via (Kd.row 2 Kd.i64) Rect.high)) (x:=(⟨lo,hi⟩ : Rect)) rfl (gr (unionR a b) (by unfold unionR; rw [hlo,hhi,zw_all (by omega) (by omega),zw_all (by omega) (by omega)]) (retc 1 rfl rfl rfl rfl rfl rfl (fun w_ hs_=>made hs_ rfl (see_app (by grind) (by grind)))))))))))))
theorem Dim.boxTake {d : Nat} {l : List Entry} {y : Entry} {k : Nat} {m : Rect} (hm : m = boxFrom y.rect ((l.drop 1).take k)) (hy : l[0]? = some y) (h : ∀ e ∈ l,Dim d e.rect) : Dim d m:=by
  rw [hm]; exact Dim.from (h y (List.mem_of_getElem? hy)) (fun e he=>h e (List.mem_of_mem_drop (List.mem_of_mem_take he)))
theorem box_done {l : List Entry} {y : Entry} {k : Nat} {m : Rect} (hm : m = boxFrom y.rect ((l.drop 1).take k)) (hy : l[0]? = some y) (hk : l.length - 1 ≤ k) : m = boxOf l:=by
  rw [box_head hy,hm,List.take_of_length_le (by simp; omega)]
theorem impl_box (w : World) {list : List Entry} (hlist : (Kd.sl kEntryS).Rel w [.slice Alist list.length clist] list [] slist_) (hdl : ∀ e ∈ list,Dim d e.rect) (hd : 0 < d ∧ d ≤ 3) (hl : 0 < list.length) : Calls Tryz.prog 222 #[.slice Alist list.length clist] w (Made kRectO w (boxOf list) []):=by
  have Llist:=Kd.sl_len hlist; have Clist:=Kd.sl_cap hlist
  refine fnc (X:=X18 24 w) (l:=[(0,.slice Alist list.length clist)]) Tryz.func222 rfl rfl rfl ⟨rfl,trivial⟩ (s0d hlist (s0n w)).1 ?_
  refine sq (rg (al zero82 rfl rfl rfl ?_))
  intro b1
  refine rn ik 5 [] rfl ?_
  refine gx 1 0 rfl (by first | omega | (simp; omega)) fun y7 p2 cs_ s3 w6 m8 e4 r5 us3=>?_
  obtain ⟨A9,c10,A11,c12,rfl⟩:=kEntryS_sh r5
  refine vl (ix 0 e4 rfl rfl rfl rfl rfl (by first | omega | (simp; omega))) rfl (rn ik 2 [0,1] rfl ?_)
  refine gp 0 kEntryS_p0_2 rfl (cs':=[.slice A9 y7.rect.low.length c10,.slice A11 y7.rect.high.length c12]) rfl fun s13 w_ rs13 us13=>?_
  refine cm_ (dk:=kRectO) (x:=y7.rect) (S:=[]) (by kernel_rfl) rfl rfl rfl sn0 (fun w_ hs_=>impl_Rect_cloned w_ (hs_.at 0 rfl) ((hdl _ (List.mem_of_getElem? m8)).sz hd)) (fun cs_ o18 s19 w_ r20 t21=>?_)
  obtain ⟨A14,c15,A16,c17,rfl⟩:=kRectO_sh r20
  refine al zero82 rfl rfl rfl ?_
  intro b23
  refine sto rfl rfl rfl rfl rfl rfl rfl (cs':=[.slice A14 y7.rect.low.length c15,.slice A16 y7.rect.high.length c17]) rfl (rn ik 6 [] rfl (vl (evr (v':=.slice (if clist = 1 then Alist else (Alist : Option Addr).map (·.add (1 * 4))) ((list.drop 1).length) (clist - 1)) (slo (i:=1) rfl rfl rfl rfl rfl (by omega) (by omega)) (sl_eq (by simp))) rfl (rn ik 5 [] rfl ?_)))
  refine lp (σ:=Nat × Rect × Option Addr × Nat × Option Addr × Nat × List Nat × List Nat) (fun z_ : Nat × Rect × Option Addr × Nat × Option Addr × Nat × List Nat × List Nat=>match z_ with | (k,m,A1,c1,A2,c2,o,s)=>[(2,.pointer (some ⟨b1,0,none⟩)),(3,.pointer (some ⟨b23,0,none⟩)),(12,.slice (if clist = 1 then Alist else (Alist : Option Addr).map (·.add (1 * 4))) ((list.drop 1).length) (clist - 1)),(13,.int .i64 (((list.drop 1).length : Nat) : Int)),(14,.int .i64 ((k : Nat) : Int))])
      (fun z_ : Nat × Rect × Option Addr × Nat × Option Addr × Nat × List Nat × List Nat=>match z_ with | (k,m,A1,c1,A2,c2,o,s)=>[blk b23 [.slice A1 m.low.length c1,.slice A2 m.high.length c2] 82,dat kRectO [.slice A1 m.low.length c1,.slice A2 m.high.length c2] m o s,blk b1 [.slice none 0 0,.slice none 0 0] 82,dat (Kd.sl kEntryS) [.slice Alist list.length clist] list ([]) slist_])
      (fun z_ : Nat × Rect × Option Addr × Nat × Option Addr × Nat × List Nat × List Nat=>match z_ with | (k,m,A1,c1,A2,c2,o,s)=>k ≤ list.length - 1 ∧ m = boxFrom y7.rect ((list.drop 1).take k) ∧ ∀ q ∈ s,w.heap.size ≤ q) (fun z_ : Nat × Rect × Option Addr × Nat × Option Addr × Nat × List Nat × List Nat=>match z_ with | (k,m,A1,c1,A2,c2,o,s)=>list.length - 1 - k) (0,y7.rect,A14,c15,A16,c17,o18,s19) [0,0,2,2] ⟨Nat.zero_le _,rfl,by grind⟩ ⟨rfl,rfl,rfl,rfl,rfl,trivial⟩ rfl ?_
  rintro ⟨k,m,A1,c1,A2,c2,o,s⟩ hp_
  obtain ⟨hk,hm,hs1⟩:=hp_; have hdr : (list.drop 1).length = list.length - 1:=(by simp)
  refine rn ik 6 [] rfl ?_
  by_cases h24 : ((k : Nat) : Int) < (((list.drop 1).length : Nat) : Int)
  · refine r1_ ik 7 [1] rfl (decide_eq_true h24) ?_
    refine gdr 3 1 rfl (by omega) fun s25 w_ rs25 us25=>?_
    have Ls25:=Kd.sl_len rs25
    refine gx 0 k rfl (by first | omega | (simp; omega)) fun y31 p26 cs_ s27 w30 m32 e28 r29 us27=>?_
    obtain ⟨A33,c34,A35,c36,rfl⟩:=kEntryS_sh r29
    refine vl (ix k e28 rfl rfl rfl rfl rfl (by first | omega | (simp; omega))) rfl (vl (ldq 0 rfl rfl rfl rfl rfl rfl rfl) rfl (al zero102 rfl rfl rfl ?_))
    intro b37
    refine sto rfl rfl rfl rfl rfl rfl rfl (cs':=[.slice A33 y31.rect.low.length c34,.slice A35 y31.rect.high.length c36,.int .i64 y31.ref,.int .i64 y31.nsn]) rfl (rn ik 6 [3,0,0,0] rfl ?_)
    refine gp 1 kEntryS_p0_2 rfl (cs':=[.slice A33 y31.rect.low.length c34,.slice A35 y31.rect.high.length c36]) rfl fun s38 w_ rs38 us38=>?_
    refine cm_ (dk:=kRectO) (x:=(unionR m y31.rect)) (S:=[]) (by kernel_rfl) rfl rfl rfl sn0 (fun w_ hs_=>bor kRectO_seal (hs_.at 5 rfl) fun _ lb0_=>impl_union w_ lb0_ (hs_.at 0 rfl) (hm.symm ▸ Dim.boxTake rfl m8 hdl) (hdl _ (List.mem_of_mem_drop (List.mem_of_getElem? m32))) hd) (fun cs_ o43 s44 w_ r45 t46=>?_)
    obtain ⟨A39,c40,A41,c42,rfl⟩:=kRectO_sh r45
    exact f5 (sto rfl rfl rfl rfl rfl rfl rfl (cs':=[.slice A39 (((unionR m y31.rect).low).length) c40,.slice A41 (((unionR m y31.rect).high).length) c42]) rfl (rn ik 4 [] rfl (vl (ra (c:=((k + 1 : Nat) : Int)) rfl rfl rfl (by omega) (by omega) (by omega)) rfl (rn ik 2 [] rfl (lpe (s:=(k,m,A1,c1,A2,c2,o,s)) (k + 1,(unionR m y31.rect),A39,c40,A41,c42,o43,s44) [0,0,5,5] ⟨by omega,box_on hm m32,by grind⟩ (by show list.length - 1 - (k + 1) < list.length - 1 - k; omega) ⟨rfl,rfl,rfl,rfl,rfl,trivial⟩ rfl)))))
  · exact r1_ ik 9 [0,0,0] rfl (decide_eq_false h24) (f2 (sto rfl rfl rfl rfl rfl rfl rfl (cs':=[.slice A1 m.low.length c1,.slice A2 m.high.length c2]) rfl (en (nx (rt (f2 (gr (boxOf list) (box_done hm m8 (by omega)) (retc 1 rfl rfl rfl rfl rfl rfl (fun w_ hs_=>made hs_ rfl (by grind))))))))))
theorem spec_l3Box (w : World) {list : List Entry} (hlist : (Kd.sl kEntryS).Rel w [.slice Alist list.length clist] list [] slist_) (hdl : ∀ e ∈ list,Dim d e.rect) (hd : 0 < d ∧ d ≤ 3) (hl : 0 < list.length) : Calls Tryz.prog 209 #[.slice Alist list.length clist] w (Made kRectO w (boxOf list) []):=by
  have Llist:=Kd.sl_len hlist; have Clist:=Kd.sl_cap hlist
  refine fnc (X:=X18 21 w) (l:=[(0,.slice Alist list.length clist)]) Tryz.func209 rfl rfl rfl ⟨rfl,trivial⟩ (s0d hlist (s0n w)).1 ?_
  refine sq (rg (al zero82 rfl rfl rfl ?_))
  intro b1
  refine rn ik 5 [] rfl ?_
  refine gx 1 0 rfl (by omega) fun y7 p2 cs_ s3 w6 m8 e4 r5 us3=>?_
  obtain ⟨A9,c10,A11,c12,rfl⟩:=kEntryS_sh r5
  refine vl (ix 0 e4 rfl rfl rfl rfl rfl (by omega)) rfl (vl (fa rfl rfl rfl) rfl ?_)
  refine gq 0 kEntryS_p0_2 rfl (cs':=[.slice A9 y7.rect.low.length c10,.slice A11 y7.rect.high.length c12]) rfl fun s13 w_ rs13 us13=>?_
  refine cm_ (dk:=kRectO) (x:=y7.rect) (S:=[]) (by kernel_rfl) rfl rfl rfl sn0 (fun w_ hs_=>spec_l1Copy w_ (hs_.at 0 rfl) ((hdl _ (List.mem_of_getElem? m8)).sz hd)) (fun cs_ o18 s19 w_ r20 t21=>?_)
  obtain ⟨A14,c15,A16,c17,rfl⟩:=kRectO_sh r20
  refine al zero82 rfl rfl rfl ?_
  intro b23
  refine sto rfl rfl rfl rfl rfl rfl rfl (cs':=[.slice A14 y7.rect.low.length c15,.slice A16 y7.rect.high.length c17]) rfl (rn ik 9 [] rfl ?_)
  refine lp (σ:=Nat × Rect × Option Addr × Nat × Option Addr × Nat × List Nat × List Nat) (fun z_ : Nat × Rect × Option Addr × Nat × Option Addr × Nat × List Nat × List Nat=>match z_ with | (k,m,A1,c1,A2,c2,o,s)=>[(0,.slice Alist list.length clist),(2,.pointer (some ⟨b1,0,none⟩)),(3,.pointer (some ⟨b23,0,none⟩)),(4,.int .i64 ((k + 1 : Nat) : Int))])
      (fun z_ : Nat × Rect × Option Addr × Nat × Option Addr × Nat × List Nat × List Nat=>match z_ with | (k,m,A1,c1,A2,c2,o,s)=>[blk b23 [.slice A1 m.low.length c1,.slice A2 m.high.length c2] 82,dat kRectO [.slice A1 m.low.length c1,.slice A2 m.high.length c2] m o s,blk b1 [.slice none 0 0,.slice none 0 0] 82,dat (Kd.sl kEntryS) [.slice Alist list.length clist] list ([]) slist_])
      (fun z_ : Nat × Rect × Option Addr × Nat × Option Addr × Nat × List Nat × List Nat=>match z_ with | (k,m,A1,c1,A2,c2,o,s)=>k ≤ list.length - 1 ∧ m = boxFrom y7.rect ((list.drop 1).take k) ∧ ∀ q ∈ s,w.heap.size ≤ q) (fun z_ : Nat × Rect × Option Addr × Nat × Option Addr × Nat × List Nat × List Nat=>match z_ with | (k,m,A1,c1,A2,c2,o,s)=>list.length - 1 - k) (0,y7.rect,A14,c15,A16,c17,o18,s19) [0,0,2,2] ⟨Nat.zero_le _,rfl,by grind⟩ ⟨rfl,rfl,rfl,rfl,trivial⟩ rfl ?_
  rintro ⟨k,m,A1,c1,A2,c2,o,s⟩ hp_
  obtain ⟨hk,hm,hs1⟩:=hp_; have hdr : (list.drop 1).length = list.length - 1:=(by simp)
  refine rn ik 9 [] rfl ?_
  by_cases h24 : ((k + 1 : Nat) : Int) < ((list.length : Nat) : Int)
  · refine r1_ ik 8 [1] rfl (decide_eq_true h24) ?_
    refine gx 3 (k + 1) rfl (by omega) fun y30 p25 cs_ s26 w29 m31 e27 r28 us26=>?_
    obtain ⟨A32,c33,A34,c35,rfl⟩:=kEntryS_sh r28
    refine vl (ix (k + 1) e27 rfl rfl rfl rfl rfl (by omega)) rfl (vl (fa rfl rfl rfl) rfl ?_)
    refine gq 0 kEntryS_p0_2 rfl (cs':=[.slice A32 y30.rect.low.length c33,.slice A34 y30.rect.high.length c35]) rfl fun s36 w_ rs36 us36=>?_
    refine cm_ (dk:=kRectO) (x:=(unionR m y30.rect)) (S:=[]) (by kernel_rfl) rfl rfl rfl sn0 (fun w_ hs_=>bor kRectO_seal (hs_.at 3 rfl) fun _ lb0_=>spec_l1Union w_ (ptr_blk (hs_.at 2 rfl) lb0_ rfl) (hs_.at 0 rfl) (hm.symm ▸ Dim.boxTake rfl m8 hdl) (hdl _ (List.mem_of_getElem? m31)) hd) (fun cs_ o41 s42 w_ r43 t44=>?_)
    obtain ⟨A37,c38,A39,c40,rfl⟩:=kRectO_sh r43
    exact f3 (sto rfl rfl rfl rfl rfl rfl rfl (cs':=[.slice A37 (((unionR m y30.rect).low).length) c38,.slice A39 (((unionR m y30.rect).high).length) c40]) rfl (rn ik 5 [] rfl (vl (ra (c:=((k + 1 + 1 : Nat) : Int)) rfl rfl rfl (by omega) (by omega) (by omega)) rfl (rn ik 2 [] rfl (lpe (s:=(k,m,A1,c1,A2,c2,o,s)) (k + 1,(unionR m y30.rect),A37,c38,A39,c40,o41,s42) [0,0,3,3] ⟨by omega,box_on hm (by rw [List.getElem?_drop,Nat.add_comm]; exact m31),by grind⟩ (by show list.length - 1 - (k + 1) < list.length - 1 - k; omega) ⟨rfl,rfl,rfl,rfl,trivial⟩ rfl)))))
  · exact r1_ ik 9 [0,0,0] rfl (decide_eq_false h24) (f2 (sto rfl rfl rfl rfl rfl rfl rfl (cs':=[.slice A1 m.low.length c1,.slice A2 m.high.length c2]) rfl (en (nx (rt (f2 (gr (boxOf list) (box_done hm m8 (by omega)) (retc 1 rfl rfl rfl rfl rfl rfl (fun w_ hs_=>made hs_ rfl (by grind))))))))))
theorem used_idx {l : List Retired} {id : Int} : (decide (idx (fun (x0 : Retired)=>x0.id == id) l < 0)) = !l.any (fun r=>r.id == id):=by
  have h:=idx_ge (p:=fun (x0 : Retired)=>x0.id == id) (xs:=l)
  cases ha : l.any (fun r=>r.id == id) <;> rw [ha] at h <;> simp at h ⊢ <;> omega
theorem impl_Arena_isUsed (w : World) (id : Int) {a : Arena} (ha : kArenaS.Rel w [.int .i64 a.dims,.slice Aa1 a.nodes.length ca1,.slice Aa2 a.free.length ca2,.slice Aa3 a.retired.length ca3] a [] sa_)  : Calls Tryz.prog 286 #[.agg #[.int .i64 a.dims,.slice Aa1 a.nodes.length ca1,.slice Aa2 a.free.length ca2,.slice Aa3 a.retired.length ca3],.int .i64 id] w (fun e_ w2_=>e_ = .returned (.bool (isUsed a id)) ∧ Below w.heap.size w w2_):=by
  refine fnc (X:=X18 21 w) (l:=[(0,.agg #[.int .i64 a.dims,.slice Aa1 a.nodes.length ca1,.slice Aa2 a.free.length ca2,.slice Aa3 a.retired.length ca3]),(1,.int .i64 id)]) Tryz.func286 rfl rfl rfl ⟨rfl,rfl,trivial⟩ (s0d ha (s0n w)).1 ?_
  refine sq (rg (bx rfl rfl rfl rfl ?_))
  intro b1
  refine rn ik 7 [0,0] rfl (cs_ (v:=.bool (isPlace a id)) (by kernel_rfl) rfl rfl rfl (fun w_ hs_=>impl_Arena_isPlace w_ _ (hs_.at 1 rfl)) (m_ rfl rfl ?_))
  by_cases h2 : isPlace a id = true
  · refine r2_ ik 2 [1,0,0,1] rfl h2 h2 (gw rfl rfl h2 (cs_ (v:=.bool (decide (id ∈ a.free))) (by kernel_rfl) rfl rfl rfl (fun w_ hs_=>impl_Arena_isFree w_ _ (hs_.at 1 rfl)) (r2_ ik 3 [1,1] rfl h2 h2 ?_)))
    by_cases h3 : decide (id ∈ a.free) = true
    · refine rp ik 10 [0,0,0,0,0,0] rfl ⟨(not_f h3),(not_f h3),(not_f h3),(not_f h3),(not_f h3),(not_f h3),⟨⟩⟩ (ret1 rfl rfl (fun w_ hs_=>⟨?_,hs_.below⟩))
      exact rb (by unfold isUsed; have z:=used_idx (l:=a.retired) (id:=id); grind)
    · refine r3_ ik 3 [1,1,0,0,1] rfl (not_t (Bool.eq_false_iff.2 h3)) (not_t (Bool.eq_false_iff.2 h3)) (not_t (Bool.eq_false_iff.2 h3)) (gw rfl rfl (not_t (Bool.eq_false_iff.2 h3)) ?_)
      refine gd 1 kArenaS_p3_1 rfl (cs':=[.slice Aa3 a.retired.length ca3]) rfl fun s4 w_ rs4 us4=>?_
      have Ls4:=Kd.sl_len rs4; have Cs4:=Kd.sl_cap rs4
      refine cs_ (v:=.int .i64 (idx (fun (x0 : Retired)=>x0.id == id) a.retired)) (by kernel_rfl) rfl rfl rfl (fun w_ hs_=>impl_retiredAt w_ _ (hs_.at 0 rfl)) (r2_ ik 6 [1,1] rfl (not_t (Bool.eq_false_iff.2 h3)) (not_t (Bool.eq_false_iff.2 h3)) (ret1 rfl rfl (fun w_ hs_=>⟨?_,hs_.below⟩)))
      exact rb (by unfold isUsed; have z:=used_idx (l:=a.retired) (id:=id); grind)
  · refine rp ik 16 [0,0,0,0,0,0,0,0,0,0,0] rfl ⟨rfl,rfl,rfl,rfl,rfl,rfl,(Bool.eq_false_iff.2 h2),(Bool.eq_false_iff.2 h2),(Bool.eq_false_iff.2 h2),(Bool.eq_false_iff.2 h2),(Bool.eq_false_iff.2 h2),⟨⟩⟩ (ret1 rfl rfl (fun w_ hs_=>⟨?_,hs_.below⟩))
    exact rb (by unfold isUsed; have z:=used_idx (l:=a.retired) (id:=id); grind)
theorem spec_l6Used (w : World) (id : Int) {a : Arena} (ha : (ptr kArenaS pa [.int .i64 a.dims,.slice Aa1 a.nodes.length ca1,.slice Aa2 a.free.length ca2,.slice Aa3 a.retired.length ca3] a sa_).P w)  : Calls Tryz.prog 282 #[.pointer (some pa),.int .i64 id] w (fun e_ w2_=>e_ = .returned (.bool (isUsed a id)) ∧ Below w.heap.size w w2_):=by
  refine fnc (X:=X18 23 w) (l:=[(0,.pointer (some pa)),(1,.int .i64 id)]) Tryz.func282 rfl rfl rfl ⟨rfl,rfl,trivial⟩ (s0p ha (s0n w)).1 ?_
  refine rn ik 9 [] rfl (cs_ (v:=.bool (isPlace a id)) (by kernel_rfl) rfl rfl rfl (fun w_ hs_=>spec_l4Place w_ _ (hs_.at 0 rfl)) (m_ rfl rfl ?_))
  by_cases h1 : isPlace a id = true
  · refine rp ik 5 [1,1,1,1,0,3,1] rfl ⟨h1,h1,h1,h1,h1,⟨⟩⟩ (gw rfl rfl h1 ?_)
    refine gp 0 kArenaS_p2_1 rfl (cs':=[.slice Aa2 a.free.length ca2]) rfl fun s2 w_ rs2 us2=>?_
    have Ls2:=Kd.sl_len rs2; have Cs2:=Kd.sl_cap rs2
    refine cs_ (v:=.bool (decide (id ∈ a.free))) (by kernel_rfl) rfl rfl rfl (fun w_ hs_=>spec_l1Has w_ _ (hs_.at 0 rfl)) (r2_ ik 3 [1,1] rfl h1 h1 ?_)
    by_cases h3 : decide (id ∈ a.free) = true
    · refine rp ik 9 [0,0,0,0,0] rfl ⟨(not_f h3),(not_f h3),(not_f h3),(not_f h3),(not_f h3),⟨⟩⟩ (ret1 rfl rfl (fun w_ hs_=>⟨?_,hs_.below⟩))
      exact rb (by unfold isUsed; grind)
    · refine r2_ ik 2 [1,1] rfl (not_t (Bool.eq_false_iff.2 h3)) (not_t (Bool.eq_false_iff.2 h3)) (gw rfl rfl (not_t (Bool.eq_false_iff.2 h3)) (cs_ (v:=.bool (List.any a.retired (fun r=>r.id == id))) (by kernel_rfl) rfl rfl rfl (fun w_ hs_=>spec_l4Retired w_ _ (hs_.at 1 rfl)) (r2_ ik 6 [1,1] rfl (not_t (Bool.eq_false_iff.2 h3)) (not_t (Bool.eq_false_iff.2 h3)) (ret1 rfl rfl (fun w_ hs_=>⟨?_,hs_.below⟩)))))
      exact rb (by unfold isUsed; grind)
  · refine rp ik 18 [0,0,0,0,0,0,0,0,0,0,0,0,0] rfl ⟨rfl,rfl,rfl,rfl,rfl,(Bool.eq_false_iff.2 h1),(Bool.eq_false_iff.2 h1),(Bool.eq_false_iff.2 h1),(Bool.eq_false_iff.2 h1),(Bool.eq_false_iff.2 h1),(Bool.eq_false_iff.2 h1),(Bool.eq_false_iff.2 h1),(Bool.eq_false_iff.2 h1),⟨⟩⟩ (ret1 rfl rfl (fun w_ hs_=>⟨?_,hs_.below⟩))
    exact rb (by unfold isUsed; grind)
theorem spec_l6Counts (w : World) (root : Bool) {An3 : Option Addr} {cn3 : Nat} {n : Node} {sn_ : List Nat} {pn : Addr} (hn : (ptr kNodeS pn [.int .i64 n.level,.int .i64 n.nsn,.int .i64 n.right,.slice An3 n.entries.length cn3] n sn_).P w)  : Calls Tryz.prog 311 #[.pointer (some pn),.bool root] w (fun e_ w2_=>e_ = .returned (.bool (decide (n.entries.length ≤ 4 ∧ (2 ≤ n.entries.length ∨ ((root) = true ∧ n.level = 0))))) ∧ Below w.heap.size w w2_):=by
  have Ln3:=Kd.sub_len kNodeS_p3_1 hn.2.2.2; have Cn3:=Kd.sub_cap kNodeS_p3_1 hn.2.2.2 rfl
  refine fnc (X:=X18 27 w) (l:=[(0,.pointer (some pn)),(1,.bool root)]) Tryz.func311 rfl rfl rfl ⟨rfl,rfl,trivial⟩ (s0p hn (s0n w)).1 ?_
  refine rn ik 20 [0,4] rfl ?_
  by_cases h1 : ((n.entries.length : Nat) : Int) ≤ (4 : Int)
  · refine r3_ ik 3 [1,1,1] rfl (decide_eq_true h1) (decide_eq_true h1) (decide_eq_true h1) ?_
    by_cases h2 : (2 : Int) ≤ ((n.entries.length : Nat) : Int)
    · refine rp ik 14 [0,0,0,0,0,0,0,0,1,1,1] rfl ⟨(decide_eq_true h1),(decide_eq_true h2),(decide_eq_true h1),(decide_eq_true h2),(decide_eq_true h2),(decide_eq_true h2),⟨⟩⟩ (ret1 rfl rfl (fun w_ hs_=>⟨?_,hs_.below⟩))
      exact rb (by grind)
    · refine r2_ ik 2 [1,1] rfl (decide_eq_false h2) (decide_eq_false h2) ?_
      by_cases h3 : root = true
      · refine rp ik 12 [1,1,1,1,0,1,1,1,1,1,0,1] rfl ⟨(decide_eq_true h1),(decide_eq_false h2),(decide_eq_true h1),h3,(decide_eq_false h2),h3,h3,h3,h3,h3,⟨⟩⟩ (ret1 rfl rfl (fun w_ hs_=>⟨?_,hs_.below⟩))
        exact rb (by grind)
      · refine rp ik 12 [0,0,0,0,0,1,0,1,0,1] rfl ⟨(decide_eq_true h1),(decide_eq_false h2),(decide_eq_true h1),(Bool.eq_false_iff.2 h3),(decide_eq_false h2),(Bool.eq_false_iff.2 h3),(Bool.eq_false_iff.2 h3),(Bool.eq_false_iff.2 h3),(Bool.eq_false_iff.2 h3),(Bool.eq_false_iff.2 h3),⟨⟩⟩ (ret1 rfl rfl (fun w_ hs_=>⟨?_,hs_.below⟩))
        exact rb (by grind)
  · refine rp ik 17 [0,0,0,0,0,0,0,0,0,0,0,0,0] rfl ⟨(decide_eq_false h1),(decide_eq_false h1),(decide_eq_false h1),(decide_eq_false h1),(decide_eq_false h1),⟨⟩⟩ (ret1 rfl rfl (fun w_ hs_=>⟨?_,hs_.below⟩))
    exact rb (by grind)
end Go.Proofs.YtjdkfibeogiekaaGreat.Sx
