/- What functions of the program answer, each at every input that its row names; walked through their code. -/
import Derived.Test.YtdokhlakakflmaaGreatSy0
namespace Go.Proofs.YtdokhlakakflmaaGreat.Sx
open Go Go.RowKit Go.Proofs
set_option linter.unusedVariables false
set_option linter.unusedSimpArgs false
def tab1 : Tab := { size := [(2, 1, false), (37, 2, true), (105, 1, false), (110, 2, true), (119, 3, true), (132, 4, true)], off := [((107, 0), 0), ((107, 1), 1), ((107, 2), 2), ((107, 3), 3), ((119, 0), 0), ((132, 0), 0), ((132, 1), 2), ((132, 2), 3)], elem := [(41, 119), (48, 110), (105, 132)] }
theorem tab_ok1 : tab1.check Tryz.prog = true:=by kernel_rfl
noncomputable abbrev X1 (N : Nat) (w : World) : Cx := ⟨Tryz.prog, tab1, tab_ok1, wide, N, w, none, []⟩

def isForm (level : Int) (e : Entry) : Bool := if level = 0 then e.nsn == 0 else decide (e.ref < 40)
def entryFault (e : Entry) (dims : Int) : Int := if rectFault e.rect dims = 0 then if within e.ref 0 999 = true ∧ within e.nsn 0 100000 = true then 0 else 3 else rectFault e.rect dims
def nodeFault (n : Node) (dims : Int) : Int :=
  if isDims dims = true ∧ within n.level 0 6 = true ∧ within n.nsn 0 100000 = true ∧ within n.right (-1) 39 = true then
    if (n.entries.length : Int) ≤ 5 then
      if firstFault (fun e=>entryFault e dims) n.entries = 0 then
        if n.entries.any (fun e=>!isForm n.level e) = true then 1 else if Uniq Entry.ref n.entries then 0 else 6
      else firstFault (fun e=>entryFault e dims) n.entries
    else 2
  else 3
theorem entry_0 {e : Entry} {d : Int} (h : entryFault e d = 0) : rectFault e.rect d = 0 ∧ 0 ≤ e.ref ∧ e.ref ≤ 999 ∧ 0 ≤ e.nsn ∧ e.nsn ≤ 100000:=by
  unfold entryFault at h
  split at h
  · rename_i h1
    split at h
    · rename_i h2
      simp [within] at h2
      exact ⟨h1,by omega,by omega,by omega,by omega⟩
    · simp at h
  · contradiction
theorem firstFault_all {α : Type} {f : α → Int} : ∀ {l : List α},firstFault f l = 0 → ∀ x ∈ l,f x = 0
  | [],_,_,hx=>by cases hx
  | a :: l,h,x,hx=>by
    have h0 : f a = 0:=by
      by_cases h0 : f a = 0
      · exact h0
      · rw [firstFault,if_neg h0] at h; exact absurd h h0
    rcases List.mem_cons.1 hx with rfl | hx
    · exact h0
    · rw [firstFault,if_pos h0] at h; exact firstFault_all h x hx
theorem node_0 {n : Node} {d : Int} (h : nodeFault n d = 0) : isDims d = true ∧ 0 ≤ n.level ∧ n.level ≤ 6 ∧ n.entries.length ≤ 5 ∧ (∀ e ∈ n.entries,entryFault e d = 0) ∧ Uniq Entry.ref n.entries:=by
  unfold nodeFault at h
  split at h
  · rename_i h1
    split at h
    · split at h
      · rename_i h3
        split at h
        · simp at h
        · split at h
          · have h4:=within_t h1.2.1
            exact ⟨h1.1,h4.1,h4.2,by omega,firstFault_all h3,by assumption⟩
          · simp at h
      · contradiction
    · simp at h
  · simp at h
def watchFault (l : List Int) (least : Int) : Int :=
  if (l.length : Int) < least ∨ 4 < (l.length : Int) then 2 else if l.any (fun n=>!within n 0 3) = true then 3 else if adj (fun a b=>decide (b ≤ a)) l = true then 1 else 0
def emptyNode : Node := ⟨0, 0, -1, []⟩
def nodeAt (a : Arena) (id : Int) : Node := a.nodes.getD id.toNat emptyNode
def isPlace (a : Arena) (id : Int) : Bool := within id 0 ((a.nodes.length : Int) - 1)
def freeFault (a : Arena) : Int :=
  if a.free.any (fun id=>!isPlace a id) = true then 3 else if adj (fun a b=>decide (b ≤ a)) a.free = true ∨ a.free.any (fun id=>!decide (nodeAt a id = emptyNode)) = true then 1 else 0
def retFault (a : Arena) (r : Retired) : Int := if isPlace a r.id = true then watchFault r.watch 1 else 3
def arenaFault (a : Arena) : Int :=
  if isDims a.dims = true then
    if within (a.nodes.length : Int) 4 40 = true then
      if firstFault (fun n=>nodeFault n a.dims) a.nodes = 0 then
        if freeFault a = 0 then
          if firstFault (retFault a) a.retired = 0 then
            if Uniq Retired.id a.retired ∧ a.retired.any (fun r=>decide (r.id ∈ a.free)) = false then 0 else 6
          else firstFault (retFault a) a.retired
        else freeFault a
      else firstFault (fun n=>nodeFault n a.dims) a.nodes
    else 2
  else 3
theorem nodeAt_mem {a : Arena} {id : Int} (h : isPlace a id = true) : nodeAt a id ∈ a.nodes ∧ id.toNat < a.nodes.length ∧ a.nodes[id.toNat]? = some (nodeAt a id):=by
  have h1:=within_t h
  have h2 : id.toNat < a.nodes.length:=by omega
  unfold nodeAt
  rw [List.getD_eq_getElem?_getD,List.getElem?_eq_getElem h2]
  exact ⟨List.getElem_mem h2,h2,rfl⟩
theorem nodeAt_of {a : Arena} {id : Int} {n : Node} (h : a.nodes[id.toNat]? = some n) : nodeAt a id = n:=by
  unfold nodeAt; rw [List.getD_eq_getElem?_getD,h]; rfl
structure Sound (a : Arena) : Prop where
  dims : isDims a.dims = true
  len : 4 ≤ a.nodes.length ∧ a.nodes.length ≤ 40
  node : ∀ n ∈ a.nodes,nodeFault n a.dims = 0
  free : ∀ id ∈ a.free,isPlace a id = true
  emp : ∀ id ∈ a.free,nodeAt a id = emptyNode
  rise : adj (fun a b=>decide (b ≤ a)) a.free = false
  ret : ∀ r ∈ a.retired,isPlace a r.id = true ∧ watchFault r.watch 1 = 0
  once : Uniq Retired.id a.retired
  apart : ∀ r ∈ a.retired,r.id ∉ a.free
theorem free_0 {a : Arena} (h : freeFault a = 0) : (∀ id ∈ a.free,isPlace a id = true) ∧ adj (fun a b=>decide (b ≤ a)) a.free = false ∧ ∀ id ∈ a.free,nodeAt a id = emptyNode:=by
  unfold freeFault at h
  split at h
  · simp at h
  · rename_i h1
    split at h
    · simp at h
    · rename_i h2
      simp only [List.any_eq_true,not_exists,not_or,Bool.not_eq_true',not_and,Bool.not_eq_false,decide_eq_false_iff_not,Classical.not_not] at h1 h2
      exact ⟨fun id hid=>h1 id hid,by simpa using h2.1,fun id hid=>h2.2 id hid⟩
theorem arena_0 {a : Arena} (h : arenaFault a = 0) : Sound a:=by
  unfold arenaFault at h
  split at h
  · rename_i hd
    split at h
    · rename_i hl
      split at h
      · rename_i hn
        split at h
        · rename_i hf
          split at h
          · rename_i hr
            split at h
            · rename_i hu
              have hl':=within_t hl
              have hf':=free_0 hf
              refine ⟨hd,by omega,firstFault_all hn,hf'.1,hf'.2.2,hf'.2.1,fun r hm=>?_,hu.1,fun r hm hx=>?_⟩
              · have h1:=firstFault_all hr r hm
                unfold retFault at h1
                split at h1
                · exact ⟨by assumption,h1⟩
                · simp at h1
              · have:=List.any_eq_false.1 hu.2 r hm
                simp at this; exact this hx
            · simp at h
          · contradiction
        · contradiction
      · contradiction
    · simp at h
  · simp at h
def unionR (a b : Rect) : Rect := ⟨List.zipWith gmin a.low b.low, List.zipWith gmax a.high b.high⟩
def boxFrom (r : Rect) (l : List Entry) : Rect := l.foldl (fun b x => unionR b x.rect) r
def Dim (d : Nat) (r : Rect) : Prop := r.low.length = d ∧ r.high.length = d
theorem Dim.union {d : Nat} {a b : Rect} (h : Dim d a) (k : Dim d b) : Dim d (unionR a b):=by
  unfold Dim unionR at *; simp; omega
theorem Dim.from {d : Nat} : ∀ {l : List Entry} {r : Rect},Dim d r → (∀ e ∈ l,Dim d e.rect) → Dim d (boxFrom r l)
  | [],_,h,_=>h
  | e :: l,r,h,k=>Dim.from (l:=l) (h.union (k e (List.mem_cons_self ..))) (fun x hx=>k x (List.mem_cons_of_mem _ hx))
def Met (t : Tree) (m : List Int) : Prop := m.Nodup ∧ ∀ x ∈ m, isPlace t.arena x = true
theorem Met.nil {t : Tree} : Met t []:=⟨.nil,by simp⟩
theorem nodup_bound : ∀ (n : Nat) {l : List Nat},l.Nodup → (∀ x ∈ l,x < n) → l.length ≤ n
  | 0,l,_,h=>by
    cases l with
    | nil=>simp
    | cons a l=>have:=h a (List.mem_cons_self ..); omega
  | n + 1,l,hn,h=>by
    have h1:=nodup_bound n (l:=l.erase n) (hn.erase n) (fun x hx=>by
      have h2:=(List.Nodup.mem_erase_iff hn).1 hx
      have:=h x h2.2
      have:=h2.1
      omega)
    have h3:=List.length_erase (a:=n) (l:=l)
    split at h3 <;> omega
theorem Met.len {t : Tree} {m : List Int} (h : Met t m) : m.length ≤ t.arena.nodes.length:=by
  have h1 : (m.map Int.toNat).Nodup:=by
    unfold List.Nodup
    rw [List.pairwise_map]
    refine List.Pairwise.imp_of_mem (fun {a b} ha hb hne=>?_) h.1
    have:=within_t (h.2 a ha); have:=within_t (h.2 b hb); omega
  have h2:=nodup_bound t.arena.nodes.length h1 (fun x hx=>by
    obtain ⟨y,hy,rfl⟩:=List.mem_map.1 hx
    have:=within_t (h.2 y hy)
    omega)
  simpa using h2

set_option maxRecDepth 20000 in
set_option maxHeartbeats 2000000 in
theorem impl_isId (w : World) (id : Int)  : Calls Tryz.prog 147 #[.int .i64 id] w (fun e_ w2_=>e_ = .returned (.bool (within id 0 999)) ∧ Below w.heap.size w w2_):=by
  refine fnc (X:=X1 5 w) (l:=[(0,.int .i64 id)]) Tryz.func147 rfl rfl rfl ⟨rfl,trivial⟩ (s0n w).1 ?_
  refine sq (rg (a_ rfl rfl (en (nx (sq (rg (m_ rfl rfl (cs_ (v:=.bool (within id 0 999)) (by kernel_rfl) rfl rfl rfl (fun w_ hs_=>impl_within w_ _ _ _) (a_ rfl rfl (en (nx (rt (ret1 rfl rfl (fun w_ hs_=>⟨?_,hs_.below⟩))))))))))))))
  rfl
set_option maxRecDepth 20000 in
set_option maxHeartbeats 2000000 in
theorem impl_isNsn (w : World) (n : Int)  : Calls Tryz.prog 86 #[.int .i64 n] w (fun e_ w2_=>e_ = .returned (.bool (within n 0 100000)) ∧ Below w.heap.size w w2_):=by
  refine fnc (X:=X1 5 w) (l:=[(0,.int .i64 n)]) Tryz.func86 rfl rfl rfl ⟨rfl,trivial⟩ (s0n w).1 ?_
  refine sq (rg (a_ rfl rfl (en (nx (sq (rg (m_ rfl rfl (cs_ (v:=.bool (within n 0 100000)) (by kernel_rfl) rfl rfl rfl (fun w_ hs_=>impl_within w_ _ _ _) (a_ rfl rfl (en (nx (rt (ret1 rfl rfl (fun w_ hs_=>⟨?_,hs_.below⟩))))))))))))))
  rfl
set_option maxRecDepth 20000 in
set_option maxHeartbeats 2000000 in
theorem impl_isClient (w : World) (n : Int)  : Calls Tryz.prog 141 #[.int .i64 n] w (fun e_ w2_=>e_ = .returned (.bool (within n 0 3)) ∧ Below w.heap.size w w2_):=by
  refine fnc (X:=X1 5 w) (l:=[(0,.int .i64 n)]) Tryz.func141 rfl rfl rfl ⟨rfl,trivial⟩ (s0n w).1 ?_
  refine sq (rg (a_ rfl rfl (en (nx (sq (rg (m_ rfl rfl (cs_ (v:=.bool (within n 0 3)) (by kernel_rfl) rfl rfl rfl (fun w_ hs_=>impl_within w_ _ _ _) (a_ rfl rfl (en (nx (rt (ret1 rfl rfl (fun w_ hs_=>⟨?_,hs_.below⟩))))))))))))))
  rfl
def entryRange (e : Entry) : Int := if within e.ref 0 999 = true ∧ within e.nsn 0 100000 = true then 0 else 3
set_option maxRecDepth 20000 in
set_option maxHeartbeats 2000000 in
theorem impl_entryRange (w : World) {Ae0 : Option Addr} {ce0 : Nat} {Ae1 : Option Addr} {ce1 : Nat} {e : Entry} {se_ : List Nat} (he : kEntryS.Rel w [.slice Ae0 e.rect.low.length ce0,.slice Ae1 e.rect.high.length ce1,.int .i64 e.ref,.int .i64 e.nsn] e [] se_)  : Calls Tryz.prog 130 #[.agg #[.slice Ae0 e.rect.low.length ce0,.slice Ae1 e.rect.high.length ce1,.int .i64 e.ref,.int .i64 e.nsn]] w (fun e_ w2_=>e_ = .returned (.int .i64 (entryRange e)) ∧ Below w.heap.size w w2_):=by
  refine fnc (X:=X1 13 w) (l:=[(0,.agg #[.slice Ae0 e.rect.low.length ce0,.slice Ae1 e.rect.high.length ce1,.int .i64 e.ref,.int .i64 e.nsn])]) Tryz.func130 rfl rfl rfl ⟨rfl,trivial⟩ (s0d he (s0n w)).1 ?_
  refine sq (rg (bx rfl rfl rfl rfl ?_))
  intro b1
  refine a_ rfl rfl (en (nx (sq (sq (rg (vl (fa rfl rfl rfl) rfl (vl (ldb (u:=.int .i64 e.ref) 0 rfl rfl rfl rfl rfl rfl rfl) rfl (cs_ (v:=.bool (within e.ref 0 999)) (by kernel_rfl) rfl rfl rfl (fun w_ hs_=>impl_isId w_ _) (vl (nt rfl rfl) rfl (m_ rfl rfl ?_))))))))))
  by_cases h2 : within e.ref 0 999 = true
  · refine vg (fa rfl rfl rfl) rfl rfl (not_f h2) (vg (ldb (u:=.int .i64 e.nsn) 0 rfl rfl rfl rfl rfl rfl rfl) rfl rfl (not_f h2) (gw rfl rfl (not_f h2) (cs_ (v:=.bool (within e.nsn 0 100000)) (by kernel_rfl) rfl rfl rfl (fun w_ hs_=>impl_isNsn w_ _) (vg (nt rfl rfl) rfl rfl (not_f h2) (vl (pk (b:=false) rfl rfl (not_f h2) rfl) rfl (en (nx ?_)))))))
    by_cases h3 : within e.nsn 0 100000 = true
    · refine cf rfl (not_f h3) (sk (nx (sq (rg (a_ rfl rfl (en (nx (rt (ret1 rfl rfl (fun w_ hs_=>⟨?_,hs_.below⟩))))))))))
      exact ri (by grind [entryRange])
    · refine ct rfl (not_t (Bool.eq_false_iff.2 h3)) (sq (rg (a_ rfl rfl (en (nx (rt (xr (ret1 rfl rfl (fun w_ hs_=>⟨?_,hs_.below⟩)))))))))
      exact ri (by grind [entryRange])
  · refine sg rfl rfl (not_t (Bool.eq_false_iff.2 h2)) (sg rfl rfl (not_t (Bool.eq_false_iff.2 h2)) (sg rfl rfl (not_t (Bool.eq_false_iff.2 h2)) (sg rfl rfl (not_t (Bool.eq_false_iff.2 h2)) (vl (pk (b:=true) rfl rfl (not_t (Bool.eq_false_iff.2 h2)) rfl) rfl (en (nx (ct rfl rfl (sq (rg (a_ rfl rfl (en (nx (rt (xr (ret1 rfl rfl (fun w_ hs_=>⟨?_,hs_.below⟩))))))))))))))))
    exact ri (by grind [entryRange])
set_option maxRecDepth 20000 in
set_option maxHeartbeats 2000000 in
theorem spec_l3Entry (w : World) (dims : Int) {Ae0 : Option Addr} {ce0 : Nat} {Ae1 : Option Addr} {ce1 : Nat} {e : Entry} {se_ : List Nat} {pe : Addr} (he : (ptr kEntryS pe [.slice Ae0 e.rect.low.length ce0,.slice Ae1 e.rect.high.length ce1,.int .i64 e.ref,.int .i64 e.nsn] e se_).P w)  : Calls Tryz.prog 112 #[.pointer (some pe),.int .i64 dims] w (fun e_ w2_=>e_ = .returned (.int .i64 (entryFault e dims)) ∧ Below w.heap.size w w2_):=by
  refine fnc (X:=X1 29 w) (l:=[(0,.pointer (some pe)),(1,.int .i64 dims)]) Tryz.func112 rfl rfl rfl ⟨rfl,rfl,trivial⟩ (s0p he (s0n w)).1 ?_
  refine sq (rg (a_ rfl rfl (en (nx (sq (sq (rg (m_ rfl rfl (vl (nc rfl rfl) rfl (vl (fa rfl rfl rfl) rfl (vl (ldp 0 rfl rfl rfl rfl rfl rfl rfl) rfl (m_ rfl rfl ?_))))))))))))
  refine gp 0 kEntryS_p0_2 rfl (cs':=[.slice Ae0 e.rect.low.length ce0,.slice Ae1 e.rect.high.length ce1]) rfl fun s1 w_ rs1 us1=>?_
  refine cs_ (v:=.int .i64 (rectFault e.rect dims)) (by kernel_rfl) rfl rfl rfl (fun w_ hs_=>spec_RectFault w_ _ (hs_.at 0 rfl)) (a_ rfl rfl (en (nx (sq (rg (m_ rfl rfl (vl (cm rfl rfl rfl rfl) rfl (en (nx ?_)))))))))
  by_cases h2 : (rectFault e.rect dims) = (0 : Int)
  · refine cf rfl (bne_eq_false_iff_eq.2 h2) (sk (nx (sq (sq (rg (m_ rfl rfl (vl (nc rfl rfl) rfl (vl (fa rfl rfl rfl) rfl (vl (ldp (u:=.int .i64 e.ref) 1 rfl rfl rfl rfl rfl rfl rfl) rfl (cs_ (v:=.bool (within e.ref 0 999)) (by kernel_rfl) rfl rfl rfl (fun w_ hs_=>spec_l1In w_ _ _ _) (vl (nt rfl rfl) rfl (m_ rfl rfl ?_))))))))))))
    by_cases h3 : within e.ref 0 999 = true
    · refine vg (mv rfl rfl) rfl rfl (not_f h3) (vg (nc rfl rfl) rfl rfl (not_f h3) (vg (fa rfl rfl rfl) rfl rfl (not_f h3) (vg (ldp (u:=.int .i64 e.nsn) 1 rfl rfl rfl rfl rfl rfl rfl) rfl rfl (not_f h3) (gw rfl rfl (not_f h3) (cs_ (v:=.bool (within e.nsn 0 100000)) (by kernel_rfl) rfl rfl rfl (fun w_ hs_=>spec_l1In w_ _ _ _) (vg (nt rfl rfl) rfl rfl (not_f h3) (vl (pk (b:=false) rfl rfl (not_f h3) rfl) rfl (en (nx ?_)))))))))
      by_cases h4 : within e.nsn 0 100000 = true
      · refine cf rfl (not_f h4) (sk (nx (sq (rg (a_ rfl rfl (en (nx (rt (ret1 rfl rfl (fun w_ hs_=>⟨?_,hs_.below⟩))))))))))
        exact ri (by grind [entryFault])
      · refine ct rfl (not_t (Bool.eq_false_iff.2 h4)) (sq (rg (a_ rfl rfl (en (nx (rt (xr (ret1 rfl rfl (fun w_ hs_=>⟨?_,hs_.below⟩)))))))))
        exact ri (by grind [entryFault])
    · refine sg rfl rfl (not_t (Bool.eq_false_iff.2 h3)) (sg rfl rfl (not_t (Bool.eq_false_iff.2 h3)) (sg rfl rfl (not_t (Bool.eq_false_iff.2 h3)) (sg rfl rfl (not_t (Bool.eq_false_iff.2 h3)) (sg rfl rfl (not_t (Bool.eq_false_iff.2 h3)) (sg rfl rfl (not_t (Bool.eq_false_iff.2 h3)) (vl (pk (b:=true) rfl rfl (not_t (Bool.eq_false_iff.2 h3)) rfl) rfl (en (nx (ct rfl rfl (sq (rg (a_ rfl rfl (en (nx (rt (xr (ret1 rfl rfl (fun w_ hs_=>⟨?_,hs_.below⟩))))))))))))))))))
      exact ri (by grind [entryFault])
  · refine ct rfl (bne_iff_ne.2 h2) (sq (rg (m_ rfl rfl (a_ rfl rfl (en (nx (rt (xr (ret1 rfl rfl (fun w_ hs_=>⟨?_,hs_.below⟩))))))))))
    exact ri (by grind [entryFault])
set_option maxRecDepth 20000 in
set_option maxHeartbeats 2000000 in
theorem impl_isForm (w : World) (level : Int) {Ae0 : Option Addr} {ce0 : Nat} {Ae1 : Option Addr} {ce1 : Nat} {e : Entry} {se_ : List Nat} (he : kEntryS.Rel w [.slice Ae0 e.rect.low.length ce0,.slice Ae1 e.rect.high.length ce1,.int .i64 e.ref,.int .i64 e.nsn] e [] se_)  : Calls Tryz.prog 133 #[.int .i64 level,.agg #[.slice Ae0 e.rect.low.length ce0,.slice Ae1 e.rect.high.length ce1,.int .i64 e.ref,.int .i64 e.nsn]] w (fun e_ w2_=>e_ = .returned (.bool (isForm level e)) ∧ Below w.heap.size w w2_):=by
  refine fnc (X:=X1 13 w) (l:=[(0,.int .i64 level),(1,.agg #[.slice Ae0 e.rect.low.length ce0,.slice Ae1 e.rect.high.length ce1,.int .i64 e.ref,.int .i64 e.nsn])]) Tryz.func133 rfl rfl rfl ⟨rfl,rfl,trivial⟩ (s0d he (s0n w)).1 ?_
  refine sq (rg (bx rfl rfl rfl rfl ?_))
  intro b1
  refine a_ rfl rfl (en (nx (sq (sq (rg (m_ rfl rfl (vl (cm rfl rfl rfl rfl) rfl (en (nx ?_)))))))))
  by_cases h2 : level = (0 : Int)
  · refine ct rfl (beq_iff_eq.2 h2) (sq (rg (vl (fa rfl rfl rfl) rfl (vl (ldb (u:=.int .i64 e.nsn) 0 rfl rfl rfl rfl rfl rfl rfl) rfl (vl (cm rfl rfl rfl rfl) rfl (a_ rfl rfl (en (nx (rt (xr (ret1 rfl rfl (fun w_ hs_=>⟨?_,hs_.below⟩))))))))))))
    exact rb (by grind [isForm])
  · refine cf rfl (beq_eq_false_iff_ne.2 h2) (sk (nx (sq (rg (vl (fa rfl rfl rfl) rfl (vl (ldb (u:=.int .i64 e.ref) 0 rfl rfl rfl rfl rfl rfl rfl) rfl (vl (cm rfl rfl rfl rfl) rfl (a_ rfl rfl (en (nx (rt (ret1 rfl rfl (fun w_ hs_=>⟨?_,hs_.below⟩)))))))))))))
    exact rb (by grind [isForm])
set_option maxRecDepth 20000 in
set_option maxHeartbeats 2000000 in
theorem spec_l3Fits (w : World) (level : Int) {Ae0 : Option Addr} {ce0 : Nat} {Ae1 : Option Addr} {ce1 : Nat} {e : Entry} {se_ : List Nat} {pe : Addr} (he : (ptr kEntryS pe [.slice Ae0 e.rect.low.length ce0,.slice Ae1 e.rect.high.length ce1,.int .i64 e.ref,.int .i64 e.nsn] e se_).P w)  : Calls Tryz.prog 113 #[.int .i64 level,.pointer (some pe)] w (fun e_ w2_=>e_ = .returned (.bool (isForm level e)) ∧ Below w.heap.size w w2_):=by
  refine fnc (X:=X1 17 w) (l:=[(0,.int .i64 level),(1,.pointer (some pe))]) Tryz.func113 rfl rfl rfl ⟨rfl,rfl,trivial⟩ (s0p he (s0n w)).1 ?_
  refine sq (rg (a_ rfl rfl (en (nx (sq (sq (rg (m_ rfl rfl (vl (cm rfl rfl rfl rfl) rfl (en (nx ?_)))))))))))
  by_cases h1 : level = (0 : Int)
  · refine ct rfl (beq_iff_eq.2 h1) (sq (rg (m_ rfl rfl (vl (nc rfl rfl) rfl (vl (fa rfl rfl rfl) rfl (vl (ldp (u:=.int .i64 e.nsn) 0 rfl rfl rfl rfl rfl rfl rfl) rfl (vl (cm rfl rfl rfl rfl) rfl (a_ rfl rfl (en (nx (rt (xr (ret1 rfl rfl (fun w_ hs_=>⟨?_,hs_.below⟩))))))))))))))
    exact rb (by grind [isForm])
  · refine cf rfl (beq_eq_false_iff_ne.2 h1) (sk (nx (sq (rg (m_ rfl rfl (vl (nc rfl rfl) rfl (vl (fa rfl rfl rfl) rfl (vl (ldp (u:=.int .i64 e.ref) 0 rfl rfl rfl rfl rfl rfl rfl) rfl (vl (cm rfl rfl rfl rfl) rfl (a_ rfl rfl (en (nx (rt (ret1 rfl rfl (fun w_ hs_=>⟨?_,hs_.below⟩)))))))))))))))
    exact rb (by grind [isForm])
set_option maxRecDepth 20000 in
set_option maxHeartbeats 2000000 in
theorem slices_IndexFunc_impl_Entry_impl_Entry (w : World) (p : Entry → Bool) {fp : FuncId} {cfp : List Value} (hEp : enters Tryz.prog fp = true) {As : Option Addr} {cs : Nat} {s : List Entry} {ss_ : List Nat} (hs : (Kd.sl kEntryS).Rel w [.slice As s.length cs] s [] ss_) (hfp : ∀ (w1 : World) (x0 : Entry),x0 ∈ s → Below w.heap.size w w1 → ∀ (A0_1 : Option Addr) (c0_1 : Nat),∀ (A0_0 : Option Addr) (c0_0 : Nat),∀ s0_ : List Nat,kEntryS.Rel w1 [.slice A0_0 x0.rect.low.length c0_0,.slice A0_1 x0.rect.high.length c0_1,.int .i64 x0.ref,.int .i64 x0.nsn] x0 [] s0_ → Calls Tryz.prog fp (([.agg #[.slice A0_0 x0.rect.low.length c0_0,.slice A0_1 x0.rect.high.length c0_1,.int .i64 x0.ref,.int .i64 x0.nsn]] : List Value) ++ cfp).toArray w1 (fun e_ w2_=>e_ = .returned (.bool (p x0)) ∧ Below w1.heap.size w1 w2_))  : Calls Tryz.prog 167 #[.slice As s.length cs,.func (.func fp) #[] cfp.toArray] w (fun e_ w2_=>e_ = .returned (.int .i64 (idx p s)) ∧ Below w.heap.size w w2_):=by
  have Ls:=Kd.sl_len hs; have Cs:=Kd.sl_cap hs
  refine fnc (X:=X1 19 w) (l:=[(0,.slice As s.length cs),(1,.func (.func fp) #[] cfp.toArray)]) Tryz.func167 rfl rfl rfl ⟨rfl,rfl,trivial⟩ (s0d hs (s0n w)).1 ?_
  refine sq (rg (a_ rfl rfl (en (nx (sq (sq (rg (m_ rfl rfl (vl (ln rfl rfl rfl) rfl (m_ rfl rfl (en (nx (bk ?_)))))))))))))
  refine lp (σ:=Nat) (fun k : Nat=>[(0,.slice As s.length cs),(1,.func (.func fp) #[] cfp.toArray),(7,.int .i64 ((s.length : Nat) : Int)),(8,.int .i64 ((k : Nat) : Int))])
      (fun k : Nat=>[dat (Kd.sl kEntryS) [.slice As s.length cs] s ([]) ss_])
      (fun k : Nat=>k ≤ s.length ∧ ∀ j x,j < k → s[j]? = some x → p x = false) (fun k : Nat=>s.length - k) 0 [0] ⟨Nat.zero_le _,by simp⟩ ⟨rfl,rfl,rfl,rfl,trivial⟩ rfl ?_
  intro k hp_
  obtain ⟨hk,hinv⟩:=hp_
  refine sq (rg (vl (cm rfl rfl rfl rfl) rfl (en (nx (sq ?_)))))
  by_cases h1 : ((k : Nat) : Int) < ((s.length : Nat) : Int)
  · refine ct rfl (decide_eq_true h1) (sk (nx (sq (bk (sq (rg (m_ rfl rfl (a_ rfl rfl (en (nx (sq (rg (m_ rfl rfl (m_ rfl rfl (m_ rfl rfl ?_)))))))))))))))
    refine gx 0 k rfl (by omega) fun y7 p2 cs_ s3 w6 m8 e4 r5 us3=>?_
    obtain ⟨A9,c10,A11,c12,rfl⟩:=kEntryS_sh r5
    refine vl (ix k e4 rfl rfl rfl rfl rfl (by omega)) rfl (vl (ldq 0 rfl rfl rfl rfl rfl rfl rfl) rfl ?_)
    refine gp 0 Kd.Sub.rfl rfl (cs':=[.slice A9 y7.rect.low.length c10,.slice A11 y7.rect.high.length c12,.int .i64 y7.ref,.int .i64 y7.nsn]) rfl fun s13 w_ rs13 us13=>?_
    refine cv_ (v:=.bool (p y7)) hEp rfl rfl rfl rfl (fun w_ hs_=>hfp w_ y7 (List.mem_of_getElem? m8) hs_.below _ _ _ _ _ (hs_.at 0 rfl)) (en (nx ?_))
    by_cases h14 : p y7 = true
    · refine ct rfl h14 (sq (rg (m_ rfl rfl (a_ rfl rfl (en (nx (rt (xrb (xr (xr (xrb (xr (ret1 rfl rfl (fun w_ hs_=>⟨?_,hs_.below⟩))))))))))))))
      rw [idx_some hinv m8 h14]
    · exact cf rfl (Bool.eq_false_iff.2 h14) (sk (xn (nx (rg (vl (ra (c:=((k + 1 : Nat) : Int)) rfl rfl rfl (by omega) (by omega) (by omega)) rfl (m_ rfl rfl (en (lpe (s:=k) (k + 1) [2] ⟨by omega,idx_step hinv m8 (Bool.eq_false_iff.2 h14)⟩ (by omega) ⟨rfl,rfl,rfl,rfl,trivial⟩ rfl))))))))
  · refine cf rfl (decide_eq_false h1) (xt (xq (xq (xb (nx (sq (rg (a_ rfl rfl (en (nx (rt (ret1 rfl rfl (fun w_ hs_=>⟨?_,hs_.below⟩)))))))))))))
    rw [idx_none hinv (by omega)]
set_option maxRecDepth 20000 in
set_option maxHeartbeats 2000000 in
theorem slices_ContainsFunc_impl_Entry_impl_Entry (w : World) (p : Entry → Bool) {fp : FuncId} {cfp : List Value} (hEp : enters Tryz.prog fp = true) {As : Option Addr} {cs : Nat} {s : List Entry} {ss_ : List Nat} (hs : (Kd.sl kEntryS).Rel w [.slice As s.length cs] s [] ss_) (hfp : ∀ (w1 : World) (x0 : Entry),x0 ∈ s → Below w.heap.size w w1 → ∀ (A0_1 : Option Addr) (c0_1 : Nat),∀ (A0_0 : Option Addr) (c0_0 : Nat),∀ s0_ : List Nat,kEntryS.Rel w1 [.slice A0_0 x0.rect.low.length c0_0,.slice A0_1 x0.rect.high.length c0_1,.int .i64 x0.ref,.int .i64 x0.nsn] x0 [] s0_ → Calls Tryz.prog fp (([.agg #[.slice A0_0 x0.rect.low.length c0_0,.slice A0_1 x0.rect.high.length c0_1,.int .i64 x0.ref,.int .i64 x0.nsn]] : List Value) ++ cfp).toArray w1 (fun e_ w2_=>e_ = .returned (.bool (p x0)) ∧ Below w1.heap.size w1 w2_))  : Calls Tryz.prog 131 #[.slice As s.length cs,.func (.func fp) #[] cfp.toArray] w (fun e_ w2_=>e_ = .returned (.bool (List.any s p)) ∧ Below w.heap.size w w2_):=by
  have Ls:=Kd.sl_len hs; have Cs:=Kd.sl_cap hs
  refine fnc (X:=X1 9 w) (l:=[(0,.slice As s.length cs),(1,.func (.func fp) #[] cfp.toArray)]) Tryz.func131 rfl rfl rfl ⟨rfl,rfl,trivial⟩ (s0d hs (s0n w)).1 ?_
  refine sq (rg (a_ rfl rfl (en (nx (sq (rg (m_ rfl rfl (m_ rfl rfl (cs_ (v:=.int .i64 (idx p s)) (by kernel_rfl) rfl rfl rfl (fun w_ hs_=>slices_IndexFunc_impl_Entry_impl_Entry w_ p hEp (hs_.at 0 rfl) (fun w1 x0 m0_ b_=>hfp w1 x0 m0_ (hs_.below.trans (b_.mono hs_.below.size)))) (vl (cm rfl rfl rfl rfl) rfl (a_ rfl rfl (en (nx (rt (ret1 rfl rfl (fun w_ hs_=>⟨?_,hs_.below⟩))))))))))))))))
  rw [idx_ge]
set_option maxRecDepth 20000 in
set_option maxHeartbeats 2000000 in
theorem slices_IndexFunc_impl_Retired_impl_Retired (w : World) (p : Retired → Bool) {fp : FuncId} {cfp : List Value} (hEp : enters Tryz.prog fp = true) {As : Option Addr} {cs : Nat} {s : List Retired} {ss_ : List Nat} (hs : (Kd.sl kRetiredS).Rel w [.slice As s.length cs] s [] ss_) (hfp : ∀ (w1 : World) (x0 : Retired),x0 ∈ s → Below w.heap.size w w1 → ∀ (A0_1 : Option Addr) (c0_1 : Nat),∀ s0_ : List Nat,kRetiredS.Rel w1 [.int .i64 x0.id,.slice A0_1 x0.watch.length c0_1] x0 [] s0_ → Calls Tryz.prog fp (([.agg #[.int .i64 x0.id,.slice A0_1 x0.watch.length c0_1]] : List Value) ++ cfp).toArray w1 (fun e_ w2_=>e_ = .returned (.bool (p x0)) ∧ Below w1.heap.size w1 w2_))  : Calls Tryz.prog 142 #[.slice As s.length cs,.func (.func fp) #[] cfp.toArray] w (fun e_ w2_=>e_ = .returned (.int .i64 (idx p s)) ∧ Below w.heap.size w w2_):=by
  have Ls:=Kd.sl_len hs; have Cs:=Kd.sl_cap hs
  refine fnc (X:=X1 19 w) (l:=[(0,.slice As s.length cs),(1,.func (.func fp) #[] cfp.toArray)]) Tryz.func142 rfl rfl rfl ⟨rfl,rfl,trivial⟩ (s0d hs (s0n w)).1 ?_
  refine sq (rg (a_ rfl rfl (en (nx (sq (sq (rg (m_ rfl rfl (vl (ln rfl rfl rfl) rfl (m_ rfl rfl (en (nx (bk ?_)))))))))))))
  refine lp (σ:=Nat) (fun k : Nat=>[(0,.slice As s.length cs),(1,.func (.func fp) #[] cfp.toArray),(7,.int .i64 ((s.length : Nat) : Int)),(8,.int .i64 ((k : Nat) : Int))])
      (fun k : Nat=>[dat (Kd.sl kRetiredS) [.slice As s.length cs] s ([]) ss_])
      (fun k : Nat=>k ≤ s.length ∧ ∀ j x,j < k → s[j]? = some x → p x = false) (fun k : Nat=>s.length - k) 0 [0] ⟨Nat.zero_le _,by simp⟩ ⟨rfl,rfl,rfl,rfl,trivial⟩ rfl ?_
  intro k hp_
  obtain ⟨hk,hinv⟩:=hp_
  refine sq (rg (vl (cm rfl rfl rfl rfl) rfl (en (nx (sq ?_)))))
  by_cases h1 : ((k : Nat) : Int) < ((s.length : Nat) : Int)
  · refine ct rfl (decide_eq_true h1) (sk (nx (sq (bk (sq (rg (m_ rfl rfl (a_ rfl rfl (en (nx (sq (rg (m_ rfl rfl (m_ rfl rfl (m_ rfl rfl ?_)))))))))))))))
    refine gx 0 k rfl (by omega) fun y7 p2 cs_ s3 w6 m8 e4 r5 us3=>?_
    obtain ⟨A9,c10,rfl⟩:=kRetiredS_sh r5
    refine vl (ix k e4 rfl rfl rfl rfl rfl (by omega)) rfl (vl (ldq 0 rfl rfl rfl rfl rfl rfl rfl) rfl ?_)
    refine gp 0 Kd.Sub.rfl rfl (cs':=[.int .i64 y7.id,.slice A9 y7.watch.length c10]) rfl fun s11 w_ rs11 us11=>?_
    refine cv_ (v:=.bool (p y7)) hEp rfl rfl rfl rfl (fun w_ hs_=>hfp w_ y7 (List.mem_of_getElem? m8) hs_.below _ _ _ (hs_.at 0 rfl)) (en (nx ?_))
    by_cases h12 : p y7 = true
    · refine ct rfl h12 (sq (rg (m_ rfl rfl (a_ rfl rfl (en (nx (rt (xrb (xr (xr (xrb (xr (ret1 rfl rfl (fun w_ hs_=>⟨?_,hs_.below⟩))))))))))))))
      rw [idx_some hinv m8 h12]
    · exact cf rfl (Bool.eq_false_iff.2 h12) (sk (xn (nx (rg (vl (ra (c:=((k + 1 : Nat) : Int)) rfl rfl rfl (by omega) (by omega) (by omega)) rfl (m_ rfl rfl (en (lpe (s:=k) (k + 1) [2] ⟨by omega,idx_step hinv m8 (Bool.eq_false_iff.2 h12)⟩ (by omega) ⟨rfl,rfl,rfl,rfl,trivial⟩ rfl))))))))
  · refine cf rfl (decide_eq_false h1) (xt (xq (xq (xb (nx (sq (rg (a_ rfl rfl (en (nx (rt (ret1 rfl rfl (fun w_ hs_=>⟨?_,hs_.below⟩)))))))))))))
    rw [idx_none hinv (by omega)]
set_option maxRecDepth 20000 in
set_option maxHeartbeats 2000000 in
theorem impl_entryAt_1 (w : World) {Ae0 : Option Addr} {ce0 : Nat} {Ae1 : Option Addr} {ce1 : Nat} {e : Entry} {se_ : List Nat} (he : kEntryS.Rel w [.slice Ae0 e.rect.low.length ce0,.slice Ae1 e.rect.high.length ce1,.int .i64 e.ref,.int .i64 e.nsn] e [] se_)  {ref : Int} {sref_ : List Nat} {pref : Addr} (href : (ptr Kd.i64 pref [.int .i64 ref] ref sref_).P w)  : Calls Tryz.prog 168 #[.agg #[.slice Ae0 e.rect.low.length ce0,.slice Ae1 e.rect.high.length ce1,.int .i64 e.ref,.int .i64 e.nsn],.pointer (some pref)] w (fun e_ w2_=>e_ = .returned (.bool (e.ref == ref)) ∧ Below w.heap.size w w2_):=by
  refine fnc (X:=X1 8 w) (l:=[(0,.agg #[.slice Ae0 e.rect.low.length ce0,.slice Ae1 e.rect.high.length ce1,.int .i64 e.ref,.int .i64 e.nsn]),(1,.pointer (some pref))]) Tryz.func168 rfl rfl rfl ⟨rfl,rfl,trivial⟩ (s0p href (s0d he (s0n w))).1 ?_
  refine sq (rg (bx rfl rfl rfl rfl ?_))
  intro b1
  refine a_ rfl rfl (en (nx (sq (rg (vl (fa rfl rfl rfl) rfl (vl (ldb (u:=.int .i64 e.ref) 0 rfl rfl rfl rfl rfl rfl rfl) rfl (vl (ldq (u:=.int .i64 ref) 1 rfl rfl rfl rfl rfl rfl rfl) rfl (vl (cm rfl rfl rfl rfl) rfl (a_ rfl rfl (en (nx (rt (ret1 rfl rfl (fun w_ hs_=>⟨?_,hs_.below⟩))))))))))))))
  rfl
set_option maxRecDepth 20000 in
set_option maxHeartbeats 2000000 in
theorem impl_entryAt (w : World) (ref : Int) {Alist : Option Addr} {clist : Nat} {list : List Entry} {slist_ : List Nat} (hlist : (Kd.sl kEntryS).Rel w [.slice Alist list.length clist] list [] slist_)  : Calls Tryz.prog 134 #[.slice Alist list.length clist,.int .i64 ref] w (fun e_ w2_=>e_ = .returned (.int .i64 (idx (fun (x0 : Entry)=>x0.ref == ref) list)) ∧ Below w.heap.size w w2_):=by
  have Llist:=Kd.sl_len hlist; have Clist:=Kd.sl_cap hlist
  refine fnc (X:=X1 8 w) (l:=[(0,.slice Alist list.length clist),(1,.int .i64 ref)]) Tryz.func134 rfl rfl rfl ⟨rfl,rfl,trivial⟩ (s0d hlist (s0n w)).1 ?_
  refine sq (rg (bx rfl rfl rfl rfl ?_))
  intro b1
  refine a_ rfl rfl (en (nx (sq (rg (m_ rfl rfl (vl (mf rfl rfl rfl) rfl (gs Kd.i64 [.int .i64 ref] ref (fun _=>⟨rfl,rfl,rfl⟩) ?_)))))))
  refine cs_ (v:=.int .i64 (idx (fun (x0 : Entry)=>x0.ref == ref) list)) (by kernel_rfl) rfl rfl rfl (fun w_ hs_=>slices_IndexFunc_impl_Entry_impl_Entry w_ (fun (x0 : Entry)=>x0.ref == ref) (by kernel_rfl) (hs_.at 2 rfl) (fun w1 x0 m0_ b_ _ _ _ _ _ r0_=>impl_entryAt_1 w1  r0_ (ptr_blk ((hs_.step b_).at 1 rfl) ((hs_.step b_).at 0 rfl) rfl))) (a_ rfl rfl (en (nx (rt (ret1 rfl rfl (fun w_ hs_=>⟨?_,hs_.below⟩))))))
  rfl
set_option maxRecDepth 20000 in
set_option maxHeartbeats 2000000 in
theorem spec_l3Find (w : World) (id : Int) {Alist : Option Addr} {clist : Nat} {list : List Entry} {slist_ : List Nat} (hlist : (Kd.sl kEntryS).Rel w [.slice Alist list.length clist] list [] slist_)  : Calls Tryz.prog 114 #[.slice Alist list.length clist,.int .i64 id] w (fun e_ w2_=>e_ = .returned (.int .i64 (idx (fun (x0 : Entry)=>x0.ref == id) list)) ∧ Below w.heap.size w w2_):=by
  have Llist:=Kd.sl_len hlist; have Clist:=Kd.sl_cap hlist
  refine fnc (X:=X1 20 w) (l:=[(0,.slice Alist list.length clist),(1,.int .i64 id)]) Tryz.func114 rfl rfl rfl ⟨rfl,rfl,trivial⟩ (s0d hlist (s0n w)).1 ?_
  refine sq (rg (a_ rfl rfl (en (nx (sq (sq (rg (a_ rfl rfl (en (nx (bk ?_)))))))))))
  refine lp (σ:=Nat) (fun k : Nat=>[(0,.slice Alist list.length clist),(1,.int .i64 id),(5,.int .i64 ((k : Nat) : Int))])
      (fun k : Nat=>[dat (Kd.sl kEntryS) [.slice Alist list.length clist] list ([]) slist_])
      (fun k : Nat=>k ≤ list.length ∧ ∀ j x,j < k → list[j]? = some x → (x.ref == id) = false) (fun k : Nat=>list.length - k) 0 [0] ⟨Nat.zero_le _,by simp⟩ ⟨rfl,rfl,rfl,trivial⟩ rfl ?_
  intro k hp_
  obtain ⟨hk,hinv⟩:=hp_
  refine sq (sq (rg (m_ rfl rfl (m_ rfl rfl (vl (ln rfl rfl rfl) rfl (vl (cm rfl rfl rfl rfl) rfl (en (nx ?_))))))))
  by_cases h1 : ((k : Nat) : Int) < ((list.length : Nat) : Int)
  · refine ct rfl (decide_eq_true h1) (sk (nx (sq (bk (sq (rg (m_ rfl rfl (m_ rfl rfl ?_))))))))
    refine gx 0 k rfl (by omega) fun y7 p2 cs_ s3 w6 m8 e4 r5 us3=>?_
    obtain ⟨A9,c10,A11,c12,rfl⟩:=kEntryS_sh r5
    refine vl (ix k e4 rfl rfl rfl rfl rfl (by omega)) rfl (vl (fa rfl rfl rfl) rfl (vl (ldp (u:=.int .i64 y7.ref) 0 rfl rfl rfl rfl rfl rfl rfl) rfl (m_ rfl rfl (vl (cm rfl rfl rfl rfl) rfl (en (nx ?_))))))
    by_cases h13 : y7.ref = id
    · refine ct rfl (beq_iff_eq.2 h13) (sq (rg (m_ rfl rfl (a_ rfl rfl (en (nx (rt (xrb (xr (xr (xrb (xr (ret1 rfl rfl (fun w_ hs_=>⟨?_,hs_.below⟩))))))))))))))
      rw [idx_some (p:=(fun (x0 : Entry)=>x0.ref == id)) hinv m8 (beq_iff_eq.2 h13)]
    · exact cf rfl (beq_eq_false_iff_ne.2 h13) (sk (xn (nx (rg (m_ rfl rfl (vl (ra (c:=((k + 1 : Nat) : Int)) rfl rfl rfl (by omega) (by omega) (by omega)) rfl (a_ rfl rfl (en (lpe (s:=k) (k + 1) [1] ⟨by omega,idx_step (p:=(fun (x0 : Entry)=>x0.ref == id)) hinv m8 (beq_eq_false_iff_ne.2 h13)⟩ (by omega) ⟨rfl,rfl,rfl,trivial⟩ rfl)))))))))
  · refine cf rfl (decide_eq_false h1) (xt (xq (xq (xb (nx (sq (rg (a_ rfl rfl (en (nx (rt (ret1 rfl rfl (fun w_ hs_=>⟨?_,hs_.below⟩)))))))))))))
    rw [idx_none (p:=(fun (x0 : Entry)=>x0.ref == id)) hinv (by omega)]
set_option maxRecDepth 20000 in
set_option maxHeartbeats 2000000 in
theorem spec_l2At (w : World) (id : Int) {Alist : Option Addr} {clist : Nat} {list : List Pair} {slist_ : List Nat} (hlist : (Kd.sl kPairS).Rel w [.slice Alist list.length clist] list [] slist_)  : Calls Tryz.prog 124 #[.slice Alist list.length clist,.int .i64 id] w (fun e_ w2_=>e_ = .returned (.int .i64 (idx (fun (x0 : Pair)=>x0.id == id) list)) ∧ Below w.heap.size w w2_):=by
  have Llist:=Kd.sl_len hlist; have Clist:=Kd.sl_cap hlist
  refine fnc (X:=X1 20 w) (l:=[(0,.slice Alist list.length clist),(1,.int .i64 id)]) Tryz.func124 rfl rfl rfl ⟨rfl,rfl,trivial⟩ (s0d hlist (s0n w)).1 ?_
  refine sq (rg (a_ rfl rfl (en (nx (sq (sq (rg (a_ rfl rfl (en (nx (bk ?_)))))))))))
  refine lp (σ:=Nat) (fun k : Nat=>[(0,.slice Alist list.length clist),(1,.int .i64 id),(5,.int .i64 ((k : Nat) : Int))])
      (fun k : Nat=>[dat (Kd.sl kPairS) [.slice Alist list.length clist] list ([]) slist_])
      (fun k : Nat=>k ≤ list.length ∧ ∀ j x,j < k → list[j]? = some x → (x.id == id) = false) (fun k : Nat=>list.length - k) 0 [0] ⟨Nat.zero_le _,by simp⟩ ⟨rfl,rfl,rfl,trivial⟩ rfl ?_
  intro k hp_
  obtain ⟨hk,hinv⟩:=hp_
  refine sq (sq (rg (m_ rfl rfl (m_ rfl rfl (vl (ln rfl rfl rfl) rfl (vl (cm rfl rfl rfl rfl) rfl (en (nx ?_))))))))
  by_cases h1 : ((k : Nat) : Int) < ((list.length : Nat) : Int)
  · refine ct rfl (decide_eq_true h1) (sk (nx (sq (bk (sq (rg (m_ rfl rfl (m_ rfl rfl ?_))))))))
    refine gx 0 k rfl (by omega) fun y7 p2 cs_ s3 w6 m8 e4 r5 us3=>?_
    obtain ⟨A9,c10,A11,c12,rfl⟩:=kPairS_sh r5
    refine vl (ix k e4 rfl rfl rfl rfl rfl (by omega)) rfl (vl (fa rfl rfl rfl) rfl (vl (ldp (u:=.int .i64 y7.id) 0 rfl rfl rfl rfl rfl rfl rfl) rfl (m_ rfl rfl (vl (cm rfl rfl rfl rfl) rfl (en (nx ?_))))))
    by_cases h13 : y7.id = id
    · refine ct rfl (beq_iff_eq.2 h13) (sq (rg (m_ rfl rfl (a_ rfl rfl (en (nx (rt (xrb (xr (xr (xrb (xr (ret1 rfl rfl (fun w_ hs_=>⟨?_,hs_.below⟩))))))))))))))
      rw [idx_some (p:=(fun (x0 : Pair)=>x0.id == id)) hinv m8 (beq_iff_eq.2 h13)]
    · exact cf rfl (beq_eq_false_iff_ne.2 h13) (sk (xn (nx (rg (m_ rfl rfl (vl (ra (c:=((k + 1 : Nat) : Int)) rfl rfl rfl (by omega) (by omega) (by omega)) rfl (a_ rfl rfl (en (lpe (s:=k) (k + 1) [1] ⟨by omega,idx_step (p:=(fun (x0 : Pair)=>x0.id == id)) hinv m8 (beq_eq_false_iff_ne.2 h13)⟩ (by omega) ⟨rfl,rfl,rfl,trivial⟩ rfl)))))))))
  · refine cf rfl (decide_eq_false h1) (xt (xq (xq (xb (nx (sq (rg (a_ rfl rfl (en (nx (rt (ret1 rfl rfl (fun w_ hs_=>⟨?_,hs_.below⟩)))))))))))))
    rw [idx_none (p:=(fun (x0 : Pair)=>x0.id == id)) hinv (by omega)]
set_option maxRecDepth 20000 in
set_option maxHeartbeats 2000000 in
theorem impl_NodeFault_1 (w : World) {Ae0 : Option Addr} {ce0 : Nat} {Ae1 : Option Addr} {ce1 : Nat} {e : Entry} {se_ : List Nat} (he : kEntryS.Rel w [.slice Ae0 e.rect.low.length ce0,.slice Ae1 e.rect.high.length ce1,.int .i64 e.ref,.int .i64 e.nsn] e [] se_) {An3 : Option Addr} {cn3 : Nat} {n : Node} {sn_ : List Nat} {pn : Addr} (hn : (ptr kNodeS pn [.int .i64 n.level,.int .i64 n.nsn,.int .i64 n.right,.slice An3 n.entries.length cn3] n sn_).P w)  : Calls Tryz.prog 132 #[.agg #[.slice Ae0 e.rect.low.length ce0,.slice Ae1 e.rect.high.length ce1,.int .i64 e.ref,.int .i64 e.nsn],.pointer (some pn)] w (fun e_ w2_=>e_ = .returned (.bool (!isForm n.level e)) ∧ Below w.heap.size w w2_):=by
  refine fnc (X:=X1 9 w) (l:=[(0,.agg #[.slice Ae0 e.rect.low.length ce0,.slice Ae1 e.rect.high.length ce1,.int .i64 e.ref,.int .i64 e.nsn]),(1,.pointer (some pn))]) Tryz.func132 rfl rfl rfl ⟨rfl,rfl,trivial⟩ (s0p hn (s0d he (s0n w))).1 ?_
  refine sq (rg (bx rfl rfl rfl rfl ?_))
  intro b1
  refine a_ rfl rfl (en (nx (sq (rg (vl (fa rfl rfl rfl) rfl (vl (ldp (u:=.int .i64 n.level) 1 rfl rfl rfl rfl rfl rfl rfl) rfl (vl (ldb 0 rfl rfl rfl rfl rfl rfl rfl) rfl (cs_ (v:=.bool (isForm n.level e)) (by kernel_rfl) rfl rfl rfl (fun w_ hs_=>impl_isForm w_ _ (hs_.at 2 rfl)) (vl (nt rfl rfl) rfl (a_ rfl rfl (en (nx (rt (ret1 rfl rfl (fun w_ hs_=>⟨?_,hs_.below⟩)))))))))))))))
  rfl
set_option maxRecDepth 20000 in
set_option maxHeartbeats 2000000 in
theorem impl_NodeFault (w : World) (dims : Int) {An3 : Option Addr} {cn3 : Nat} {n : Node} {sn_ : List Nat} (hn : kNodeS.Rel w [.int .i64 n.level,.int .i64 n.nsn,.int .i64 n.right,.slice An3 n.entries.length cn3] n [] sn_)  : Calls Tryz.prog 79 #[.agg #[.int .i64 n.level,.int .i64 n.nsn,.int .i64 n.right,.slice An3 n.entries.length cn3],.int .i64 dims] w (fun e_ w2_=>e_ = .returned (.int .i64 (nodeFault n dims)) ∧ Below w.heap.size w w2_):=by
  have Ln3:=Kd.sub_len kNodeS_p3_1 hn; have Cn3:=Kd.sub_cap kNodeS_p3_1 hn rfl
  refine fnc (X:=X1 73 w) (l:=[(0,.agg #[.int .i64 n.level,.int .i64 n.nsn,.int .i64 n.right,.slice An3 n.entries.length cn3]),(1,.int .i64 dims)]) Tryz.func79 rfl rfl rfl ⟨rfl,rfl,trivial⟩ (s0d hn (s0n w)).1 ?_
  refine sq (rg (bx rfl rfl rfl rfl ?_))
  intro b1
  refine a_ rfl rfl (en (nx (sq (bk (sq (sq (rg (m_ rfl rfl (cs_ (v:=.bool (isDims dims)) (by kernel_rfl) rfl rfl rfl (fun w_ hs_=>impl_isDims w_ _) (vl (nt rfl rfl) rfl (a_ rfl rfl (en (nx ?_)))))))))))))
  by_cases h2 : isDims dims = true
  · refine cf rfl (not_f h2) (sq (rg (vl (fa rfl rfl rfl) rfl (vl (ldb (u:=.int .i64 n.level) 0 rfl rfl rfl rfl rfl rfl rfl) rfl (cs_ (v:=.bool (within n.level 0 6)) (by kernel_rfl) rfl rfl rfl (fun w_ hs_=>impl_within w_ _ _ _) (vl (nt rfl rfl) rfl (a_ rfl rfl (en (nx ?_)))))))))
    by_cases h3 : within n.level 0 6 = true
    · refine cf rfl (not_f h3) (sq (rg (vl (fa rfl rfl rfl) rfl (vl (ldb (u:=.int .i64 n.nsn) 0 rfl rfl rfl rfl rfl rfl rfl) rfl (cs_ (v:=.bool (within n.nsn 0 100000)) (by kernel_rfl) rfl rfl rfl (fun w_ hs_=>impl_isNsn w_ _) (vl (nt rfl rfl) rfl (a_ rfl rfl (en (nx ?_)))))))))
      by_cases h4 : within n.nsn 0 100000 = true
      · refine cf rfl (not_f h4) (rg (vl (fa rfl rfl rfl) rfl (vl (ldb (u:=.int .i64 n.right) 0 rfl rfl rfl rfl rfl rfl rfl) rfl (cs_ (v:=.bool (within n.right (-1) 39)) (by kernel_rfl) rfl rfl rfl (fun w_ hs_=>impl_within w_ _ _ _) (vl (nt rfl rfl) rfl (a_ rfl rfl (en (nx ?_))))))))
        by_cases h5 : within n.right (-1) 39 = true
        · refine cf rfl (not_f h5) (sq (rg (vl (fa rfl rfl rfl) rfl (vl (ldb (u:=.slice An3 n.entries.length cn3) 0 rfl rfl rfl rfl rfl rfl rfl) rfl (vl (ln rfl rfl rfl) rfl (vl (cm rfl rfl rfl rfl) rfl (a_ rfl rfl (en (nx ?_)))))))))
          by_cases h6 : (5 : Int) < ((n.entries.length : Nat) : Int)
          · refine ct rfl (decide_eq_true h6) (sq (rg (a_ rfl rfl (en (nx (rt (xrb (xr (ret1 rfl rfl (fun w_ hs_=>⟨?_,hs_.below⟩))))))))))
            exact ri (by grind [nodeFault,isDims])
          · refine cf rfl (decide_eq_false h6) (sk (xn (nx (sq (sq (rg (vl (fa rfl rfl rfl) rfl (vl (ldb (u:=.slice An3 n.entries.length cn3) 0 rfl rfl rfl rfl rfl rfl rfl) rfl (vl (ln rfl rfl rfl) rfl (m_ rfl rfl (en (nx (bk ?_)))))))))))))
            refine lp (σ:=Nat) (fun k : Nat=>[(1,.int .i64 dims),(2,.pointer (some ⟨b1,0,none⟩)),(33,.slice An3 n.entries.length cn3),(34,.int .i64 ((n.entries.length : Nat) : Int)),(35,.int .i64 ((k : Nat) : Int))])
                (fun k : Nat=>[blk b1 [.int .i64 n.level,.int .i64 n.nsn,.int .i64 n.right,.slice An3 n.entries.length cn3] 107,dat kNodeS [.int .i64 n.level,.int .i64 n.nsn,.int .i64 n.right,.slice An3 n.entries.length cn3] n ([]) sn_])
                (fun k : Nat=>k ≤ n.entries.length ∧ ∀ j x,j < k → n.entries[j]? = some x → entryFault x dims = 0) (fun k : Nat=>n.entries.length - k) 0 [0,0] ⟨Nat.zero_le _,by simp⟩ ⟨rfl,rfl,rfl,rfl,rfl,trivial⟩ rfl ?_
            intro k hp_
            obtain ⟨hk,hinv⟩:=hp_
            refine sq (rg (vl (cm rfl rfl rfl rfl) rfl (en (nx (sq ?_)))))
            by_cases h7 : ((k : Nat) : Int) < ((n.entries.length : Nat) : Int)
            · refine ct rfl (decide_eq_true h7) (sk (nx (sq (bk (sq (rg ?_))))))
              refine gd 1 kNodeS_p3_1 rfl (cs':=[.slice An3 n.entries.length cn3]) rfl fun s8 w_ rs8 us8=>?_
              have Ls8:=Kd.sl_len rs8; have Cs8:=Kd.sl_cap rs8
              refine gx 0 k rfl (by omega) fun y14 p9 cs_ s10 w13 m15 e11 r12 us10=>?_
              obtain ⟨A16,c17,A18,c19,rfl⟩:=kEntryS_sh r12
              refine vl (ix k e11 rfl rfl rfl rfl rfl (by omega)) rfl (vl (ldq 0 rfl rfl rfl rfl rfl rfl rfl) rfl (al zero132 rfl rfl rfl ?_))
              intro b20
              refine sto rfl rfl rfl rfl rfl rfl rfl (cs':=[.slice A16 y14.rect.low.length c17,.slice A18 y14.rect.high.length c19,.int .i64 y14.ref,.int .i64 y14.nsn]) rfl (en (nx (sq (sq (rg (vl (fa rfl rfl rfl) rfl (vl (ldb 0 rfl rfl rfl rfl rfl rfl rfl) rfl (m_ rfl rfl ?_))))))))
              refine gp 1 kEntryS_p0_2 rfl (cs':=[.slice A16 y14.rect.low.length c17,.slice A18 y14.rect.high.length c19]) rfl fun s21 w_ rs21 us21=>?_
              refine cs_ (v:=.int .i64 (rectFault y14.rect dims)) (by kernel_rfl) rfl rfl rfl (fun w_ hs_=>impl_RectFault w_ _ (hs_.at 0 rfl)) (a_ rfl rfl (en (nx (sq (rg (m_ rfl rfl (vl (cm rfl rfl rfl rfl) rfl (en (nx ?_)))))))))
              by_cases h22 : (rectFault y14.rect dims) = (0 : Int)
              · refine cf rfl (bne_eq_false_iff_eq.2 h22) (sk (nx (sq (rg (vl (ldb 1 rfl rfl rfl rfl rfl rfl rfl) rfl ?_)))))
                refine gp 2 Kd.Sub.rfl rfl (cs':=[.slice A16 y14.rect.low.length c17,.slice A18 y14.rect.high.length c19,.int .i64 y14.ref,.int .i64 y14.nsn]) rfl fun s23 w_ rs23 us23=>?_
                refine cs_ (v:=.int .i64 (entryRange y14)) (by kernel_rfl) rfl rfl rfl (fun w_ hs_=>impl_entryRange w_ (hs_.at 0 rfl)) (a_ rfl rfl (en (nx (sq (rg (m_ rfl rfl (vl (cm rfl rfl rfl rfl) rfl (en (nx ?_)))))))))
                by_cases h24 : (entryRange y14) = (0 : Int)
                · exact cf rfl (bne_eq_false_iff_eq.2 h24) (sk (xn (nx (rg (vl (ra (c:=((k + 1 : Nat) : Int)) rfl rfl rfl (by omega) (by omega) (by omega)) rfl (m_ rfl rfl (en (lpe (s:=k) (k + 1) [5,5] ⟨by omega,zero_step (f:=fun e=>entryFault e dims) hinv m15 (by grind [entryFault,entryRange])⟩ (by omega) ⟨rfl,rfl,rfl,rfl,rfl,trivial⟩ rfl))))))))
                · refine ct rfl (bne_iff_ne.2 h24) (sq (rg (m_ rfl rfl (a_ rfl rfl (en (nx (rt (xrb (xr (xr (xrb (xr (ret1 rfl rfl (fun w_ hs_=>⟨?_,hs_.below⟩))))))))))))))
                  exact ri (by have z:=firstFault_at (f:=fun e=>entryFault e dims) hinv m15 (by grind [entryFault,entryRange]); grind [nodeFault,entryFault,entryRange,isDims])
              · refine ct rfl (bne_iff_ne.2 h22) (sq (rg (m_ rfl rfl (a_ rfl rfl (en (nx (rt (xr (xrb (xr (xr (xrb (xr (ret1 rfl rfl (fun w_ hs_=>⟨?_,hs_.below⟩)))))))))))))))
                exact ri (by have z:=firstFault_at (f:=fun e=>entryFault e dims) hinv m15 (by grind [entryFault,entryRange]); grind [nodeFault,entryFault,entryRange,isDims])
            · refine cf rfl (decide_eq_false h7) (xt (xq (xq (xb (nx (sq (sq (rg (vl (fa rfl rfl rfl) rfl (vl (ldb (u:=.slice An3 n.entries.length cn3) 0 rfl rfl rfl rfl rfl rfl rfl) rfl (vl (mf rfl rfl rfl) rfl ?_)))))))))))
              refine gd 1 kNodeS_p3_1 rfl (cs':=[.slice An3 n.entries.length cn3]) rfl fun s25 w_ rs25 us25=>?_
              have Ls25:=Kd.sl_len rs25; have Cs25:=Kd.sl_cap rs25
              refine cs_ (v:=.bool (List.any n.entries (fun (x0 : Entry)=>!isForm n.level x0))) (by kernel_rfl) rfl rfl rfl (fun w_ hs_=>slices_ContainsFunc_impl_Entry_impl_Entry w_ (fun (x0 : Entry)=>!isForm n.level x0) (by kernel_rfl) (hs_.at 0 rfl) (fun w1 x0 m0_ b_ _ _ _ _ _ r0_=>impl_NodeFault_1 w1  r0_ (ptr_blk ((hs_.step b_).at 1 rfl) ((hs_.step b_).at 2 rfl) rfl))) (en (nx ?_))
              by_cases h26 : List.any n.entries (fun (x0 : Entry)=>!isForm n.level x0) = true
              · refine ct rfl h26 (sq (rg (a_ rfl rfl (en (nx (rt (xr (ret1 rfl rfl (fun w_ hs_=>⟨?_,hs_.below⟩)))))))))
                exact ri (by have z:=firstFault_0 (f:=fun e=>entryFault e dims) hinv (by omega); grind [nodeFault,isDims])
              · refine cf rfl (Bool.eq_false_iff.2 h26) (sk (nx (sq (sq (rg (vl (fa rfl rfl rfl) rfl (vl (ldb (u:=.slice An3 n.entries.length cn3) 1 rfl rfl rfl rfl rfl rfl rfl) rfl (vl (ln rfl rfl rfl) rfl (m_ rfl rfl (en (nx (bk ?_))))))))))))
                refine lp (σ:=Nat) (fun k2 : Nat=>[(2,.pointer (some ⟨b1,0,none⟩)),(57,.slice An3 n.entries.length cn3),(58,.int .i64 ((n.entries.length : Nat) : Int)),(59,.int .i64 ((k2 : Nat) : Int))])
                    (fun k2 : Nat=>[dat (Kd.sl kEntryS) [.slice An3 n.entries.length cn3] n.entries ([]) s25,blk b1 [.int .i64 n.level,.int .i64 n.nsn,.int .i64 n.right,.slice An3 n.entries.length cn3] 107,dat kNodeS [.int .i64 n.level,.int .i64 n.nsn,.int .i64 n.right,.slice An3 n.entries.length cn3] n ([]) sn_])
                    (fun k2 : Nat=>k2 ≤ n.entries.length ∧ Uniq Entry.ref (n.entries.take k2)) (fun k2 : Nat=>n.entries.length - k2) 0 [0,0,0] ⟨Nat.zero_le _,by simpa using Uniq.nil⟩ ⟨rfl,rfl,rfl,rfl,trivial⟩ rfl ?_
                intro k2 hp_
                obtain ⟨hk2,hinv2⟩:=hp_
                refine sq (rg (vl (cm rfl rfl rfl rfl) rfl (en (nx (sq ?_)))))
                by_cases h27 : ((k2 : Nat) : Int) < ((n.entries.length : Nat) : Int)
                · refine ct rfl (decide_eq_true h27) (sk (nx (sq (bk (sq (rg (m_ rfl rfl ?_)))))))
                  refine gx 0 k2 rfl (by omega) fun y33 p28 cs_ s29 w32 m34 e30 r31 us29=>?_
                  obtain ⟨A35,c36,A37,c38,rfl⟩:=kEntryS_sh r31
                  refine vl (ix k2 e30 rfl rfl rfl rfl rfl (by omega)) rfl (vl (ldq 0 rfl rfl rfl rfl rfl rfl rfl) rfl (al zero132 rfl rfl rfl ?_))
                  intro b39
                  refine a_ rfl rfl (sto rfl rfl rfl rfl rfl rfl rfl (cs':=[.slice A35 y33.rect.low.length c36,.slice A37 y33.rect.high.length c38,.int .i64 y33.ref,.int .i64 y33.nsn]) rfl (en (nx (sq ?_))))
                  refine gct 2 k2 rfl (by omega) fun s40 w_ rs40 us40=>?_
                  have Ls40:=Kd.sl_len rs40
                  refine r0 (qv 0 rfl (fa rfl rfl rfl) rfl (by kernel_rfl) (qv 1 rfl (ldb (u:=.slice An3 n.entries.length cn3) 4 rfl rfl rfl rfl rfl rfl rfl) rfl (by kernel_rfl) (qv 2 rfl (mv rfl rfl) rfl (by kernel_rfl) (qv 3 rfl (evr (v':=.slice An3 ((n.entries.take k2).length) cn3) (shi (i:=k2) rfl rfl rfl rfl rfl (by omega)) (sl_eq (by first | (simp; done) | (simp; omega)))) rfl (by kernel_rfl) (qv 4 rfl (fa rfl rfl rfl) rfl (by kernel_rfl) (qv 5 rfl (ldb (u:=.int .i64 y33.ref) 1 rfl rfl rfl rfl rfl rfl rfl) rfl (by kernel_rfl) (q1 6 [0,0,0,0,0,0] rfl (by kernel_rfl) rfl (cs_ (v:=.int .i64 (idx (fun (x0 : Entry)=>x0.ref == y33.ref) (n.entries.take k2))) (by kernel_rfl) rfl rfl rfl (fun w_ hs_=>by exact impl_entryAt w_ _ (hs_.at 0 rfl)) (qn (qv 7 rfl (cm rfl rfl rfl rfl) rfl (by kernel_rfl) (qe [0,0,0,0,0,0] (by kernel_rfl) rfl (nx ?_))))))))))))
                  by_cases h41 : (0 : Int) ≤ (idx (fun (x0 : Entry)=>x0.ref == y33.ref) (n.entries.take k2))
                  · refine ct rfl (decide_eq_true h41) (sq (rg (a_ rfl rfl (en (nx (rt (xrb (xr (xr (xrb (xr (ret1 rfl rfl (fun w_ hs_=>⟨?_,hs_.below⟩)))))))))))))
                    exact ri (by have z:=firstFault_0 (f:=fun e=>entryFault e dims) hinv (by omega); have y:=uniq_no (f:=Entry.ref) m34 h41; grind [nodeFault,isDims])
                  · exact cf rfl (decide_eq_false h41) (sk (xn (nx (rg (vl (ra (c:=((k2 + 1 : Nat) : Int)) rfl rfl rfl (by omega) (by omega) (by omega)) rfl (m_ rfl rfl (en (lpe (s:=k2) (k2 + 1) [3,3,3] ⟨by omega,uniq_step hinv2 m34 h41⟩ (by omega) ⟨rfl,rfl,rfl,rfl,trivial⟩ rfl))))))))
                · refine cf rfl (decide_eq_false h27) (xt (xq (xq (xb (nx (sq (rg (a_ rfl rfl (en (nx (rt (ret1 rfl rfl (fun w_ hs_=>⟨?_,hs_.below⟩)))))))))))))
                  exact ri (by have z:=firstFault_0 (f:=fun e=>entryFault e dims) hinv (by omega); have y:=uniq_end hinv2 (by omega); grind [nodeFault,isDims])
        · refine ct rfl (not_t (Bool.eq_false_iff.2 h5)) (sq (rg (a_ rfl rfl (en (nx (rt (xrb (xr (ret1 rfl rfl (fun w_ hs_=>⟨?_,hs_.below⟩))))))))))
          exact ri (by grind [nodeFault,isDims])
      · refine ct rfl (not_t (Bool.eq_false_iff.2 h4)) (sk (nx (ct rfl (not_t (Bool.eq_false_iff.2 h4)) (sq (rg (a_ rfl rfl (en (nx (rt (xrb (xr (ret1 rfl rfl (fun w_ hs_=>⟨?_,hs_.below⟩)))))))))))))
        exact ri (by grind [nodeFault,isDims])
    · refine ct rfl (not_t (Bool.eq_false_iff.2 h3)) (sk (nx (ct rfl (not_t (Bool.eq_false_iff.2 h3)) (sq (rg (a_ rfl rfl (en (nx (rt (xrb (xr (ret1 rfl rfl (fun w_ hs_=>⟨?_,hs_.below⟩)))))))))))))
      exact ri (by grind [nodeFault,isDims])
  · refine ct rfl (not_t (Bool.eq_false_iff.2 h2)) (sk (nx (ct rfl (not_t (Bool.eq_false_iff.2 h2)) (sq (rg (a_ rfl rfl (en (nx (rt (xrb (xr (ret1 rfl rfl (fun w_ hs_=>⟨?_,hs_.below⟩)))))))))))))
    exact ri (by grind [nodeFault,isDims])
set_option maxRecDepth 20000 in
set_option maxHeartbeats 2000000 in
theorem spec_NodeFault (w : World) (dims : Int) {An3 : Option Addr} {cn3 : Nat} {n : Node} {sn_ : List Nat} (hn : kNodeS.Rel w [.int .i64 n.level,.int .i64 n.nsn,.int .i64 n.right,.slice An3 n.entries.length cn3] n [] sn_)  : Calls Tryz.prog 57 #[.agg #[.int .i64 n.level,.int .i64 n.nsn,.int .i64 n.right,.slice An3 n.entries.length cn3],.int .i64 dims] w (fun e_ w2_=>e_ = .returned (.int .i64 (nodeFault n dims)) ∧ Below w.heap.size w w2_):=by
  have Ln3:=Kd.sub_len kNodeS_p3_1 hn; have Cn3:=Kd.sub_cap kNodeS_p3_1 hn rfl
  refine fnc (X:=X1 83 w) (l:=[(0,.agg #[.int .i64 n.level,.int .i64 n.nsn,.int .i64 n.right,.slice An3 n.entries.length cn3]),(1,.int .i64 dims)]) Tryz.func57 rfl rfl rfl ⟨rfl,rfl,trivial⟩ (s0d hn (s0n w)).1 ?_
  refine sq (rg (bx rfl rfl rfl rfl ?_))
  intro b1
  refine a_ rfl rfl (en (nx (sq (sq (rg (m_ rfl rfl (cs_ (v:=.bool (within dims 2 3)) (by kernel_rfl) rfl rfl rfl (fun w_ hs_=>spec_l1In w_ _ _ _) (vl (nt rfl rfl) rfl (m_ rfl rfl ?_)))))))))
  by_cases h2 : within dims 2 3 = true
  · refine vg (fa rfl rfl rfl) rfl rfl (not_f h2) (vg (ldb (u:=.int .i64 n.level) 0 rfl rfl rfl rfl rfl rfl rfl) rfl rfl (not_f h2) (gw rfl rfl (not_f h2) (cs_ (v:=.bool (within n.level 0 6)) (by kernel_rfl) rfl rfl rfl (fun w_ hs_=>spec_l1In w_ _ _ _) (vg (nt rfl rfl) rfl rfl (not_f h2) (vl (pk (b:=false) rfl rfl (not_f h2) rfl) rfl (m_ rfl rfl ?_))))))
    by_cases h3 : within n.level 0 6 = true
    · refine vg (fa rfl rfl rfl) rfl rfl (not_f h3) (vg (ldb (u:=.int .i64 n.nsn) 0 rfl rfl rfl rfl rfl rfl rfl) rfl rfl (not_f h3) (gw rfl rfl (not_f h3) (cs_ (v:=.bool (within n.nsn 0 100000)) (by kernel_rfl) rfl rfl rfl (fun w_ hs_=>spec_l1In w_ _ _ _) (vg (nt rfl rfl) rfl rfl (not_f h3) (vl (pk (b:=false) rfl rfl (not_f h3) rfl) rfl (m_ rfl rfl ?_))))))
      by_cases h4 : within n.nsn 0 100000 = true
      · refine vg (fa rfl rfl rfl) rfl rfl (not_f h4) (vg (ldb (u:=.int .i64 n.right) 0 rfl rfl rfl rfl rfl rfl rfl) rfl rfl (not_f h4) (gw rfl rfl (not_f h4) (cs_ (v:=.bool (within n.right (-1) 39)) (by kernel_rfl) rfl rfl rfl (fun w_ hs_=>spec_l1In w_ _ _ _) (vg (nt rfl rfl) rfl rfl (not_f h4) (vl (pk (b:=false) rfl rfl (not_f h4) rfl) rfl (en (nx ?_)))))))
        by_cases h5 : within n.right (-1) 39 = true
        · refine cf rfl (not_f h5) (sk (nx (sq (sq (rg (vl (fa rfl rfl rfl) rfl (vl (ldb (u:=.slice An3 n.entries.length cn3) 0 rfl rfl rfl rfl rfl rfl rfl) rfl (vl (ln rfl rfl rfl) rfl (vl (cm rfl rfl rfl rfl) rfl (en (nx ?_)))))))))))
          by_cases h6 : (5 : Int) < ((n.entries.length : Nat) : Int)
          · refine ct rfl (decide_eq_true h6) (sq (rg (a_ rfl rfl (en (nx (rt (xr (ret1 rfl rfl (fun w_ hs_=>⟨?_,hs_.below⟩)))))))))
            exact ri (by grind [nodeFault,isDims])
          · refine cf rfl (decide_eq_false h6) (sk (nx (sq (sq (rg (a_ rfl rfl (en (nx (bk ?_)))))))))
            refine lp (σ:=Nat) (fun k : Nat=>[(1,.int .i64 dims),(2,.pointer (some ⟨b1,0,none⟩)),(5,.int .i64 ((k : Nat) : Int))])
                (fun k : Nat=>[blk b1 [.int .i64 n.level,.int .i64 n.nsn,.int .i64 n.right,.slice An3 n.entries.length cn3] 107,dat kNodeS [.int .i64 n.level,.int .i64 n.nsn,.int .i64 n.right,.slice An3 n.entries.length cn3] n ([]) sn_])
                (fun k : Nat=>k ≤ n.entries.length ∧ ∀ j x,j < k → n.entries[j]? = some x → entryFault x dims = 0) (fun k : Nat=>n.entries.length - k) 0 [0,0] ⟨Nat.zero_le _,by simp⟩ ⟨rfl,rfl,rfl,trivial⟩ rfl ?_
            intro k hp_
            obtain ⟨hk,hinv⟩:=hp_
            refine sq (sq (rg (m_ rfl rfl (vl (fa rfl rfl rfl) rfl (vl (ldb (u:=.slice An3 n.entries.length cn3) 0 rfl rfl rfl rfl rfl rfl rfl) rfl (vl (ln rfl rfl rfl) rfl (vl (cm rfl rfl rfl rfl) rfl (en (nx ?_)))))))))
            by_cases h7 : ((k : Nat) : Int) < ((n.entries.length : Nat) : Int)
            · refine ct rfl (decide_eq_true h7) (sk (nx (sq (bk (sq (rg (vl (fa rfl rfl rfl) rfl (vl (ldb (u:=.slice An3 n.entries.length cn3) 0 rfl rfl rfl rfl rfl rfl rfl) rfl (m_ rfl rfl ?_)))))))))
              refine gd 1 kNodeS_p3_1 rfl (cs':=[.slice An3 n.entries.length cn3]) rfl fun s8 w_ rs8 us8=>?_
              have Ls8:=Kd.sl_len rs8; have Cs8:=Kd.sl_cap rs8
              refine gx 0 k rfl (by omega) fun y14 p9 cs_ s10 w13 m15 e11 r12 us10=>?_
              obtain ⟨A16,c17,A18,c19,rfl⟩:=kEntryS_sh r12
              refine vl (ix k e11 rfl rfl rfl rfl rfl (by omega)) rfl (m_ rfl rfl (cs_ (v:=.int .i64 (entryFault y14 dims)) (by kernel_rfl) rfl rfl rfl (fun w_ hs_=>spec_l3Entry w_ _ (hs_.at 0 rfl)) (a_ rfl rfl (en (nx (sq (rg (m_ rfl rfl (vl (cm rfl rfl rfl rfl) rfl (en (nx ?_)))))))))))
              by_cases h20 : (entryFault y14 dims) = (0 : Int)
              · exact cf rfl (bne_eq_false_iff_eq.2 h20) (sk (xn (nx (rg (m_ rfl rfl (vl (ra (c:=((k + 1 : Nat) : Int)) rfl rfl rfl (by omega) (by omega) (by omega)) rfl (a_ rfl rfl (en (lpe (s:=k) (k + 1) [2,2] ⟨by omega,zero_step (f:=fun e=>entryFault e dims) hinv m15 (by grind [entryFault,entryRange])⟩ (by omega) ⟨rfl,rfl,rfl,trivial⟩ rfl)))))))))
              · refine ct rfl (bne_iff_ne.2 h20) (sq (rg (m_ rfl rfl (a_ rfl rfl (en (nx (rt (xrb (xr (xr (xrb (xr (ret1 rfl rfl (fun w_ hs_=>⟨?_,hs_.below⟩))))))))))))))
                exact ri (by have z:=firstFault_at (f:=fun e=>entryFault e dims) hinv m15 (by grind [entryFault,entryRange]); grind [nodeFault,entryFault,entryRange,isDims])
            · refine cf rfl (decide_eq_false h7) (xt (xq (xq (xb (nx (sq (sq (rg (a_ rfl rfl (en (nx (bk ?_))))))))))))
              refine lp (σ:=Nat) (fun k2 : Nat=>[(2,.pointer (some ⟨b1,0,none⟩)),(7,.int .i64 ((k2 : Nat) : Int))])
                  (fun k2 : Nat=>[blk b1 [.int .i64 n.level,.int .i64 n.nsn,.int .i64 n.right,.slice An3 n.entries.length cn3] 107,dat kNodeS [.int .i64 n.level,.int .i64 n.nsn,.int .i64 n.right,.slice An3 n.entries.length cn3] n ([]) sn_])
                  (fun k2 : Nat=>k2 ≤ n.entries.length ∧ ∀ j x,j < k2 → n.entries[j]? = some x → (!isForm n.level x) = false) (fun k2 : Nat=>n.entries.length - k2) 0 [0,0] ⟨Nat.zero_le _,by simp⟩ ⟨rfl,rfl,trivial⟩ rfl ?_
              intro k2 hp_
              obtain ⟨hk2,hinv2⟩:=hp_
              refine sq (sq (rg (m_ rfl rfl (vl (fa rfl rfl rfl) rfl (vl (ldb (u:=.slice An3 n.entries.length cn3) 0 rfl rfl rfl rfl rfl rfl rfl) rfl (vl (ln rfl rfl rfl) rfl (vl (cm rfl rfl rfl rfl) rfl (en (nx ?_)))))))))
              by_cases h21 : ((k2 : Nat) : Int) < ((n.entries.length : Nat) : Int)
              · refine ct rfl (decide_eq_true h21) (sk (nx (sq (bk (sq ?_)))))
                refine gd 1 kNodeS_p3_1 rfl (cs':=[.slice An3 n.entries.length cn3]) rfl fun s22 w_ rs22 us22=>?_
                have Ls22:=Kd.sl_len rs22; have Cs22:=Kd.sl_cap rs22
                refine gx 0 k2 rfl (by omega) fun y28 p23 cs_ s24 w27 m29 e25 r26 us24=>?_
                obtain ⟨A30,c31,A32,c33,rfl⟩:=kEntryS_sh r26
                refine r0 (qv 0 rfl (fa rfl rfl rfl) rfl (by kernel_rfl) (qv 1 rfl (ldb (u:=.int .i64 n.level) 2 rfl rfl rfl rfl rfl rfl rfl) rfl (by kernel_rfl) (qv 2 rfl (fa rfl rfl rfl) rfl (by kernel_rfl) (qv 3 rfl (ldb (u:=.slice An3 n.entries.length cn3) 2 rfl rfl rfl rfl rfl rfl rfl) rfl (by kernel_rfl) (qv 4 rfl (mv rfl rfl) rfl (by kernel_rfl) (qv 5 rfl (ix k2 e25 rfl rfl rfl rfl rfl (by omega)) rfl (by kernel_rfl) (q1 6 [0,0,0,0] rfl (by kernel_rfl) rfl (cs_ (v:=.bool (isForm n.level y28)) (by kernel_rfl) rfl rfl rfl (fun w_ hs_=>by exact spec_l3Fits w_ _ (hs_.at 0 rfl)) (qn (qv 7 rfl (nt rfl rfl) rfl (by kernel_rfl) (qe [0,0,0,0] (by kernel_rfl) rfl (nx ?_))))))))))))
                by_cases h34 : isForm n.level y28 = true
                · exact cf rfl (not_f h34) (sk (xn (nx (rg (m_ rfl rfl (vl (ra (c:=((k2 + 1 : Nat) : Int)) rfl rfl rfl (by omega) (by omega) (by omega)) rfl (a_ rfl rfl (en (lpe (s:=k2) (k2 + 1) [2,2] ⟨by omega,idx_step (p:=fun e=>!isForm n.level e) hinv2 m29 (not_f h34)⟩ (by omega) ⟨rfl,rfl,trivial⟩ rfl)))))))))
                · refine ct rfl (not_t (Bool.eq_false_iff.2 h34)) (sq (rg (a_ rfl rfl (en (nx (rt (xrb (xr (xr (xrb (xr (ret1 rfl rfl (fun w_ hs_=>⟨?_,hs_.below⟩)))))))))))))
                  exact ri (by have z:=firstFault_0 (f:=fun e=>entryFault e dims) hinv (by omega); have q:=any_some (p:=fun e=>!isForm n.level e) m29 (not_t (Bool.eq_false_iff.2 h34)); grind [nodeFault,isDims])
              · refine cf rfl (decide_eq_false h21) (xt (xq (xq (xb (nx (sq (sq (rg (a_ rfl rfl (en (nx (bk ?_))))))))))))
                refine lp (σ:=Nat) (fun k3 : Nat=>[(2,.pointer (some ⟨b1,0,none⟩)),(8,.int .i64 ((k3 : Nat) : Int))])
                    (fun k3 : Nat=>[blk b1 [.int .i64 n.level,.int .i64 n.nsn,.int .i64 n.right,.slice An3 n.entries.length cn3] 107,dat kNodeS [.int .i64 n.level,.int .i64 n.nsn,.int .i64 n.right,.slice An3 n.entries.length cn3] n ([]) sn_])
                    (fun k3 : Nat=>k3 ≤ n.entries.length ∧ Uniq Entry.ref (n.entries.take k3)) (fun k3 : Nat=>n.entries.length - k3) 0 [0,0] ⟨Nat.zero_le _,by simpa using Uniq.nil⟩ ⟨rfl,rfl,trivial⟩ rfl ?_
                intro k3 hp_
                obtain ⟨hk3,hinv3⟩:=hp_
                refine sq (sq (rg (m_ rfl rfl (vl (fa rfl rfl rfl) rfl (vl (ldb (u:=.slice An3 n.entries.length cn3) 0 rfl rfl rfl rfl rfl rfl rfl) rfl (vl (ln rfl rfl rfl) rfl (vl (cm rfl rfl rfl rfl) rfl (en (nx ?_)))))))))
                by_cases h35 : ((k3 : Nat) : Int) < ((n.entries.length : Nat) : Int)
                · refine ct rfl (decide_eq_true h35) (sk (nx (sq (bk (sq ?_)))))
                  refine gd 1 kNodeS_p3_1 rfl (cs':=[.slice An3 n.entries.length cn3]) rfl fun s36 w_ rs36 us36=>?_
                  have Ls36:=Kd.sl_len rs36; have Cs36:=Kd.sl_cap rs36
                  refine gx 0 k3 rfl (by omega) fun y42 p37 cs_ s38 w41 m43 e39 r40 us38=>?_
                  obtain ⟨A44,c45,A46,c47,rfl⟩:=kEntryS_sh r40
                  refine r0 (qv 0 rfl (fa rfl rfl rfl) rfl (by kernel_rfl) (qv 1 rfl (ldb (u:=.slice An3 n.entries.length cn3) 2 rfl rfl rfl rfl rfl rfl rfl) rfl (by kernel_rfl) (qv 2 rfl (fa rfl rfl rfl) rfl (by kernel_rfl) (qv 3 rfl (ldb (u:=.slice An3 n.entries.length cn3) 2 rfl rfl rfl rfl rfl rfl rfl) rfl (by kernel_rfl) (qv 4 rfl (mv rfl rfl) rfl (by kernel_rfl) (qv 5 rfl (ix k3 e39 rfl rfl rfl rfl rfl (by omega)) rfl (by kernel_rfl) (qv 6 rfl (fa rfl rfl rfl) rfl (by kernel_rfl) (qv 7 rfl (ldp (u:=.int .i64 y42.ref) 0 rfl rfl rfl rfl rfl rfl rfl) rfl (by kernel_rfl) (qv 9 rfl (mv rfl rfl) rfl (by kernel_rfl) (q1 8 [0,0,0,0] rfl (by kernel_rfl) rfl (cs_ (v:=.int .i64 (idx (fun (x0 : Entry)=>x0.ref == y42.ref) n.entries)) (by kernel_rfl) rfl rfl rfl (fun w_ hs_=>by exact spec_l3Find w_ _ (hs_.at 1 rfl)) (qn (qv 10 rfl (cm rfl rfl rfl rfl) rfl (by kernel_rfl) (qe [0,0,0,0] (by kernel_rfl) rfl (nx ?_)))))))))))))))
                  by_cases h48 : (idx (fun (x0 : Entry)=>x0.ref == y42.ref) n.entries) = ((k3 : Nat) : Int)
                  · exact cf rfl (bne_eq_false_iff_eq.2 h48) (sk (xn (nx (rg (m_ rfl rfl (vl (ra (c:=((k3 + 1 : Nat) : Int)) rfl rfl rfl (by omega) (by omega) (by omega)) rfl (a_ rfl rfl (en (lpe (s:=k3) (k3 + 1) [2,2] ⟨by omega,uniq_step2 hinv3 m43 h48⟩ (by omega) ⟨rfl,rfl,trivial⟩ rfl)))))))))
                  · refine ct rfl (bne_iff_ne.2 h48) (sq (rg (a_ rfl rfl (en (nx (rt (xrb (xr (xr (xrb (xr (ret1 rfl rfl (fun w_ hs_=>⟨?_,hs_.below⟩)))))))))))))
                    exact ri (by have z:=firstFault_0 (f:=fun e=>entryFault e dims) hinv (by omega); have y:=uniq_no2 (f:=Entry.ref) m43 h48; have q:=any_none (p:=fun e=>!isForm n.level e) hinv2 (by omega); grind [nodeFault,isDims])
                · refine cf rfl (decide_eq_false h35) (xt (xq (xq (xb (nx (sq (rg (a_ rfl rfl (en (nx (rt (ret1 rfl rfl (fun w_ hs_=>⟨?_,hs_.below⟩)))))))))))))
                  exact ri (by have z:=firstFault_0 (f:=fun e=>entryFault e dims) hinv (by omega); have y:=uniq_end hinv3 (by omega); have q:=any_none (p:=fun e=>!isForm n.level e) hinv2 (by omega); grind [nodeFault,isDims])
        · refine ct rfl (not_t (Bool.eq_false_iff.2 h5)) (sq (rg (a_ rfl rfl (en (nx (rt (xr (ret1 rfl rfl (fun w_ hs_=>⟨?_,hs_.below⟩)))))))))
          exact ri (by grind [nodeFault,isDims])
      · refine sg rfl rfl (not_t (Bool.eq_false_iff.2 h4)) (sg rfl rfl (not_t (Bool.eq_false_iff.2 h4)) (sg rfl rfl (not_t (Bool.eq_false_iff.2 h4)) (sg rfl rfl (not_t (Bool.eq_false_iff.2 h4)) (vl (pk (b:=true) rfl rfl (not_t (Bool.eq_false_iff.2 h4)) rfl) rfl (en (nx (ct rfl rfl (sq (rg (a_ rfl rfl (en (nx (rt (xr (ret1 rfl rfl (fun w_ hs_=>⟨?_,hs_.below⟩))))))))))))))))
        exact ri (by grind [nodeFault,isDims])
    · refine sg rfl rfl (not_t (Bool.eq_false_iff.2 h3)) (sg rfl rfl (not_t (Bool.eq_false_iff.2 h3)) (sg rfl rfl (not_t (Bool.eq_false_iff.2 h3)) (sg rfl rfl (not_t (Bool.eq_false_iff.2 h3)) (vl (pk (b:=true) rfl rfl (not_t (Bool.eq_false_iff.2 h3)) rfl) rfl (m_ rfl rfl (sg rfl rfl rfl (sg rfl rfl rfl (sg rfl rfl rfl (sg rfl rfl rfl (vl (pk (b:=true) rfl rfl rfl rfl) rfl (en (nx (ct rfl rfl (sq (rg (a_ rfl rfl (en (nx (rt (xr (ret1 rfl rfl (fun w_ hs_=>⟨?_,hs_.below⟩))))))))))))))))))))))
      exact ri (by grind [nodeFault,isDims])
  · refine sg rfl rfl (not_t (Bool.eq_false_iff.2 h2)) (sg rfl rfl (not_t (Bool.eq_false_iff.2 h2)) (sg rfl rfl (not_t (Bool.eq_false_iff.2 h2)) (sg rfl rfl (not_t (Bool.eq_false_iff.2 h2)) (vl (pk (b:=true) rfl rfl (not_t (Bool.eq_false_iff.2 h2)) rfl) rfl (m_ rfl rfl (sg rfl rfl rfl (sg rfl rfl rfl (sg rfl rfl rfl (sg rfl rfl rfl (vl (pk (b:=true) rfl rfl rfl rfl) rfl (m_ rfl rfl (sg rfl rfl rfl (sg rfl rfl rfl (sg rfl rfl rfl (sg rfl rfl rfl (vl (pk (b:=true) rfl rfl rfl rfl) rfl (en (nx (ct rfl rfl (sq (rg (a_ rfl rfl (en (nx (rt (xr (ret1 rfl rfl (fun w_ hs_=>⟨?_,hs_.below⟩))))))))))))))))))))))))))))
    exact ri (by grind [nodeFault,isDims])
end Go.Proofs.YtdokhlakakflmaaGreat.Sx
