/- What functions of the program answer, each at every input that its row names; walked through their code. -/
import Derived.Test.YtjdkfibeogiekaaGreatSy0
namespace Go.Proofs.YtjdkfibeogiekaaGreat.Sx
open Go Go.RowKit Go.Proofs
set_option linter.unusedVariables false
set_option linter.unusedSimpArgs false
set_option maxRecDepth 20000
set_option maxHeartbeats 2000000
variable {Ae0 Ae1 Alist An3 As : Option Addr} {ce0 ce1 clist cn3 cs : Nat} {se_ slist_ sn_ ss_ : List Nat} {pe : Addr} {fp : FuncId} {cfp : List Value}
def tab1 : Tab := { size := [(2, 1, false), (24, 1, false), (52, 4, true), (82, 2, true), (102, 4, true), (133, 2, true), (208, 3, true)], off := [((52, 0), 0), ((52, 1), 1), ((52, 2), 2), ((52, 3), 3), ((102, 0), 0), ((102, 1), 2), ((102, 2), 3), ((208, 0), 0)], elem := [(24, 102), (36, 52), (38, 133), (75, 208)] }
theorem tab_ok1 : tab1.check Tryz.prog = true:=by kernel_rfl
noncomputable abbrev X1 (N : Nat) (w : World) : Cx := ⟨Tryz.prog, tab1, tab_ok1, wide, N, w, none, []⟩

def isForm (level : Int) (e : Entry) : Bool := if level = 0 then e.nsn == 0 else decide (e.ref < 40)
def entryFault (e : Entry) (dims : Int) : Int := if rectFault e.rect dims = 0 then if within e.ref 0 999 = true ∧ within e.nsn 0 100000 = true then 0 else 3 else rectFault e.rect dims
def nodeFault (n : Node) (dims : Int) : Int :=
  if isDims dims = true ∧ within n.level 0 6 = true ∧ within n.nsn 0 100000 = true ∧ within n.right (-1) 39 = true then
    if (n.entries.length : Int) ≤ 5 then
      if firstFault (fun e=>entryFault e dims) n.entries = 0 then
        if n.entries.any (fun e=>!isForm n.level e) = true then 1 else if Uniq Entry.ref n.entries then 0 else 6
      else firstFault (fun e=>entryFault e dims) n.entries
    else 2
  else 3
theorem entry_0 {e : Entry} {d : Int} (h : entryFault e d = 0) : rectFault e.rect d = 0 ∧ 0 ≤ e.ref ∧ e.ref ≤ 999 ∧ 0 ≤ e.nsn ∧ e.nsn ≤ 100000:=by
  unfold entryFault at h
  split at h
  · rename_i h1
    split at h
    · rename_i h2
      simp [within] at h2
      exact ⟨h1,by omega,by omega,by omega,by omega⟩
    · simp at h
  · contradiction
theorem rect_0 {r : Rect} {d : Int} (h : rectFault r d = 0) : (r.low.length : Int) = d ∧ (r.high.length : Int) = d:=by
  unfold rectFault at h
  split at h
  · rename_i h1
    split at h
    · rename_i h2
      exact ⟨pointFault_len h1,pointFault_len h2⟩
    · contradiction
  · contradiction
theorem firstFault_all {α : Type} {f : α → Int} : ∀ {l : List α},firstFault f l = 0 → ∀ x ∈ l,f x = 0
  | [],_,_,hx=>by cases hx
  | a :: l,h,x,hx=>by
    have h0 : f a = 0:=by
      by_cases h0 : f a = 0
      · exact h0
      · rw [firstFault,if_neg h0] at h; exact absurd h h0
    rcases List.mem_cons.1 hx with rfl | hx
    · exact h0
    · rw [firstFault,if_pos h0] at h; exact firstFault_all h x hx
theorem node_0 {n : Node} {d : Int} (h : nodeFault n d = 0) : isDims d = true ∧ 0 ≤ n.level ∧ n.level ≤ 6 ∧ n.entries.length ≤ 5 ∧ (∀ e ∈ n.entries,entryFault e d = 0) ∧ Uniq Entry.ref n.entries:=by
  unfold nodeFault at h
  split at h
  · rename_i h1
    split at h
    · split at h
      · rename_i h3
        split at h
        · simp at h
        · split at h
          · have h4:=within_t h1.2.1
            exact ⟨h1.1,h4.1,h4.2,by omega,firstFault_all h3,by assumption⟩
          · simp at h
      · contradiction
    · simp at h
  · simp at h
def watchFault (l : List Int) (least : Int) : Int :=
  if (l.length : Int) < least ∨ 4 < (l.length : Int) then 2 else if l.any (fun n=>!within n 0 3) = true then 3 else if adj (fun a b=>decide (b ≤ a)) l = true then 1 else 0
def emptyNode : Node := ⟨0, 0, -1, []⟩
def nodeAt (a : Arena) (id : Int) : Node := a.nodes.getD id.toNat emptyNode
def isPlace (a : Arena) (id : Int) : Bool := within id 0 ((a.nodes.length : Int) - 1)
def freeFault (a : Arena) : Int :=
  if a.free.any (fun id=>!isPlace a id) = true then 3 else if adj (fun a b=>decide (b ≤ a)) a.free = true ∨ a.free.any (fun id=>!decide (nodeAt a id = emptyNode)) = true then 1 else 0
def retFault (a : Arena) (r : Retired) : Int := if isPlace a r.id = true then watchFault r.watch 1 else 3
def arenaFault (a : Arena) : Int :=
  if isDims a.dims = true then
    if within (a.nodes.length : Int) 4 40 = true then
      if firstFault (fun n=>nodeFault n a.dims) a.nodes = 0 then
        if freeFault a = 0 then
          if firstFault (retFault a) a.retired = 0 then
            if Uniq Retired.id a.retired ∧ a.retired.any (fun r=>decide (r.id ∈ a.free)) = false then 0 else 6
          else firstFault (retFault a) a.retired
        else freeFault a
      else firstFault (fun n=>nodeFault n a.dims) a.nodes
    else 2
  else 3
theorem nodeAt_mem {a : Arena} {id : Int} (h : isPlace a id = true) : nodeAt a id ∈ a.nodes ∧ id.toNat < a.nodes.length ∧ a.nodes[id.toNat]? = some (nodeAt a id):=by
  have h1:=within_t h
  have h2 : id.toNat < a.nodes.length:=by omega
  unfold nodeAt
  rw [List.getD_eq_getElem?_getD,List.getElem?_eq_getElem h2]
  exact ⟨List.getElem_mem h2,h2,rfl⟩
theorem nodeAt_of {a : Arena} {id : Int} {n : Node} (h : a.nodes[id.toNat]? = some n) : nodeAt a id = n:=by
  unfold nodeAt; rw [List.getD_eq_getElem?_getD,h]; rfl
structure Sound (a : Arena) : Prop where
  dims : isDims a.dims = true
  len : 4 ≤ a.nodes.length ∧ a.nodes.length ≤ 40
  node : ∀ n ∈ a.nodes,nodeFault n a.dims = 0
  free : ∀ id ∈ a.free,isPlace a id = true
  emp : ∀ id ∈ a.free,nodeAt a id = emptyNode
  rise : adj (fun a b=>decide (b ≤ a)) a.free = false
  ret : ∀ r ∈ a.retired,isPlace a r.id = true ∧ watchFault r.watch 1 = 0
  once : Uniq Retired.id a.retired
  apart : ∀ r ∈ a.retired,r.id ∉ a.free
theorem free_0 {a : Arena} (h : freeFault a = 0) : (∀ id ∈ a.free,isPlace a id = true) ∧ adj (fun a b=>decide (b ≤ a)) a.free = false ∧ ∀ id ∈ a.free,nodeAt a id = emptyNode:=by
  unfold freeFault at h
  split at h
  · simp at h
  · rename_i h1
    split at h
    · simp at h
    · rename_i h2
      simp only [List.any_eq_true,not_exists,not_or,Bool.not_eq_true',not_and,Bool.not_eq_false,decide_eq_false_iff_not,Classical.not_not] at h1 h2
      exact ⟨fun id hid=>h1 id hid,by simpa using h2.1,fun id hid=>h2.2 id hid⟩
theorem arena_0 {a : Arena} (h : arenaFault a = 0) : Sound a:=by
  unfold arenaFault at h
  split at h
  · rename_i hd
    split at h
    · rename_i hl
      split at h
      · rename_i hn
        split at h
        · rename_i hf
          split at h
          · rename_i hr
            split at h
            · rename_i hu
              have hl':=within_t hl
              have hf':=free_0 hf
              refine ⟨hd,by omega,firstFault_all hn,hf'.1,hf'.2.2,hf'.2.1,fun r hm=>?_,hu.1,fun r hm hx=>?_⟩
              · have h1:=firstFault_all hr r hm
                unfold retFault at h1
                split at h1
                · exact ⟨by assumption,h1⟩
                · simp at h1
              · have:=List.any_eq_false.1 hu.2 r hm
                simp at this; exact this hx
            · simp at h
          · contradiction
        · contradiction
      · contradiction
    · simp at h
  · simp at h
def unionR (a b : Rect) : Rect := ⟨List.zipWith gmin a.low b.low, List.zipWith gmax a.high b.high⟩
def boxFrom (r : Rect) (l : List Entry) : Rect := l.foldl (fun b x => unionR b x.rect) r
def boxOf : List Entry → Rect
  | []=>⟨[],[]⟩
  | e :: r=>boxFrom e.rect r
def Dim (d : Nat) (r : Rect) : Prop := r.low.length = d ∧ r.high.length = d
theorem Dim.union {d : Nat} {a b : Rect} (h : Dim d a) (k : Dim d b) : Dim d (unionR a b):=by
  unfold Dim unionR at *; simp; omega
theorem Dim.from {d : Nat} : ∀ {l : List Entry} {r : Rect},Dim d r → (∀ e ∈ l,Dim d e.rect) → Dim d (boxFrom r l)
  | [],_,h,_=>h
  | e :: l,r,h,k=>Dim.from (l:=l) (h.union (k e (List.mem_cons_self ..))) (fun x hx=>k x (List.mem_cons_of_mem _ hx))
theorem boxFrom_snoc {l : List Entry} {k : Nat} {y : Entry} {r : Rect} (h : l[k]? = some y) : boxFrom r (l.take (k + 1)) = unionR (boxFrom r (l.take k)) y.rect:=by
  unfold boxFrom; rw [take_snoc h,List.foldl_append]; rfl
theorem Sound.dim {a : Arena} (h : Sound a) {n : Node} (hn : n ∈ a.nodes) {e : Entry} (he : e ∈ n.entries) : Dim a.dims.toNat e.rect:=by
  have h1:=rect_0 (entry_0 ((node_0 (h.node n hn)).2.2.2.2.1 e he)).1
  unfold Dim; omega
def isUsed (a : Arena) (id : Int) : Bool := isPlace a id && !decide (id ∈ a.free) && !a.retired.any (fun r => r.id == id)
theorem used_place {a : Arena} {id : Int} (h : isUsed a id = true) : isPlace a id = true:=by
  unfold isUsed at h; simp only [Bool.and_eq_true] at h; exact h.1.1
def counts (t : Tree) (id : Int) (n : Node) : Bool := decide (n.entries.length ≤ 4 ∧ (2 ≤ n.entries.length ∨ (id = t.root ∧ n.level = 0)))
def kidOk (n : Node) (e : Entry) (c : Node) : Bool := c.level == n.level - 1 && c.nsn == e.nsn && !(c.entries.length == 0) && decide (boxOf c.entries = e.rect)
def walkF (t : Tree) : Nat → Int → List Int → Option (List Int)
  | 0,id,met=>if counts t id (nodeAt t.arena id) = true then some (met ++ [id]) else none
  | L + 1,id,met=>if counts t id (nodeAt t.arena id) = true then
      (nodeAt t.arena id).entries.foldlM (fun m e=>if isUsed t.arena e.ref = true ∧ e.ref ∉ m ∧ kidOk (nodeAt t.arena id) e (nodeAt t.arena e.ref) = true then walkF t L e.ref m else none) (met ++ [id])
    else none
def walkStep (t : Tree) (L : Nat) (n : Node) (m : List Int) (e : Entry) : Option (List Int) :=
  if isUsed t.arena e.ref = true ∧ e.ref ∉ m ∧ kidOk n e (nodeAt t.arena e.ref) = true then walkF t L e.ref m else none
def walkOf (t : Tree) : Option (List Int) := walkF t (nodeAt t.arena t.root).level.toNat t.root []
def leafE (t : Tree) (ids : List Int) : List Entry := ids.flatMap (fun id => if (nodeAt t.arena id).level = 0 then (nodeAt t.arena id).entries else [])
def treeRight (t : Tree) : Bool :=
  isUsed t.arena t.root && (nodeAt t.arena t.root).nsn == t.rootNsn && !t.arena.nodes.any (fun n=>decide (t.counter < n.nsn)) &&
  match walkOf t with
  | none=>false
  | some met=>(List.range t.arena.nodes.length).all (fun i=>!isUsed t.arena (i : Int) || decide ((i : Int) ∈ met)) && decide (Uniq Entry.ref (leafE t met))
def isStyle (s : Int) : Bool := s == 0 || s == 1
def treeFault (t : Tree) : Int :=
  if arenaFault t.arena = 0 then
    if isStyle t.style = true ∧ isPlace t.arena t.root = true ∧ within t.rootNsn 0 100000 = true ∧ within t.counter 0 100000 = true then
      if treeRight t = true then 0 else 8
    else 3
  else arenaFault t.arena
def Met (t : Tree) (m : List Int) : Prop := m.Nodup ∧ ∀ x ∈ m, isPlace t.arena x = true
theorem Met.nil {t : Tree} : Met t []:=⟨.nil,by simp⟩
theorem Met.snoc {t : Tree} {m : List Int} {id : Int} (h : Met t m) (hp : isPlace t.arena id = true) (hn : id ∉ m) : Met t (m ++ [id]):=by
  refine ⟨List.nodup_append.2 ⟨h.1,by simp,fun a ha b hb e=>?_⟩,fun x hx=>?_⟩
  · simp at hb; subst hb; subst e; exact hn ha
  · rcases List.mem_append.1 hx with hx | hx
    · exact h.2 x hx
    · simp at hx; subst hx; exact hp
theorem nodup_bound : ∀ (n : Nat) {l : List Nat},l.Nodup → (∀ x ∈ l,x < n) → l.length ≤ n
  | 0,l,_,h=>by
    cases l with
    | nil=>simp
    | cons a l=>have:=h a (List.mem_cons_self ..); omega
  | n + 1,l,hn,h=>by
    have h1:=nodup_bound n (l:=l.erase n) (hn.erase n) (fun x hx=>by
      have h2:=(List.Nodup.mem_erase_iff hn).1 hx
      have:=h x h2.2
      have:=h2.1
      omega)
    have h3:=List.length_erase (a:=n) (l:=l)
    split at h3 <;> omega
theorem Met.len {t : Tree} {m : List Int} (h : Met t m) : m.length ≤ t.arena.nodes.length:=by
  have h1 : (m.map Int.toNat).Nodup:=by
    unfold List.Nodup
    rw [List.pairwise_map]
    refine List.Pairwise.imp_of_mem (fun {a b} ha hb hne=>?_) h.1
    have:=within_t (h.2 a ha); have:=within_t (h.2 b hb); omega
  have h2:=nodup_bound t.arena.nodes.length h1 (fun x hx=>by
    obtain ⟨y,hy,rfl⟩:=List.mem_map.1 hx
    have:=within_t (h.2 y hy)
    omega)
  simpa using h2
theorem walkF_met {t : Tree} : ∀ (L : Nat) {id : Int} {m r : List Int},Met t m → isPlace t.arena id = true → id ∉ m → walkF t L id m = some r → Met t r
  | 0,id,m,r,hm,hp,hn,h=>by
    unfold walkF at h
    split at h
    · cases h; exact hm.snoc hp hn
    · cases h
  | L + 1,id,m,r,hm,hp,hn,h=>by
    unfold walkF at h
    split at h
    · have key : ∀ (es : List Entry) {m r : List Int},Met t m → es.foldlM (fun m e=>if isUsed t.arena e.ref = true ∧ e.ref ∉ m ∧ kidOk (nodeAt t.arena id) e (nodeAt t.arena e.ref) = true then walkF t L e.ref m else none) m = some r → Met t r:=by
        intro es
        induction es with
        | nil=>intro m r hm h; simp at h; subst h; exact hm
        | cons e es ih =>
          intro m r hm h
          rw [List.foldlM_cons] at h
          split at h
          · rename_i hc
            cases hw : walkF t L e.ref m with
            | none=>rw [hw] at h; cases h
            | some m'=>rw [hw] at h; exact ih (walkF_met L hm (used_place hc.1) hc.2.1 hw) h
          · cases h
      exact key _ (hm.snoc hp hn) h
    · cases h

theorem impl_isId (w : World) (id : Int)  : Calls Tryz.prog 231 #[.int .i64 id] w (fun e_ w2_=>e_ = .returned (.bool (within id 0 999)) ∧ Below w.heap.size w w2_):=by
  refine fnc (X:=X1 5 w) (l:=[(0,.int .i64 id)]) Tryz.func231 rfl rfl rfl ⟨rfl,trivial⟩ (s0n w).1 ?_
  refine rn ik 8 [] rfl (cs_ (v:=.bool (within id 0 999)) (by kernel_rfl) rfl rfl rfl (fun w_ hs_=>impl_within w_ _ _ _) (rn ik 4 [] rfl (ret1 rfl rfl (fun w_ hs_=>⟨?_,hs_.below⟩))))
  rfl
theorem impl_isNsn (w : World) (n : Int)  : Calls Tryz.prog 152 #[.int .i64 n] w (fun e_ w2_=>e_ = .returned (.bool (within n 0 100000)) ∧ Below w.heap.size w w2_):=by
  refine fnc (X:=X1 5 w) (l:=[(0,.int .i64 n)]) Tryz.func152 rfl rfl rfl ⟨rfl,trivial⟩ (s0n w).1 ?_
  refine rn ik 8 [] rfl (cs_ (v:=.bool (within n 0 100000)) (by kernel_rfl) rfl rfl rfl (fun w_ hs_=>impl_within w_ _ _ _) (rn ik 4 [] rfl (ret1 rfl rfl (fun w_ hs_=>⟨?_,hs_.below⟩))))
  rfl
theorem impl_isClient (w : World) (n : Int)  : Calls Tryz.prog 74 #[.int .i64 n] w (fun e_ w2_=>e_ = .returned (.bool (within n 0 3)) ∧ Below w.heap.size w w2_):=by
  refine fnc (X:=X1 5 w) (l:=[(0,.int .i64 n)]) Tryz.func74 rfl rfl rfl ⟨rfl,trivial⟩ (s0n w).1 ?_
  refine rn ik 8 [] rfl (cs_ (v:=.bool (within n 0 3)) (by kernel_rfl) rfl rfl rfl (fun w_ hs_=>impl_within w_ _ _ _) (rn ik 4 [] rfl (ret1 rfl rfl (fun w_ hs_=>⟨?_,hs_.below⟩))))
  rfl
theorem impl_isStyle (w : World) (n : Int)  : Calls Tryz.prog 54 #[.int .i64 n] w (fun e_ w2_=>e_ = .returned (.bool (isStyle n)) ∧ Below w.heap.size w w2_):=by
  refine fnc (X:=X1 9 w) (l:=[(0,.int .i64 n)]) Tryz.func54 rfl rfl rfl ⟨rfl,trivial⟩ (s0n w).1 ?_
  refine rn ik 10 [] rfl ?_
  by_cases h1 : n = (0 : Int)
  · refine r3_ ik 7 [0,0,1] rfl (beq_iff_eq.2 h1) (beq_iff_eq.2 h1) (beq_iff_eq.2 h1) (ret1 rfl rfl (fun w_ hs_=>⟨?_,hs_.below⟩))
    exact rb (by grind [isStyle])
  · refine r3_ ik 7 [1,1,0] rfl (beq_eq_false_iff_ne.2 h1) (beq_eq_false_iff_ne.2 h1) (beq_eq_false_iff_ne.2 h1) (ret1 rfl rfl (fun w_ hs_=>⟨?_,hs_.below⟩))
    exact rb (by grind [isStyle])
def entryRange (e : Entry) : Int := if within e.ref 0 999 = true ∧ within e.nsn 0 100000 = true then 0 else 3
theorem impl_entryRange (w : World) {e : Entry} (he : kEntryS.Rel w [.slice Ae0 e.rect.low.length ce0,.slice Ae1 e.rect.high.length ce1,.int .i64 e.ref,.int .i64 e.nsn] e [] se_)  : Calls Tryz.prog 154 #[.agg #[.slice Ae0 e.rect.low.length ce0,.slice Ae1 e.rect.high.length ce1,.int .i64 e.ref,.int .i64 e.nsn]] w (fun e_ w2_=>e_ = .returned (.int .i64 (entryRange e)) ∧ Below w.heap.size w w2_):=by
  refine fnc (X:=X1 13 w) (l:=[(0,.agg #[.slice Ae0 e.rect.low.length ce0,.slice Ae1 e.rect.high.length ce1,.int .i64 e.ref,.int .i64 e.nsn])]) Tryz.func154 rfl rfl rfl ⟨rfl,trivial⟩ (s0d he (s0n w)).1 ?_
  refine sq (rg (bx rfl rfl rfl rfl ?_))
  intro b1
  refine rn ik 8 [0,0] rfl (cs_ (v:=.bool (within e.ref 0 999)) (by kernel_rfl) rfl rfl rfl (fun w_ hs_=>impl_isId w_ _) (rn ik 2 [] rfl ?_))
  by_cases h2 : within e.ref 0 999 = true
  · refine r2_ ik 2 [1,1,0,0] rfl (not_f h2) (not_f h2) (gw rfl rfl (not_f h2) (cs_ (v:=.bool (within e.nsn 0 100000)) (by kernel_rfl) rfl rfl rfl (fun w_ hs_=>impl_isNsn w_ _) (r2_ ik 4 [1,0] rfl (not_f h2) (not_f h2) ?_)))
    by_cases h3 : within e.nsn 0 100000 = true
    · refine r1_ ik 9 [0] rfl (not_f h3) (ret1 rfl rfl (fun w_ hs_=>⟨?_,hs_.below⟩))
      exact ri (by grind [entryRange])
    · refine r1_ ik 8 [1] rfl (not_t (Bool.eq_false_iff.2 h3)) (ret1 rfl rfl (fun w_ hs_=>⟨?_,hs_.below⟩))
      exact ri (by grind [entryRange])
  · refine rp ik 15 [0,0,0,0,1,1] rfl ⟨rfl,(not_t (Bool.eq_false_iff.2 h2)),(not_t (Bool.eq_false_iff.2 h2)),(not_t (Bool.eq_false_iff.2 h2)),(not_t (Bool.eq_false_iff.2 h2)),(not_t (Bool.eq_false_iff.2 h2)),⟨⟩⟩ (ret1 rfl rfl (fun w_ hs_=>⟨?_,hs_.below⟩))
    exact ri (by grind [entryRange])
theorem spec_l3Entry (w : World) (dims : Int) {e : Entry} (he : (ptr kEntryS pe [.slice Ae0 e.rect.low.length ce0,.slice Ae1 e.rect.high.length ce1,.int .i64 e.ref,.int .i64 e.nsn] e se_).P w)  : Calls Tryz.prog 169 #[.pointer (some pe),.int .i64 dims] w (fun e_ w2_=>e_ = .returned (.int .i64 (entryFault e dims)) ∧ Below w.heap.size w w2_):=by
  refine fnc (X:=X1 29 w) (l:=[(0,.pointer (some pe)),(1,.int .i64 dims)]) Tryz.func169 rfl rfl rfl ⟨rfl,rfl,trivial⟩ (s0p he (s0n w)).1 ?_
  refine rn ik 13 [0,1] rfl ?_
  refine gp 0 kEntryS_p0_2 rfl (cs':=[.slice Ae0 e.rect.low.length ce0,.slice Ae1 e.rect.high.length ce1]) rfl fun s1 w_ rs1 us1=>?_
  refine cs_ (v:=.int .i64 (rectFault e.rect dims)) (by kernel_rfl) rfl rfl rfl (fun w_ hs_=>spec_RectFault w_ _ (hs_.at 0 rfl)) (rn ik 9 [] rfl ?_)
  by_cases h2 : (rectFault e.rect dims) = (0 : Int)
  · refine r1_ ik 10 [0,1,3] rfl (bne_eq_false_iff_eq.2 h2) (cs_ (v:=.bool (within e.ref 0 999)) (by kernel_rfl) rfl rfl rfl (fun w_ hs_=>spec_l1In w_ _ _ _) (rn ik 2 [] rfl ?_))
    by_cases h3 : within e.ref 0 999 = true
    · refine r4_ ik 4 [1,1,1,1,1,4] rfl (not_f h3) (not_f h3) (not_f h3) (not_f h3) (gw rfl rfl (not_f h3) (cs_ (v:=.bool (within e.nsn 0 100000)) (by kernel_rfl) rfl rfl rfl (fun w_ hs_=>spec_l1In w_ _ _ _) (r2_ ik 4 [1,0] rfl (not_f h3) (not_f h3) ?_)))
      by_cases h4 : within e.nsn 0 100000 = true
      · refine r1_ ik 9 [0] rfl (not_f h4) (ret1 rfl rfl (fun w_ hs_=>⟨?_,hs_.below⟩))
        exact ri (by grind [entryFault])
      · refine r1_ ik 8 [1] rfl (not_t (Bool.eq_false_iff.2 h4)) (ret1 rfl rfl (fun w_ hs_=>⟨?_,hs_.below⟩))
        exact ri (by grind [entryFault])
    · refine rp ik 17 [0,0,0,0,0,0,1,1] rfl ⟨rfl,(not_t (Bool.eq_false_iff.2 h3)),(not_t (Bool.eq_false_iff.2 h3)),(not_t (Bool.eq_false_iff.2 h3)),(not_t (Bool.eq_false_iff.2 h3)),(not_t (Bool.eq_false_iff.2 h3)),(not_t (Bool.eq_false_iff.2 h3)),(not_t (Bool.eq_false_iff.2 h3)),⟨⟩⟩ (ret1 rfl rfl (fun w_ hs_=>⟨?_,hs_.below⟩))
      exact ri (by grind [entryFault])
  · refine r1_ ik 9 [1] rfl (bne_iff_ne.2 h2) (ret1 rfl rfl (fun w_ hs_=>⟨?_,hs_.below⟩))
    exact ri (by grind [entryFault])
theorem impl_isForm (w : World) (level : Int) {e : Entry} (he : kEntryS.Rel w [.slice Ae0 e.rect.low.length ce0,.slice Ae1 e.rect.high.length ce1,.int .i64 e.ref,.int .i64 e.nsn] e [] se_)  : Calls Tryz.prog 157 #[.int .i64 level,.agg #[.slice Ae0 e.rect.low.length ce0,.slice Ae1 e.rect.high.length ce1,.int .i64 e.ref,.int .i64 e.nsn]] w (fun e_ w2_=>e_ = .returned (.bool (isForm level e)) ∧ Below w.heap.size w w2_):=by
  refine fnc (X:=X1 13 w) (l:=[(0,.int .i64 level),(1,.agg #[.slice Ae0 e.rect.low.length ce0,.slice Ae1 e.rect.high.length ce1,.int .i64 e.ref,.int .i64 e.nsn])]) Tryz.func157 rfl rfl rfl ⟨rfl,rfl,trivial⟩ (s0d he (s0n w)).1 ?_
  refine sq (rg (bx rfl rfl rfl rfl ?_))
  intro b1
  refine rn ik 10 [] rfl ?_
  by_cases h2 : level = (0 : Int)
  · refine r1_ ik 11 [1,0,0] rfl (beq_iff_eq.2 h2) (ret1 rfl rfl (fun w_ hs_=>⟨?_,hs_.below⟩))
    exact rb (by grind [isForm])
  · refine r1_ ik 12 [0,0,0] rfl (beq_eq_false_iff_ne.2 h2) (ret1 rfl rfl (fun w_ hs_=>⟨?_,hs_.below⟩))
    exact rb (by grind [isForm])
theorem spec_l3Fits (w : World) (level : Int) {e : Entry} (he : (ptr kEntryS pe [.slice Ae0 e.rect.low.length ce0,.slice Ae1 e.rect.high.length ce1,.int .i64 e.ref,.int .i64 e.nsn] e se_).P w)  : Calls Tryz.prog 170 #[.int .i64 level,.pointer (some pe)] w (fun e_ w2_=>e_ = .returned (.bool (isForm level e)) ∧ Below w.heap.size w w2_):=by
  refine fnc (X:=X1 17 w) (l:=[(0,.int .i64 level),(1,.pointer (some pe))]) Tryz.func170 rfl rfl rfl ⟨rfl,rfl,trivial⟩ (s0p he (s0n w)).1 ?_
  refine rn ik 12 [] rfl ?_
  by_cases h1 : level = (0 : Int)
  · refine r1_ ik 13 [1,0,4] rfl (beq_iff_eq.2 h1) (ret1 rfl rfl (fun w_ hs_=>⟨?_,hs_.below⟩))
    exact rb (by grind [isForm])
  · refine r1_ ik 14 [0,0,3] rfl (beq_eq_false_iff_ne.2 h1) (ret1 rfl rfl (fun w_ hs_=>⟨?_,hs_.below⟩))
    exact rb (by grind [isForm])
theorem slices_IndexFunc_impl_Entry_impl_Entry (w : World) (p : Entry → Bool) (hEp : enters Tryz.prog fp = true) {s : List Entry} (hs : (Kd.sl kEntryS).Rel w [.slice As s.length cs] s [] ss_) (hfp : ∀ (w1 : World) (x0 : Entry),x0 ∈ s → Below w.heap.size w w1 → ∀ (A0_1 : Option Addr) (c0_1 : Nat),∀ (A0_0 : Option Addr) (c0_0 : Nat),∀ s0_ : List Nat,kEntryS.Rel w1 [.slice A0_0 x0.rect.low.length c0_0,.slice A0_1 x0.rect.high.length c0_1,.int .i64 x0.ref,.int .i64 x0.nsn] x0 [] s0_ → Calls Tryz.prog fp (([.agg #[.slice A0_0 x0.rect.low.length c0_0,.slice A0_1 x0.rect.high.length c0_1,.int .i64 x0.ref,.int .i64 x0.nsn]] : List Value) ++ cfp).toArray w1 (fun e_ w2_=>e_ = .returned (.bool (p x0)) ∧ Below w1.heap.size w1 w2_))  : Calls Tryz.prog 232 #[.slice As s.length cs,.func (.func fp) #[] cfp.toArray] w (fun e_ w2_=>e_ = .returned (.int .i64 (idx p s)) ∧ Below w.heap.size w w2_):=by
  have Ls:=Kd.sl_len hs; have Cs:=Kd.sl_cap hs
  refine fnc (X:=X1 19 w) (l:=[(0,.slice As s.length cs),(1,.func (.func fp) #[] cfp.toArray)]) Tryz.func232 rfl rfl rfl ⟨rfl,rfl,trivial⟩ (s0d hs (s0n w)).1 ?_
  refine rn ik 14 [] rfl ?_
  refine lp (σ:=Nat) (fun k : Nat=>[(0,.slice As s.length cs),(1,.func (.func fp) #[] cfp.toArray),(7,.int .i64 ((s.length : Nat) : Int)),(8,.int .i64 ((k : Nat) : Int))])
      (fun k : Nat=>[dat (Kd.sl kEntryS) [.slice As s.length cs] s ([]) ss_])
      (fun k : Nat=>k ≤ s.length ∧ ∀ j x,j < k → s[j]? = some x → p x = false) (fun k : Nat=>s.length - k) 0 [0] ⟨Nat.zero_le _,by simp⟩ ⟨rfl,rfl,rfl,rfl,trivial⟩ rfl ?_
  intro k hp_
  obtain ⟨hk,hinv⟩:=hp_
  refine rn ik 6 [] rfl ?_
  by_cases h1 : ((k : Nat) : Int) < ((s.length : Nat) : Int)
  · refine r1_ ik 16 [1] rfl (decide_eq_true h1) ?_
    refine gx 0 k rfl (by omega) fun y7 p2 cs_ s3 w6 m8 e4 r5 us3=>?_
    obtain ⟨A9,c10,A11,c12,rfl⟩:=kEntryS_sh r5
    refine vl (ix k e4 rfl rfl rfl rfl rfl (by omega)) rfl (vl (ldq 0 rfl rfl rfl rfl rfl rfl rfl) rfl ?_)
    refine gp 0 Kd.Sub.rfl rfl (cs':=[.slice A9 y7.rect.low.length c10,.slice A11 y7.rect.high.length c12,.int .i64 y7.ref,.int .i64 y7.nsn]) rfl fun s13 w_ rs13 us13=>?_
    refine cv_ (v:=.bool (p y7)) hEp rfl rfl rfl rfl (fun w_ hs_=>hfp w_ y7 (List.mem_of_getElem? m8) hs_.below _ _ _ _ _ (hs_.at 0 rfl)) (en (nx ?_))
    by_cases h14 : p y7 = true
    · refine r1_ ik 13 [1] rfl h14 (ret1 rfl rfl (fun w_ hs_=>⟨?_,hs_.below⟩))
      rw [idx_some hinv m8 h14]
    · exact r1_ ik 5 [0] rfl (Bool.eq_false_iff.2 h14) (vl (ra (c:=((k + 1 : Nat) : Int)) rfl rfl rfl (by omega) (by omega) (by omega)) rfl (rn ik 2 [] rfl (lpe (s:=k) (k + 1) [2] ⟨by omega,idx_step hinv m8 (Bool.eq_false_iff.2 h14)⟩ (by omega) ⟨rfl,rfl,rfl,rfl,trivial⟩ rfl)))
  · refine r1_ ik 12 [0] rfl (decide_eq_false h1) (ret1 rfl rfl (fun w_ hs_=>⟨?_,hs_.below⟩))
    rw [idx_none hinv (by omega)]
theorem slices_ContainsFunc_impl_Entry_impl_Entry (w : World) (p : Entry → Bool) (hEp : enters Tryz.prog fp = true) {s : List Entry} (hs : (Kd.sl kEntryS).Rel w [.slice As s.length cs] s [] ss_) (hfp : ∀ (w1 : World) (x0 : Entry),x0 ∈ s → Below w.heap.size w w1 → ∀ (A0_1 : Option Addr) (c0_1 : Nat),∀ (A0_0 : Option Addr) (c0_0 : Nat),∀ s0_ : List Nat,kEntryS.Rel w1 [.slice A0_0 x0.rect.low.length c0_0,.slice A0_1 x0.rect.high.length c0_1,.int .i64 x0.ref,.int .i64 x0.nsn] x0 [] s0_ → Calls Tryz.prog fp (([.agg #[.slice A0_0 x0.rect.low.length c0_0,.slice A0_1 x0.rect.high.length c0_1,.int .i64 x0.ref,.int .i64 x0.nsn]] : List Value) ++ cfp).toArray w1 (fun e_ w2_=>e_ = .returned (.bool (p x0)) ∧ Below w1.heap.size w1 w2_))  : Calls Tryz.prog 155 #[.slice As s.length cs,.func (.func fp) #[] cfp.toArray] w (fun e_ w2_=>e_ = .returned (.bool (List.any s p)) ∧ Below w.heap.size w w2_):=by
  have Ls:=Kd.sl_len hs; have Cs:=Kd.sl_cap hs
  refine fnc (X:=X1 9 w) (l:=[(0,.slice As s.length cs),(1,.func (.func fp) #[] cfp.toArray)]) Tryz.func155 rfl rfl rfl ⟨rfl,rfl,trivial⟩ (s0d hs (s0n w)).1 ?_
  refine rn ik 9 [] rfl (cs_ (v:=.int .i64 (idx p s)) (by kernel_rfl) rfl rfl rfl (fun w_ hs_=>slices_IndexFunc_impl_Entry_impl_Entry w_ p hEp (hs_.at 0 rfl) (fun w1 x0 m0_ b_=>hfp w1 x0 m0_ (hs_.below.trans (b_.mono hs_.below.size)))) (rn ik 5 [] rfl (ret1 rfl rfl (fun w_ hs_=>⟨?_,hs_.below⟩))))
  rw [idx_ge]
theorem slices_IndexFunc_impl_Node_impl_Node (w : World) (p : Node → Bool) (hEp : enters Tryz.prog fp = true) {s : List Node} (hs : (Kd.sl kNodeS).Rel w [.slice As s.length cs] s [] ss_) (hfp : ∀ (w1 : World) (x0 : Node),x0 ∈ s → Below w.heap.size w w1 → ∀ (A0_3 : Option Addr) (c0_3 : Nat),∀ s0_ : List Nat,kNodeS.Rel w1 [.int .i64 x0.level,.int .i64 x0.nsn,.int .i64 x0.right,.slice A0_3 x0.entries.length c0_3] x0 [] s0_ → Calls Tryz.prog fp (([.agg #[.int .i64 x0.level,.int .i64 x0.nsn,.int .i64 x0.right,.slice A0_3 x0.entries.length c0_3]] : List Value) ++ cfp).toArray w1 (fun e_ w2_=>e_ = .returned (.bool (p x0)) ∧ Below w1.heap.size w1 w2_))  : Calls Tryz.prog 312 #[.slice As s.length cs,.func (.func fp) #[] cfp.toArray] w (fun e_ w2_=>e_ = .returned (.int .i64 (idx p s)) ∧ Below w.heap.size w w2_):=by
  have Ls:=Kd.sl_len hs; have Cs:=Kd.sl_cap hs
  refine fnc (X:=X1 19 w) (l:=[(0,.slice As s.length cs),(1,.func (.func fp) #[] cfp.toArray)]) Tryz.func312 rfl rfl rfl ⟨rfl,rfl,trivial⟩ (s0d hs (s0n w)).1 ?_
  refine rn ik 14 [] rfl ?_
  refine lp (σ:=Nat) (fun k : Nat=>[(0,.slice As s.length cs),(1,.func (.func fp) #[] cfp.toArray),(7,.int .i64 ((s.length : Nat) : Int)),(8,.int .i64 ((k : Nat) : Int))])
      (fun k : Nat=>[dat (Kd.sl kNodeS) [.slice As s.length cs] s ([]) ss_])
      (fun k : Nat=>k ≤ s.length ∧ ∀ j x,j < k → s[j]? = some x → p x = false) (fun k : Nat=>s.length - k) 0 [0] ⟨Nat.zero_le _,by simp⟩ ⟨rfl,rfl,rfl,rfl,trivial⟩ rfl ?_
  intro k hp_
  obtain ⟨hk,hinv⟩:=hp_
  refine rn ik 6 [] rfl ?_
  by_cases h1 : ((k : Nat) : Int) < ((s.length : Nat) : Int)
  · refine r1_ ik 16 [1] rfl (decide_eq_true h1) ?_
    refine gx 0 k rfl (by omega) fun y7 p2 cs_ s3 w6 m8 e4 r5 us3=>?_
    obtain ⟨A9,c10,rfl⟩:=kNodeS_sh r5
    refine vl (ix k e4 rfl rfl rfl rfl rfl (by omega)) rfl (vl (ldq 0 rfl rfl rfl rfl rfl rfl rfl) rfl ?_)
    refine gp 0 Kd.Sub.rfl rfl (cs':=[.int .i64 y7.level,.int .i64 y7.nsn,.int .i64 y7.right,.slice A9 y7.entries.length c10]) rfl fun s11 w_ rs11 us11=>?_
    refine cv_ (v:=.bool (p y7)) hEp rfl rfl rfl rfl (fun w_ hs_=>hfp w_ y7 (List.mem_of_getElem? m8) hs_.below _ _ _ (hs_.at 0 rfl)) (en (nx ?_))
    by_cases h12 : p y7 = true
    · refine r1_ ik 13 [1] rfl h12 (ret1 rfl rfl (fun w_ hs_=>⟨?_,hs_.below⟩))
      rw [idx_some hinv m8 h12]
    · exact r1_ ik 5 [0] rfl (Bool.eq_false_iff.2 h12) (vl (ra (c:=((k + 1 : Nat) : Int)) rfl rfl rfl (by omega) (by omega) (by omega)) rfl (rn ik 2 [] rfl (lpe (s:=k) (k + 1) [2] ⟨by omega,idx_step hinv m8 (Bool.eq_false_iff.2 h12)⟩ (by omega) ⟨rfl,rfl,rfl,rfl,trivial⟩ rfl)))
  · refine r1_ ik 12 [0] rfl (decide_eq_false h1) (ret1 rfl rfl (fun w_ hs_=>⟨?_,hs_.below⟩))
    rw [idx_none hinv (by omega)]
theorem slices_ContainsFunc_impl_Node_impl_Node (w : World) (p : Node → Bool) (hEp : enters Tryz.prog fp = true) {s : List Node} (hs : (Kd.sl kNodeS).Rel w [.slice As s.length cs] s [] ss_) (hfp : ∀ (w1 : World) (x0 : Node),x0 ∈ s → Below w.heap.size w w1 → ∀ (A0_3 : Option Addr) (c0_3 : Nat),∀ s0_ : List Nat,kNodeS.Rel w1 [.int .i64 x0.level,.int .i64 x0.nsn,.int .i64 x0.right,.slice A0_3 x0.entries.length c0_3] x0 [] s0_ → Calls Tryz.prog fp (([.agg #[.int .i64 x0.level,.int .i64 x0.nsn,.int .i64 x0.right,.slice A0_3 x0.entries.length c0_3]] : List Value) ++ cfp).toArray w1 (fun e_ w2_=>e_ = .returned (.bool (p x0)) ∧ Below w1.heap.size w1 w2_))  : Calls Tryz.prog 287 #[.slice As s.length cs,.func (.func fp) #[] cfp.toArray] w (fun e_ w2_=>e_ = .returned (.bool (List.any s p)) ∧ Below w.heap.size w w2_):=by
  have Ls:=Kd.sl_len hs; have Cs:=Kd.sl_cap hs
  refine fnc (X:=X1 9 w) (l:=[(0,.slice As s.length cs),(1,.func (.func fp) #[] cfp.toArray)]) Tryz.func287 rfl rfl rfl ⟨rfl,rfl,trivial⟩ (s0d hs (s0n w)).1 ?_
  refine rn ik 9 [] rfl (cs_ (v:=.int .i64 (idx p s)) (by kernel_rfl) rfl rfl rfl (fun w_ hs_=>slices_IndexFunc_impl_Node_impl_Node w_ p hEp (hs_.at 0 rfl) (fun w1 x0 m0_ b_=>hfp w1 x0 m0_ (hs_.below.trans (b_.mono hs_.below.size)))) (rn ik 5 [] rfl (ret1 rfl rfl (fun w_ hs_=>⟨?_,hs_.below⟩))))
  rw [idx_ge]
theorem slices_IndexFunc_impl_Retired_impl_Retired (w : World) (p : Retired → Bool) (hEp : enters Tryz.prog fp = true) {s : List Retired} (hs : (Kd.sl kRetiredS).Rel w [.slice As s.length cs] s [] ss_) (hfp : ∀ (w1 : World) (x0 : Retired),x0 ∈ s → Below w.heap.size w w1 → ∀ (A0_1 : Option Addr) (c0_1 : Nat),∀ s0_ : List Nat,kRetiredS.Rel w1 [.int .i64 x0.id,.slice A0_1 x0.watch.length c0_1] x0 [] s0_ → Calls Tryz.prog fp (([.agg #[.int .i64 x0.id,.slice A0_1 x0.watch.length c0_1]] : List Value) ++ cfp).toArray w1 (fun e_ w2_=>e_ = .returned (.bool (p x0)) ∧ Below w1.heap.size w1 w2_))  : Calls Tryz.prog 138 #[.slice As s.length cs,.func (.func fp) #[] cfp.toArray] w (fun e_ w2_=>e_ = .returned (.int .i64 (idx p s)) ∧ Below w.heap.size w w2_):=by
  have Ls:=Kd.sl_len hs; have Cs:=Kd.sl_cap hs
  refine fnc (X:=X1 19 w) (l:=[(0,.slice As s.length cs),(1,.func (.func fp) #[] cfp.toArray)]) Tryz.func138 rfl rfl rfl ⟨rfl,rfl,trivial⟩ (s0d hs (s0n w)).1 ?_
  refine rn ik 14 [] rfl ?_
  refine lp (σ:=Nat) (fun k : Nat=>[(0,.slice As s.length cs),(1,.func (.func fp) #[] cfp.toArray),(7,.int .i64 ((s.length : Nat) : Int)),(8,.int .i64 ((k : Nat) : Int))])
      (fun k : Nat=>[dat (Kd.sl kRetiredS) [.slice As s.length cs] s ([]) ss_])
      (fun k : Nat=>k ≤ s.length ∧ ∀ j x,j < k → s[j]? = some x → p x = false) (fun k : Nat=>s.length - k) 0 [0] ⟨Nat.zero_le _,by simp⟩ ⟨rfl,rfl,rfl,rfl,trivial⟩ rfl ?_
  intro k hp_
  obtain ⟨hk,hinv⟩:=hp_
  refine rn ik 6 [] rfl ?_
  by_cases h1 : ((k : Nat) : Int) < ((s.length : Nat) : Int)
  · refine r1_ ik 16 [1] rfl (decide_eq_true h1) ?_
    refine gx 0 k rfl (by omega) fun y7 p2 cs_ s3 w6 m8 e4 r5 us3=>?_
    obtain ⟨A9,c10,rfl⟩:=kRetiredS_sh r5
    refine vl (ix k e4 rfl rfl rfl rfl rfl (by omega)) rfl (vl (ldq 0 rfl rfl rfl rfl rfl rfl rfl) rfl ?_)
    refine gp 0 Kd.Sub.rfl rfl (cs':=[.int .i64 y7.id,.slice A9 y7.watch.length c10]) rfl fun s11 w_ rs11 us11=>?_
    refine cv_ (v:=.bool (p y7)) hEp rfl rfl rfl rfl (fun w_ hs_=>hfp w_ y7 (List.mem_of_getElem? m8) hs_.below _ _ _ (hs_.at 0 rfl)) (en (nx ?_))
    by_cases h12 : p y7 = true
    · refine r1_ ik 13 [1] rfl h12 (ret1 rfl rfl (fun w_ hs_=>⟨?_,hs_.below⟩))
      rw [idx_some hinv m8 h12]
    · exact r1_ ik 5 [0] rfl (Bool.eq_false_iff.2 h12) (vl (ra (c:=((k + 1 : Nat) : Int)) rfl rfl rfl (by omega) (by omega) (by omega)) rfl (rn ik 2 [] rfl (lpe (s:=k) (k + 1) [2] ⟨by omega,idx_step hinv m8 (Bool.eq_false_iff.2 h12)⟩ (by omega) ⟨rfl,rfl,rfl,rfl,trivial⟩ rfl)))
  · refine r1_ ik 12 [0] rfl (decide_eq_false h1) (ret1 rfl rfl (fun w_ hs_=>⟨?_,hs_.below⟩))
    rw [idx_none hinv (by omega)]
theorem impl_entryAt_1 (w : World) {e : Entry} (he : kEntryS.Rel w [.slice Ae0 e.rect.low.length ce0,.slice Ae1 e.rect.high.length ce1,.int .i64 e.ref,.int .i64 e.nsn] e [] se_)  {ref : Int} {sref_ : List Nat} {pref : Addr} (href : (ptr Kd.i64 pref [.int .i64 ref] ref sref_).P w)  : Calls Tryz.prog 233 #[.agg #[.slice Ae0 e.rect.low.length ce0,.slice Ae1 e.rect.high.length ce1,.int .i64 e.ref,.int .i64 e.nsn],.pointer (some pref)] w (fun e_ w2_=>e_ = .returned (.bool (e.ref == ref)) ∧ Below w.heap.size w w2_):=by
  refine fnc (X:=X1 8 w) (l:=[(0,.agg #[.slice Ae0 e.rect.low.length ce0,.slice Ae1 e.rect.high.length ce1,.int .i64 e.ref,.int .i64 e.nsn]),(1,.pointer (some pref))]) Tryz.func233 rfl rfl rfl ⟨rfl,rfl,trivial⟩ (s0p href (s0d he (s0n w))).1 ?_
  refine sq (rg (bx rfl rfl rfl rfl ?_))
  intro b1
  refine rn ik 13 [0,0,1,0] rfl (ret1 rfl rfl (fun w_ hs_=>⟨?_,hs_.below⟩))
  rfl
theorem impl_entryAt (w : World) (ref : Int) {list : List Entry} (hlist : (Kd.sl kEntryS).Rel w [.slice Alist list.length clist] list [] slist_)  : Calls Tryz.prog 158 #[.slice Alist list.length clist,.int .i64 ref] w (fun e_ w2_=>e_ = .returned (.int .i64 (idx (fun (x0 : Entry)=>x0.ref == ref) list)) ∧ Below w.heap.size w w2_):=by
  have Llist:=Kd.sl_len hlist; have Clist:=Kd.sl_cap hlist
  refine fnc (X:=X1 8 w) (l:=[(0,.slice Alist list.length clist),(1,.int .i64 ref)]) Tryz.func158 rfl rfl rfl ⟨rfl,rfl,trivial⟩ (s0d hlist (s0n w)).1 ?_
  refine sq (rg (bx rfl rfl rfl rfl ?_))
  intro b1
  refine rn ik 6 [] rfl (vl (mf rfl rfl rfl) rfl (gs Kd.i64 [.int .i64 ref] ref (fun _=>⟨rfl,rfl,rfl⟩) ?_))
  refine cs_ (v:=.int .i64 (idx (fun (x0 : Entry)=>x0.ref == ref) list)) (by kernel_rfl) rfl rfl rfl (fun w_ hs_=>slices_IndexFunc_impl_Entry_impl_Entry w_ (fun (x0 : Entry)=>x0.ref == ref) (by kernel_rfl) (hs_.at 2 rfl) (fun w1 x0 m0_ b_ _ _ _ _ _ r0_=>impl_entryAt_1 w1  r0_ (ptr_blk ((hs_.step b_).at 1 rfl) ((hs_.step b_).at 0 rfl) rfl))) (rn ik 4 [] rfl (ret1 rfl rfl (fun w_ hs_=>⟨?_,hs_.below⟩)))
  rfl
theorem spec_l3Find (w : World) (id : Int) {list : List Entry} (hlist : (Kd.sl kEntryS).Rel w [.slice Alist list.length clist] list [] slist_)  : Calls Tryz.prog 171 #[.slice Alist list.length clist,.int .i64 id] w (fun e_ w2_=>e_ = .returned (.int .i64 (idx (fun (x0 : Entry)=>x0.ref == id) list)) ∧ Below w.heap.size w w2_):=by
  have Llist:=Kd.sl_len hlist; have Clist:=Kd.sl_cap hlist
  refine fnc (X:=X1 20 w) (l:=[(0,.slice Alist list.length clist),(1,.int .i64 id)]) Tryz.func171 rfl rfl rfl ⟨rfl,rfl,trivial⟩ (s0d hlist (s0n w)).1 ?_
  refine rn ik 12 [] rfl ?_
  refine lp (σ:=Nat) (fun k : Nat=>[(0,.slice Alist list.length clist),(1,.int .i64 id),(5,.int .i64 ((k : Nat) : Int))])
      (fun k : Nat=>[dat (Kd.sl kEntryS) [.slice Alist list.length clist] list ([]) slist_])
      (fun k : Nat=>k ≤ list.length ∧ ∀ j x,j < k → list[j]? = some x → (x.ref == id) = false) (fun k : Nat=>list.length - k) 0 [0] ⟨Nat.zero_le _,by simp⟩ ⟨rfl,rfl,rfl,trivial⟩ rfl ?_
  intro k hp_
  obtain ⟨hk,hinv⟩:=hp_
  refine rn ik 9 [] rfl ?_
  by_cases h1 : ((k : Nat) : Int) < ((list.length : Nat) : Int)
  · refine r1_ ik 9 [1] rfl (decide_eq_true h1) ?_
    refine gx 0 k rfl (by omega) fun y7 p2 cs_ s3 w6 m8 e4 r5 us3=>?_
    obtain ⟨A9,c10,A11,c12,rfl⟩:=kEntryS_sh r5
    refine vl (ix k e4 rfl rfl rfl rfl rfl (by omega)) rfl (rn ik 6 [0,3] rfl ?_)
    by_cases h13 : y7.ref = id
    · refine r1_ ik 13 [1] rfl (beq_iff_eq.2 h13) (ret1 rfl rfl (fun w_ hs_=>⟨?_,hs_.below⟩))
      rw [idx_some (p:=(fun (x0 : Entry)=>x0.ref == id)) hinv m8 (beq_iff_eq.2 h13)]
    · exact r1_ ik 6 [0] rfl (beq_eq_false_iff_ne.2 h13) (vl (ra (c:=((k + 1 : Nat) : Int)) rfl rfl rfl (by omega) (by omega) (by omega)) rfl (rn ik 2 [] rfl (lpe (s:=k) (k + 1) [1] ⟨by omega,idx_step (p:=(fun (x0 : Entry)=>x0.ref == id)) hinv m8 (beq_eq_false_iff_ne.2 h13)⟩ (by omega) ⟨rfl,rfl,rfl,trivial⟩ rfl)))
  · refine r1_ ik 12 [0] rfl (decide_eq_false h1) (ret1 rfl rfl (fun w_ hs_=>⟨?_,hs_.below⟩))
    rw [idx_none (p:=(fun (x0 : Entry)=>x0.ref == id)) hinv (by omega)]
theorem spec_l2At (w : World) (id : Int) {list : List Pair} (hlist : (Kd.sl kPairS).Rel w [.slice Alist list.length clist] list [] slist_)  : Calls Tryz.prog 244 #[.slice Alist list.length clist,.int .i64 id] w (fun e_ w2_=>e_ = .returned (.int .i64 (idx (fun (x0 : Pair)=>x0.id == id) list)) ∧ Below w.heap.size w w2_):=by
  have Llist:=Kd.sl_len hlist; have Clist:=Kd.sl_cap hlist
  refine fnc (X:=X1 20 w) (l:=[(0,.slice Alist list.length clist),(1,.int .i64 id)]) Tryz.func244 rfl rfl rfl ⟨rfl,rfl,trivial⟩ (s0d hlist (s0n w)).1 ?_
  refine rn ik 12 [] rfl ?_
  refine lp (σ:=Nat) (fun k : Nat=>[(0,.slice Alist list.length clist),(1,.int .i64 id),(5,.int .i64 ((k : Nat) : Int))])
      (fun k : Nat=>[dat (Kd.sl kPairS) [.slice Alist list.length clist] list ([]) slist_])
      (fun k : Nat=>k ≤ list.length ∧ ∀ j x,j < k → list[j]? = some x → (x.id == id) = false) (fun k : Nat=>list.length - k) 0 [0] ⟨Nat.zero_le _,by simp⟩ ⟨rfl,rfl,rfl,trivial⟩ rfl ?_
  intro k hp_
  obtain ⟨hk,hinv⟩:=hp_
  refine rn ik 9 [] rfl ?_
  by_cases h1 : ((k : Nat) : Int) < ((list.length : Nat) : Int)
  · refine r1_ ik 9 [1] rfl (decide_eq_true h1) ?_
    refine gx 0 k rfl (by omega) fun y7 p2 cs_ s3 w6 m8 e4 r5 us3=>?_
    obtain ⟨A9,c10,A11,c12,rfl⟩:=kPairS_sh r5
    refine vl (ix k e4 rfl rfl rfl rfl rfl (by omega)) rfl (rn ik 6 [0,1] rfl ?_)
    by_cases h13 : y7.id = id
    · refine r1_ ik 13 [1] rfl (beq_iff_eq.2 h13) (ret1 rfl rfl (fun w_ hs_=>⟨?_,hs_.below⟩))
      rw [idx_some (p:=(fun (x0 : Pair)=>x0.id == id)) hinv m8 (beq_iff_eq.2 h13)]
    · exact r1_ ik 6 [0] rfl (beq_eq_false_iff_ne.2 h13) (vl (ra (c:=((k + 1 : Nat) : Int)) rfl rfl rfl (by omega) (by omega) (by omega)) rfl (rn ik 2 [] rfl (lpe (s:=k) (k + 1) [1] ⟨by omega,idx_step (p:=(fun (x0 : Pair)=>x0.id == id)) hinv m8 (beq_eq_false_iff_ne.2 h13)⟩ (by omega) ⟨rfl,rfl,rfl,trivial⟩ rfl)))
  · refine r1_ ik 12 [0] rfl (decide_eq_false h1) (ret1 rfl rfl (fun w_ hs_=>⟨?_,hs_.below⟩))
    rw [idx_none (p:=(fun (x0 : Pair)=>x0.id == id)) hinv (by omega)]
theorem impl_NodeFault_1 (w : World) {e : Entry} (he : kEntryS.Rel w [.slice Ae0 e.rect.low.length ce0,.slice Ae1 e.rect.high.length ce1,.int .i64 e.ref,.int .i64 e.nsn] e [] se_) {n : Node} {pn : Addr} (hn : (ptr kNodeS pn [.int .i64 n.level,.int .i64 n.nsn,.int .i64 n.right,.slice An3 n.entries.length cn3] n sn_).P w)  : Calls Tryz.prog 156 #[.agg #[.slice Ae0 e.rect.low.length ce0,.slice Ae1 e.rect.high.length ce1,.int .i64 e.ref,.int .i64 e.nsn],.pointer (some pn)] w (fun e_ w2_=>e_ = .returned (.bool (!isForm n.level e)) ∧ Below w.heap.size w w2_):=by
  refine fnc (X:=X1 9 w) (l:=[(0,.agg #[.slice Ae0 e.rect.low.length ce0,.slice Ae1 e.rect.high.length ce1,.int .i64 e.ref,.int .i64 e.nsn]),(1,.pointer (some pn))]) Tryz.func156 rfl rfl rfl ⟨rfl,rfl,trivial⟩ (s0p hn (s0d he (s0n w))).1 ?_
  refine sq (rg (bx rfl rfl rfl rfl ?_))
  intro b1
  refine rn ik 8 [1,1,0,0] rfl (cs_ (v:=.bool (isForm n.level e)) (by kernel_rfl) rfl rfl rfl (fun w_ hs_=>impl_isForm w_ _ (hs_.at 2 rfl)) (rn ik 5 [] rfl (ret1 rfl rfl (fun w_ hs_=>⟨?_,hs_.below⟩))))
  rfl
theorem impl_NodeFault (w : World) (dims : Int) {n : Node} (hn : kNodeS.Rel w [.int .i64 n.level,.int .i64 n.nsn,.int .i64 n.right,.slice An3 n.entries.length cn3] n [] sn_)  : Calls Tryz.prog 84 #[.agg #[.int .i64 n.level,.int .i64 n.nsn,.int .i64 n.right,.slice An3 n.entries.length cn3],.int .i64 dims] w (fun e_ w2_=>e_ = .returned (.int .i64 (nodeFault n dims)) ∧ Below w.heap.size w w2_):=by
  have Ln3:=Kd.sub_len kNodeS_p3_1 hn; have Cn3:=Kd.sub_cap kNodeS_p3_1 hn rfl
  refine fnc (X:=X1 73 w) (l:=[(0,.agg #[.int .i64 n.level,.int .i64 n.nsn,.int .i64 n.right,.slice An3 n.entries.length cn3]),(1,.int .i64 dims)]) Tryz.func84 rfl rfl rfl ⟨rfl,rfl,trivial⟩ (s0d hn (s0n w)).1 ?_
  refine sq (rg (bx rfl rfl rfl rfl ?_))
  intro b1
  refine rn ik 9 [] rfl (cs_ (v:=.bool (isDims dims)) (by kernel_rfl) rfl rfl rfl (fun w_ hs_=>impl_isDims w_ _) (rn ik 4 [] rfl ?_))
  by_cases h2 : isDims dims = true
  · refine r1_ ik 5 [0,0,0] rfl (not_f h2) (cs_ (v:=.bool (within n.level 0 6)) (by kernel_rfl) rfl rfl rfl (fun w_ hs_=>impl_within w_ _ _ _) (rn ik 4 [] rfl ?_))
    by_cases h3 : within n.level 0 6 = true
    · refine r1_ ik 5 [0,0,0] rfl (not_f h3) (cs_ (v:=.bool (within n.nsn 0 100000)) (by kernel_rfl) rfl rfl rfl (fun w_ hs_=>impl_isNsn w_ _) (rn ik 4 [] rfl ?_))
      by_cases h4 : within n.nsn 0 100000 = true
      · refine r1_ ik 4 [0,0,0] rfl (not_f h4) (cs_ (v:=.bool (within n.right (-1) 39)) (by kernel_rfl) rfl rfl rfl (fun w_ hs_=>impl_within w_ _ _ _) (rn ik 4 [] rfl ?_))
        by_cases h5 : within n.right (-1) 39 = true
        · refine r1_ ik 10 [0,0,0] rfl (not_f h5) ?_
          by_cases h6 : (5 : Int) < ((n.entries.length : Nat) : Int)
          · refine r1_ ik 9 [1] rfl (decide_eq_true h6) (ret1 rfl rfl (fun w_ hs_=>⟨?_,hs_.below⟩))
            exact ri (by grind [nodeFault,isDims])
          · refine r1_ ik 14 [0,0,0] rfl (decide_eq_false h6) ?_
            refine lp (σ:=Nat) (fun k : Nat=>[(1,.int .i64 dims),(2,.pointer (some ⟨b1,0,none⟩)),(33,.slice An3 n.entries.length cn3),(34,.int .i64 ((n.entries.length : Nat) : Int)),(35,.int .i64 ((k : Nat) : Int))])
                (fun k : Nat=>[blk b1 [.int .i64 n.level,.int .i64 n.nsn,.int .i64 n.right,.slice An3 n.entries.length cn3] 52,dat kNodeS [.int .i64 n.level,.int .i64 n.nsn,.int .i64 n.right,.slice An3 n.entries.length cn3] n ([]) sn_])
                (fun k : Nat=>k ≤ n.entries.length ∧ ∀ j x,j < k → n.entries[j]? = some x → entryFault x dims = 0) (fun k : Nat=>n.entries.length - k) 0 [0,0] ⟨Nat.zero_le _,by simp⟩ ⟨rfl,rfl,rfl,rfl,rfl,trivial⟩ rfl ?_
            intro k hp_
            obtain ⟨hk,hinv⟩:=hp_
            refine rn ik 6 [] rfl ?_
            by_cases h7 : ((k : Nat) : Int) < ((n.entries.length : Nat) : Int)
            · refine r1_ ik 7 [1] rfl (decide_eq_true h7) ?_
              refine gd 1 kNodeS_p3_1 rfl (cs':=[.slice An3 n.entries.length cn3]) rfl fun s8 w_ rs8 us8=>?_
              have Ls8:=Kd.sl_len rs8; have Cs8:=Kd.sl_cap rs8
              refine gx 0 k rfl (by omega) fun y14 p9 cs_ s10 w13 m15 e11 r12 us10=>?_
              obtain ⟨A16,c17,A18,c19,rfl⟩:=kEntryS_sh r12
              refine vl (ix k e11 rfl rfl rfl rfl rfl (by omega)) rfl (vl (ldq 0 rfl rfl rfl rfl rfl rfl rfl) rfl (al zero102 rfl rfl rfl ?_))
              intro b20
              refine sto rfl rfl rfl rfl rfl rfl rfl (cs':=[.slice A16 y14.rect.low.length c17,.slice A18 y14.rect.high.length c19,.int .i64 y14.ref,.int .i64 y14.nsn]) rfl (rn ik 8 [0,0] rfl ?_)
              refine gp 1 kEntryS_p0_2 rfl (cs':=[.slice A16 y14.rect.low.length c17,.slice A18 y14.rect.high.length c19]) rfl fun s21 w_ rs21 us21=>?_
              refine cs_ (v:=.int .i64 (rectFault y14.rect dims)) (by kernel_rfl) rfl rfl rfl (fun w_ hs_=>impl_RectFault w_ _ (hs_.at 0 rfl)) (rn ik 9 [] rfl ?_)
              by_cases h22 : (rectFault y14.rect dims) = (0 : Int)
              · refine r1_ ik 6 [0,1,0] rfl (bne_eq_false_iff_eq.2 h22) ?_
                refine gp 2 Kd.Sub.rfl rfl (cs':=[.slice A16 y14.rect.low.length c17,.slice A18 y14.rect.high.length c19,.int .i64 y14.ref,.int .i64 y14.nsn]) rfl fun s23 w_ rs23 us23=>?_
                refine cs_ (v:=.int .i64 (entryRange y14)) (by kernel_rfl) rfl rfl rfl (fun w_ hs_=>impl_entryRange w_ (hs_.at 0 rfl)) (rn ik 9 [] rfl ?_)
                by_cases h24 : (entryRange y14) = (0 : Int)
                · exact r1_ ik 5 [0] rfl (bne_eq_false_iff_eq.2 h24) (vl (ra (c:=((k + 1 : Nat) : Int)) rfl rfl rfl (by omega) (by omega) (by omega)) rfl (rn ik 2 [] rfl (lpe (s:=k) (k + 1) [5,5] ⟨by omega,zero_step (f:=fun e=>entryFault e dims) hinv m15 (by grind [entryFault,entryRange])⟩ (by omega) ⟨rfl,rfl,rfl,rfl,rfl,trivial⟩ rfl)))
                · refine r1_ ik 13 [1] rfl (bne_iff_ne.2 h24) (ret1 rfl rfl (fun w_ hs_=>⟨?_,hs_.below⟩))
                  exact ri (by have z:=firstFault_at (f:=fun e=>entryFault e dims) hinv m15 (by grind [entryFault,entryRange]); grind [nodeFault,entryFault,entryRange,isDims])
              · refine r1_ ik 14 [1] rfl (bne_iff_ne.2 h22) (ret1 rfl rfl (fun w_ hs_=>⟨?_,hs_.below⟩))
                exact ri (by have z:=firstFault_at (f:=fun e=>entryFault e dims) hinv m15 (by grind [entryFault,entryRange]); grind [nodeFault,entryFault,entryRange,isDims])
            · refine r1_ ik 11 [0,0,0] rfl (decide_eq_false h7) (vl (mf rfl rfl rfl) rfl ?_)
              refine gd 1 kNodeS_p3_1 rfl (cs':=[.slice An3 n.entries.length cn3]) rfl fun s25 w_ rs25 us25=>?_
              have Ls25:=Kd.sl_len rs25; have Cs25:=Kd.sl_cap rs25
              refine cs_ (v:=.bool (List.any n.entries (fun (x0 : Entry)=>!isForm n.level x0))) (by kernel_rfl) rfl rfl rfl (fun w_ hs_=>slices_ContainsFunc_impl_Entry_impl_Entry w_ (fun (x0 : Entry)=>!isForm n.level x0) (by kernel_rfl) (hs_.at 0 rfl) (fun w1 x0 m0_ b_ _ _ _ _ _ r0_=>impl_NodeFault_1 w1  r0_ (ptr_blk ((hs_.step b_).at 1 rfl) ((hs_.step b_).at 2 rfl) rfl))) (en (nx ?_))
              by_cases h26 : List.any n.entries (fun (x0 : Entry)=>!isForm n.level x0) = true
              · refine r1_ ik 8 [1] rfl h26 (ret1 rfl rfl (fun w_ hs_=>⟨?_,hs_.below⟩))
                exact ri (by have z:=firstFault_0 (f:=fun e=>entryFault e dims) hinv (by omega); grind [nodeFault,isDims])
              · refine r1_ ik 13 [0,1,0] rfl (Bool.eq_false_iff.2 h26) ?_
                refine lp (σ:=Nat) (fun k2 : Nat=>[(2,.pointer (some ⟨b1,0,none⟩)),(57,.slice An3 n.entries.length cn3),(58,.int .i64 ((n.entries.length : Nat) : Int)),(59,.int .i64 ((k2 : Nat) : Int))])
                    (fun k2 : Nat=>[dat (Kd.sl kEntryS) [.slice An3 n.entries.length cn3] n.entries ([]) s25,blk b1 [.int .i64 n.level,.int .i64 n.nsn,.int .i64 n.right,.slice An3 n.entries.length cn3] 52,dat kNodeS [.int .i64 n.level,.int .i64 n.nsn,.int .i64 n.right,.slice An3 n.entries.length cn3] n ([]) sn_])
                    (fun k2 : Nat=>k2 ≤ n.entries.length ∧ Uniq Entry.ref (n.entries.take k2)) (fun k2 : Nat=>n.entries.length - k2) 0 [0,0,0] ⟨Nat.zero_le _,by simpa using Uniq.nil⟩ ⟨rfl,rfl,rfl,rfl,trivial⟩ rfl ?_
                intro k2 hp_
                obtain ⟨hk2,hinv2⟩:=hp_
                refine rn ik 6 [] rfl ?_
                by_cases h27 : ((k2 : Nat) : Int) < ((n.entries.length : Nat) : Int)
                · refine r1_ ik 8 [1] rfl (decide_eq_true h27) ?_
                  refine gx 0 k2 rfl (by omega) fun y33 p28 cs_ s29 w32 m34 e30 r31 us29=>?_
                  obtain ⟨A35,c36,A37,c38,rfl⟩:=kEntryS_sh r31
                  refine vl (ix k2 e30 rfl rfl rfl rfl rfl (by omega)) rfl (vl (ldq 0 rfl rfl rfl rfl rfl rfl rfl) rfl (al zero102 rfl rfl rfl ?_))
                  intro b39
                  refine a_ rfl rfl (sto rfl rfl rfl rfl rfl rfl rfl (cs':=[.slice A35 y33.rect.low.length c36,.slice A37 y33.rect.high.length c38,.int .i64 y33.ref,.int .i64 y33.nsn]) rfl (en (nx (sq ?_))))
                  refine gct 2 k2 rfl (by omega) fun s40 w_ rs40 us40=>?_
                  have Ls40:=Kd.sl_len rs40
                  refine rn ik 4 [1,2,4,0,3] rfl (qv 3 rfl (evr (v':=.slice An3 ((n.entries.take k2).length) cn3) (shi (i:=k2) rfl rfl rfl rfl rfl (by omega)) (sl_eq (by first | (simp; done) | (simp; omega)))) rfl (by kernel_rfl) (rn ik 2 [5,6,1,0] rfl (q1 6 [0,0,0,0,0,0] rfl (by kernel_rfl) rfl (cs_ (v:=.int .i64 (idx (fun (x0 : Entry)=>x0.ref == y33.ref) (n.entries.take k2))) (by kernel_rfl) rfl rfl rfl (fun w_ hs_=>by exact impl_entryAt w_ _ (hs_.at 0 rfl)) (qn (r1_ ik 3 [8,0] rfl ⟨[0,0,0,0,0,0],rfl⟩ ?_))))))
                  by_cases h41 : (0 : Int) ≤ (idx (fun (x0 : Entry)=>x0.ref == y33.ref) (n.entries.take k2))
                  · refine r1_ ik 12 [1] rfl (decide_eq_true h41) (ret1 rfl rfl (fun w_ hs_=>⟨?_,hs_.below⟩))
                    exact ri (by have z:=firstFault_0 (f:=fun e=>entryFault e dims) hinv (by omega); have y:=uniq_no (f:=Entry.ref) m34 h41; grind [nodeFault,isDims])
                  · exact r1_ ik 5 [0] rfl (decide_eq_false h41) (vl (ra (c:=((k2 + 1 : Nat) : Int)) rfl rfl rfl (by omega) (by omega) (by omega)) rfl (rn ik 2 [] rfl (lpe (s:=k2) (k2 + 1) [3,3,3] ⟨by omega,uniq_step hinv2 m34 h41⟩ (by omega) ⟨rfl,rfl,rfl,rfl,trivial⟩ rfl)))
                · refine r1_ ik 12 [0] rfl (decide_eq_false h27) (ret1 rfl rfl (fun w_ hs_=>⟨?_,hs_.below⟩))
                  exact ri (by have z:=firstFault_0 (f:=fun e=>entryFault e dims) hinv (by omega); have y:=uniq_end hinv2 (by omega); grind [nodeFault,isDims])
        · refine r1_ ik 9 [1] rfl (not_t (Bool.eq_false_iff.2 h5)) (ret1 rfl rfl (fun w_ hs_=>⟨?_,hs_.below⟩))
          exact ri (by grind [nodeFault,isDims])
      · refine r2_ ik 12 [1,1] rfl (not_t (Bool.eq_false_iff.2 h4)) (not_t (Bool.eq_false_iff.2 h4)) (ret1 rfl rfl (fun w_ hs_=>⟨?_,hs_.below⟩))
        exact ri (by grind [nodeFault,isDims])
    · refine r2_ ik 12 [1,1] rfl (not_t (Bool.eq_false_iff.2 h3)) (not_t (Bool.eq_false_iff.2 h3)) (ret1 rfl rfl (fun w_ hs_=>⟨?_,hs_.below⟩))
      exact ri (by grind [nodeFault,isDims])
  · refine r2_ ik 12 [1,1] rfl (not_t (Bool.eq_false_iff.2 h2)) (not_t (Bool.eq_false_iff.2 h2)) (ret1 rfl rfl (fun w_ hs_=>⟨?_,hs_.below⟩))
    exact ri (by grind [nodeFault,isDims])
theorem spec_NodeFault (w : World) (dims : Int) {n : Node} (hn : kNodeS.Rel w [.int .i64 n.level,.int .i64 n.nsn,.int .i64 n.right,.slice An3 n.entries.length cn3] n [] sn_)  : Calls Tryz.prog 97 #[.agg #[.int .i64 n.level,.int .i64 n.nsn,.int .i64 n.right,.slice An3 n.entries.length cn3],.int .i64 dims] w (fun e_ w2_=>e_ = .returned (.int .i64 (nodeFault n dims)) ∧ Below w.heap.size w w2_):=by
  have Ln3:=Kd.sub_len kNodeS_p3_1 hn; have Cn3:=Kd.sub_cap kNodeS_p3_1 hn rfl
  refine fnc (X:=X1 83 w) (l:=[(0,.agg #[.int .i64 n.level,.int .i64 n.nsn,.int .i64 n.right,.slice An3 n.entries.length cn3]),(1,.int .i64 dims)]) Tryz.func97 rfl rfl rfl ⟨rfl,rfl,trivial⟩ (s0d hn (s0n w)).1 ?_
  refine sq (rg (bx rfl rfl rfl rfl ?_))
  intro b1
  refine rn ik 7 [] rfl (cs_ (v:=.bool (within dims 2 3)) (by kernel_rfl) rfl rfl rfl (fun w_ hs_=>spec_l1In w_ _ _ _) (rn ik 2 [] rfl ?_))
  by_cases h2 : within dims 2 3 = true
  · refine r2_ ik 2 [1,1,0,0] rfl (not_f h2) (not_f h2) (gw rfl rfl (not_f h2) (cs_ (v:=.bool (within n.level 0 6)) (by kernel_rfl) rfl rfl rfl (fun w_ hs_=>spec_l1In w_ _ _ _) (r2_ ik 3 [1,0] rfl (not_f h2) (not_f h2) ?_)))
    by_cases h3 : within n.level 0 6 = true
    · refine r2_ ik 2 [1,1,0,0] rfl (not_f h3) (not_f h3) (gw rfl rfl (not_f h3) (cs_ (v:=.bool (within n.nsn 0 100000)) (by kernel_rfl) rfl rfl rfl (fun w_ hs_=>spec_l1In w_ _ _ _) (r2_ ik 3 [1,0] rfl (not_f h3) (not_f h3) ?_)))
      by_cases h4 : within n.nsn 0 100000 = true
      · refine r2_ ik 2 [1,1,0,0] rfl (not_f h4) (not_f h4) (gw rfl rfl (not_f h4) (cs_ (v:=.bool (within n.right (-1) 39)) (by kernel_rfl) rfl rfl rfl (fun w_ hs_=>spec_l1In w_ _ _ _) (r2_ ik 4 [1,0] rfl (not_f h4) (not_f h4) ?_)))
        by_cases h5 : within n.right (-1) 39 = true
        · refine r1_ ik 12 [0,0,0] rfl (not_f h5) ?_
          by_cases h6 : (5 : Int) < ((n.entries.length : Nat) : Int)
          · refine r1_ ik 8 [1] rfl (decide_eq_true h6) (ret1 rfl rfl (fun w_ hs_=>⟨?_,hs_.below⟩))
            exact ri (by grind [nodeFault,isDims])
          · refine r1_ ik 10 [0] rfl (decide_eq_false h6) ?_
            refine lp (σ:=Nat) (fun k : Nat=>[(1,.int .i64 dims),(2,.pointer (some ⟨b1,0,none⟩)),(5,.int .i64 ((k : Nat) : Int))])
                (fun k : Nat=>[blk b1 [.int .i64 n.level,.int .i64 n.nsn,.int .i64 n.right,.slice An3 n.entries.length cn3] 52,dat kNodeS [.int .i64 n.level,.int .i64 n.nsn,.int .i64 n.right,.slice An3 n.entries.length cn3] n ([]) sn_])
                (fun k : Nat=>k ≤ n.entries.length ∧ ∀ j x,j < k → n.entries[j]? = some x → entryFault x dims = 0) (fun k : Nat=>n.entries.length - k) 0 [0,0] ⟨Nat.zero_le _,by simp⟩ ⟨rfl,rfl,rfl,trivial⟩ rfl ?_
            intro k hp_
            obtain ⟨hk,hinv⟩:=hp_
            refine rn ik 10 [0,0] rfl ?_
            by_cases h7 : ((k : Nat) : Int) < ((n.entries.length : Nat) : Int)
            · refine r1_ ik 10 [1,0,0] rfl (decide_eq_true h7) ?_
              refine gd 1 kNodeS_p3_1 rfl (cs':=[.slice An3 n.entries.length cn3]) rfl fun s8 w_ rs8 us8=>?_
              have Ls8:=Kd.sl_len rs8; have Cs8:=Kd.sl_cap rs8
              refine gx 0 k rfl (by omega) fun y14 p9 cs_ s10 w13 m15 e11 r12 us10=>?_
              obtain ⟨A16,c17,A18,c19,rfl⟩:=kEntryS_sh r12
              refine vl (ix k e11 rfl rfl rfl rfl rfl (by omega)) rfl (m_ rfl rfl (cs_ (v:=.int .i64 (entryFault y14 dims)) (by kernel_rfl) rfl rfl rfl (fun w_ hs_=>spec_l3Entry w_ _ (hs_.at 0 rfl)) (rn ik 9 [] rfl ?_)))
              by_cases h20 : (entryFault y14 dims) = (0 : Int)
              · exact r1_ ik 6 [0] rfl (bne_eq_false_iff_eq.2 h20) (vl (ra (c:=((k + 1 : Nat) : Int)) rfl rfl rfl (by omega) (by omega) (by omega)) rfl (rn ik 2 [] rfl (lpe (s:=k) (k + 1) [2,2] ⟨by omega,zero_step (f:=fun e=>entryFault e dims) hinv m15 (by grind [entryFault,entryRange])⟩ (by omega) ⟨rfl,rfl,rfl,trivial⟩ rfl)))
              · refine r1_ ik 13 [1] rfl (bne_iff_ne.2 h20) (ret1 rfl rfl (fun w_ hs_=>⟨?_,hs_.below⟩))
                exact ri (by have z:=firstFault_at (f:=fun e=>entryFault e dims) hinv m15 (by grind [entryFault,entryRange]); grind [nodeFault,entryFault,entryRange,isDims])
            · refine r1_ ik 13 [0] rfl (decide_eq_false h7) ?_
              refine lp (σ:=Nat) (fun k2 : Nat=>[(2,.pointer (some ⟨b1,0,none⟩)),(7,.int .i64 ((k2 : Nat) : Int))])
                  (fun k2 : Nat=>[blk b1 [.int .i64 n.level,.int .i64 n.nsn,.int .i64 n.right,.slice An3 n.entries.length cn3] 52,dat kNodeS [.int .i64 n.level,.int .i64 n.nsn,.int .i64 n.right,.slice An3 n.entries.length cn3] n ([]) sn_])
                  (fun k2 : Nat=>k2 ≤ n.entries.length ∧ ∀ j x,j < k2 → n.entries[j]? = some x → (!isForm n.level x) = false) (fun k2 : Nat=>n.entries.length - k2) 0 [0,0] ⟨Nat.zero_le _,by simp⟩ ⟨rfl,rfl,trivial⟩ rfl ?_
              intro k2 hp_
              obtain ⟨hk2,hinv2⟩:=hp_
              refine rn ik 10 [0,0] rfl ?_
              by_cases h21 : ((k2 : Nat) : Int) < ((n.entries.length : Nat) : Int)
              · refine r1_ ik 6 [1] rfl (decide_eq_true h21) ?_
                refine gd 1 kNodeS_p3_1 rfl (cs':=[.slice An3 n.entries.length cn3]) rfl fun s22 w_ rs22 us22=>?_
                have Ls22:=Kd.sl_len rs22; have Cs22:=Kd.sl_cap rs22
                refine gx 0 k2 rfl (by omega) fun y28 p23 cs_ s24 w27 m29 e25 r26 us24=>?_
                obtain ⟨A30,c31,A32,c33,rfl⟩:=kEntryS_sh r26
                refine rn ik 6 [1,2,2,0,3,4,2,0,5] rfl (qv 5 rfl (ix k2 e25 rfl rfl rfl rfl rfl (by omega)) rfl (by kernel_rfl) (q1 6 [0,0,0,0] rfl (by kernel_rfl) rfl (cs_ (v:=.bool (isForm n.level y28)) (by kernel_rfl) rfl rfl rfl (fun w_ hs_=>by exact spec_l3Fits w_ _ (hs_.at 0 rfl)) (qn (r1_ ik 3 [8,0] rfl ⟨[0,0,0,0],rfl⟩ ?_)))))
                by_cases h34 : isForm n.level y28 = true
                · exact r1_ ik 6 [0] rfl (not_f h34) (vl (ra (c:=((k2 + 1 : Nat) : Int)) rfl rfl rfl (by omega) (by omega) (by omega)) rfl (rn ik 2 [] rfl (lpe (s:=k2) (k2 + 1) [2,2] ⟨by omega,idx_step (p:=fun e=>!isForm n.level e) hinv2 m29 (not_f h34)⟩ (by omega) ⟨rfl,rfl,trivial⟩ rfl)))
                · refine r1_ ik 12 [1] rfl (not_t (Bool.eq_false_iff.2 h34)) (ret1 rfl rfl (fun w_ hs_=>⟨?_,hs_.below⟩))
                  exact ri (by have z:=firstFault_0 (f:=fun e=>entryFault e dims) hinv (by omega); have q:=any_some (p:=fun e=>!isForm n.level e) m29 (not_t (Bool.eq_false_iff.2 h34)); grind [nodeFault,isDims])
              · refine r1_ ik 13 [0] rfl (decide_eq_false h21) ?_
                refine lp (σ:=Nat) (fun k3 : Nat=>[(2,.pointer (some ⟨b1,0,none⟩)),(8,.int .i64 ((k3 : Nat) : Int))])
                    (fun k3 : Nat=>[blk b1 [.int .i64 n.level,.int .i64 n.nsn,.int .i64 n.right,.slice An3 n.entries.length cn3] 52,dat kNodeS [.int .i64 n.level,.int .i64 n.nsn,.int .i64 n.right,.slice An3 n.entries.length cn3] n ([]) sn_])
                    (fun k3 : Nat=>k3 ≤ n.entries.length ∧ Uniq Entry.ref (n.entries.take k3)) (fun k3 : Nat=>n.entries.length - k3) 0 [0,0] ⟨Nat.zero_le _,by simpa using Uniq.nil⟩ ⟨rfl,rfl,trivial⟩ rfl ?_
                intro k3 hp_
                obtain ⟨hk3,hinv3⟩:=hp_
                refine rn ik 10 [0,0] rfl ?_
                by_cases h35 : ((k3 : Nat) : Int) < ((n.entries.length : Nat) : Int)
                · refine r1_ ik 6 [1] rfl (decide_eq_true h35) ?_
                  refine gd 1 kNodeS_p3_1 rfl (cs':=[.slice An3 n.entries.length cn3]) rfl fun s36 w_ rs36 us36=>?_
                  have Ls36:=Kd.sl_len rs36; have Cs36:=Kd.sl_cap rs36
                  refine gx 0 k3 rfl (by omega) fun y42 p37 cs_ s38 w41 m43 e39 r40 us38=>?_
                  obtain ⟨A44,c45,A46,c47,rfl⟩:=kEntryS_sh r40
                  refine rn ik 6 [1,2,2,0,3,4,2,0,5] rfl (qv 5 rfl (ix k3 e39 rfl rfl rfl rfl rfl (by omega)) rfl (by kernel_rfl) (rn ik 3 [7,8,0,3,10] rfl (q1 8 [0,0,0,0] rfl (by kernel_rfl) rfl (cs_ (v:=.int .i64 (idx (fun (x0 : Entry)=>x0.ref == y42.ref) n.entries)) (by kernel_rfl) rfl rfl rfl (fun w_ hs_=>by exact spec_l3Find w_ _ (hs_.at 1 rfl)) (qn (r1_ ik 3 [11,0] rfl ⟨[0,0,0,0],rfl⟩ ?_))))))
                  by_cases h48 : (idx (fun (x0 : Entry)=>x0.ref == y42.ref) n.entries) = ((k3 : Nat) : Int)
                  · exact r1_ ik 6 [0] rfl (bne_eq_false_iff_eq.2 h48) (vl (ra (c:=((k3 + 1 : Nat) : Int)) rfl rfl rfl (by omega) (by omega) (by omega)) rfl (rn ik 2 [] rfl (lpe (s:=k3) (k3 + 1) [2,2] ⟨by omega,uniq_step2 hinv3 m43 h48⟩ (by omega) ⟨rfl,rfl,trivial⟩ rfl)))
                  · refine r1_ ik 12 [1] rfl (bne_iff_ne.2 h48) (ret1 rfl rfl (fun w_ hs_=>⟨?_,hs_.below⟩))
                    exact ri (by have z:=firstFault_0 (f:=fun e=>entryFault e dims) hinv (by omega); have y:=uniq_no2 (f:=Entry.ref) m43 h48; have q:=any_none (p:=fun e=>!isForm n.level e) hinv2 (by omega); grind [nodeFault,isDims])
                · refine r1_ ik 12 [0] rfl (decide_eq_false h35) (ret1 rfl rfl (fun w_ hs_=>⟨?_,hs_.below⟩))
                  exact ri (by have z:=firstFault_0 (f:=fun e=>entryFault e dims) hinv (by omega); have y:=uniq_end hinv3 (by omega); have q:=any_none (p:=fun e=>!isForm n.level e) hinv2 (by omega); grind [nodeFault,isDims])
        · refine r1_ ik 8 [1] rfl (not_t (Bool.eq_false_iff.2 h5)) (ret1 rfl rfl (fun w_ hs_=>⟨?_,hs_.below⟩))
          exact ri (by grind [nodeFault,isDims])
      · refine rp ik 15 [0,0,0,0,1,1] rfl ⟨rfl,(not_t (Bool.eq_false_iff.2 h4)),(not_t (Bool.eq_false_iff.2 h4)),(not_t (Bool.eq_false_iff.2 h4)),(not_t (Bool.eq_false_iff.2 h4)),(not_t (Bool.eq_false_iff.2 h4)),⟨⟩⟩ (ret1 rfl rfl (fun w_ hs_=>⟨?_,hs_.below⟩))
        exact ri (by grind [nodeFault,isDims])
    · refine rp ik 21 [0,0,0,0,1,0,0,0,0,1,1] rfl ⟨rfl,rfl,rfl,rfl,rfl,rfl,(not_t (Bool.eq_false_iff.2 h3)),(not_t (Bool.eq_false_iff.2 h3)),(not_t (Bool.eq_false_iff.2 h3)),(not_t (Bool.eq_false_iff.2 h3)),(not_t (Bool.eq_false_iff.2 h3)),⟨⟩⟩ (ret1 rfl rfl (fun w_ hs_=>⟨?_,hs_.below⟩))
      exact ri (by grind [nodeFault,isDims])
  · refine rp ik 27 [0,0,0,0,1,0,0,0,0,1,0,0,0,0,1,1] rfl ⟨rfl,rfl,rfl,rfl,rfl,rfl,rfl,rfl,rfl,rfl,rfl,(not_t (Bool.eq_false_iff.2 h2)),(not_t (Bool.eq_false_iff.2 h2)),(not_t (Bool.eq_false_iff.2 h2)),(not_t (Bool.eq_false_iff.2 h2)),(not_t (Bool.eq_false_iff.2 h2)),⟨⟩⟩ (ret1 rfl rfl (fun w_ hs_=>⟨?_,hs_.below⟩))
    exact ri (by grind [nodeFault,isDims])
end Go.Proofs.YtjdkfibeogiekaaGreat.Sx
