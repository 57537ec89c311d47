/- What functions of the program answer, each at every input that its row names; walked through their code. -/
import Derived.Test.YtjdkfibeogiekaaGreatSy25
namespace Go.Proofs.YtjdkfibeogiekaaGreat.Sx
open Go Go.RowKit Go.Proofs
set_option linter.unusedVariables false
set_option linter.unusedSimpArgs false
set_option maxRecDepth 20000
set_option maxHeartbeats 2000000
def tab26 : Tab := { size := [(40, 4, true)], off := [((80, 1), 1)], elem := [] }
theorem tab_ok26 : tab26.check Tryz.prog = true:=by kernel_rfl
noncomputable abbrev X26 (N : Nat) (w : World) : Cx := ⟨Tryz.prog, tab26, tab_ok26, wide, N, w, none, []⟩

structure IntsResult where
  code : Int
  ids : List Int
  deriving DecidableEq






















def mkV_Tree (k : Int) (a : Tree) : Tree := ⟨a.style, ⟨a.arena.dims, mkL mkE_Node cntE_Node (k) a.arena.nodes, mkL mI cI (k + (a.arena.nodes.map cntE_Node).sum) a.arena.free, mkL mkE_Retired cntE_Retired (k + (a.arena.nodes.map cntE_Node).sum + (a.arena.free.length : Int)) a.arena.retired⟩, a.root, a.rootNsn, a.counter⟩

theorem laws_markTree (w : World) (k : Int) {Aa2 : Option Addr} {ca2 : Nat} {Aa3 : Option Addr} {ca3 : Nat} {Aa4 : Option Addr} {ca4 : Nat} {a : Tree} {oa_ sa_ : List Nat} (hst : St (nul w) w [dat kTreeO [.int .i64 a.style,.int .i64 a.arena.dims,.slice Aa2 a.arena.nodes.length ca2,.slice Aa3 a.arena.free.length ca3,.slice Aa4 a.arena.retired.length ca4,.int .i64 a.root,.int .i64 a.rootNsn,.int .i64 a.counter] a oa_ sa_]) (hk0 : 0 ≤ k) (hk1 : k + (0 + (a.arena.nodes.map cntE_Node).sum + (a.arena.free.length : Int) + (a.arena.retired.map cntE_Retired).sum) ≤ 1152921504606846976) : Calls Tryz.prog 44 #[.agg #[.int .i64 a.style,.int .i64 a.arena.dims,.slice Aa2 a.arena.nodes.length ca2,.slice Aa3 a.arena.free.length ca3,.slice Aa4 a.arena.retired.length ca4,.int .i64 a.root,.int .i64 a.rootNsn,.int .i64 a.counter],.int .i64 k] w (TurnO kTreeO [.int .i64 a.style,.int .i64 a.arena.dims,.slice Aa2 a.arena.nodes.length ca2,.slice Aa3 a.arena.free.length ca3,.slice Aa4 a.arena.retired.length ca4,.int .i64 a.root,.int .i64 a.rootNsn,.int .i64 a.counter] (.int .i64 (k + (a.arena.nodes.map cntE_Node).sum + (a.arena.free.length : Int) + (a.arena.retired.map cntE_Retired).sum)) w oa_ (mkV_Tree k a) (sa_)):=by
  have zn0:=sum_nn cntE_Node_nn a.arena.nodes; have zn1:=sum_nn cntE_Retired_nn a.arena.retired
  refine fnc (X:=X26 10 (nul w)) (l:=[(0,.agg #[.int .i64 a.style,.int .i64 a.arena.dims,.slice Aa2 a.arena.nodes.length ca2,.slice Aa3 a.arena.free.length ca3,.slice Aa4 a.arena.retired.length ca4,.int .i64 a.root,.int .i64 a.rootNsn,.int .i64 a.counter]),(1,.int .i64 k)]) Tryz.func44 rfl rfl rfl ⟨rfl,rfl,trivial⟩ (⟨hst.fr oa_ (by simp [owns,dat,ptr]),trivial⟩ : _ ∧ True).1 ?_
  refine f1 (gsp (da:=(Kd.via Kd.i64 Tree.style)) rfl rfl (fun o1 o2 s3 s4 us3 us4=>?_))
  refine gv (f1 (gsp (da:=(Kd.via kArenaO Tree.arena)) rfl rfl (fun o5 o6 s7 s8 us7 us8=>?_)))
  refine gv (f1 (gsp (da:=(Kd.via Kd.i64 Tree.root)) rfl rfl (fun o9 o10 s11 s12 us11 us12=>?_)))
  refine gv (f1 (gsp (da:=(Kd.via Kd.i64 Tree.rootNsn)) rfl rfl (fun o13 o14 s15 s16 us15 us16=>?_)))
  refine gv (f1 (gv ?_))
  refine sq (rg (bx rfl rfl rfl rfl ?_))
  intro b17
  refine rn ik 8 [0,0] rfl (f4 (cto (dk:=kArenaO) (cs:=[.int .i64 a.arena.dims,.slice Aa2 a.arena.nodes.length ca2,.slice Aa3 a.arena.free.length ca3,.slice Aa4 a.arena.retired.length ca4]) (x:=(mkV_Arena k a.arena)) (v:=.int .i64 (k + (a.arena.nodes.map cntE_Node).sum + (a.arena.free.length : Int) + (a.arena.retired.map cntE_Retired).sum)) (S:=(s7)) (by kernel_rfl) rfl rfl rfl (snt 0 rfl) w.heap.size (fun w_ hs_=>(hs_.mod 6 rfl).size) (fun w_ hs_=>laws_markArena w_ _ ((hs_.pk [0] rfl).nl) (by omega) (by omega)) (fun o18 s19 t20=>?_)))
  exact rn ik 10 [] rfl (gs Kd.i64 [.int .i64 a.counter] ((mkV_Tree k a).counter) (fun _=>⟨rfl,rfl,rfl⟩) (gs Kd.i64 [.int .i64 a.rootNsn] ((mkV_Tree k a).rootNsn) (fun _=>⟨rfl,rfl,rfl⟩) (gj (da:=(Kd.via Kd.i64 Tree.rootNsn)) (db:=(Kd.via Kd.i64 Tree.counter)) (x:=(mkV_Tree k a)) rfl (gs Kd.i64 [.int .i64 a.root] ((mkV_Tree k a).root) (fun _=>⟨rfl,rfl,rfl⟩) (gj (da:=(Kd.via Kd.i64 Tree.root)) (db:=((Kd.via Kd.i64 Tree.rootNsn).cat (Kd.via Kd.i64 Tree.counter))) (x:=(mkV_Tree k a)) rfl (f1 (gj (da:=(Kd.via kArenaO Tree.arena)) (db:=((Kd.via Kd.i64 Tree.root).cat ((Kd.via Kd.i64 Tree.rootNsn).cat (Kd.via Kd.i64 Tree.counter)))) (x:=(mkV_Tree k a)) rfl (gs Kd.i64 [.int .i64 a.style] ((mkV_Tree k a).style) (fun _=>⟨rfl,rfl,rfl⟩) (gj (da:=(Kd.via Kd.i64 Tree.style)) (db:=((Kd.via kArenaO Tree.arena).cat ((Kd.via Kd.i64 Tree.root).cat ((Kd.via Kd.i64 Tree.rootNsn).cat (Kd.via Kd.i64 Tree.counter))))) (x:=(mkV_Tree k a)) rfl (ret1 rfl rfl (fun w_ hs_=>turno hs_ 5 rfl (by exact vi (by omega)) (see_app see_nil (see_app (by grind) (see_app see_nil (see_app see_nil see_nil)))))))))))))))
theorem cntE_Entry_sz (e : Entry) : cntE_Entry e ≤ 32 * (1 + szEntry e):=by unfold cntE_Entry szEntry szRect; omega
theorem cntE_Retired_sz (e : Retired) : cntE_Retired e ≤ 32 * (1 + szRetired e):=by unfold cntE_Retired szRetired; omega
theorem cntE_Node_sz (n : Node) : cntE_Node n ≤ 32 * (1 + szNode n):=by
  have h1:=cnt_list cntE_Entry_sz n.entries
  unfold cntE_Node szNode; omega
theorem cntTree_sz (t : Tree) : 0 ≤ (t.arena.nodes.map cntE_Node).sum ∧ 0 ≤ (t.arena.retired.map cntE_Retired).sum ∧ (t.arena.nodes.map cntE_Node).sum + (t.arena.free.length : Int) + (t.arena.retired.map cntE_Retired).sum ≤ 32 * szTree t:=by
  have h1:=cnt_list cntE_Node_sz t.arena.nodes
  have h2:=cnt_list cntE_Retired_sz t.arena.retired
  refine ⟨sum_nn cntE_Node_nn _,sum_nn cntE_Retired_nn _,?_⟩
  unfold szTree szArena; omega

end Go.Proofs.YtjdkfibeogiekaaGreat.Sx
