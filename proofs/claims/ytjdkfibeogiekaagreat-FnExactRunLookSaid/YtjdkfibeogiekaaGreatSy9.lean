/- What functions of the program answer, each at every input that its row names; walked through their code. -/
import Derived.Test.YtjdkfibeogiekaaGreatSy8
namespace Go.Proofs.YtjdkfibeogiekaaGreat.Sx
open Go Go.RowKit Go.Proofs
set_option linter.unusedVariables false
set_option linter.unusedSimpArgs false
set_option maxRecDepth 20000
set_option maxHeartbeats 2000000
def tab9 : Tab := { size := [(75, 1, false), (154, 1, false)], off := [((156, 1), 5), ((156, 2), 6)], elem := [(75, 208), (154, 210)] }
theorem tab_ok9 : tab9.check Tryz.prog = true:=by kernel_rfl
noncomputable abbrev X9 (N : Nat) (w : World) : Cx := ⟨Tryz.prog, tab9, tab_ok9, wide, N, w, none, []⟩

theorem impl_Look_isFull (w : World) {Al1 : Option Addr} {cl1 : Nat} {Al2 : Option Addr} {cl2 : Nat} {Al3 : Option Addr} {cl3 : Nat} {Al5 : Option Addr} {cl5 : Nat} {Al6 : Option Addr} {cl6 : Nat} {l : Look} {sl_ : List Nat} (hl : kLookS.Rel w [.int .i64 l.query.kind,.slice Al1 l.query.rect.low.length cl1,.slice Al2 l.query.rect.high.length cl2,.slice Al3 l.query.point.length cl3,.int .i64 l.query.k,.slice Al5 l.front.length cl5,.slice Al6 l.found.length cl6] l [] sl_)  : Calls Tryz.prog 198 #[.agg #[.int .i64 l.query.kind,.slice Al1 l.query.rect.low.length cl1,.slice Al2 l.query.rect.high.length cl2,.slice Al3 l.query.point.length cl3,.int .i64 l.query.k,.slice Al5 l.front.length cl5,.slice Al6 l.found.length cl6]] w (fun e_ w2_=>e_ = .returned (.bool (isFull l)) ∧ Below w.heap.size w w2_):=by
  have Ll5:=Kd.sub_len kLookS_p5_1 hl; have Cl5:=Kd.sub_cap kLookS_p5_1 hl rfl
  have Ll6:=Kd.sub_len kLookS_p6_1 hl; have Cl6:=Kd.sub_cap kLookS_p6_1 hl rfl
  refine fnc (X:=X9 13 w) (l:=[(0,.agg #[.int .i64 l.query.kind,.slice Al1 l.query.rect.low.length cl1,.slice Al2 l.query.rect.high.length cl2,.slice Al3 l.query.point.length cl3,.int .i64 l.query.k,.slice Al5 l.front.length cl5,.slice Al6 l.found.length cl6])]) Tryz.func198 rfl rfl rfl ⟨rfl,trivial⟩ (s0d hl (s0n w)).1 ?_
  refine sq (rg (bx rfl rfl rfl rfl ?_))
  intro b1
  refine rn ik 10 [0,0] rfl ?_
  by_cases h2 : (20000 : Int) < ((l.front.length : Nat) : Int)
  · refine rp ik 9 [0,0,0,0,1] rfl ⟨(decide_eq_true h2),(decide_eq_true h2),(decide_eq_true h2),(decide_eq_true h2),(decide_eq_true h2),⟨⟩⟩ (ret1 rfl rfl (fun w_ hs_=>⟨?_,hs_.below⟩))
    exact rb (by unfold isFull; grind)
  · refine rp ik 9 [1,1,0,0,1,1,0] rfl ⟨(decide_eq_false h2),(decide_eq_false h2),(decide_eq_false h2),(decide_eq_false h2),(decide_eq_false h2),⟨⟩⟩ (ret1 rfl rfl (fun w_ hs_=>⟨?_,hs_.below⟩))
    exact rb (by unfold isFull; grind)
end Go.Proofs.YtjdkfibeogiekaaGreat.Sx
