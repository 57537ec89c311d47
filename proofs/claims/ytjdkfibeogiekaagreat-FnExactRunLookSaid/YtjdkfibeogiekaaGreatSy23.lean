/- What functions of the program answer, each at every input that its row names; walked through their code. -/
import Derived.Test.YtjdkfibeogiekaaGreatSy22
namespace Go.Proofs.YtjdkfibeogiekaaGreat.Sx
open Go Go.RowKit Go.Proofs
set_option linter.unusedVariables false
set_option linter.unusedSimpArgs false
set_option maxRecDepth 20000
set_option maxHeartbeats 2000000
def tab23 : Tab := { size := [(2, 1, false), (40, 4, true), (80, 8, true)], off := [((80, 0), 0), ((80, 1), 1), ((80, 2), 5), ((80, 3), 6), ((80, 4), 7)], elem := [] }
theorem tab_ok23 : tab23.check Tryz.prog = true:=by kernel_rfl
noncomputable abbrev X23 (N : Nat) (w : World) : Cx := ⟨Tryz.prog, tab23, tab_ok23, wide, N, w, none, []⟩

theorem impl_TreeFault (w : World) {At2 : Option Addr} {ct2 : Nat} {At3 : Option Addr} {ct3 : Nat} {At4 : Option Addr} {ct4 : Nat} {t : Tree} {st_ : List Nat} (ht : kTreeS.Rel w [.int .i64 t.style,.int .i64 t.arena.dims,.slice At2 t.arena.nodes.length ct2,.slice At3 t.arena.free.length ct3,.slice At4 t.arena.retired.length ct4,.int .i64 t.root,.int .i64 t.rootNsn,.int .i64 t.counter] t [] st_)  : Calls Tryz.prog 187 #[.agg #[.int .i64 t.style,.int .i64 t.arena.dims,.slice At2 t.arena.nodes.length ct2,.slice At3 t.arena.free.length ct3,.slice At4 t.arena.retired.length ct4,.int .i64 t.root,.int .i64 t.rootNsn,.int .i64 t.counter]] w (fun e_ w2_=>e_ = .returned (.int .i64 (treeFault t)) ∧ Below w.heap.size w w2_):=by
  refine fnc (X:=X23 34 w) (l:=[(0,.agg #[.int .i64 t.style,.int .i64 t.arena.dims,.slice At2 t.arena.nodes.length ct2,.slice At3 t.arena.free.length ct3,.slice At4 t.arena.retired.length ct4,.int .i64 t.root,.int .i64 t.rootNsn,.int .i64 t.counter])]) Tryz.func187 rfl rfl rfl ⟨rfl,trivial⟩ (s0d ht (s0n w)).1 ?_
  refine sq (rg (bx rfl rfl rfl rfl ?_))
  intro b1
  refine rn ik 7 [0,0] rfl ?_
  refine gd 1 kTreeS_p1_4 rfl (cs':=[.int .i64 t.arena.dims,.slice At2 t.arena.nodes.length ct2,.slice At3 t.arena.free.length ct3,.slice At4 t.arena.retired.length ct4]) rfl fun s2 w_ rs2 us2=>?_
  refine cs_ (v:=.int .i64 (arenaFault t.arena)) (by kernel_rfl) rfl rfl rfl (fun w_ hs_=>impl_ArenaFault w_ (hs_.at 0 rfl)) (rn ik 12 [] rfl ?_)
  by_cases h3 : (arenaFault t.arena) = (0 : Int)
  · refine r1_ ik 6 [0,1,0] rfl (bne_eq_false_iff_eq.2 h3) ?_
    refine cs_ (v:=.bool (isStyle t.style)) (by kernel_rfl) rfl rfl rfl (fun w_ hs_=>impl_isStyle w_ _) (rn ik 4 [] rfl ?_)
    by_cases h4 : isStyle t.style = true
    · refine r1_ ik 7 [0,1,0,1,0] rfl (not_f h4) ?_
      refine cs_ (v:=.bool (isPlace t.arena t.root)) (by kernel_rfl) rfl rfl rfl (fun w_ hs_=>impl_Arena_isPlace w_ _ (hs_.at 0 rfl)) (rn ik 4 [] rfl ?_)
      by_cases h5 : isPlace t.arena t.root = true
      · refine r1_ ik 5 [0,1,0] rfl (not_f h5) ?_
        refine cs_ (v:=.bool (within t.rootNsn 0 100000)) (by kernel_rfl) rfl rfl rfl (fun w_ hs_=>impl_isNsn w_ _) (rn ik 4 [] rfl ?_)
        by_cases h6 : within t.rootNsn 0 100000 = true
        · refine r1_ ik 4 [0,1,0] rfl (not_f h6) ?_
          refine cs_ (v:=.bool (within t.counter 0 100000)) (by kernel_rfl) rfl rfl rfl (fun w_ hs_=>impl_isNsn w_ _) (rn ik 4 [] rfl ?_)
          by_cases h7 : within t.counter 0 100000 = true
          · refine r1_ ik 4 [0,1,0] rfl (not_f h7) ?_
            refine cs_ (v:=.bool (treeRight t)) (by kernel_rfl) rfl rfl rfl (fun w_ hs_=>impl_Tree_isRight w_ (hs_.at 2 rfl) (arena_0 h3) h5) (rn ik 4 [] rfl ?_)
            by_cases h8 : treeRight t = true
            · refine r1_ ik 10 [0] rfl (not_f h8) (ret1 rfl rfl (fun w_ hs_=>⟨?_,hs_.below⟩))
              exact ri (by grind [treeFault,isStyle])
            · refine r1_ ik 9 [1] rfl (not_t (Bool.eq_false_iff.2 h8)) (ret1 rfl rfl (fun w_ hs_=>⟨?_,hs_.below⟩))
              exact ri (by grind [treeFault,isStyle])
          · refine r1_ ik 9 [1] rfl (not_t (Bool.eq_false_iff.2 h7)) (ret1 rfl rfl (fun w_ hs_=>⟨?_,hs_.below⟩))
            exact ri (by grind [treeFault,isStyle])
        · refine r2_ ik 12 [1,1] rfl (not_t (Bool.eq_false_iff.2 h6)) (not_t (Bool.eq_false_iff.2 h6)) (ret1 rfl rfl (fun w_ hs_=>⟨?_,hs_.below⟩))
          exact ri (by grind [treeFault,isStyle])
      · refine r2_ ik 12 [1,1] rfl (not_t (Bool.eq_false_iff.2 h5)) (not_t (Bool.eq_false_iff.2 h5)) (ret1 rfl rfl (fun w_ hs_=>⟨?_,hs_.below⟩))
        exact ri (by grind [treeFault,isStyle])
    · refine r2_ ik 12 [1,1] rfl (not_t (Bool.eq_false_iff.2 h4)) (not_t (Bool.eq_false_iff.2 h4)) (ret1 rfl rfl (fun w_ hs_=>⟨?_,hs_.below⟩))
      exact ri (by grind [treeFault,isStyle])
  · refine r1_ ik 10 [1] rfl (bne_iff_ne.2 h3) (ret1 rfl rfl (fun w_ hs_=>⟨?_,hs_.below⟩))
    exact ri (by grind [treeFault,isStyle])
end Go.Proofs.YtjdkfibeogiekaaGreat.Sx
