/- What functions of the program answer, each at every input that its row names; walked through their code. -/
import Derived.Test.YtfaflffdekoimaaGreatSy7
namespace Go.Proofs.YtfaflffdekoimaaGreat.Sx
open Go Go.RowKit Go.Proofs
set_option linter.unusedVariables false
set_option linter.unusedSimpArgs false
def tab8 : Tab := { size := [(2, 1, false), (42, 4, true), (44, 8, true)], off := [((44, 0), 0), ((44, 1), 1), ((44, 2), 5), ((44, 3), 6), ((44, 4), 7)], elem := [] }
theorem tab_ok8 : tab8.check Tryz.prog = true := by kernel_rfl
noncomputable abbrev X8 (N : Nat) (w : World) : Cx := ⟨Tryz.prog, tab8, tab_ok8, wide, N, w, none, []⟩

/-! impl.TreeFault -/
set_option maxRecDepth 20000 in
set_option maxHeartbeats 2000000 in
theorem impl_TreeFault (w : World) {At2 : Option Addr} {ct2 : Nat} {At3 : Option Addr} {ct3 : Nat} {At4 : Option Addr} {ct4 : Nat} {t : Tree} {st_ : List Nat} (ht : kTreeS.Rel w [.int .i64 t.style, .int .i64 t.arena.dims, .slice At2 t.arena.nodes.length ct2, .slice At3 t.arena.free.length ct3, .slice At4 t.arena.retired.length ct4, .int .i64 t.root, .int .i64 t.rootNsn, .int .i64 t.counter] t [] st_)  : Calls Tryz.prog 27 #[.agg #[.int .i64 t.style, .int .i64 t.arena.dims, .slice At2 t.arena.nodes.length ct2, .slice At3 t.arena.free.length ct3, .slice At4 t.arena.retired.length ct4, .int .i64 t.root, .int .i64 t.rootNsn, .int .i64 t.counter]] w (fun e_ w2_ => e_ = .returned (.int .i64 (treeFault t)) ∧ Below w.heap.size w w2_) := by
  refine fnc (X := X8 34 w) (args := [.agg #[.int .i64 t.style, .int .i64 t.arena.dims, .slice At2 t.arena.nodes.length ct2, .slice At3 t.arena.free.length ct3, .slice At4 t.arena.retired.length ct4, .int .i64 t.root, .int .i64 t.rootNsn, .int .i64 t.counter]]) (l := [(0, .agg #[.int .i64 t.style, .int .i64 t.arena.dims, .slice At2 t.arena.nodes.length ct2, .slice At3 t.arena.free.length ct3, .slice At4 t.arena.retired.length ct4, .int .i64 t.root, .int .i64 t.rootNsn, .int .i64 t.counter])]) (G := [dat kTreeS [.int .i64 t.style, .int .i64 t.arena.dims, .slice At2 t.arena.nodes.length ct2, .slice At3 t.arena.free.length ct3, .slice At4 t.arena.retired.length ct4, .int .i64 t.root, .int .i64 t.rootNsn, .int .i64 t.counter] t ([]) st_]) Tryz.func27 rfl rfl rfl ⟨rfl, trivial⟩ (s0d ht (s0n w)).1 ?_
  refine sq (rg (bx rfl rfl rfl rfl ?_))
  intro b1
  refine a_ rfl rfl (en (nx (sq (rg (vl (fa rfl rfl rfl) rfl (vl (ldb 0 rfl rfl rfl rfl rfl rfl rfl) rfl ?_))))))
  refine gd 1 kTreeS_p1_4 rfl (cs' := [.int .i64 t.arena.dims, .slice At2 t.arena.nodes.length ct2, .slice At3 t.arena.free.length ct3, .slice At4 t.arena.retired.length ct4]) rfl fun s2 w_ rs2 us2 => ?_
  refine cs_ (v := .int .i64 (arenaFault t.arena)) (by kernel_rfl) rfl rfl rfl (fun w_ hs_ => impl_ArenaFault w_ (hs_.at 0 rfl)) (a_ rfl rfl (en (nx (sq (bk (sq (rg (m_ rfl rfl (vl (cm rfl rfl rfl rfl) rfl (a_ rfl rfl (en (nx ?_))))))))))))
  by_cases h3 : (arenaFault t.arena) = (0 : Int)
  · refine cf rfl (bne_eq_false_iff_eq.2 h3) (sq (sq (rg (vl (fa rfl rfl rfl) rfl (vl (ldb (u := .int .i64 t.style) 1 rfl rfl rfl rfl rfl rfl rfl) rfl ?_)))))
    refine cs_ (v := .bool (isStyle t.style)) (by kernel_rfl) rfl rfl rfl (fun w_ hs_ => impl_isStyle w_ _) (vl (nt rfl rfl) rfl (a_ rfl rfl (en (nx ?_))))
    by_cases h4 : isStyle t.style = true
    · refine cf rfl (not_f h4) (sq (rg (vl (fa rfl rfl rfl) rfl (vl (ldb 1 rfl rfl rfl rfl rfl rfl rfl) rfl (vl (fa rfl rfl rfl) rfl (vl (ldb (u := .int .i64 t.root) 1 rfl rfl rfl rfl rfl rfl rfl) rfl ?_))))))
      refine cs_ (v := .bool (isPlace t.arena t.root)) (by kernel_rfl) rfl rfl rfl (fun w_ hs_ => impl_Arena_isPlace w_ _ (hs_.at 0 rfl)) (vl (nt rfl rfl) rfl (a_ rfl rfl (en (nx ?_))))
      by_cases h5 : isPlace t.arena t.root = true
      · refine cf rfl (not_f h5) (sq (rg (vl (fa rfl rfl rfl) rfl (vl (ldb (u := .int .i64 t.rootNsn) 1 rfl rfl rfl rfl rfl rfl rfl) rfl ?_))))
        refine cs_ (v := .bool (within t.rootNsn 0 100000)) (by kernel_rfl) rfl rfl rfl (fun w_ hs_ => impl_isNsn w_ _) (vl (nt rfl rfl) rfl (a_ rfl rfl (en (nx ?_))))
        by_cases h6 : within t.rootNsn 0 100000 = true
        · refine cf rfl (not_f h6) (rg (vl (fa rfl rfl rfl) rfl (vl (ldb (u := .int .i64 t.counter) 1 rfl rfl rfl rfl rfl rfl rfl) rfl ?_)))
          refine cs_ (v := .bool (within t.counter 0 100000)) (by kernel_rfl) rfl rfl rfl (fun w_ hs_ => impl_isNsn w_ _) (vl (nt rfl rfl) rfl (a_ rfl rfl (en (nx ?_))))
          by_cases h7 : within t.counter 0 100000 = true
          · refine cf rfl (not_f h7) (sq (rg (vl (ldb 1 rfl rfl rfl rfl rfl rfl rfl) rfl ?_)))
            refine cs_ (v := .bool (treeRight t)) (by kernel_rfl) rfl rfl rfl (fun w_ hs_ => impl_Tree_isRight w_ (hs_.at 2 rfl) (arena_0 h3) h5) (vl (nt rfl rfl) rfl (a_ rfl rfl (en (nx ?_))))
            by_cases h8 : treeRight t = true
            · refine cf rfl (not_f h8) (sk (xn (nx (sq (rg (a_ rfl rfl (en (nx (rt (ret1 rfl rfl (fun w_ hs_ => ⟨?_, hs_.below⟩)))))))))))
              exact ri (by grind [treeFault, isStyle])
            · refine ct rfl (not_t (Bool.eq_false_iff.2 h8)) (sq (rg (a_ rfl rfl (en (nx (rt (xrb (xr (ret1 rfl rfl (fun w_ hs_ => ⟨?_, hs_.below⟩))))))))))
              exact ri (by grind [treeFault, isStyle])
          · refine ct rfl (not_t (Bool.eq_false_iff.2 h7)) (sq (rg (a_ rfl rfl (en (nx (rt (xrb (xr (ret1 rfl rfl (fun w_ hs_ => ⟨?_, hs_.below⟩))))))))))
            exact ri (by grind [treeFault, isStyle])
        · refine ct rfl (not_t (Bool.eq_false_iff.2 h6)) (sk (nx (ct rfl (not_t (Bool.eq_false_iff.2 h6)) (sq (rg (a_ rfl rfl (en (nx (rt (xrb (xr (ret1 rfl rfl (fun w_ hs_ => ⟨?_, hs_.below⟩)))))))))))))
          exact ri (by grind [treeFault, isStyle])
      · refine ct rfl (not_t (Bool.eq_false_iff.2 h5)) (sk (nx (ct rfl (not_t (Bool.eq_false_iff.2 h5)) (sq (rg (a_ rfl rfl (en (nx (rt (xrb (xr (ret1 rfl rfl (fun w_ hs_ => ⟨?_, hs_.below⟩)))))))))))))
        exact ri (by grind [treeFault, isStyle])
    · refine ct rfl (not_t (Bool.eq_false_iff.2 h4)) (sk (nx (ct rfl (not_t (Bool.eq_false_iff.2 h4)) (sq (rg (a_ rfl rfl (en (nx (rt (xrb (xr (ret1 rfl rfl (fun w_ hs_ => ⟨?_, hs_.below⟩)))))))))))))
      exact ri (by grind [treeFault, isStyle])
  · refine ct rfl (bne_iff_ne.2 h3) (sq (rg (m_ rfl rfl (a_ rfl rfl (en (nx (rt (xrb (xr (ret1 rfl rfl (fun w_ hs_ => ⟨?_, hs_.below⟩)))))))))))
    exact ri (by grind [treeFault, isStyle])
end Go.Proofs.YtfaflffdekoimaaGreat.Sx
