/- What functions of the program answer, each at every input that its row names; walked through their code. -/
import Derived.Test.YtfaflffdekoimaaGreatSy18
namespace Go.Proofs.YtfaflffdekoimaaGreat.Sx
open Go Go.RowKit Go.Proofs
set_option linter.unusedVariables false
set_option linter.unusedSimpArgs false
def tab19 : Tab := { size := [], off := [], elem := [] }
theorem tab_ok19 : tab19.check Tryz.prog = true := by kernel_rfl
noncomputable abbrev X19 (N : Nat) (w : World) : Cx := ⟨Tryz.prog, tab19, tab_ok19, wide, N, w, none, []⟩

/-! impl.nearFirst -/
set_option maxRecDepth 20000 in
set_option maxHeartbeats 2000000 in
theorem impl_nearFirst (w : World) {Ap : Option Addr} {cp : Nat} {p : List Int} {sp_ : List Nat} (hp : (Kd.sl Kd.i64).Rel w [.slice Ap p.length cp] p [] sp_)  : Calls Tryz.prog 112 #[.slice Ap p.length cp] w (BackMade 158 23 (.slice Ap p.length cp) w) := by
  have Lp := Kd.sl_len hp; have Cp := Kd.sl_cap hp
  refine fnc (X := X19 4 w) (args := [.slice Ap p.length cp]) (l := [(0, .slice Ap p.length cp)]) (G := [dat (Kd.sl Kd.i64) [.slice Ap p.length cp] p ([]) sp_]) Tryz.func112 rfl rfl rfl ⟨rfl, trivial⟩ (s0d hp (s0n w)).1 ?_
  refine sq (rg (bx rfl rfl rfl rfl ?_))
  intro b1
  exact a_ rfl rfl (en (nx (sq (rg (vl (mf rfl rfl rfl) rfl (a_ rfl rfl (en (nx (rt (retb 0 rfl rfl rfl))))))))))
end Go.Proofs.YtfaflffdekoimaaGreat.Sx
