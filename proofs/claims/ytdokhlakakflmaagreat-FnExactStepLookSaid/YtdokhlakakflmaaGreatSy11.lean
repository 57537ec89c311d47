/- What functions of the program answer, each at every input that its row names; walked through their code. -/
import Derived.Test.YtdokhlakakflmaaGreatSy10
namespace Go.Proofs.YtdokhlakakflmaaGreat.Sx
open Go Go.RowKit Go.Proofs
set_option linter.unusedVariables false
set_option linter.unusedSimpArgs false
def tab11 : Tab := { size := [], off := [], elem := [] }
theorem tab_ok11 : tab11.check Tryz.prog = true:=by kernel_rfl
noncomputable abbrev X11 (N : Nat) (w : World) : Cx := ⟨Tryz.prog, tab11, tab_ok11, wide, N, w, none, []⟩

set_option maxRecDepth 20000 in
set_option maxHeartbeats 2000000 in
theorem impl_nearFirst (w : World) {Ap : Option Addr} {cp : Nat} {p : List Int} {sp_ : List Nat} (hp : (Kd.sl Kd.i64).Rel w [.slice Ap p.length cp] p [] sp_)  : Calls Tryz.prog 149 #[.slice Ap p.length cp] w (BackMade 177 23 (.slice Ap p.length cp) w):=by
  have Lp:=Kd.sl_len hp; have Cp:=Kd.sl_cap hp
  refine fnc (X:=X11 4 w) (l:=[(0,.slice Ap p.length cp)]) Tryz.func149 rfl rfl rfl ⟨rfl,trivial⟩ (s0d hp (s0n w)).1 ?_
  refine sq (rg (bx rfl rfl rfl rfl ?_))
  intro b1
  exact a_ rfl rfl (en (nx (sq (rg (vl (mf rfl rfl rfl) rfl (a_ rfl rfl (en (nx (rt (retb 0 rfl rfl rfl))))))))))
def sortRen : Go.Shelf.Ren := ⟨fun | 6 => 148 | 14 => 175 | 15 => 176 | 20 => 188 | 21 => 189 | 22 => 190 | 23 => 191 | 24 => 192 | 25 => 193 | 26 => 194 | 27 => 195 | 28 => 196 | 29 => 197 | 46 => 202 | 47 => 203 | 48 => 204 | 49 => 205 | 50 => 206 | 57 => 208 | n => n, fun | 0 => 0 | 3 => 3 | 4 => 4 | 5 => 5 | 9 => 9 | 22 => 41 | 24 => 119 | 25 => 188 | 39 => 208 | 45 => 215 | 46 => 216 | 50 => 220 | 53 => 223 | 55 => 225 | 66 => 228 | 70 => 232 | 76 => 234 | 77 => 235 | n => n, fun n => n⟩
theorem sortLaid : SlLaysF0.n6 Tryz.prog sortRen:={
  mixed:=by kernel_rfl
  f6:=⟨Tryz.f148.name,by decide,Tryz.func148.trans (congrArg some (by kernel_rfl))⟩
  f14:=⟨Tryz.f175.name,by decide,Tryz.func175.trans (congrArg some (by kernel_rfl))⟩
  f15:=Tryz.func176.trans (congrArg some (by kernel_rfl))
  f20:=⟨Tryz.f188.name,by decide,Tryz.func188.trans (congrArg some (by kernel_rfl))⟩
  f21:=⟨Tryz.f189.name,by decide,Tryz.func189.trans (congrArg some (by kernel_rfl))⟩
  f22:=⟨Tryz.f190.name,by decide,Tryz.func190.trans (congrArg some (by kernel_rfl))⟩
  f23:=⟨Tryz.f191.name,by decide,Tryz.func191.trans (congrArg some (by kernel_rfl))⟩
  f24:=⟨Tryz.f192.name,by decide,Tryz.func192.trans (congrArg some (by kernel_rfl))⟩
  f25:=⟨Tryz.f193.name,by decide,Tryz.func193.trans (congrArg some (by kernel_rfl))⟩
  f26:=⟨Tryz.f194.name,by decide,Tryz.func194.trans (congrArg some (by kernel_rfl))⟩
  f27:=⟨Tryz.f195.name,by decide,Tryz.func195.trans (congrArg some (by kernel_rfl))⟩
  f28:=Tryz.func196.trans (congrArg some (by kernel_rfl))
  f29:=Tryz.func197.trans (congrArg some (by kernel_rfl))
  f46:=⟨Tryz.f202.name,by decide,Tryz.func202.trans (congrArg some (by kernel_rfl))⟩
  f47:=Tryz.func203.trans (congrArg some (by kernel_rfl))
  f48:=Tryz.func204.trans (congrArg some (by kernel_rfl))
  f49:=⟨Tryz.f205.name,by decide,Tryz.func205.trans (congrArg some (by kernel_rfl))⟩
  f50:=⟨Tryz.f206.name,by decide,Tryz.func206.trans (congrArg some (by kernel_rfl))⟩
  f57:=⟨Tryz.f208.name,by decide,Tryz.func208.trans (congrArg some (by kernel_rfl))⟩
  t0:=Tryz.underlying0
  a0:=Tryz.isAgg0
  z0:=Tryz.sizeOf0
  v0:=Tryz.zeroValue0
  t3:=Tryz.underlying3
  a3:=Tryz.isAgg3
  z3:=Tryz.sizeOf3
  v3:=Tryz.zeroValue3
  t4:=Tryz.underlying4
  a4:=Tryz.isAgg4
  z4:=Tryz.sizeOf4
  v4:=Tryz.zeroValue4
  t5:=Tryz.underlying5
  a5:=Tryz.isAgg5
  z5:=Tryz.sizeOf5
  v5:=Tryz.zeroValue5
  t9:=Tryz.underlying9
  a9:=Tryz.isAgg9
  z9:=Tryz.sizeOf9
  v9:=Tryz.zeroValue9
  t22:=Tryz.underlying41
  a22:=Tryz.isAgg41
  z22:=Tryz.sizeOf41
  v22:=Tryz.zeroValue41
  t25:=Tryz.underlying188
  a25:=Tryz.isAgg188
  z25:=Tryz.sizeOf188
  v25:=Tryz.zeroValue188
  t39:=Tryz.underlying208
  a39:=Tryz.isAgg208
  z39:=Tryz.sizeOf208
  v39:=Tryz.zeroValue208
  t45:=Tryz.underlying215
  a45:=Tryz.isAgg215
  z45:=Tryz.sizeOf215
  v45:=Tryz.zeroValue215
  t46:=Tryz.underlying216
  a46:=Tryz.isAgg216
  z46:=Tryz.sizeOf216
  v46:=Tryz.zeroValue216
  t50:=Tryz.underlying220
  a50:=Tryz.isAgg220
  z50:=Tryz.sizeOf220
  v50:=Tryz.zeroValue220
  t53:=Tryz.underlying223
  a53:=Tryz.isAgg223
  z53:=Tryz.sizeOf223
  v53:=Tryz.zeroValue223
  t55:=Tryz.underlying225
  a55:=Tryz.isAgg225
  z55:=Tryz.sizeOf225
  v55:=Tryz.zeroValue225
  t66:=Tryz.underlying228
  a66:=Tryz.isAgg228
  z66:=Tryz.sizeOf228
  v66:=Tryz.zeroValue228
  t70:=Tryz.underlying232
  a70:=Tryz.isAgg232
  z70:=Tryz.sizeOf232
  v70:=Tryz.zeroValue232
  t76:=Tryz.underlying234
  a76:=Tryz.isAgg234
  z76:=Tryz.sizeOf234
  v76:=Tryz.zeroValue234
  t77:=Tryz.underlying235
  a77:=Tryz.isAgg235
  z77:=Tryz.sizeOf235
  v77:=Tryz.zeroValue235 }
theorem sort_pairs (w : World) (cmp : Pair → Pair → Int) {fcmp : FuncId} {cfcmp : List Value} (hEcmp : enters Tryz.prog fcmp = true) {Asrc : Option Addr} {csrc : Nat} {src : List (Tg Pair)} {nsrc : Nat} {osrc_ ssrc_ : List Nat} (hst : St (nul w) w [dat (Kd.row 119 kPairT) [.slice Asrc nsrc csrc] src osrc_ ssrc_])
    (hfcmp : ∀ (w1 : World) (x0 x1 : Pair),x0 ∈ src.map (·.1) → x1 ∈ src.map (·.1) → Mod w w1 osrc_ → ∀ (A0_1 : Option Addr) (c0_1 : Nat) (A0_2 : Option Addr) (c0_2 : Nat) (A1_1 : Option Addr) (c1_1 : Nat) (A1_2 : Option Addr) (c1_2 : Nat),∀ s0_ : List Nat,kPairS.Rel w1 [.int .i64 x0.id,.slice A0_1 x0.rect.low.length c0_1,.slice A0_2 x0.rect.high.length c0_2] x0 [] s0_ → ∀ s1_ : List Nat,kPairS.Rel w1 [.int .i64 x1.id,.slice A1_1 x1.rect.low.length c1_1,.slice A1_2 x1.rect.high.length c1_2] x1 [] s1_ → Calls Tryz.prog fcmp (([.agg #[.int .i64 x0.id,.slice A0_1 x0.rect.low.length c0_1,.slice A0_2 x0.rect.high.length c0_2],.agg #[.int .i64 x1.id,.slice A1_1 x1.rect.low.length c1_1,.slice A1_2 x1.rect.high.length c1_2]] : List Value) ++ cfcmp).toArray w1 (fun e_ w2_=>e_ = .returned (.int .i64 (cmp x0 x1)) ∧ Below w1.heap.size w1 w2_))
    (hO : Go.Sort.SWO (ltOf cmp)) (hu : ∀ x ∈ src,∀ y ∈ src,ltOf cmp x.1 y.1 = false → ltOf cmp y.1 x.1 = false → x = y) (hsm : src.length < 1000000) (hnsrc : nsrc = src.length) :
    Calls Tryz.prog 148 #[.slice Asrc nsrc csrc,.func (.func fcmp) #[] cfcmp.toArray] w (TurnO (Kd.row 119 kPairT) [.slice Asrc nsrc csrc] (.tuple #[]) w osrc_ (src.mergeSort (fun x y=>!ltOf cmp y.1 x.1)) ssrc_):=by
  subst hnsrc
  refine sort_tag (ρ:=sortRen) sortLaid kPairS kPairS_pure (fun w=>Tryz.isAgg119 w) (fun w=>Tryz.sizeOf119 w) (by decide) w cmp hEcmp hO hst hu hsm (fun w1 x0 x1 m0 m1 b s0 s1 r0 r1=>?_)
  obtain ⟨A1,c1,A2,c2,e0⟩:=kPairS_sh r0
  obtain ⟨A3,c3,A4,c4,e1⟩:=kPairS_sh r1
  rw [e0] at r0 ⊢; rw [e1] at r1 ⊢
  exact hfcmp w1 x0.1 x1.1 (List.mem_map_of_mem m0) (List.mem_map_of_mem m1) b _ _ _ _ _ _ _ _ _ r0 _ r1
end Go.Proofs.YtdokhlakakflmaaGreat.Sx
