/- What functions of the program answer, each at every input that its row names; walked through their code. -/
import Derived.Test.YtjdkfibeogiekaaGreatSy10
namespace Go.Proofs.YtjdkfibeogiekaaGreat.Sx
open Go Go.RowKit Go.Proofs
set_option linter.unusedVariables false
set_option linter.unusedSimpArgs false
set_option maxRecDepth 20000
set_option maxHeartbeats 2000000
def tab11 : Tab := { size := [], off := [], elem := [] }
theorem tab_ok11 : tab11.check Tryz.prog = true:=by kernel_rfl
noncomputable abbrev X11 (N : Nat) (w : World) : Cx := ⟨Tryz.prog, tab11, tab_ok11, wide, N, w, none, []⟩

theorem impl_nearFirst (w : World) {Ap : Option Addr} {cp : Nat} {p : List Int} {sp_ : List Nat} (hp : (Kd.sl Kd.i64).Rel w [.slice Ap p.length cp] p [] sp_)  : Calls Tryz.prog 256 #[.slice Ap p.length cp] w (BackMade 292 37 (.slice Ap p.length cp) w):=by
  have Lp:=Kd.sl_len hp; have Cp:=Kd.sl_cap hp
  refine fnc (X:=X11 4 w) (l:=[(0,.slice Ap p.length cp)]) Tryz.func256 rfl rfl rfl ⟨rfl,trivial⟩ (s0d hp (s0n w)).1 ?_
  refine sq (rg (bx rfl rfl rfl rfl ?_))
  intro b1
  exact rn ik 5 [] rfl (vl (mf rfl rfl rfl) rfl (rn ik 4 [] rfl (retb 0 rfl rfl rfl)))
def sortRen : Go.Shelf.Ren := ⟨fun | 6 => 255 | 14 => 291 | 15 => 279 | 20 => 314 | 21 => 315 | 22 => 316 | 23 => 317 | 24 => 318 | 25 => 319 | 26 => 320 | 27 => 321 | 28 => 309 | 29 => 310 | 46 => 331 | 47 => 327 | 48 => 328 | 49 => 332 | 50 => 333 | 57 => 337 | n => n, fun | 0 => 0 | 3 => 3 | 4 => 4 | 5 => 5 | 9 => 9 | 22 => 75 | 24 => 208 | 25 => 277 | 39 => 290 | 45 => 304 | 46 => 305 | 50 => 310 | 53 => 313 | 55 => 315 | 66 => 327 | 70 => 331 | 76 => 335 | 77 => 236 | n => n, fun n => n⟩
theorem sortLaid : SlLaysF0.n6 Tryz.prog sortRen:={
  mixed:=by kernel_rfl
  f6:=⟨Tryz.f255.name,by decide,Tryz.func255.trans (congrArg some (by kernel_rfl))⟩
  f14:=⟨Tryz.f291.name,by decide,Tryz.func291.trans (congrArg some (by kernel_rfl))⟩
  f15:=Tryz.func279.trans (congrArg some (by kernel_rfl))
  f20:=⟨Tryz.f314.name,by decide,Tryz.func314.trans (congrArg some (by kernel_rfl))⟩
  f21:=⟨Tryz.f315.name,by decide,Tryz.func315.trans (congrArg some (by kernel_rfl))⟩
  f22:=⟨Tryz.f316.name,by decide,Tryz.func316.trans (congrArg some (by kernel_rfl))⟩
  f23:=⟨Tryz.f317.name,by decide,Tryz.func317.trans (congrArg some (by kernel_rfl))⟩
  f24:=⟨Tryz.f318.name,by decide,Tryz.func318.trans (congrArg some (by kernel_rfl))⟩
  f25:=⟨Tryz.f319.name,by decide,Tryz.func319.trans (congrArg some (by kernel_rfl))⟩
  f26:=⟨Tryz.f320.name,by decide,Tryz.func320.trans (congrArg some (by kernel_rfl))⟩
  f27:=⟨Tryz.f321.name,by decide,Tryz.func321.trans (congrArg some (by kernel_rfl))⟩
  f28:=Tryz.func309.trans (congrArg some (by kernel_rfl))
  f29:=Tryz.func310.trans (congrArg some (by kernel_rfl))
  f46:=⟨Tryz.f331.name,by decide,Tryz.func331.trans (congrArg some (by kernel_rfl))⟩
  f47:=Tryz.func327.trans (congrArg some (by kernel_rfl))
  f48:=Tryz.func328.trans (congrArg some (by kernel_rfl))
  f49:=⟨Tryz.f332.name,by decide,Tryz.func332.trans (congrArg some (by kernel_rfl))⟩
  f50:=⟨Tryz.f333.name,by decide,Tryz.func333.trans (congrArg some (by kernel_rfl))⟩
  f57:=⟨Tryz.f337.name,by decide,Tryz.func337.trans (congrArg some (by kernel_rfl))⟩
  t0:=Tryz.underlying0
  a0:=Tryz.isAgg0
  z0:=Tryz.sizeOf0
  v0:=Tryz.zeroValue0
  t3:=Tryz.underlying3
  a3:=Tryz.isAgg3
  z3:=Tryz.sizeOf3
  v3:=Tryz.zeroValue3
  t4:=Tryz.underlying4
  a4:=Tryz.isAgg4
  z4:=Tryz.sizeOf4
  v4:=Tryz.zeroValue4
  t5:=Tryz.underlying5
  a5:=Tryz.isAgg5
  z5:=Tryz.sizeOf5
  v5:=Tryz.zeroValue5
  t9:=Tryz.underlying9
  a9:=Tryz.isAgg9
  z9:=Tryz.sizeOf9
  v9:=Tryz.zeroValue9
  t22:=Tryz.underlying75
  a22:=Tryz.isAgg75
  z22:=Tryz.sizeOf75
  v22:=Tryz.zeroValue75
  t25:=Tryz.underlying277
  a25:=Tryz.isAgg277
  z25:=Tryz.sizeOf277
  v25:=Tryz.zeroValue277
  t39:=Tryz.underlying290
  a39:=Tryz.isAgg290
  z39:=Tryz.sizeOf290
  v39:=Tryz.zeroValue290
  t45:=Tryz.underlying304
  a45:=Tryz.isAgg304
  z45:=Tryz.sizeOf304
  v45:=Tryz.zeroValue304
  t46:=Tryz.underlying305
  a46:=Tryz.isAgg305
  z46:=Tryz.sizeOf305
  v46:=Tryz.zeroValue305
  t50:=Tryz.underlying310
  a50:=Tryz.isAgg310
  z50:=Tryz.sizeOf310
  v50:=Tryz.zeroValue310
  t53:=Tryz.underlying313
  a53:=Tryz.isAgg313
  z53:=Tryz.sizeOf313
  v53:=Tryz.zeroValue313
  t55:=Tryz.underlying315
  a55:=Tryz.isAgg315
  z55:=Tryz.sizeOf315
  v55:=Tryz.zeroValue315
  t66:=Tryz.underlying327
  a66:=Tryz.isAgg327
  z66:=Tryz.sizeOf327
  v66:=Tryz.zeroValue327
  t70:=Tryz.underlying331
  a70:=Tryz.isAgg331
  z70:=Tryz.sizeOf331
  v70:=Tryz.zeroValue331
  t76:=Tryz.underlying335
  a76:=Tryz.isAgg335
  z76:=Tryz.sizeOf335
  v76:=Tryz.zeroValue335
  t77:=Tryz.underlying236
  a77:=Tryz.isAgg236
  z77:=Tryz.sizeOf236
  v77:=Tryz.zeroValue236 }
theorem sort_pairs (w : World) (cmp : Pair → Pair → Int) {fcmp : FuncId} {cfcmp : List Value} (hEcmp : enters Tryz.prog fcmp = true) {Asrc : Option Addr} {csrc : Nat} {src : List (Tg Pair)} {nsrc : Nat} {osrc_ ssrc_ : List Nat} (hst : St (nul w) w [dat (Kd.row 208 kPairT) [.slice Asrc nsrc csrc] src osrc_ ssrc_])
    (hfcmp : ∀ (w1 : World) (x0 x1 : Pair),x0 ∈ src.map (·.1) → x1 ∈ src.map (·.1) → Mod w w1 osrc_ → ∀ (A0_1 : Option Addr) (c0_1 : Nat) (A0_2 : Option Addr) (c0_2 : Nat) (A1_1 : Option Addr) (c1_1 : Nat) (A1_2 : Option Addr) (c1_2 : Nat),∀ s0_ : List Nat,kPairS.Rel w1 [.int .i64 x0.id,.slice A0_1 x0.rect.low.length c0_1,.slice A0_2 x0.rect.high.length c0_2] x0 [] s0_ → ∀ s1_ : List Nat,kPairS.Rel w1 [.int .i64 x1.id,.slice A1_1 x1.rect.low.length c1_1,.slice A1_2 x1.rect.high.length c1_2] x1 [] s1_ → Calls Tryz.prog fcmp (([.agg #[.int .i64 x0.id,.slice A0_1 x0.rect.low.length c0_1,.slice A0_2 x0.rect.high.length c0_2],.agg #[.int .i64 x1.id,.slice A1_1 x1.rect.low.length c1_1,.slice A1_2 x1.rect.high.length c1_2]] : List Value) ++ cfcmp).toArray w1 (fun e_ w2_=>e_ = .returned (.int .i64 (cmp x0 x1)) ∧ Below w1.heap.size w1 w2_))
    (hO : Go.Sort.SWO (ltOf cmp)) (hu : ∀ x ∈ src,∀ y ∈ src,ltOf cmp x.1 y.1 = false → ltOf cmp y.1 x.1 = false → x = y) (hsm : src.length < 1000000) (hnsrc : nsrc = src.length) :
    Calls Tryz.prog 255 #[.slice Asrc nsrc csrc,.func (.func fcmp) #[] cfcmp.toArray] w (TurnO (Kd.row 208 kPairT) [.slice Asrc nsrc csrc] (.tuple #[]) w osrc_ (src.mergeSort (fun x y=>!ltOf cmp y.1 x.1)) ssrc_):=by
  subst hnsrc
  refine sort_tag (ρ:=sortRen) sortLaid kPairS kPairS_pure (fun w=>Tryz.isAgg208 w) (fun w=>Tryz.sizeOf208 w) (by decide) w cmp hEcmp hO hst hu hsm (fun w1 x0 x1 m0 m1 b s0 s1 r0 r1=>?_)
  obtain ⟨A1,c1,A2,c2,e0⟩:=kPairS_sh r0
  obtain ⟨A3,c3,A4,c4,e1⟩:=kPairS_sh r1
  rw [e0] at r0 ⊢; rw [e1] at r1 ⊢
  exact hfcmp w1 x0.1 x1.1 (List.mem_map_of_mem m0) (List.mem_map_of_mem m1) b _ _ _ _ _ _ _ _ _ r0 _ r1
end Go.Proofs.YtjdkfibeogiekaaGreat.Sx
