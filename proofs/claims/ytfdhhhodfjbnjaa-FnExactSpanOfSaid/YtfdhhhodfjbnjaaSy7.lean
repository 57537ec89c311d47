/- What functions of the program answer, each at every input that its row names; walked through their code. -/
import Derived.Test.YtfdhhhodfjbnjaaSy6
namespace Go.Proofs.Ytfdhhhodfjbnjaa.Sx
open Go Go.RowKit Go.Proofs
set_option linter.unusedVariables false
set_option linter.unusedSimpArgs false
def tab6 : Tab := { size := [], off := [], elem := [] }
theorem tab_ok6 : tab6.check Try.prog = true := by kernel_rfl
noncomputable abbrev X6 (N : Nat) (w : World) : Cx := ⟨Try.prog, tab6, tab_ok6, wide, N, w, none, []⟩

structure PairsResult where
  code : Int
  pairs : List Pair
  deriving DecidableEq
def kPairsResultS : Kd PairsResult := ((Kd.i64.via PairsResult.code).cat ((Kd.sl kPairS).via PairsResult.pairs))
theorem kPairsResultS_sh {w : World} {cs : List Value} {x : PairsResult} {o s : List Nat} (h : kPairsResultS.Rel w cs x o s) : ∃ (A1 : Option Addr) (c1 : Nat), cs = [.int .i64 x.code, .slice A1 x.pairs.length c1] := by
  obtain ⟨c10, c20, o10, o20, s10, s20, rfl, rfl, rfl, h0, k0⟩ := h
  obtain ⟨rfl, -, -⟩ := h0
  obtain ⟨-, A1_, c1_, rfl, -⟩ := k0
  exact ⟨_, _, rfl⟩
theorem kPairsResultS_p1_1 : Kd.Sub kPairsResultS 1 (Kd.sl kPairS) (fun x => x.pairs) := (Kd.Sub.right (Kd.Sub.rfl.via PairsResult.pairs) _)
theorem kPairsResultS_self : Kd.Seals kPairsResultS kPairsResultS := (Kd.Seals.cat (Kd.Seals.via Kd.Seals.i64 _) (Kd.Seals.via Kd.Seals.refl_sl _))
theorem kPairsResultS_pure : Kd.Pure kPairsResultS := (Kd.Pure.cat (Kd.Pure.via Kd.Pure.i64 _) (Kd.Pure.via (Kd.Pure.sl _) _))
def kPairsResultO : Kd PairsResult := ((Kd.i64.via PairsResult.code).cat ((Kd.row 53 kPairO).via PairsResult.pairs))
theorem kPairsResultO_sh {w : World} {cs : List Value} {x : PairsResult} {o s : List Nat} (h : kPairsResultO.Rel w cs x o s) : ∃ (A1 : Option Addr) (c1 : Nat), cs = [.int .i64 x.code, .slice A1 x.pairs.length c1] := by
  obtain ⟨c10, c20, o10, o20, s10, s20, rfl, rfl, rfl, h0, k0⟩ := h
  obtain ⟨rfl, -, -⟩ := h0
  obtain ⟨A1_, c1_, rfl⟩ := Kd.row_sh k0
  exact ⟨_, _, rfl⟩
theorem kPairsResultO_seal : Kd.Seals kPairsResultO kPairsResultS := (Kd.Seals.cat (Kd.Seals.via Kd.Seals.i64 _) (Kd.Seals.via (Kd.Seals.row kPairO_seal _) _))
theorem PairsResult_eq (a b : PairsResult) : decide (a = b) = (decide (a.code = b.code) && decide (a.pairs = b.pairs)) := by
  cases a; cases b; rw [Bool.eq_iff_iff]; simp [and_assoc]
theorem vi {k : IntKind} {a b : Int} (h : a = b) : Value.int k a = Value.int k b := by rw [h]
def mkE_Pair (k : Int) (a : Pair) : Pair := ⟨k, ⟨mkL mI cI (k + 1) a.rect.low, mkL mI cI (k + 1 + (a.rect.low.length : Int)) a.rect.high⟩⟩
def cntE_Pair (a : Pair) : Int := 0 + 1 + (a.rect.low.length : Int) + (a.rect.high.length : Int)
theorem cntE_Pair_nn (a : Pair) : 0 ≤ cntE_Pair a := by
  unfold cntE_Pair; omega
def mkV_PairsResult (k : Int) (a : PairsResult) : PairsResult := ⟨a.code, mkL mkE_Pair cntE_Pair (k) a.pairs⟩
def cntV_PairsResult (a : PairsResult) : Int := 0 + (a.pairs.map cntE_Pair).sum
theorem cntV_PairsResult_nn (a : PairsResult) : 0 ≤ cntV_PairsResult a := by
  have := sum_nn cntE_Pair_nn a.pairs
  unfold cntV_PairsResult; omega
def mkE_Note (k : Int) (a : Note) : Note := ⟨k, k + 1, k + 1 + 1, ⟨k + 1 + 1 + 1, ⟨k + 1 + 1 + 1 + 1, ⟨mkL mI cI (k + 1 + 1 + 1 + 1 + 1) a.op.pair.rect.low, mkL mI cI (k + 1 + 1 + 1 + 1 + 1 + (a.op.pair.rect.low.length : Int)) a.op.pair.rect.high⟩⟩, ⟨k + 1 + 1 + 1 + 1 + 1 + (a.op.pair.rect.low.length : Int) + (a.op.pair.rect.high.length : Int), ⟨mkL mI cI (k + 1 + 1 + 1 + 1 + 1 + (a.op.pair.rect.low.length : Int) + (a.op.pair.rect.high.length : Int) + 1) a.op.query.rect.low, mkL mI cI (k + 1 + 1 + 1 + 1 + 1 + (a.op.pair.rect.low.length : Int) + (a.op.pair.rect.high.length : Int) + 1 + (a.op.query.rect.low.length : Int)) a.op.query.rect.high⟩, mkL mI cI (k + 1 + 1 + 1 + 1 + 1 + (a.op.pair.rect.low.length : Int) + (a.op.pair.rect.high.length : Int) + 1 + (a.op.query.rect.low.length : Int) + (a.op.query.rect.high.length : Int)) a.op.query.point, k + 1 + 1 + 1 + 1 + 1 + (a.op.pair.rect.low.length : Int) + (a.op.pair.rect.high.length : Int) + 1 + (a.op.query.rect.low.length : Int) + (a.op.query.rect.high.length : Int) + (a.op.query.point.length : Int)⟩⟩, ⟨k + 1 + 1 + 1 + 1 + 1 + (a.op.pair.rect.low.length : Int) + (a.op.pair.rect.high.length : Int) + 1 + (a.op.query.rect.low.length : Int) + (a.op.query.rect.high.length : Int) + (a.op.query.point.length : Int) + 1, mkL mkE_Pair cntE_Pair (k + 1 + 1 + 1 + 1 + 1 + (a.op.pair.rect.low.length : Int) + (a.op.pair.rect.high.length : Int) + 1 + (a.op.query.rect.low.length : Int) + (a.op.query.rect.high.length : Int) + (a.op.query.point.length : Int) + 1 + 1) a.answer.pairs⟩⟩
def cntE_Note (a : Note) : Int := 0 + 1 + 1 + 1 + 1 + 1 + (a.op.pair.rect.low.length : Int) + (a.op.pair.rect.high.length : Int) + 1 + (a.op.query.rect.low.length : Int) + (a.op.query.rect.high.length : Int) + (a.op.query.point.length : Int) + 1 + 1 + (a.answer.pairs.map cntE_Pair).sum
theorem cntE_Note_nn (a : Note) : 0 ≤ cntE_Note a := by
  have := sum_nn cntE_Pair_nn a.answer.pairs
  unfold cntE_Note; omega
theorem turnOf_mem {l : List Pair} {n : Note} {x : Pair} (h : x ∈ turnOf l n) : x ∈ l ∨ x = n.op.pair := by
  unfold turnOf takeId at h
  split at h
  · split at h
    · rcases addTo_mem h with h | h
      · exact .inr h
      · exact .inl (List.mem_filter.1 h).1
    · split at h
      · exact .inl (List.mem_filter.1 h).1
      · exact .inl h
  · exact .inl h
theorem fold_mem : ∀ (l : List Note) {p : List Pair} {x : Pair}, x ∈ l.foldl turnOf p → x ∈ p ∨ ∃ n ∈ l, x = n.op.pair
  | [], _, _, h => .inl h
  | n :: l, p, x, h => by
    rcases fold_mem l (p := turnOf p n) h with h | ⟨m, hm, h⟩
    · rcases turnOf_mem h with h | h
      · exact .inl h
      · exact .inr ⟨n, List.mem_cons_self .., h⟩
    · exact .inr ⟨m, List.mem_cons_of_mem _ hm, h⟩
theorem fold_len : ∀ (l : List Note) (p : List Pair), (l.foldl turnOf p).length ≤ p.length + l.length
  | [], _ => by simp
  | n :: l, p => by
    have := fold_len l (turnOf p n)
    have := turnOf_len p n
    simp only [List.foldl_cons, List.length_cons]; omega
theorem model_mem {l : List Note} {t : Int} {x : Pair} (h : x ∈ modelAt l t) : ∃ n ∈ l, x = n.op.pair := by
  rcases fold_mem _ h with h | ⟨n, hn, h⟩
  · cases h
  · exact ⟨n, (List.takeWhile_sublist _).subset hn, h⟩
theorem model_sz {l : List Note} {d t : Int} (h : notesFault l d = 0) {x : Pair} (hx : x ∈ modelAt l t) : szPair x ≤ 6 := by
  obtain ⟨n, hn, rfl⟩ := model_mem hx
  exact (notes_0 h).2 n hn
theorem pairs_all {l : List Note} {t : Int} (h : idx (fun (x0 : Note) => decide (x0.at_ > t)) l < 0) : foldTurn (l.take l.length) = modelAt l t := by
  have h1 := idx_neg (p := fun (x0 : Note) => decide (x0.at_ > t)) (xs := l) (by omega)
  unfold modelAt
  rw [takeWhile_at (k := l.length) (fun j x _ hx => by have := h1 x (List.mem_of_getElem? hx); simp at this; simpa using this) (Nat.le_refl _) (fun y hy => by simp at hy)]
theorem pairs_at {l : List Note} {t : Int} {k : Nat} {y : Note} (hk : k < l.length) (hy : l[k]? = some y) (hp : decide (y.at_ > t) = true) (h : ∀ j x, j < k → l[j]? = some x → decide (x.at_ > t) = false) : foldTurn (l.take k) = modelAt l t := by
  unfold modelAt
  rw [takeWhile_at (k := k) (fun j x hj hx => by have := h j x hj hx; simp at this; simpa using this) (by omega) (fun z hz => by rw [hy] at hz; cases hz; simp at hp; simp; omega)]
def modelRes (notes : List Note) (dims at_ : Int) : PairsResult := if notesFault notes dims = 0 then if 60 < ((modelAt notes at_).length : Int) then ⟨2, []⟩ else ⟨0, modelAt notes at_⟩ else ⟨notesFault notes dims, []⟩
theorem sum_le {α : Type} {f : α → Int} {c : Int} : ∀ {l : List α}, (∀ x ∈ l, f x ≤ c) → (l.map f).sum ≤ c * (l.length : Int)
  | [], _ => by simp
  | a :: l, h => by
    have h1 := h a (List.mem_cons_self ..)
    have h2 := sum_le (l := l) (fun x hx => h x (List.mem_cons_of_mem _ hx))
    simp only [List.map_cons, List.sum_cons, List.length_cons]
    have : c * ((l.length + 1 : Nat) : Int) = c * (l.length : Int) + c := by rw [Int.natCast_add, Int.mul_add]; simp
    omega
theorem modelRes_cnt (notes : List Note) (dims at_ : Int) : 0 ≤ ((modelRes notes dims at_).pairs.map cntE_Pair).sum ∧ ((modelRes notes dims at_).pairs.map cntE_Pair).sum ≤ 1000 := by
  refine ⟨sum_nn cntE_Pair_nn _, ?_⟩
  unfold modelRes
  split
  · rename_i h
    split
    · simp
    · rename_i h2
      have h3 := sum_le (f := cntE_Pair) (c := 7) (l := modelAt notes at_) (fun x hx => by have := model_sz h hx; unfold szPair szRect at this; unfold cntE_Pair; omega)
      show ((modelAt notes at_).map cntE_Pair).sum ≤ 1000
      omega
  · simp
theorem cnt_list {α : Type} {f g : α → Int} (h : ∀ x, f x ≤ 32 * (1 + g x)) : ∀ l : List α, (l.map f).sum ≤ 32 * szList g l
  | [] => by simp [szList]
  | a :: l => by
    have h1 := h a
    have h2 := cnt_list h l
    unfold szList at *
    simp only [List.map_cons, List.sum_cons, List.length_cons]
    omega
theorem cntE_Pair_sz (p : Pair) : cntE_Pair p ≤ 32 * (1 + szPair p) := by unfold cntE_Pair szPair szRect; omega
theorem cntE_Note_sz (n : Note) : cntE_Note n ≤ 32 * (1 + szNote n) := by
  have h1 := cnt_list cntE_Pair_sz n.answer.pairs
  unfold cntE_Note szNote szOp szAnswer szQuery
  have h2 : szPair n.op.pair = (n.op.pair.rect.low.length : Int) + (n.op.pair.rect.high.length : Int) := rfl
  have h3 : szRect n.op.query.rect = (n.op.query.rect.low.length : Int) + (n.op.query.rect.high.length : Int) := rfl
  omega
end Go.Proofs.Ytfdhhhodfjbnjaa.Sx
