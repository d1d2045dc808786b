/- For every model and tensor that the law lets in, the program's EvalModel and the reference's return the same, in new memory (the law FnExactEvalModel answers true). No condition. -/
import Derived.Test.YtclpojeofclbjaaPFnExactEvalModelx0
import Derived.Test.YtclpojeofclbjaaPFnExactEvalModelx1
import Derived.Test.YtclpojeofclbjaaPFnExactEvalModelx10
import Derived.Test.YtclpojeofclbjaaPFnExactEvalModelx11
import Derived.Test.YtclpojeofclbjaaPFnExactEvalModelx12
import Derived.Test.YtclpojeofclbjaaPFnExactEvalModelx13
import Derived.Test.YtclpojeofclbjaaPFnExactEvalModelx14
import Derived.Test.YtclpojeofclbjaaPFnExactEvalModelx15
import Derived.Test.YtclpojeofclbjaaPFnExactEvalModelx16
import Derived.Test.YtclpojeofclbjaaPFnExactEvalModelx17
import Derived.Test.YtclpojeofclbjaaPFnExactEvalModelx18
import Derived.Test.YtclpojeofclbjaaPFnExactEvalModelx19
import Derived.Test.YtclpojeofclbjaaPFnExactEvalModelx2
import Derived.Test.YtclpojeofclbjaaPFnExactEvalModelx20
import Derived.Test.YtclpojeofclbjaaPFnExactEvalModelx21
import Derived.Test.YtclpojeofclbjaaPFnExactEvalModelx22
import Derived.Test.YtclpojeofclbjaaPFnExactEvalModelx23
import Derived.Test.YtclpojeofclbjaaPFnExactEvalModelx24
import Derived.Test.YtclpojeofclbjaaPFnExactEvalModelx3
import Derived.Test.YtclpojeofclbjaaPFnExactEvalModelx4
import Derived.Test.YtclpojeofclbjaaPFnExactEvalModelx5
import Derived.Test.YtclpojeofclbjaaPFnExactEvalModelx6
import Derived.Test.YtclpojeofclbjaaPFnExactEvalModelx7
import Derived.Test.YtclpojeofclbjaaPFnExactEvalModelx8
import Derived.Test.YtclpojeofclbjaaPFnExactEvalModelx9
namespace Go.Proofs.Ytclpojeofclbjaa.Pure
open Go.RowKit Go.Proofs.Ytclpojeofclbjaa.PFnExactEvalModel Go.Proofs.YtclpojeofclbjaaW.PrintWords Go.Proofs.YtclpojeofclbjaaW.PrintLast Go.Proofs.YtclpojeofclbjaaW.PrintMore
set_option linter.unusedVariables false
set_option linter.unusedSimpArgs false

/-! #### rounds -/
def Evp (p : Nat → Prop) : Prop := ∃ K, ∀ k, K ≤ k → p k
theorem evAnd {p q : Nat → Prop} (h : Evp p) (g : Evp q) : Evp (fun k => p k ∧ q k) := by
  obtain ⟨K, hK⟩ := h
  obtain ⟨L, hL⟩ := g
  exact ⟨max K L, fun k hk => ⟨hK k (by omega), hL k (by omega)⟩⟩
theorem evMono {p q : Nat → Prop} (h : Evp p) (g : ∀ k, p k → q k) : Evp q := by
  obtain ⟨K, hK⟩ := h
  exact ⟨K, fun k hk => g k (hK k hk)⟩
theorem evSuc {p : Nat → Prop} (h : Evp fun k => p (k + 1)) : Evp p := by
  obtain ⟨K, hK⟩ := h
  refine ⟨K + 1, fun k hk => ?_⟩
  obtain ⟨m, rfl⟩ : ∃ m, k = m + 1 := ⟨k - 1, by omega⟩
  exact hK m (by omega)
theorem evAll {p : Nat → Prop} (h : ∀ k, p k) : Evp p := ⟨0, fun k _ => h k⟩
theorem evEx {p : Nat → Prop} (h : Evp p) : ∃ k, p k := by
  obtain ⟨K, hK⟩ := h
  exact ⟨K, hK K (Nat.le_refl _)⟩
/-- One step of a chain. -/
theorem bind_of {α β : Type} {o : Option α} {f : α → Option β} {a : α} {r : Option β} (h : o = some a) (hf : f a = r) : o.bind f = r := by rw [h]; exact hf
theorem ite_yes {α : Type} {c : Prop} [Decidable c] {x y r : α} (h : c) (hx : x = r) : (if c then x else y) = r := by rw [if_pos h]; exact hx
theorem ite_no {α : Type} {c : Prop} [Decidable c] {x y r : α} (h : ¬ c) (hy : y = r) : (if c then x else y) = r := by rw [if_neg h]; exact hy

/-! #### whole numbers -/
def i64 (x : Int) : Prop := -9223372036854775808 ≤ x ∧ x ≤ 9223372036854775807
theorem w64 {x : Int} (h : i64 x) : wrap64 x = x := by
  unfold i64 at h
  unfold wrap64
  omega
theorem w64' {x : Int} (h0 : -9223372036854775808 ≤ x) (h1 : x ≤ 9223372036854775807) : wrap64 x = x := w64 ⟨h0, h1⟩
theorem tdiv_pos {a b : Int} (h : 0 ≤ a) : Int.tdiv a b = a / b := Int.tdiv_eq_ediv_of_nonneg h
theorem tmod_pos {a b : Int} (h : 0 ≤ a) : Int.tmod a b = a % b := Int.tmod_eq_emod_of_nonneg h
theorem bnd_mul {a b A B : Int} (ha : -A ≤ a) (ha' : a ≤ A) (hb : -B ≤ b) (hb' : b ≤ B) : -(A * B) ≤ a * b ∧ a * b ≤ A * B := by
  have hA : 0 ≤ A := by omega
  have hB : 0 ≤ B := by omega
  have h1 : (a * b).natAbs ≤ (A * B).natAbs := by
    rw [Int.natAbs_mul, Int.natAbs_mul]
    exact Nat.mul_le_mul (by omega) (by omega)
  have h2 : 0 ≤ A * B := Int.mul_nonneg hA hB
  omega

/-! #### lists -/
theorem rd_eq {l : List Int} {i : Nat} (h : i < l.length) : rd l (i : Int) = l[i] := by
  unfold rd
  simp [List.getD, h]
theorem rd_nat (l : List Int) (i : Nat) : rd l (i : Int) = l.getD i 0 := by
  unfold rd
  simp
theorem nat_of {i : Int} (h : 0 ≤ i) : ∃ n : Nat, i = n := ⟨i.toNat, by omega⟩
theorem u64_small {x : Int} (h0 : 0 ≤ x) (h1 : x < 18446744073709551616) : IntKind.u64.wrap x = x := by
  unfold IntKind.wrap
  simp [IntKind.bits, IntKind.signed]
  omega
theorem i64wrap (x : Int) : IntKind.i64.wrap x = wrap64 x := by
  unfold IntKind.wrap wrap64
  simp [IntKind.bits, IntKind.signed]
  split <;> omega
theorem shl_eq {x : Int} {n : Nat} (hn : n ≤ 62) : shl .i64 x (n : Int) = wrap64 (x * 2 ^ n) := by
  unfold shl
  rw [i64wrap]
  congr 3
  simp [IntKind.bits]
  omega
theorem two_pow_le {n m : Nat} (h : n ≤ m) : (1 : Int) ≤ 2 ^ n ∧ (2 : Int) ^ n ≤ 2 ^ m := by
  have h1 : (1 : Nat) ≤ 2 ^ n := Nat.one_le_two_pow
  have h2 : (2 : Nat) ^ n ≤ 2 ^ m := Nat.pow_le_pow_right (by omega) h
  exact ⟨by exact_mod_cast h1, by exact_mod_cast h2⟩

/-! #### arithmetic with rounding, in plain Lean -/
def clampTo (x lo hi : Int) : Int := if x < lo then lo else if lo > hi then lo else if x > hi then hi else x
def sat32 (x : Int) : Int := if x < -2147483648 then -2147483648 else if x > 2147483647 then 2147483647 else x
def sat8 (x : Int) : Int := if x < -128 then -128 else if x > 127 then 127 else x
def cutTo (x lo hi : Int) : Int := if x > hi then hi else if x < lo then lo else x
theorem sat32_b (x : Int) : -2147483648 ≤ sat32 x ∧ sat32 x ≤ 2147483647 := by unfold sat32; split <;> (try split) <;> omega
theorem sat8_b (x : Int) : -128 ≤ sat8 x ∧ sat8 x ≤ 127 := by unfold sat8; split <;> (try split) <;> omega
theorem sat8_id {x : Int} (h0 : -128 ≤ x) (h1 : x ≤ 127) : sat8 x = x := by unfold sat8; rw [if_neg (by omega), if_neg (by omega)]
theorem clamp_sat32 (x : Int) : clampTo x (-2147483648) 2147483647 = sat32 x := by unfold clampTo sat32; rw [if_neg (show ¬ ((-2147483648 : Int) > 2147483647) by decide)]
theorem clamp_sat8 (x : Int) : clampTo x (-128) 127 = sat8 x := by unfold clampTo sat8; rw [if_neg (show ¬ ((-128 : Int) > 127) by decide)]
theorem mxn_sat32 (x : Int) : mx (-2147483648) (mn x 2147483647) = sat32 x := by unfold mx mn sat32; repeat' split <;> omega
theorem mxn_sat8 (x : Int) : mx (-128) (mn x 127) = sat8 x := by unfold mx mn sat8; repeat' split <;> omega
def addSat (a b : Int) : Int := sat32 (sat32 a + sat32 b)
theorem addSat_w (a b : Int) : wrap64 (sat32 a + sat32 b) = sat32 a + sat32 b := by
  have := sat32_b a
  have := sat32_b b
  exact w64' (by omega) (by omega)
def mulHigh (a b : Int) : Int := sat32 ((sat32 a * sat32 b + 1073741824) / 2147483648)
theorem sat32_mul (a b : Int) : -4611686018427387904 ≤ sat32 a * sat32 b ∧ sat32 a * sat32 b ≤ 4611686018427387904 := by
  have h1 := sat32_b a
  have h2 := sat32_b b
  have := bnd_mul (a := sat32 a) (b := sat32 b) (A := 2147483648) (B := 2147483648) (by omega) (by omega) (by omega) (by omega)
  omega
theorem mulHigh_w (a b : Int) : wrap64 (wrap64 (sat32 a * sat32 b) + 1073741824) = sat32 a * sat32 b + 1073741824 := by
  have := sat32_mul a b
  simp (disch := omega) only [w64']
def pow31 (n : Int) : Int := 2 ^ (cutTo n 0 31).toNat
theorem cut_b (n : Int) : 0 ≤ cutTo n 0 31 ∧ cutTo n 0 31 ≤ 31 := by unfold cutTo; repeat' split <;> omega
theorem clamp_cut (n : Int) : clampTo n 0 31 = cutTo n 0 31 := by unfold clampTo cutTo; repeat' split <;> omega
theorem mxn_cut (n : Int) : mx 0 (mn n 31) = cutTo n 0 31 := by unfold mx mn cutTo; repeat' split <;> omega
theorem pow31_b (n : Int) : 1 ≤ pow31 n ∧ pow31 n ≤ 2147483648 := by
  have := cut_b n
  have h := two_pow_le (n := (cutTo n 0 31).toNat) (m := 31) (by omega)
  exact h
theorem shl_pow31 (n : Int) : shl .i64 1 (cutTo n 0 31) = pow31 n := by
  have h := cut_b n
  have hp := pow31_b n
  obtain ⟨m, hm⟩ := nat_of h.1
  unfold pow31 at hp ⊢
  rw [hm] at h hp ⊢
  rw [shl_eq (by omega), Int.one_mul]
  simp only [Int.toNat_natCast] at hp ⊢
  exact w64' (by omega) (by omega)
/-- A quotient rounded to the nearest, two as near away from 0. -/
def rnd (x by_ : Int) : Int := if x < 0 then -((-2 * x + by_) / (2 * by_)) else (2 * x + by_) / (2 * by_)
def roundShift (x n : Int) : Int := rnd (sat32 x) (pow31 n)
theorem pow31_half (n : Int) : pow31 n = 1 ∨ ∃ e, 1 ≤ e ∧ pow31 n = 2 * e := by
  unfold pow31
  rcases h : (cutTo n 0 31).toNat with _ | m
  · exact .inl rfl
  · exact .inr ⟨2 ^ m, (two_pow_le (Nat.le_refl m)).1, by rw [Int.pow_succ]; omega⟩
/-- Rounding by halves, told with the half of the divisor. -/
theorem half_eq (v n : Int) : (v + pow31 n / 2) / pow31 n = (2 * v + pow31 n) / (2 * pow31 n) := by
  rcases pow31_half n with h | ⟨e, he, h⟩
  · rw [h]; omega
  · rw [h]
    rw [show 2 * e / 2 = e by omega, show 2 * v + 2 * e = 2 * (v + e) by omega, Int.mul_ediv_mul_of_pos _ _ (by omega)]
theorem rnd_b (x by_ : Int) (hb : 1 ≤ by_) (A : Int) (h0 : -A ≤ x) (h1 : x ≤ A) : -A ≤ rnd x by_ ∧ rnd x by_ ≤ A := by
  have key : ∀ y : Int, 0 ≤ y → y ≤ A → 0 ≤ (2 * y + by_) / (2 * by_) ∧ (2 * y + by_) / (2 * by_) ≤ A := by
    intro y hy hyA
    refine ⟨Int.ediv_nonneg (by omega) (by omega), ?_⟩
    have : (2 * y + by_) / (2 * by_) < A + 1 := by
      apply Int.ediv_lt_of_lt_mul (by omega)
      have h2 : A + 1 ≤ (A + 1) * by_ := by
        have := Int.mul_le_mul_of_nonneg_left hb (show 0 ≤ A + 1 by omega)
        omega
      have h3 : (A + 1) * (2 * by_) = 2 * ((A + 1) * by_) := by rw [← Int.mul_assoc, Int.mul_comm (A + 1) 2, Int.mul_assoc]
      have h4 : (A + 1) * by_ = A * by_ + by_ := by rw [Int.add_mul]; omega
      have h5 : A ≤ A * by_ := by
        have := Int.mul_le_mul_of_nonneg_left hb (show 0 ≤ A by omega)
        omega
      omega
    omega
  unfold rnd
  split
  · have := key (-x) (by omega) (by omega)
    rw [show -2 * x = 2 * -x by omega]
    omega
  · have := key x (by omega) (by omega)
    omega
theorem roundShift_b (x n : Int) : -2147483648 ≤ roundShift x n ∧ roundShift x n ≤ 2147483648 := rnd_b _ _ (pow31_b n).1 2147483648 (by have := sat32_b x; omega) (by have := sat32_b x; omega)
def requant (acc mult shift zero : Int) : Int := sat8 (roundShift (mulHigh acc mult) shift + sat8 zero)
theorem requant_w (acc mult shift zero : Int) : wrap64 (roundShift (mulHigh acc mult) shift + sat8 zero) = roundShift (mulHigh acc mult) shift + sat8 zero := by
  have := roundShift_b (mulHigh acc mult) shift
  have := sat8_b zero
  exact w64' (by omega) (by omega)
def dotGo : List Int → List Int → Int → Int
  | a :: u, b :: v, s => dotGo u v (addSat s (sat8 a * sat8 b))
  | _, _, s => s
def dotOf (a b : List Int) : Int := dotGo a b 0
theorem sat8_mul (a b : Int) : -16384 ≤ sat8 a * sat8 b ∧ sat8 a * sat8 b ≤ 16384 := by
  have h1 := sat8_b a
  have h2 := sat8_b b
  have := bnd_mul (a := sat8 a) (b := sat8 b) (A := 128) (B := 128) (by omega) (by omega) (by omega) (by omega)
  omega


theorem spec_ClampTo_ev (x lo hi : Int) : Evp fun k => spec_ClampTo.f k x lo hi = some (clampTo x lo hi) := evSuc (evAll fun k => by
  unfold spec_ClampTo.f clampTo
  by_cases h1 : x < lo
  · simp [h1, spec_ClampTo.j0]
  · by_cases h2 : lo > hi
    · simp [h1, h2, spec_ClampTo.j0]
    · by_cases h3 : x > hi <;> simp [h1, h2, h3, spec_ClampTo.j0])


theorem spec_Sat32_ev (x : Int) : Evp fun k => spec_Sat32.f k x = some (sat32 x) := evMono (spec_ClampTo_ev x (-2147483648) 2147483647) fun k h => by
  unfold spec_Sat32.f
  rw [h, clamp_sat32]
  rfl


theorem spec_Sat8_ev (x : Int) : Evp fun k => spec_Sat8.f k x = some (sat8 x) := evMono (spec_ClampTo_ev x (-128) 127) fun k h => by
  unfold spec_Sat8.f
  rw [h, clamp_sat8]
  rfl


theorem impl_Sat32_eq (x : Int) : impl_Sat32.f x = some (sat32 x) := by
  unfold impl_Sat32.f impl_cut.f
  rw [mxn_sat32]
  rfl


theorem impl_Sat8_eq (x : Int) : impl_Sat8.f x = some (sat8 x) := by
  unfold impl_Sat8.f impl_cut.f
  rw [mxn_sat8]
  rfl


theorem spec_AddSat_ev (a b : Int) : Evp fun k => spec_AddSat.f k a b = some (addSat a b) :=
  evMono (evAnd (spec_Sat32_ev a) (evAnd (spec_Sat32_ev b) (spec_Sat32_ev (sat32 a + sat32 b)))) fun k ⟨h1, h2, h3⟩ => by
    unfold spec_AddSat.f
    rw [h1, h2]
    simp only [Option.bind_some]
    rw [addSat_w, h3]
    rfl


theorem impl_AddSat_eq (a b : Int) : impl_AddSat.f a b = some (addSat a b) := by
  unfold impl_AddSat.f
  rw [impl_Sat32_eq, impl_Sat32_eq]
  simp only [Option.bind_some]
  rw [addSat_w, impl_Sat32_eq]
  rfl


theorem spec_l01Down_eq (a : Int) (h : i64 a) : spec_l01Down.f a 2147483648 = some (a / 2147483648) := by
  unfold i64 at h
  unfold spec_l01Down.f
  rw [if_neg (by decide)]
  by_cases ha : 0 ≤ a
  · rw [tmod_pos ha, tdiv_pos ha, if_neg (by omega), w64' (by omega) (by omega)]
  · have e1 : Int.tdiv a 2147483648 = -((-a) / 2147483648) := by
      have := Int.neg_tdiv (a := -a) (b := 2147483648)
      rw [Int.neg_neg] at this
      rw [this, tdiv_pos (by omega)]
    have e2 : Int.tmod a 2147483648 = -((-a) % 2147483648) := by
      have := Int.neg_tmod (-a) 2147483648
      rw [Int.neg_neg] at this
      rw [this, tmod_pos (by omega)]
    rw [e1, e2]
    split
    · simp (disch := omega) only [w64']
      congr 1
      omega
    · simp (disch := omega) only [w64']
      congr 1
      omega


theorem spec_MulHigh_ev (a b : Int) : Evp fun k => spec_MulHigh.f k a b = some (mulHigh a b) :=
  evMono (evAnd (spec_Sat32_ev a) (evAnd (spec_Sat32_ev b) (spec_Sat32_ev ((sat32 a * sat32 b + 1073741824) / 2147483648)))) fun k ⟨h1, h2, h3⟩ => by
    have hb := sat32_mul a b
    unfold spec_MulHigh.f
    rw [h1, h2]
    simp only [Option.bind_some]
    rw [mulHigh_w, spec_l01Down_eq _ (by unfold i64; omega)]
    simp only [Option.bind_some]
    rw [h3]
    rfl


theorem impl_MulHigh_eq (a b : Int) : impl_MulHigh.f a b = some (mulHigh a b) := by
  unfold impl_MulHigh.f
  rw [impl_Sat32_eq, impl_Sat32_eq]
  simp only [Option.bind_some]
  rw [mulHigh_w, impl_Sat32_eq]
  rfl


theorem spec_RoundShift_ev (x n : Int) : Evp fun k => spec_RoundShift.f k x n = some (roundShift x n) :=
  evMono (evAnd (spec_Sat32_ev x) (spec_ClampTo_ev n 0 31)) fun k ⟨h1, h2⟩ => by
    have hs := sat32_b x
    have hc := cut_b n
    have hp := pow31_b n
    unfold spec_RoundShift.f
    rw [h1, h2]
    simp only [Option.bind_some]
    rw [clamp_cut, u64_small (by omega) (by omega), if_pos hc.1, shl_pow31]
    have hd : 0 ≤ pow31 n / 2 ∧ pow31 n / 2 ≤ 1073741824 := by omega
    unfold roundShift rnd
    have q : ∀ y : Int, 0 ≤ y → y ≤ 2147483648 → 0 ≤ (y + pow31 n / 2) / pow31 n ∧ (y + pow31 n / 2) / pow31 n ≤ 4294967296 := by
      intro y h0 h1
      refine ⟨Int.ediv_nonneg (by omega) (by omega), ?_⟩
      have := Int.ediv_le_self (a := y + pow31 n / 2) (pow31 n) (by omega)
      omega
    by_cases hv : sat32 x < 0
    · rw [if_pos hv, if_pos hv, if_neg (by omega)]
      have hq := q (-sat32 x) (by omega) (by omega)
      simp (disch := omega) only [w64', tdiv_pos]
      rw [half_eq, show 2 * -sat32 x = -2 * sat32 x by omega]
    · rw [if_neg hv, if_neg hv, if_neg (by omega)]
      have hq := q (sat32 x) (by omega) (by omega)
      simp (disch := omega) only [w64', tdiv_pos]
      rw [half_eq]


theorem impl_rounded_ev (x b : Int) (hb : 1 ≤ b) (hb' : b ≤ 2147483648) (h0 : -2147483648 ≤ x) (h1 : x ≤ 2147483648) : Evp fun k => impl_rounded.f k x b = some (rnd x b) := by
  have pos : ∀ k (y : Int), 0 ≤ y → y ≤ 2147483648 → impl_rounded.f (k + 1) y b = some ((2 * y + b) / (2 * b)) := by
    intro k y hy hy'
    simp only [impl_rounded.f]
    rw [if_neg (by omega), w64' (x := 2 * b) (by omega) (by omega), if_neg (by omega), w64' (x := 2 * y) (by omega) (by omega), w64' (x := 2 * y + b) (by omega) (by omega), tdiv_pos (by omega)]
    have hq : 0 ≤ (2 * y + b) / (2 * b) := Int.ediv_nonneg (by omega) (by omega)
    have := Int.ediv_le_self (a := 2 * y + b) (2 * b) (by omega)
    rw [w64' (by omega) (by omega)]
  have bb := rnd_b x b hb 2147483648 (by omega) (by omega)
  refine evSuc (evSuc (evAll fun k => ?_))
  unfold rnd at bb ⊢
  by_cases hx : x < 0
  · rw [if_pos hx] at bb ⊢
    simp only [impl_rounded.f]
    rw [if_pos hx, w64' (x := -x) (by omega) (by omega)]
    have := pos k (-x) (by omega) (by omega)
    simp only [impl_rounded.f] at this
    rw [this]
    simp only [Option.bind_some]
    rw [show -2 * x = 2 * -x by omega] at bb ⊢
    rw [w64' (by omega) (by omega)]
  · rw [if_neg hx]
    exact pos (k + 1) x (by omega) (by omega)


theorem impl_RoundShift_ev (x n : Int) : Evp fun k => impl_RoundShift.f k x n = some (roundShift x n) :=
  evMono (impl_rounded_ev (sat32 x) (pow31 n) (pow31_b n).1 (pow31_b n).2 (sat32_b x).1 (by have := sat32_b x; omega)) fun k h => by
    unfold impl_RoundShift.f
    rw [impl_Sat32_eq]
    simp only [Option.bind_some, impl_cut.f]
    rw [mxn_cut, if_pos (cut_b n).1, shl_pow31, h]
    rfl


theorem spec_Requant_ev (a m s z : Int) : Evp fun k => spec_Requant.f k a m s z = some (requant a m s z) :=
  evMono (evAnd (spec_MulHigh_ev a m) (evAnd (spec_RoundShift_ev (mulHigh a m) s) (evAnd (spec_Sat8_ev z) (spec_Sat8_ev (roundShift (mulHigh a m) s + sat8 z))))) fun k ⟨h1, h2, h3, h4⟩ => by
    unfold spec_Requant.f
    simp only [h1, h2, h3, Option.bind_some]
    rw [requant_w, h4]
    rfl


theorem impl_Requant_ev (a m s z : Int) : Evp fun k => impl_Requant.f k a m s z = some (requant a m s z) :=
  evMono (impl_RoundShift_ev (mulHigh a m) s) fun k h2 => by
    unfold impl_Requant.f
    simp only [impl_MulHigh_eq, h2, impl_Sat8_eq, Option.bind_some]
    rw [requant_w]
    rfl


theorem spec_l01In_eq (x lo hi : Int) : spec_l01In.f x lo hi = some (decide (lo ≤ x ∧ x ≤ hi)) := by
  unfold spec_l01In.f
  by_cases h : lo ≤ x
  · simp [h]
  · simp [h]


theorem impl_in_eq (x lo hi : Int) : impl_in.f x lo hi = some (decide (lo ≤ x ∧ x ≤ hi)) := by
  unfold impl_in.f
  by_cases h : lo ≤ x
  · simp [h]
  · simp [h]

/-- A list that is filled from the left. -/
theorem fill_step {α : Type} {l o : List α} {i : Nat} (hi : i < l.length) (hl : o.length = l.length) (ht : o.take i = l.take i) : (o.set i l[i]).length = l.length ∧ (o.set i l[i]).take (i + 1) = l.take (i + 1) := by
  refine ⟨by simp [hl], ?_⟩
  apply List.ext_getElem?
  intro j
  rw [List.getElem?_take, List.getElem?_take]
  by_cases hj : j < i + 1
  · rw [if_pos hj, if_pos hj]
    by_cases e : j = i
    · subst e
      rw [List.getElem?_set_self (by omega), List.getElem?_eq_getElem hi]
    · rw [List.getElem?_set_ne (by omega)]
      have := congrArg (fun x => x[j]?) ht
      simp only [List.getElem?_take] at this
      rw [if_pos (by omega), if_pos (by omega)] at this
      exact this
  · rw [if_neg hj, if_neg hj]
theorem fill_end {α : Type} {l o : List α} (hl : o.length = l.length) (ht : o.take l.length = l.take l.length) : o = l := by
  rw [List.take_length] at ht
  rw [← hl, List.take_length] at ht
  exact ht


theorem laws_toIntS_l0 (l : List Int) (hl : l.length ≤ 9223372036854775807) : ∀ (d i : Nat) (o : List Int), i + d = l.length → o.length = l.length → o.take i = l.take i → Evp fun k => laws_toIntS.l0 k l o (i : Int) = some l
  | 0, i, o, hi, ho, ht => evSuc (evAll fun k => by
    simp only [laws_toIntS.l0]
    rw [if_neg (by omega)]
    obtain rfl : i = l.length := by omega
    rw [fill_end ho ht])
  | d + 1, i, o, hi, ho, ht => by
    have hlt : i < l.length := by omega
    have hs := fill_step hlt ho ht
    refine evSuc (evMono (laws_toIntS_l0 l hl d (i + 1) (o.set i l[i]) (by omega) hs.1 hs.2) fun k ih => ?_)
    simp only [laws_toIntS.l0]
    rw [if_pos (by omega), if_pos (by omega), if_pos (by omega), w64' (by omega) (by omega), rd_eq hlt, Int.toNat_natCast]
    exact ih
theorem laws_toIntS_ev (l : List Int) (hl : l.length ≤ 35184372088832) : Evp fun k => laws_toIntS.f k l = some l :=
  evMono (laws_toIntS_l0 l (by omega) l.length 0 (List.replicate l.length 0) (by omega) (by simp) (by simp)) fun k h => by
    unfold laws_toIntS.f
    rw [if_pos (by omega), if_pos (by omega), Int.toNat_natCast]
    exact h


theorem laws_eqIntS_l0 (a b : List Int) (hl : a.length = b.length) (hm : a.length ≤ 9223372036854775807) : ∀ (d i : Nat), i + d = a.length → a.take i = b.take i → Evp fun k => laws_eqIntS.l0 k a b (i : Int) = some (decide (a = b))
  | 0, i, hi, ht => evSuc (evAll fun k => by
    simp only [laws_eqIntS.l0]
    rw [if_neg (by omega)]
    obtain rfl : i = a.length := by omega
    have e : a = b := by
      rw [List.take_length, hl, List.take_length] at ht
      exact ht
    simp [e])
  | d + 1, i, hi, ht => by
    have ha : i < a.length := by omega
    have hb : i < b.length := by omega
    by_cases he : a[i] = b[i]
    · have ht' : a.take (i + 1) = b.take (i + 1) := by
        rw [List.take_succ_eq_append_getElem ha, List.take_succ_eq_append_getElem hb, ht, he]
      refine evSuc (evMono (laws_eqIntS_l0 a b hl hm d (i + 1) (by omega) ht') fun k ih => ?_)
      simp only [laws_eqIntS.l0]
      rw [if_pos (by omega), if_pos (by omega), if_pos (by omega), rd_eq ha, rd_eq hb, if_pos he, w64' (by omega) (by omega)]
      exact ih
    · refine evSuc (evAll fun k => ?_)
      simp only [laws_eqIntS.l0]
      rw [if_pos (by omega), if_pos (by omega), if_pos (by omega), rd_eq ha, rd_eq hb, if_neg he]
      have : a ≠ b := by
        rintro rfl
        exact he rfl
      simp [this]
theorem laws_eqIntS_ev (a b : List Int) (hm : a.length ≤ 9223372036854775807) : Evp fun k => laws_eqIntS.f k a b = some (decide (a = b)) := by
  unfold laws_eqIntS.f
  by_cases hl : a.length = b.length
  · refine evMono (laws_eqIntS_l0 a b hl hm a.length 0 (by omega) (by simp)) fun k h => ?_
    rw [if_pos (by omega)]
    exact h
  · refine evAll fun k => ?_
    rw [if_neg (by omega)]
    have : a ≠ b := by
      rintro rfl
      exact hl rfl
    simp [this]


/-- What is left of a bound, behind a list; -1 where nothing is. -/
def szL {α : Type} (l : List α) (left : Int) : Int := if left - l.length < 0 then -1 else left - l.length
theorem szL_b {α : Type} (l : List α) {left : Int} (h : 0 ≤ left) (h1 : left ≤ 1048576) : -1 ≤ szL l left ∧ szL l left ≤ 1048576 ∧ (0 ≤ szL l left → (l.length : Int) ≤ 1048576) := by
  unfold szL
  split <;> omega


theorem laws_szIntS_eq (l : List Int) (left : Int) (h : 0 ≤ left) (h1 : left ≤ 1048576) (hl : l.length ≤ 9223372036854775807) : laws_szIntS.f l left = some (szL l left) := by
  unfold laws_szIntS.f szL
  rw [w64' (by omega) (by omega)]
  split <;> rfl


theorem drop_at {α : Type} {l : List α} {i : Nat} (h : i < l.length) : l.drop i = l[i] :: l.drop (i + 1) := by
  exact List.drop_eq_getElem_cons h
theorem dot_stop {a b : List Int} {i : Nat} (h : a.length ≤ i ∨ b.length ≤ i) (s : Int) : dotGo (a.drop i) (b.drop i) s = s := by
  rcases h with h | h
  · rw [List.drop_eq_nil_of_le h]
    unfold dotGo
    rfl
  · rw [List.drop_eq_nil_of_le h]
    cases a.drop i <;> rfl
theorem dot_step {a b : List Int} {i : Nat} (ha : i < a.length) (hb : i < b.length) (s : Int) : dotGo (a.drop i) (b.drop i) s = dotGo (a.drop (i + 1)) (b.drop (i + 1)) (addSat s (sat8 a[i] * sat8 b[i])) := by
  rw [drop_at ha, drop_at hb]
  rfl


theorem spec_DotOf_l0 (a b : List Int) (hm : a.length ≤ 9223372036854775807) : ∀ (d i : Nat) (s : Int), i + d = a.length → Evp fun k => spec_DotOf.l0 k a b s (i : Int) = some (dotGo (a.drop i) (b.drop i) s)
  | 0, i, s, hi => evSuc (evSuc (evAll fun k => by
    simp only [spec_DotOf.l0]
    rw [if_neg (by omega), dot_stop (.inl (by omega))]
    simp [spec_DotOf.j1]))
  | d + 1, i, s, hi => by
    have ha : i < a.length := by omega
    by_cases hb : i < b.length
    · refine evSuc (evSuc (evMono (evAnd (spec_DotOf_l0 a b hm d (i + 1) (addSat s (sat8 a[i] * sat8 b[i])) (by omega)) (evAnd (spec_Sat8_ev a[i]) (evAnd (spec_Sat8_ev b[i]) (spec_AddSat_ev s (sat8 a[i] * sat8 b[i]))))) fun k ⟨ih, h1, h2, h3⟩ => ?_))
      have hw := sat8_mul a[i] b[i]
      simp only [spec_DotOf.l0]
      rw [if_pos (by omega), dot_step ha hb]
      simp only [spec_DotOf.j1]
      rw [if_pos (by simp; omega), if_pos (by omega), if_pos (by omega), rd_eq ha, h1]
      simp only [Option.bind_some]
      rw [if_pos (by omega), rd_eq hb, h2]
      simp only [Option.bind_some]
      rw [w64' (x := sat8 a[i] * sat8 b[i]) (by omega) (by omega), h3, w64' (x := (i : Int) + 1) (by omega) (by omega)]
      exact ih
    · refine evSuc (evSuc (evAll fun k => ?_))
      simp only [spec_DotOf.l0]
      rw [if_pos (by omega), dot_stop (.inr (by omega)), show decide ((i : Int) < (b.length : Int)) = false by simp; omega]
      simp [spec_DotOf.j1]
theorem spec_DotOf_ev (a b : List Int) (hm : a.length ≤ 9223372036854775807) : Evp fun k => spec_DotOf.f k a b = some (dotOf a b) := by
  have := spec_DotOf_l0 a b hm a.length 0 0 (by omega)
  exact this


theorem impl_DotOf_l0 (a b : List Int) (n : Nat) (hn : n = min a.length b.length) (hm : a.length ≤ 9223372036854775807) : ∀ (d i : Nat) (s : Int), i + d = n → Evp fun k => impl_DotOf.l0 k a b s (n : Int) (i : Int) = some (dotGo (a.drop i) (b.drop i) s)
  | 0, i, s, hi => evSuc (evAll fun k => by
    simp only [impl_DotOf.l0]
    rw [if_neg (by omega), dot_stop (by omega)])
  | d + 1, i, s, hi => by
    have ha : i < a.length := by omega
    have hb : i < b.length := by omega
    refine evSuc (evMono (impl_DotOf_l0 a b n hn hm d (i + 1) (addSat s (sat8 a[i] * sat8 b[i])) (by omega)) fun k ih => ?_)
    have hw := sat8_mul a[i] b[i]
    simp only [impl_DotOf.l0]
    rw [if_pos (by omega), dot_step ha hb, if_pos (by omega), if_pos (by omega), rd_eq ha, impl_Sat8_eq]
    simp only [Option.bind_some]
    rw [if_pos (by omega), rd_eq hb, impl_Sat8_eq]
    simp only [Option.bind_some]
    rw [w64' (x := sat8 a[i] * sat8 b[i]) (by omega) (by omega), impl_AddSat_eq, w64' (x := (i : Int) + 1) (by omega) (by omega)]
    exact ih
theorem impl_DotOf_ev (a b : List Int) (hm : a.length ≤ 9223372036854775807) : Evp fun k => impl_DotOf.f k a b = some (dotOf a b) := by
  have h := impl_DotOf_l0 a b (min a.length b.length) rfl hm (min a.length b.length) 0 0 (by omega)
  have e : mn (a.length : Int) (b.length : Int) = ((min a.length b.length : Nat) : Int) := by unfold mn; split <;> omega
  refine evMono h fun k hk => ?_
  unfold impl_DotOf.f
  rw [e]
  exact hk

def shapeOk (h w c : Int) : Bool := decide ((1 ≤ h ∧ h ≤ 8) ∧ (1 ≤ w ∧ w ≤ 8) ∧ (1 ≤ c ∧ c ≤ 8))
theorem shapeOk_iff {h w c : Int} : shapeOk h w c = true ↔ (1 ≤ h ∧ h ≤ 8) ∧ (1 ≤ w ∧ w ≤ 8) ∧ (1 ≤ c ∧ c ≤ 8) := by unfold shapeOk; simp
def sizeOf (h w c : Int) : Int := if shapeOk h w c = true then h * w * c else 0
theorem mul_b {a b A B : Int} (ha : 0 ≤ a) (ha' : a ≤ A) (hb : 0 ≤ b) (hb' : b ≤ B) : 0 ≤ a * b ∧ a * b ≤ A * B := by
  refine ⟨Int.mul_nonneg ha hb, Int.mul_le_mul ha' hb' hb (by omega)⟩
theorem mul_pos1 {a b : Int} (ha : 1 ≤ a) (hb : 1 ≤ b) : 1 ≤ a * b := by
  have := Int.mul_le_mul ha hb (by omega) (by omega)
  omega
theorem size_b {h w c : Int} (hs : shapeOk h w c = true) : 1 ≤ h * w ∧ h * w ≤ 64 ∧ 1 ≤ h * w * c ∧ h * w * c ≤ 512 := by
  obtain ⟨h1, h2, h3⟩ := shapeOk_iff.1 hs
  have a := mul_b (a := h) (b := w) (A := 8) (B := 8) (by omega) (by omega) (by omega) (by omega)
  have b := mul_b (a := h * w) (b := c) (A := 64) (B := 8) (by omega) (by omega) (by omega) (by omega)
  have c1 := mul_pos1 h1.1 h2.1
  have c2 := mul_pos1 c1 h3.1
  omega
def placeIn (w c i j l : Int) : Int := (i * w + j) * c + l
def placeOf (h w c i j l : Int) : Int := if shapeOk h w c = true ∧ (0 ≤ i ∧ i ≤ h - 1) ∧ (0 ≤ j ∧ j ≤ w - 1) ∧ (0 ≤ l ∧ l ≤ c - 1) then placeIn w c i j l else -1
theorem place_b {h w c i j l : Int} (hs : shapeOk h w c = true) (hi : 0 ≤ i ∧ i ≤ h - 1) (hj : 0 ≤ j ∧ j ≤ w - 1) (hl : 0 ≤ l ∧ l ≤ c - 1) :
    0 ≤ i * w ∧ i * w ≤ 64 ∧ 0 ≤ i * w + j ∧ 0 ≤ (i * w + j) * c ∧ (i * w + j) * c ≤ 512 ∧ 0 ≤ placeIn w c i j l ∧ placeIn w c i j l < h * w * c ∧ placeIn w c i j l < 512 := by
  obtain ⟨h1, h2, h3⟩ := shapeOk_iff.1 hs
  have a := mul_b (a := i) (b := w) (A := 7) (B := 8) (by omega) (by omega) (by omega) (by omega)
  have e : i * w ≤ (h - 1) * w := Int.mul_le_mul_of_nonneg_right hi.2 (by omega)
  have e2 : (h - 1) * w = h * w - w := by rw [Int.sub_mul]; omega
  have e3 : (i * w + j) * c ≤ (h * w - 1) * c := Int.mul_le_mul_of_nonneg_right (by omega) (by omega)
  have e4 : (h * w - 1) * c = h * w * c - c := by rw [Int.sub_mul]; omega
  have b := mul_b (a := i * w + j) (b := c) (A := 63) (B := 8) (by omega) (by omega) (by omega) (by omega)
  have sb := size_b hs
  unfold placeIn
  omega
theorem place_w {h w c i j l : Int} (hs : shapeOk h w c = true) (hi : 0 ≤ i ∧ i ≤ h - 1) (hj : 0 ≤ j ∧ j ≤ w - 1) (hl : 0 ≤ l ∧ l ≤ c - 1) :
    wrap64 (wrap64 (wrap64 (wrap64 (i * w) + j) * c) + l) = placeIn w c i j l := by
  have b := place_b hs hi hj hl
  have h2 := (shapeOk_iff.1 hs)
  rw [w64' (x := i * w) (by omega) (by omega), w64' (x := i * w + j) (by omega) (by omega), w64' (x := (i * w + j) * c) (by omega) (by omega)]
  exact w64' (by have := b.2.2.2.2.2.1; omega) (by have := b.2.2.2.2.2.2.2; omega)


theorem laws_toShape_eq (h w c : Int) : laws_toShape.f h w c = some (h, w, c) := rfl


theorem spec_ShapeOk_eq (h w c : Int) : spec_ShapeOk.f h w c = some (shapeOk h w c) := by
  unfold spec_ShapeOk.f shapeOk
  simp only [spec_l01In_eq, Option.bind_some, decide_eq_true_eq]
  by_cases h1 : 1 ≤ h ∧ h ≤ 8 <;> by_cases h2 : 1 ≤ w ∧ w ≤ 8 <;> simp [h1, h2]


theorem impl_ShapeOk_eq (h w c : Int) : impl_ShapeOk.f h w c = some (shapeOk h w c) := by
  unfold impl_ShapeOk.f shapeOk
  simp only [impl_in_eq, Option.bind_some, decide_eq_true_eq]
  by_cases h1 : 1 ≤ h ∧ h ≤ 8 <;> by_cases h2 : 1 ≤ w ∧ w ≤ 8 <;> simp [h1, h2]


theorem spec_SizeOf_eq (h w c : Int) : spec_SizeOf.f h w c = some (sizeOf h w c) := by
  unfold spec_SizeOf.f sizeOf
  rw [spec_ShapeOk_eq]
  simp only [Option.bind_some]
  by_cases hs : shapeOk h w c = true
  · have := size_b hs
    rw [if_pos hs, if_pos hs, w64' (x := h * w) (by omega) (by omega), w64' (by omega) (by omega)]
  · rw [if_neg hs, if_neg hs]


theorem impl_SizeOf_eq (h w c : Int) : impl_SizeOf.f h w c = some (sizeOf h w c) := by
  unfold impl_SizeOf.f sizeOf
  rw [impl_ShapeOk_eq]
  simp only [Option.bind_some]
  by_cases hs : shapeOk h w c = true
  · have := size_b hs
    rw [if_pos hs, if_pos hs, w64' (x := h * w) (by omega) (by omega), w64' (by omega) (by omega)]
  · rw [if_neg hs, if_neg hs]


theorem spec_PlaceOf_eq (h w c i j l : Int) : spec_PlaceOf.f h w c i j l = some (placeOf h w c i j l) := by
  unfold spec_PlaceOf.f placeOf
  rw [spec_ShapeOk_eq]
  simp only [Option.bind_some, spec_l01In_eq, decide_eq_true_eq]
  by_cases hs : shapeOk h w c = true
  · have hb := shapeOk_iff.1 hs
    rw [if_pos hs, w64' (x := h - 1) (by omega) (by omega), w64' (x := w - 1) (by omega) (by omega), w64' (x := c - 1) (by omega) (by omega)]
    by_cases hi : 0 ≤ i ∧ i ≤ h - 1
    · rw [if_pos hi]
      by_cases hj : 0 ≤ j ∧ j ≤ w - 1
      · rw [if_pos hj]
        by_cases hl : 0 ≤ l ∧ l ≤ c - 1
        · rw [if_pos hl, if_pos ⟨hs, hi, hj, hl⟩, place_w hs hi hj hl]
        · rw [if_neg hl, if_neg (fun z => hl z.2.2.2)]
      · rw [if_neg hj, if_neg (fun z => hj z.2.2.1)]
    · rw [if_neg hi, if_neg (fun z => hi z.2.1)]
  · rw [if_neg hs, if_neg (fun z => hs z.1)]


theorem laws_szLayer_tells (a b c d e f g : Int) (W B : List Int) (left : Int) (h : 0 ≤ left) (h1 : left ≤ 1048576) (hW : W.length ≤ 9223372036854775807) (hB : B.length ≤ 9223372036854775807) :
    ∃ r, laws_szLayer.f a b c d e f g W B left = some r ∧ r ≤ 1048576 ∧ (0 ≤ r → (W.length : Int) ≤ 1048576 ∧ (B.length : Int) ≤ 1048576) := by
  unfold laws_szLayer.f
  have b1 := szL_b W h h1
  rw [laws_szIntS_eq W left h h1 hW]
  simp only [Option.bind_some]
  by_cases hr : szL W left < 0
  · rw [if_pos hr]
    exact ⟨-1, rfl, by omega, fun z => by omega⟩
  · have b2 := szL_b B (left := szL W left) (by omega) (by omega)
    rw [if_neg hr, laws_szIntS_eq B _ (by omega) (by omega) hB]
    simp only [Option.bind_some]
    split
    · exact ⟨-1, rfl, by omega, fun z => by omega⟩
    · exact ⟨_, rfl, by omega, fun z => ⟨b1.2.2 (by omega), b2.2.2 (by omega)⟩⟩


theorem laws_toLayer_ev (a b c d e f g : Int) (W B : List Int) (hW : (W.length : Int) ≤ 1048576) (hB : (B.length : Int) ≤ 1048576) : Evp fun k => laws_toLayer.f k a b c d e f g W B = some (a, b, c, d, e, f, g, W, B) :=
  evMono (evAnd (laws_toIntS_ev W (by omega)) (laws_toIntS_ev B (by omega))) fun k ⟨h1, h2⟩ => by
    unfold laws_toLayer.f
    rw [h1, h2]
    rfl


theorem laws_eqLayer_self (a b c d e f g : Int) (W B : List Int) (hW : (W.length : Int) ≤ 1048576) (hB : (B.length : Int) ≤ 1048576) : Evp fun k => laws_eqLayer.f k a b c d e f g W B a b c d e f g W B = some true :=
  evMono (evAnd (laws_eqIntS_ev W W (by omega)) (laws_eqIntS_ev B B (by omega))) fun k ⟨h1, h2⟩ => by
    unfold laws_eqLayer.f
    simp [h1, h2]


def marksInt (k0 : Int) (n : Nat) : List Int := (List.range n).map fun (j : Nat) => k0 + (j : Int)
theorem marksInt_len (k0 : Int) (n : Nat) : (marksInt k0 n).length = n := by simp [marksInt]
theorem marksInt_succ (k0 : Int) (n : Nat) : marksInt k0 (n + 1) = k0 :: marksInt (k0 + 1) n := by
  unfold marksInt
  rw [List.range_succ_eq_map]
  simp only [List.map_cons, List.map_map, Function.comp_def, Int.natCast_zero, Int.add_zero, Nat.succ_eq_add_one, Int.natCast_add, Int.natCast_one]
  congr 1
  apply List.map_congr_left
  intro j _
  rw [show k0 + ((j : Int) + 1) = k0 + 1 + (j : Int) by omega]
theorem marksInt_get (k0 : Int) (n j : Nat) (h : j < n) : (marksInt k0 n)[j]'(by simpa [marksInt] using h) = k0 + (j : Int) := by simp [marksInt]


theorem laws_markIntS_l0 : ∀ (d i : Nat) (l : List Int) (x : Int), i + d = l.length → 0 ≤ x → x + d ≤ 4000000000000 → l.length ≤ 4000000000000 → Evp fun k => laws_markIntS.l0 k l x (i : Int) = some (x + d, l.take i ++ marksInt x d)
  | 0, i, l, x, hi, h0, h1, hl => evSuc (evAll fun k => by
    simp only [laws_markIntS.l0]
    rw [if_neg (by omega), List.take_of_length_le (by omega)]
    simp [marksInt])
  | d + 1, i, l, x, hi, h0, h1, hl => by
    have hlt : i < l.length := by omega
    refine evSuc (evMono (laws_markIntS_l0 d (i + 1) (l.set i (x)) (x + 1) (by simp; omega) (by omega) (by omega) (by simp; omega)) fun k ih => ?_)
    simp only [laws_markIntS.l0]
    rw [if_pos (by omega), if_pos (by omega), Int.toNat_natCast, w64' (x := x + 1) (by omega) (by omega), w64' (x := (i : Int) + 1) (by omega) (by omega)]
    have e : (l.set i (x)).take (i + 1) = l.take i ++ [x] := by
      rw [List.take_succ_eq_append_getElem (by simpa using hlt), List.take_set_of_le (Nat.le_refl i)]
      simp
    rw [e] at ih
    have ih' : laws_markIntS.l0 k (l.set i (x)) (x + 1) ((i : Int) + 1) = _ := ih
    rw [ih', marksInt_succ]
    simp
    omega
theorem laws_markIntS_ev (l : List Int) (x : Int) (h0 : 0 ≤ x) (h1 : x + l.length ≤ 4000000000000) : Evp fun k => laws_markIntS.f k l x = some (x + l.length, marksInt x l.length) := by
  have := laws_markIntS_l0 l.length 0 l x (by omega) h0 h1 (by omega)
  unfold laws_markIntS.f
  simpa using this


theorem laws_heldIntS_l0 (l : List Int) (hl : l.length ≤ 4000000000000) (x0 : Int) (h0 : 0 ≤ x0) (h1 : x0 + l.length ≤ 4000000000000) (hm : l = marksInt x0 l.length) : ∀ (d i : Nat), i + d = l.length → Evp fun k => laws_heldIntS.l0 k l (x0 + i) (i : Int) = some (x0 + l.length)
  | 0, i, hi => evSuc (evAll fun k => by
    simp only [laws_heldIntS.l0]
    rw [if_neg (by omega)]
    congr 1
    omega)
  | d + 1, i, hi => by
    have hlt : i < l.length := by omega
    refine evSuc (evMono (laws_heldIntS_l0 l hl x0 h0 h1 hm d (i + 1) (by omega)) fun k ih => ?_)
    have e : l[i] = x0 + (i : Int) := by
      have g := marksInt_get x0 l.length i hlt
      rw [← g]
      congr 1
    simp only [laws_heldIntS.l0]
    rw [if_pos (by omega), if_pos (by omega), rd_eq hlt, if_pos e, w64' (x := x0 + (i : Int) + 1) (by omega) (by omega), w64' (x := (i : Int) + 1) (by omega) (by omega), show x0 + (i : Int) + 1 = x0 + ((i + 1 : Nat) : Int) by omega]
    exact ih
theorem laws_heldIntS_ev (n : Nat) (x : Int) (h0 : 0 ≤ x) (h1 : x + n ≤ 4000000000000) : Evp fun k => laws_heldIntS.f k (marksInt x n) x = some (x + n) := by
  have := laws_heldIntS_l0 (marksInt x n) (by rw [marksInt_len]; omega) x h0 (by rw [marksInt_len]; omega) (by rw [marksInt_len]) n 0 (by rw [marksInt_len]; omega)
  rw [marksInt_len] at this
  unfold laws_heldIntS.f
  simpa using this


def item8 (x : Int) : Bool := decide (-128 ≤ x ∧ x ≤ 127)
def itemsB (l : List Int) : Bool := l.all item8
theorem itemsB_iff {l : List Int} : itemsB l = true ↔ ∀ x ∈ l, -128 ≤ x ∧ x ≤ 127 := by
  unfold itemsB item8
  simp
theorem all_at {p : Int → Bool} {l : List Int} {i : Nat} (h : i < l.length) : (l.drop i).all p = (p l[i] && (l.drop (i + 1)).all p) := by
  rw [drop_at h, List.all_cons]
def tensorOk (h w c : Int) (l : List Int) : Bool := shapeOk h w c && (decide ((l.length : Int) = sizeOf h w c) && itemsB l)
theorem tensorOk_iff {h w c : Int} {l : List Int} : tensorOk h w c l = true ↔ shapeOk h w c = true ∧ (l.length : Int) = h * w * c ∧ ∀ x ∈ l, -128 ≤ x ∧ x ≤ 127 := by
  unfold tensorOk sizeOf
  by_cases hs : shapeOk h w c = true
  · simp [hs, itemsB_iff]
  · simp [hs]
theorem tensorOk_len {h w c : Int} {l : List Int} (ht : tensorOk h w c l = true) : 1 ≤ l.length ∧ l.length ≤ 512 := by
  obtain ⟨hs, hl, _⟩ := tensorOk_iff.1 ht
  have := size_b hs
  omega


theorem laws_szTensor_tells (h w c : Int) (l : List Int) (left : Int) (h0 : 0 ≤ left) (h1 : left ≤ 1048576) (hl : l.length ≤ 9223372036854775807) :
    ∃ r, laws_szTensor.f h w c l left = some r ∧ r ≤ 1048576 ∧ (0 ≤ r → (l.length : Int) ≤ 1048576) := by
  have b := szL_b l h0 h1
  by_cases hr : szL l left < 0
  · exact ⟨-1, bind_of (laws_szIntS_eq l left h0 h1 hl) (ite_yes hr rfl), by omega, fun z => by omega⟩
  · exact ⟨_, bind_of (laws_szIntS_eq l left h0 h1 hl) (ite_no hr rfl), by omega, b.2.2⟩


theorem laws_toTensor_ev (h w c : Int) (l : List Int) (hl : (l.length : Int) ≤ 1048576) : Evp fun k => laws_toTensor.f k h w c l = some (h, w, c, l) :=
  evMono (laws_toIntS_ev l (by omega)) fun k e => bind_of (laws_toShape_eq h w c) (bind_of e rfl)


theorem laws_eqShape_self (h w c : Int) : laws_eqShape.f h w c h w c = some true := ite_yes rfl (ite_yes rfl (ite_yes rfl rfl))


theorem laws_eqTensor_self (h w c : Int) (l : List Int) (hl : (l.length : Int) ≤ 1048576) : Evp fun k => laws_eqTensor.f k h w c l h w c l = some true :=
  evMono (laws_eqIntS_ev l l (by omega)) fun k e => bind_of (laws_eqShape_self h w c) (ite_yes rfl (bind_of e (ite_yes (by simp) rfl)))


theorem spec_l02Int8_eq (x : Int) : spec_l02Int8.f x = some (item8 x) := by
  unfold spec_l02Int8.f
  rw [spec_l01In_eq]
  rfl


theorem spec_TensorOk_l0 (h w c : Int) (l : List Int) (hl : l.length ≤ 9223372036854775807) : ∀ (d i : Nat), i + d = l.length → Evp fun k => spec_TensorOk.l0 k (i : Int) h w c l = some ((l.drop i).all item8)
  | 0, i, hi => evSuc (evAll fun k => by
    simp only [spec_TensorOk.l0]
    rw [if_neg (by omega), List.drop_eq_nil_of_le (by omega)]
    rfl)
  | d + 1, i, hi => by
    have hlt : i < l.length := by omega
    refine evSuc (evMono (spec_TensorOk_l0 h w c l hl d (i + 1) (by omega)) fun k ih => ?_)
    simp only [spec_TensorOk.l0]
    rw [if_pos (by omega), if_pos (by omega), rd_eq hlt, spec_l02Int8_eq, all_at hlt]
    simp only [Option.bind_some]
    cases hx : item8 l[i] with
    | true =>
      rw [if_pos rfl, w64' (by omega) (by omega)]
      simpa using ih
    | false => simp
theorem spec_TensorOk_ev (h w c : Int) (l : List Int) (hl : l.length ≤ 9223372036854775807) : Evp fun k => spec_TensorOk.f k h w c l = some (tensorOk h w c l) := by
  unfold tensorOk
  by_cases hs : shapeOk h w c = true
  · by_cases hz : (l.length : Int) = sizeOf h w c
    · refine evMono (evSuc (p := fun k => spec_TensorOk.j0 k false h w c l = some (l.all item8)) (evMono (spec_TensorOk_l0 h w c l hl l.length 0 (by omega)) fun k e => ?_)) fun k e => ?_
      · simp only [spec_TensorOk.j0]
        exact ite_no (by simp) e
      · refine bind_of (spec_ShapeOk_eq h w c) (ite_yes hs (bind_of (spec_SizeOf_eq h w c) ?_))
        rw [show ((l.length : Int) != sizeOf h w c) = false by simp [hz], hs, decide_eq_true hz]
        exact e
    · refine evSuc (evAll fun k => bind_of (spec_ShapeOk_eq h w c) (ite_yes hs (bind_of (spec_SizeOf_eq h w c) ?_)))
      rw [show ((l.length : Int) != sizeOf h w c) = true by simp [hz], decide_eq_false hz]
      simp [spec_TensorOk.j0]
  · refine evSuc (evAll fun k => bind_of (spec_ShapeOk_eq h w c) (ite_no hs ?_))
    simp [spec_TensorOk.j0, hs]


theorem impl_areItems_1_eq (x : Int) : impl_areItems_1.f x = some (!item8 x) := by
  unfold impl_areItems_1.f
  rw [impl_in_eq]
  rfl


theorem indexItems_l0 (l : List Int) (hl : l.length ≤ 9223372036854775807) : ∀ (d i : Nat), i + d = l.length → ∃ r, (Evp fun k => slices_IndexFunc_int_int_impl_areItems_1.l0 k l (l.length : Int) (i : Int) = some r) ∧ (decide (r ≥ 0) = !(l.drop i).all item8)
  | 0, i, hi => ⟨-1, evSuc (evAll fun k => by
    simp only [slices_IndexFunc_int_int_impl_areItems_1.l0]
    rw [if_neg (by omega)]), by rw [List.drop_eq_nil_of_le (by omega)]; rfl⟩
  | d + 1, i, hi => by
    have hlt : i < l.length := by omega
    rw [all_at hlt]
    cases hx : item8 l[i] with
    | true =>
      obtain ⟨r, h1, h2⟩ := indexItems_l0 l hl d (i + 1) (by omega)
      refine ⟨r, evSuc (evMono h1 fun k ih => ?_), by simpa using h2⟩
      simp only [slices_IndexFunc_int_int_impl_areItems_1.l0]
      rw [if_pos (by omega), if_pos (by omega), if_pos (by omega), rd_eq hlt, impl_areItems_1_eq, hx]
      simp only [Option.bind_some]
      rw [if_neg (by simp), w64' (by omega) (by omega)]
      exact ih
    | false =>
      refine ⟨(i : Int), evSuc (evAll fun k => ?_), by simp⟩
      simp only [slices_IndexFunc_int_int_impl_areItems_1.l0]
      rw [if_pos (by omega), if_pos (by omega), if_pos (by omega), rd_eq hlt, impl_areItems_1_eq, hx]
      simp


theorem impl_areItems_ev (l : List Int) (hl : l.length ≤ 9223372036854775807) : Evp fun k => impl_areItems.f k l = some (itemsB l) := by
  obtain ⟨r, h1, h2⟩ := indexItems_l0 l hl l.length 0 (by omega)
  refine evMono h1 fun k e => ?_
  have e1 : slices_ContainsFunc_int_int_impl_areItems_1.f k l = some (decide (r ≥ 0)) := bind_of (f := fun t => some (decide (t ≥ 0))) e rfl
  have e2 : impl_areItems.f k l = some (!decide (r ≥ 0)) := bind_of (f := fun t => some (!t)) e1 rfl
  rw [e2, h2]
  simp [itemsB]


theorem impl_TensorOk_ev (h w c : Int) (l : List Int) (hl : l.length ≤ 9223372036854775807) : Evp fun k => impl_TensorOk.f k h w c l = some (tensorOk h w c l) := by
  refine evMono (impl_areItems_ev l hl) fun k e => ?_
  unfold tensorOk
  by_cases hs : shapeOk h w c = true
  · refine bind_of (impl_ShapeOk_eq h w c) (ite_yes hs (bind_of (impl_SizeOf_eq h w c) ?_))
    by_cases hz : (l.length : Int) = sizeOf h w c
    · rw [if_pos hz, hs, decide_eq_true hz]
      exact bind_of e rfl
    · rw [if_neg hz, decide_eq_false hz]
      simp
  · refine bind_of (impl_ShapeOk_eq h w c) (ite_no hs ?_)
    simp [hs]


def itemAt (h w c : Int) (l : List Int) (i j m : Int) : Int × Bool := if tensorOk h w c l = true ∧ ¬ placeOf h w c i j m < 0 then (rd l (placeOf h w c i j m), true) else (0, false)
theorem placeOf_b {h w c i j m : Int} (hp : ¬ placeOf h w c i j m < 0) : 0 ≤ placeOf h w c i j m ∧ placeOf h w c i j m < h * w * c ∧ shapeOk h w c = true ∧ (0 ≤ i ∧ i ≤ h - 1) ∧ (0 ≤ j ∧ j ≤ w - 1) ∧ (0 ≤ m ∧ m ≤ c - 1) ∧ placeOf h w c i j m = placeIn w c i j m := by
  unfold placeOf at hp ⊢
  by_cases hh : shapeOk h w c = true ∧ (0 ≤ i ∧ i ≤ h - 1) ∧ (0 ≤ j ∧ j ≤ w - 1) ∧ (0 ≤ m ∧ m ≤ c - 1)
  · obtain ⟨h1, h2, h3, h4⟩ := hh
    have := place_b h1 h2 h3 h4
    rw [if_pos ⟨h1, h2, h3, h4⟩]
    exact ⟨this.2.2.2.2.2.1, this.2.2.2.2.2.2.1, h1, h2, h3, h4, rfl⟩
  · rw [if_neg hh] at hp
    omega


theorem spec_ItemAt_ev (h w c : Int) (l : List Int) (i j m : Int) (hl : l.length ≤ 9223372036854775807) : Evp fun k => spec_ItemAt.f k h w c l i j m = some (itemAt h w c l i j m) := by
  refine evMono (spec_TensorOk_ev h w c l hl) fun k e => ?_
  refine bind_of (spec_PlaceOf_eq h w c i j m) (bind_of e ?_)
  unfold itemAt
  by_cases ht : tensorOk h w c l = true
  · by_cases hp : placeOf h w c i j m < 0
    · rw [if_pos ht, if_pos hp, if_neg (fun z => z.2 hp)]
    · have hb := placeOf_b hp
      obtain ⟨_, hlen, _⟩ := tensorOk_iff.1 ht
      rw [if_pos ht, if_neg hp, if_pos hb.1, if_pos (by omega), if_pos ⟨ht, hp⟩]
  · rw [if_neg ht, if_neg (fun z => ht z.1)]


theorem slices_Max_l0 (l : List Int) (hl : l.length ≤ 9223372036854775807) : ∀ (d i : Nat) (m : Int), i + d = l.length → (∀ j, j < i → l.getD j 0 ≤ m) → (∃ j, j < i ∧ l.getD j 0 = m) → ∃ M, (∀ j, j < l.length → l.getD j 0 ≤ M) ∧ (∃ j, j < l.length ∧ l.getD j 0 = M) ∧ Evp fun k => slices_Max_int_int.l0 k l m (i : Int) = some M
  | 0, i, m, hi, h1, h2 => ⟨m, fun j hj => h1 j (by omega), by obtain ⟨j, a, b⟩ := h2; exact ⟨j, by omega, b⟩, evSuc (evAll fun k => by
    simp only [slices_Max_int_int.l0]
    rw [if_neg (by omega)])⟩
  | d + 1, i, m, hi, h1, h2 => by
    have hm : m ≤ mx m (l.getD i 0) ∧ l.getD i 0 ≤ mx m (l.getD i 0) ∧ (mx m (l.getD i 0) = m ∨ mx m (l.getD i 0) = l.getD i 0) := by
      unfold mx
      split <;> omega
    obtain ⟨M, g1, g2, ih⟩ := slices_Max_l0 l hl d (i + 1) (mx m (l.getD i 0)) (by omega) (fun j hj => by
      by_cases e : j = i
      · subst e; exact hm.2.1
      · have := h1 j (by omega)
        omega) (by
      rcases hm.2.2 with e | e
      · obtain ⟨j, a, b⟩ := h2
        exact ⟨j, by omega, by omega⟩
      · exact ⟨i, by omega, by omega⟩)
    refine ⟨M, g1, g2, evSuc (evMono ih fun k e => ?_)⟩
    simp only [slices_Max_int_int.l0]
    rw [if_pos (by omega), if_pos (by omega), rd_nat, w64' (by omega) (by omega)]
    exact e
theorem slices_Max_ok (l : List Int) (hl : l.length ≤ 9223372036854775807) (h1 : 1 ≤ l.length) : ∃ M, (∀ j, j < l.length → l.getD j 0 ≤ M) ∧ (∃ j, j < l.length ∧ l.getD j 0 = M) ∧ Evp fun k => slices_Max_int_int.f k l = some M := by
  obtain ⟨M, g1, g2, e⟩ := slices_Max_l0 l hl (l.length - 1) 1 (l.getD 0 0) (by omega) (fun j hj => by
    obtain rfl : j = 0 := by omega
    omega) ⟨0, by omega, rfl⟩
  refine ⟨M, g1, g2, evMono e fun k e => ?_⟩
  refine ite_no (by omega) (ite_yes (by omega) ?_)
  rw [show rd l 0 = l.getD 0 0 from rd_nat l 0]
  exact e


theorem rdLaw_eq {l : List S28} {i : Nat} (h : i < l.length) : rd_T28 l (i : Int) = l[i] := by
  unfold rd_T28
  simp [List.getD, h]
theorem rdImp_eq {l : List S37} {i : Nat} (h : i < l.length) : rd_T37 l (i : Int) = l[i] := by
  unfold rd_T37
  simp [List.getD, h]
def conv (x : S28) : S37 := ⟨x.f0, x.f1, x.f2, x.f3, x.f4, x.f5, x.f6, x.f7, x.f8⟩
/-- What the row tells of a layer's fields. -/
def wfLayer (x : S28) : Prop := (Lit.int .i64 x.f0).wf = true ∧ (Lit.int .i64 x.f1).wf = true ∧ (Lit.int .i64 x.f2).wf = true ∧ (Lit.int .i64 x.f3).wf = true ∧ (Lit.int .i64 x.f4).wf = true ∧ (Lit.int .i64 x.f5).wf = true ∧ (Lit.int .i64 x.f6).wf = true ∧ (x.f7.length ≤ maxLen ∧ ∀ y ∈ x.f7, (Lit.int .i64 y).wf = true) ∧ (x.f8.length ≤ maxLen ∧ ∀ y ∈ x.f8, (Lit.int .i64 y).wf = true)
theorem wfLayer.len {x : S28} (h : wfLayer x) : x.f7.length ≤ 9223372036854775807 ∧ x.f8.length ≤ 9223372036854775807 := by
  obtain ⟨-, -, -, -, -, -, -, h7, h8⟩ := h
  unfold maxLen at h7 h8
  exact ⟨h7.1, h8.1⟩
def wfLayers (l : List S28) : Prop := l.length ≤ maxLen ∧ ∀ x ∈ l, wfLayer x
/-- The lists of a layer, of layers: within the law's bound. -/
def smallL (x : S37) : Prop := (x.f7.length : Int) ≤ 1048576 ∧ (x.f8.length : Int) ≤ 1048576
def smallM (l : List S28) : Prop := (l.length : Int) ≤ 1048576 ∧ ∀ x ∈ l, smallL (conv x)
def smallI (l : List S37) : Prop := (l.length : Int) ≤ 1048576 ∧ ∀ x ∈ l, smallL x
theorem smallM.conv {l : List S28} (h : smallM l) : smallI (l.map Pure.conv) := by
  refine ⟨by simpa using h.1, fun x hx => ?_⟩
  obtain ⟨y, hy, rfl⟩ := List.mem_map.1 hx
  exact h.2 y hy
theorem laws_toLayerS_l0 (l : List S28) (h : smallM l) : ∀ (d i : Nat) (o : List S37), i + d = l.length → o.length = (l.map conv).length → o.take i = (l.map conv).take i → Evp fun k => laws_toLayerS.l0 k l o (i : Int) = some (l.map conv)
  | 0, i, o, hi, ho, ht => evSuc (evAll fun k => by
    simp only [laws_toLayerS.l0]
    rw [if_neg (by omega)]
    obtain rfl : i = (l.map conv).length := by simpa using hi
    rw [fill_end ho ht])
  | d + 1, i, o, hi, ho, ht => by
    have hlt : i < l.length := by omega
    have hlt' : i < (l.map conv).length := by simpa using hlt
    have hs := fill_step hlt' ho ht
    have hb := h.1
    have hx := h.2 l[i] (List.getElem_mem hlt)
    have hol : o.length = l.length := by simpa using ho
    refine evSuc (evMono (evAnd (laws_toLayer_ev l[i].f0 l[i].f1 l[i].f2 l[i].f3 l[i].f4 l[i].f5 l[i].f6 l[i].f7 l[i].f8 hx.1 hx.2) (laws_toLayerS_l0 l h d (i + 1) (o.set i (l.map conv)[i]) (by omega) hs.1 hs.2)) fun k ⟨e, ih⟩ => ?_)
    simp only [laws_toLayerS.l0]
    rw [if_pos (by omega), if_pos (by omega), rdLaw_eq hlt]
    refine bind_of e (ite_yes (by omega) ?_)
    rw [w64' (by omega) (by omega), Int.toNat_natCast]
    rw [List.getElem_map] at ih
    exact ih
theorem laws_toLayerS_ev (l : List S28) (h : smallM l) : Evp fun k => laws_toLayerS.f k l = some (l.map conv) :=
  evMono (laws_toLayerS_l0 l h l.length 0 (List.replicate l.length z37) (by omega) (by simp) (by simp)) fun k e => by
    have := h.1
    refine ite_yes (by omega) (ite_yes (by omega) ?_)
    rw [Int.toNat_natCast]
    exact e


theorem laws_toModel_ev (h w c : Int) (l : List S28) (hl : smallM l) : Evp fun k => laws_toModel.f k h w c l = some (h, w, c, l.map conv) :=
  evMono (laws_toLayerS_ev l hl) fun k e => bind_of (laws_toShape_eq h w c) (bind_of e rfl)


theorem laws_szLayerS_l0 (l : List S28) (hl : l.length ≤ 9223372036854775807) (hx : ∀ x ∈ l, x.f7.length ≤ 9223372036854775807 ∧ x.f8.length ≤ 9223372036854775807) : ∀ (d i : Nat) (left : Int), i + d = l.length → 0 ≤ left → left ≤ 1048576 → ∃ r, r ≤ 1048576 ∧ (0 ≤ r → ∀ x ∈ l.drop i, smallL (conv x)) ∧ Evp fun k => laws_szLayerS.l0 k l left (i : Int) = some r
  | 0, i, left, hi, h0, h1 => by
    refine ⟨left, h1, fun _ x hm => ?_, evSuc (evAll fun k => ?_)⟩
    · rw [List.drop_eq_nil_of_le (by omega)] at hm
      cases hm
    · simp only [laws_szLayerS.l0]
      rw [if_neg (by omega)]
  | d + 1, i, left, hi, h0, h1 => by
    have hlt : i < l.length := by omega
    have hb := hx l[i] (List.getElem_mem hlt)
    obtain ⟨r, hr, hr1, hr2⟩ := laws_szLayer_tells l[i].f0 l[i].f1 l[i].f2 l[i].f3 l[i].f4 l[i].f5 l[i].f6 l[i].f7 l[i].f8 left h0 h1 hb.1 hb.2
    by_cases hn : r < 0
    · refine ⟨-1, by omega, fun z => by omega, evSuc (evAll fun k => ?_)⟩
      simp only [laws_szLayerS.l0]
      rw [if_pos (by omega), if_pos (by omega), rdLaw_eq hlt]
      exact bind_of hr (ite_yes hn rfl)
    · obtain ⟨q, q1, q2, ih⟩ := laws_szLayerS_l0 l hl hx d (i + 1) r (by omega) (by omega) hr1
      refine ⟨q, q1, fun z x hm => ?_, evSuc (evMono ih fun k e => ?_)⟩
      · rw [List.drop_eq_getElem_cons hlt] at hm
        rcases List.mem_cons.1 hm with rfl | hm
        · exact hr2 (by omega)
        · exact q2 z x hm
      · simp only [laws_szLayerS.l0]
        rw [if_pos (by omega), if_pos (by omega), rdLaw_eq hlt]
        refine bind_of hr (ite_no hn ?_)
        rw [w64' (by omega) (by omega)]
        exact e
theorem laws_szLayerS_tells (l : List S28) (hl : l.length ≤ 9223372036854775807) (hx : ∀ x ∈ l, x.f7.length ≤ 9223372036854775807 ∧ x.f8.length ≤ 9223372036854775807) (left : Int) (h0 : 0 ≤ left) (h1 : left ≤ 1048576) : ∃ r, r ≤ 1048576 ∧ (0 ≤ r → smallM l) ∧ Evp fun k => laws_szLayerS.f k l left = some r := by
  by_cases hn : left - (l.length : Int) < 0
  · refine ⟨-1, by omega, fun z => by omega, evAll fun k => ?_⟩
    refine ite_yes ?_ rfl
    rw [w64' (by omega) (by omega)]
    exact hn
  · obtain ⟨r, r1, r2, e⟩ := laws_szLayerS_l0 l hl hx l.length 0 (left - l.length) (by omega) (by omega) (by omega)
    refine ⟨r, r1, fun z => ⟨by omega, by simpa using r2 z⟩, evMono e fun k e => ?_⟩
    have hw : wrap64 (left - (l.length : Int)) = left - l.length := w64' (by omega) (by omega)
    refine ite_no (by rw [hw]; exact hn) ?_
    rw [hw]
    exact e


theorem laws_szModel_tells (h w c : Int) (l : List S28) (left : Int) (h0 : 0 ≤ left) (h1 : left ≤ 1048576) (hl : l.length ≤ 9223372036854775807) (hx : ∀ x ∈ l, x.f7.length ≤ 9223372036854775807 ∧ x.f8.length ≤ 9223372036854775807) : ∃ r, r ≤ 1048576 ∧ (0 ≤ r → smallM l) ∧ Evp fun k => laws_szModel.f k h w c l left = some r := by
  obtain ⟨r, r1, r2, e⟩ := laws_szLayerS_tells l hl hx left h0 h1
  by_cases hn : r < 0
  · exact ⟨-1, by omega, fun z => by omega, evMono e fun k e => bind_of e (ite_yes hn rfl)⟩
  · exact ⟨r, r1, r2, evMono e fun k e => bind_of e (ite_no hn rfl)⟩


theorem laws_eqLayerS_l0 (l : List S37) (h : smallI l) : ∀ (d i : Nat), i + d = l.length → Evp fun k => laws_eqLayerS.l0 k l l (i : Int) = some true
  | 0, i, hi => evSuc (evAll fun k => by
    simp only [laws_eqLayerS.l0]
    rw [if_neg (by omega)])
  | d + 1, i, hi => by
    have hlt : i < l.length := by omega
    have hb := h.1
    have hx := h.2 l[i] (List.getElem_mem hlt)
    refine evSuc (evMono (evAnd (laws_eqLayer_self l[i].f0 l[i].f1 l[i].f2 l[i].f3 l[i].f4 l[i].f5 l[i].f6 l[i].f7 l[i].f8 hx.1 hx.2) (laws_eqLayerS_l0 l h d (i + 1) (by omega))) fun k ⟨e, ih⟩ => ?_)
    simp only [laws_eqLayerS.l0]
    rw [if_pos (by omega), if_pos (by omega), if_pos (by omega), rdImp_eq hlt]
    refine bind_of e (ite_yes rfl ?_)
    rw [w64' (by omega) (by omega)]
    exact ih
theorem laws_eqLayerS_self (l : List S37) (h : smallI l) : Evp fun k => laws_eqLayerS.f k l l = some true :=
  evMono (laws_eqLayerS_l0 l h l.length 0 (by omega)) fun k e => ite_yes rfl e


theorem laws_eqModel_self (h w c : Int) (l : List S37) (hl : smallI l) : Evp fun k => laws_eqModel.f k h w c l h w c l = some true :=
  evMono (laws_eqLayerS_self l hl) fun k e => bind_of (laws_eqShape_self h w c) (ite_yes rfl (bind_of e (ite_yes rfl rfl)))


theorem and_of {b c : Bool} {x y : Option Bool} (hx : b = true → x = some c) (hy : y = some false) : (if b = true then x else y) = some (b && c) := by
  cases b with
  | true => rw [if_pos rfl, hx rfl]; simp
  | false => rw [if_neg (by simp), hy]; simp
theorem and_ofP {P : Prop} [Decidable P] {c : Bool} {x y : Option Bool} (hx : P → x = some c) (hy : y = some false) : (if P then x else y) = some (decide P && c) := by
  by_cases h : P
  · rw [if_pos h, hx h]; simp [h]
  · rw [if_neg h, hy]; simp [h]
def rng (x lo hi : Int) : Bool := decide (lo ≤ x ∧ x ≤ hi)
theorem rng_iff {x lo hi : Int} : rng x lo hi = true ↔ lo ≤ x ∧ x ≤ hi := by simp [rng]
def biasB (l : List Int) : Bool := l.all fun x => rng x (-1000000) 1000000
def scaledB (ou mu sh ze : Int) (W B : List Int) (n : Int) : Bool :=
  rng ou 1 8 && (rng mu 0 2147483647 && (rng sh 0 31 && (rng ze (-128) 127 && (decide ((W.length : Int) = ou * n) && (itemsB W && (decide ((B.length : Int) = ou) && biasB B))))))
def bareB (ou mu sh : Int) (W B : List Int) : Bool := decide (ou = 0) && (decide (mu = 0) && (decide (sh = 0) && (decide ((W.length : Int) = 0) && decide ((B.length : Int) = 0))))
def noneB (sz st : Int) : Bool := decide (sz = 0) && decide (st = 0)
def windB (sz st h w : Int) : Bool := (rng sz 1 3 && (decide (sz ≤ h) && decide (sz ≤ w))) && rng st 1 2
def sh0 : Int × Int × Int × Bool := (0, 0, 0, false)
def outShape (h w c kd ou sz st mu sh ze : Int) (W B : List Int) : Int × Int × Int × Bool :=
  if shapeOk h w c = true then
    if kd = 0 then if h * w * c ≤ 64 ∧ noneB sz st = true ∧ scaledB ou mu sh ze W B (h * w * c) = true then (1, 1, ou, true) else sh0
    else if kd = 1 then if windB sz st h w = true ∧ (W.length : Int) ≤ 600 ∧ scaledB ou mu sh ze W B (sz * sz * c) = true then ((h - sz) / st + 1, (w - sz) / st + 1, ou, true) else sh0
    else if kd = 2 ∨ kd = 3 then if windB sz st h w = true ∧ bareB ou mu sh W B = true ∧ ze = 0 then ((h - sz) / st + 1, (w - sz) / st + 1, c, true) else sh0
    else if kd = 4 then if noneB sz st = true ∧ bareB ou mu sh W B = true ∧ rng ze (-128) 127 = true then (h, w, c, true) else sh0
    else if kd = 5 then if noneB sz st = true ∧ bareB ou mu sh W B = true ∧ ze = 0 ∧ h * w * c ≤ 8 then (1, 1, h * w * c, true) else sh0
    else sh0
  else sh0
theorem scaledB_iff {ou mu sh ze : Int} {W B : List Int} {n : Int} : scaledB ou mu sh ze W B n = true ↔ (1 ≤ ou ∧ ou ≤ 8) ∧ (0 ≤ mu ∧ mu ≤ 2147483647) ∧ (0 ≤ sh ∧ sh ≤ 31) ∧ (-128 ≤ ze ∧ ze ≤ 127) ∧ (W.length : Int) = ou * n ∧ itemsB W = true ∧ (B.length : Int) = ou ∧ biasB B = true := by
  simp only [scaledB, Bool.and_eq_true, rng_iff, decide_eq_true_eq]
theorem windB_iff {sz st h w : Int} : windB sz st h w = true ↔ ((1 ≤ sz ∧ sz ≤ 3) ∧ sz ≤ h ∧ sz ≤ w) ∧ 1 ≤ st ∧ st ≤ 2 := by
  simp only [windB, Bool.and_eq_true, rng_iff, decide_eq_true_eq]
theorem shape_dims {h w c : Int} (hs : shapeOk h w c = true) : (1 ≤ h ∧ h ≤ 8) ∧ (1 ≤ w ∧ w ≤ 8) ∧ (1 ≤ c ∧ c ≤ 8) := by
  simpa [shapeOk] using hs
theorem win_dims {h sz st : Int} (h1 : h ≤ 8) (h2 : 1 ≤ sz) (h3 : sz ≤ h) (h4 : 1 ≤ st) : wrap64 ((wrap64 (Int.tdiv (wrap64 (h - sz)) st)) + 1) = (h - sz) / st + 1 := by
  rw [w64' (x := h - sz) (by omega) (by omega), tdiv_pos (by omega)]
  have h5 : 0 ≤ (h - sz) / st := Int.ediv_nonneg (by omega) (by omega)
  have h6 := Int.ediv_le_self (a := h - sz) st (by omega)
  rw [w64' (x := (h - sz) / st) (by omega) (by omega), w64' (by omega) (by omega)]
theorem small_mul {a n : Int} (h1 : 1 ≤ a) (h2 : a ≤ 8) (h3 : 0 ≤ n) (h4 : n ≤ 4096) : wrap64 (a * n) = a * n := by
  have := bnd_mul (a := a) (b := n) (A := 8) (B := 4096) (by omega) (by omega) (by omega) (by omega)
  exact w64' (by omega) (by omega)
theorem area_b {sz c : Int} (h1 : 1 ≤ sz) (h2 : sz ≤ 3) (h3 : 1 ≤ c) (h4 : c ≤ 8) : 0 ≤ sz * sz * c ∧ sz * sz * c ≤ 72 ∧ 0 ≤ sz * sz ∧ sz * sz ≤ 9 := by
  have a1 := Int.mul_nonneg (show 0 ≤ sz by omega) (show 0 ≤ sz by omega)
  have a2 := bnd_mul (a := sz) (b := sz) (A := 3) (B := 3) (by omega) (by omega) (by omega) (by omega)
  have a3 := Int.mul_nonneg a1 (show 0 ≤ c by omega)
  have a4 := bnd_mul (a := sz * sz) (b := c) (A := 9) (B := 8) (by omega) (by omega) (by omega) (by omega)
  omega


def valB (kd ze : Int) : Bool := if kd = 4 then rng ze (-128) 127 else decide (ze = 0)
def plainB (kd ou sz st mu sh ze : Int) (W B : List Int) (win wei : Bool) : Bool :=
  (if win = true then rng sz 1 3 && rng st 1 2 else noneB sz st) &&
  (if wei = true then rng ou 1 8 && (rng mu 0 2147483647 && (rng sh 0 31 && (rng ze (-128) 127 && (decide ((B.length : Int) = ou) && (biasB B && itemsB W))))) else bareB ou mu sh W B && valB kd ze)
theorem spec_l03Plain_l1 (kd ou sz st mu sh ze : Int) (W B : List Int) (hW : (W.length : Int) ≤ 9223372036854775807) : ∀ (d i : Nat), i + d = W.length → Evp fun k => spec_l03Plain.l1 k (i : Int) kd ou sz st mu sh ze W B = some ((W.drop i).all item8)
  | 0, i, hi => evSuc (evAll fun k => by
    simp only [spec_l03Plain.l1]
    rw [if_neg (by omega), List.drop_eq_nil_of_le (by omega)]
    rfl)
  | d + 1, i, hi => by
    have hlt : i < W.length := by omega
    refine evSuc (evMono (spec_l03Plain_l1 kd ou sz st mu sh ze W B hW d (i + 1) (by omega)) fun k ih => ?_)
    simp only [spec_l03Plain.l1]
    rw [if_pos (by omega), if_pos (by omega), rd_eq hlt, all_at hlt]
    refine bind_of (spec_l02Int8_eq _) (and_of (fun _ => ?_) rfl)
    rw [w64' (by omega) (by omega)]
    exact ih
theorem spec_l03Plain_l0 (kd ou sz st mu sh ze : Int) (W B : List Int) (hW : (W.length : Int) ≤ 9223372036854775807) (hB : (B.length : Int) ≤ 9223372036854775807) : ∀ (d i : Nat), i + d = B.length → Evp fun k => spec_l03Plain.l0 k (i : Int) kd ou sz st mu sh ze W B = some ((B.drop i).all (fun x => rng x (-1000000) 1000000) && itemsB W)
  | 0, i, hi => evSuc (evMono (spec_l03Plain_l1 kd ou sz st mu sh ze W B hW W.length 0 (by omega)) fun k e => by
    simp only [spec_l03Plain.l0]
    rw [if_neg (by omega), List.drop_eq_nil_of_le (by omega)]
    simpa [itemsB] using e)
  | d + 1, i, hi => by
    have hlt : i < B.length := by omega
    refine evSuc (evMono (spec_l03Plain_l0 kd ou sz st mu sh ze W B hW hB d (i + 1) (by omega)) fun k ih => ?_)
    simp only [spec_l03Plain.l0]
    rw [if_pos (by omega), if_pos (by omega), rd_eq hlt, all_at hlt, Bool.and_assoc]
    refine bind_of (spec_l01In_eq _ _ _) (and_of (fun _ => ?_) rfl)
    rw [w64' (by omega) (by omega)]
    exact ih
theorem spec_l03Plain_ev (kd ou sz st mu sh ze : Int) (W B : List Int) (win wei : Bool) (hW : (W.length : Int) ≤ 9223372036854775807) (hB : (B.length : Int) ≤ 9223372036854775807) : Evp fun k => spec_l03Plain.f k kd ou sz st mu sh ze W B win wei = some (plainB kd ou sz st mu sh ze W B win wei) := by
  have j1t : Evp fun k => spec_l03Plain.j1 k true kd ou sz st mu sh ze W B = some false := evSuc (evAll fun k => by
    simp only [spec_l03Plain.j1]
    exact ite_yes trivial rfl)
  have j4t : Evp fun k => spec_l03Plain.j4 k true kd ou sz st mu sh ze W B = some false := evSuc (evAll fun k => by
    simp only [spec_l03Plain.j4]
    exact ite_yes trivial rfl)
  have j1f : Evp fun k => spec_l03Plain.j1 k false kd ou sz st mu sh ze W B = some (biasB B && itemsB W) := evSuc (evMono (spec_l03Plain_l0 kd ou sz st mu sh ze W B hW hB B.length 0 (by omega)) fun k e => by
    simp only [spec_l03Plain.j1]
    refine ite_no (by simp) ?_
    rw [List.drop_zero] at e
    exact e)
  have j4f : Evp fun k => spec_l03Plain.j4 k false kd ou sz st mu sh ze W B = some (valB kd ze) := evSuc (evAll fun k => by
    simp only [spec_l03Plain.j4]
    refine ite_no (by simp) ?_
    unfold valB
    by_cases h4 : kd = 4
    · rw [if_pos h4, if_pos h4]
      exact bind_of (spec_l02Int8_eq _) rfl
    · rw [if_neg h4, if_neg h4]
      by_cases hz : ze = 0 <;> simp [hz])
  have j0 : Evp fun k => spec_l03Plain.j0 k wei kd ou sz st mu sh ze W B = some (if wei = true then rng ou 1 8 && (rng mu 0 2147483647 && (rng sh 0 31 && (rng ze (-128) 127 && (decide ((B.length : Int) = ou) && (biasB B && itemsB W))))) else bareB ou mu sh W B && valB kd ze) := evSuc (evMono (evAnd j1t (evAnd j1f (evAnd j4t j4f))) fun k ⟨a1, a2, a3, a4⟩ => by
    simp only [spec_l03Plain.j0]
    cases wei with
    | true =>
      rw [if_pos rfl, if_pos rfl]
      refine bind_of (spec_l01In_eq _ _ _) (and_of (fun _ => bind_of (spec_l01In_eq _ _ _) (and_of (fun _ => bind_of (spec_l01In_eq _ _ _) (and_of (fun _ => bind_of (spec_l02Int8_eq _) (and_of (fun _ => ?_) a1)) a1)) a1)) a1)
      by_cases hb : (B.length : Int) = ou
      · rw [show ((B.length : Int) != ou) = false by simp [hb], a2, decide_eq_true hb]
        rfl
      · rw [show ((B.length : Int) != ou) = true by simp [hb], a1, decide_eq_false hb]
        rfl
    | false =>
      rw [if_neg Bool.false_ne_true, if_neg Bool.false_ne_true]
      unfold bareB
      rw [Bool.and_assoc, Bool.and_assoc, Bool.and_assoc]
      refine and_ofP (fun _ => and_ofP (fun _ => and_ofP (fun _ => ?_) a3) a3) a3
      by_cases hw : (W.length : Int) > 0
      · rw [if_pos hw, a3, decide_eq_false (show ¬ (W.length : Int) = 0 by omega)]
        rfl
      · rw [if_neg hw, decide_eq_true (show (W.length : Int) = 0 by omega)]
        by_cases hb : (B.length : Int) > 0
        · rw [decide_eq_true hb, a3, decide_eq_false (show ¬ (B.length : Int) = 0 by omega)]
          rfl
        · rw [decide_eq_false hb, a4, decide_eq_true (show (B.length : Int) = 0 by omega)]
          rfl)
  refine evMono j0 fun k e => ?_
  unfold plainB spec_l03Plain.f
  cases win with
  | true =>
    rw [if_pos rfl, if_pos rfl, Bool.and_assoc]
    exact bind_of (spec_l01In_eq _ _ _) (and_of (fun _ => bind_of (spec_l01In_eq _ _ _) (and_of (fun _ => e) rfl)) rfl)
  | false =>
    rw [if_neg Bool.false_ne_true, if_neg Bool.false_ne_true]
    unfold noneB
    rw [Bool.and_assoc]
    exact and_ofP (fun _ => and_ofP (fun _ => e) rfl) rfl


theorem spec_OutShape_ev (h w c kd ou sz st mu sh ze : Int) (W B : List Int) (hW : (W.length : Int) ≤ 9223372036854775807) (hB : (B.length : Int) ≤ 9223372036854775807) : Evp fun k => spec_OutShape.f k h w c kd ou sz st mu sh ze W B = some (outShape h w c kd ou sz st mu sh ze W B) := by
  have j0t : Evp fun k => spec_OutShape.j0 k true h w c kd ou sz st mu sh ze W B 0 0 0 = some sh0 := evSuc (evAll fun k => by
    simp only [spec_OutShape.j0]
    exact ite_yes trivial rfl)
  by_cases hs : shapeOk h w c = true
  case neg =>
    refine evMono j0t fun k e => ?_
    unfold outShape
    rw [if_neg hs]
    exact bind_of (spec_ShapeOk_eq h w c) (ite_no hs e)
  by_cases hk : 0 ≤ kd ∧ kd ≤ 5
  case neg =>
    refine evMono j0t fun k e => ?_
    unfold outShape
    rw [if_pos hs, if_neg (by omega), if_neg (by omega), if_neg (by omega), if_neg (by omega), if_neg (by omega)]
    refine bind_of (spec_ShapeOk_eq h w c) (ite_yes hs (bind_of (spec_l01In_eq _ _ _) ?_))
    rw [decide_eq_false hk]
    exact e
  obtain ⟨dh, dw, dc⟩ := shape_dims hs
  have hsz := size_b hs
  have eS : spec_SizeOf.f h w c = some (h * w * c) := by
    rw [spec_SizeOf_eq]
    unfold sizeOf
    rw [if_pos hs]
  have pl := spec_l03Plain_ev kd ou sz st mu sh ze W B (rng kd 1 3) (decide (kd ≤ 1)) hW hB
  refine evMono (evSuc (p := fun k => spec_OutShape.j0 k false h w c kd ou sz st mu sh ze W B 0 0 0 = some (outShape h w c kd ou sz st mu sh ze W B)) (evMono (evAnd pl (evSuc (p := fun k => ∀ x y z, spec_OutShape.j1 k h w c kd ou sz st mu sh ze W B 0 0 0 x y z = (if kd = 0 then (if h * w * c > 64 then some sh0 else if (W.length : Int) = wrap64 (ou * (h * w * c)) then some (1, 1, ou, true) else some sh0) else if kd = 1 then (if (W.length : Int) = wrap64 (wrap64 (wrap64 (ou * sz) * sz) * c) then (if (W.length : Int) > 600 then some sh0 else some (x, y, ou, true)) else some sh0) else if kd = 5 then (if h * w * c > 8 then some sh0 else some (1, 1, h * w * c, true)) else some (x, y, z, true))) (evAll fun k x y z => ?_))) fun k ⟨e, j1⟩ => ?_)) fun k e => ?_
  · simp only [spec_OutShape.j1]
    rw [eS]
    simp only [Option.bind_some]
    rfl
  · simp only [spec_OutShape.j0]
    refine ite_no (by simp) (bind_of (spec_l01In_eq _ _ _) (bind_of e ?_))
    unfold outShape
    rw [if_pos hs]
    show (if plainB kd ou sz st mu sh ze W B (rng kd 1 3) (decide (kd ≤ 1)) = true then (if rng kd 1 3 = true then _ else _) else _) = _
    rcases (by omega : kd = 0 ∨ kd = 1 ∨ (kd = 2 ∨ kd = 3) ∨ kd = 4 ∨ kd = 5) with rfl | rfl | k23 | rfl | rfl
    · rw [show rng 0 1 3 = false from rfl, show decide ((0 : Int) ≤ 1) = true from rfl, if_pos (rfl : (0 : Int) = 0)]
      by_cases hp : plainB 0 ou sz st mu sh ze W B false true = true
      · rw [if_pos hp, if_neg Bool.false_ne_true, j1, if_pos (rfl : (0 : Int) = 0)]
        simp only [plainB, Bool.and_eq_true, rng_iff, decide_eq_true_eq, if_true, Bool.false_eq_true, if_false] at hp
        obtain ⟨p1, p2, p3, p4, p5, p6, p7, p8⟩ := hp
        rw [small_mul (by omega) (by omega) (by omega) (by omega)]
        by_cases c1 : h * w * c > 64
        · rw [if_pos c1, if_neg (fun z => by omega)]
        · rw [if_neg c1]
          by_cases c2 : (W.length : Int) = ou * (h * w * c)
          · rw [if_pos c2, if_pos ⟨by omega, p1, scaledB_iff.2 ⟨p2, p3, p4, p5, c2, p8, p6, p7⟩⟩]
          · rw [if_neg c2, if_neg (fun z => c2 (scaledB_iff.1 z.2.2).2.2.2.2.1)]
      · rw [if_neg hp, if_neg (fun z => hp ?_)]
        · rfl
        · obtain ⟨q1, q2, q3, q4, q5, q6, q7, q8⟩ := scaledB_iff.1 z.2.2
          simp only [plainB, Bool.and_eq_true, rng_iff, decide_eq_true_eq, if_true, Bool.false_eq_true, if_false]
          exact ⟨z.2.1, q1, q2, q3, q4, q7, q8, q6⟩
    · rw [show rng 1 1 3 = true from rfl, show decide ((1 : Int) ≤ 1) = true from rfl, if_neg (show ¬ (1 : Int) = 0 by decide), if_pos (rfl : (1 : Int) = 1)]
      by_cases hp : plainB 1 ou sz st mu sh ze W B true true = true
      · rw [if_pos hp, if_pos rfl]
        simp only [plainB, Bool.and_eq_true, rng_iff, decide_eq_true_eq, if_true] at hp
        obtain ⟨⟨p0, p1⟩, p2, p3, p4, p5, p6, p7, p8⟩ := hp
        have ar := area_b p0.1 p0.2 dc.1 dc.2
        by_cases c1 : sz > h
        · rw [if_pos c1, if_neg (fun z => by have := windB_iff.1 z.1; omega)]
          rfl
        rw [if_neg c1]
        by_cases c2 : sz > w
        · rw [if_pos c2, if_neg (fun z => by have := windB_iff.1 z.1; omega)]
          rfl
        rw [if_neg c2, if_neg (show ¬ st = 0 by omega), j1, if_neg (show ¬ (1 : Int) = 0 by decide), if_pos (rfl : (1 : Int) = 1), win_dims (by omega) (by omega) (by omega) (by omega), win_dims (by omega) (by omega) (by omega) (by omega)]
        have e3 : wrap64 (wrap64 (wrap64 (ou * sz) * sz) * c) = ou * (sz * sz * c) := by
          have b1 := bnd_mul (a := ou) (b := sz) (A := 8) (B := 3) (by omega) (by omega) (by omega) (by omega)
          have b2 := bnd_mul (a := ou * sz) (b := sz) (A := 24) (B := 3) (by omega) (by omega) (by omega) (by omega)
          have b3 := bnd_mul (a := ou * sz * sz) (b := c) (A := 72) (B := 8) (by omega) (by omega) (by omega) (by omega)
          rw [w64' (x := ou * sz) (by omega) (by omega), w64' (x := ou * sz * sz) (by omega) (by omega), w64' (by omega) (by omega)]
          ac_rfl
        rw [e3]
        by_cases c3 : (W.length : Int) = ou * (sz * sz * c)
        · rw [if_pos c3]
          by_cases c4 : (W.length : Int) > 600
          · rw [if_pos c4, if_neg (fun z => by omega)]
          · rw [if_neg c4, if_pos ⟨windB_iff.2 ⟨⟨p0, by omega, by omega⟩, p1⟩, by omega, scaledB_iff.2 ⟨p2, p3, p4, p5, c3, p8, p6, p7⟩⟩]
        · rw [if_neg c3, if_neg (fun z => c3 (scaledB_iff.1 z.2.2).2.2.2.2.1)]
      · rw [if_neg hp, if_neg (fun z => hp ?_)]
        · rfl
        · obtain ⟨q1, q2, q3, q4, q5, q6, q7, q8⟩ := scaledB_iff.1 z.2.2
          obtain ⟨⟨w1, w2, w3⟩, w4⟩ := windB_iff.1 z.1
          simp only [plainB, Bool.and_eq_true, rng_iff, decide_eq_true_eq, if_true]
          exact ⟨⟨w1, w4⟩, q1, q2, q3, q4, q7, q8, q6⟩
    · have hr : rng kd 1 3 = true := rng_iff.2 (by omega)
      have hd : decide (kd ≤ 1) = false := decide_eq_false (by omega)
      have hv : valB kd ze = decide (ze = 0) := by unfold valB; rw [if_neg (by omega)]
      rw [hr, hd, if_neg (show ¬ kd = 0 by omega), if_neg (show ¬ kd = 1 by omega), if_pos k23]
      by_cases hp : plainB kd ou sz st mu sh ze W B true false = true
      · rw [if_pos hp, if_pos rfl]
        simp only [plainB, Bool.and_eq_true, rng_iff, decide_eq_true_eq, if_true, Bool.false_eq_true, if_false, hv] at hp
        obtain ⟨⟨p0, p1⟩, p2, p3⟩ := hp
        by_cases c1 : sz > h
        · rw [if_pos c1, if_neg (fun z => by have := windB_iff.1 z.1; omega)]
          rfl
        rw [if_neg c1]
        by_cases c2 : sz > w
        · rw [if_pos c2, if_neg (fun z => by have := windB_iff.1 z.1; omega)]
          rfl
        rw [if_neg c2, if_neg (show ¬ st = 0 by omega), j1, if_neg (show ¬ kd = 0 by omega), if_neg (show ¬ kd = 1 by omega), if_neg (show ¬ kd = 5 by omega), win_dims (by omega) (by omega) (by omega) (by omega), win_dims (by omega) (by omega) (by omega) (by omega), if_pos ⟨windB_iff.2 ⟨⟨p0, by omega, by omega⟩, p1⟩, p2, p3⟩]
      · rw [if_neg hp, if_neg (fun z => hp ?_)]
        · rfl
        · obtain ⟨⟨w1, w2, w3⟩, w4⟩ := windB_iff.1 z.1
          simp only [plainB, Bool.and_eq_true, rng_iff, decide_eq_true_eq, if_true, Bool.false_eq_true, if_false, hv]
          exact ⟨⟨w1, w4⟩, z.2.1, z.2.2⟩
    · rw [show rng 4 1 3 = false from rfl, show decide ((4 : Int) ≤ 1) = false from rfl, if_neg (show ¬ (4 : Int) = 0 by decide), if_neg (show ¬ (4 : Int) = 1 by decide), if_neg (show ¬ ((4 : Int) = 2 ∨ (4 : Int) = 3) by decide), if_pos (rfl : (4 : Int) = 4)]
      by_cases hp : plainB 4 ou sz st mu sh ze W B false false = true
      · rw [if_pos hp, if_neg Bool.false_ne_true, j1, if_neg (show ¬ (4 : Int) = 0 by decide), if_neg (show ¬ (4 : Int) = 1 by decide), if_neg (show ¬ (4 : Int) = 5 by decide)]
        simp only [plainB, Bool.and_eq_true, Bool.false_eq_true, if_false] at hp
        rw [if_pos ⟨hp.1, hp.2.1, hp.2.2⟩]
      · rw [if_neg hp, if_neg (fun z => hp ?_)]
        · rfl
        · simp only [plainB, Bool.and_eq_true, Bool.false_eq_true, if_false]
          exact ⟨z.1, z.2.1, z.2.2⟩
    · rw [show rng 5 1 3 = false from rfl, show decide ((5 : Int) ≤ 1) = false from rfl, if_neg (show ¬ (5 : Int) = 0 by decide), if_neg (show ¬ (5 : Int) = 1 by decide), if_neg (show ¬ ((5 : Int) = 2 ∨ (5 : Int) = 3) by decide), if_neg (show ¬ (5 : Int) = 4 by decide), if_pos (rfl : (5 : Int) = 5)]
      have hv : valB 5 ze = decide (ze = 0) := rfl
      by_cases hp : plainB 5 ou sz st mu sh ze W B false false = true
      · rw [if_pos hp, if_neg Bool.false_ne_true, j1, if_neg (show ¬ (5 : Int) = 0 by decide), if_neg (show ¬ (5 : Int) = 1 by decide), if_pos (rfl : (5 : Int) = 5)]
        simp only [plainB, Bool.and_eq_true, Bool.false_eq_true, if_false, hv, decide_eq_true_eq] at hp
        by_cases c1 : h * w * c > 8
        · rw [if_pos c1, if_neg (fun z => by omega)]
        · rw [if_neg c1, if_pos ⟨hp.1, hp.2.1, hp.2.2, by omega⟩]
      · rw [if_neg hp, if_neg (fun z => hp ?_)]
        · rfl
        · simp only [plainB, Bool.and_eq_true, Bool.false_eq_true, if_false, hv, decide_eq_true_eq]
          exact ⟨z.1, z.2.1, z.2.2.1⟩
  · refine bind_of (spec_ShapeOk_eq h w c) (ite_yes hs (bind_of (spec_l01In_eq _ _ _) ?_))
    rw [decide_eq_true hk]
    exact e


theorem impl_Layer_isScaled_1_eq (x : Int) : impl_Layer_isScaled_1.f x = some (!rng x (-1000000) 1000000) := by
  unfold impl_Layer_isScaled_1.f
  rw [impl_in_eq]
  rfl


theorem indexBias_l0 (l : List Int) (hl : l.length ≤ 9223372036854775807) : ∀ (d i : Nat), i + d = l.length → ∃ r, (Evp fun k => slices_IndexFunc_int_int_impl_Layer_isScaled_1.l0 k l (l.length : Int) (i : Int) = some r) ∧ (decide (r ≥ 0) = !(l.drop i).all fun x => rng x (-1000000) 1000000)
  | 0, i, hi => ⟨-1, evSuc (evAll fun k => by
    simp only [slices_IndexFunc_int_int_impl_Layer_isScaled_1.l0]
    rw [if_neg (by omega)]), by rw [List.drop_eq_nil_of_le (by omega)]; rfl⟩
  | d + 1, i, hi => by
    have hlt : i < l.length := by omega
    rw [all_at hlt]
    cases hx : rng l[i] (-1000000) 1000000 with
    | true =>
      obtain ⟨r, h1, h2⟩ := indexBias_l0 l hl d (i + 1) (by omega)
      refine ⟨r, evSuc (evMono h1 fun k ih => ?_), by simpa using h2⟩
      simp only [slices_IndexFunc_int_int_impl_Layer_isScaled_1.l0]
      rw [if_pos (by omega), if_pos (by omega), if_pos (by omega), rd_eq hlt, impl_Layer_isScaled_1_eq, hx]
      simp only [Option.bind_some]
      rw [if_neg (by simp), w64' (by omega) (by omega)]
      exact ih
    | false =>
      refine ⟨(i : Int), evSuc (evAll fun k => ?_), by simp⟩
      simp only [slices_IndexFunc_int_int_impl_Layer_isScaled_1.l0]
      rw [if_pos (by omega), if_pos (by omega), if_pos (by omega), rd_eq hlt, impl_Layer_isScaled_1_eq, hx]
      simp


theorem impl_Layer_isScaled_ev (kd ou sz st mu sh ze : Int) (W B : List Int) (n : Int) (hW : (W.length : Int) ≤ 9223372036854775807) (hB : (B.length : Int) ≤ 9223372036854775807) (hn : 0 ≤ n ∧ n ≤ 4096) : Evp fun k => impl_Layer_isScaled.f k kd ou sz st mu sh ze W B n = some (scaledB ou mu sh ze W B n) := by
  obtain ⟨r, h1, h2⟩ := indexBias_l0 B (by omega) B.length 0 (by omega)
  refine evMono (evAnd (impl_areItems_ev W (by omega)) h1) fun k ⟨e1, e2⟩ => ?_
  have e3 : slices_ContainsFunc_int_int_impl_Layer_isScaled_1.f k B = some (!biasB B) := bind_of (f := fun t => some (decide (t ≥ 0))) e2 (by rw [h2]; rfl)
  unfold scaledB
  refine bind_of (impl_in_eq _ _ _) (and_of (fun z => bind_of (impl_in_eq _ _ _) (and_of (fun _ => bind_of (impl_in_eq _ _ _) (and_of (fun _ => bind_of (impl_in_eq _ _ _) (and_of (fun _ => ?_) rfl)) rfl)) rfl)) rfl)
  have z' : 1 ≤ ou ∧ ou ≤ 8 := of_decide_eq_true z
  rw [small_mul z'.1 z'.2 hn.1 hn.2]
  exact and_ofP (fun _ => bind_of e1 (and_of (fun _ => and_ofP (fun _ => bind_of e3 (by simp)) rfl) rfl)) rfl


theorem impl_Layer_isWindow_eq (kd ou sz st mu sh ze : Int) (W B : List Int) (h w c : Int) : impl_Layer_isWindow.f kd ou sz st mu sh ze W B h w c = some (windB sz st h w) := by
  refine bind_of (impl_in_eq _ _ _) ?_
  have e : decide (1 ≤ sz ∧ sz ≤ mn (mn 3 h) w) = (rng sz 1 3 && (decide (sz ≤ h) && decide (sz ≤ w))) := by
    rw [Bool.eq_iff_iff]
    simp only [rng, Bool.and_eq_true, decide_eq_true_eq]
    unfold mn
    repeat' split
    all_goals omega
  rw [e]
  exact and_of (fun _ => bind_of (impl_in_eq _ _ _) rfl) rfl
theorem impl_Layer_isBare_eq (kd ou sz st mu sh ze : Int) (W B : List Int) : impl_Layer_isBare.f kd ou sz st mu sh ze W B = some (bareB ou mu sh W B) :=
  and_ofP (fun _ => and_ofP (fun _ => and_ofP (fun _ => and_ofP (fun _ => rfl) rfl) rfl) rfl) rfl
theorem impl_Layer_hasNone_eq (kd ou sz st mu sh ze : Int) (W B : List Int) : impl_Layer_hasNone.f kd ou sz st mu sh ze W B = some (noneB sz st) :=
  and_ofP (fun _ => rfl) rfl
theorem impl_Layer_windows_eq (kd ou sz st mu sh ze : Int) (W B : List Int) (h w c x : Int) (h1 : h ≤ 8) (w1 : w ≤ 8) (hw : windB sz st h w = true) : impl_Layer_windows.f kd ou sz st mu sh ze W B h w c x = some ((h - sz) / st + 1, (w - sz) / st + 1, x) := by
  obtain ⟨⟨z1, z2, z3⟩, z4⟩ := windB_iff.1 hw
  refine ite_no (by omega) ?_
  rw [win_dims (by omega) (by omega) (by omega) (by omega), win_dims (by omega) (by omega) (by omega) (by omega)]
theorem ite3 {α : Type} {A B C : Prop} [Decidable A] [Decidable B] [Decidable C] {x y : α} : (if A ∧ B ∧ C then x else y) = (if A then (if B then (if C then x else y) else y) else y) := by
  by_cases a : A <;> by_cases b : B <;> by_cases c : C <;> simp [a, b, c]
theorem ite2 {α : Type} {A B : Prop} [Decidable A] [Decidable B] {x y : α} : (if A ∧ B then x else y) = (if A then (if B then x else y) else y) := by
  by_cases a : A <;> by_cases b : B <;> simp [a, b]
theorem ite_some {β : Type} {P : Prop} [Decidable P] {x y : Option β} {a b : β} (hx : P → x = some a) (hy : ¬ P → y = some b) : (if P then x else y) = some (if P then a else b) := by
  by_cases h : P
  · rw [if_pos h, if_pos h, hx h]
  · rw [if_neg h, if_neg h, hy h]
theorem impl_OutShape_ev (h w c kd ou sz st mu sh ze : Int) (W B : List Int) (hW : (W.length : Int) ≤ 9223372036854775807) (hB : (B.length : Int) ≤ 9223372036854775807) : Evp fun k => impl_OutShape.f k h w c kd ou sz st mu sh ze W B = some (outShape h w c kd ou sz st mu sh ze W B) := by
  by_cases hs : shapeOk h w c = true
  case neg =>
    refine evAll fun k => ?_
    unfold outShape
    rw [if_neg hs]
    exact bind_of (impl_ShapeOk_eq h w c) (ite_no hs rfl)
  obtain ⟨dh, dw, dc⟩ := shape_dims hs
  have hsz := size_b hs
  have eS : impl_SizeOf.f h w c = some (h * w * c) := by
    rw [impl_SizeOf_eq]
    unfold sizeOf
    rw [if_pos hs]
  unfold outShape
  rw [if_pos hs]
  by_cases k0 : kd = 0
  · rw [if_pos k0, ite3]
    exact evMono (impl_Layer_isScaled_ev kd ou sz st mu sh ze W B (h * w * c) hW hB (by omega)) fun k e => bind_of (impl_ShapeOk_eq h w c) (ite_yes hs (bind_of eS (ite_yes k0 (ite_some (fun _ => bind_of (impl_Layer_hasNone_eq _ _ _ _ _ _ _ _ _) (ite_some (fun _ => bind_of e (ite_some (fun _ => rfl) fun _ => rfl)) fun _ => rfl)) fun _ => rfl))))
  rw [if_neg k0]
  by_cases k1 : kd = 1
  · rw [if_pos k1]
    by_cases c1 : windB sz st h w = true
    · obtain ⟨⟨z1, z2, z3⟩, z4⟩ := windB_iff.1 c1
      have ar := area_b z1.1 z1.2 dc.1 dc.2
      rw [ite3, if_pos c1]
      refine evMono (impl_Layer_isScaled_ev kd ou sz st mu sh ze W B (sz * sz * c) hW hB (by omega)) fun k e => bind_of (impl_ShapeOk_eq h w c) (ite_yes hs (bind_of eS (ite_no k0 (ite_yes k1 (bind_of (impl_Layer_isWindow_eq _ _ _ _ _ _ _ _ _ _ _ _) (ite_yes c1 (ite_some (fun c2 => ?_) fun _ => rfl)))))))
      rw [show wrap64 ((wrap64 (sz * sz)) * c) = sz * sz * c by rw [w64' (x := sz * sz) (by omega) (by omega), w64' (by omega) (by omega)]]
      exact bind_of e (ite_some (fun c3 => bind_of (impl_Layer_windows_eq kd ou sz st mu sh ze W B h w c ou (by omega) (by omega) c1) rfl) fun _ => rfl)
    · refine evAll fun k => bind_of (impl_ShapeOk_eq h w c) (ite_yes hs (bind_of eS (ite_no k0 (ite_yes k1 (bind_of (impl_Layer_isWindow_eq _ _ _ _ _ _ _ _ _ _ _ _) (ite_no c1 ?_))))))
      rw [if_neg (fun z => c1 z.1)]
      rfl
  rw [if_neg k1]
  have jt : Evp fun k => impl_OutShape.j0 k (h * w * c) kd true h w c kd ou sz st mu sh ze W B = some (if windB sz st h w = true ∧ bareB ou mu sh W B = true ∧ ze = 0 then ((h - sz) / st + 1, (w - sz) / st + 1, c, true) else sh0) := evSuc (evAll fun k => by
    rw [ite3]
    simp only [impl_OutShape.j0]
    exact ite_yes trivial (bind_of (impl_Layer_isWindow_eq _ _ _ _ _ _ _ _ _ _ _ _) (ite_some (fun c1 => bind_of (impl_Layer_isBare_eq _ _ _ _ _ _ _ _ _) (ite_some (fun c2 => ite_some (fun c3 => bind_of (impl_Layer_windows_eq kd ou sz st mu sh ze W B h w c c (by omega) (by omega) c1) rfl) fun _ => rfl) fun _ => rfl)) fun _ => rfl)))
  by_cases k2 : kd = 2
  · rw [if_pos (Or.inl k2)]
    refine evMono jt fun k e => bind_of (impl_ShapeOk_eq h w c) (ite_yes hs (bind_of eS (ite_no k0 (ite_no k1 (ite_yes k2 ?_)))))
    rw [show (kd == 2) = true by simp [k2]]
    exact e
  by_cases k3 : kd = 3
  · rw [if_pos (Or.inr k3)]
    refine evMono jt fun k e => bind_of (impl_ShapeOk_eq h w c) (ite_yes hs (bind_of eS (ite_no k0 (ite_no k1 (ite_no k2 ?_)))))
    rw [show (kd == 3) = true by simp [k3]]
    exact e
  rw [if_neg (show ¬ (kd = 2 ∨ kd = 3) by omega)]
  refine evMono (evSuc (p := fun k => impl_OutShape.j0 k (h * w * c) kd false h w c kd ou sz st mu sh ze W B = some (if kd = 4 then if noneB sz st = true ∧ bareB ou mu sh W B = true ∧ rng ze (-128) 127 = true then (h, w, c, true) else sh0
    else if kd = 5 then if noneB sz st = true ∧ bareB ou mu sh W B = true ∧ ze = 0 ∧ h * w * c ≤ 8 then (1, 1, h * w * c, true) else sh0
    else sh0)) (evAll fun k => ?_)) fun k e => bind_of (impl_ShapeOk_eq h w c) (ite_yes hs (bind_of eS (ite_no k0 (ite_no k1 (ite_no k2 ?_)))))
  · rw [ite3, ite3, ite2]
    simp only [impl_OutShape.j0]
    exact ite_no Bool.false_ne_true (ite_some (fun _ => bind_of (impl_Layer_hasNone_eq _ _ _ _ _ _ _ _ _) (ite_some (fun _ => bind_of (impl_Layer_isBare_eq _ _ _ _ _ _ _ _ _) (ite_some (fun _ => bind_of (impl_in_eq _ _ _) (ite_some (fun _ => rfl) fun _ => rfl)) fun _ => rfl)) fun _ => rfl)) fun _ =>
      ite_some (fun _ => bind_of (impl_Layer_hasNone_eq _ _ _ _ _ _ _ _ _) (ite_some (fun _ => bind_of (impl_Layer_isBare_eq _ _ _ _ _ _ _ _ _) (ite_some (fun _ => ite_some (fun _ => ite_some (fun _ => rfl) fun _ => rfl) fun _ => rfl) fun _ => rfl)) fun _ => rfl)) fun _ => rfl)
  · rw [show (kd == 3) = false by simp [k3]]
    exact e


theorem rdShape_eq {l : List S31} {i : Nat} (h : i < l.length) : rd_T31 l (i : Int) = l[i] := by
  unfold rd_T31
  simp [List.getD, h]
def outOf (s : S31) (x : S37) : Int × Int × Int × Bool := outShape s.f0 s.f1 s.f2 x.f0 x.f1 x.f2 x.f3 x.f4 x.f5 x.f6 x.f7 x.f8
def shapeOf (X : Int × Int × Int × Bool) : S31 := ⟨X.1, X.2.1, X.2.2.1⟩
def shapesOf (s : S31) : List S37 → Option (List S31)
  | [] => some []
  | x :: l => if (outOf s x).2.2.2 = true then (shapesOf (shapeOf (outOf s x)) l).map (shapeOf (outOf s x) :: ·) else none
def withAcc (acc : List S31) : Option (List S31) → List S31 × Bool
  | some o => (acc ++ o, true)
  | none => ([], false)
def modelShapes (s : S31) (l : List S37) : List S31 × Bool := if 1 ≤ (l.length : Int) ∧ (l.length : Int) ≤ 6 then withAcc [s] (shapesOf s l) else ([], false)
theorem withAcc_cons {acc : List S31} {t : S31} (o : Option (List S31)) : withAcc acc (o.map (t :: ·)) = withAcc (acc ++ [t]) o := by
  cases o <;> simp [withAcc]
theorem outOf_bad {s : S31} (x : S37) (h : ¬ shapeOk s.f0 s.f1 s.f2 = true) : (outOf s x).2.2.2 = false := by
  unfold outOf outShape
  rw [if_neg h]
  rfl
theorem spec_l04Shapes_l0 (h w c : Int) (l : List S37) (hl : smallI l) : ∀ (d i : Nat) (acc : List S31) (s : S31), i + d = l.length → acc.length = i → Evp fun k => spec_l04Shapes.l0 k (acc ++ [s]) (i : Int) h w c l = some (withAcc (acc ++ [s]) (shapesOf s (l.drop i)))
  | 0, i, acc, s, hi, ha => evSuc (evAll fun k => by
    simp only [spec_l04Shapes.l0]
    rw [if_neg (by omega), List.drop_eq_nil_of_le (by omega)]
    simp [shapesOf, withAcc])
  | d + 1, i, acc, s, hi, ha => by
    have hlt : i < l.length := by omega
    have hb := hl.1
    have hx := hl.2 l[i] (List.getElem_mem hlt)
    have hr : rd_T31 (acc ++ [s]) (i : Int) = s := by
      rw [rdShape_eq (by simp; omega)]
      subst ha
      simp
    rw [List.drop_eq_getElem_cons hlt]
    simp only [shapesOf]
    have e0 := spec_OutShape_ev s.f0 s.f1 s.f2 l[i].f0 l[i].f1 l[i].f2 l[i].f3 l[i].f4 l[i].f5 l[i].f6 l[i].f7 l[i].f8 (by have := hx.1; omega) (by have := hx.2; omega)
    by_cases hok : (outOf s l[i]).2.2.2 = true
    · rw [if_pos hok, withAcc_cons]
      refine evSuc (evMono (evAnd e0 (spec_l04Shapes_l0 h w c l hl d (i + 1) (acc ++ [s]) (shapeOf (outOf s l[i])) (by omega) (by simp; omega))) fun k ⟨e, ih⟩ => ?_)
      simp only [spec_l04Shapes.l0]
      rw [if_pos (by omega), if_pos (by omega), if_pos (by simp; omega), hr, rdImp_eq hlt]
      refine bind_of e (ite_yes hok (ite_yes (by simp; omega) ?_))
      rw [w64' (by omega) (by omega)]
      exact ih
    · rw [if_neg hok]
      refine evSuc (evMono e0 fun k e => ?_)
      simp only [spec_l04Shapes.l0]
      rw [if_pos (by omega), if_pos (by omega), if_pos (by simp; omega), hr, rdImp_eq hlt]
      exact bind_of e (ite_no hok rfl)
theorem spec_l04Shapes_ev (s : S31) (l : List S37) (hl : smallI l) : Evp fun k => spec_l04Shapes.f k s.f0 s.f1 s.f2 l = some (modelShapes s l) := by
  have jt : Evp fun k => spec_l04Shapes.j0 k [s] true s.f0 s.f1 s.f2 l = some ([], false) := evSuc (evAll fun k => by
    simp only [spec_l04Shapes.j0]
    exact ite_yes trivial rfl)
  have jf : Evp fun k => spec_l04Shapes.j0 k [s] false s.f0 s.f1 s.f2 l = some (withAcc [s] (shapesOf s l)) := evSuc (evMono (spec_l04Shapes_l0 s.f0 s.f1 s.f2 l hl l.length 0 [] s (by omega) rfl) fun k e => by
    simp only [spec_l04Shapes.j0]
    exact ite_no Bool.false_ne_true e)
  unfold modelShapes
  by_cases hn : 1 ≤ (l.length : Int) ∧ (l.length : Int) ≤ 6
  · rw [if_pos hn]
    by_cases hs : shapeOk s.f0 s.f1 s.f2 = true
    · refine evMono jf fun k e => bind_of (a := [s]) rfl (bind_of (spec_ShapeOk_eq _ _ _) (ite_yes hs (bind_of (spec_l01In_eq _ _ _) ?_)))
      rw [decide_eq_true hn]
      exact e
    · have e0 : shapesOf s l = none := by
        cases l with
        | nil => simp at hn
        | cons x l =>
          simp only [shapesOf]
          rw [if_neg (by rw [outOf_bad x hs]; exact Bool.false_ne_true)]
      rw [e0]
      exact evMono jt fun k e => bind_of (a := [s]) rfl (bind_of (spec_ShapeOk_eq _ _ _) (ite_no hs e))
  · rw [if_neg hn]
    by_cases hs : shapeOk s.f0 s.f1 s.f2 = true
    · refine evMono jt fun k e => bind_of (a := [s]) rfl (bind_of (spec_ShapeOk_eq _ _ _) (ite_yes hs (bind_of (spec_l01In_eq _ _ _) ?_)))
      rw [decide_eq_false hn]
      exact e
    · exact evMono jt fun k e => bind_of (a := [s]) rfl (bind_of (spec_ShapeOk_eq _ _ _) (ite_no hs e))


theorem impl_Model_shapes_l0 (l : List S37) (hl : smallI l) : ∀ (d i : Nat) (acc : List S31) (s : S31), i + d = l.length → acc.length = i + 1 → Evp fun k => impl_Model_shapes.l0 k acc l (l.length : Int) (i : Int) s.f0 s.f1 s.f2 = some (withAcc acc (shapesOf s (l.drop i)))
  | 0, i, acc, s, hi, ha => evSuc (evAll fun k => by
    simp only [impl_Model_shapes.l0]
    rw [if_neg (by omega), List.drop_eq_nil_of_le (by omega)]
    simp [shapesOf, withAcc])
  | d + 1, i, acc, s, hi, ha => by
    have hlt : i < l.length := by omega
    have hb := hl.1
    have hx := hl.2 l[i] (List.getElem_mem hlt)
    rw [List.drop_eq_getElem_cons hlt]
    simp only [shapesOf]
    have e0 := impl_OutShape_ev s.f0 s.f1 s.f2 l[i].f0 l[i].f1 l[i].f2 l[i].f3 l[i].f4 l[i].f5 l[i].f6 l[i].f7 l[i].f8 (by have := hx.1; omega) (by have := hx.2; omega)
    by_cases hok : (outOf s l[i]).2.2.2 = true
    · rw [if_pos hok, withAcc_cons]
      refine evSuc (evMono (evAnd e0 (impl_Model_shapes_l0 l hl d (i + 1) (acc ++ [shapeOf (outOf s l[i])]) (shapeOf (outOf s l[i])) (by omega) (by simp; omega))) fun k ⟨e, ih⟩ => ?_)
      simp only [impl_Model_shapes.l0]
      rw [if_pos (by omega), if_pos (by omega), if_pos (by omega), rdImp_eq hlt]
      refine bind_of e (ite_yes hok (ite_yes (by omega) ?_))
      rw [w64' (by omega) (by omega)]
      exact ih
    · rw [if_neg hok]
      refine evSuc (evMono e0 fun k e => ?_)
      simp only [impl_Model_shapes.l0]
      rw [if_pos (by omega), if_pos (by omega), if_pos (by omega), rdImp_eq hlt]
      exact bind_of e (ite_no hok rfl)
theorem impl_Model_shapes_ev (s : S31) (l : List S37) (hl : smallI l) : Evp fun k => impl_Model_shapes.f k s.f0 s.f1 s.f2 l = some (withAcc [s] (shapesOf s l)) :=
  evMono (impl_Model_shapes_l0 l hl l.length 0 [s] s (by omega) rfl) fun k e => e


theorem impl_ModelOk_ev (s : S31) (l : List S37) (hl : smallI l) : Evp fun k => impl_ModelOk.f k s.f0 s.f1 s.f2 l = some (modelShapes s l).2 := by
  unfold modelShapes
  by_cases hn : 1 ≤ (l.length : Int) ∧ (l.length : Int) ≤ 6
  · rw [if_pos hn]
    exact evMono (impl_Model_shapes_ev s l hl) fun k e => bind_of (impl_in_eq _ _ _) (ite_yes (decide_eq_true hn) (bind_of e rfl))
  · rw [if_neg hn]
    exact evAll fun k => bind_of (impl_in_eq _ _ _) (ite_no (fun z => hn (of_decide_eq_true z)) rfl)


theorem spec_ModelOk_ev (s : S31) (l : List S37) (hl : smallI l) : Evp fun k => spec_ModelOk.f k s.f0 s.f1 s.f2 l = some (modelShapes s l).2 :=
  evMono (spec_l04Shapes_ev s l hl) fun k e => bind_of e rfl


theorem laws_markTensor_ev (h w c : Int) (l : List Int) (x : Int) (h0 : 0 ≤ x) (h1 : x + l.length ≤ 4000000000000) : Evp fun k => laws_markTensor.f k h w c l x = some (x + l.length, marksInt x l.length) :=
  evMono (laws_markIntS_ev l x h0 h1) fun k e => bind_of e rfl


theorem laws_heldTensor_ev (h w c : Int) (n : Nat) (x : Int) (h0 : 0 ≤ x) (h1 : x + n ≤ 4000000000000) : Evp fun k => laws_heldTensor.f k h w c (marksInt x n) x = some (x + n) :=
  evMono (laws_heldIntS_ev n x h0 h1) fun k e => bind_of e (ite_no (by omega) rfl)


theorem dotGo_app : ∀ (a a' b b' : List Int) (s : Int), a.length = a'.length → dotGo (a ++ b) (a' ++ b') s = dotGo b b' (dotGo a a' s)
  | [], [], b, b', s, _ => rfl
  | x :: a, y :: a', b, b', s, h => by
    simp only [List.cons_append, dotGo]
    exact dotGo_app a a' b b' _ (by simpa using h)
  | [], _ :: _, _, _, _, h => by simp at h
  | _ :: _, [], _, _, _, h => by simp at h
/-- A part of a list: n from place i on. -/
def part (l : List Int) (i n : Nat) : List Int := (l.drop i).take n
theorem part_len {l : List Int} {i n : Nat} (h : i + n ≤ l.length) : (part l i n).length = n := by
  unfold part
  rw [List.length_take, List.length_drop]
  omega
theorem part_app (l : List Int) (i n m : Nat) : part l i n ++ part l (i + n) m = part l i (n + m) := by
  unfold part
  rw [List.take_add, List.drop_drop]
theorem part_zero (l : List Int) (i : Nat) : part l i 0 = [] := by simp [part]
theorem part_cons {l : List Int} {i n : Nat} (h : i < l.length) : part l i (n + 1) = l[i] :: part l (i + 1) n := by
  unfold part
  rw [List.drop_eq_getElem_cons h, List.take_succ_cons]
/-- The windows' numbers, all channels: m rows from j on. -/
def rowW (d : List Int) (w c : Nat) (x y : Nat) : Nat → Nat → List Int
  | 0, _ => []
  | n + 1, j => part d ((x * w + (y + j)) * c) c ++ rowW d w c x y n (j + 1)
def winW (d : List Int) (w c sz : Nat) (x y : Nat) : Nat → Nat → List Int
  | 0, _ => []
  | n + 1, i => rowW d w c (x + i) y sz 0 ++ winW d w c sz x y n (i + 1)
theorem widx (o sz i j c ch : Nat) (ho : o ≤ 8) (hs : sz ≤ 3) (hi : i ≤ 3) (hj : j ≤ 3) (hc : c ≤ 8) (hh : ch ≤ 8) : wrap64 ((wrap64 ((wrap64 ((wrap64 ((wrap64 ((wrap64 ((o : Int) * (sz : Int))) + (i : Int))) * (sz : Int))) + (j : Int))) * (c : Int))) + (ch : Int)) = ((((o * sz + i) * sz + j) * c + ch : Nat) : Int) := by
  have b1 : o * sz ≤ 8 * 3 := Nat.mul_le_mul ho hs
  have b2 : (o * sz + i) * sz ≤ 27 * 3 := Nat.mul_le_mul (by omega) hs
  have b3 : ((o * sz + i) * sz + j) * c ≤ 84 * 8 := Nat.mul_le_mul (by omega) hc
  rw [show (o : Int) * (sz : Int) = ((o * sz : Nat) : Int) by simp, w64' (x := ((o * sz : Nat) : Int)) (by omega) (by omega), show ((o * sz : Nat) : Int) + (i : Int) = ((o * sz + i : Nat) : Int) by simp, w64' (x := ((o * sz + i : Nat) : Int)) (by omega) (by omega)]
  rw [show ((o * sz + i : Nat) : Int) * (sz : Int) = (((o * sz + i) * sz : Nat) : Int) by simp, w64' (x := (((o * sz + i) * sz : Nat) : Int)) (by omega) (by omega), show (((o * sz + i) * sz : Nat) : Int) + (j : Int) = (((o * sz + i) * sz + j : Nat) : Int) by simp, w64' (x := (((o * sz + i) * sz + j : Nat) : Int)) (by omega) (by omega)]
  rw [show (((o * sz + i) * sz + j : Nat) : Int) * (c : Int) = ((((o * sz + i) * sz + j) * c : Nat) : Int) by simp, w64' (x := ((((o * sz + i) * sz + j) * c : Nat) : Int)) (by omega) (by omega), show ((((o * sz + i) * sz + j) * c : Nat) : Int) + (ch : Int) = ((((o * sz + i) * sz + j) * c + ch : Nat) : Int) by simp]
  exact w64' (by omega) (by omega)
theorem pidx (p st i : Nat) (hp : p ≤ 8) (hs : st ≤ 2) (hi : i ≤ 3) : wrap64 ((wrap64 ((p : Int) * (st : Int))) + (i : Int)) = ((p * st + i : Nat) : Int) := by
  have b1 : p * st ≤ 8 * 2 := Nat.mul_le_mul hp hs
  rw [show (p : Int) * (st : Int) = ((p * st : Nat) : Int) by simp, w64' (x := ((p * st : Nat) : Int)) (by omega) (by omega), show ((p * st : Nat) : Int) + (i : Int) = ((p * st + i : Nat) : Int) by simp]
  exact w64' (by omega) (by omega)
/-- An item at its place. -/
theorem itemAt_at {h w c : Nat} {d : List Int} (ht : tensorOk (h : Int) (w : Int) (c : Int) d = true) {x y z : Nat} (hx : x < h) (hy : y < w) (hz : z < c) : (x * w + y) * c + z < d.length ∧ itemAt (h : Int) (w : Int) (c : Int) d (x : Int) (y : Int) (z : Int) = (d.getD ((x * w + y) * c + z) 0, true) := by
  obtain ⟨hs, hl, _⟩ := tensorOk_iff.1 ht
  have hb := place_b (i := (x : Int)) (j := (y : Int)) (l := (z : Int)) hs ⟨by omega, by omega⟩ ⟨by omega, by omega⟩ ⟨by omega, by omega⟩
  have hp : placeOf (h : Int) (w : Int) (c : Int) (x : Int) (y : Int) (z : Int) = (((x * w + y) * c + z : Nat) : Int) := by
    unfold placeOf placeIn
    rw [if_pos ⟨hs, ⟨by omega, by omega⟩, ⟨by omega, by omega⟩, ⟨by omega, by omega⟩⟩]
    simp
  have hq : placeIn (w : Int) (c : Int) (x : Int) (y : Int) (z : Int) = (((x * w + y) * c + z : Nat) : Int) := by
    unfold placeIn
    simp
  refine ⟨by have := hb.2.2.2.2.2.2.1; omega, ?_⟩
  unfold itemAt
  rw [if_pos ⟨ht, by rw [hp]; omega⟩, hp, rd_nat]
theorem rowW_len {h w c : Nat} {d : List Int} (ht : tensorOk (h : Int) (w : Int) (c : Int) d = true) {x y : Nat} (hx : x < h) (hc1 : 1 ≤ c) : ∀ (n j : Nat), y + j + n ≤ w → (rowW d w c x y n j).length = n * c
  | 0, j, hj => by simp [rowW]
  | n + 1, j, hj => by
    obtain ⟨hd, -⟩ := itemAt_at ht hx (show y + j < w by omega) (show c - 1 < c by omega)
    rw [rowW, List.length_append, part_len (by omega), rowW_len ht hx hc1 n (j + 1) (by omega), Nat.add_mul]
    omega
theorem getD_in {l : List Int} {i : Nat} (h : i < l.length) : l.getD i 0 = l[i] := by simp [List.getD, h]
theorem spec_conv_l2 {h w c sz st p q o : Nat} {d W B : List Int} {kd ou mu sh ze : Int} (ht : tensorOk (h : Int) (w : Int) (c : Int) d = true) (hc8 : c ≤ 8) (hsz : sz ≤ 3) (hst : st ≤ 2) (hp : p ≤ 8) (hq : q ≤ 8) (ho : o ≤ 8) (hW : ∀ x ∈ W, -128 ≤ x ∧ x ≤ 127) {i j : Nat} (hi : i < sz) (hj : j < sz) (hx : p * st + i < h) (hy : q * st + j < w) (hWl : ((o * sz + i) * sz + j) * c + c ≤ W.length) (r : Int) : ∀ (m ch : Nat) (s : Int), ch + m = c → (Evp fun k => spec_l03Item.l1 k (p : Int) (q : Int) (o : Int) (dotGo (part d (((p * st + i) * w + (q * st + j)) * c + ch) m) (part W (((o * sz + i) * sz + j) * c + ch) m) s) (i : Int) ((j + 1 : Nat) : Int) (h : Int) (w : Int) (c : Int) d kd ou (sz : Int) (st : Int) mu sh ze W B (h : Int) (w : Int) (c : Int) = some r) → Evp fun k => spec_l03Item.l2 k (p : Int) (q : Int) (o : Int) s (i : Int) (j : Int) (ch : Int) (h : Int) (w : Int) (c : Int) d kd ou (sz : Int) (st : Int) mu sh ze W B (h : Int) (w : Int) (c : Int) = some r
  | 0, ch, s, hm, hk => evSuc (evMono hk fun k e => by
    simp only [spec_l03Item.l2]
    rw [if_neg (by omega), w64' (x := (j : Int) + 1) (by omega) (by omega), show (j : Int) + 1 = ((j + 1 : Nat) : Int) by omega]
    rw [part_zero, part_zero] at e
    exact e)
  | m + 1, ch, s, hm, hk => by
    obtain ⟨hd, hit⟩ := itemAt_at ht hx hy (show ch < c by omega)
    have hwi : ((o * sz + i) * sz + j) * c + ch < W.length := by omega
    have hxr := (tensorOk_iff.1 ht).2.2 _ (List.getElem_mem hd)
    have hwr := hW _ (List.getElem_mem hwi)
    rw [part_cons hd, part_cons hwi] at hk
    simp only [dotGo] at hk
    rw [sat8_id hxr.1 hxr.2, sat8_id hwr.1 hwr.2] at hk
    have hpr := bnd_mul (a := d[((p * st + i) * w + (q * st + j)) * c + ch]) (b := W[((o * sz + i) * sz + j) * c + ch]) (A := 128) (B := 128) (by omega) (by omega) (by omega) (by omega)
    have ih := spec_conv_l2 ht hc8 hsz hst hp hq ho hW hi hj hx hy hWl r m (ch + 1) (addSat s (d[((p * st + i) * w + (q * st + j)) * c + ch] * W[((o * sz + i) * sz + j) * c + ch])) (by omega) hk
    refine evSuc (evMono (evAnd (spec_ItemAt_ev (h : Int) (w : Int) (c : Int) d ((p * st + i : Nat) : Int) ((q * st + j : Nat) : Int) (ch : Int) (by have := tensorOk_len ht; omega)) (evAnd (spec_AddSat_ev s (d[((p * st + i) * w + (q * st + j)) * c + ch] * W[((o * sz + i) * sz + j) * c + ch])) ih)) fun k ⟨e1, e2, e3⟩ => ?_)
    simp only [spec_l03Item.l2]
    rw [if_pos (by omega), pidx p st i hp hst (by omega), pidx q st j hq hst (by omega), widx o sz i j c ch ho hsz (by omega) (by omega) hc8 (by omega)]
    refine bind_of e1 (ite_yes (by omega) (ite_yes (by omega) ?_))
    rw [hit, rd_nat, getD_in hd, getD_in hwi]
    dsimp only
    rw [w64' (by omega) (by omega)]
    refine bind_of e2 ?_
    rw [w64' (x := (ch : Int) + 1) (by omega) (by omega)]
    exact e3
theorem spec_conv_l1 {h w c sz st p q o : Nat} {d W B : List Int} {kd ou mu sh ze : Int} (ht : tensorOk (h : Int) (w : Int) (c : Int) d = true) (hc8 : c ≤ 8) (hsz : sz ≤ 3) (hst : st ≤ 2) (hp : p ≤ 8) (hq : q ≤ 8) (ho : o ≤ 8) (hW : ∀ x ∈ W, -128 ≤ x ∧ x ≤ 127) (hc1 : 1 ≤ c) {i : Nat} (hi : i < sz) (hx : p * st + i < h) (hy : q * st + sz ≤ w) (hWl : ((o * sz + i) * sz + sz) * c ≤ W.length) (r : Int) : ∀ (n j : Nat) (s : Int), j + n = sz → (Evp fun k => spec_l03Item.l0 k (p : Int) (q : Int) (o : Int) (dotGo (rowW d w c (p * st + i) (q * st) n j) (part W (((o * sz + i) * sz + j) * c) (n * c)) s) ((i + 1 : Nat) : Int) (h : Int) (w : Int) (c : Int) d kd ou (sz : Int) (st : Int) mu sh ze W B (h : Int) (w : Int) (c : Int) = some r) → Evp fun k => spec_l03Item.l1 k (p : Int) (q : Int) (o : Int) s (i : Int) (j : Int) (h : Int) (w : Int) (c : Int) d kd ou (sz : Int) (st : Int) mu sh ze W B (h : Int) (w : Int) (c : Int) = some r
  | 0, j, s, hm, hk => evSuc (evMono hk fun k e => by
    simp only [spec_l03Item.l1]
    rw [if_neg (by omega), w64' (x := (i : Int) + 1) (by omega) (by omega), show (i : Int) + 1 = ((i + 1 : Nat) : Int) by omega]
    rw [Nat.zero_mul, part_zero] at e
    exact e)
  | n + 1, j, s, hm, hk => by
    have hj : j < sz := by omega
    have hy' : q * st + j < w := by omega
    have hW1 : ((o * sz + i) * sz + j) * c + c ≤ ((o * sz + i) * sz + sz) * c := by
      have := Nat.mul_le_mul_right c (show (o * sz + i) * sz + j + 1 ≤ (o * sz + i) * sz + sz by omega)
      rw [Nat.add_mul] at this
      omega
    obtain ⟨hd, -⟩ := itemAt_at ht hx hy' (show c - 1 < c by omega)
    have e1 : (n + 1) * c = c + n * c := by rw [Nat.add_mul]; omega
    have e2 : ((o * sz + i) * sz + j) * c + c = ((o * sz + i) * sz + (j + 1)) * c := by rw [← Nat.add_assoc, Nat.add_mul ((o * sz + i) * sz + j) 1 c]; omega
    rw [rowW, e1, ← part_app, dotGo_app _ _ _ _ _ (by rw [part_len (by omega), part_len (by omega)]), e2] at hk
    have ih := spec_conv_l1 ht hc8 hsz hst hp hq ho hW hc1 hi hx hy hWl r n (j + 1) _ (by omega) hk
    have g := spec_conv_l2 ht hc8 hsz hst hp hq ho hW hi hj hx hy' (by omega) r c 0 s (by omega) (by simpa using ih)
    refine evSuc (evMono g fun k e => ?_)
    simp only [spec_l03Item.l1]
    exact ite_yes (by omega) e
theorem spec_conv_l0 {h w c sz st p q o : Nat} {d W B : List Int} {kd ou mu sh ze : Int} (ht : tensorOk (h : Int) (w : Int) (c : Int) d = true) (hc8 : c ≤ 8) (hsz : sz ≤ 3) (hst : st ≤ 2) (hp : p ≤ 8) (hq : q ≤ 8) (ho : o ≤ 8) (hW : ∀ x ∈ W, -128 ≤ x ∧ x ≤ 127) (hc1 : 1 ≤ c) (hx : p * st + sz ≤ h) (hy : q * st + sz ≤ w) (hWl : (o * sz + sz) * sz * c ≤ W.length) (hB : o < B.length) : ∀ (n i : Nat) (s : Int), i + n = sz → Evp fun k => spec_l03Item.l0 k (p : Int) (q : Int) (o : Int) s (i : Int) (h : Int) (w : Int) (c : Int) d kd ou (sz : Int) (st : Int) mu sh ze W B (h : Int) (w : Int) (c : Int) = some (requant (addSat (dotGo (winW d w c sz (p * st) (q * st) n i) (part W ((o * sz + i) * sz * c) (n * (sz * c))) s) B[o]) mu sh ze)
  | 0, i, s, hm => evSuc (evMono (evAnd (spec_AddSat_ev s B[o]) (spec_Requant_ev (addSat s B[o]) mu sh ze)) fun k ⟨e1, e2⟩ => by
    simp only [spec_l03Item.l0]
    rw [if_neg (by omega), Nat.zero_mul, part_zero]
    refine ite_yes (by omega) (ite_yes (by omega) ?_)
    rw [rd_eq hB]
    exact bind_of e1 (bind_of e2 rfl))
  | n + 1, i, s, hm => by
    have hi : i < sz := by omega
    have hW1 : ((o * sz + i) * sz + sz) * c ≤ (o * sz + sz) * sz * c := by
      refine Nat.mul_le_mul_right c ?_
      have := Nat.mul_le_mul_right sz (show o * sz + i + 1 ≤ o * sz + sz by omega)
      rw [Nat.add_mul] at this
      omega
    have e1 : (n + 1) * (sz * c) = sz * c + n * (sz * c) := by rw [Nat.add_mul]; omega
    have e2 : (o * sz + i) * sz * c + sz * c = (o * sz + (i + 1)) * sz * c := by rw [← Nat.add_assoc, Nat.succ_mul, Nat.add_mul ((o * sz + i) * sz) sz c]
    have e3 : ((o * sz + i) * sz + sz) * c = (o * sz + i) * sz * c + sz * c := by rw [Nat.add_mul]
    have ih := spec_conv_l0 (kd := kd) (ou := ou) (mu := mu) (sh := sh) (ze := ze) ht hc8 hsz hst hp hq ho hW hc1 hx hy hWl hB n (i + 1) (dotGo (rowW d w c (p * st + i) (q * st) sz 0) (part W ((o * sz + i) * sz * c) (sz * c)) s) (by omega)
    rw [winW, e1, ← part_app, dotGo_app _ _ _ _ _ (by rw [rowW_len ht (by omega) (by omega) sz 0 (by omega), part_len (by omega)]), e2]
    have g := spec_conv_l1 ht hc8 hsz hst hp hq ho hW hc1 hi (show p * st + i < h by omega) hy (by omega) _ sz 0 s (by omega) (by simpa using ih)
    refine evSuc (evMono g fun k e => ?_)
    simp only [spec_l03Item.l0]
    exact ite_yes (by omega) e


theorem place_w2 {a : Int} (x y w c : Nat) (hx : x ≤ 20) (hy : y ≤ 20) (hw : w ≤ 8) (hc : c ≤ 8) : impl_Shape_place.f a (w : Int) (c : Int) (x : Int) (y : Int) 0 = some (((x * w + y) * c : Nat) : Int) := by
  have b1 : x * w ≤ 20 * 8 := Nat.mul_le_mul hx hw
  have b2 : (x * w + y) * c ≤ 180 * 8 := Nat.mul_le_mul (by omega) hc
  unfold impl_Shape_place.f
  rw [show (x : Int) * (w : Int) = ((x * w : Nat) : Int) by simp, w64' (x := ((x * w : Nat) : Int)) (by omega) (by omega), show ((x * w : Nat) : Int) + (y : Int) = ((x * w + y : Nat) : Int) by simp, w64' (x := ((x * w + y : Nat) : Int)) (by omega) (by omega), show ((x * w + y : Nat) : Int) * (c : Int) = (((x * w + y) * c : Nat) : Int) by simp, w64' (x := (((x * w + y) * c : Nat) : Int)) (by omega) (by omega), Int.add_zero, w64' (by omega) (by omega)]
theorem impl_win_l1 {h w c sz st p q : Nat} {d W B : List Int} {kd ou mu sh ze : Int} (ht : tensorOk (h : Int) (w : Int) (c : Int) d = true) (hc1 : 1 ≤ c) (hc8 : c ≤ 8) (hw8 : w ≤ 8) (hsz : sz ≤ 3) (hst : st ≤ 2) (hp : p ≤ 8) (hq : q ≤ 8) {i : Nat} (hi : i < sz) (hx : p * st + i < h) (hy : q * st + sz ≤ w) (r : List Int) : ∀ (n j : Nat) (acc : List Int), j + n = sz → acc.length ≤ 1000000 + j * 8 → (Evp fun k => impl_Layer_window.l0 k (p : Int) (q : Int) (-1) (acc ++ rowW d w c (p * st + i) (q * st) n j) (sz : Int) ((i + 1 : Nat) : Int) kd ou (sz : Int) (st : Int) mu sh ze W B (h : Int) (w : Int) (c : Int) d = some r) → Evp fun k => impl_Layer_window.l1 k (p : Int) (q : Int) (-1) acc (i : Int) (sz : Int) (i : Int) (sz : Int) (j : Int) kd ou (sz : Int) (st : Int) mu sh ze W B (h : Int) (w : Int) (c : Int) d = some r
  | 0, j, acc, hm, ha, hk => evSuc (evMono hk fun k e => by
    simp only [impl_Layer_window.l1]
    rw [if_neg (by omega), w64' (x := (i : Int) + 1) (by omega) (by omega), show (i : Int) + 1 = ((i + 1 : Nat) : Int) by omega]
    simpa [rowW] using e)
  | n + 1, j, acc, hm, ha, hk => by
    have hy' : q * st + j < w := by omega
    obtain ⟨hd, -⟩ := itemAt_at ht hx hy' (show c - 1 < c by omega)
    have hl := tensorOk_len ht
    have hpl : (part d (((p * st + i) * w + (q * st + j)) * c) c).length = c := part_len (by omega)
    have bp : p * st ≤ 8 * 2 := Nat.mul_le_mul hp hst
    have bq : q * st ≤ 8 * 2 := Nat.mul_le_mul hq hst
    have ih := impl_win_l1 (kd := kd) (ou := ou) (mu := mu) (sh := sh) (ze := ze) (W := W) (B := B) ht hc1 hc8 hw8 hsz hst hp hq hi hx hy r n (j + 1) (acc ++ part d (((p * st + i) * w + (q * st + j)) * c) c) (by omega) (by rw [List.length_append, hpl]; omega) (by rw [rowW, ← List.append_assoc] at hk; exact hk)
    refine evSuc (evMono ih fun k e => ?_)
    simp only [impl_Layer_window.l1]
    rw [if_pos (by omega), pidx p st i hp hst (by omega), pidx q st j hq hst (by omega)]
    refine bind_of (place_w2 (p * st + i) (q * st + j) w c (by omega) (by omega) hw8 hc8) (ite_yes (by omega) (ite_yes (by omega) ?_))
    rw [w64' (x := ((((p * st + i) * w + (q * st + j)) * c : Nat) : Int) + (c : Int)) (by omega) (by omega)]
    have ep : ((d.take (((((p * st + i) * w + (q * st + j)) * c : Nat) : Int) + (c : Int)).toNat).drop ((((p * st + i) * w + (q * st + j)) * c : Nat) : Int).toNat) = part d (((p * st + i) * w + (q * st + j)) * c) c := by
      unfold part
      rw [List.drop_take]
      congr 1
      omega
    rw [ep]
    refine ite_yes (by omega) (ite_yes (by omega) (ite_yes (by rw [hpl]; omega) ?_))
    rw [w64' (x := (j : Int) + 1) (by omega) (by omega)]
    exact e
theorem impl_win_l0 {h w c sz st p q : Nat} {d W B : List Int} {kd ou mu sh ze : Int} (ht : tensorOk (h : Int) (w : Int) (c : Int) d = true) (hc1 : 1 ≤ c) (hc8 : c ≤ 8) (hw8 : w ≤ 8) (hsz : sz ≤ 3) (hst : st ≤ 2) (hp : p ≤ 8) (hq : q ≤ 8) (hx : p * st + sz ≤ h) (hy : q * st + sz ≤ w) : ∀ (n i : Nat) (acc : List Int), i + n = sz → acc.length ≤ 1000 + i * 24 → Evp fun k => impl_Layer_window.l0 k (p : Int) (q : Int) (-1) acc (sz : Int) (i : Int) kd ou (sz : Int) (st : Int) mu sh ze W B (h : Int) (w : Int) (c : Int) d = some (acc ++ winW d w c sz (p * st) (q * st) n i)
  | 0, i, acc, hm, ha => evSuc (evAll fun k => by
    simp only [impl_Layer_window.l0]
    rw [if_neg (by omega)]
    simp [winW])
  | n + 1, i, acc, hm, ha => by
    have hi : i < sz := by omega
    have hrl := rowW_len ht (x := p * st + i) (y := q * st) (by omega) hc1 sz 0 (by omega)
    have b : sz * c ≤ 3 * 8 := Nat.mul_le_mul hsz hc8
    have ih := impl_win_l0 (kd := kd) (ou := ou) (mu := mu) (sh := sh) (ze := ze) (W := W) (B := B) ht hc1 hc8 hw8 hsz hst hp hq hx hy n (i + 1) (acc ++ rowW d w c (p * st + i) (q * st) sz 0) (by omega) (by rw [List.length_append, hrl]; omega)
    rw [winW, ← List.append_assoc]
    have g := impl_win_l1 (kd := kd) (ou := ou) (mu := mu) (sh := sh) (ze := ze) (W := W) (B := B) ht hc1 hc8 hw8 hsz hst hp hq hi (show p * st + i < h by omega) hy _ sz 0 acc (by omega) (by omega) ih
    refine evSuc (evMono g fun k e => ?_)
    simp only [impl_Layer_window.l0]
    exact ite_yes (by omega) e
theorem impl_win_ev {h w c sz st p q : Nat} {d W B : List Int} {kd ou mu sh ze : Int} (ht : tensorOk (h : Int) (w : Int) (c : Int) d = true) (hc1 : 1 ≤ c) (hc8 : c ≤ 8) (hw8 : w ≤ 8) (hsz : sz ≤ 3) (hst : st ≤ 2) (hp : p ≤ 8) (hq : q ≤ 8) (hx : p * st + sz ≤ h) (hy : q * st + sz ≤ w) : Evp fun k => impl_Layer_window.f k kd ou (sz : Int) (st : Int) mu sh ze W B (h : Int) (w : Int) (c : Int) d (p : Int) (q : Int) (-1) = some (winW d w c sz (p * st) (q * st) sz 0) :=
  evMono (impl_win_l0 (kd := kd) (ou := ou) (mu := mu) (sh := sh) (ze := ze) (W := W) (B := B) ht hc1 hc8 hw8 hsz hst hp hq hx hy sz 0 [] (by omega) (by simp)) fun k e => e
theorem winW_len {h w c sz x y : Nat} {d : List Int} (ht : tensorOk (h : Int) (w : Int) (c : Int) d = true) (hx : x + sz ≤ h) (hc1 : 1 ≤ c) (hy : y + sz ≤ w) : ∀ (n i : Nat), i + n = sz → (winW d w c sz x y n i).length = n * (sz * c)
  | 0, i, hi => by simp [winW]
  | n + 1, i, hi => by
    rw [winW, List.length_append, rowW_len ht (show x + i < h by omega) hc1 sz 0 (by omega), winW_len ht hx hc1 hy n (i + 1) (by omega), Nat.add_mul]
    omega


def rowP (d : List Int) (w c o : Nat) (x y : Nat) : Nat → Nat → List Int
  | 0, _ => []
  | n + 1, j => d.getD ((x * w + (y + j)) * c + o) 0 :: rowP d w c o x y n (j + 1)
def poolP (d : List Int) (w c o sz : Nat) (x y : Nat) : Nat → Nat → List Int
  | 0, _ => []
  | n + 1, i => rowP d w c o (x + i) y sz 0 ++ poolP d w c o sz x y n (i + 1)
theorem rowP_len (d : List Int) (w c o x y : Nat) : ∀ (n j : Nat), (rowP d w c o x y n j).length = n
  | 0, j => rfl
  | n + 1, j => by simp [rowP, rowP_len d w c o x y n (j + 1)]
theorem poolP_len (d : List Int) (w c o sz x y : Nat) : ∀ (n i : Nat), (poolP d w c o sz x y n i).length = n * sz
  | 0, i => by simp [poolP]
  | n + 1, i => by rw [poolP, List.length_append, rowP_len, poolP_len d w c o sz x y n (i + 1), Nat.add_mul]; omega
theorem spec_pool_l1 {h w c sz st p q o : Nat} {d W B : List Int} {kd ou mu sh ze : Int} (ht : tensorOk (h : Int) (w : Int) (c : Int) d = true) (ho : o < c) (hc8 : c ≤ 8) (hw8 : w ≤ 8) (hsz : sz ≤ 3) (hst : st ≤ 2) (hp : p ≤ 8) (hq : q ≤ 8) {i : Nat} (hi : i < sz) (hx : p * st + i < h) (hy : q * st + sz ≤ w) (r : List Int) : ∀ (n j : Nat) (acc : List Int), j + n = sz → acc.length ≤ 1000000 + j * 8 → (Evp fun k => spec_l03Pool.l0 k (p : Int) (q : Int) (o : Int) (acc ++ rowP d w c o (p * st + i) (q * st) n j) ((i + 1 : Nat) : Int) (h : Int) (w : Int) (c : Int) d kd ou (sz : Int) (st : Int) mu sh ze W B = some r) → Evp fun k => spec_l03Pool.l1 k (p : Int) (q : Int) (o : Int) acc (i : Int) (j : Int) (h : Int) (w : Int) (c : Int) d kd ou (sz : Int) (st : Int) mu sh ze W B = some r
  | 0, j, acc, hm, ha, hk => evSuc (evMono hk fun k e => by
    simp only [spec_l03Pool.l1]
    rw [if_neg (by omega), w64' (x := (i : Int) + 1) (by omega) (by omega), show (i : Int) + 1 = ((i + 1 : Nat) : Int) by omega]
    simpa [rowP] using e)
  | n + 1, j, acc, hm, ha, hk => by
    have hy' : q * st + j < w := by omega
    obtain ⟨hd, hit⟩ := itemAt_at ht hx hy' ho
    have hl := tensorOk_len ht
    have ih := spec_pool_l1 (kd := kd) (ou := ou) (mu := mu) (sh := sh) (ze := ze) (W := W) (B := B) ht ho hc8 hw8 hsz hst hp hq hi hx hy r n (j + 1) (acc ++ [d.getD (((p * st + i) * w + (q * st + j)) * c + o) 0]) (by omega) (by simp; omega) (by rw [rowP, List.append_cons] at hk; exact hk)
    refine evSuc (evMono (evAnd (spec_ItemAt_ev (h : Int) (w : Int) (c : Int) d ((p * st + i : Nat) : Int) ((q * st + j : Nat) : Int) (o : Int) (by omega)) ih) fun k ⟨e1, e2⟩ => ?_)
    simp only [spec_l03Pool.l1]
    rw [if_pos (by omega), pidx p st i hp hst (by omega), pidx q st j hq hst (by omega)]
    refine bind_of e1 ?_
    rw [hit]
    refine ite_yes (by omega) ?_
    rw [w64' (x := (j : Int) + 1) (by omega) (by omega)]
    exact e2
theorem spec_pool_l0 {h w c sz st p q o : Nat} {d W B : List Int} {kd ou mu sh ze : Int} (ht : tensorOk (h : Int) (w : Int) (c : Int) d = true) (ho : o < c) (hc8 : c ≤ 8) (hw8 : w ≤ 8) (hsz : sz ≤ 3) (hst : st ≤ 2) (hp : p ≤ 8) (hq : q ≤ 8) (hx : p * st + sz ≤ h) (hy : q * st + sz ≤ w) : ∀ (n i : Nat) (acc : List Int), i + n = sz → acc.length ≤ 1000 + i * 24 → Evp fun k => spec_l03Pool.l0 k (p : Int) (q : Int) (o : Int) acc (i : Int) (h : Int) (w : Int) (c : Int) d kd ou (sz : Int) (st : Int) mu sh ze W B = some (acc ++ poolP d w c o sz (p * st) (q * st) n i)
  | 0, i, acc, hm, ha => evSuc (evAll fun k => by
    simp only [spec_l03Pool.l0]
    rw [if_neg (by omega)]
    simp [poolP])
  | n + 1, i, acc, hm, ha => by
    have hi : i < sz := by omega
    have hrl := rowP_len d w c o (p * st + i) (q * st) sz 0
    have ih := spec_pool_l0 (kd := kd) (ou := ou) (mu := mu) (sh := sh) (ze := ze) (W := W) (B := B) ht ho hc8 hw8 hsz hst hp hq hx hy n (i + 1) (acc ++ rowP d w c o (p * st + i) (q * st) sz 0) (by omega) (by rw [List.length_append, hrl]; omega)
    rw [poolP, ← List.append_assoc]
    have g := spec_pool_l1 (kd := kd) (ou := ou) (mu := mu) (sh := sh) (ze := ze) (W := W) (B := B) ht ho hc8 hw8 hsz hst hp hq hi (show p * st + i < h by omega) hy _ sz 0 acc (by omega) (by omega) ih
    refine evSuc (evMono g fun k e => ?_)
    simp only [spec_l03Pool.l0]
    exact ite_yes (by omega) e


theorem impl_pool_l1 {h w c sz st p q o : Nat} {d W B : List Int} {kd ou mu sh ze : Int} (ht : tensorOk (h : Int) (w : Int) (c : Int) d = true) (ho : o < c) (hc8 : c ≤ 8) (hw8 : w ≤ 8) (hsz : sz ≤ 3) (hst : st ≤ 2) (hp : p ≤ 8) (hq : q ≤ 8) {i : Nat} (hi : i < sz) (hx : p * st + i < h) (hy : q * st + sz ≤ w) (r : List Int) : ∀ (n j : Nat) (acc : List Int), j + n = sz → acc.length ≤ 1000000 + j * 8 → (Evp fun k => impl_Layer_window.l0 k (p : Int) (q : Int) (o : Int) (acc ++ rowP d w c o (p * st + i) (q * st) n j) (sz : Int) ((i + 1 : Nat) : Int) kd ou (sz : Int) (st : Int) mu sh ze W B (h : Int) (w : Int) (c : Int) d = some r) → Evp fun k => impl_Layer_window.l1 k (p : Int) (q : Int) (o : Int) acc (i : Int) (sz : Int) (i : Int) (sz : Int) (j : Int) kd ou (sz : Int) (st : Int) mu sh ze W B (h : Int) (w : Int) (c : Int) d = some r
  | 0, j, acc, hm, ha, hk => evSuc (evMono hk fun k e => by
    simp only [impl_Layer_window.l1]
    rw [if_neg (by omega), w64' (x := (i : Int) + 1) (by omega) (by omega), show (i : Int) + 1 = ((i + 1 : Nat) : Int) by omega]
    simpa [rowP] using e)
  | n + 1, j, acc, hm, ha, hk => by
    have hy' : q * st + j < w := by omega
    obtain ⟨hd, hit⟩ := itemAt_at ht hx hy' ho
    have hl := tensorOk_len ht
    have bp : p * st ≤ 8 * 2 := Nat.mul_le_mul hp hst
    have bq : q * st ≤ 8 * 2 := Nat.mul_le_mul hq hst
    have ih := impl_pool_l1 (kd := kd) (ou := ou) (mu := mu) (sh := sh) (ze := ze) (W := W) (B := B) ht ho hc8 hw8 hsz hst hp hq hi hx hy r n (j + 1) (acc ++ [d.getD (((p * st + i) * w + (q * st + j)) * c + o) 0]) (by omega) (by simp; omega) (by rw [rowP, List.append_cons] at hk; exact hk)
    refine evSuc (evMono ih fun k e => ?_)
    simp only [impl_Layer_window.l1]
    rw [if_pos (by omega), pidx p st i hp hst (by omega), pidx q st j hq hst (by omega)]
    refine bind_of (place_w2 (p * st + i) (q * st + j) w c (by omega) (by omega) hw8 hc8) (ite_no (by omega) ?_)
    rw [w64' (x := ((((p * st + i) * w + (q * st + j)) * c : Nat) : Int) + (o : Int)) (by omega) (by omega), show ((((p * st + i) * w + (q * st + j)) * c : Nat) : Int) + (o : Int) = ((((p * st + i) * w + (q * st + j)) * c + o : Nat) : Int) by omega, rd_nat]
    refine ite_yes (by omega) (ite_yes (by omega) (ite_yes (by omega) ?_))
    rw [w64' (x := (j : Int) + 1) (by omega) (by omega)]
    exact e
theorem impl_pool_l0 {h w c sz st p q o : Nat} {d W B : List Int} {kd ou mu sh ze : Int} (ht : tensorOk (h : Int) (w : Int) (c : Int) d = true) (ho : o < c) (hc8 : c ≤ 8) (hw8 : w ≤ 8) (hsz : sz ≤ 3) (hst : st ≤ 2) (hp : p ≤ 8) (hq : q ≤ 8) (hx : p * st + sz ≤ h) (hy : q * st + sz ≤ w) : ∀ (n i : Nat) (acc : List Int), i + n = sz → acc.length ≤ 1000 + i * 24 → Evp fun k => impl_Layer_window.l0 k (p : Int) (q : Int) (o : Int) acc (sz : Int) (i : Int) kd ou (sz : Int) (st : Int) mu sh ze W B (h : Int) (w : Int) (c : Int) d = some (acc ++ poolP d w c o sz (p * st) (q * st) n i)
  | 0, i, acc, hm, ha => evSuc (evAll fun k => by
    simp only [impl_Layer_window.l0]
    rw [if_neg (by omega)]
    simp [poolP])
  | n + 1, i, acc, hm, ha => by
    have hi : i < sz := by omega
    have hrl := rowP_len d w c o (p * st + i) (q * st) sz 0
    have ih := impl_pool_l0 (kd := kd) (ou := ou) (mu := mu) (sh := sh) (ze := ze) (W := W) (B := B) ht ho hc8 hw8 hsz hst hp hq hx hy n (i + 1) (acc ++ rowP d w c o (p * st + i) (q * st) sz 0) (by omega) (by rw [List.length_append, hrl]; omega)
    rw [poolP, ← List.append_assoc]
    have g := impl_pool_l1 (kd := kd) (ou := ou) (mu := mu) (sh := sh) (ze := ze) (W := W) (B := B) ht ho hc8 hw8 hsz hst hp hq hi (show p * st + i < h by omega) hy _ sz 0 acc (by omega) (by omega) ih
    refine evSuc (evMono g fun k e => ?_)
    simp only [impl_Layer_window.l0]
    exact ite_yes (by omega) e


theorem drop_take_part (W : List Int) (a n : Nat) : (W.take (a + n)).drop a = part W a n := by
  unfold part
  rw [List.drop_take]
  congr 1
  omega
theorem impl_scaled_ev {kd ou sz st mu sh ze : Int} {W B l : List Int} {o : Nat} (ho : o ≤ 8) (hl : l.length ≤ 512) (hW : (o + 1) * l.length ≤ W.length) (hB : o < B.length) : Evp fun k => impl_Layer_scaled.f k kd ou sz st mu sh ze W B l (o : Int) = some (requant (addSat (dotOf l (part W (o * l.length) l.length)) B[o]) mu sh ze) := by
  have b1 : o * l.length ≤ 8 * 512 := Nat.mul_le_mul ho hl
  have e1 : (o + 1) * l.length = o * l.length + l.length := Nat.succ_mul _ _
  have w1 : wrap64 ((o : Int) * (l.length : Int)) = ((o * l.length : Nat) : Int) := by
    rw [show (o : Int) * (l.length : Int) = ((o * l.length : Nat) : Int) by simp]
    exact w64' (by omega) (by omega)
  have w2 : wrap64 ((wrap64 ((o : Int) + 1)) * (l.length : Int)) = ((o * l.length + l.length : Nat) : Int) := by
    rw [w64' (x := (o : Int) + 1) (by omega) (by omega), show ((o : Int) + 1) * (l.length : Int) = (((o + 1) * l.length : Nat) : Int) by simp, e1]
    exact w64' (by omega) (by omega)
  refine evMono (evAnd (impl_DotOf_ev l (part W (o * l.length) l.length) (by omega)) (evAnd (evAll fun _ => impl_AddSat_eq (dotOf l (part W (o * l.length) l.length)) B[o]) (impl_Requant_ev (addSat (dotOf l (part W (o * l.length) l.length)) B[o]) mu sh ze))) fun k ⟨e2, e3, e4⟩ => ?_
  unfold impl_Layer_scaled.f
  rw [w1, w2, Int.toNat_natCast, Int.toNat_natCast, drop_take_part]
  refine ite_yes (by omega) (ite_yes (by omega) (ite_yes (by omega) (bind_of e2 (ite_yes (by omega) (ite_yes (by omega) ?_)))))
  rw [rd_eq hB]
  exact bind_of e3 (bind_of e4 rfl)


theorem item_dense {h w c sz st p q : Int} {o : Nat} {d W B : List Int} {ou mu sh ze : Int} (ht : tensorOk h w c d = true) (ho : o ≤ 8) (hW : (o + 1) * d.length ≤ W.length) (hB : o < B.length) : ∃ v, (Evp fun k => spec_l03Item.f k h w c d 0 ou sz st mu sh ze W B p q (o : Int) = some v) ∧ Evp fun k => impl_Layer_item.f k 0 ou sz st mu sh ze W B h w c d p q (o : Int) = some v := by
  have hl := tensorOk_len ht
  obtain ⟨hs, hn, _⟩ := tensorOk_iff.1 ht
  have b1 : o * d.length ≤ 8 * 512 := Nat.mul_le_mul ho hl.2
  have e1 : (o + 1) * d.length = o * d.length + d.length := Nat.succ_mul _ _
  have hz : sizeOf h w c = (d.length : Int) := by
    unfold sizeOf
    rw [if_pos hs, hn]
  have w1 : wrap64 ((o : Int) * (d.length : Int)) = ((o * d.length : Nat) : Int) := by
    rw [show (o : Int) * (d.length : Int) = ((o * d.length : Nat) : Int) by simp]
    exact w64' (by omega) (by omega)
  have w2 : wrap64 (((o * d.length : Nat) : Int) + (d.length : Int)) = ((o * d.length + d.length : Nat) : Int) := by
    rw [show ((o * d.length : Nat) : Int) + (d.length : Int) = ((o * d.length + d.length : Nat) : Int) by simp]
    exact w64' (by omega) (by omega)
  refine ⟨_, ?_, evMono (impl_scaled_ev (kd := 0) (ou := ou) (sz := sz) (st := st) (mu := mu) (sh := sh) (ze := ze) ho hl.2 hW hB) fun k e => ite_yes rfl (bind_of e rfl)⟩
  refine evMono (evAnd (spec_DotOf_ev d (part W (o * d.length) d.length) (by omega)) (evAnd (spec_AddSat_ev (dotOf d (part W (o * d.length) d.length)) B[o]) (spec_Requant_ev (addSat (dotOf d (part W (o * d.length) d.length)) B[o]) mu sh ze))) fun k ⟨e2, e3, e4⟩ => ite_yes rfl (bind_of (spec_SizeOf_eq h w c) ?_)
  rw [hz, w1, w2, Int.toNat_natCast, Int.toNat_natCast, drop_take_part]
  refine ite_yes (by omega) (ite_yes (by omega) (ite_yes (by omega) (bind_of e2 (ite_yes (by omega) (ite_yes (by omega) ?_)))))
  rw [rd_eq hB]
  exact bind_of e3 (bind_of e4 rfl)
theorem item_flat {h w c sz st p q : Int} {o : Nat} {d W B : List Int} {ou mu sh ze : Int} (ho : o < d.length) : ∃ v, (Evp fun k => spec_l03Item.f k h w c d 5 ou sz st mu sh ze W B p q (o : Int) = some v) ∧ Evp fun k => impl_Layer_item.f k 5 ou sz st mu sh ze W B h w c d p q (o : Int) = some v :=
  ⟨rd d (o : Int), evAll fun k => ite_no (by decide) (ite_no (by decide) (ite_no (by decide) (ite_no (by decide) (ite_no (by decide) (ite_yes (by omega) (ite_yes (by omega) rfl)))))), evAll fun k => ite_no (by decide) (ite_no (by decide) (ite_no (by decide) (ite_no (by decide) (ite_no (by decide) (ite_yes (by omega) (ite_yes (by omega) rfl))))))⟩

theorem marksTot_le : ∀ (l : List S37), (∀ x ∈ l, smallL x) → marksTot l ≤ l.length * 2097159
  | [], _ => by simp [marksTot]
  | x :: l, h => by
    have h1 := marksTot_le l fun y hy => h y (by simp [hy])
    have h2 := h x (by simp)
    unfold smallL at h2
    simp only [marksTot, List.length_cons]
    omega
theorem laws_markModel_ok (h w c : Int) (l : List S37) (hl : smallI l) : ∃ m, 0 ≤ m ∧ m ≤ 2199030661121 ∧ laws_markModel.f h w c l 1 = some m := by
  have h1 := marksTot_le l hl.2
  have h2 := marksTot_nn l
  have h3 := hl.1
  exact ⟨1 + marksTot l, by omega, by omega, ite_yes (by omega) rfl⟩


theorem item_conv {h w c sz st p q o : Nat} {d W B : List Int} {ou mu sh ze : Int} (ht : tensorOk (h : Int) (w : Int) (c : Int) d = true) (hc1 : 1 ≤ c) (hc8 : c ≤ 8) (hw8 : w ≤ 8) (hsz : sz ≤ 3) (hst : st ≤ 2) (hp : p ≤ 8) (hq : q ≤ 8) (ho : o ≤ 8) (hW : ∀ x ∈ W, -128 ≤ x ∧ x ≤ 127) (hx : p * st + sz ≤ h) (hy : q * st + sz ≤ w) (hWl : (o + 1) * (sz * (sz * c)) ≤ W.length) (hB : o < B.length) : ∃ v, (Evp fun k => spec_l03Item.f k (h : Int) (w : Int) (c : Int) d 1 ou (sz : Int) (st : Int) mu sh ze W B (p : Int) (q : Int) (o : Int) = some v) ∧ Evp fun k => impl_Layer_item.f k 1 ou (sz : Int) (st : Int) mu sh ze W B (h : Int) (w : Int) (c : Int) d (p : Int) (q : Int) (o : Int) = some v := by
  have hl := winW_len ht hx hc1 hy sz 0 (by omega)
  have e1 : (o * sz + 0) * sz * c = o * (sz * (sz * c)) := by rw [Nat.add_zero, Nat.mul_assoc, Nat.mul_assoc]
  have e2 : (o * sz + sz) * sz * c = (o + 1) * (sz * (sz * c)) := by rw [← Nat.succ_mul, Nat.mul_assoc, Nat.mul_assoc]
  have b1 : sz * c ≤ 3 * 8 := Nat.mul_le_mul hsz hc8
  have b2 : sz * (sz * c) ≤ 3 * (3 * 8) := Nat.mul_le_mul hsz b1
  have s := spec_conv_l0 (kd := 1) (ou := ou) (mu := mu) (sh := sh) (ze := ze) ht hc8 hsz hst hp hq ho hW hc1 hx hy (by rw [e2]; exact hWl) hB sz 0 0 (by omega)
  have i1 := impl_win_ev (kd := 1) (ou := ou) (mu := mu) (sh := sh) (ze := ze) (W := W) (B := B) ht hc1 hc8 hw8 hsz hst hp hq hx hy
  have i2 := impl_scaled_ev (kd := 1) (ou := ou) (sz := (sz : Int)) (st := (st : Int)) (mu := mu) (sh := sh) (ze := ze) (W := W) (B := B) (l := winW d w c sz (p * st) (q * st) sz 0) ho (by rw [hl]; omega) (by rw [hl]; exact hWl) hB
  rw [hl, ← e1] at i2
  exact ⟨_, evMono s fun k e => ite_no (by decide) (ite_yes rfl e), evMono (evAnd i1 i2) fun k ⟨a, b⟩ => ite_no (by decide) (ite_yes rfl (bind_of a (bind_of b rfl)))⟩
theorem spec_max_l3 (l : List Int) (hl : l.length ≤ 1000000) : ∀ (n i : Nat) (m : Int), i + n = l.length → (∀ j, j < i → l.getD j 0 ≤ m) → (∃ j, j < i ∧ l.getD j 0 = m) → ∃ M, (∀ j, j < l.length → l.getD j 0 ≤ M) ∧ (∃ j, j < l.length ∧ l.getD j 0 = M) ∧ Evp fun k => spec_l03Item.l3 k l m (i : Int) = some M
  | 0, i, m, hi, h1, h2 => ⟨m, fun j hj => h1 j (by omega), by obtain ⟨j, a, b⟩ := h2; exact ⟨j, by omega, b⟩, evSuc (evAll fun k => by
    simp only [spec_l03Item.l3]
    exact ite_no (by omega) rfl)⟩
  | n + 1, i, m, hi, h1, h2 => by
    have hr : rd l (i : Int) = l.getD i 0 := rd_nat l i
    by_cases hm : rd l (i : Int) > m
    · obtain ⟨M, m1, m2, m3⟩ := spec_max_l3 l hl n (i + 1) (rd l (i : Int)) (by omega) (fun j hj => by
        by_cases e : j = i
        · rw [e, hr]; exact Int.le_refl _
        · have := h1 j (by omega)
          omega) ⟨i, by omega, hr.symm⟩
      refine ⟨M, m1, m2, evSuc (evMono m3 fun k e => ?_)⟩
      simp only [spec_l03Item.l3]
      refine ite_yes (by omega) (ite_yes (by omega) (ite_yes hm ?_))
      rw [w64' (by omega) (by omega)]
      exact e
    · obtain ⟨M, m1, m2, m3⟩ := spec_max_l3 l hl n (i + 1) m (by omega) (fun j hj => by
        by_cases e : j = i
        · rw [e, ← hr]; omega
        · exact h1 j (by omega)) (by obtain ⟨j, a, b⟩ := h2; exact ⟨j, by omega, b⟩)
      refine ⟨M, m1, m2, evSuc (evMono m3 fun k e => ?_)⟩
      simp only [spec_l03Item.l3]
      refine ite_yes (by omega) (ite_yes (by omega) (ite_no hm ?_))
      rw [w64' (by omega) (by omega)]
      exact e
theorem item_max {h w c sz st p q o : Nat} {d W B : List Int} {ou mu sh ze : Int} (ht : tensorOk (h : Int) (w : Int) (c : Int) d = true) (ho : o < c) (hc8 : c ≤ 8) (hw8 : w ≤ 8) (hs1 : 1 ≤ sz) (hsz : sz ≤ 3) (hst : st ≤ 2) (hp : p ≤ 8) (hq : q ≤ 8) (hx : p * st + sz ≤ h) (hy : q * st + sz ≤ w) : ∃ v, (Evp fun k => spec_l03Item.f k (h : Int) (w : Int) (c : Int) d 2 ou (sz : Int) (st : Int) mu sh ze W B (p : Int) (q : Int) (o : Int) = some v) ∧ Evp fun k => impl_Layer_item.f k 2 ou (sz : Int) (st : Int) mu sh ze W B (h : Int) (w : Int) (c : Int) d (p : Int) (q : Int) (o : Int) = some v := by
  have s1 := spec_pool_l0 (kd := 2) (ou := ou) (mu := mu) (sh := sh) (ze := ze) (W := W) (B := B) ht ho hc8 hw8 hsz hst hp hq hx hy sz 0 [] (by omega) (by simp)
  have i1 := impl_pool_l0 (kd := 2) (ou := ou) (mu := mu) (sh := sh) (ze := ze) (W := W) (B := B) ht ho hc8 hw8 hsz hst hp hq hx hy sz 0 [] (by omega) (by simp)
  have hl := poolP_len d w c o sz (p * st) (q * st) sz 0
  have b1 : 1 * 1 ≤ sz * sz := Nat.mul_le_mul hs1 hs1
  have b2 : sz * sz ≤ 3 * 3 := Nat.mul_le_mul hsz hsz
  rw [List.nil_append] at s1 i1
  generalize poolP d w c o sz (p * st) (q * st) sz 0 = L at s1 i1 hl
  obtain ⟨M, m1, ⟨j, hj, ej⟩, m3⟩ := spec_max_l3 L (by omega) (L.length - 1) 1 (rd L 0) (by omega) (fun j hj => by
    have : j = 0 := by omega
    rw [this]
    exact Int.le_of_eq (rd_nat L 0).symm) ⟨0, by omega, (rd_nat L 0).symm⟩
  obtain ⟨M', n1, ⟨j', hj', ej'⟩, n3⟩ := slices_Max_ok L (by omega) (by omega)
  have hM : M = M' := by
    have a := n1 j hj
    have b := m1 j' hj'
    omega
  subst hM
  exact ⟨M, evMono (evAnd s1 m3) fun k ⟨a, b⟩ => ite_no (by decide) (ite_no (by decide) (ite_yes rfl (bind_of a (ite_yes (by omega) b)))), evMono (evAnd i1 n3) fun k ⟨a, b⟩ => ite_no (by decide) (ite_no (by decide) (ite_yes rfl (bind_of a (bind_of b rfl))))⟩
def sumP : List Int → Int → Int
  | [], s => s
  | x :: l, s => sumP l (s + x)
theorem spec_avg_l4 (l : List Int) (hl1 : 1 ≤ l.length) (hl : l.length ≤ 9) (hb : ∀ x ∈ l, -128 ≤ x ∧ x ≤ 128) : ∀ (n i : Nat) (s : Int), i + n = l.length → -128 * (i : Int) ≤ s → s ≤ 128 * (i : Int) → Evp fun k => spec_l03Item.l4 k l s (i : Int) = some (rnd (sumP (l.drop i) s) (l.length : Int))
  | 0, i, s, hi, h1, h2 => evSuc (evAll fun k => by
    simp only [spec_l03Item.l4]
    rw [List.drop_eq_nil_of_le (by omega)]
    refine ite_no (by omega) ?_
    have w1 : wrap64 (2 * (l.length : Int)) = 2 * (l.length : Int) := w64' (by omega) (by omega)
    rw [w1]
    unfold rnd sumP
    by_cases hs : s < 0
    · have t1 : wrap64 (wrap64 (-2 * s) + (l.length : Int)) = -2 * s + (l.length : Int) := by rw [w64' (x := -2 * s) (by omega) (by omega), w64' (by omega) (by omega)]
      have hd := Int.ediv_nonneg (show 0 ≤ -2 * s + (l.length : Int) by omega) (show 0 ≤ 2 * (l.length : Int) by omega)
      have hd2 := Int.ediv_le_self (a := -2 * s + (l.length : Int)) (2 * (l.length : Int)) (by omega)
      rw [if_pos hs, if_pos hs, if_neg (by omega), t1, tdiv_pos (by omega), w64' (x := (-2 * s + (l.length : Int)) / (2 * (l.length : Int))) (by omega) (by omega), w64' (by omega) (by omega)]
    · have t1 : wrap64 (wrap64 (2 * s) + (l.length : Int)) = 2 * s + (l.length : Int) := by rw [w64' (x := 2 * s) (by omega) (by omega), w64' (by omega) (by omega)]
      have hd := Int.ediv_nonneg (show 0 ≤ 2 * s + (l.length : Int) by omega) (show 0 ≤ 2 * (l.length : Int) by omega)
      have hd2 := Int.ediv_le_self (a := 2 * s + (l.length : Int)) (2 * (l.length : Int)) (by omega)
      rw [if_neg hs, if_neg hs, if_neg (by omega), t1, tdiv_pos (by omega), w64' (by omega) (by omega)])
  | n + 1, i, s, hi, h1, h2 => by
    have hlt : i < l.length := by omega
    have hx := hb l[i] (List.getElem_mem hlt)
    rw [List.drop_eq_getElem_cons hlt]
    refine evSuc (evMono (spec_avg_l4 l hl1 hl hb n (i + 1) (s + l[i]) (by omega) (by omega) (by omega)) fun k e => ?_)
    simp only [spec_l03Item.l4, sumP]
    refine ite_yes (by omega) (ite_yes (by omega) ?_)
    rw [rd_eq hlt, w64' (x := s + l[i]) (by omega) (by omega), w64' (by omega) (by omega)]
    exact e
theorem impl_avg_l0 {kd ou st mu sh ze : Int} {sz : Nat} {W B : List Int} (l : List Int) (hsz : sz * sz = l.length) (hl1 : 1 ≤ l.length) (hl : l.length ≤ 9) (hb : ∀ x ∈ l, -128 ≤ x ∧ x ≤ 128) : ∀ (n i : Nat) (s : Int), i + n = l.length → -128 * (i : Int) ≤ s → s ≤ 128 * (i : Int) → Evp fun k => impl_Layer_item.l0 k s l (l.length : Int) (i : Int) kd ou (sz : Int) st mu sh ze W B = some (rnd (sumP (l.drop i) s) (l.length : Int))
  | 0, i, s, hi, h1, h2 => evSuc (evMono (impl_rounded_ev s (l.length : Int) (by omega) (by omega) (by omega) (by omega)) fun k e => by
    simp only [impl_Layer_item.l0]
    rw [List.drop_eq_nil_of_le (by omega), show (sz : Int) * (sz : Int) = ((sz * sz : Nat) : Int) by simp, hsz, w64' (x := (l.length : Int)) (by omega) (by omega)]
    exact ite_no (by omega) (bind_of e rfl))
  | n + 1, i, s, hi, h1, h2 => by
    have hlt : i < l.length := by omega
    have hx := hb l[i] (List.getElem_mem hlt)
    rw [List.drop_eq_getElem_cons hlt]
    refine evSuc (evMono (impl_avg_l0 (kd := kd) (ou := ou) (st := st) (mu := mu) (sh := sh) (ze := ze) (W := W) (B := B) l hsz hl1 hl hb n (i + 1) (s + l[i]) (by omega) (by omega) (by omega)) fun k e => ?_)
    simp only [impl_Layer_item.l0, sumP]
    refine ite_yes (by omega) (ite_yes (by omega) (ite_yes (by omega) ?_))
    rw [rd_eq hlt, w64' (x := s + l[i]) (by omega) (by omega), w64' (by omega) (by omega)]
    exact e
theorem getD_bd {d : List Int} (hd : ∀ x ∈ d, -128 ≤ x ∧ x ≤ 127) (i : Nat) : -128 ≤ d.getD i 0 ∧ d.getD i 0 ≤ 128 := by
  by_cases h : i < d.length
  · have := hd d[i] (List.getElem_mem h)
    rw [getD_in h]
    omega
  · simp [List.getD, List.getElem?_eq_none (Nat.not_lt.1 h)]
theorem rowP_b {d : List Int} (hd : ∀ x ∈ d, -128 ≤ x ∧ x ≤ 127) (w c o x y : Nat) : ∀ (n j : Nat), ∀ z ∈ rowP d w c o x y n j, -128 ≤ z ∧ z ≤ 128
  | 0, j, z, hz => by simp [rowP] at hz
  | n + 1, j, z, hz => by
    rw [rowP, List.mem_cons] at hz
    rcases hz with rfl | hz
    · exact getD_bd hd _
    · exact rowP_b hd w c o x y n (j + 1) z hz
theorem poolP_b {d : List Int} (hd : ∀ x ∈ d, -128 ≤ x ∧ x ≤ 127) (w c o sz x y : Nat) : ∀ (n i : Nat), ∀ z ∈ poolP d w c o sz x y n i, -128 ≤ z ∧ z ≤ 128
  | 0, i, z, hz => by simp [poolP] at hz
  | n + 1, i, z, hz => by
    rw [poolP, List.mem_append] at hz
    rcases hz with hz | hz
    · exact rowP_b hd w c o _ _ _ _ z hz
    · exact poolP_b hd w c o sz x y n (i + 1) z hz
theorem item_avg {h w c sz st p q o : Nat} {d W B : List Int} {ou mu sh ze : Int} (ht : tensorOk (h : Int) (w : Int) (c : Int) d = true) (ho : o < c) (hc8 : c ≤ 8) (hw8 : w ≤ 8) (hs1 : 1 ≤ sz) (hsz : sz ≤ 3) (hst : st ≤ 2) (hp : p ≤ 8) (hq : q ≤ 8) (hx : p * st + sz ≤ h) (hy : q * st + sz ≤ w) : ∃ v, (Evp fun k => spec_l03Item.f k (h : Int) (w : Int) (c : Int) d 3 ou (sz : Int) (st : Int) mu sh ze W B (p : Int) (q : Int) (o : Int) = some v) ∧ Evp fun k => impl_Layer_item.f k 3 ou (sz : Int) (st : Int) mu sh ze W B (h : Int) (w : Int) (c : Int) d (p : Int) (q : Int) (o : Int) = some v := by
  have s1 := spec_pool_l0 (kd := 3) (ou := ou) (mu := mu) (sh := sh) (ze := ze) (W := W) (B := B) ht ho hc8 hw8 hsz hst hp hq hx hy sz 0 [] (by omega) (by simp)
  have i1 := impl_pool_l0 (kd := 3) (ou := ou) (mu := mu) (sh := sh) (ze := ze) (W := W) (B := B) ht ho hc8 hw8 hsz hst hp hq hx hy sz 0 [] (by omega) (by simp)
  have hl := poolP_len d w c o sz (p * st) (q * st) sz 0
  have hb := poolP_b (tensorOk_iff.1 ht).2.2 w c o sz (p * st) (q * st) sz 0
  have b1 : 1 * 1 ≤ sz * sz := Nat.mul_le_mul hs1 hs1
  have b2 : sz * sz ≤ 3 * 3 := Nat.mul_le_mul hsz hsz
  rw [List.nil_append] at s1 i1
  generalize poolP d w c o sz (p * st) (q * st) sz 0 = L at s1 i1 hl hb
  have m3 := spec_avg_l4 L (by omega) (by omega) hb L.length 0 0 (by omega) (by omega) (by omega)
  have n3 := impl_avg_l0 (kd := 3) (ou := ou) (st := (st : Int)) (mu := mu) (sh := sh) (ze := ze) (W := W) (B := B) L hl.symm (by omega) (by omega) hb L.length 0 0 (by omega) (by omega) (by omega)
  exact ⟨_, evMono (evAnd s1 m3) fun k ⟨a, b⟩ => ite_no (by decide) (ite_no (by decide) (ite_no (by decide) (ite_yes rfl (bind_of a b)))), evMono (evAnd i1 n3) fun k ⟨a, b⟩ => ite_no (by decide) (ite_no (by decide) (ite_no (by decide) (ite_yes rfl (bind_of a b))))⟩
theorem place_w3 {a : Int} (x y z w c : Nat) (hx : x ≤ 8) (hy : y ≤ 8) (hz : z ≤ 8) (hw : w ≤ 8) (hc : c ≤ 8) : impl_Shape_place.f a (w : Int) (c : Int) (x : Int) (y : Int) (z : Int) = some (((x * w + y) * c + z : Nat) : Int) := by
  have b1 : x * w ≤ 8 * 8 := Nat.mul_le_mul hx hw
  have b2 : (x * w + y) * c ≤ 72 * 8 := Nat.mul_le_mul (by omega) hc
  unfold impl_Shape_place.f
  rw [show (x : Int) * (w : Int) = ((x * w : Nat) : Int) by simp, w64' (x := ((x * w : Nat) : Int)) (by omega) (by omega), show ((x * w : Nat) : Int) + (y : Int) = ((x * w + y : Nat) : Int) by simp, w64' (x := ((x * w + y : Nat) : Int)) (by omega) (by omega), show ((x * w + y : Nat) : Int) * (c : Int) = (((x * w + y) * c : Nat) : Int) by simp, w64' (x := (((x * w + y) * c : Nat) : Int)) (by omega) (by omega), show (((x * w + y) * c : Nat) : Int) + (z : Int) = (((x * w + y) * c + z : Nat) : Int) by simp, w64' (by omega) (by omega)]
theorem item_relu {h w c p q o : Nat} {d W B : List Int} {ou sz st mu sh ze : Int} (ht : tensorOk (h : Int) (w : Int) (c : Int) d = true) (hh8 : h ≤ 8) (hc8 : c ≤ 8) (hw8 : w ≤ 8) (hp : p < h) (hq : q < w) (ho : o < c) : ∃ v, (Evp fun k => spec_l03Item.f k (h : Int) (w : Int) (c : Int) d 4 ou sz st mu sh ze W B (p : Int) (q : Int) (o : Int) = some v) ∧ Evp fun k => impl_Layer_item.f k 4 ou sz st mu sh ze W B (h : Int) (w : Int) (c : Int) d (p : Int) (q : Int) (o : Int) = some v := by
  obtain ⟨hd, hit⟩ := itemAt_at ht hp hq ho
  have hl := tensorOk_len ht
  have s := spec_ItemAt_ev (h : Int) (w : Int) (c : Int) d (p : Int) (q : Int) (o : Int) (by omega)
  rw [hit] at s
  refine ⟨mx (d.getD ((p * w + q) * c + o) 0) ze, evMono s fun k e => ite_no (by decide) (ite_no (by decide) (ite_no (by decide) (ite_no (by decide) (ite_yes rfl (bind_of e ?_))))), evAll fun k => ite_no (by decide) (ite_no (by decide) (ite_no (by decide) (ite_no (by decide) (ite_yes rfl (bind_of (place_w3 p q o w c (by omega) (by omega) (by omega) hw8 hc8) (ite_yes (by omega) (ite_yes (by omega) ?_)))))))⟩
  · unfold mx
    by_cases hm : d.getD ((p * w + q) * c + o) 0 < ze
    · exact ite_yes hm (by rw [if_pos hm])
    · exact ite_no hm (by rw [if_neg hm])
  · rw [rd_nat]
theorem win_in {h sz st : Nat} {p : Nat} (hs : sz ≤ h) (hst : 1 ≤ st) (hp : (p : Int) < ((h : Int) - sz) / st + 1) : p * st + sz ≤ h ∧ p ≤ h := by
  have h1 : (p : Int) ≤ ((h : Int) - sz) / st := by omega
  have h2 := (Int.le_ediv_iff_mul_le (show (0 : Int) < st by omega)).1 h1
  have h3 : (p : Int) * (st : Int) = ((p * st : Nat) : Int) := by simp
  have h4 : p * 1 ≤ p * st := Nat.mul_le_mul_left p hst
  omega
theorem item_ok {h w c kd ou sz st mu sh ze : Int} {d W B : List Int} {H Wd C : Int} (ht : tensorOk h w c d = true) (ho : outShape h w c kd ou sz st mu sh ze W B = (H, Wd, C, true)) : (0 ≤ H ∧ H ≤ 8) ∧ (0 ≤ Wd ∧ Wd ≤ 8) ∧ (0 ≤ C ∧ C ≤ 8) ∧ ∀ p q o : Nat, (p : Int) < H → (q : Int) < Wd → (o : Int) < C → ∃ v, (Evp fun k => spec_l03Item.f k h w c d kd ou sz st mu sh ze W B (p : Int) (q : Int) (o : Int) = some v) ∧ Evp fun k => impl_Layer_item.f k kd ou sz st mu sh ze W B h w c d (p : Int) (q : Int) (o : Int) = some v := by
  obtain ⟨hs, hn, hd⟩ := tensorOk_iff.1 ht
  obtain ⟨⟨h1, h2⟩, ⟨h3, h4⟩, h5, h6⟩ := shape_dims hs
  have hlen := tensorOk_len ht
  unfold outShape at ho
  rw [if_pos hs] at ho
  have no : ∀ {P : Prop}, sh0 = (H, Wd, C, true) → P := fun e => by unfold sh0 at e; simp at e
  by_cases k0 : kd = 0
  · rw [if_pos k0] at ho
    by_cases g : h * w * c ≤ 64 ∧ noneB sz st = true ∧ scaledB ou mu sh ze W B (h * w * c) = true
    · rw [if_pos g] at ho
      simp only [Prod.mk.injEq, and_true] at ho
      obtain ⟨rfl, rfl, rfl⟩ := ho
      subst k0
      obtain ⟨g1, g2, g3, g4, g5, g6, g7, g8⟩ := scaledB_iff.1 g.2.2
      refine ⟨by omega, by omega, by omega, fun p q o hp hq ho => item_dense ht (by omega) ?_ (by omega)⟩
      have m : ((o + 1 : Nat) : Int) * (d.length : Int) ≤ ou * (d.length : Int) := Int.mul_le_mul_of_nonneg_right (by omega) (by omega)
      have m2 : (((o + 1) * d.length : Nat) : Int) = ((o + 1 : Nat) : Int) * (d.length : Int) := Int.natCast_mul _ _
      rw [← hn] at g5
      omega
    · rw [if_neg g] at ho
      exact no ho
  rw [if_neg k0] at ho
  by_cases k1 : kd = 1
  · rw [if_pos k1] at ho
    by_cases g : windB sz st h w = true ∧ (W.length : Int) ≤ 600 ∧ scaledB ou mu sh ze W B (sz * sz * c) = true
    · rw [if_pos g] at ho
      simp only [Prod.mk.injEq, and_true] at ho
      obtain ⟨rfl, rfl, rfl⟩ := ho
      subst k1
      obtain ⟨⟨⟨a1, a2⟩, a3, a4⟩, a5, a6⟩ := windB_iff.1 g.1
      obtain ⟨g1, g2, g3, g4, g5, g6, g7, g8⟩ := scaledB_iff.1 g.2.2
      obtain ⟨hN, rfl⟩ := nat_of (show 0 ≤ h by omega)
      obtain ⟨wN, rfl⟩ := nat_of (show 0 ≤ w by omega)
      obtain ⟨cN, rfl⟩ := nat_of (show 0 ≤ c by omega)
      obtain ⟨sN, rfl⟩ := nat_of (show 0 ≤ sz by omega)
      obtain ⟨tN, rfl⟩ := nat_of (show 0 ≤ st by omega)
      have d1 := Int.ediv_nonneg (show 0 ≤ (hN : Int) - sN by omega) (show 0 ≤ (tN : Int) by omega)
      have d2 := Int.ediv_le_self (a := (hN : Int) - sN) (tN : Int) (by omega)
      have d3 := Int.ediv_nonneg (show 0 ≤ (wN : Int) - sN by omega) (show 0 ≤ (tN : Int) by omega)
      have d4 := Int.ediv_le_self (a := (wN : Int) - sN) (tN : Int) (by omega)
      refine ⟨by omega, by omega, by omega, fun p q o hp hq ho => ?_⟩
      obtain ⟨x1, x2⟩ := win_in (by omega) (by omega) hp
      obtain ⟨y1, y2⟩ := win_in (by omega) (by omega) hq
      refine item_conv ht (by omega) (by omega) (by omega) (by omega) (by omega) (by omega) (by omega) (by omega) (fun x hx => ?_) x1 y1 ?_ (by omega)
      · exact itemsB_iff.1 g6 x hx
      · have m : ((o + 1 : Nat) : Int) * ((sN : Int) * sN * cN) ≤ ou * ((sN : Int) * sN * cN) := Int.mul_le_mul_of_nonneg_right (by omega) (Int.mul_nonneg (Int.mul_nonneg (by omega) (by omega)) (by omega))
        have m2 : (((o + 1) * (sN * (sN * cN)) : Nat) : Int) = ((o + 1 : Nat) : Int) * ((sN : Int) * sN * cN) := by rw [Int.natCast_mul, Int.natCast_mul, Int.natCast_mul, Int.mul_assoc (sN : Int)]
        omega
    · rw [if_neg g] at ho
      exact no ho
  rw [if_neg k1] at ho
  by_cases k2 : kd = 2 ∨ kd = 3
  · rw [if_pos k2] at ho
    by_cases g : windB sz st h w = true ∧ bareB ou mu sh W B = true ∧ ze = 0
    · rw [if_pos g] at ho
      simp only [Prod.mk.injEq, and_true] at ho
      obtain ⟨rfl, rfl, rfl⟩ := ho
      obtain ⟨⟨⟨a1, a2⟩, a3, a4⟩, a5, a6⟩ := windB_iff.1 g.1
      obtain ⟨hN, rfl⟩ := nat_of (show 0 ≤ h by omega)
      obtain ⟨wN, rfl⟩ := nat_of (show 0 ≤ w by omega)
      obtain ⟨cN, rfl⟩ := nat_of (show 0 ≤ c by omega)
      obtain ⟨sN, rfl⟩ := nat_of (show 0 ≤ sz by omega)
      obtain ⟨tN, rfl⟩ := nat_of (show 0 ≤ st by omega)
      have d1 := Int.ediv_nonneg (show 0 ≤ (hN : Int) - sN by omega) (show 0 ≤ (tN : Int) by omega)
      have d2 := Int.ediv_le_self (a := (hN : Int) - sN) (tN : Int) (by omega)
      have d3 := Int.ediv_nonneg (show 0 ≤ (wN : Int) - sN by omega) (show 0 ≤ (tN : Int) by omega)
      have d4 := Int.ediv_le_self (a := (wN : Int) - sN) (tN : Int) (by omega)
      refine ⟨by omega, by omega, by omega, fun p q o hp hq ho => ?_⟩
      obtain ⟨x1, x2⟩ := win_in (by omega) (by omega) hp
      obtain ⟨y1, y2⟩ := win_in (by omega) (by omega) hq
      rcases k2 with rfl | rfl
      · exact item_max ht (by omega) (by omega) (by omega) (by omega) (by omega) (by omega) (by omega) (by omega) x1 y1
      · exact item_avg ht (by omega) (by omega) (by omega) (by omega) (by omega) (by omega) (by omega) (by omega) x1 y1
    · rw [if_neg g] at ho
      exact no ho
  rw [if_neg k2] at ho
  by_cases k4 : kd = 4
  · rw [if_pos k4] at ho
    by_cases g : noneB sz st = true ∧ bareB ou mu sh W B = true ∧ rng ze (-128) 127 = true
    · rw [if_pos g] at ho
      simp only [Prod.mk.injEq, and_true] at ho
      obtain ⟨rfl, rfl, rfl⟩ := ho
      subst k4
      obtain ⟨hN, rfl⟩ := nat_of (show 0 ≤ h by omega)
      obtain ⟨wN, rfl⟩ := nat_of (show 0 ≤ w by omega)
      obtain ⟨cN, rfl⟩ := nat_of (show 0 ≤ c by omega)
      exact ⟨by omega, by omega, by omega, fun p q o hp hq ho => item_relu ht (by omega) (by omega) (by omega) (by omega) (by omega) (by omega)⟩
    · rw [if_neg g] at ho
      exact no ho
  rw [if_neg k4] at ho
  by_cases k5 : kd = 5
  · rw [if_pos k5] at ho
    by_cases g : noneB sz st = true ∧ bareB ou mu sh W B = true ∧ ze = 0 ∧ h * w * c ≤ 8
    · rw [if_pos g] at ho
      simp only [Prod.mk.injEq, and_true] at ho
      obtain ⟨rfl, rfl, rfl⟩ := ho
      subst k5
      exact ⟨by omega, by omega, by omega, fun p q o hp hq ho => item_flat (by omega)⟩
    · rw [if_neg g] at ho
      exact no ho
  rw [if_neg k5] at ho
  exact no ho


def chanL (V : Nat → Nat → Nat → Int) (p q : Nat) : Nat → Nat → List Int
  | 0, _ => []
  | n + 1, o => V p q o :: chanL V p q n (o + 1)
def colL (V : Nat → Nat → Nat → Int) (C p : Nat) : Nat → Nat → List Int
  | 0, _ => []
  | n + 1, q => chanL V p q C 0 ++ colL V C p n (q + 1)
def rowL (V : Nat → Nat → Nat → Int) (C Wd : Nat) : Nat → Nat → List Int
  | 0, _ => []
  | n + 1, p => colL V C p Wd 0 ++ rowL V C Wd n (p + 1)
theorem chanL_len (V : Nat → Nat → Nat → Int) (p q : Nat) : ∀ (n o : Nat), (chanL V p q n o).length = n
  | 0, _ => rfl
  | n + 1, o => by simp [chanL, chanL_len V p q n]
theorem colL_len (V : Nat → Nat → Nat → Int) (C p : Nat) : ∀ (n q : Nat), (colL V C p n q).length = n * C
  | 0, _ => by simp [colL]
  | n + 1, q => by rw [colL, List.length_append, chanL_len, colL_len V C p n, Nat.add_mul]; omega
theorem rowL_len (V : Nat → Nat → Nat → Int) (C Wd : Nat) : ∀ (n p : Nat), (rowL V C Wd n p).length = n * (Wd * C)
  | 0, _ => by simp [rowL]
  | n + 1, p => by rw [rowL, List.length_append, colL_len, rowL_len V C Wd n, Nat.add_mul]; omega
theorem spec_run_l2 {h w c kd ou sz st mu sh ze : Int} {d W B : List Int} {H Wd C : Nat} {V : Nat → Nat → Nat → Int} (hC : C ≤ 8) {p q : Nat} (hq : q ≤ 8) (hV : ∀ o : Nat, o < C → Evp fun k => spec_l03Item.f k h w c d kd ou sz st mu sh ze W B (p : Int) (q : Int) (o : Int) = some (V p q o)) (r : Int × Int × Int × List Int × Bool) : ∀ (n o : Nat) (acc : List Int), o + n = C → acc.length ≤ 1000000 + o → (Evp fun k => spec_RunLayer.l1 k (p : Int) ((q + 1 : Nat) : Int) h w c d kd ou sz st mu sh ze W B (H : Int) (Wd : Int) (C : Int) (H : Int) (Wd : Int) (C : Int) (acc ++ chanL V p q n o) = some r) → Evp fun k => spec_RunLayer.l2 k (p : Int) (q : Int) (o : Int) h w c d kd ou sz st mu sh ze W B (H : Int) (Wd : Int) (C : Int) (H : Int) (Wd : Int) (C : Int) acc = some r
  | 0, o, acc, hm, ha, hk => evSuc (evMono hk fun k e => by
    simp only [spec_RunLayer.l2]
    refine ite_no (by omega) ?_
    rw [w64' (x := (q : Int) + 1) (by omega) (by omega), show (q : Int) + 1 = ((q + 1 : Nat) : Int) by omega]
    simpa [chanL] using e)
  | n + 1, o, acc, hm, ha, hk => evSuc (evMono (evAnd (hV o (by omega)) (spec_run_l2 (H := H) (Wd := Wd) hC hq hV r n (o + 1) (acc ++ [V p q o]) (by omega) (by simp; omega) (by rw [chanL, List.append_cons] at hk; exact hk))) fun k ⟨e1, e2⟩ => by
    simp only [spec_RunLayer.l2]
    refine ite_yes (by omega) (bind_of e1 (ite_yes (by omega) ?_))
    rw [w64' (x := (o : Int) + 1) (by omega) (by omega)]
    exact e2)
theorem spec_run_l1 {h w c kd ou sz st mu sh ze : Int} {d W B : List Int} {H Wd C : Nat} {V : Nat → Nat → Nat → Int} (hC : C ≤ 8) (hWd : Wd ≤ 8) {p : Nat} (hp : p ≤ 8) (hV : ∀ q o : Nat, q < Wd → o < C → Evp fun k => spec_l03Item.f k h w c d kd ou sz st mu sh ze W B (p : Int) (q : Int) (o : Int) = some (V p q o)) (r : Int × Int × Int × List Int × Bool) : ∀ (n q : Nat) (acc : List Int), q + n = Wd → acc.length ≤ 10000 + 8 * q → (Evp fun k => spec_RunLayer.l0 k ((p + 1 : Nat) : Int) h w c d kd ou sz st mu sh ze W B (H : Int) (Wd : Int) (C : Int) (H : Int) (Wd : Int) (C : Int) (acc ++ colL V C p n q) = some r) → Evp fun k => spec_RunLayer.l1 k (p : Int) (q : Int) h w c d kd ou sz st mu sh ze W B (H : Int) (Wd : Int) (C : Int) (H : Int) (Wd : Int) (C : Int) acc = some r
  | 0, q, acc, hm, ha, hk => evSuc (evMono hk fun k e => by
    simp only [spec_RunLayer.l1]
    refine ite_no (by omega) ?_
    rw [w64' (x := (p : Int) + 1) (by omega) (by omega), show (p : Int) + 1 = ((p + 1 : Nat) : Int) by omega]
    simpa [colL] using e)
  | n + 1, q, acc, hm, ha, hk => evSuc (evMono (spec_run_l2 (H := H) (Wd := Wd) hC (show q ≤ 8 by omega) (fun o ho => hV q o (by omega) ho) r C 0 acc (by omega) (by omega) (spec_run_l1 hC hWd hp hV r n (q + 1) (acc ++ chanL V p q C 0) (by omega) (by rw [List.length_append, chanL_len]; omega) (by rw [colL, ← List.append_assoc] at hk; exact hk))) fun k e => by
    simp only [spec_RunLayer.l1]
    exact ite_yes (by omega) e)
theorem spec_run_l0 {h w c kd ou sz st mu sh ze : Int} {d W B : List Int} {H Wd C : Nat} {V : Nat → Nat → Nat → Int} (hC : C ≤ 8) (hWd : Wd ≤ 8) (hH : H ≤ 8) (hV : ∀ p q o : Nat, p < H → q < Wd → o < C → Evp fun k => spec_l03Item.f k h w c d kd ou sz st mu sh ze W B (p : Int) (q : Int) (o : Int) = some (V p q o)) : ∀ (n p : Nat) (acc : List Int), p + n = H → acc.length ≤ 1000 + 64 * p → Evp fun k => spec_RunLayer.l0 k (p : Int) h w c d kd ou sz st mu sh ze W B (H : Int) (Wd : Int) (C : Int) (H : Int) (Wd : Int) (C : Int) acc = some ((H : Int), (Wd : Int), (C : Int), acc ++ rowL V C Wd n p, true)
  | 0, p, acc, hm, ha => evSuc (evAll fun k => by
    simp only [spec_RunLayer.l0]
    refine ite_no (by omega) ?_
    simp [rowL])
  | n + 1, p, acc, hm, ha => by
    have b : Wd * C ≤ 8 * 8 := Nat.mul_le_mul hWd hC
    have ih := spec_run_l0 hC hWd hH hV n (p + 1) (acc ++ colL V C p Wd 0) (by omega) (by rw [List.length_append, colL_len]; omega)
    rw [rowL, ← List.append_assoc]
    refine evSuc (evMono (spec_run_l1 hC hWd (show p ≤ 8 by omega) (fun q o hq ho => hV p q o (by omega) hq ho) _ Wd 0 acc (by omega) (by omega) ih) fun k e => ?_)
    simp only [spec_RunLayer.l0]
    exact ite_yes (by omega) e
theorem impl_run_l2 {h w c kd ou sz st mu sh ze : Int} {d W B : List Int} {H Wd C : Nat} {V : Nat → Nat → Nat → Int} (hC : C ≤ 8) {p q : Nat} (hq : q ≤ 8) (hV : ∀ o : Nat, o < C → Evp fun k => impl_Layer_item.f k kd ou sz st mu sh ze W B h w c d (p : Int) (q : Int) (o : Int) = some (V p q o)) (r : Int × Int × Int × List Int × Bool) : ∀ (n o : Nat) (acc : List Int), o + n = C → acc.length ≤ 1000000 + o → (Evp fun k => impl_RunLayer.l1 k (p : Int) (H : Int) (p : Int) (Wd : Int) ((q + 1 : Nat) : Int) h w c d kd ou sz st mu sh ze W B (H : Int) (Wd : Int) (C : Int) (H : Int) (Wd : Int) (C : Int) (acc ++ chanL V p q n o) = some r) → Evp fun k => impl_RunLayer.l2 k (p : Int) (q : Int) (H : Int) (p : Int) (Wd : Int) (q : Int) (C : Int) (o : Int) h w c d kd ou sz st mu sh ze W B (H : Int) (Wd : Int) (C : Int) (H : Int) (Wd : Int) (C : Int) acc = some r
  | 0, o, acc, hm, ha, hk => evSuc (evMono hk fun k e => by
    simp only [impl_RunLayer.l2]
    refine ite_no (by omega) ?_
    rw [w64' (x := (q : Int) + 1) (by omega) (by omega), show (q : Int) + 1 = ((q + 1 : Nat) : Int) by omega]
    simpa [chanL] using e)
  | n + 1, o, acc, hm, ha, hk => evSuc (evMono (evAnd (hV o (by omega)) (impl_run_l2 (H := H) (Wd := Wd) hC hq hV r n (o + 1) (acc ++ [V p q o]) (by omega) (by simp; omega) (by rw [chanL, List.append_cons] at hk; exact hk))) fun k ⟨e1, e2⟩ => by
    simp only [impl_RunLayer.l2]
    refine ite_yes (by omega) (bind_of e1 (ite_yes (by omega) ?_))
    rw [w64' (x := (o : Int) + 1) (by omega) (by omega)]
    exact e2)
theorem impl_run_l1 {h w c kd ou sz st mu sh ze : Int} {d W B : List Int} {H Wd C : Nat} {V : Nat → Nat → Nat → Int} (hC : C ≤ 8) (hWd : Wd ≤ 8) {p : Nat} (hp : p ≤ 8) (hV : ∀ q o : Nat, q < Wd → o < C → Evp fun k => impl_Layer_item.f k kd ou sz st mu sh ze W B h w c d (p : Int) (q : Int) (o : Int) = some (V p q o)) (r : Int × Int × Int × List Int × Bool) : ∀ (n q : Nat) (acc : List Int), q + n = Wd → acc.length ≤ 10000 + 8 * q → (Evp fun k => impl_RunLayer.l0 k (H : Int) ((p + 1 : Nat) : Int) h w c d kd ou sz st mu sh ze W B (H : Int) (Wd : Int) (C : Int) (H : Int) (Wd : Int) (C : Int) (acc ++ colL V C p n q) = some r) → Evp fun k => impl_RunLayer.l1 k (p : Int) (H : Int) (p : Int) (Wd : Int) (q : Int) h w c d kd ou sz st mu sh ze W B (H : Int) (Wd : Int) (C : Int) (H : Int) (Wd : Int) (C : Int) acc = some r
  | 0, q, acc, hm, ha, hk => evSuc (evMono hk fun k e => by
    simp only [impl_RunLayer.l1]
    refine ite_no (by omega) ?_
    rw [w64' (x := (p : Int) + 1) (by omega) (by omega), show (p : Int) + 1 = ((p + 1 : Nat) : Int) by omega]
    simpa [colL] using e)
  | n + 1, q, acc, hm, ha, hk => evSuc (evMono (impl_run_l2 (H := H) (Wd := Wd) hC (show q ≤ 8 by omega) (fun o ho => hV q o (by omega) ho) r C 0 acc (by omega) (by omega) (impl_run_l1 hC hWd hp hV r n (q + 1) (acc ++ chanL V p q C 0) (by omega) (by rw [List.length_append, chanL_len]; omega) (by rw [colL, ← List.append_assoc] at hk; exact hk))) fun k e => by
    simp only [impl_RunLayer.l1]
    exact ite_yes (by omega) e)
theorem impl_run_l0 {h w c kd ou sz st mu sh ze : Int} {d W B : List Int} {H Wd C : Nat} {V : Nat → Nat → Nat → Int} (hC : C ≤ 8) (hWd : Wd ≤ 8) (hH : H ≤ 8) (hV : ∀ p q o : Nat, p < H → q < Wd → o < C → Evp fun k => impl_Layer_item.f k kd ou sz st mu sh ze W B h w c d (p : Int) (q : Int) (o : Int) = some (V p q o)) : ∀ (n p : Nat) (acc : List Int), p + n = H → acc.length ≤ 1000 + 64 * p → Evp fun k => impl_RunLayer.l0 k (H : Int) (p : Int) h w c d kd ou sz st mu sh ze W B (H : Int) (Wd : Int) (C : Int) (H : Int) (Wd : Int) (C : Int) acc = some ((H : Int), (Wd : Int), (C : Int), acc ++ rowL V C Wd n p, true)
  | 0, p, acc, hm, ha => evSuc (evAll fun k => by
    simp only [impl_RunLayer.l0]
    refine ite_no (by omega) ?_
    simp [rowL])
  | n + 1, p, acc, hm, ha => by
    have b : Wd * C ≤ 8 * 8 := Nat.mul_le_mul hWd hC
    have ih := impl_run_l0 hC hWd hH hV n (p + 1) (acc ++ colL V C p Wd 0) (by omega) (by rw [List.length_append, colL_len]; omega)
    rw [rowL, ← List.append_assoc]
    refine evSuc (evMono (impl_run_l1 hC hWd (show p ≤ 8 by omega) (fun q o hq ho => hV p q o (by omega) hq ho) _ Wd 0 acc (by omega) (by omega) ih) fun k e => ?_)
    simp only [impl_RunLayer.l0]
    exact ite_yes (by omega) e
theorem RunLayer_ok (h w c kd ou sz st mu sh ze : Int) (d W B : List Int) (hdl : d.length ≤ 9223372036854775807) (hW : (W.length : Int) ≤ 9223372036854775807) (hB : (B.length : Int) ≤ 9223372036854775807) : ∃ (a b e : Int) (D : List Int) (ok : Bool), D.length ≤ 512 ∧ (Evp fun k => spec_RunLayer.f k h w c d kd ou sz st mu sh ze W B = some (a, b, e, D, ok)) ∧ Evp fun k => impl_RunLayer.f k h w c d kd ou sz st mu sh ze W B = some (a, b, e, D, ok) := by
  have s1 := spec_TensorOk_ev h w c d hdl
  have i1 := impl_TensorOk_ev h w c d hdl
  have s2 := spec_OutShape_ev h w c kd ou sz st mu sh ze W B hW hB
  have i2 := impl_OutShape_ev h w c kd ou sz st mu sh ze W B hW hB
  have jt : ∀ a b e, Evp fun k => impl_RunLayer.j0 k true h w c d kd ou sz st mu sh ze W B a b e = some (0, 0, 0, [], false) := fun a b e => evSuc (evAll fun k => by
    simp only [impl_RunLayer.j0]
    exact ite_yes trivial rfl)
  cases ht : tensorOk h w c d with
  | false =>
    rw [ht] at s1 i1
    refine ⟨0, 0, 0, [], false, by simp, evMono s1 fun k e => bind_of e (ite_no Bool.false_ne_true rfl), evMono (evAnd i2 (evAnd i1 (jt (outShape h w c kd ou sz st mu sh ze W B).1 (outShape h w c kd ou sz st mu sh ze W B).2.1 (outShape h w c kd ou sz st mu sh ze W B).2.2.1))) fun k ⟨a, b, e⟩ => bind_of a ?_⟩
    by_cases hk : (outShape h w c kd ou sz st mu sh ze W B).2.2.2 = true
    · exact ite_yes hk (bind_of b e)
    · exact ite_no hk e
  | true =>
    rw [ht] at s1 i1
    have key := fun {H Wd C : Int} => item_ok (kd := kd) (ou := ou) (sz := sz) (st := st) (mu := mu) (sh := sh) (ze := ze) (W := W) (B := B) (H := H) (Wd := Wd) (C := C) ht
    generalize outShape h w c kd ou sz st mu sh ze W B = O at s2 i2 key
    obtain ⟨H, Wd, C, ok⟩ := O
    cases ok with
    | false => exact ⟨0, 0, 0, [], false, by simp, evMono (evAnd s1 s2) fun k ⟨a, b⟩ => bind_of a (ite_yes rfl (bind_of b (ite_no Bool.false_ne_true rfl))), evMono (evAnd i2 (jt H Wd C)) fun k ⟨a, b⟩ => bind_of a (ite_no Bool.false_ne_true b)⟩
    | true =>
      obtain ⟨bH, bW, bC, hV⟩ := key rfl
      obtain ⟨H, rfl⟩ := nat_of bH.1
      obtain ⟨Wd, rfl⟩ := nat_of bW.1
      obtain ⟨C, rfl⟩ := nat_of bC.1
      have hV' : ∀ p q o : Nat, ∃ v, p < H → q < Wd → o < C → (Evp fun k => spec_l03Item.f k h w c d kd ou sz st mu sh ze W B (p : Int) (q : Int) (o : Int) = some v) ∧ Evp fun k => impl_Layer_item.f k kd ou sz st mu sh ze W B h w c d (p : Int) (q : Int) (o : Int) = some v := fun p q o => by
        by_cases g : p < H ∧ q < Wd ∧ o < C
        · obtain ⟨v, g1⟩ := hV p q o (by omega) (by omega) (by omega)
          exact ⟨v, fun _ _ _ => g1⟩
        · exact ⟨0, fun a b e => absurd ⟨a, b, e⟩ g⟩
      obtain ⟨V, hV2⟩ : ∃ V : Nat → Nat → Nat → Int, ∀ p q o, p < H → q < Wd → o < C → (Evp fun k => spec_l03Item.f k h w c d kd ou sz st mu sh ze W B (p : Int) (q : Int) (o : Int) = some (V p q o)) ∧ Evp fun k => impl_Layer_item.f k kd ou sz st mu sh ze W B h w c d (p : Int) (q : Int) (o : Int) = some (V p q o) := ⟨fun p q o => Classical.choose (hV' p q o), fun p q o => Classical.choose_spec (hV' p q o)⟩
      have s3 := spec_run_l0 (show C ≤ 8 by omega) (show Wd ≤ 8 by omega) (show H ≤ 8 by omega) (fun p q o a b e => (hV2 p q o a b e).1) H 0 [] (by omega) (by simp)
      have i3 := impl_run_l0 (show C ≤ 8 by omega) (show Wd ≤ 8 by omega) (show H ≤ 8 by omega) (fun p q o a b e => (hV2 p q o a b e).2) H 0 [] (by omega) (by simp)
      have b1 : Wd * C ≤ 8 * 8 := Nat.mul_le_mul (by omega) (by omega)
      have b2 : H * (Wd * C) ≤ 8 * (8 * 8) := Nat.mul_le_mul (by omega) b1
      refine ⟨(H : Int), (Wd : Int), (C : Int), rowL V C Wd H 0, true, by rw [rowL_len]; omega, evMono (evAnd s1 (evAnd s2 s3)) fun k ⟨a, b, e⟩ => bind_of a (ite_yes rfl (bind_of b (ite_yes rfl e))), evMono (evAnd i2 (evAnd i1 (evSuc (p := fun k => impl_RunLayer.j0 k false h w c d kd ou sz st mu sh ze W B (H : Int) (Wd : Int) (C : Int) = some ((H : Int), (Wd : Int), (C : Int), rowL V C Wd H 0, true)) (evMono i3 fun k e => by
        simp only [impl_RunLayer.j0]
        exact ite_no Bool.false_ne_true e)))) fun k ⟨a, b, e⟩ => bind_of a (ite_yes rfl (bind_of b e))⟩


theorem spec_l01Copy_l0 (l : List Int) (hl : l.length ≤ 1000000000) : ∀ (d i : Nat) (o : List Int), i + d = l.length → o.length + d ≤ 1000000000 → Evp fun k => spec_l01Copy.l0 k l o (i : Int) = some (o ++ l.drop i)
  | 0, i, o, hi, ho => evSuc (evAll fun k => by
    simp only [spec_l01Copy.l0]
    rw [if_neg (by omega), List.drop_eq_nil_of_le (by omega), List.append_nil])
  | d + 1, i, o, hi, ho => by
    have hlt : i < l.length := by omega
    have ih := spec_l01Copy_l0 l hl d (i + 1) (o ++ [l[i]]) (by omega) (by simp; omega)
    rw [List.append_assoc, List.singleton_append, ← drop_at hlt] at ih
    refine evSuc (evMono ih fun k e => ?_)
    simp only [spec_l01Copy.l0]
    refine ite_yes (by omega) (ite_yes (by omega) (ite_yes (by omega) ?_))
    rw [rd_eq hlt, w64' (x := (i : Int) + 1) (by omega) (by omega)]
    exact e
theorem spec_l01Copy_ev (l : List Int) (hl : l.length ≤ 1000000000) : Evp fun k => spec_l01Copy.f k l = some l := spec_l01Copy_l0 l hl l.length 0 [] (by omega) (by simp; omega)


theorem Eval_loops (l : List S37) (hl : ∀ x ∈ l, smallL x) (hn : 1 ≤ l.length ∧ l.length ≤ 6) (m0 m1 m2 : Int) : ∀ (d i : Nat) (h w c : Int) (D : List Int), i + d = l.length → (D.length : Int) ≤ 1048576 → ∃ (a b e : Int) (E : List Int), (E.length : Int) ≤ 1048576 ∧ (Evp fun k => spec_EvalModel.l0 k (i : Int) m0 m1 m2 l h w c D = some (a, b, e, E, true)) ∧ Evp fun k => impl_EvalModel.l0 k l (l.length : Int) (i : Int) h w c D = some (a, b, e, E, true)
  | 0, i, h, w, c, D, hi, hD => ⟨h, w, c, D, hD, evSuc (evAll fun k => by
    simp only [spec_EvalModel.l0]
    exact ite_no (by omega) rfl), evSuc (evAll fun k => by
    simp only [impl_EvalModel.l0]
    exact ite_no (by omega) (ite_yes (by omega) rfl))⟩
  | d + 1, i, h, w, c, D, hi, hD => by
    have hlt : i < l.length := by omega
    have hr : rd_T37 l (i : Int) = l[i] := rdImp_eq hlt
    have hsx := hl l[i] (List.getElem_mem hlt)
    generalize l[i] = x at hr hsx
    unfold smallL at hsx
    obtain ⟨a, b, e, E, ok, hE, s, p⟩ := RunLayer_ok h w c x.f0 x.f1 x.f2 x.f3 x.f4 x.f5 x.f6 D x.f7 x.f8 (by omega) (by omega) (by omega)
    obtain ⟨a', b', e', E', hE', s', p'⟩ := Eval_loops l hl hn m0 m1 m2 d (i + 1) a b e E (by omega) (by omega)
    refine ⟨a', b', e', E', hE', evSuc (evMono (evAnd s s') fun k ⟨g1, g2⟩ => ?_), evSuc (evMono (evAnd p p') fun k ⟨g1, g2⟩ => ?_)⟩
    · simp only [spec_EvalModel.l0]
      rw [hr, w64' (x := (i : Int) + 1) (by omega) (by omega)]
      exact ite_yes (by omega) (ite_yes (by omega) (bind_of g1 g2))
    · simp only [impl_EvalModel.l0]
      rw [hr, w64' (x := (i : Int) + 1) (by omega) (by omega)]
      exact ite_yes (by omega) (ite_yes (by omega) (ite_yes (by omega) (bind_of g1 g2)))
theorem model_n {s : S31} {l : List S37} (h : (modelShapes s l).2 = true) : 1 ≤ l.length ∧ l.length ≤ 6 := by
  unfold modelShapes at h
  by_cases g : 1 ≤ (l.length : Int) ∧ (l.length : Int) ≤ 6
  · omega
  · rw [if_neg g] at h
    cases h
theorem EvalModel_ok (s : S31) (l : List S37) (hl : smallI l) (h w c : Int) (D : List Int) (hD : (D.length : Int) ≤ 1048576) : ∃ (a b e : Int) (E : List Int) (ok : Bool), (E.length : Int) ≤ 1048576 ∧ (Evp fun k => spec_EvalModel.f k s.f0 s.f1 s.f2 l h w c D = some (a, b, e, E, ok)) ∧ Evp fun k => impl_EvalModel.f k s.f0 s.f1 s.f2 l h w c D = some (a, b, e, E, ok) := by
  have e1 := spec_ModelOk_ev s l hl
  have e2 := impl_ModelOk_ev s l hl
  have t1 := spec_TensorOk_ev h w c D (by omega)
  have t2 := impl_TensorOk_ev h w c D (by omega)
  have sj : Evp fun k => spec_EvalModel.j0 k true s.f0 s.f1 s.f2 l h w c D = some (0, 0, 0, [], false) := evSuc (evAll fun k => by
    simp only [spec_EvalModel.j0]
    exact ite_yes trivial rfl)
  have ij : Evp fun k => impl_EvalModel.j0 k true s.f0 s.f1 s.f2 l h w c D = some (0, 0, 0, [], false) := evSuc (evAll fun k => by
    simp only [impl_EvalModel.j0]
    exact ite_yes trivial rfl)
  by_cases hk : (modelShapes s l).2 = true
  · rw [hk] at e1 e2
    cases ht : tensorOk h w c D with
    | false =>
      rw [ht] at t1 t2
      exact ⟨0, 0, 0, [], false, by simp, evMono (evAnd e1 (evAnd t1 sj)) fun k ⟨a, b, g⟩ => bind_of a (ite_yes rfl (bind_of b (ite_no Bool.false_ne_true g))), evMono (evAnd e2 (evAnd t2 ij)) fun k ⟨a, b, g⟩ => bind_of a (ite_yes rfl (bind_of b (ite_no Bool.false_ne_true g)))⟩
    | true =>
      rw [ht] at t1 t2
      cases hf : (!(h == s.f0) || (!(w == s.f1) || (!(c == s.f2)))) with
      | true =>
        refine ⟨0, 0, 0, [], false, by simp, evMono (evAnd e1 (evAnd t1 sj)) fun k ⟨a, b, g⟩ => bind_of a (ite_yes rfl (bind_of b (ite_yes rfl ?_))), evMono (evAnd e2 (evAnd t2 ij)) fun k ⟨a, b, g⟩ => bind_of a (ite_yes rfl (bind_of b (ite_yes rfl ?_)))⟩
        · rw [hf]
          exact g
        · rw [hf]
          exact g
      | false =>
        obtain ⟨a, b, e, E, hE, p, q⟩ := Eval_loops l hl.2 (model_n hk) s.f0 s.f1 s.f2 l.length 0 h w c D (by omega) hD
        have cp := spec_l01Copy_ev D (by omega)
        have sj0 : Evp fun k => spec_EvalModel.j0 k false s.f0 s.f1 s.f2 l h w c D = some (a, b, e, E, true) := evSuc (evMono (evAnd cp p) fun k ⟨g1, g2⟩ => by
          simp only [spec_EvalModel.j0]
          exact ite_no Bool.false_ne_true (bind_of (bind_of g1 rfl) g2))
        have ij0 : Evp fun k => impl_EvalModel.j0 k false s.f0 s.f1 s.f2 l h w c D = some (a, b, e, E, true) := evSuc (evMono q fun k g => by
          simp only [impl_EvalModel.j0]
          exact ite_no Bool.false_ne_true g)
        refine ⟨a, b, e, E, true, hE, evMono (evAnd e1 (evAnd t1 sj0)) fun k ⟨a, b, g⟩ => bind_of a (ite_yes rfl (bind_of b (ite_yes rfl ?_))), evMono (evAnd e2 (evAnd t2 ij0)) fun k ⟨a, b, g⟩ => bind_of a (ite_yes rfl (bind_of b (ite_yes rfl ?_)))⟩
        · rw [hf]
          exact g
        · rw [hf]
          exact g
  · have hk' := Bool.eq_false_iff.2 hk
    rw [hk'] at e1 e2
    exact ⟨0, 0, 0, [], false, by simp, evMono (evAnd e1 sj) fun k ⟨a, g⟩ => bind_of a (ite_no Bool.false_ne_true g), evMono (evAnd e2 ij) fun k ⟨a, g⟩ => bind_of a (ite_no Bool.false_ne_true g)⟩


theorem FnExactEvalModel (h w c : Int) (l : List S28) (p q s : Int) (d : List Int) (hg0 : ((Lit.int .i64 h).wf = true ∧ (Lit.int .i64 w).wf = true ∧ (Lit.int .i64 c).wf = true) ∧ wfLayers l) (hg : ((Lit.int .i64 p).wf = true ∧ (Lit.int .i64 q).wf = true ∧ (Lit.int .i64 s).wf = true) ∧ (d.length ≤ maxLen ∧ ∀ x ∈ d, (Lit.int .i64 x).wf = true)) : ∃ k, laws_FnExactEvalModel.f k h w c l p q s d = some true := by
  have hl := hg0.2.1
  obtain ⟨-, hd⟩ := hg
  unfold maxLen at hl hd
  obtain ⟨r, hr1, hr2, hr⟩ := laws_szModel_tells h w c l 1048576 (by omega) (by omega) hl (fun x hx => (hg0.2.2 x hx).len)
  by_cases h0 : r < 0
  · exact evEx (evMono hr fun k hr => bind_of hr (ite_yes h0 rfl))
  have hs := hr2 (by omega)
  obtain ⟨r', hr', hr1', hr2'⟩ := laws_szTensor_tells p q s d r (by omega) hr1 hd.1
  by_cases h0' : r' < 0
  · exact evEx (evMono hr fun k hr => bind_of hr (ite_no h0 (bind_of hr' (ite_yes h0' rfl))))
  have d1 := hr2' (by omega)
  have tm := laws_toModel_ev h w c l hs
  have tt := laws_toTensor_ev p q s d d1
  have qm := laws_eqModel_self h w c (l.map conv) hs.conv
  have qt := laws_eqTensor_self p q s d d1
  obtain ⟨m, hm, hm', em2⟩ := laws_markModel_ok h w c (l.map conv) hs.conv
  have m1 := laws_markTensor_ev p q s d m (by omega) (by omega)
  obtain ⟨a, b, e, D, ok, hD, sp, im⟩ := EvalModel_ok ⟨h, w, c⟩ (l.map conv) hs.conv p q s d d1
  have qd := laws_eqTensor_self a b e D hD
  have m3 := laws_markTensor_ev a b e D 1 (by omega) (by omega)
  have hh := laws_heldTensor_ev a b e D.length 1 (by omega) (by omega)
  have hne : (ok != ok) = false := by simp
  have j2 : Evp fun k => laws_FnExactEvalModel.j2 k (1 + (D.length : Int)) false a b e (marksInt 1 D.length) = some true := evSuc (evMono hh fun k g => by
    simp only [laws_FnExactEvalModel.j2]
    exact ite_no Bool.false_ne_true (bind_of g (ite_no (by omega) (ite_yes rfl rfl))))
  have j1 : Evp fun k => laws_FnExactEvalModel.j1 k ok false h w c l p q s d a b e D a b e D = some true := evSuc (evMono (evAnd m3 (evAnd hh (evAnd tm (evAnd tt (evAnd im (evAnd qd j2)))))) fun k ⟨g1, g2, g3, g4, g5, g6, g7⟩ => by
    simp only [laws_FnExactEvalModel.j1]
    refine ite_no Bool.false_ne_true (bind_of g1 (bind_of g2 (ite_no (by omega) (ite_yes rfl (bind_of g3 (bind_of g4 (bind_of g5 (bind_of g6 (ite_yes rfl ?_)))))))))
    show laws_FnExactEvalModel.j2 k (1 + (D.length : Int)) (ok != ok) a b e (marksInt 1 D.length) = some true
    rw [hne]
    exact g7)
  have j0 : Evp fun k => laws_FnExactEvalModel.j0 k ok ok false h w c l p q s d a b e D h w c (l.map conv) p q s d a b e D = some true := evSuc (evMono (evAnd tm (evAnd qm (evAnd tt (evAnd qt (evAnd m1 (evAnd qd j1)))))) fun k ⟨g1, g2, g3, g4, g5, g6, g7⟩ => by
    simp only [laws_FnExactEvalModel.j0]
    refine ite_no Bool.false_ne_true (bind_of g1 (bind_of g2 (ite_yes rfl (bind_of g3 (bind_of g4 (ite_yes rfl (bind_of em2 (bind_of g5 (ite_no (by show ¬ (m + (d.length : Int)) < 0; omega) (bind_of g6 (ite_yes rfl ?_)))))))))))
    rw [hne]
    exact g7)
  refine evEx (evMono (evAnd hr (evAnd tm (evAnd tt (evAnd sp (evAnd im (evAnd qd j0)))))) fun k ⟨hr, g1, g2, g3, g4, g5, g6⟩ => ?_)
  refine bind_of hr (ite_no h0 (bind_of hr' (ite_no h0' (bind_of g1 (bind_of g2 (bind_of g3 (bind_of g1 (bind_of g2 (bind_of g4 (bind_of g5 (ite_yes rfl ?_)))))))))))
  show laws_FnExactEvalModel.j0 k ok ok (ok != ok) h w c l p q s d a b e D h w c (l.map conv) p q s d a b e D = some true
  rw [hne]
  exact g6

end Go.Proofs.Ytclpojeofclbjaa.Pure
