/- For every code of bytes that the law lets in: what the drawn layer gives on the drawn tensor is what the reference gives, is TensorOk and has the shape that OutShape tells; a max is never below an avg; relu twice is relu once (the law FnLayers answers true). -/
import Derived.Test.YtclpojeofclbjaaPFnLayersx0
import Derived.Test.YtclpojeofclbjaaPFnLayersx1
import Derived.Test.YtclpojeofclbjaaPFnLayersx10
import Derived.Test.YtclpojeofclbjaaPFnLayersx11
import Derived.Test.YtclpojeofclbjaaPFnLayersx12
import Derived.Test.YtclpojeofclbjaaPFnLayersx13
import Derived.Test.YtclpojeofclbjaaPFnLayersx14
import Derived.Test.YtclpojeofclbjaaPFnLayersx15
import Derived.Test.YtclpojeofclbjaaPFnLayersx16
import Derived.Test.YtclpojeofclbjaaPFnLayersx17
import Derived.Test.YtclpojeofclbjaaPFnLayersx18
import Derived.Test.YtclpojeofclbjaaPFnLayersx19
import Derived.Test.YtclpojeofclbjaaPFnLayersx2
import Derived.Test.YtclpojeofclbjaaPFnLayersx20
import Derived.Test.YtclpojeofclbjaaPFnLayersx21
import Derived.Test.YtclpojeofclbjaaPFnLayersx22
import Derived.Test.YtclpojeofclbjaaPFnLayersx23
import Derived.Test.YtclpojeofclbjaaPFnLayersx24
import Derived.Test.YtclpojeofclbjaaPFnLayersx25
import Derived.Test.YtclpojeofclbjaaPFnLayersx3
import Derived.Test.YtclpojeofclbjaaPFnLayersx4
import Derived.Test.YtclpojeofclbjaaPFnLayersx5
import Derived.Test.YtclpojeofclbjaaPFnLayersx6
import Derived.Test.YtclpojeofclbjaaPFnLayersx7
import Derived.Test.YtclpojeofclbjaaPFnLayersx8
import Derived.Test.YtclpojeofclbjaaPFnLayersx9
namespace Go.Proofs.Ytclpojeofclbjaa.Pure
open Go.RowKit Go.Proofs.Ytclpojeofclbjaa.PFnLayers Go.Proofs.YtclpojeofclbjaaW.PrintWords Go.Proofs.YtclpojeofclbjaaW.PrintLast Go.Proofs.YtclpojeofclbjaaW.PrintMore
set_option linter.unusedVariables false
set_option linter.unusedSimpArgs false

/-! #### rounds -/
def Evp (p : Nat → Prop) : Prop := ∃ K, ∀ k, K ≤ k → p k
theorem evAnd {p q : Nat → Prop} (h : Evp p) (g : Evp q) : Evp (fun k => p k ∧ q k) := by
  obtain ⟨K, hK⟩ := h
  obtain ⟨L, hL⟩ := g
  exact ⟨max K L, fun k hk => ⟨hK k (by omega), hL k (by omega)⟩⟩
theorem evMono {p q : Nat → Prop} (h : Evp p) (g : ∀ k, p k → q k) : Evp q := by
  obtain ⟨K, hK⟩ := h
  exact ⟨K, fun k hk => g k (hK k hk)⟩
theorem evSuc {p : Nat → Prop} (h : Evp fun k => p (k + 1)) : Evp p := by
  obtain ⟨K, hK⟩ := h
  refine ⟨K + 1, fun k hk => ?_⟩
  obtain ⟨m, rfl⟩ : ∃ m, k = m + 1 := ⟨k - 1, by omega⟩
  exact hK m (by omega)
theorem evAll {p : Nat → Prop} (h : ∀ k, p k) : Evp p := ⟨0, fun k _ => h k⟩
theorem evEx {p : Nat → Prop} (h : Evp p) : ∃ k, p k := by
  obtain ⟨K, hK⟩ := h
  exact ⟨K, hK K (Nat.le_refl _)⟩
theorem evEq {α : Type} {g : Nat → Option α} {r r' : α} (h : Evp fun k => g k = some r) (e : r = r') : Evp fun k => g k = some r' := e ▸ h

/-- One step of a chain. -/
theorem bind_of {α β : Type} {o : Option α} {f : α → Option β} {a : α} {r : Option β} (h : o = some a) (hf : f a = r) : o.bind f = r := by rw [h]; exact hf
theorem ite_yes {α : Type} {c : Prop} [Decidable c] {x y r : α} (h : c) (hx : x = r) : (if c then x else y) = r := by rw [if_pos h]; exact hx
theorem ite_no {α : Type} {c : Prop} [Decidable c] {x y r : α} (h : ¬ c) (hy : y = r) : (if c then x else y) = r := by rw [if_neg h]; exact hy

/-! #### whole numbers -/
def i64 (x : Int) : Prop := -9223372036854775808 ≤ x ∧ x ≤ 9223372036854775807
theorem w64 {x : Int} (h : i64 x) : wrap64 x = x := by
  unfold i64 at h
  unfold wrap64
  omega
theorem w64' {x : Int} (h0 : -9223372036854775808 ≤ x) (h1 : x ≤ 9223372036854775807) : wrap64 x = x := w64 ⟨h0, h1⟩
theorem tdiv_pos {a b : Int} (h : 0 ≤ a) : Int.tdiv a b = a / b := Int.tdiv_eq_ediv_of_nonneg h
theorem tmod_pos {a b : Int} (h : 0 ≤ a) : Int.tmod a b = a % b := Int.tmod_eq_emod_of_nonneg h
theorem bnd_mul {a b A B : Int} (ha : -A ≤ a) (ha' : a ≤ A) (hb : -B ≤ b) (hb' : b ≤ B) : -(A * B) ≤ a * b ∧ a * b ≤ A * B := by
  have hA : 0 ≤ A := by omega
  have hB : 0 ≤ B := by omega
  have h1 : (a * b).natAbs ≤ (A * B).natAbs := by
    rw [Int.natAbs_mul, Int.natAbs_mul]
    exact Nat.mul_le_mul (by omega) (by omega)
  have h2 : 0 ≤ A * B := Int.mul_nonneg hA hB
  omega

/-! #### lists -/
theorem rd_eq {l : List Int} {i : Nat} (h : i < l.length) : rd l (i : Int) = l[i] := by
  unfold rd
  simp [List.getD, h]
theorem rd_nat (l : List Int) (i : Nat) : rd l (i : Int) = l.getD i 0 := by
  unfold rd
  simp
theorem nat_of {i : Int} (h : 0 ≤ i) : ∃ n : Nat, i = n := ⟨i.toNat, by omega⟩
theorem u64_small {x : Int} (h0 : 0 ≤ x) (h1 : x < 18446744073709551616) : IntKind.u64.wrap x = x := by
  unfold IntKind.wrap
  simp [IntKind.bits, IntKind.signed]
  omega
theorem i64wrap (x : Int) : IntKind.i64.wrap x = wrap64 x := by
  unfold IntKind.wrap wrap64
  simp [IntKind.bits, IntKind.signed]
  split <;> omega
theorem shl_eq {x : Int} {n : Nat} (hn : n ≤ 62) : shl .i64 x (n : Int) = wrap64 (x * 2 ^ n) := by
  unfold shl
  rw [i64wrap]
  congr 3
  simp [IntKind.bits]
  omega
theorem two_pow_le {n m : Nat} (h : n ≤ m) : (1 : Int) ≤ 2 ^ n ∧ (2 : Int) ^ n ≤ 2 ^ m := by
  have h1 : (1 : Nat) ≤ 2 ^ n := Nat.one_le_two_pow
  have h2 : (2 : Nat) ^ n ≤ 2 ^ m := Nat.pow_le_pow_right (by omega) h
  exact ⟨by exact_mod_cast h1, by exact_mod_cast h2⟩

/-! #### arithmetic with rounding, in plain Lean -/
def clampTo (x lo hi : Int) : Int := if x < lo then lo else if lo > hi then lo else if x > hi then hi else x
def sat32 (x : Int) : Int := if x < -2147483648 then -2147483648 else if x > 2147483647 then 2147483647 else x
def sat8 (x : Int) : Int := if x < -128 then -128 else if x > 127 then 127 else x
def cutTo (x lo hi : Int) : Int := if x > hi then hi else if x < lo then lo else x
theorem sat32_b (x : Int) : -2147483648 ≤ sat32 x ∧ sat32 x ≤ 2147483647 := by unfold sat32; split <;> (try split) <;> omega
theorem sat8_b (x : Int) : -128 ≤ sat8 x ∧ sat8 x ≤ 127 := by unfold sat8; split <;> (try split) <;> omega
theorem sat8_id {x : Int} (h0 : -128 ≤ x) (h1 : x ≤ 127) : sat8 x = x := by unfold sat8; rw [if_neg (by omega), if_neg (by omega)]
theorem clamp_sat32 (x : Int) : clampTo x (-2147483648) 2147483647 = sat32 x := by unfold clampTo sat32; rw [if_neg (show ¬ ((-2147483648 : Int) > 2147483647) by decide)]
theorem clamp_sat8 (x : Int) : clampTo x (-128) 127 = sat8 x := by unfold clampTo sat8; rw [if_neg (show ¬ ((-128 : Int) > 127) by decide)]
theorem mxn_sat32 (x : Int) : mx (-2147483648) (mn x 2147483647) = sat32 x := by unfold mx mn sat32; repeat' split <;> omega
theorem mxn_sat8 (x : Int) : mx (-128) (mn x 127) = sat8 x := by unfold mx mn sat8; repeat' split <;> omega
def addSat (a b : Int) : Int := sat32 (sat32 a + sat32 b)
theorem addSat_w (a b : Int) : wrap64 (sat32 a + sat32 b) = sat32 a + sat32 b := by
  have := sat32_b a
  have := sat32_b b
  exact w64' (by omega) (by omega)
def mulHigh (a b : Int) : Int := sat32 ((sat32 a * sat32 b + 1073741824) / 2147483648)
theorem sat32_mul (a b : Int) : -4611686018427387904 ≤ sat32 a * sat32 b ∧ sat32 a * sat32 b ≤ 4611686018427387904 := by
  have h1 := sat32_b a
  have h2 := sat32_b b
  have := bnd_mul (a := sat32 a) (b := sat32 b) (A := 2147483648) (B := 2147483648) (by omega) (by omega) (by omega) (by omega)
  omega
theorem mulHigh_w (a b : Int) : wrap64 (wrap64 (sat32 a * sat32 b) + 1073741824) = sat32 a * sat32 b + 1073741824 := by
  have := sat32_mul a b
  simp (disch := omega) only [w64']
def pow31 (n : Int) : Int := 2 ^ (cutTo n 0 31).toNat
theorem cut_b (n : Int) : 0 ≤ cutTo n 0 31 ∧ cutTo n 0 31 ≤ 31 := by unfold cutTo; repeat' split <;> omega
theorem clamp_cut (n : Int) : clampTo n 0 31 = cutTo n 0 31 := by unfold clampTo cutTo; repeat' split <;> omega
theorem mxn_cut (n : Int) : mx 0 (mn n 31) = cutTo n 0 31 := by unfold mx mn cutTo; repeat' split <;> omega
theorem pow31_b (n : Int) : 1 ≤ pow31 n ∧ pow31 n ≤ 2147483648 := by
  have := cut_b n
  have h := two_pow_le (n := (cutTo n 0 31).toNat) (m := 31) (by omega)
  exact h
theorem shl_pow31 (n : Int) : shl .i64 1 (cutTo n 0 31) = pow31 n := by
  have h := cut_b n
  have hp := pow31_b n
  obtain ⟨m, hm⟩ := nat_of h.1
  unfold pow31 at hp ⊢
  rw [hm] at h hp ⊢
  rw [shl_eq (by omega), Int.one_mul]
  simp only [Int.toNat_natCast] at hp ⊢
  exact w64' (by omega) (by omega)
/-- A quotient rounded to the nearest, two as near away from 0. -/
def rnd (x by_ : Int) : Int := if x < 0 then -((-2 * x + by_) / (2 * by_)) else (2 * x + by_) / (2 * by_)
def roundShift (x n : Int) : Int := rnd (sat32 x) (pow31 n)
theorem pow31_half (n : Int) : pow31 n = 1 ∨ ∃ e, 1 ≤ e ∧ pow31 n = 2 * e := by
  unfold pow31
  rcases h : (cutTo n 0 31).toNat with _ | m
  · exact .inl rfl
  · exact .inr ⟨2 ^ m, (two_pow_le (Nat.le_refl m)).1, by rw [Int.pow_succ]; omega⟩
/-- Rounding by halves, told with the half of the divisor. -/
theorem half_eq (v n : Int) : (v + pow31 n / 2) / pow31 n = (2 * v + pow31 n) / (2 * pow31 n) := by
  rcases pow31_half n with h | ⟨e, he, h⟩
  · rw [h]; omega
  · rw [h]
    rw [show 2 * e / 2 = e by omega, show 2 * v + 2 * e = 2 * (v + e) by omega, Int.mul_ediv_mul_of_pos _ _ (by omega)]
theorem rnd_b (x by_ : Int) (hb : 1 ≤ by_) (A : Int) (h0 : -A ≤ x) (h1 : x ≤ A) : -A ≤ rnd x by_ ∧ rnd x by_ ≤ A := by
  have key : ∀ y : Int, 0 ≤ y → y ≤ A → 0 ≤ (2 * y + by_) / (2 * by_) ∧ (2 * y + by_) / (2 * by_) ≤ A := by
    intro y hy hyA
    refine ⟨Int.ediv_nonneg (by omega) (by omega), ?_⟩
    have : (2 * y + by_) / (2 * by_) < A + 1 := by
      apply Int.ediv_lt_of_lt_mul (by omega)
      have h2 : A + 1 ≤ (A + 1) * by_ := by
        have := Int.mul_le_mul_of_nonneg_left hb (show 0 ≤ A + 1 by omega)
        omega
      have h3 : (A + 1) * (2 * by_) = 2 * ((A + 1) * by_) := by rw [← Int.mul_assoc, Int.mul_comm (A + 1) 2, Int.mul_assoc]
      have h4 : (A + 1) * by_ = A * by_ + by_ := by rw [Int.add_mul]; omega
      have h5 : A ≤ A * by_ := by
        have := Int.mul_le_mul_of_nonneg_left hb (show 0 ≤ A by omega)
        omega
      omega
    omega
  unfold rnd
  split
  · have := key (-x) (by omega) (by omega)
    rw [show -2 * x = 2 * -x by omega]
    omega
  · have := key x (by omega) (by omega)
    omega
theorem roundShift_b (x n : Int) : -2147483648 ≤ roundShift x n ∧ roundShift x n ≤ 2147483648 := rnd_b _ _ (pow31_b n).1 2147483648 (by have := sat32_b x; omega) (by have := sat32_b x; omega)
def requant (acc mult shift zero : Int) : Int := sat8 (roundShift (mulHigh acc mult) shift + sat8 zero)
theorem requant_w (acc mult shift zero : Int) : wrap64 (roundShift (mulHigh acc mult) shift + sat8 zero) = roundShift (mulHigh acc mult) shift + sat8 zero := by
  have := roundShift_b (mulHigh acc mult) shift
  have := sat8_b zero
  exact w64' (by omega) (by omega)
def dotGo : List Int → List Int → Int → Int
  | a :: u, b :: v, s => dotGo u v (addSat s (sat8 a * sat8 b))
  | _, _, s => s
def dotOf (a b : List Int) : Int := dotGo a b 0
theorem sat8_mul (a b : Int) : -16384 ≤ sat8 a * sat8 b ∧ sat8 a * sat8 b ≤ 16384 := by
  have h1 := sat8_b a
  have h2 := sat8_b b
  have := bnd_mul (a := sat8 a) (b := sat8 b) (A := 128) (B := 128) (by omega) (by omega) (by omega) (by omega)
  omega


theorem spec_ClampTo_ev (x lo hi : Int) : Evp fun k => spec_ClampTo.f k x lo hi = some (clampTo x lo hi) := evSuc (evAll fun k => by
  unfold spec_ClampTo.f clampTo
  by_cases h1 : x < lo
  · simp [h1, spec_ClampTo.j0]
  · by_cases h2 : lo > hi
    · simp [h1, h2, spec_ClampTo.j0]
    · by_cases h3 : x > hi <;> simp [h1, h2, h3, spec_ClampTo.j0])


theorem spec_Sat32_ev (x : Int) : Evp fun k => spec_Sat32.f k x = some (sat32 x) := evMono (spec_ClampTo_ev x (-2147483648) 2147483647) fun k h => by
  unfold spec_Sat32.f
  rw [h, clamp_sat32]
  rfl


theorem spec_Sat8_ev (x : Int) : Evp fun k => spec_Sat8.f k x = some (sat8 x) := evMono (spec_ClampTo_ev x (-128) 127) fun k h => by
  unfold spec_Sat8.f
  rw [h, clamp_sat8]
  rfl


theorem impl_Sat32_eq (x : Int) : impl_Sat32.f x = some (sat32 x) := by
  unfold impl_Sat32.f impl_cut.f
  rw [mxn_sat32]
  rfl


theorem impl_Sat8_eq (x : Int) : impl_Sat8.f x = some (sat8 x) := by
  unfold impl_Sat8.f impl_cut.f
  rw [mxn_sat8]
  rfl


theorem spec_AddSat_ev (a b : Int) : Evp fun k => spec_AddSat.f k a b = some (addSat a b) :=
  evMono (evAnd (spec_Sat32_ev a) (evAnd (spec_Sat32_ev b) (spec_Sat32_ev (sat32 a + sat32 b)))) fun k ⟨h1, h2, h3⟩ => by
    unfold spec_AddSat.f
    rw [h1, h2]
    simp only [Option.bind_some]
    rw [addSat_w, h3]
    rfl


theorem impl_AddSat_eq (a b : Int) : impl_AddSat.f a b = some (addSat a b) := by
  unfold impl_AddSat.f
  rw [impl_Sat32_eq, impl_Sat32_eq]
  simp only [Option.bind_some]
  rw [addSat_w, impl_Sat32_eq]
  rfl


theorem spec_l01Down_eq (a : Int) (h : i64 a) : spec_l01Down.f a 2147483648 = some (a / 2147483648) := by
  unfold i64 at h
  unfold spec_l01Down.f
  rw [if_neg (by decide)]
  by_cases ha : 0 ≤ a
  · rw [tmod_pos ha, tdiv_pos ha, if_neg (by omega), w64' (by omega) (by omega)]
  · have e1 : Int.tdiv a 2147483648 = -((-a) / 2147483648) := by
      have := Int.neg_tdiv (a := -a) (b := 2147483648)
      rw [Int.neg_neg] at this
      rw [this, tdiv_pos (by omega)]
    have e2 : Int.tmod a 2147483648 = -((-a) % 2147483648) := by
      have := Int.neg_tmod (-a) 2147483648
      rw [Int.neg_neg] at this
      rw [this, tmod_pos (by omega)]
    rw [e1, e2]
    split
    · simp (disch := omega) only [w64']
      congr 1
      omega
    · simp (disch := omega) only [w64']
      congr 1
      omega


theorem spec_MulHigh_ev (a b : Int) : Evp fun k => spec_MulHigh.f k a b = some (mulHigh a b) :=
  evMono (evAnd (spec_Sat32_ev a) (evAnd (spec_Sat32_ev b) (spec_Sat32_ev ((sat32 a * sat32 b + 1073741824) / 2147483648)))) fun k ⟨h1, h2, h3⟩ => by
    have hb := sat32_mul a b
    unfold spec_MulHigh.f
    rw [h1, h2]
    simp only [Option.bind_some]
    rw [mulHigh_w, spec_l01Down_eq _ (by unfold i64; omega)]
    simp only [Option.bind_some]
    rw [h3]
    rfl


theorem impl_MulHigh_eq (a b : Int) : impl_MulHigh.f a b = some (mulHigh a b) := by
  unfold impl_MulHigh.f
  rw [impl_Sat32_eq, impl_Sat32_eq]
  simp only [Option.bind_some]
  rw [mulHigh_w, impl_Sat32_eq]
  rfl


theorem spec_RoundShift_ev (x n : Int) : Evp fun k => spec_RoundShift.f k x n = some (roundShift x n) :=
  evMono (evAnd (spec_Sat32_ev x) (spec_ClampTo_ev n 0 31)) fun k ⟨h1, h2⟩ => by
    have hs := sat32_b x
    have hc := cut_b n
    have hp := pow31_b n
    unfold spec_RoundShift.f
    rw [h1, h2]
    simp only [Option.bind_some]
    rw [clamp_cut, u64_small (by omega) (by omega), if_pos hc.1, shl_pow31]
    have hd : 0 ≤ pow31 n / 2 ∧ pow31 n / 2 ≤ 1073741824 := by omega
    unfold roundShift rnd
    have q : ∀ y : Int, 0 ≤ y → y ≤ 2147483648 → 0 ≤ (y + pow31 n / 2) / pow31 n ∧ (y + pow31 n / 2) / pow31 n ≤ 4294967296 := by
      intro y h0 h1
      refine ⟨Int.ediv_nonneg (by omega) (by omega), ?_⟩
      have := Int.ediv_le_self (a := y + pow31 n / 2) (pow31 n) (by omega)
      omega
    by_cases hv : sat32 x < 0
    · rw [if_pos hv, if_pos hv, if_neg (by omega)]
      have hq := q (-sat32 x) (by omega) (by omega)
      simp (disch := omega) only [w64', tdiv_pos]
      rw [half_eq, show 2 * -sat32 x = -2 * sat32 x by omega]
    · rw [if_neg hv, if_neg hv, if_neg (by omega)]
      have hq := q (sat32 x) (by omega) (by omega)
      simp (disch := omega) only [w64', tdiv_pos]
      rw [half_eq]


theorem impl_rounded_ev (x b : Int) (hb : 1 ≤ b) (hb' : b ≤ 2147483648) (h0 : -2147483648 ≤ x) (h1 : x ≤ 2147483648) : Evp fun k => impl_rounded.f k x b = some (rnd x b) := by
  have pos : ∀ k (y : Int), 0 ≤ y → y ≤ 2147483648 → impl_rounded.f (k + 1) y b = some ((2 * y + b) / (2 * b)) := by
    intro k y hy hy'
    simp only [impl_rounded.f]
    rw [if_neg (by omega), w64' (x := 2 * b) (by omega) (by omega), if_neg (by omega), w64' (x := 2 * y) (by omega) (by omega), w64' (x := 2 * y + b) (by omega) (by omega), tdiv_pos (by omega)]
    have hq : 0 ≤ (2 * y + b) / (2 * b) := Int.ediv_nonneg (by omega) (by omega)
    have := Int.ediv_le_self (a := 2 * y + b) (2 * b) (by omega)
    rw [w64' (by omega) (by omega)]
  have bb := rnd_b x b hb 2147483648 (by omega) (by omega)
  refine evSuc (evSuc (evAll fun k => ?_))
  unfold rnd at bb ⊢
  by_cases hx : x < 0
  · rw [if_pos hx] at bb ⊢
    simp only [impl_rounded.f]
    rw [if_pos hx, w64' (x := -x) (by omega) (by omega)]
    have := pos k (-x) (by omega) (by omega)
    simp only [impl_rounded.f] at this
    rw [this]
    simp only [Option.bind_some]
    rw [show -2 * x = 2 * -x by omega] at bb ⊢
    rw [w64' (by omega) (by omega)]
  · rw [if_neg hx]
    exact pos (k + 1) x (by omega) (by omega)


theorem impl_RoundShift_ev (x n : Int) : Evp fun k => impl_RoundShift.f k x n = some (roundShift x n) :=
  evMono (impl_rounded_ev (sat32 x) (pow31 n) (pow31_b n).1 (pow31_b n).2 (sat32_b x).1 (by have := sat32_b x; omega)) fun k h => by
    unfold impl_RoundShift.f
    rw [impl_Sat32_eq]
    simp only [Option.bind_some, impl_cut.f]
    rw [mxn_cut, if_pos (cut_b n).1, shl_pow31, h]
    rfl


theorem spec_Requant_ev (a m s z : Int) : Evp fun k => spec_Requant.f k a m s z = some (requant a m s z) :=
  evMono (evAnd (spec_MulHigh_ev a m) (evAnd (spec_RoundShift_ev (mulHigh a m) s) (evAnd (spec_Sat8_ev z) (spec_Sat8_ev (roundShift (mulHigh a m) s + sat8 z))))) fun k ⟨h1, h2, h3, h4⟩ => by
    unfold spec_Requant.f
    simp only [h1, h2, h3, Option.bind_some]
    rw [requant_w, h4]
    rfl


theorem impl_Requant_ev (a m s z : Int) : Evp fun k => impl_Requant.f k a m s z = some (requant a m s z) :=
  evMono (impl_RoundShift_ev (mulHigh a m) s) fun k h2 => by
    unfold impl_Requant.f
    simp only [impl_MulHigh_eq, h2, impl_Sat8_eq, Option.bind_some]
    rw [requant_w]
    rfl


theorem spec_l01In_eq (x lo hi : Int) : spec_l01In.f x lo hi = some (decide (lo ≤ x ∧ x ≤ hi)) := by
  unfold spec_l01In.f
  by_cases h : lo ≤ x
  · simp [h]
  · simp [h]


theorem impl_in_eq (x lo hi : Int) : impl_in.f x lo hi = some (decide (lo ≤ x ∧ x ≤ hi)) := by
  unfold impl_in.f
  by_cases h : lo ≤ x
  · simp [h]
  · simp [h]

theorem slices_Equal_int_int_l0 (a b : List Int) (hl : a.length = b.length) (hm : a.length ≤ 9223372036854775807) : ∀ (d i : Nat), i + d = a.length → a.take i = b.take i → Evp fun k => slices_Equal_int_int.l0 k a b (a.length : Int) (i : Int) = some (decide (a = b))
  | 0, i, hi, ht => evSuc (evAll fun k => by
    simp only [slices_Equal_int_int.l0]
    rw [if_neg (by omega)]
    obtain rfl : i = a.length := by omega
    have e : a = b := by
      rw [List.take_length, hl, List.take_length] at ht
      exact ht
    simp [e])
  | d + 1, i, hi, ht => by
    have ha : i < a.length := by omega
    have hb : i < b.length := by omega
    by_cases he : a[i] = b[i]
    · have ht' : a.take (i + 1) = b.take (i + 1) := by
        rw [List.take_succ_eq_append_getElem ha, List.take_succ_eq_append_getElem hb, ht, he]
      refine evSuc (evMono (slices_Equal_int_int_l0 a b hl hm d (i + 1) (by omega) ht') fun k ih => ?_)
      simp only [slices_Equal_int_int.l0]
      rw [if_pos (by omega), if_pos (by omega), if_pos (by omega), if_pos (by omega), rd_eq ha, rd_eq hb, if_pos he, w64' (by omega) (by omega)]
      exact ih
    · refine evSuc (evAll fun k => ?_)
      simp only [slices_Equal_int_int.l0]
      rw [if_pos (by omega), if_pos (by omega), if_pos (by omega), if_pos (by omega), rd_eq ha, rd_eq hb, if_neg he]
      have : a ≠ b := by
        rintro rfl
        exact he rfl
      simp [this]
theorem slices_Equal_int_int_ev (a b : List Int) (hm : a.length ≤ 9223372036854775807) : Evp fun k => slices_Equal_int_int.f k a b = some (decide (a = b)) := by
  unfold slices_Equal_int_int.f
  by_cases hl : a.length = b.length
  · refine evMono (slices_Equal_int_int_l0 a b hl hm a.length 0 (by omega) (by simp)) fun k h => ?_
    rw [if_pos (by omega)]
    exact h
  · refine evAll fun k => ?_
    rw [if_neg (by omega)]
    have : a ≠ b := by
      rintro rfl
      exact hl rfl
    simp [this]


theorem drop_at {α : Type} {l : List α} {i : Nat} (h : i < l.length) : l.drop i = l[i] :: l.drop (i + 1) := by
  exact List.drop_eq_getElem_cons h
theorem dot_stop {a b : List Int} {i : Nat} (h : a.length ≤ i ∨ b.length ≤ i) (s : Int) : dotGo (a.drop i) (b.drop i) s = s := by
  rcases h with h | h
  · rw [List.drop_eq_nil_of_le h]
    unfold dotGo
    rfl
  · rw [List.drop_eq_nil_of_le h]
    cases a.drop i <;> rfl
theorem dot_step {a b : List Int} {i : Nat} (ha : i < a.length) (hb : i < b.length) (s : Int) : dotGo (a.drop i) (b.drop i) s = dotGo (a.drop (i + 1)) (b.drop (i + 1)) (addSat s (sat8 a[i] * sat8 b[i])) := by
  rw [drop_at ha, drop_at hb]
  rfl


theorem spec_DotOf_l0 (a b : List Int) (hm : a.length ≤ 9223372036854775807) : ∀ (d i : Nat) (s : Int), i + d = a.length → Evp fun k => spec_DotOf.l0 k a b s (i : Int) = some (dotGo (a.drop i) (b.drop i) s)
  | 0, i, s, hi => evSuc (evSuc (evAll fun k => by
    simp only [spec_DotOf.l0]
    rw [if_neg (by omega), dot_stop (.inl (by omega))]
    simp [spec_DotOf.j1]))
  | d + 1, i, s, hi => by
    have ha : i < a.length := by omega
    by_cases hb : i < b.length
    · refine evSuc (evSuc (evMono (evAnd (spec_DotOf_l0 a b hm d (i + 1) (addSat s (sat8 a[i] * sat8 b[i])) (by omega)) (evAnd (spec_Sat8_ev a[i]) (evAnd (spec_Sat8_ev b[i]) (spec_AddSat_ev s (sat8 a[i] * sat8 b[i]))))) fun k ⟨ih, h1, h2, h3⟩ => ?_))
      have hw := sat8_mul a[i] b[i]
      simp only [spec_DotOf.l0]
      rw [if_pos (by omega), dot_step ha hb]
      simp only [spec_DotOf.j1]
      rw [if_pos (by simp; omega), if_pos (by omega), if_pos (by omega), rd_eq ha, h1]
      simp only [Option.bind_some]
      rw [if_pos (by omega), rd_eq hb, h2]
      simp only [Option.bind_some]
      rw [w64' (x := sat8 a[i] * sat8 b[i]) (by omega) (by omega), h3, w64' (x := (i : Int) + 1) (by omega) (by omega)]
      exact ih
    · refine evSuc (evSuc (evAll fun k => ?_))
      simp only [spec_DotOf.l0]
      rw [if_pos (by omega), dot_stop (.inr (by omega)), show decide ((i : Int) < (b.length : Int)) = false by simp; omega]
      simp [spec_DotOf.j1]
theorem spec_DotOf_ev (a b : List Int) (hm : a.length ≤ 9223372036854775807) : Evp fun k => spec_DotOf.f k a b = some (dotOf a b) := by
  have := spec_DotOf_l0 a b hm a.length 0 0 (by omega)
  exact this


theorem impl_DotOf_l0 (a b : List Int) (n : Nat) (hn : n = min a.length b.length) (hm : a.length ≤ 9223372036854775807) : ∀ (d i : Nat) (s : Int), i + d = n → Evp fun k => impl_DotOf.l0 k a b s (n : Int) (i : Int) = some (dotGo (a.drop i) (b.drop i) s)
  | 0, i, s, hi => evSuc (evAll fun k => by
    simp only [impl_DotOf.l0]
    rw [if_neg (by omega), dot_stop (by omega)])
  | d + 1, i, s, hi => by
    have ha : i < a.length := by omega
    have hb : i < b.length := by omega
    refine evSuc (evMono (impl_DotOf_l0 a b n hn hm d (i + 1) (addSat s (sat8 a[i] * sat8 b[i])) (by omega)) fun k ih => ?_)
    have hw := sat8_mul a[i] b[i]
    simp only [impl_DotOf.l0]
    rw [if_pos (by omega), dot_step ha hb, if_pos (by omega), if_pos (by omega), rd_eq ha, impl_Sat8_eq]
    simp only [Option.bind_some]
    rw [if_pos (by omega), rd_eq hb, impl_Sat8_eq]
    simp only [Option.bind_some]
    rw [w64' (x := sat8 a[i] * sat8 b[i]) (by omega) (by omega), impl_AddSat_eq, w64' (x := (i : Int) + 1) (by omega) (by omega)]
    exact ih
theorem impl_DotOf_ev (a b : List Int) (hm : a.length ≤ 9223372036854775807) : Evp fun k => impl_DotOf.f k a b = some (dotOf a b) := by
  have h := impl_DotOf_l0 a b (min a.length b.length) rfl hm (min a.length b.length) 0 0 (by omega)
  have e : mn (a.length : Int) (b.length : Int) = ((min a.length b.length : Nat) : Int) := by unfold mn; split <;> omega
  refine evMono h fun k hk => ?_
  unfold impl_DotOf.f
  rw [e]
  exact hk

def shapeOk (h w c : Int) : Bool := decide ((1 ≤ h ∧ h ≤ 8) ∧ (1 ≤ w ∧ w ≤ 8) ∧ (1 ≤ c ∧ c ≤ 8))
theorem shapeOk_iff {h w c : Int} : shapeOk h w c = true ↔ (1 ≤ h ∧ h ≤ 8) ∧ (1 ≤ w ∧ w ≤ 8) ∧ (1 ≤ c ∧ c ≤ 8) := by unfold shapeOk; simp
def sizeOf (h w c : Int) : Int := if shapeOk h w c = true then h * w * c else 0
theorem mul_b {a b A B : Int} (ha : 0 ≤ a) (ha' : a ≤ A) (hb : 0 ≤ b) (hb' : b ≤ B) : 0 ≤ a * b ∧ a * b ≤ A * B := by
  refine ⟨Int.mul_nonneg ha hb, Int.mul_le_mul ha' hb' hb (by omega)⟩
theorem mul_pos1 {a b : Int} (ha : 1 ≤ a) (hb : 1 ≤ b) : 1 ≤ a * b := by
  have := Int.mul_le_mul ha hb (by omega) (by omega)
  omega
theorem size_b {h w c : Int} (hs : shapeOk h w c = true) : 1 ≤ h * w ∧ h * w ≤ 64 ∧ 1 ≤ h * w * c ∧ h * w * c ≤ 512 := by
  obtain ⟨h1, h2, h3⟩ := shapeOk_iff.1 hs
  have a := mul_b (a := h) (b := w) (A := 8) (B := 8) (by omega) (by omega) (by omega) (by omega)
  have b := mul_b (a := h * w) (b := c) (A := 64) (B := 8) (by omega) (by omega) (by omega) (by omega)
  have c1 := mul_pos1 h1.1 h2.1
  have c2 := mul_pos1 c1 h3.1
  omega
theorem sizeOf_b (h w c : Int) : 0 ≤ sizeOf h w c ∧ sizeOf h w c ≤ 512 := by
  unfold sizeOf
  split
  · rename_i hs
    have := size_b hs
    omega
  · omega
def placeIn (w c i j l : Int) : Int := (i * w + j) * c + l
def placeOf (h w c i j l : Int) : Int := if shapeOk h w c = true ∧ (0 ≤ i ∧ i ≤ h - 1) ∧ (0 ≤ j ∧ j ≤ w - 1) ∧ (0 ≤ l ∧ l ≤ c - 1) then placeIn w c i j l else -1
theorem place_b {h w c i j l : Int} (hs : shapeOk h w c = true) (hi : 0 ≤ i ∧ i ≤ h - 1) (hj : 0 ≤ j ∧ j ≤ w - 1) (hl : 0 ≤ l ∧ l ≤ c - 1) :
    0 ≤ i * w ∧ i * w ≤ 64 ∧ 0 ≤ i * w + j ∧ 0 ≤ (i * w + j) * c ∧ (i * w + j) * c ≤ 512 ∧ 0 ≤ placeIn w c i j l ∧ placeIn w c i j l < h * w * c ∧ placeIn w c i j l < 512 := by
  obtain ⟨h1, h2, h3⟩ := shapeOk_iff.1 hs
  have a := mul_b (a := i) (b := w) (A := 7) (B := 8) (by omega) (by omega) (by omega) (by omega)
  have e : i * w ≤ (h - 1) * w := Int.mul_le_mul_of_nonneg_right hi.2 (by omega)
  have e2 : (h - 1) * w = h * w - w := by rw [Int.sub_mul]; omega
  have e3 : (i * w + j) * c ≤ (h * w - 1) * c := Int.mul_le_mul_of_nonneg_right (by omega) (by omega)
  have e4 : (h * w - 1) * c = h * w * c - c := by rw [Int.sub_mul]; omega
  have b := mul_b (a := i * w + j) (b := c) (A := 63) (B := 8) (by omega) (by omega) (by omega) (by omega)
  have sb := size_b hs
  unfold placeIn
  omega
theorem place_w {h w c i j l : Int} (hs : shapeOk h w c = true) (hi : 0 ≤ i ∧ i ≤ h - 1) (hj : 0 ≤ j ∧ j ≤ w - 1) (hl : 0 ≤ l ∧ l ≤ c - 1) :
    wrap64 (wrap64 (wrap64 (wrap64 (i * w) + j) * c) + l) = placeIn w c i j l := by
  have b := place_b hs hi hj hl
  have h2 := (shapeOk_iff.1 hs)
  rw [w64' (x := i * w) (by omega) (by omega), w64' (x := i * w + j) (by omega) (by omega), w64' (x := (i * w + j) * c) (by omega) (by omega)]
  exact w64' (by have := b.2.2.2.2.2.1; omega) (by have := b.2.2.2.2.2.2.2; omega)


theorem spec_ShapeOk_eq (h w c : Int) : spec_ShapeOk.f h w c = some (shapeOk h w c) := by
  unfold spec_ShapeOk.f shapeOk
  simp only [spec_l01In_eq, Option.bind_some, decide_eq_true_eq]
  by_cases h1 : 1 ≤ h ∧ h ≤ 8 <;> by_cases h2 : 1 ≤ w ∧ w ≤ 8 <;> simp [h1, h2]


theorem impl_ShapeOk_eq (h w c : Int) : impl_ShapeOk.f h w c = some (shapeOk h w c) := by
  unfold impl_ShapeOk.f shapeOk
  simp only [impl_in_eq, Option.bind_some, decide_eq_true_eq]
  by_cases h1 : 1 ≤ h ∧ h ≤ 8 <;> by_cases h2 : 1 ≤ w ∧ w ≤ 8 <;> simp [h1, h2]


theorem spec_SizeOf_eq (h w c : Int) : spec_SizeOf.f h w c = some (sizeOf h w c) := by
  unfold spec_SizeOf.f sizeOf
  rw [spec_ShapeOk_eq]
  simp only [Option.bind_some]
  by_cases hs : shapeOk h w c = true
  · have := size_b hs
    rw [if_pos hs, if_pos hs, w64' (x := h * w) (by omega) (by omega), w64' (by omega) (by omega)]
  · rw [if_neg hs, if_neg hs]


theorem impl_SizeOf_eq (h w c : Int) : impl_SizeOf.f h w c = some (sizeOf h w c) := by
  unfold impl_SizeOf.f sizeOf
  rw [impl_ShapeOk_eq]
  simp only [Option.bind_some]
  by_cases hs : shapeOk h w c = true
  · have := size_b hs
    rw [if_pos hs, if_pos hs, w64' (x := h * w) (by omega) (by omega), w64' (by omega) (by omega)]
  · rw [if_neg hs, if_neg hs]


theorem spec_PlaceOf_eq (h w c i j l : Int) : spec_PlaceOf.f h w c i j l = some (placeOf h w c i j l) := by
  unfold spec_PlaceOf.f placeOf
  rw [spec_ShapeOk_eq]
  simp only [Option.bind_some, spec_l01In_eq, decide_eq_true_eq]
  by_cases hs : shapeOk h w c = true
  · have hb := shapeOk_iff.1 hs
    rw [if_pos hs, w64' (x := h - 1) (by omega) (by omega), w64' (x := w - 1) (by omega) (by omega), w64' (x := c - 1) (by omega) (by omega)]
    by_cases hi : 0 ≤ i ∧ i ≤ h - 1
    · rw [if_pos hi]
      by_cases hj : 0 ≤ j ∧ j ≤ w - 1
      · rw [if_pos hj]
        by_cases hl : 0 ≤ l ∧ l ≤ c - 1
        · rw [if_pos hl, if_pos ⟨hs, hi, hj, hl⟩, place_w hs hi hj hl]
        · rw [if_neg hl, if_neg (fun z => hl z.2.2.2)]
      · rw [if_neg hj, if_neg (fun z => hj z.2.2.1)]
    · rw [if_neg hi, if_neg (fun z => hi z.2.1)]
  · rw [if_neg hs, if_neg (fun z => hs z.1)]


def item8 (x : Int) : Bool := decide (-128 ≤ x ∧ x ≤ 127)
def itemsB (l : List Int) : Bool := l.all item8
theorem itemsB_iff {l : List Int} : itemsB l = true ↔ ∀ x ∈ l, -128 ≤ x ∧ x ≤ 127 := by
  unfold itemsB item8
  simp
theorem all_at {p : Int → Bool} {l : List Int} {i : Nat} (h : i < l.length) : (l.drop i).all p = (p l[i] && (l.drop (i + 1)).all p) := by
  rw [drop_at h, List.all_cons]
def tensorOk (h w c : Int) (l : List Int) : Bool := shapeOk h w c && (decide ((l.length : Int) = sizeOf h w c) && itemsB l)
theorem tensorOk_iff {h w c : Int} {l : List Int} : tensorOk h w c l = true ↔ shapeOk h w c = true ∧ (l.length : Int) = h * w * c ∧ ∀ x ∈ l, -128 ≤ x ∧ x ≤ 127 := by
  unfold tensorOk sizeOf
  by_cases hs : shapeOk h w c = true
  · simp [hs, itemsB_iff]
  · simp [hs]
theorem tensorOk_len {h w c : Int} {l : List Int} (ht : tensorOk h w c l = true) : 1 ≤ l.length ∧ l.length ≤ 512 := by
  obtain ⟨hs, hl, _⟩ := tensorOk_iff.1 ht
  have := size_b hs
  omega


theorem spec_l02Int8_eq (x : Int) : spec_l02Int8.f x = some (item8 x) := by
  unfold spec_l02Int8.f
  rw [spec_l01In_eq]
  rfl


theorem spec_TensorOk_l0 (h w c : Int) (l : List Int) (hl : l.length ≤ 9223372036854775807) : ∀ (d i : Nat), i + d = l.length → Evp fun k => spec_TensorOk.l0 k (i : Int) h w c l = some ((l.drop i).all item8)
  | 0, i, hi => evSuc (evAll fun k => by
    simp only [spec_TensorOk.l0]
    rw [if_neg (by omega), List.drop_eq_nil_of_le (by omega)]
    rfl)
  | d + 1, i, hi => by
    have hlt : i < l.length := by omega
    refine evSuc (evMono (spec_TensorOk_l0 h w c l hl d (i + 1) (by omega)) fun k ih => ?_)
    simp only [spec_TensorOk.l0]
    rw [if_pos (by omega), if_pos (by omega), rd_eq hlt, spec_l02Int8_eq, all_at hlt]
    simp only [Option.bind_some]
    cases hx : item8 l[i] with
    | true =>
      rw [if_pos rfl, w64' (by omega) (by omega)]
      simpa using ih
    | false => simp
theorem spec_TensorOk_ev (h w c : Int) (l : List Int) (hl : l.length ≤ 9223372036854775807) : Evp fun k => spec_TensorOk.f k h w c l = some (tensorOk h w c l) := by
  unfold tensorOk
  by_cases hs : shapeOk h w c = true
  · by_cases hz : (l.length : Int) = sizeOf h w c
    · refine evMono (evSuc (p := fun k => spec_TensorOk.j0 k false h w c l = some (l.all item8)) (evMono (spec_TensorOk_l0 h w c l hl l.length 0 (by omega)) fun k e => ?_)) fun k e => ?_
      · simp only [spec_TensorOk.j0]
        exact ite_no (by simp) e
      · refine bind_of (spec_ShapeOk_eq h w c) (ite_yes hs (bind_of (spec_SizeOf_eq h w c) ?_))
        rw [show ((l.length : Int) != sizeOf h w c) = false by simp [hz], hs, decide_eq_true hz]
        exact e
    · refine evSuc (evAll fun k => bind_of (spec_ShapeOk_eq h w c) (ite_yes hs (bind_of (spec_SizeOf_eq h w c) ?_)))
      rw [show ((l.length : Int) != sizeOf h w c) = true by simp [hz], decide_eq_false hz]
      simp [spec_TensorOk.j0]
  · refine evSuc (evAll fun k => bind_of (spec_ShapeOk_eq h w c) (ite_no hs ?_))
    simp [spec_TensorOk.j0, hs]


theorem impl_areItems_1_eq (x : Int) : impl_areItems_1.f x = some (!item8 x) := by
  unfold impl_areItems_1.f
  rw [impl_in_eq]
  rfl


theorem indexItems_l0 (l : List Int) (hl : l.length ≤ 9223372036854775807) : ∀ (d i : Nat), i + d = l.length → ∃ r, (Evp fun k => slices_IndexFunc_int_int_impl_areItems_1.l0 k l (l.length : Int) (i : Int) = some r) ∧ (decide (r ≥ 0) = !(l.drop i).all item8)
  | 0, i, hi => ⟨-1, evSuc (evAll fun k => by
    simp only [slices_IndexFunc_int_int_impl_areItems_1.l0]
    rw [if_neg (by omega)]), by rw [List.drop_eq_nil_of_le (by omega)]; rfl⟩
  | d + 1, i, hi => by
    have hlt : i < l.length := by omega
    rw [all_at hlt]
    cases hx : item8 l[i] with
    | true =>
      obtain ⟨r, h1, h2⟩ := indexItems_l0 l hl d (i + 1) (by omega)
      refine ⟨r, evSuc (evMono h1 fun k ih => ?_), by simpa using h2⟩
      simp only [slices_IndexFunc_int_int_impl_areItems_1.l0]
      rw [if_pos (by omega), if_pos (by omega), if_pos (by omega), rd_eq hlt, impl_areItems_1_eq, hx]
      simp only [Option.bind_some]
      rw [if_neg (by simp), w64' (by omega) (by omega)]
      exact ih
    | false =>
      refine ⟨(i : Int), evSuc (evAll fun k => ?_), by simp⟩
      simp only [slices_IndexFunc_int_int_impl_areItems_1.l0]
      rw [if_pos (by omega), if_pos (by omega), if_pos (by omega), rd_eq hlt, impl_areItems_1_eq, hx]
      simp


theorem impl_areItems_ev (l : List Int) (hl : l.length ≤ 9223372036854775807) : Evp fun k => impl_areItems.f k l = some (itemsB l) := by
  obtain ⟨r, h1, h2⟩ := indexItems_l0 l hl l.length 0 (by omega)
  refine evMono h1 fun k e => ?_
  have e1 : slices_ContainsFunc_int_int_impl_areItems_1.f k l = some (decide (r ≥ 0)) := bind_of (f := fun t => some (decide (t ≥ 0))) e rfl
  have e2 : impl_areItems.f k l = some (!decide (r ≥ 0)) := bind_of (f := fun t => some (!t)) e1 rfl
  rw [e2, h2]
  simp [itemsB]


theorem impl_TensorOk_ev (h w c : Int) (l : List Int) (hl : l.length ≤ 9223372036854775807) : Evp fun k => impl_TensorOk.f k h w c l = some (tensorOk h w c l) := by
  refine evMono (impl_areItems_ev l hl) fun k e => ?_
  unfold tensorOk
  by_cases hs : shapeOk h w c = true
  · refine bind_of (impl_ShapeOk_eq h w c) (ite_yes hs (bind_of (impl_SizeOf_eq h w c) ?_))
    by_cases hz : (l.length : Int) = sizeOf h w c
    · rw [if_pos hz, hs, decide_eq_true hz]
      exact bind_of e rfl
    · rw [if_neg hz, decide_eq_false hz]
      simp
  · refine bind_of (impl_ShapeOk_eq h w c) (ite_no hs ?_)
    simp [hs]


def itemAt (h w c : Int) (l : List Int) (i j m : Int) : Int × Bool := if tensorOk h w c l = true ∧ ¬ placeOf h w c i j m < 0 then (rd l (placeOf h w c i j m), true) else (0, false)
theorem placeOf_b {h w c i j m : Int} (hp : ¬ placeOf h w c i j m < 0) : 0 ≤ placeOf h w c i j m ∧ placeOf h w c i j m < h * w * c ∧ shapeOk h w c = true ∧ (0 ≤ i ∧ i ≤ h - 1) ∧ (0 ≤ j ∧ j ≤ w - 1) ∧ (0 ≤ m ∧ m ≤ c - 1) ∧ placeOf h w c i j m = placeIn w c i j m := by
  unfold placeOf at hp ⊢
  by_cases hh : shapeOk h w c = true ∧ (0 ≤ i ∧ i ≤ h - 1) ∧ (0 ≤ j ∧ j ≤ w - 1) ∧ (0 ≤ m ∧ m ≤ c - 1)
  · obtain ⟨h1, h2, h3, h4⟩ := hh
    have := place_b h1 h2 h3 h4
    rw [if_pos ⟨h1, h2, h3, h4⟩]
    exact ⟨this.2.2.2.2.2.1, this.2.2.2.2.2.2.1, h1, h2, h3, h4, rfl⟩
  · rw [if_neg hh] at hp
    omega


theorem spec_ItemAt_ev (h w c : Int) (l : List Int) (i j m : Int) (hl : l.length ≤ 9223372036854775807) : Evp fun k => spec_ItemAt.f k h w c l i j m = some (itemAt h w c l i j m) := by
  refine evMono (spec_TensorOk_ev h w c l hl) fun k e => ?_
  refine bind_of (spec_PlaceOf_eq h w c i j m) (bind_of e ?_)
  unfold itemAt
  by_cases ht : tensorOk h w c l = true
  · by_cases hp : placeOf h w c i j m < 0
    · rw [if_pos ht, if_pos hp, if_neg (fun z => z.2 hp)]
    · have hb := placeOf_b hp
      obtain ⟨_, hlen, _⟩ := tensorOk_iff.1 ht
      rw [if_pos ht, if_neg hp, if_pos hb.1, if_pos (by omega), if_pos ⟨ht, hp⟩]
  · rw [if_neg ht, if_neg (fun z => ht z.1)]


def sameTensor (h w c : Int) (l : List Int) (h' w' c' : Int) (l' : List Int) : Bool := tensorOk h w c l && decide (h = h' ∧ w = w' ∧ c = c' ∧ l = l')


theorem impl_Tensor_same_ev (h w c h' w' c' : Int) (a b : List Int) (ha : a.length ≤ 9223372036854775807) : Evp fun k => impl_Tensor_same.f k h w c a h' w' c' b = some (decide (h = h' ∧ w = w' ∧ c = c' ∧ a = b)) := by
  refine evMono (slices_Equal_int_int_ev a b ha) fun k e => ?_
  unfold impl_Tensor_same.f
  by_cases hs : h = h' ∧ w = w' ∧ c = c'
  · obtain ⟨rfl, rfl, rfl⟩ := hs
    refine ite_yes (by simp) (bind_of e ?_)
    simp
  · refine ite_no ?_ ?_
    · intro z
      simp at z
      exact hs ⟨z.1, z.2.1, z.2.2⟩
    · have : ¬ (h = h' ∧ w = w' ∧ c = c' ∧ a = b) := fun z => hs ⟨z.1, z.2.1, z.2.2.1⟩
      simp [this]


theorem impl_SameTensor_ev (h w c h' w' c' : Int) (a b : List Int) (ha : a.length ≤ 9223372036854775807) : Evp fun k => impl_SameTensor.f k h w c a h' w' c' b = some (sameTensor h w c a h' w' c' b) := by
  refine evMono (evAnd (impl_TensorOk_ev h w c a ha) (impl_Tensor_same_ev h w c h' w' c' a b ha)) fun k ⟨g1, g2⟩ => bind_of g1 ?_
  unfold sameTensor
  by_cases h1 : tensorOk h w c a = true
  · refine ite_yes h1 (bind_of g2 ?_)
    simp [h1]
  · refine ite_no h1 ?_
    simp [h1]

theorem and255_b (x : Int) : 0 ≤ Go.bits .and .i64 x 255 ∧ Go.bits .and .i64 x 255 ≤ 255 := by
  have h : ((BitVec.ofInt 64 x) &&& (BitVec.ofInt 64 255)).toNat ≤ 255 := by
    rw [BitVec.toNat_and]
    exact Nat.and_le_right
  have e : Go.bits .and .i64 x 255 = IntKind.i64.wrap (((BitVec.ofInt 64 x) &&& (BitVec.ofInt 64 255)).toNat : Int) := rfl
  rw [e, i64wrap, w64' (by omega) (by omega)]
  omega
/-- A drawing's place in its bytes. -/
def Cu (b : List Int) (i : Int) : Prop := 0 ≤ i ∧ i ≤ b.length ∧ b.length ≤ 1099511627776
theorem spec_l01New_l0 (b : List Int) (hb : b.length ≤ 1099511627776) : ∀ (d : Nat) (i : Nat) (h : Int), i + d = b.length → ∃ h', Evp fun k => spec_l01New.l0 k b h (i : Int) = some (b, 0, h')
  | 0, i, h, hi => ⟨h, evSuc (evAll fun k => by
    simp only [spec_l01New.l0]
    rw [if_neg (by omega)])⟩
  | d + 1, i, h, hi => by
    by_cases h4 : i < 4000
    · obtain ⟨h', hh⟩ := spec_l01New_l0 b hb d (i + 1) (Go.bits .and .i64 (wrap64 ((wrap64 ((wrap64 (h * 149)) + (wrap64 (rd b i)))) + 11)) 1073741823) (by omega)
      refine ⟨h', evSuc (evMono hh fun k e => ?_)⟩
      simp only [spec_l01New.l0]
      rw [if_pos (by omega), if_pos (by omega), if_pos (by omega), w64' (x := (i : Int) + 1) (by omega) (by omega)]
      exact e
    · refine ⟨h, evSuc (evAll fun k => ?_)⟩
      simp only [spec_l01New.l0]
      rw [if_pos (by omega), if_neg (by omega)]
theorem spec_l01New_ok (b : List Int) (hb : b.length ≤ 1099511627776) : ∃ h', Evp fun k => spec_l01New.f k b = some (b, 0, h') := spec_l01New_l0 b hb b.length 0 _ (by omega)
theorem Cu.zero {b : List Int} (hb : b.length ≤ 1099511627776) : Cu b 0 := ⟨by omega, by omega, hb⟩


theorem spec_l01Byte_ok {b : List Int} {i : Int} (hc : Cu b i) (h : Int) : ∃ r i' h', spec_l01Byte.f b i h = some (r, i', h') ∧ 0 ≤ r ∧ r ≤ 255 ∧ Cu b i' := by
  obtain ⟨h0, h1, h2⟩ := hc
  unfold spec_l01Byte.f
  by_cases hi : i < (b.length : Int)
  · rw [if_pos hi, if_pos h0]
    exact ⟨_, _, _, rfl, (and255_b _).1, (and255_b _).2, by rw [w64' (by omega) (by omega)]; exact ⟨by omega, by omega, h2⟩⟩
  · rw [if_neg hi]
    exact ⟨_, _, _, rfl, (and255_b _).1, (and255_b _).2, h0, h1, h2⟩


theorem spec_l01Below_ok {b : List Int} {i : Int} (hc : Cu b i) (h : Int) {n : Int} (hn : 1 ≤ n) : ∃ r i' h', spec_l01Below.f b i h n = some (r, i', h') ∧ 0 ≤ r ∧ r < n ∧ Cu b i' := by
  obtain ⟨r1, i1, h1, e1, a1, b1, c1⟩ := spec_l01Byte_ok hc h
  by_cases hs : n ≤ 256
  · refine ⟨_, _, _, ite_no (by omega) (ite_yes hs (bind_of e1 (ite_no (by omega) rfl))), ?_, ?_, c1⟩
    · rw [tmod_pos a1]; exact Int.emod_nonneg _ (by omega)
    · rw [tmod_pos a1]; exact Int.emod_lt_of_pos _ (by omega)
  · obtain ⟨r2, i2, h2, e2, a2, b2, c2⟩ := spec_l01Byte_ok c1 h1
    obtain ⟨r3, i3, h3, e3, a3, b3, c3⟩ := spec_l01Byte_ok c2 h2
    have hw : wrap64 ((wrap64 ((wrap64 (r1 * 65536)) + (wrap64 (r2 * 256)))) + r3) = r1 * 65536 + r2 * 256 + r3 := by
      simp (disch := omega) only [w64']
    refine ⟨_, _, _, ite_no (by omega) (ite_no hs (bind_of e1 (bind_of e2 (bind_of e3 (ite_no (by omega) rfl))))), ?_, ?_, c3⟩
    · show 0 ≤ Int.tmod (wrap64 ((wrap64 ((wrap64 (r1 * 65536)) + (wrap64 (r2 * 256)))) + r3)) n
      rw [hw, tmod_pos (by omega)]; exact Int.emod_nonneg _ (by omega)
    · show Int.tmod (wrap64 ((wrap64 ((wrap64 (r1 * 65536)) + (wrap64 (r2 * 256)))) + r3)) n < n
      rw [hw, tmod_pos (by omega)]; exact Int.emod_lt_of_pos _ (by omega)


theorem spec_l01PickInt_ok {b : List Int} {i : Int} (hc : Cu b i) (h : Int) (l : List Int) (hl : 1 ≤ l.length) : ∃ r i' h', spec_l01PickInt.f b i h l = some (r, i', h') ∧ r ∈ l ∧ Cu b i' := by
  obtain ⟨r1, i1, h1, e1, a1, b1, c1⟩ := spec_l01Below_ok hc h (n := (l.length : Int)) (by omega)
  obtain ⟨m, rfl⟩ := nat_of a1
  refine ⟨_, _, _, bind_of e1 (ite_yes a1 (ite_yes b1 rfl)), ?_, c1⟩
  show rd l (m : Int) ∈ l
  rw [rd_eq (by omega)]
  exact List.getElem_mem _


theorem spec_l01Once_ok {b : List Int} {i : Int} (hc : Cu b i) (h : Int) {n : Int} (hn : 1 ≤ n) : ∃ r i' h', spec_l01Once.f b i h n = some (r, i', h') ∧ Cu b i' := by
  obtain ⟨r1, i1, h1, e1, a1, b1, c1⟩ := spec_l01Below_ok hc h hn
  exact ⟨_, _, _, bind_of e1 rfl, c1⟩


theorem slices_Max_l0 (l : List Int) (hl : l.length ≤ 9223372036854775807) : ∀ (d i : Nat) (m : Int), i + d = l.length → (∀ j, j < i → l.getD j 0 ≤ m) → (∃ j, j < i ∧ l.getD j 0 = m) → ∃ M, (∀ j, j < l.length → l.getD j 0 ≤ M) ∧ (∃ j, j < l.length ∧ l.getD j 0 = M) ∧ Evp fun k => slices_Max_int_int.l0 k l m (i : Int) = some M
  | 0, i, m, hi, h1, h2 => ⟨m, fun j hj => h1 j (by omega), by obtain ⟨j, a, b⟩ := h2; exact ⟨j, by omega, b⟩, evSuc (evAll fun k => by
    simp only [slices_Max_int_int.l0]
    rw [if_neg (by omega)])⟩
  | d + 1, i, m, hi, h1, h2 => by
    have hm : m ≤ mx m (l.getD i 0) ∧ l.getD i 0 ≤ mx m (l.getD i 0) ∧ (mx m (l.getD i 0) = m ∨ mx m (l.getD i 0) = l.getD i 0) := by
      unfold mx
      split <;> omega
    obtain ⟨M, g1, g2, ih⟩ := slices_Max_l0 l hl d (i + 1) (mx m (l.getD i 0)) (by omega) (fun j hj => by
      by_cases e : j = i
      · subst e; exact hm.2.1
      · have := h1 j (by omega)
        omega) (by
      rcases hm.2.2 with e | e
      · obtain ⟨j, a, b⟩ := h2
        exact ⟨j, by omega, by omega⟩
      · exact ⟨i, by omega, by omega⟩)
    refine ⟨M, g1, g2, evSuc (evMono ih fun k e => ?_)⟩
    simp only [slices_Max_int_int.l0]
    rw [if_pos (by omega), if_pos (by omega), rd_nat, w64' (by omega) (by omega)]
    exact e
theorem slices_Max_ok (l : List Int) (hl : l.length ≤ 9223372036854775807) (h1 : 1 ≤ l.length) : ∃ M, (∀ j, j < l.length → l.getD j 0 ≤ M) ∧ (∃ j, j < l.length ∧ l.getD j 0 = M) ∧ Evp fun k => slices_Max_int_int.f k l = some M := by
  obtain ⟨M, g1, g2, e⟩ := slices_Max_l0 l hl (l.length - 1) 1 (l.getD 0 0) (by omega) (fun j hj => by
    obtain rfl : j = 0 := by omega
    omega) ⟨0, by omega, rfl⟩
  refine ⟨M, g1, g2, evMono e fun k e => ?_⟩
  refine ite_no (by omega) (ite_yes (by omega) ?_)
  rw [show rd l 0 = l.getD 0 0 from rd_nat l 0]
  exact e


theorem and_of {b c : Bool} {x y : Option Bool} (hx : b = true → x = some c) (hy : y = some false) : (if b = true then x else y) = some (b && c) := by
  cases b with
  | true => rw [if_pos rfl, hx rfl]; simp
  | false => rw [if_neg (by simp), hy]; simp
theorem and_ofP {P : Prop} [Decidable P] {c : Bool} {x y : Option Bool} (hx : P → x = some c) (hy : y = some false) : (if P then x else y) = some (decide P && c) := by
  by_cases h : P
  · rw [if_pos h, hx h]; simp [h]
  · rw [if_neg h, hy]; simp [h]
def rng (x lo hi : Int) : Bool := decide (lo ≤ x ∧ x ≤ hi)
theorem rng_iff {x lo hi : Int} : rng x lo hi = true ↔ lo ≤ x ∧ x ≤ hi := by simp [rng]
def biasB (l : List Int) : Bool := l.all fun x => rng x (-1000000) 1000000
def scaledB (ou mu sh ze : Int) (W B : List Int) (n : Int) : Bool :=
  rng ou 1 8 && (rng mu 0 2147483647 && (rng sh 0 31 && (rng ze (-128) 127 && (decide ((W.length : Int) = ou * n) && (itemsB W && (decide ((B.length : Int) = ou) && biasB B))))))
def bareB (ou mu sh : Int) (W B : List Int) : Bool := decide (ou = 0) && (decide (mu = 0) && (decide (sh = 0) && (decide ((W.length : Int) = 0) && decide ((B.length : Int) = 0))))
def noneB (sz st : Int) : Bool := decide (sz = 0) && decide (st = 0)
def windB (sz st h w : Int) : Bool := (rng sz 1 3 && (decide (sz ≤ h) && decide (sz ≤ w))) && rng st 1 2
def sh0 : Int × Int × Int × Bool := (0, 0, 0, false)
def outShape (h w c kd ou sz st mu sh ze : Int) (W B : List Int) : Int × Int × Int × Bool :=
  if shapeOk h w c = true then
    if kd = 0 then if h * w * c ≤ 64 ∧ noneB sz st = true ∧ scaledB ou mu sh ze W B (h * w * c) = true then (1, 1, ou, true) else sh0
    else if kd = 1 then if windB sz st h w = true ∧ (W.length : Int) ≤ 600 ∧ scaledB ou mu sh ze W B (sz * sz * c) = true then ((h - sz) / st + 1, (w - sz) / st + 1, ou, true) else sh0
    else if kd = 2 ∨ kd = 3 then if windB sz st h w = true ∧ bareB ou mu sh W B = true ∧ ze = 0 then ((h - sz) / st + 1, (w - sz) / st + 1, c, true) else sh0
    else if kd = 4 then if noneB sz st = true ∧ bareB ou mu sh W B = true ∧ rng ze (-128) 127 = true then (h, w, c, true) else sh0
    else if kd = 5 then if noneB sz st = true ∧ bareB ou mu sh W B = true ∧ ze = 0 ∧ h * w * c ≤ 8 then (1, 1, h * w * c, true) else sh0
    else sh0
  else sh0
theorem scaledB_iff {ou mu sh ze : Int} {W B : List Int} {n : Int} : scaledB ou mu sh ze W B n = true ↔ (1 ≤ ou ∧ ou ≤ 8) ∧ (0 ≤ mu ∧ mu ≤ 2147483647) ∧ (0 ≤ sh ∧ sh ≤ 31) ∧ (-128 ≤ ze ∧ ze ≤ 127) ∧ (W.length : Int) = ou * n ∧ itemsB W = true ∧ (B.length : Int) = ou ∧ biasB B = true := by
  simp only [scaledB, Bool.and_eq_true, rng_iff, decide_eq_true_eq]
theorem windB_iff {sz st h w : Int} : windB sz st h w = true ↔ ((1 ≤ sz ∧ sz ≤ 3) ∧ sz ≤ h ∧ sz ≤ w) ∧ 1 ≤ st ∧ st ≤ 2 := by
  simp only [windB, Bool.and_eq_true, rng_iff, decide_eq_true_eq]
theorem shape_dims {h w c : Int} (hs : shapeOk h w c = true) : (1 ≤ h ∧ h ≤ 8) ∧ (1 ≤ w ∧ w ≤ 8) ∧ (1 ≤ c ∧ c ≤ 8) := by
  simpa [shapeOk] using hs
theorem win_dims {h sz st : Int} (h1 : h ≤ 8) (h2 : 1 ≤ sz) (h3 : sz ≤ h) (h4 : 1 ≤ st) : wrap64 ((wrap64 (Int.tdiv (wrap64 (h - sz)) st)) + 1) = (h - sz) / st + 1 := by
  rw [w64' (x := h - sz) (by omega) (by omega), tdiv_pos (by omega)]
  have h5 : 0 ≤ (h - sz) / st := Int.ediv_nonneg (by omega) (by omega)
  have h6 := Int.ediv_le_self (a := h - sz) st (by omega)
  rw [w64' (x := (h - sz) / st) (by omega) (by omega), w64' (by omega) (by omega)]
theorem small_mul {a n : Int} (h1 : 1 ≤ a) (h2 : a ≤ 8) (h3 : 0 ≤ n) (h4 : n ≤ 4096) : wrap64 (a * n) = a * n := by
  have := bnd_mul (a := a) (b := n) (A := 8) (B := 4096) (by omega) (by omega) (by omega) (by omega)
  exact w64' (by omega) (by omega)
theorem area_b {sz c : Int} (h1 : 1 ≤ sz) (h2 : sz ≤ 3) (h3 : 1 ≤ c) (h4 : c ≤ 8) : 0 ≤ sz * sz * c ∧ sz * sz * c ≤ 72 ∧ 0 ≤ sz * sz ∧ sz * sz ≤ 9 := by
  have a1 := Int.mul_nonneg (show 0 ≤ sz by omega) (show 0 ≤ sz by omega)
  have a2 := bnd_mul (a := sz) (b := sz) (A := 3) (B := 3) (by omega) (by omega) (by omega) (by omega)
  have a3 := Int.mul_nonneg a1 (show 0 ≤ c by omega)
  have a4 := bnd_mul (a := sz * sz) (b := c) (A := 9) (B := 8) (by omega) (by omega) (by omega) (by omega)
  omega


def valB (kd ze : Int) : Bool := if kd = 4 then rng ze (-128) 127 else decide (ze = 0)
def plainB (kd ou sz st mu sh ze : Int) (W B : List Int) (win wei : Bool) : Bool :=
  (if win = true then rng sz 1 3 && rng st 1 2 else noneB sz st) &&
  (if wei = true then rng ou 1 8 && (rng mu 0 2147483647 && (rng sh 0 31 && (rng ze (-128) 127 && (decide ((B.length : Int) = ou) && (biasB B && itemsB W))))) else bareB ou mu sh W B && valB kd ze)
theorem spec_l03Plain_l1 (kd ou sz st mu sh ze : Int) (W B : List Int) (hW : (W.length : Int) ≤ 9223372036854775807) : ∀ (d i : Nat), i + d = W.length → Evp fun k => spec_l03Plain.l1 k (i : Int) kd ou sz st mu sh ze W B = some ((W.drop i).all item8)
  | 0, i, hi => evSuc (evAll fun k => by
    simp only [spec_l03Plain.l1]
    rw [if_neg (by omega), List.drop_eq_nil_of_le (by omega)]
    rfl)
  | d + 1, i, hi => by
    have hlt : i < W.length := by omega
    refine evSuc (evMono (spec_l03Plain_l1 kd ou sz st mu sh ze W B hW d (i + 1) (by omega)) fun k ih => ?_)
    simp only [spec_l03Plain.l1]
    rw [if_pos (by omega), if_pos (by omega), rd_eq hlt, all_at hlt]
    refine bind_of (spec_l02Int8_eq _) (and_of (fun _ => ?_) rfl)
    rw [w64' (by omega) (by omega)]
    exact ih
theorem spec_l03Plain_l0 (kd ou sz st mu sh ze : Int) (W B : List Int) (hW : (W.length : Int) ≤ 9223372036854775807) (hB : (B.length : Int) ≤ 9223372036854775807) : ∀ (d i : Nat), i + d = B.length → Evp fun k => spec_l03Plain.l0 k (i : Int) kd ou sz st mu sh ze W B = some ((B.drop i).all (fun x => rng x (-1000000) 1000000) && itemsB W)
  | 0, i, hi => evSuc (evMono (spec_l03Plain_l1 kd ou sz st mu sh ze W B hW W.length 0 (by omega)) fun k e => by
    simp only [spec_l03Plain.l0]
    rw [if_neg (by omega), List.drop_eq_nil_of_le (by omega)]
    simpa [itemsB] using e)
  | d + 1, i, hi => by
    have hlt : i < B.length := by omega
    refine evSuc (evMono (spec_l03Plain_l0 kd ou sz st mu sh ze W B hW hB d (i + 1) (by omega)) fun k ih => ?_)
    simp only [spec_l03Plain.l0]
    rw [if_pos (by omega), if_pos (by omega), rd_eq hlt, all_at hlt, Bool.and_assoc]
    refine bind_of (spec_l01In_eq _ _ _) (and_of (fun _ => ?_) rfl)
    rw [w64' (by omega) (by omega)]
    exact ih
theorem spec_l03Plain_ev (kd ou sz st mu sh ze : Int) (W B : List Int) (win wei : Bool) (hW : (W.length : Int) ≤ 9223372036854775807) (hB : (B.length : Int) ≤ 9223372036854775807) : Evp fun k => spec_l03Plain.f k kd ou sz st mu sh ze W B win wei = some (plainB kd ou sz st mu sh ze W B win wei) := by
  have j1t : Evp fun k => spec_l03Plain.j1 k true kd ou sz st mu sh ze W B = some false := evSuc (evAll fun k => by
    simp only [spec_l03Plain.j1]
    exact ite_yes trivial rfl)
  have j4t : Evp fun k => spec_l03Plain.j4 k true kd ou sz st mu sh ze W B = some false := evSuc (evAll fun k => by
    simp only [spec_l03Plain.j4]
    exact ite_yes trivial rfl)
  have j1f : Evp fun k => spec_l03Plain.j1 k false kd ou sz st mu sh ze W B = some (biasB B && itemsB W) := evSuc (evMono (spec_l03Plain_l0 kd ou sz st mu sh ze W B hW hB B.length 0 (by omega)) fun k e => by
    simp only [spec_l03Plain.j1]
    refine ite_no (by simp) ?_
    rw [List.drop_zero] at e
    exact e)
  have j4f : Evp fun k => spec_l03Plain.j4 k false kd ou sz st mu sh ze W B = some (valB kd ze) := evSuc (evAll fun k => by
    simp only [spec_l03Plain.j4]
    refine ite_no (by simp) ?_
    unfold valB
    by_cases h4 : kd = 4
    · rw [if_pos h4, if_pos h4]
      exact bind_of (spec_l02Int8_eq _) rfl
    · rw [if_neg h4, if_neg h4]
      by_cases hz : ze = 0 <;> simp [hz])
  have j0 : Evp fun k => spec_l03Plain.j0 k wei kd ou sz st mu sh ze W B = some (if wei = true then rng ou 1 8 && (rng mu 0 2147483647 && (rng sh 0 31 && (rng ze (-128) 127 && (decide ((B.length : Int) = ou) && (biasB B && itemsB W))))) else bareB ou mu sh W B && valB kd ze) := evSuc (evMono (evAnd j1t (evAnd j1f (evAnd j4t j4f))) fun k ⟨a1, a2, a3, a4⟩ => by
    simp only [spec_l03Plain.j0]
    cases wei with
    | true =>
      rw [if_pos rfl, if_pos rfl]
      refine bind_of (spec_l01In_eq _ _ _) (and_of (fun _ => bind_of (spec_l01In_eq _ _ _) (and_of (fun _ => bind_of (spec_l01In_eq _ _ _) (and_of (fun _ => bind_of (spec_l02Int8_eq _) (and_of (fun _ => ?_) a1)) a1)) a1)) a1)
      by_cases hb : (B.length : Int) = ou
      · rw [show ((B.length : Int) != ou) = false by simp [hb], a2, decide_eq_true hb]
        rfl
      · rw [show ((B.length : Int) != ou) = true by simp [hb], a1, decide_eq_false hb]
        rfl
    | false =>
      rw [if_neg Bool.false_ne_true, if_neg Bool.false_ne_true]
      unfold bareB
      rw [Bool.and_assoc, Bool.and_assoc, Bool.and_assoc]
      refine and_ofP (fun _ => and_ofP (fun _ => and_ofP (fun _ => ?_) a3) a3) a3
      by_cases hw : (W.length : Int) > 0
      · rw [if_pos hw, a3, decide_eq_false (show ¬ (W.length : Int) = 0 by omega)]
        rfl
      · rw [if_neg hw, decide_eq_true (show (W.length : Int) = 0 by omega)]
        by_cases hb : (B.length : Int) > 0
        · rw [decide_eq_true hb, a3, decide_eq_false (show ¬ (B.length : Int) = 0 by omega)]
          rfl
        · rw [decide_eq_false hb, a4, decide_eq_true (show (B.length : Int) = 0 by omega)]
          rfl)
  refine evMono j0 fun k e => ?_
  unfold plainB spec_l03Plain.f
  cases win with
  | true =>
    rw [if_pos rfl, if_pos rfl, Bool.and_assoc]
    exact bind_of (spec_l01In_eq _ _ _) (and_of (fun _ => bind_of (spec_l01In_eq _ _ _) (and_of (fun _ => e) rfl)) rfl)
  | false =>
    rw [if_neg Bool.false_ne_true, if_neg Bool.false_ne_true]
    unfold noneB
    rw [Bool.and_assoc]
    exact and_ofP (fun _ => and_ofP (fun _ => e) rfl) rfl


theorem spec_OutShape_ev (h w c kd ou sz st mu sh ze : Int) (W B : List Int) (hW : (W.length : Int) ≤ 9223372036854775807) (hB : (B.length : Int) ≤ 9223372036854775807) : Evp fun k => spec_OutShape.f k h w c kd ou sz st mu sh ze W B = some (outShape h w c kd ou sz st mu sh ze W B) := by
  have j0t : Evp fun k => spec_OutShape.j0 k true h w c kd ou sz st mu sh ze W B 0 0 0 = some sh0 := evSuc (evAll fun k => by
    simp only [spec_OutShape.j0]
    exact ite_yes trivial rfl)
  by_cases hs : shapeOk h w c = true
  case neg =>
    refine evMono j0t fun k e => ?_
    unfold outShape
    rw [if_neg hs]
    exact bind_of (spec_ShapeOk_eq h w c) (ite_no hs e)
  by_cases hk : 0 ≤ kd ∧ kd ≤ 5
  case neg =>
    refine evMono j0t fun k e => ?_
    unfold outShape
    rw [if_pos hs, if_neg (by omega), if_neg (by omega), if_neg (by omega), if_neg (by omega), if_neg (by omega)]
    refine bind_of (spec_ShapeOk_eq h w c) (ite_yes hs (bind_of (spec_l01In_eq _ _ _) ?_))
    rw [decide_eq_false hk]
    exact e
  obtain ⟨dh, dw, dc⟩ := shape_dims hs
  have hsz := size_b hs
  have eS : spec_SizeOf.f h w c = some (h * w * c) := by
    rw [spec_SizeOf_eq]
    unfold sizeOf
    rw [if_pos hs]
  have pl := spec_l03Plain_ev kd ou sz st mu sh ze W B (rng kd 1 3) (decide (kd ≤ 1)) hW hB
  refine evMono (evSuc (p := fun k => spec_OutShape.j0 k false h w c kd ou sz st mu sh ze W B 0 0 0 = some (outShape h w c kd ou sz st mu sh ze W B)) (evMono (evAnd pl (evSuc (p := fun k => ∀ x y z, spec_OutShape.j1 k h w c kd ou sz st mu sh ze W B 0 0 0 x y z = (if kd = 0 then (if h * w * c > 64 then some sh0 else if (W.length : Int) = wrap64 (ou * (h * w * c)) then some (1, 1, ou, true) else some sh0) else if kd = 1 then (if (W.length : Int) = wrap64 (wrap64 (wrap64 (ou * sz) * sz) * c) then (if (W.length : Int) > 600 then some sh0 else some (x, y, ou, true)) else some sh0) else if kd = 5 then (if h * w * c > 8 then some sh0 else some (1, 1, h * w * c, true)) else some (x, y, z, true))) (evAll fun k x y z => ?_))) fun k ⟨e, j1⟩ => ?_)) fun k e => ?_
  · simp only [spec_OutShape.j1]
    rw [eS]
    simp only [Option.bind_some]
    rfl
  · simp only [spec_OutShape.j0]
    refine ite_no (by simp) (bind_of (spec_l01In_eq _ _ _) (bind_of e ?_))
    unfold outShape
    rw [if_pos hs]
    show (if plainB kd ou sz st mu sh ze W B (rng kd 1 3) (decide (kd ≤ 1)) = true then (if rng kd 1 3 = true then _ else _) else _) = _
    rcases (by omega : kd = 0 ∨ kd = 1 ∨ (kd = 2 ∨ kd = 3) ∨ kd = 4 ∨ kd = 5) with rfl | rfl | k23 | rfl | rfl
    · rw [show rng 0 1 3 = false from rfl, show decide ((0 : Int) ≤ 1) = true from rfl, if_pos (rfl : (0 : Int) = 0)]
      by_cases hp : plainB 0 ou sz st mu sh ze W B false true = true
      · rw [if_pos hp, if_neg Bool.false_ne_true, j1, if_pos (rfl : (0 : Int) = 0)]
        simp only [plainB, Bool.and_eq_true, rng_iff, decide_eq_true_eq, if_true, Bool.false_eq_true, if_false] at hp
        obtain ⟨p1, p2, p3, p4, p5, p6, p7, p8⟩ := hp
        rw [small_mul (by omega) (by omega) (by omega) (by omega)]
        by_cases c1 : h * w * c > 64
        · rw [if_pos c1, if_neg (fun z => by omega)]
        · rw [if_neg c1]
          by_cases c2 : (W.length : Int) = ou * (h * w * c)
          · rw [if_pos c2, if_pos ⟨by omega, p1, scaledB_iff.2 ⟨p2, p3, p4, p5, c2, p8, p6, p7⟩⟩]
          · rw [if_neg c2, if_neg (fun z => c2 (scaledB_iff.1 z.2.2).2.2.2.2.1)]
      · rw [if_neg hp, if_neg (fun z => hp ?_)]
        · rfl
        · obtain ⟨q1, q2, q3, q4, q5, q6, q7, q8⟩ := scaledB_iff.1 z.2.2
          simp only [plainB, Bool.and_eq_true, rng_iff, decide_eq_true_eq, if_true, Bool.false_eq_true, if_false]
          exact ⟨z.2.1, q1, q2, q3, q4, q7, q8, q6⟩
    · rw [show rng 1 1 3 = true from rfl, show decide ((1 : Int) ≤ 1) = true from rfl, if_neg (show ¬ (1 : Int) = 0 by decide), if_pos (rfl : (1 : Int) = 1)]
      by_cases hp : plainB 1 ou sz st mu sh ze W B true true = true
      · rw [if_pos hp, if_pos rfl]
        simp only [plainB, Bool.and_eq_true, rng_iff, decide_eq_true_eq, if_true] at hp
        obtain ⟨⟨p0, p1⟩, p2, p3, p4, p5, p6, p7, p8⟩ := hp
        have ar := area_b p0.1 p0.2 dc.1 dc.2
        by_cases c1 : sz > h
        · rw [if_pos c1, if_neg (fun z => by have := windB_iff.1 z.1; omega)]
          rfl
        rw [if_neg c1]
        by_cases c2 : sz > w
        · rw [if_pos c2, if_neg (fun z => by have := windB_iff.1 z.1; omega)]
          rfl
        rw [if_neg c2, if_neg (show ¬ st = 0 by omega), j1, if_neg (show ¬ (1 : Int) = 0 by decide), if_pos (rfl : (1 : Int) = 1), win_dims (by omega) (by omega) (by omega) (by omega), win_dims (by omega) (by omega) (by omega) (by omega)]
        have e3 : wrap64 (wrap64 (wrap64 (ou * sz) * sz) * c) = ou * (sz * sz * c) := by
          have b1 := bnd_mul (a := ou) (b := sz) (A := 8) (B := 3) (by omega) (by omega) (by omega) (by omega)
          have b2 := bnd_mul (a := ou * sz) (b := sz) (A := 24) (B := 3) (by omega) (by omega) (by omega) (by omega)
          have b3 := bnd_mul (a := ou * sz * sz) (b := c) (A := 72) (B := 8) (by omega) (by omega) (by omega) (by omega)
          rw [w64' (x := ou * sz) (by omega) (by omega), w64' (x := ou * sz * sz) (by omega) (by omega), w64' (by omega) (by omega)]
          ac_rfl
        rw [e3]
        by_cases c3 : (W.length : Int) = ou * (sz * sz * c)
        · rw [if_pos c3]
          by_cases c4 : (W.length : Int) > 600
          · rw [if_pos c4, if_neg (fun z => by omega)]
          · rw [if_neg c4, if_pos ⟨windB_iff.2 ⟨⟨p0, by omega, by omega⟩, p1⟩, by omega, scaledB_iff.2 ⟨p2, p3, p4, p5, c3, p8, p6, p7⟩⟩]
        · rw [if_neg c3, if_neg (fun z => c3 (scaledB_iff.1 z.2.2).2.2.2.2.1)]
      · rw [if_neg hp, if_neg (fun z => hp ?_)]
        · rfl
        · obtain ⟨q1, q2, q3, q4, q5, q6, q7, q8⟩ := scaledB_iff.1 z.2.2
          obtain ⟨⟨w1, w2, w3⟩, w4⟩ := windB_iff.1 z.1
          simp only [plainB, Bool.and_eq_true, rng_iff, decide_eq_true_eq, if_true]
          exact ⟨⟨w1, w4⟩, q1, q2, q3, q4, q7, q8, q6⟩
    · have hr : rng kd 1 3 = true := rng_iff.2 (by omega)
      have hd : decide (kd ≤ 1) = false := decide_eq_false (by omega)
      have hv : valB kd ze = decide (ze = 0) := by unfold valB; rw [if_neg (by omega)]
      rw [hr, hd, if_neg (show ¬ kd = 0 by omega), if_neg (show ¬ kd = 1 by omega), if_pos k23]
      by_cases hp : plainB kd ou sz st mu sh ze W B true false = true
      · rw [if_pos hp, if_pos rfl]
        simp only [plainB, Bool.and_eq_true, rng_iff, decide_eq_true_eq, if_true, Bool.false_eq_true, if_false, hv] at hp
        obtain ⟨⟨p0, p1⟩, p2, p3⟩ := hp
        by_cases c1 : sz > h
        · rw [if_pos c1, if_neg (fun z => by have := windB_iff.1 z.1; omega)]
          rfl
        rw [if_neg c1]
        by_cases c2 : sz > w
        · rw [if_pos c2, if_neg (fun z => by have := windB_iff.1 z.1; omega)]
          rfl
        rw [if_neg c2, if_neg (show ¬ st = 0 by omega), j1, if_neg (show ¬ kd = 0 by omega), if_neg (show ¬ kd = 1 by omega), if_neg (show ¬ kd = 5 by omega), win_dims (by omega) (by omega) (by omega) (by omega), win_dims (by omega) (by omega) (by omega) (by omega), if_pos ⟨windB_iff.2 ⟨⟨p0, by omega, by omega⟩, p1⟩, p2, p3⟩]
      · rw [if_neg hp, if_neg (fun z => hp ?_)]
        · rfl
        · obtain ⟨⟨w1, w2, w3⟩, w4⟩ := windB_iff.1 z.1
          simp only [plainB, Bool.and_eq_true, rng_iff, decide_eq_true_eq, if_true, Bool.false_eq_true, if_false, hv]
          exact ⟨⟨w1, w4⟩, z.2.1, z.2.2⟩
    · rw [show rng 4 1 3 = false from rfl, show decide ((4 : Int) ≤ 1) = false from rfl, if_neg (show ¬ (4 : Int) = 0 by decide), if_neg (show ¬ (4 : Int) = 1 by decide), if_neg (show ¬ ((4 : Int) = 2 ∨ (4 : Int) = 3) by decide), if_pos (rfl : (4 : Int) = 4)]
      by_cases hp : plainB 4 ou sz st mu sh ze W B false false = true
      · rw [if_pos hp, if_neg Bool.false_ne_true, j1, if_neg (show ¬ (4 : Int) = 0 by decide), if_neg (show ¬ (4 : Int) = 1 by decide), if_neg (show ¬ (4 : Int) = 5 by decide)]
        simp only [plainB, Bool.and_eq_true, Bool.false_eq_true, if_false] at hp
        rw [if_pos ⟨hp.1, hp.2.1, hp.2.2⟩]
      · rw [if_neg hp, if_neg (fun z => hp ?_)]
        · rfl
        · simp only [plainB, Bool.and_eq_true, Bool.false_eq_true, if_false]
          exact ⟨z.1, z.2.1, z.2.2⟩
    · rw [show rng 5 1 3 = false from rfl, show decide ((5 : Int) ≤ 1) = false from rfl, if_neg (show ¬ (5 : Int) = 0 by decide), if_neg (show ¬ (5 : Int) = 1 by decide), if_neg (show ¬ ((5 : Int) = 2 ∨ (5 : Int) = 3) by decide), if_neg (show ¬ (5 : Int) = 4 by decide), if_pos (rfl : (5 : Int) = 5)]
      have hv : valB 5 ze = decide (ze = 0) := rfl
      by_cases hp : plainB 5 ou sz st mu sh ze W B false false = true
      · rw [if_pos hp, if_neg Bool.false_ne_true, j1, if_neg (show ¬ (5 : Int) = 0 by decide), if_neg (show ¬ (5 : Int) = 1 by decide), if_pos (rfl : (5 : Int) = 5)]
        simp only [plainB, Bool.and_eq_true, Bool.false_eq_true, if_false, hv, decide_eq_true_eq] at hp
        by_cases c1 : h * w * c > 8
        · rw [if_pos c1, if_neg (fun z => by omega)]
        · rw [if_neg c1, if_pos ⟨hp.1, hp.2.1, hp.2.2, by omega⟩]
      · rw [if_neg hp, if_neg (fun z => hp ?_)]
        · rfl
        · simp only [plainB, Bool.and_eq_true, Bool.false_eq_true, if_false, hv, decide_eq_true_eq]
          exact ⟨z.1, z.2.1, z.2.2.1⟩
  · refine bind_of (spec_ShapeOk_eq h w c) (ite_yes hs (bind_of (spec_l01In_eq _ _ _) ?_))
    rw [decide_eq_true hk]
    exact e


theorem impl_Layer_isScaled_1_eq (x : Int) : impl_Layer_isScaled_1.f x = some (!rng x (-1000000) 1000000) := by
  unfold impl_Layer_isScaled_1.f
  rw [impl_in_eq]
  rfl


theorem indexBias_l0 (l : List Int) (hl : l.length ≤ 9223372036854775807) : ∀ (d i : Nat), i + d = l.length → ∃ r, (Evp fun k => slices_IndexFunc_int_int_impl_Layer_isScaled_1.l0 k l (l.length : Int) (i : Int) = some r) ∧ (decide (r ≥ 0) = !(l.drop i).all fun x => rng x (-1000000) 1000000)
  | 0, i, hi => ⟨-1, evSuc (evAll fun k => by
    simp only [slices_IndexFunc_int_int_impl_Layer_isScaled_1.l0]
    rw [if_neg (by omega)]), by rw [List.drop_eq_nil_of_le (by omega)]; rfl⟩
  | d + 1, i, hi => by
    have hlt : i < l.length := by omega
    rw [all_at hlt]
    cases hx : rng l[i] (-1000000) 1000000 with
    | true =>
      obtain ⟨r, h1, h2⟩ := indexBias_l0 l hl d (i + 1) (by omega)
      refine ⟨r, evSuc (evMono h1 fun k ih => ?_), by simpa using h2⟩
      simp only [slices_IndexFunc_int_int_impl_Layer_isScaled_1.l0]
      rw [if_pos (by omega), if_pos (by omega), if_pos (by omega), rd_eq hlt, impl_Layer_isScaled_1_eq, hx]
      simp only [Option.bind_some]
      rw [if_neg (by simp), w64' (by omega) (by omega)]
      exact ih
    | false =>
      refine ⟨(i : Int), evSuc (evAll fun k => ?_), by simp⟩
      simp only [slices_IndexFunc_int_int_impl_Layer_isScaled_1.l0]
      rw [if_pos (by omega), if_pos (by omega), if_pos (by omega), rd_eq hlt, impl_Layer_isScaled_1_eq, hx]
      simp


theorem impl_Layer_isScaled_ev (kd ou sz st mu sh ze : Int) (W B : List Int) (n : Int) (hW : (W.length : Int) ≤ 9223372036854775807) (hB : (B.length : Int) ≤ 9223372036854775807) (hn : 0 ≤ n ∧ n ≤ 4096) : Evp fun k => impl_Layer_isScaled.f k kd ou sz st mu sh ze W B n = some (scaledB ou mu sh ze W B n) := by
  obtain ⟨r, h1, h2⟩ := indexBias_l0 B (by omega) B.length 0 (by omega)
  refine evMono (evAnd (impl_areItems_ev W (by omega)) h1) fun k ⟨e1, e2⟩ => ?_
  have e3 : slices_ContainsFunc_int_int_impl_Layer_isScaled_1.f k B = some (!biasB B) := bind_of (f := fun t => some (decide (t ≥ 0))) e2 (by rw [h2]; rfl)
  unfold scaledB
  refine bind_of (impl_in_eq _ _ _) (and_of (fun z => bind_of (impl_in_eq _ _ _) (and_of (fun _ => bind_of (impl_in_eq _ _ _) (and_of (fun _ => bind_of (impl_in_eq _ _ _) (and_of (fun _ => ?_) rfl)) rfl)) rfl)) rfl)
  have z' : 1 ≤ ou ∧ ou ≤ 8 := of_decide_eq_true z
  rw [small_mul z'.1 z'.2 hn.1 hn.2]
  exact and_ofP (fun _ => bind_of e1 (and_of (fun _ => and_ofP (fun _ => bind_of e3 (by simp)) rfl) rfl)) rfl


theorem impl_Layer_isWindow_eq (kd ou sz st mu sh ze : Int) (W B : List Int) (h w c : Int) : impl_Layer_isWindow.f kd ou sz st mu sh ze W B h w c = some (windB sz st h w) := by
  refine bind_of (impl_in_eq _ _ _) ?_
  have e : decide (1 ≤ sz ∧ sz ≤ mn (mn 3 h) w) = (rng sz 1 3 && (decide (sz ≤ h) && decide (sz ≤ w))) := by
    rw [Bool.eq_iff_iff]
    simp only [rng, Bool.and_eq_true, decide_eq_true_eq]
    unfold mn
    repeat' split
    all_goals omega
  rw [e]
  exact and_of (fun _ => bind_of (impl_in_eq _ _ _) rfl) rfl
theorem impl_Layer_isBare_eq (kd ou sz st mu sh ze : Int) (W B : List Int) : impl_Layer_isBare.f kd ou sz st mu sh ze W B = some (bareB ou mu sh W B) :=
  and_ofP (fun _ => and_ofP (fun _ => and_ofP (fun _ => and_ofP (fun _ => rfl) rfl) rfl) rfl) rfl
theorem impl_Layer_hasNone_eq (kd ou sz st mu sh ze : Int) (W B : List Int) : impl_Layer_hasNone.f kd ou sz st mu sh ze W B = some (noneB sz st) :=
  and_ofP (fun _ => rfl) rfl
theorem impl_Layer_windows_eq (kd ou sz st mu sh ze : Int) (W B : List Int) (h w c x : Int) (h1 : h ≤ 8) (w1 : w ≤ 8) (hw : windB sz st h w = true) : impl_Layer_windows.f kd ou sz st mu sh ze W B h w c x = some ((h - sz) / st + 1, (w - sz) / st + 1, x) := by
  obtain ⟨⟨z1, z2, z3⟩, z4⟩ := windB_iff.1 hw
  refine ite_no (by omega) ?_
  rw [win_dims (by omega) (by omega) (by omega) (by omega), win_dims (by omega) (by omega) (by omega) (by omega)]
theorem ite3 {α : Type} {A B C : Prop} [Decidable A] [Decidable B] [Decidable C] {x y : α} : (if A ∧ B ∧ C then x else y) = (if A then (if B then (if C then x else y) else y) else y) := by
  by_cases a : A <;> by_cases b : B <;> by_cases c : C <;> simp [a, b, c]
theorem ite2 {α : Type} {A B : Prop} [Decidable A] [Decidable B] {x y : α} : (if A ∧ B then x else y) = (if A then (if B then x else y) else y) := by
  by_cases a : A <;> by_cases b : B <;> simp [a, b]
theorem ite_some {β : Type} {P : Prop} [Decidable P] {x y : Option β} {a b : β} (hx : P → x = some a) (hy : ¬ P → y = some b) : (if P then x else y) = some (if P then a else b) := by
  by_cases h : P
  · rw [if_pos h, if_pos h, hx h]
  · rw [if_neg h, if_neg h, hy h]
theorem impl_OutShape_ev (h w c kd ou sz st mu sh ze : Int) (W B : List Int) (hW : (W.length : Int) ≤ 9223372036854775807) (hB : (B.length : Int) ≤ 9223372036854775807) : Evp fun k => impl_OutShape.f k h w c kd ou sz st mu sh ze W B = some (outShape h w c kd ou sz st mu sh ze W B) := by
  by_cases hs : shapeOk h w c = true
  case neg =>
    refine evAll fun k => ?_
    unfold outShape
    rw [if_neg hs]
    exact bind_of (impl_ShapeOk_eq h w c) (ite_no hs rfl)
  obtain ⟨dh, dw, dc⟩ := shape_dims hs
  have hsz := size_b hs
  have eS : impl_SizeOf.f h w c = some (h * w * c) := by
    rw [impl_SizeOf_eq]
    unfold sizeOf
    rw [if_pos hs]
  unfold outShape
  rw [if_pos hs]
  by_cases k0 : kd = 0
  · rw [if_pos k0, ite3]
    exact evMono (impl_Layer_isScaled_ev kd ou sz st mu sh ze W B (h * w * c) hW hB (by omega)) fun k e => bind_of (impl_ShapeOk_eq h w c) (ite_yes hs (bind_of eS (ite_yes k0 (ite_some (fun _ => bind_of (impl_Layer_hasNone_eq _ _ _ _ _ _ _ _ _) (ite_some (fun _ => bind_of e (ite_some (fun _ => rfl) fun _ => rfl)) fun _ => rfl)) fun _ => rfl))))
  rw [if_neg k0]
  by_cases k1 : kd = 1
  · rw [if_pos k1]
    by_cases c1 : windB sz st h w = true
    · obtain ⟨⟨z1, z2, z3⟩, z4⟩ := windB_iff.1 c1
      have ar := area_b z1.1 z1.2 dc.1 dc.2
      rw [ite3, if_pos c1]
      refine evMono (impl_Layer_isScaled_ev kd ou sz st mu sh ze W B (sz * sz * c) hW hB (by omega)) fun k e => bind_of (impl_ShapeOk_eq h w c) (ite_yes hs (bind_of eS (ite_no k0 (ite_yes k1 (bind_of (impl_Layer_isWindow_eq _ _ _ _ _ _ _ _ _ _ _ _) (ite_yes c1 (ite_some (fun c2 => ?_) fun _ => rfl)))))))
      rw [show wrap64 ((wrap64 (sz * sz)) * c) = sz * sz * c by rw [w64' (x := sz * sz) (by omega) (by omega), w64' (by omega) (by omega)]]
      exact bind_of e (ite_some (fun c3 => bind_of (impl_Layer_windows_eq kd ou sz st mu sh ze W B h w c ou (by omega) (by omega) c1) rfl) fun _ => rfl)
    · refine evAll fun k => bind_of (impl_ShapeOk_eq h w c) (ite_yes hs (bind_of eS (ite_no k0 (ite_yes k1 (bind_of (impl_Layer_isWindow_eq _ _ _ _ _ _ _ _ _ _ _ _) (ite_no c1 ?_))))))
      rw [if_neg (fun z => c1 z.1)]
      rfl
  rw [if_neg k1]
  have jt : Evp fun k => impl_OutShape.j0 k (h * w * c) kd true h w c kd ou sz st mu sh ze W B = some (if windB sz st h w = true ∧ bareB ou mu sh W B = true ∧ ze = 0 then ((h - sz) / st + 1, (w - sz) / st + 1, c, true) else sh0) := evSuc (evAll fun k => by
    rw [ite3]
    simp only [impl_OutShape.j0]
    exact ite_yes trivial (bind_of (impl_Layer_isWindow_eq _ _ _ _ _ _ _ _ _ _ _ _) (ite_some (fun c1 => bind_of (impl_Layer_isBare_eq _ _ _ _ _ _ _ _ _) (ite_some (fun c2 => ite_some (fun c3 => bind_of (impl_Layer_windows_eq kd ou sz st mu sh ze W B h w c c (by omega) (by omega) c1) rfl) fun _ => rfl) fun _ => rfl)) fun _ => rfl)))
  by_cases k2 : kd = 2
  · rw [if_pos (Or.inl k2)]
    refine evMono jt fun k e => bind_of (impl_ShapeOk_eq h w c) (ite_yes hs (bind_of eS (ite_no k0 (ite_no k1 (ite_yes k2 ?_)))))
    rw [show (kd == 2) = true by simp [k2]]
    exact e
  by_cases k3 : kd = 3
  · rw [if_pos (Or.inr k3)]
    refine evMono jt fun k e => bind_of (impl_ShapeOk_eq h w c) (ite_yes hs (bind_of eS (ite_no k0 (ite_no k1 (ite_no k2 ?_)))))
    rw [show (kd == 3) = true by simp [k3]]
    exact e
  rw [if_neg (show ¬ (kd = 2 ∨ kd = 3) by omega)]
  refine evMono (evSuc (p := fun k => impl_OutShape.j0 k (h * w * c) kd false h w c kd ou sz st mu sh ze W B = some (if kd = 4 then if noneB sz st = true ∧ bareB ou mu sh W B = true ∧ rng ze (-128) 127 = true then (h, w, c, true) else sh0
    else if kd = 5 then if noneB sz st = true ∧ bareB ou mu sh W B = true ∧ ze = 0 ∧ h * w * c ≤ 8 then (1, 1, h * w * c, true) else sh0
    else sh0)) (evAll fun k => ?_)) fun k e => bind_of (impl_ShapeOk_eq h w c) (ite_yes hs (bind_of eS (ite_no k0 (ite_no k1 (ite_no k2 ?_)))))
  · rw [ite3, ite3, ite2]
    simp only [impl_OutShape.j0]
    exact ite_no Bool.false_ne_true (ite_some (fun _ => bind_of (impl_Layer_hasNone_eq _ _ _ _ _ _ _ _ _) (ite_some (fun _ => bind_of (impl_Layer_isBare_eq _ _ _ _ _ _ _ _ _) (ite_some (fun _ => bind_of (impl_in_eq _ _ _) (ite_some (fun _ => rfl) fun _ => rfl)) fun _ => rfl)) fun _ => rfl)) fun _ =>
      ite_some (fun _ => bind_of (impl_Layer_hasNone_eq _ _ _ _ _ _ _ _ _) (ite_some (fun _ => bind_of (impl_Layer_isBare_eq _ _ _ _ _ _ _ _ _) (ite_some (fun _ => ite_some (fun _ => ite_some (fun _ => rfl) fun _ => rfl) fun _ => rfl) fun _ => rfl)) fun _ => rfl)) fun _ => rfl)
  · rw [show (kd == 3) = false by simp [k3]]
    exact e


def costOf (h w c kd sz : Int) (X : Int × Int × Int × Bool) : Int :=
  if X.2.2.2 = true then
    (if kd = 0 then wrap64 (1 + wrap64 (Int.tdiv (wrap64 (sizeOf X.1 X.2.1 X.2.2.1 * sizeOf h w c)) 16))
     else if kd = 1 then wrap64 (1 + wrap64 (Int.tdiv (wrap64 (wrap64 (wrap64 (sizeOf X.1 X.2.1 X.2.2.1 * sz) * sz) * c)) 16))
     else if kd = 2 then wrap64 (1 + wrap64 (Int.tdiv (wrap64 (wrap64 (sizeOf X.1 X.2.1 X.2.2.1 * sz) * sz)) 16))
     else if kd = 3 then wrap64 (1 + wrap64 (Int.tdiv (wrap64 (wrap64 (sizeOf X.1 X.2.1 X.2.2.1 * sz) * sz)) 16))
     else wrap64 (1 + wrap64 (Int.tdiv (sizeOf h w c) 16)))
  else 0
theorem spec_CostOf_ev (h w c kd ou sz st mu sh ze : Int) (W B : List Int) (hW : (W.length : Int) ≤ 9223372036854775807) (hB : (B.length : Int) ≤ 9223372036854775807) : Evp fun k => spec_CostOf.f k h w c kd ou sz st mu sh ze W B = some (costOf h w c kd sz (outShape h w c kd ou sz st mu sh ze W B)) :=
  evMono (spec_OutShape_ev h w c kd ou sz st mu sh ze W B hW hB) fun k e => bind_of e (ite_some (fun _ => bind_of (spec_SizeOf_eq _ _ _) (ite_some (fun _ => bind_of (spec_SizeOf_eq _ _ _) (bind_of (spec_SizeOf_eq _ _ _) rfl)) fun _ => ite_some (fun _ => bind_of (spec_SizeOf_eq _ _ _) rfl) fun _ => ite_some (fun _ => bind_of (spec_SizeOf_eq _ _ _) rfl) fun _ => ite_some (fun _ => bind_of (spec_SizeOf_eq _ _ _) rfl) fun _ => rfl)) fun _ => rfl)


theorem impl_CostOf_ev (h w c kd ou sz st mu sh ze : Int) (W B : List Int) (hW : (W.length : Int) ≤ 9223372036854775807) (hB : (B.length : Int) ≤ 9223372036854775807) : Evp fun k => impl_CostOf.f k h w c kd ou sz st mu sh ze W B = some (costOf h w c kd sz (outShape h w c kd ou sz st mu sh ze W B)) :=
  evMono (impl_OutShape_ev h w c kd ou sz st mu sh ze W B hW hB) fun k e => bind_of e (ite_some (fun _ => bind_of (impl_SizeOf_eq _ _ _) (ite_some (fun _ => bind_of (impl_SizeOf_eq _ _ _) (by rw [Int.mul_comm])) fun _ => ite_some (fun _ => bind_of (impl_SizeOf_eq _ _ _) rfl) fun _ => ite_some (fun _ => bind_of (impl_SizeOf_eq _ _ _) rfl) fun _ => ite_some (fun _ => bind_of (impl_SizeOf_eq _ _ _) rfl) fun _ => rfl)) fun _ => rfl)


/-- A part of a list: n from place i on. -/
def part (l : List Int) (i n : Nat) : List Int := (l.drop i).take n


theorem dotGo_app : ∀ (a a' b b' : List Int) (s : Int), a.length = a'.length → dotGo (a ++ b) (a' ++ b') s = dotGo b b' (dotGo a a' s)
  | [], [], b, b', s, _ => rfl
  | x :: a, y :: a', b, b', s, h => by
    simp only [List.cons_append, dotGo]
    exact dotGo_app a a' b b' _ (by simpa using h)
  | [], _ :: _, _, _, _, h => by simp at h
  | _ :: _, [], _, _, _, h => by simp at h
theorem part_len {l : List Int} {i n : Nat} (h : i + n ≤ l.length) : (part l i n).length = n := by
  unfold part
  rw [List.length_take, List.length_drop]
  omega
theorem part_app (l : List Int) (i n m : Nat) : part l i n ++ part l (i + n) m = part l i (n + m) := by
  unfold part
  rw [List.take_add, List.drop_drop]
theorem part_zero (l : List Int) (i : Nat) : part l i 0 = [] := by simp [part]
theorem part_cons {l : List Int} {i n : Nat} (h : i < l.length) : part l i (n + 1) = l[i] :: part l (i + 1) n := by
  unfold part
  rw [List.drop_eq_getElem_cons h, List.take_succ_cons]
/-- The windows' numbers, all channels: m rows from j on. -/
def rowW (d : List Int) (w c : Nat) (x y : Nat) : Nat → Nat → List Int
  | 0, _ => []
  | n + 1, j => part d ((x * w + (y + j)) * c) c ++ rowW d w c x y n (j + 1)
def winW (d : List Int) (w c sz : Nat) (x y : Nat) : Nat → Nat → List Int
  | 0, _ => []
  | n + 1, i => rowW d w c (x + i) y sz 0 ++ winW d w c sz x y n (i + 1)
theorem widx (o sz i j c ch : Nat) (ho : o ≤ 8) (hs : sz ≤ 3) (hi : i ≤ 3) (hj : j ≤ 3) (hc : c ≤ 8) (hh : ch ≤ 8) : wrap64 ((wrap64 ((wrap64 ((wrap64 ((wrap64 ((wrap64 ((o : Int) * (sz : Int))) + (i : Int))) * (sz : Int))) + (j : Int))) * (c : Int))) + (ch : Int)) = ((((o * sz + i) * sz + j) * c + ch : Nat) : Int) := by
  have b1 : o * sz ≤ 8 * 3 := Nat.mul_le_mul ho hs
  have b2 : (o * sz + i) * sz ≤ 27 * 3 := Nat.mul_le_mul (by omega) hs
  have b3 : ((o * sz + i) * sz + j) * c ≤ 84 * 8 := Nat.mul_le_mul (by omega) hc
  rw [show (o : Int) * (sz : Int) = ((o * sz : Nat) : Int) by simp, w64' (x := ((o * sz : Nat) : Int)) (by omega) (by omega), show ((o * sz : Nat) : Int) + (i : Int) = ((o * sz + i : Nat) : Int) by simp, w64' (x := ((o * sz + i : Nat) : Int)) (by omega) (by omega)]
  rw [show ((o * sz + i : Nat) : Int) * (sz : Int) = (((o * sz + i) * sz : Nat) : Int) by simp, w64' (x := (((o * sz + i) * sz : Nat) : Int)) (by omega) (by omega), show (((o * sz + i) * sz : Nat) : Int) + (j : Int) = (((o * sz + i) * sz + j : Nat) : Int) by simp, w64' (x := (((o * sz + i) * sz + j : Nat) : Int)) (by omega) (by omega)]
  rw [show (((o * sz + i) * sz + j : Nat) : Int) * (c : Int) = ((((o * sz + i) * sz + j) * c : Nat) : Int) by simp, w64' (x := ((((o * sz + i) * sz + j) * c : Nat) : Int)) (by omega) (by omega), show ((((o * sz + i) * sz + j) * c : Nat) : Int) + (ch : Int) = ((((o * sz + i) * sz + j) * c + ch : Nat) : Int) by simp]
  exact w64' (by omega) (by omega)
theorem pidx (p st i : Nat) (hp : p ≤ 8) (hs : st ≤ 2) (hi : i ≤ 3) : wrap64 ((wrap64 ((p : Int) * (st : Int))) + (i : Int)) = ((p * st + i : Nat) : Int) := by
  have b1 : p * st ≤ 8 * 2 := Nat.mul_le_mul hp hs
  rw [show (p : Int) * (st : Int) = ((p * st : Nat) : Int) by simp, w64' (x := ((p * st : Nat) : Int)) (by omega) (by omega), show ((p * st : Nat) : Int) + (i : Int) = ((p * st + i : Nat) : Int) by simp]
  exact w64' (by omega) (by omega)
/-- An item at its place. -/
theorem itemAt_at {h w c : Nat} {d : List Int} (ht : tensorOk (h : Int) (w : Int) (c : Int) d = true) {x y z : Nat} (hx : x < h) (hy : y < w) (hz : z < c) : (x * w + y) * c + z < d.length ∧ itemAt (h : Int) (w : Int) (c : Int) d (x : Int) (y : Int) (z : Int) = (d.getD ((x * w + y) * c + z) 0, true) := by
  obtain ⟨hs, hl, _⟩ := tensorOk_iff.1 ht
  have hb := place_b (i := (x : Int)) (j := (y : Int)) (l := (z : Int)) hs ⟨by omega, by omega⟩ ⟨by omega, by omega⟩ ⟨by omega, by omega⟩
  have hp : placeOf (h : Int) (w : Int) (c : Int) (x : Int) (y : Int) (z : Int) = (((x * w + y) * c + z : Nat) : Int) := by
    unfold placeOf placeIn
    rw [if_pos ⟨hs, ⟨by omega, by omega⟩, ⟨by omega, by omega⟩, ⟨by omega, by omega⟩⟩]
    simp
  have hq : placeIn (w : Int) (c : Int) (x : Int) (y : Int) (z : Int) = (((x * w + y) * c + z : Nat) : Int) := by
    unfold placeIn
    simp
  refine ⟨by have := hb.2.2.2.2.2.2.1; omega, ?_⟩
  unfold itemAt
  rw [if_pos ⟨ht, by rw [hp]; omega⟩, hp, rd_nat]
theorem rowW_len {h w c : Nat} {d : List Int} (ht : tensorOk (h : Int) (w : Int) (c : Int) d = true) {x y : Nat} (hx : x < h) (hc1 : 1 ≤ c) : ∀ (n j : Nat), y + j + n ≤ w → (rowW d w c x y n j).length = n * c
  | 0, j, hj => by simp [rowW]
  | n + 1, j, hj => by
    obtain ⟨hd, -⟩ := itemAt_at ht hx (show y + j < w by omega) (show c - 1 < c by omega)
    rw [rowW, List.length_append, part_len (by omega), rowW_len ht hx hc1 n (j + 1) (by omega), Nat.add_mul]
    omega
theorem getD_in {l : List Int} {i : Nat} (h : i < l.length) : l.getD i 0 = l[i] := by simp [List.getD, h]
theorem spec_conv_l2 {h w c sz st p q o : Nat} {d W B : List Int} {kd ou mu sh ze : Int} (ht : tensorOk (h : Int) (w : Int) (c : Int) d = true) (hc8 : c ≤ 8) (hsz : sz ≤ 3) (hst : st ≤ 2) (hp : p ≤ 8) (hq : q ≤ 8) (ho : o ≤ 8) (hW : ∀ x ∈ W, -128 ≤ x ∧ x ≤ 127) {i j : Nat} (hi : i < sz) (hj : j < sz) (hx : p * st + i < h) (hy : q * st + j < w) (hWl : ((o * sz + i) * sz + j) * c + c ≤ W.length) (r : Int) : ∀ (m ch : Nat) (s : Int), ch + m = c → (Evp fun k => spec_l03Item.l1 k (p : Int) (q : Int) (o : Int) (dotGo (part d (((p * st + i) * w + (q * st + j)) * c + ch) m) (part W (((o * sz + i) * sz + j) * c + ch) m) s) (i : Int) ((j + 1 : Nat) : Int) (h : Int) (w : Int) (c : Int) d kd ou (sz : Int) (st : Int) mu sh ze W B (h : Int) (w : Int) (c : Int) = some r) → Evp fun k => spec_l03Item.l2 k (p : Int) (q : Int) (o : Int) s (i : Int) (j : Int) (ch : Int) (h : Int) (w : Int) (c : Int) d kd ou (sz : Int) (st : Int) mu sh ze W B (h : Int) (w : Int) (c : Int) = some r
  | 0, ch, s, hm, hk => evSuc (evMono hk fun k e => by
    simp only [spec_l03Item.l2]
    rw [if_neg (by omega), w64' (x := (j : Int) + 1) (by omega) (by omega), show (j : Int) + 1 = ((j + 1 : Nat) : Int) by omega]
    rw [part_zero, part_zero] at e
    exact e)
  | m + 1, ch, s, hm, hk => by
    obtain ⟨hd, hit⟩ := itemAt_at ht hx hy (show ch < c by omega)
    have hwi : ((o * sz + i) * sz + j) * c + ch < W.length := by omega
    have hxr := (tensorOk_iff.1 ht).2.2 _ (List.getElem_mem hd)
    have hwr := hW _ (List.getElem_mem hwi)
    rw [part_cons hd, part_cons hwi] at hk
    simp only [dotGo] at hk
    rw [sat8_id hxr.1 hxr.2, sat8_id hwr.1 hwr.2] at hk
    have hpr := bnd_mul (a := d[((p * st + i) * w + (q * st + j)) * c + ch]) (b := W[((o * sz + i) * sz + j) * c + ch]) (A := 128) (B := 128) (by omega) (by omega) (by omega) (by omega)
    have ih := spec_conv_l2 ht hc8 hsz hst hp hq ho hW hi hj hx hy hWl r m (ch + 1) (addSat s (d[((p * st + i) * w + (q * st + j)) * c + ch] * W[((o * sz + i) * sz + j) * c + ch])) (by omega) hk
    refine evSuc (evMono (evAnd (spec_ItemAt_ev (h : Int) (w : Int) (c : Int) d ((p * st + i : Nat) : Int) ((q * st + j : Nat) : Int) (ch : Int) (by have := tensorOk_len ht; omega)) (evAnd (spec_AddSat_ev s (d[((p * st + i) * w + (q * st + j)) * c + ch] * W[((o * sz + i) * sz + j) * c + ch])) ih)) fun k ⟨e1, e2, e3⟩ => ?_)
    simp only [spec_l03Item.l2]
    rw [if_pos (by omega), pidx p st i hp hst (by omega), pidx q st j hq hst (by omega), widx o sz i j c ch ho hsz (by omega) (by omega) hc8 (by omega)]
    refine bind_of e1 (ite_yes (by omega) (ite_yes (by omega) ?_))
    rw [hit, rd_nat, getD_in hd, getD_in hwi]
    dsimp only
    rw [w64' (by omega) (by omega)]
    refine bind_of e2 ?_
    rw [w64' (x := (ch : Int) + 1) (by omega) (by omega)]
    exact e3
theorem spec_conv_l1 {h w c sz st p q o : Nat} {d W B : List Int} {kd ou mu sh ze : Int} (ht : tensorOk (h : Int) (w : Int) (c : Int) d = true) (hc8 : c ≤ 8) (hsz : sz ≤ 3) (hst : st ≤ 2) (hp : p ≤ 8) (hq : q ≤ 8) (ho : o ≤ 8) (hW : ∀ x ∈ W, -128 ≤ x ∧ x ≤ 127) (hc1 : 1 ≤ c) {i : Nat} (hi : i < sz) (hx : p * st + i < h) (hy : q * st + sz ≤ w) (hWl : ((o * sz + i) * sz + sz) * c ≤ W.length) (r : Int) : ∀ (n j : Nat) (s : Int), j + n = sz → (Evp fun k => spec_l03Item.l0 k (p : Int) (q : Int) (o : Int) (dotGo (rowW d w c (p * st + i) (q * st) n j) (part W (((o * sz + i) * sz + j) * c) (n * c)) s) ((i + 1 : Nat) : Int) (h : Int) (w : Int) (c : Int) d kd ou (sz : Int) (st : Int) mu sh ze W B (h : Int) (w : Int) (c : Int) = some r) → Evp fun k => spec_l03Item.l1 k (p : Int) (q : Int) (o : Int) s (i : Int) (j : Int) (h : Int) (w : Int) (c : Int) d kd ou (sz : Int) (st : Int) mu sh ze W B (h : Int) (w : Int) (c : Int) = some r
  | 0, j, s, hm, hk => evSuc (evMono hk fun k e => by
    simp only [spec_l03Item.l1]
    rw [if_neg (by omega), w64' (x := (i : Int) + 1) (by omega) (by omega), show (i : Int) + 1 = ((i + 1 : Nat) : Int) by omega]
    rw [Nat.zero_mul, part_zero] at e
    exact e)
  | n + 1, j, s, hm, hk => by
    have hj : j < sz := by omega
    have hy' : q * st + j < w := by omega
    have hW1 : ((o * sz + i) * sz + j) * c + c ≤ ((o * sz + i) * sz + sz) * c := by
      have := Nat.mul_le_mul_right c (show (o * sz + i) * sz + j + 1 ≤ (o * sz + i) * sz + sz by omega)
      rw [Nat.add_mul] at this
      omega
    obtain ⟨hd, -⟩ := itemAt_at ht hx hy' (show c - 1 < c by omega)
    have e1 : (n + 1) * c = c + n * c := by rw [Nat.add_mul]; omega
    have e2 : ((o * sz + i) * sz + j) * c + c = ((o * sz + i) * sz + (j + 1)) * c := by rw [← Nat.add_assoc, Nat.add_mul ((o * sz + i) * sz + j) 1 c]; omega
    rw [rowW, e1, ← part_app, dotGo_app _ _ _ _ _ (by rw [part_len (by omega), part_len (by omega)]), e2] at hk
    have ih := spec_conv_l1 ht hc8 hsz hst hp hq ho hW hc1 hi hx hy hWl r n (j + 1) _ (by omega) hk
    have g := spec_conv_l2 ht hc8 hsz hst hp hq ho hW hi hj hx hy' (by omega) r c 0 s (by omega) (by simpa using ih)
    refine evSuc (evMono g fun k e => ?_)
    simp only [spec_l03Item.l1]
    exact ite_yes (by omega) e
theorem spec_conv_l0 {h w c sz st p q o : Nat} {d W B : List Int} {kd ou mu sh ze : Int} (ht : tensorOk (h : Int) (w : Int) (c : Int) d = true) (hc8 : c ≤ 8) (hsz : sz ≤ 3) (hst : st ≤ 2) (hp : p ≤ 8) (hq : q ≤ 8) (ho : o ≤ 8) (hW : ∀ x ∈ W, -128 ≤ x ∧ x ≤ 127) (hc1 : 1 ≤ c) (hx : p * st + sz ≤ h) (hy : q * st + sz ≤ w) (hWl : (o * sz + sz) * sz * c ≤ W.length) (hB : o < B.length) : ∀ (n i : Nat) (s : Int), i + n = sz → Evp fun k => spec_l03Item.l0 k (p : Int) (q : Int) (o : Int) s (i : Int) (h : Int) (w : Int) (c : Int) d kd ou (sz : Int) (st : Int) mu sh ze W B (h : Int) (w : Int) (c : Int) = some (requant (addSat (dotGo (winW d w c sz (p * st) (q * st) n i) (part W ((o * sz + i) * sz * c) (n * (sz * c))) s) B[o]) mu sh ze)
  | 0, i, s, hm => evSuc (evMono (evAnd (spec_AddSat_ev s B[o]) (spec_Requant_ev (addSat s B[o]) mu sh ze)) fun k ⟨e1, e2⟩ => by
    simp only [spec_l03Item.l0]
    rw [if_neg (by omega), Nat.zero_mul, part_zero]
    refine ite_yes (by omega) (ite_yes (by omega) ?_)
    rw [rd_eq hB]
    exact bind_of e1 (bind_of e2 rfl))
  | n + 1, i, s, hm => by
    have hi : i < sz := by omega
    have hW1 : ((o * sz + i) * sz + sz) * c ≤ (o * sz + sz) * sz * c := by
      refine Nat.mul_le_mul_right c ?_
      have := Nat.mul_le_mul_right sz (show o * sz + i + 1 ≤ o * sz + sz by omega)
      rw [Nat.add_mul] at this
      omega
    have e1 : (n + 1) * (sz * c) = sz * c + n * (sz * c) := by rw [Nat.add_mul]; omega
    have e2 : (o * sz + i) * sz * c + sz * c = (o * sz + (i + 1)) * sz * c := by rw [← Nat.add_assoc, Nat.succ_mul, Nat.add_mul ((o * sz + i) * sz) sz c]
    have e3 : ((o * sz + i) * sz + sz) * c = (o * sz + i) * sz * c + sz * c := by rw [Nat.add_mul]
    have ih := spec_conv_l0 (kd := kd) (ou := ou) (mu := mu) (sh := sh) (ze := ze) ht hc8 hsz hst hp hq ho hW hc1 hx hy hWl hB n (i + 1) (dotGo (rowW d w c (p * st + i) (q * st) sz 0) (part W ((o * sz + i) * sz * c) (sz * c)) s) (by omega)
    rw [winW, e1, ← part_app, dotGo_app _ _ _ _ _ (by rw [rowW_len ht (by omega) (by omega) sz 0 (by omega), part_len (by omega)]), e2]
    have g := spec_conv_l1 ht hc8 hsz hst hp hq ho hW hc1 hi (show p * st + i < h by omega) hy (by omega) _ sz 0 s (by omega) (by simpa using ih)
    refine evSuc (evMono g fun k e => ?_)
    simp only [spec_l03Item.l0]
    exact ite_yes (by omega) e


theorem place_w2 {a : Int} (x y w c : Nat) (hx : x ≤ 20) (hy : y ≤ 20) (hw : w ≤ 8) (hc : c ≤ 8) : impl_Shape_place.f a (w : Int) (c : Int) (x : Int) (y : Int) 0 = some (((x * w + y) * c : Nat) : Int) := by
  have b1 : x * w ≤ 20 * 8 := Nat.mul_le_mul hx hw
  have b2 : (x * w + y) * c ≤ 180 * 8 := Nat.mul_le_mul (by omega) hc
  unfold impl_Shape_place.f
  rw [show (x : Int) * (w : Int) = ((x * w : Nat) : Int) by simp, w64' (x := ((x * w : Nat) : Int)) (by omega) (by omega), show ((x * w : Nat) : Int) + (y : Int) = ((x * w + y : Nat) : Int) by simp, w64' (x := ((x * w + y : Nat) : Int)) (by omega) (by omega), show ((x * w + y : Nat) : Int) * (c : Int) = (((x * w + y) * c : Nat) : Int) by simp, w64' (x := (((x * w + y) * c : Nat) : Int)) (by omega) (by omega), Int.add_zero, w64' (by omega) (by omega)]
theorem impl_win_l1 {h w c sz st p q : Nat} {d W B : List Int} {kd ou mu sh ze : Int} (ht : tensorOk (h : Int) (w : Int) (c : Int) d = true) (hc1 : 1 ≤ c) (hc8 : c ≤ 8) (hw8 : w ≤ 8) (hsz : sz ≤ 3) (hst : st ≤ 2) (hp : p ≤ 8) (hq : q ≤ 8) {i : Nat} (hi : i < sz) (hx : p * st + i < h) (hy : q * st + sz ≤ w) (r : List Int) : ∀ (n j : Nat) (acc : List Int), j + n = sz → acc.length ≤ 1000000 + j * 8 → (Evp fun k => impl_Layer_window.l0 k (p : Int) (q : Int) (-1) (acc ++ rowW d w c (p * st + i) (q * st) n j) (sz : Int) ((i + 1 : Nat) : Int) kd ou (sz : Int) (st : Int) mu sh ze W B (h : Int) (w : Int) (c : Int) d = some r) → Evp fun k => impl_Layer_window.l1 k (p : Int) (q : Int) (-1) acc (i : Int) (sz : Int) (i : Int) (sz : Int) (j : Int) kd ou (sz : Int) (st : Int) mu sh ze W B (h : Int) (w : Int) (c : Int) d = some r
  | 0, j, acc, hm, ha, hk => evSuc (evMono hk fun k e => by
    simp only [impl_Layer_window.l1]
    rw [if_neg (by omega), w64' (x := (i : Int) + 1) (by omega) (by omega), show (i : Int) + 1 = ((i + 1 : Nat) : Int) by omega]
    simpa [rowW] using e)
  | n + 1, j, acc, hm, ha, hk => by
    have hy' : q * st + j < w := by omega
    obtain ⟨hd, -⟩ := itemAt_at ht hx hy' (show c - 1 < c by omega)
    have hl := tensorOk_len ht
    have hpl : (part d (((p * st + i) * w + (q * st + j)) * c) c).length = c := part_len (by omega)
    have bp : p * st ≤ 8 * 2 := Nat.mul_le_mul hp hst
    have bq : q * st ≤ 8 * 2 := Nat.mul_le_mul hq hst
    have ih := impl_win_l1 (kd := kd) (ou := ou) (mu := mu) (sh := sh) (ze := ze) (W := W) (B := B) ht hc1 hc8 hw8 hsz hst hp hq hi hx hy r n (j + 1) (acc ++ part d (((p * st + i) * w + (q * st + j)) * c) c) (by omega) (by rw [List.length_append, hpl]; omega) (by rw [rowW, ← List.append_assoc] at hk; exact hk)
    refine evSuc (evMono ih fun k e => ?_)
    simp only [impl_Layer_window.l1]
    rw [if_pos (by omega), pidx p st i hp hst (by omega), pidx q st j hq hst (by omega)]
    refine bind_of (place_w2 (p * st + i) (q * st + j) w c (by omega) (by omega) hw8 hc8) (ite_yes (by omega) (ite_yes (by omega) ?_))
    rw [w64' (x := ((((p * st + i) * w + (q * st + j)) * c : Nat) : Int) + (c : Int)) (by omega) (by omega)]
    have ep : ((d.take (((((p * st + i) * w + (q * st + j)) * c : Nat) : Int) + (c : Int)).toNat).drop ((((p * st + i) * w + (q * st + j)) * c : Nat) : Int).toNat) = part d (((p * st + i) * w + (q * st + j)) * c) c := by
      unfold part
      rw [List.drop_take]
      congr 1
      omega
    rw [ep]
    refine ite_yes (by omega) (ite_yes (by omega) (ite_yes (by rw [hpl]; omega) ?_))
    rw [w64' (x := (j : Int) + 1) (by omega) (by omega)]
    exact e
theorem impl_win_l0 {h w c sz st p q : Nat} {d W B : List Int} {kd ou mu sh ze : Int} (ht : tensorOk (h : Int) (w : Int) (c : Int) d = true) (hc1 : 1 ≤ c) (hc8 : c ≤ 8) (hw8 : w ≤ 8) (hsz : sz ≤ 3) (hst : st ≤ 2) (hp : p ≤ 8) (hq : q ≤ 8) (hx : p * st + sz ≤ h) (hy : q * st + sz ≤ w) : ∀ (n i : Nat) (acc : List Int), i + n = sz → acc.length ≤ 1000 + i * 24 → Evp fun k => impl_Layer_window.l0 k (p : Int) (q : Int) (-1) acc (sz : Int) (i : Int) kd ou (sz : Int) (st : Int) mu sh ze W B (h : Int) (w : Int) (c : Int) d = some (acc ++ winW d w c sz (p * st) (q * st) n i)
  | 0, i, acc, hm, ha => evSuc (evAll fun k => by
    simp only [impl_Layer_window.l0]
    rw [if_neg (by omega)]
    simp [winW])
  | n + 1, i, acc, hm, ha => by
    have hi : i < sz := by omega
    have hrl := rowW_len ht (x := p * st + i) (y := q * st) (by omega) hc1 sz 0 (by omega)
    have b : sz * c ≤ 3 * 8 := Nat.mul_le_mul hsz hc8
    have ih := impl_win_l0 (kd := kd) (ou := ou) (mu := mu) (sh := sh) (ze := ze) (W := W) (B := B) ht hc1 hc8 hw8 hsz hst hp hq hx hy n (i + 1) (acc ++ rowW d w c (p * st + i) (q * st) sz 0) (by omega) (by rw [List.length_append, hrl]; omega)
    rw [winW, ← List.append_assoc]
    have g := impl_win_l1 (kd := kd) (ou := ou) (mu := mu) (sh := sh) (ze := ze) (W := W) (B := B) ht hc1 hc8 hw8 hsz hst hp hq hi (show p * st + i < h by omega) hy _ sz 0 acc (by omega) (by omega) ih
    refine evSuc (evMono g fun k e => ?_)
    simp only [impl_Layer_window.l0]
    exact ite_yes (by omega) e
theorem impl_win_ev {h w c sz st p q : Nat} {d W B : List Int} {kd ou mu sh ze : Int} (ht : tensorOk (h : Int) (w : Int) (c : Int) d = true) (hc1 : 1 ≤ c) (hc8 : c ≤ 8) (hw8 : w ≤ 8) (hsz : sz ≤ 3) (hst : st ≤ 2) (hp : p ≤ 8) (hq : q ≤ 8) (hx : p * st + sz ≤ h) (hy : q * st + sz ≤ w) : Evp fun k => impl_Layer_window.f k kd ou (sz : Int) (st : Int) mu sh ze W B (h : Int) (w : Int) (c : Int) d (p : Int) (q : Int) (-1) = some (winW d w c sz (p * st) (q * st) sz 0) :=
  evMono (impl_win_l0 (kd := kd) (ou := ou) (mu := mu) (sh := sh) (ze := ze) (W := W) (B := B) ht hc1 hc8 hw8 hsz hst hp hq hx hy sz 0 [] (by omega) (by simp)) fun k e => e
theorem winW_len {h w c sz x y : Nat} {d : List Int} (ht : tensorOk (h : Int) (w : Int) (c : Int) d = true) (hx : x + sz ≤ h) (hc1 : 1 ≤ c) (hy : y + sz ≤ w) : ∀ (n i : Nat), i + n = sz → (winW d w c sz x y n i).length = n * (sz * c)
  | 0, i, hi => by simp [winW]
  | n + 1, i, hi => by
    rw [winW, List.length_append, rowW_len ht (show x + i < h by omega) hc1 sz 0 (by omega), winW_len ht hx hc1 hy n (i + 1) (by omega), Nat.add_mul]
    omega


def rowP (d : List Int) (w c o : Nat) (x y : Nat) : Nat → Nat → List Int
  | 0, _ => []
  | n + 1, j => d.getD ((x * w + (y + j)) * c + o) 0 :: rowP d w c o x y n (j + 1)
def poolP (d : List Int) (w c o sz : Nat) (x y : Nat) : Nat → Nat → List Int
  | 0, _ => []
  | n + 1, i => rowP d w c o (x + i) y sz 0 ++ poolP d w c o sz x y n (i + 1)
theorem rowP_len (d : List Int) (w c o x y : Nat) : ∀ (n j : Nat), (rowP d w c o x y n j).length = n
  | 0, j => rfl
  | n + 1, j => by simp [rowP, rowP_len d w c o x y n (j + 1)]
theorem poolP_len (d : List Int) (w c o sz x y : Nat) : ∀ (n i : Nat), (poolP d w c o sz x y n i).length = n * sz
  | 0, i => by simp [poolP]
  | n + 1, i => by rw [poolP, List.length_append, rowP_len, poolP_len d w c o sz x y n (i + 1), Nat.add_mul]; omega
theorem spec_pool_l1 {h w c sz st p q o : Nat} {d W B : List Int} {kd ou mu sh ze : Int} (ht : tensorOk (h : Int) (w : Int) (c : Int) d = true) (ho : o < c) (hc8 : c ≤ 8) (hw8 : w ≤ 8) (hsz : sz ≤ 3) (hst : st ≤ 2) (hp : p ≤ 8) (hq : q ≤ 8) {i : Nat} (hi : i < sz) (hx : p * st + i < h) (hy : q * st + sz ≤ w) (r : List Int) : ∀ (n j : Nat) (acc : List Int), j + n = sz → acc.length ≤ 1000000 + j * 8 → (Evp fun k => spec_l03Pool.l0 k (p : Int) (q : Int) (o : Int) (acc ++ rowP d w c o (p * st + i) (q * st) n j) ((i + 1 : Nat) : Int) (h : Int) (w : Int) (c : Int) d kd ou (sz : Int) (st : Int) mu sh ze W B = some r) → Evp fun k => spec_l03Pool.l1 k (p : Int) (q : Int) (o : Int) acc (i : Int) (j : Int) (h : Int) (w : Int) (c : Int) d kd ou (sz : Int) (st : Int) mu sh ze W B = some r
  | 0, j, acc, hm, ha, hk => evSuc (evMono hk fun k e => by
    simp only [spec_l03Pool.l1]
    rw [if_neg (by omega), w64' (x := (i : Int) + 1) (by omega) (by omega), show (i : Int) + 1 = ((i + 1 : Nat) : Int) by omega]
    simpa [rowP] using e)
  | n + 1, j, acc, hm, ha, hk => by
    have hy' : q * st + j < w := by omega
    obtain ⟨hd, hit⟩ := itemAt_at ht hx hy' ho
    have hl := tensorOk_len ht
    have ih := spec_pool_l1 (kd := kd) (ou := ou) (mu := mu) (sh := sh) (ze := ze) (W := W) (B := B) ht ho hc8 hw8 hsz hst hp hq hi hx hy r n (j + 1) (acc ++ [d.getD (((p * st + i) * w + (q * st + j)) * c + o) 0]) (by omega) (by simp; omega) (by rw [rowP, List.append_cons] at hk; exact hk)
    refine evSuc (evMono (evAnd (spec_ItemAt_ev (h : Int) (w : Int) (c : Int) d ((p * st + i : Nat) : Int) ((q * st + j : Nat) : Int) (o : Int) (by omega)) ih) fun k ⟨e1, e2⟩ => ?_)
    simp only [spec_l03Pool.l1]
    rw [if_pos (by omega), pidx p st i hp hst (by omega), pidx q st j hq hst (by omega)]
    refine bind_of e1 ?_
    rw [hit]
    refine ite_yes (by omega) ?_
    rw [w64' (x := (j : Int) + 1) (by omega) (by omega)]
    exact e2
theorem spec_pool_l0 {h w c sz st p q o : Nat} {d W B : List Int} {kd ou mu sh ze : Int} (ht : tensorOk (h : Int) (w : Int) (c : Int) d = true) (ho : o < c) (hc8 : c ≤ 8) (hw8 : w ≤ 8) (hsz : sz ≤ 3) (hst : st ≤ 2) (hp : p ≤ 8) (hq : q ≤ 8) (hx : p * st + sz ≤ h) (hy : q * st + sz ≤ w) : ∀ (n i : Nat) (acc : List Int), i + n = sz → acc.length ≤ 1000 + i * 24 → Evp fun k => spec_l03Pool.l0 k (p : Int) (q : Int) (o : Int) acc (i : Int) (h : Int) (w : Int) (c : Int) d kd ou (sz : Int) (st : Int) mu sh ze W B = some (acc ++ poolP d w c o sz (p * st) (q * st) n i)
  | 0, i, acc, hm, ha => evSuc (evAll fun k => by
    simp only [spec_l03Pool.l0]
    rw [if_neg (by omega)]
    simp [poolP])
  | n + 1, i, acc, hm, ha => by
    have hi : i < sz := by omega
    have hrl := rowP_len d w c o (p * st + i) (q * st) sz 0
    have ih := spec_pool_l0 (kd := kd) (ou := ou) (mu := mu) (sh := sh) (ze := ze) (W := W) (B := B) ht ho hc8 hw8 hsz hst hp hq hx hy n (i + 1) (acc ++ rowP d w c o (p * st + i) (q * st) sz 0) (by omega) (by rw [List.length_append, hrl]; omega)
    rw [poolP, ← List.append_assoc]
    have g := spec_pool_l1 (kd := kd) (ou := ou) (mu := mu) (sh := sh) (ze := ze) (W := W) (B := B) ht ho hc8 hw8 hsz hst hp hq hi (show p * st + i < h by omega) hy _ sz 0 acc (by omega) (by omega) ih
    refine evSuc (evMono g fun k e => ?_)
    simp only [spec_l03Pool.l0]
    exact ite_yes (by omega) e


theorem impl_pool_l1 {h w c sz st p q o : Nat} {d W B : List Int} {kd ou mu sh ze : Int} (ht : tensorOk (h : Int) (w : Int) (c : Int) d = true) (ho : o < c) (hc8 : c ≤ 8) (hw8 : w ≤ 8) (hsz : sz ≤ 3) (hst : st ≤ 2) (hp : p ≤ 8) (hq : q ≤ 8) {i : Nat} (hi : i < sz) (hx : p * st + i < h) (hy : q * st + sz ≤ w) (r : List Int) : ∀ (n j : Nat) (acc : List Int), j + n = sz → acc.length ≤ 1000000 + j * 8 → (Evp fun k => impl_Layer_window.l0 k (p : Int) (q : Int) (o : Int) (acc ++ rowP d w c o (p * st + i) (q * st) n j) (sz : Int) ((i + 1 : Nat) : Int) kd ou (sz : Int) (st : Int) mu sh ze W B (h : Int) (w : Int) (c : Int) d = some r) → Evp fun k => impl_Layer_window.l1 k (p : Int) (q : Int) (o : Int) acc (i : Int) (sz : Int) (i : Int) (sz : Int) (j : Int) kd ou (sz : Int) (st : Int) mu sh ze W B (h : Int) (w : Int) (c : Int) d = some r
  | 0, j, acc, hm, ha, hk => evSuc (evMono hk fun k e => by
    simp only [impl_Layer_window.l1]
    rw [if_neg (by omega), w64' (x := (i : Int) + 1) (by omega) (by omega), show (i : Int) + 1 = ((i + 1 : Nat) : Int) by omega]
    simpa [rowP] using e)
  | n + 1, j, acc, hm, ha, hk => by
    have hy' : q * st + j < w := by omega
    obtain ⟨hd, hit⟩ := itemAt_at ht hx hy' ho
    have hl := tensorOk_len ht
    have bp : p * st ≤ 8 * 2 := Nat.mul_le_mul hp hst
    have bq : q * st ≤ 8 * 2 := Nat.mul_le_mul hq hst
    have ih := impl_pool_l1 (kd := kd) (ou := ou) (mu := mu) (sh := sh) (ze := ze) (W := W) (B := B) ht ho hc8 hw8 hsz hst hp hq hi hx hy r n (j + 1) (acc ++ [d.getD (((p * st + i) * w + (q * st + j)) * c + o) 0]) (by omega) (by simp; omega) (by rw [rowP, List.append_cons] at hk; exact hk)
    refine evSuc (evMono ih fun k e => ?_)
    simp only [impl_Layer_window.l1]
    rw [if_pos (by omega), pidx p st i hp hst (by omega), pidx q st j hq hst (by omega)]
    refine bind_of (place_w2 (p * st + i) (q * st + j) w c (by omega) (by omega) hw8 hc8) (ite_no (by omega) ?_)
    rw [w64' (x := ((((p * st + i) * w + (q * st + j)) * c : Nat) : Int) + (o : Int)) (by omega) (by omega), show ((((p * st + i) * w + (q * st + j)) * c : Nat) : Int) + (o : Int) = ((((p * st + i) * w + (q * st + j)) * c + o : Nat) : Int) by omega, rd_nat]
    refine ite_yes (by omega) (ite_yes (by omega) (ite_yes (by omega) ?_))
    rw [w64' (x := (j : Int) + 1) (by omega) (by omega)]
    exact e
theorem impl_pool_l0 {h w c sz st p q o : Nat} {d W B : List Int} {kd ou mu sh ze : Int} (ht : tensorOk (h : Int) (w : Int) (c : Int) d = true) (ho : o < c) (hc8 : c ≤ 8) (hw8 : w ≤ 8) (hsz : sz ≤ 3) (hst : st ≤ 2) (hp : p ≤ 8) (hq : q ≤ 8) (hx : p * st + sz ≤ h) (hy : q * st + sz ≤ w) : ∀ (n i : Nat) (acc : List Int), i + n = sz → acc.length ≤ 1000 + i * 24 → Evp fun k => impl_Layer_window.l0 k (p : Int) (q : Int) (o : Int) acc (sz : Int) (i : Int) kd ou (sz : Int) (st : Int) mu sh ze W B (h : Int) (w : Int) (c : Int) d = some (acc ++ poolP d w c o sz (p * st) (q * st) n i)
  | 0, i, acc, hm, ha => evSuc (evAll fun k => by
    simp only [impl_Layer_window.l0]
    rw [if_neg (by omega)]
    simp [poolP])
  | n + 1, i, acc, hm, ha => by
    have hi : i < sz := by omega
    have hrl := rowP_len d w c o (p * st + i) (q * st) sz 0
    have ih := impl_pool_l0 (kd := kd) (ou := ou) (mu := mu) (sh := sh) (ze := ze) (W := W) (B := B) ht ho hc8 hw8 hsz hst hp hq hx hy n (i + 1) (acc ++ rowP d w c o (p * st + i) (q * st) sz 0) (by omega) (by rw [List.length_append, hrl]; omega)
    rw [poolP, ← List.append_assoc]
    have g := impl_pool_l1 (kd := kd) (ou := ou) (mu := mu) (sh := sh) (ze := ze) (W := W) (B := B) ht ho hc8 hw8 hsz hst hp hq hi (show p * st + i < h by omega) hy _ sz 0 acc (by omega) (by omega) ih
    refine evSuc (evMono g fun k e => ?_)
    simp only [impl_Layer_window.l0]
    exact ite_yes (by omega) e


theorem drop_take_part (W : List Int) (a n : Nat) : (W.take (a + n)).drop a = part W a n := by
  unfold part
  rw [List.drop_take]
  congr 1
  omega
theorem impl_scaled_ev {kd ou sz st mu sh ze : Int} {W B l : List Int} {o : Nat} (ho : o ≤ 8) (hl : l.length ≤ 512) (hW : (o + 1) * l.length ≤ W.length) (hB : o < B.length) : Evp fun k => impl_Layer_scaled.f k kd ou sz st mu sh ze W B l (o : Int) = some (requant (addSat (dotOf l (part W (o * l.length) l.length)) B[o]) mu sh ze) := by
  have b1 : o * l.length ≤ 8 * 512 := Nat.mul_le_mul ho hl
  have e1 : (o + 1) * l.length = o * l.length + l.length := Nat.succ_mul _ _
  have w1 : wrap64 ((o : Int) * (l.length : Int)) = ((o * l.length : Nat) : Int) := by
    rw [show (o : Int) * (l.length : Int) = ((o * l.length : Nat) : Int) by simp]
    exact w64' (by omega) (by omega)
  have w2 : wrap64 ((wrap64 ((o : Int) + 1)) * (l.length : Int)) = ((o * l.length + l.length : Nat) : Int) := by
    rw [w64' (x := (o : Int) + 1) (by omega) (by omega), show ((o : Int) + 1) * (l.length : Int) = (((o + 1) * l.length : Nat) : Int) by simp, e1]
    exact w64' (by omega) (by omega)
  refine evMono (evAnd (impl_DotOf_ev l (part W (o * l.length) l.length) (by omega)) (evAnd (evAll fun _ => impl_AddSat_eq (dotOf l (part W (o * l.length) l.length)) B[o]) (impl_Requant_ev (addSat (dotOf l (part W (o * l.length) l.length)) B[o]) mu sh ze))) fun k ⟨e2, e3, e4⟩ => ?_
  unfold impl_Layer_scaled.f
  rw [w1, w2, Int.toNat_natCast, Int.toNat_natCast, drop_take_part]
  refine ite_yes (by omega) (ite_yes (by omega) (ite_yes (by omega) (bind_of e2 (ite_yes (by omega) (ite_yes (by omega) ?_)))))
  rw [rd_eq hB]
  exact bind_of e3 (bind_of e4 rfl)


theorem spec_max_l3 (l : List Int) (hl : l.length ≤ 1000000) : ∀ (n i : Nat) (m : Int), i + n = l.length → (∀ j, j < i → l.getD j 0 ≤ m) → (∃ j, j < i ∧ l.getD j 0 = m) → ∃ M, (∀ j, j < l.length → l.getD j 0 ≤ M) ∧ (∃ j, j < l.length ∧ l.getD j 0 = M) ∧ Evp fun k => spec_l03Item.l3 k l m (i : Int) = some M
  | 0, i, m, hi, h1, h2 => ⟨m, fun j hj => h1 j (by omega), by obtain ⟨j, a, b⟩ := h2; exact ⟨j, by omega, b⟩, evSuc (evAll fun k => by
    simp only [spec_l03Item.l3]
    exact ite_no (by omega) rfl)⟩
  | n + 1, i, m, hi, h1, h2 => by
    have hr : rd l (i : Int) = l.getD i 0 := rd_nat l i
    by_cases hm : rd l (i : Int) > m
    · obtain ⟨M, m1, m2, m3⟩ := spec_max_l3 l hl n (i + 1) (rd l (i : Int)) (by omega) (fun j hj => by
        by_cases e : j = i
        · rw [e, hr]; exact Int.le_refl _
        · have := h1 j (by omega)
          omega) ⟨i, by omega, hr.symm⟩
      refine ⟨M, m1, m2, evSuc (evMono m3 fun k e => ?_)⟩
      simp only [spec_l03Item.l3]
      refine ite_yes (by omega) (ite_yes (by omega) (ite_yes hm ?_))
      rw [w64' (by omega) (by omega)]
      exact e
    · obtain ⟨M, m1, m2, m3⟩ := spec_max_l3 l hl n (i + 1) m (by omega) (fun j hj => by
        by_cases e : j = i
        · rw [e, ← hr]; omega
        · exact h1 j (by omega)) (by obtain ⟨j, a, b⟩ := h2; exact ⟨j, by omega, b⟩)
      refine ⟨M, m1, m2, evSuc (evMono m3 fun k e => ?_)⟩
      simp only [spec_l03Item.l3]
      refine ite_yes (by omega) (ite_yes (by omega) (ite_no hm ?_))
      rw [w64' (by omega) (by omega)]
      exact e
def sumP : List Int → Int → Int
  | [], s => s
  | x :: l, s => sumP l (s + x)
theorem spec_avg_l4 (l : List Int) (hl1 : 1 ≤ l.length) (hl : l.length ≤ 9) (hb : ∀ x ∈ l, -128 ≤ x ∧ x ≤ 128) : ∀ (n i : Nat) (s : Int), i + n = l.length → -128 * (i : Int) ≤ s → s ≤ 128 * (i : Int) → Evp fun k => spec_l03Item.l4 k l s (i : Int) = some (rnd (sumP (l.drop i) s) (l.length : Int))
  | 0, i, s, hi, h1, h2 => evSuc (evAll fun k => by
    simp only [spec_l03Item.l4]
    rw [List.drop_eq_nil_of_le (by omega)]
    refine ite_no (by omega) ?_
    have w1 : wrap64 (2 * (l.length : Int)) = 2 * (l.length : Int) := w64' (by omega) (by omega)
    rw [w1]
    unfold rnd sumP
    by_cases hs : s < 0
    · have t1 : wrap64 (wrap64 (-2 * s) + (l.length : Int)) = -2 * s + (l.length : Int) := by rw [w64' (x := -2 * s) (by omega) (by omega), w64' (by omega) (by omega)]
      have hd := Int.ediv_nonneg (show 0 ≤ -2 * s + (l.length : Int) by omega) (show 0 ≤ 2 * (l.length : Int) by omega)
      have hd2 := Int.ediv_le_self (a := -2 * s + (l.length : Int)) (2 * (l.length : Int)) (by omega)
      rw [if_pos hs, if_pos hs, if_neg (by omega), t1, tdiv_pos (by omega), w64' (x := (-2 * s + (l.length : Int)) / (2 * (l.length : Int))) (by omega) (by omega), w64' (by omega) (by omega)]
    · have t1 : wrap64 (wrap64 (2 * s) + (l.length : Int)) = 2 * s + (l.length : Int) := by rw [w64' (x := 2 * s) (by omega) (by omega), w64' (by omega) (by omega)]
      have hd := Int.ediv_nonneg (show 0 ≤ 2 * s + (l.length : Int) by omega) (show 0 ≤ 2 * (l.length : Int) by omega)
      have hd2 := Int.ediv_le_self (a := 2 * s + (l.length : Int)) (2 * (l.length : Int)) (by omega)
      rw [if_neg hs, if_neg hs, if_neg (by omega), t1, tdiv_pos (by omega), w64' (by omega) (by omega)])
  | n + 1, i, s, hi, h1, h2 => by
    have hlt : i < l.length := by omega
    have hx := hb l[i] (List.getElem_mem hlt)
    rw [List.drop_eq_getElem_cons hlt]
    refine evSuc (evMono (spec_avg_l4 l hl1 hl hb n (i + 1) (s + l[i]) (by omega) (by omega) (by omega)) fun k e => ?_)
    simp only [spec_l03Item.l4, sumP]
    refine ite_yes (by omega) (ite_yes (by omega) ?_)
    rw [rd_eq hlt, w64' (x := s + l[i]) (by omega) (by omega), w64' (by omega) (by omega)]
    exact e
theorem impl_avg_l0 {kd ou st mu sh ze : Int} {sz : Nat} {W B : List Int} (l : List Int) (hsz : sz * sz = l.length) (hl1 : 1 ≤ l.length) (hl : l.length ≤ 9) (hb : ∀ x ∈ l, -128 ≤ x ∧ x ≤ 128) : ∀ (n i : Nat) (s : Int), i + n = l.length → -128 * (i : Int) ≤ s → s ≤ 128 * (i : Int) → Evp fun k => impl_Layer_item.l0 k s l (l.length : Int) (i : Int) kd ou (sz : Int) st mu sh ze W B = some (rnd (sumP (l.drop i) s) (l.length : Int))
  | 0, i, s, hi, h1, h2 => evSuc (evMono (impl_rounded_ev s (l.length : Int) (by omega) (by omega) (by omega) (by omega)) fun k e => by
    simp only [impl_Layer_item.l0]
    rw [List.drop_eq_nil_of_le (by omega), show (sz : Int) * (sz : Int) = ((sz * sz : Nat) : Int) by simp, hsz, w64' (x := (l.length : Int)) (by omega) (by omega)]
    exact ite_no (by omega) (bind_of e rfl))
  | n + 1, i, s, hi, h1, h2 => by
    have hlt : i < l.length := by omega
    have hx := hb l[i] (List.getElem_mem hlt)
    rw [List.drop_eq_getElem_cons hlt]
    refine evSuc (evMono (impl_avg_l0 (kd := kd) (ou := ou) (st := st) (mu := mu) (sh := sh) (ze := ze) (W := W) (B := B) l hsz hl1 hl hb n (i + 1) (s + l[i]) (by omega) (by omega) (by omega)) fun k e => ?_)
    simp only [impl_Layer_item.l0, sumP]
    refine ite_yes (by omega) (ite_yes (by omega) (ite_yes (by omega) ?_))
    rw [rd_eq hlt, w64' (x := s + l[i]) (by omega) (by omega), w64' (by omega) (by omega)]
    exact e
theorem getD_bd {d : List Int} (hd : ∀ x ∈ d, -128 ≤ x ∧ x ≤ 127) (i : Nat) : -128 ≤ d.getD i 0 ∧ d.getD i 0 ≤ 128 := by
  by_cases h : i < d.length
  · have := hd d[i] (List.getElem_mem h)
    rw [getD_in h]
    omega
  · simp [List.getD, List.getElem?_eq_none (Nat.not_lt.1 h)]
theorem rowP_b {d : List Int} (hd : ∀ x ∈ d, -128 ≤ x ∧ x ≤ 127) (w c o x y : Nat) : ∀ (n j : Nat), ∀ z ∈ rowP d w c o x y n j, -128 ≤ z ∧ z ≤ 128
  | 0, j, z, hz => by simp [rowP] at hz
  | n + 1, j, z, hz => by
    rw [rowP, List.mem_cons] at hz
    rcases hz with rfl | hz
    · exact getD_bd hd _
    · exact rowP_b hd w c o x y n (j + 1) z hz
theorem poolP_b {d : List Int} (hd : ∀ x ∈ d, -128 ≤ x ∧ x ≤ 127) (w c o sz x y : Nat) : ∀ (n i : Nat), ∀ z ∈ poolP d w c o sz x y n i, -128 ≤ z ∧ z ≤ 128
  | 0, i, z, hz => by simp [poolP] at hz
  | n + 1, i, z, hz => by
    rw [poolP, List.mem_append] at hz
    rcases hz with hz | hz
    · exact rowP_b hd w c o _ _ _ _ z hz
    · exact poolP_b hd w c o sz x y n (i + 1) z hz
theorem place_w3 {a : Int} (x y z w c : Nat) (hx : x ≤ 8) (hy : y ≤ 8) (hz : z ≤ 8) (hw : w ≤ 8) (hc : c ≤ 8) : impl_Shape_place.f a (w : Int) (c : Int) (x : Int) (y : Int) (z : Int) = some (((x * w + y) * c + z : Nat) : Int) := by
  have b1 : x * w ≤ 8 * 8 := Nat.mul_le_mul hx hw
  have b2 : (x * w + y) * c ≤ 72 * 8 := Nat.mul_le_mul (by omega) hc
  unfold impl_Shape_place.f
  rw [show (x : Int) * (w : Int) = ((x * w : Nat) : Int) by simp, w64' (x := ((x * w : Nat) : Int)) (by omega) (by omega), show ((x * w : Nat) : Int) + (y : Int) = ((x * w + y : Nat) : Int) by simp, w64' (x := ((x * w + y : Nat) : Int)) (by omega) (by omega), show ((x * w + y : Nat) : Int) * (c : Int) = (((x * w + y) * c : Nat) : Int) by simp, w64' (x := (((x * w + y) * c : Nat) : Int)) (by omega) (by omega), show (((x * w + y) * c : Nat) : Int) + (z : Int) = (((x * w + y) * c + z : Nat) : Int) by simp, w64' (by omega) (by omega)]
theorem win_in {h sz st : Nat} {p : Nat} (hs : sz ≤ h) (hst : 1 ≤ st) (hp : (p : Int) < ((h : Int) - sz) / st + 1) : p * st + sz ≤ h ∧ p ≤ h := by
  have h1 : (p : Int) ≤ ((h : Int) - sz) / st := by omega
  have h2 := (Int.le_ediv_iff_mul_le (show (0 : Int) < st by omega)).1 h1
  have h3 : (p : Int) * (st : Int) = ((p * st : Nat) : Int) := by simp
  have h4 : p * 1 ≤ p * st := Nat.mul_le_mul_left p hst
  omega
def chanL (V : Nat → Nat → Nat → Int) (p q : Nat) : Nat → Nat → List Int
  | 0, _ => []
  | n + 1, o => V p q o :: chanL V p q n (o + 1)
def colL (V : Nat → Nat → Nat → Int) (C p : Nat) : Nat → Nat → List Int
  | 0, _ => []
  | n + 1, q => chanL V p q C 0 ++ colL V C p n (q + 1)
def rowL (V : Nat → Nat → Nat → Int) (C Wd : Nat) : Nat → Nat → List Int
  | 0, _ => []
  | n + 1, p => colL V C p Wd 0 ++ rowL V C Wd n (p + 1)
theorem chanL_len (V : Nat → Nat → Nat → Int) (p q : Nat) : ∀ (n o : Nat), (chanL V p q n o).length = n
  | 0, _ => rfl
  | n + 1, o => by simp [chanL, chanL_len V p q n]
theorem colL_len (V : Nat → Nat → Nat → Int) (C p : Nat) : ∀ (n q : Nat), (colL V C p n q).length = n * C
  | 0, _ => by simp [colL]
  | n + 1, q => by rw [colL, List.length_append, chanL_len, colL_len V C p n, Nat.add_mul]; omega
theorem rowL_len (V : Nat → Nat → Nat → Int) (C Wd : Nat) : ∀ (n p : Nat), (rowL V C Wd n p).length = n * (Wd * C)
  | 0, _ => by simp [rowL]
  | n + 1, p => by rw [rowL, List.length_append, colL_len, rowL_len V C Wd n, Nat.add_mul]; omega
theorem impl_run_l2 {h w c kd ou sz st mu sh ze : Int} {d W B : List Int} {H Wd C : Nat} {V : Nat → Nat → Nat → Int} (hC : C ≤ 8) {p q : Nat} (hq : q ≤ 8) (hV : ∀ o : Nat, o < C → Evp fun k => impl_Layer_item.f k kd ou sz st mu sh ze W B h w c d (p : Int) (q : Int) (o : Int) = some (V p q o)) (r : Int × Int × Int × List Int × Bool) : ∀ (n o : Nat) (acc : List Int), o + n = C → acc.length ≤ 1000000 + o → (Evp fun k => impl_RunLayer.l1 k (p : Int) (H : Int) (p : Int) (Wd : Int) ((q + 1 : Nat) : Int) h w c d kd ou sz st mu sh ze W B (H : Int) (Wd : Int) (C : Int) (H : Int) (Wd : Int) (C : Int) (acc ++ chanL V p q n o) = some r) → Evp fun k => impl_RunLayer.l2 k (p : Int) (q : Int) (H : Int) (p : Int) (Wd : Int) (q : Int) (C : Int) (o : Int) h w c d kd ou sz st mu sh ze W B (H : Int) (Wd : Int) (C : Int) (H : Int) (Wd : Int) (C : Int) acc = some r
  | 0, o, acc, hm, ha, hk => evSuc (evMono hk fun k e => by
    simp only [impl_RunLayer.l2]
    refine ite_no (by omega) ?_
    rw [w64' (x := (q : Int) + 1) (by omega) (by omega), show (q : Int) + 1 = ((q + 1 : Nat) : Int) by omega]
    simpa [chanL] using e)
  | n + 1, o, acc, hm, ha, hk => evSuc (evMono (evAnd (hV o (by omega)) (impl_run_l2 (H := H) (Wd := Wd) hC hq hV r n (o + 1) (acc ++ [V p q o]) (by omega) (by simp; omega) (by rw [chanL, List.append_cons] at hk; exact hk))) fun k ⟨e1, e2⟩ => by
    simp only [impl_RunLayer.l2]
    refine ite_yes (by omega) (bind_of e1 (ite_yes (by omega) ?_))
    rw [w64' (x := (o : Int) + 1) (by omega) (by omega)]
    exact e2)
theorem impl_run_l1 {h w c kd ou sz st mu sh ze : Int} {d W B : List Int} {H Wd C : Nat} {V : Nat → Nat → Nat → Int} (hC : C ≤ 8) (hWd : Wd ≤ 8) {p : Nat} (hp : p ≤ 8) (hV : ∀ q o : Nat, q < Wd → o < C → Evp fun k => impl_Layer_item.f k kd ou sz st mu sh ze W B h w c d (p : Int) (q : Int) (o : Int) = some (V p q o)) (r : Int × Int × Int × List Int × Bool) : ∀ (n q : Nat) (acc : List Int), q + n = Wd → acc.length ≤ 10000 + 8 * q → (Evp fun k => impl_RunLayer.l0 k (H : Int) ((p + 1 : Nat) : Int) h w c d kd ou sz st mu sh ze W B (H : Int) (Wd : Int) (C : Int) (H : Int) (Wd : Int) (C : Int) (acc ++ colL V C p n q) = some r) → Evp fun k => impl_RunLayer.l1 k (p : Int) (H : Int) (p : Int) (Wd : Int) (q : Int) h w c d kd ou sz st mu sh ze W B (H : Int) (Wd : Int) (C : Int) (H : Int) (Wd : Int) (C : Int) acc = some r
  | 0, q, acc, hm, ha, hk => evSuc (evMono hk fun k e => by
    simp only [impl_RunLayer.l1]
    refine ite_no (by omega) ?_
    rw [w64' (x := (p : Int) + 1) (by omega) (by omega), show (p : Int) + 1 = ((p + 1 : Nat) : Int) by omega]
    simpa [colL] using e)
  | n + 1, q, acc, hm, ha, hk => evSuc (evMono (impl_run_l2 (H := H) (Wd := Wd) hC (show q ≤ 8 by omega) (fun o ho => hV q o (by omega) ho) r C 0 acc (by omega) (by omega) (impl_run_l1 hC hWd hp hV r n (q + 1) (acc ++ chanL V p q C 0) (by omega) (by rw [List.length_append, chanL_len]; omega) (by rw [colL, ← List.append_assoc] at hk; exact hk))) fun k e => by
    simp only [impl_RunLayer.l1]
    exact ite_yes (by omega) e)
theorem impl_run_l0 {h w c kd ou sz st mu sh ze : Int} {d W B : List Int} {H Wd C : Nat} {V : Nat → Nat → Nat → Int} (hC : C ≤ 8) (hWd : Wd ≤ 8) (hH : H ≤ 8) (hV : ∀ p q o : Nat, p < H → q < Wd → o < C → Evp fun k => impl_Layer_item.f k kd ou sz st mu sh ze W B h w c d (p : Int) (q : Int) (o : Int) = some (V p q o)) : ∀ (n p : Nat) (acc : List Int), p + n = H → acc.length ≤ 1000 + 64 * p → Evp fun k => impl_RunLayer.l0 k (H : Int) (p : Int) h w c d kd ou sz st mu sh ze W B (H : Int) (Wd : Int) (C : Int) (H : Int) (Wd : Int) (C : Int) acc = some ((H : Int), (Wd : Int), (C : Int), acc ++ rowL V C Wd n p, true)
  | 0, p, acc, hm, ha => evSuc (evAll fun k => by
    simp only [impl_RunLayer.l0]
    refine ite_no (by omega) ?_
    simp [rowL])
  | n + 1, p, acc, hm, ha => by
    have b : Wd * C ≤ 8 * 8 := Nat.mul_le_mul hWd hC
    have ih := impl_run_l0 hC hWd hH hV n (p + 1) (acc ++ colL V C p Wd 0) (by omega) (by rw [List.length_append, colL_len]; omega)
    rw [rowL, ← List.append_assoc]
    refine evSuc (evMono (impl_run_l1 hC hWd (show p ≤ 8 by omega) (fun q o hq ho => hV p q o (by omega) hq ho) _ Wd 0 acc (by omega) (by omega) ih) fun k e => ?_)
    simp only [impl_RunLayer.l0]
    exact ite_yes (by omega) e


theorem spec_run_l2 {h w c kd ou sz st mu sh ze : Int} {d W B : List Int} {H Wd C : Nat} {V : Nat → Nat → Nat → Int} (hC : C ≤ 8) {p q : Nat} (hq : q ≤ 8) (hV : ∀ o : Nat, o < C → Evp fun k => spec_l03Item.f k h w c d kd ou sz st mu sh ze W B (p : Int) (q : Int) (o : Int) = some (V p q o)) (r : Int × Int × Int × List Int × Bool) : ∀ (n o : Nat) (acc : List Int), o + n = C → acc.length ≤ 1000000 + o → (Evp fun k => spec_RunLayer.l1 k (p : Int) ((q + 1 : Nat) : Int) h w c d kd ou sz st mu sh ze W B (H : Int) (Wd : Int) (C : Int) (H : Int) (Wd : Int) (C : Int) (acc ++ chanL V p q n o) = some r) → Evp fun k => spec_RunLayer.l2 k (p : Int) (q : Int) (o : Int) h w c d kd ou sz st mu sh ze W B (H : Int) (Wd : Int) (C : Int) (H : Int) (Wd : Int) (C : Int) acc = some r
  | 0, o, acc, hm, ha, hk => evSuc (evMono hk fun k e => by
    simp only [spec_RunLayer.l2]
    refine ite_no (by omega) ?_
    rw [w64' (x := (q : Int) + 1) (by omega) (by omega), show (q : Int) + 1 = ((q + 1 : Nat) : Int) by omega]
    simpa [chanL] using e)
  | n + 1, o, acc, hm, ha, hk => evSuc (evMono (evAnd (hV o (by omega)) (spec_run_l2 (H := H) (Wd := Wd) hC hq hV r n (o + 1) (acc ++ [V p q o]) (by omega) (by simp; omega) (by rw [chanL, List.append_cons] at hk; exact hk))) fun k ⟨e1, e2⟩ => by
    simp only [spec_RunLayer.l2]
    refine ite_yes (by omega) (bind_of e1 (ite_yes (by omega) ?_))
    rw [w64' (x := (o : Int) + 1) (by omega) (by omega)]
    exact e2)
theorem spec_run_l1 {h w c kd ou sz st mu sh ze : Int} {d W B : List Int} {H Wd C : Nat} {V : Nat → Nat → Nat → Int} (hC : C ≤ 8) (hWd : Wd ≤ 8) {p : Nat} (hp : p ≤ 8) (hV : ∀ q o : Nat, q < Wd → o < C → Evp fun k => spec_l03Item.f k h w c d kd ou sz st mu sh ze W B (p : Int) (q : Int) (o : Int) = some (V p q o)) (r : Int × Int × Int × List Int × Bool) : ∀ (n q : Nat) (acc : List Int), q + n = Wd → acc.length ≤ 10000 + 8 * q → (Evp fun k => spec_RunLayer.l0 k ((p + 1 : Nat) : Int) h w c d kd ou sz st mu sh ze W B (H : Int) (Wd : Int) (C : Int) (H : Int) (Wd : Int) (C : Int) (acc ++ colL V C p n q) = some r) → Evp fun k => spec_RunLayer.l1 k (p : Int) (q : Int) h w c d kd ou sz st mu sh ze W B (H : Int) (Wd : Int) (C : Int) (H : Int) (Wd : Int) (C : Int) acc = some r
  | 0, q, acc, hm, ha, hk => evSuc (evMono hk fun k e => by
    simp only [spec_RunLayer.l1]
    refine ite_no (by omega) ?_
    rw [w64' (x := (p : Int) + 1) (by omega) (by omega), show (p : Int) + 1 = ((p + 1 : Nat) : Int) by omega]
    simpa [colL] using e)
  | n + 1, q, acc, hm, ha, hk => evSuc (evMono (spec_run_l2 (H := H) (Wd := Wd) hC (show q ≤ 8 by omega) (fun o ho => hV q o (by omega) ho) r C 0 acc (by omega) (by omega) (spec_run_l1 hC hWd hp hV r n (q + 1) (acc ++ chanL V p q C 0) (by omega) (by rw [List.length_append, chanL_len]; omega) (by rw [colL, ← List.append_assoc] at hk; exact hk))) fun k e => by
    simp only [spec_RunLayer.l1]
    exact ite_yes (by omega) e)
theorem spec_run_l0 {h w c kd ou sz st mu sh ze : Int} {d W B : List Int} {H Wd C : Nat} {V : Nat → Nat → Nat → Int} (hC : C ≤ 8) (hWd : Wd ≤ 8) (hH : H ≤ 8) (hV : ∀ p q o : Nat, p < H → q < Wd → o < C → Evp fun k => spec_l03Item.f k h w c d kd ou sz st mu sh ze W B (p : Int) (q : Int) (o : Int) = some (V p q o)) : ∀ (n p : Nat) (acc : List Int), p + n = H → acc.length ≤ 1000 + 64 * p → Evp fun k => spec_RunLayer.l0 k (p : Int) h w c d kd ou sz st mu sh ze W B (H : Int) (Wd : Int) (C : Int) (H : Int) (Wd : Int) (C : Int) acc = some ((H : Int), (Wd : Int), (C : Int), acc ++ rowL V C Wd n p, true)
  | 0, p, acc, hm, ha => evSuc (evAll fun k => by
    simp only [spec_RunLayer.l0]
    refine ite_no (by omega) ?_
    simp [rowL])
  | n + 1, p, acc, hm, ha => by
    have b : Wd * C ≤ 8 * 8 := Nat.mul_le_mul hWd hC
    have ih := spec_run_l0 hC hWd hH hV n (p + 1) (acc ++ colL V C p Wd 0) (by omega) (by rw [List.length_append, colL_len]; omega)
    rw [rowL, ← List.append_assoc]
    refine evSuc (evMono (spec_run_l1 hC hWd (show p ≤ 8 by omega) (fun q o hq ho => hV p q o (by omega) hq ho) _ Wd 0 acc (by omega) (by omega) ih) fun k e => ?_)
    simp only [spec_RunLayer.l0]
    exact ite_yes (by omega) e
theorem spec_l02DrawShape_ok {b : List Int} {i : Int} (hc : Cu b i) (h : Int) : ∃ x y z i' h', spec_l02DrawShape.f b i h 4 = some (x, y, z, i', h') ∧ (1 ≤ x ∧ x ≤ 4) ∧ (1 ≤ y ∧ y ≤ 4) ∧ (1 ≤ z ∧ z ≤ 3) ∧ Cu b i' := by
  obtain ⟨r1, i1, h1, e1, a1, b1, c1⟩ := spec_l01Below_ok hc h (n := 4) (by omega)
  obtain ⟨r2, i2, h2, e2, a2, b2, c2⟩ := spec_l01Below_ok c1 h1 (n := 4) (by omega)
  obtain ⟨r3, i3, h3, e3, a3, b3, c3⟩ := spec_l01Below_ok c2 h2 (n := 3) (by omega)
  refine ⟨_, _, _, _, _, bind_of e1 (bind_of e2 (bind_of e3 rfl)), ?_, ?_, ?_, c3⟩
  · show 1 ≤ wrap64 (1 + r1) ∧ wrap64 (1 + r1) ≤ 4
    rw [w64' (by omega) (by omega)]; omega
  · show 1 ≤ wrap64 (1 + r2) ∧ wrap64 (1 + r2) ≤ 4
    rw [w64' (by omega) (by omega)]; omega
  · show 1 ≤ wrap64 (1 + r3) ∧ wrap64 (1 + r3) ≤ 3
    rw [w64' (by omega) (by omega)]; omega


theorem spec_l02DrawItem_ok {b : List Int} {i : Int} (hc : Cu b i) (h : Int) : ∃ r i' h', spec_l02DrawItem.f b i h = some (r, i', h') ∧ (-128 ≤ r ∧ r ≤ 127) ∧ Cu b i' := by
  obtain ⟨r1, i1, h1, e1, a1, b1, c1⟩ := spec_l01Below_ok hc h (n := 256) (by omega)
  obtain ⟨r2, i2, h2, e2, a2, b2, c2⟩ := spec_l01Below_ok c1 h1 (n := 256) (by omega)
  obtain ⟨r3, i3, h3, e3, m3, c3⟩ := spec_l01PickInt_ok c2 h2 ([wrap64 (r1 - 128), wrap64 (r2 - 128), 127, (-128), 0] : List Int) (by simp)
  refine ⟨_, _, _, bind_of e1 (bind_of e2 (bind_of e3 rfl)), ?_, c3⟩
  show -128 ≤ r3 ∧ r3 ≤ 127
  simp only [List.mem_cons, List.not_mem_nil, or_false] at m3
  rw [w64' (x := r1 - 128) (by omega) (by omega), w64' (x := r2 - 128) (by omega) (by omega)] at m3
  omega


theorem spec_l02DrawTensor_l0 {b : List Int} {x y z : Int} (p q r : Int) : ∀ (d n : Nat) (acc : List Int) (i h : Int), Cu b i → ((n + d : Nat) : Int) = sizeOf x y z → acc.length = n → (∀ v ∈ acc, -128 ≤ v ∧ v ≤ 127) → ∃ o i' h', o.length = n + d ∧ (∀ v ∈ o, -128 ≤ v ∧ v ≤ 127) ∧ Cu b i' ∧ Evp fun k => spec_l02DrawTensor.l0 k (n : Int) b i h x y z p q r acc = some (p, q, r, o, i', h')
  | 0, n, acc, i, h, hc, hs, ha, hv => ⟨acc, i, h, by omega, hv, hc, evSuc (evAll fun k => by
    simp only [spec_l02DrawTensor.l0]
    exact bind_of (spec_SizeOf_eq _ _ _) (ite_no (by omega) rfl))⟩
  | d + 1, n, acc, i, h, hc, hs, ha, hv => by
    have hb := sizeOf_b x y z
    obtain ⟨v, i1, h1, e1, v1, c1⟩ := spec_l02DrawItem_ok hc h
    obtain ⟨o, i', h', g1, g2, g3, g4⟩ := spec_l02DrawTensor_l0 (x := x) (y := y) (z := z) p q r d (n + 1) (acc ++ [v]) i1 h1 c1 (by omega) (by simp; omega) (fun u hu => by
      rcases List.mem_append.1 hu with m | m
      · exact hv u m
      · simp only [List.mem_singleton] at m
        rw [m]; exact v1)
    refine ⟨o, i', h', by omega, g2, g3, evSuc (evMono g4 fun k e => ?_)⟩
    simp only [spec_l02DrawTensor.l0]
    refine bind_of (spec_SizeOf_eq _ _ _) (ite_yes (by omega) (bind_of e1 (ite_yes (by omega) ?_)))
    rw [w64' (x := (n : Int) + 1) (by omega) (by omega)]
    exact e
theorem spec_l02DrawTensor_ok {b : List Int} {i : Int} (hc : Cu b i) (h x y z : Int) : ∃ o i' h', (o.length : Int) = sizeOf x y z ∧ (∀ v ∈ o, -128 ≤ v ∧ v ≤ 127) ∧ Cu b i' ∧ Evp fun k => spec_l02DrawTensor.f k b i h x y z = some (x, y, z, o, i', h') := by
  have hb := sizeOf_b x y z
  obtain ⟨o, i', h', g1, g2, g3, g4⟩ := spec_l02DrawTensor_l0 (b := b) (x := x) (y := y) (z := z) x y z (sizeOf x y z).toNat 0 [] i h hc (by omega) rfl (by simp)
  exact ⟨o, i', h', by omega, g2, g3, g4⟩


theorem sizeOf_pos {x y z : Int} (hx : 1 ≤ x ∧ x ≤ 8) (hy : 1 ≤ y ∧ y ≤ 8) (hz : 1 ≤ z ∧ z ≤ 8) : 1 ≤ sizeOf x y z := by
  unfold sizeOf
  rw [if_pos (shapeOk_iff.2 ⟨hx, hy, hz⟩)]
  exact mul_pos1 (mul_pos1 hx.1 hy.1) hz.1
theorem loose_j0 (b : List Int) (i h x y z : Int) (o : List Int) : Evp fun k => spec_l02DrawLoose.j0 k b i h x y z o = some (x, y, z, o, i, h) := evSuc (evAll fun k => by simp only [spec_l02DrawLoose.j0])
theorem spec_l02DrawLoose_ok {b : List Int} {i : Int} (hc : Cu b i) (h : Int) : ∃ x y z o i' h', o.length ≤ 1000 ∧ Cu b i' ∧ Evp fun k => spec_l02DrawLoose.f k b i h = some (x, y, z, o, i', h') := by
  obtain ⟨x, y, z, i1, h1, e1, x1, y1, z1, c1⟩ := spec_l02DrawShape_ok hc h
  obtain ⟨o, i2, h2, l2, v2, c2, e2⟩ := spec_l02DrawTensor_ok c1 h1 x y z
  obtain ⟨r3, i3, h3, e3, c3⟩ := spec_l01Once_ok c2 h2 (n := 8) (by omega)
  have hsz := sizeOf_b x y z
  have hsp := sizeOf_pos (x := x) (y := y) (z := z) (by omega) (by omega) (by omega)
  by_cases q3 : r3 = true
  · obtain ⟨r4, i4, h4, e4, a4, b4, c4⟩ := spec_l01Below_ok c3 h3 (n := 4) (by omega)
    by_cases q0 : r4 = 0
    · obtain ⟨r5, i5, h5, e5, _, c5⟩ := spec_l01PickInt_ok c4 h4 ([0, 8, 9] : List Int) (by simp)
      exact ⟨_, _, _, _, _, _, by show o.length ≤ 1000; omega, c5, evMono (evAnd e2 (loose_j0 b i5 h5 r5 y z o)) fun k ⟨e, g⟩ => bind_of e1 (bind_of e (bind_of e3 (ite_yes q3 (bind_of e4 (ite_yes q0 (bind_of e5 g))))))⟩
    by_cases q1 : r4 = 1
    · exact ⟨_, _, _, _, _, _, by show (o ++ [0]).length ≤ 1000; simp; omega, c4, evMono (evAnd e2 (loose_j0 b i4 h4 x y z (o ++ [0]))) fun k ⟨e, g⟩ => bind_of e1 (bind_of e (bind_of e3 (ite_yes q3 (bind_of e4 (ite_no q0 (ite_yes q1 (ite_yes (show o.length < 17592186044416 by omega) g)))))))⟩
    by_cases q2 : r4 = 2
    · obtain ⟨r5, i5, h5, e5, a5, b5, c5⟩ := spec_l01Below_ok c4 h4 (n := (o.length : Int)) (by omega)
      obtain ⟨r6, i6, h6, e6, _, c6⟩ := spec_l01PickInt_ok c5 h5 ([128, (-129)] : List Int) (by simp)
      exact ⟨_, _, _, _, _, _, by show (o.set r5.toNat r6).length ≤ 1000; rw [List.length_set]; omega, c6, evMono (evAnd e2 (loose_j0 b i6 h6 x y z (o.set r5.toNat r6))) fun k ⟨e, g⟩ => bind_of e1 (bind_of e (bind_of e3 (ite_yes q3 (bind_of e4 (ite_no q0 (ite_no q1 (ite_yes q2 (bind_of e5 (bind_of e6 (ite_yes a5 (ite_yes b5 g)))))))))))⟩
    · have q5 : r4 = 3 := by omega
      obtain ⟨o5, i5, h5, l5, v5, c5, e5⟩ := spec_l02DrawTensor_ok c4 h4 8 8 8
      have := sizeOf_b 8 8 8
      exact ⟨_, _, _, _, _, _, by show o5.length ≤ 1000; omega, c5, evMono (evAnd e2 (evAnd e5 (loose_j0 b i5 h5 8 8 8 o5))) fun k ⟨e, e5, g⟩ => bind_of e1 (bind_of e (bind_of e3 (ite_yes q3 (bind_of e4 (ite_no q0 (ite_no q1 (ite_no q2 (ite_yes q5 (bind_of e5 g)))))))))⟩
  · exact ⟨_, _, _, _, _, _, by show o.length ≤ 1000; omega, c3, evMono (evAnd e2 (loose_j0 b i3 h3 x y z o)) fun k ⟨e, g⟩ => bind_of e1 (bind_of e (bind_of e3 (ite_no q3 g)))⟩


def LayO (b : List Int) (o : Int × Int × Int × Int × Int × Int × Int × List Int × List Int × Int × Int) : Prop := o.2.2.2.2.2.2.2.1.length ≤ 2000 ∧ o.2.2.2.2.2.2.2.2.1.length ≤ 2000 ∧ Cu b o.2.2.2.2.2.2.2.2.2.1
theorem spec_l03DrawLayer_l1 {b : List Int} {kd sz st mu sh ze : Int} {W : List Int} (hW : W.length ≤ 2000) {ou : Nat} (ho : ou ≤ 100) : ∀ (d n : Nat) (B : List Int) (i h : Int), Cu b i → n + d = ou → B.length = n → ∃ o, LayO b o ∧ Evp fun k => spec_l03DrawLayer.l1 k (n : Int) b i h kd (ou : Int) sz st mu sh ze W B = some o
  | 0, n, B, i, h, hc, hn, hB => by
    by_cases h4 : kd = 4
    · obtain ⟨r, i1, h1, e1, a1, b1, c1⟩ := spec_l01Below_ok hc h (n := 20) (by omega)
      exact ⟨(kd, (ou : Int), sz, st, mu, sh, wrap64 (r - 10), W, B, i1, h1), ⟨hW, by show B.length ≤ 2000; omega, c1⟩, evSuc (evAll fun k => by
        simp only [spec_l03DrawLayer.l1]
        exact ite_no (by omega) (ite_yes h4 (bind_of e1 rfl)))⟩
    · exact ⟨(kd, (ou : Int), sz, st, mu, sh, ze, W, B, i, h), ⟨hW, by show B.length ≤ 2000; omega, hc⟩, evSuc (evAll fun k => by
        simp only [spec_l03DrawLayer.l1]
        exact ite_no (by omega) (ite_no h4 rfl))⟩
  | d + 1, n, B, i, h, hc, hn, hB => by
    obtain ⟨r, i1, h1, e1, a1, b1, c1⟩ := spec_l01Below_ok hc h (n := 400) (by omega)
    obtain ⟨o, g1, g2⟩ := spec_l03DrawLayer_l1 (kd := kd) (sz := sz) (st := st) (mu := mu) (sh := sh) (ze := ze) hW ho d (n + 1) (B ++ [wrap64 (r - 200)]) i1 h1 c1 (by omega) (by simp; omega)
    refine ⟨o, g1, evSuc (evMono g2 fun k e => ?_)⟩
    simp only [spec_l03DrawLayer.l1]
    refine ite_yes (by omega) (bind_of e1 (ite_yes (by omega) ?_))
    rw [w64' (x := (n : Int) + 1) (by omega) (by omega)]
    exact e
theorem spec_l03DrawLayer_l0 {b : List Int} {kd sz st mu sh ze : Int} {ou : Nat} (ho : ou ≤ 100) {m : Nat} (hm : m ≤ 2000) : ∀ (d n : Nat) (W : List Int) (i h : Int), Cu b i → n + d = m → W.length = n → ∃ o, LayO b o ∧ Evp fun k => spec_l03DrawLayer.l0 k (m : Int) (n : Int) b i h kd (ou : Int) sz st mu sh ze W = some o
  | 0, n, W, i, h, hc, hn, hW => by
    obtain ⟨o, g1, g2⟩ := spec_l03DrawLayer_l1 (kd := kd) (sz := sz) (st := st) (mu := mu) (sh := sh) (ze := ze) (W := W) (by omega) ho ou 0 [] i h hc (by omega) rfl
    refine ⟨o, g1, evSuc (evMono g2 fun k e => ?_)⟩
    simp only [spec_l03DrawLayer.l0]
    exact ite_no (by omega) e
  | d + 1, n, W, i, h, hc, hn, hW => by
    obtain ⟨r, i1, h1, e1, a1, c1⟩ := spec_l02DrawItem_ok hc h
    obtain ⟨o, g1, g2⟩ := spec_l03DrawLayer_l0 (kd := kd) (sz := sz) (st := st) (mu := mu) (sh := sh) (ze := ze) ho hm d (n + 1) (W ++ [r]) i1 h1 c1 (by omega) (by simp; omega)
    refine ⟨o, g1, evSuc (evMono g2 fun k e => ?_)⟩
    simp only [spec_l03DrawLayer.l0]
    refine ite_yes (by omega) (bind_of e1 (ite_yes (by omega) ?_))
    rw [w64' (x := (n : Int) + 1) (by omega) (by omega)]
    exact e
theorem spec_l03DrawLayer_j4 {b : List Int} {kd sz st mu sh ze ou m : Int} (ho : 0 ≤ ou ∧ ou ≤ 100) (hm : 0 ≤ m ∧ m ≤ 2000) {i : Int} (hc : Cu b i) (h : Int) : ∃ o, LayO b o ∧ Evp fun k => spec_l03DrawLayer.j4 k m b i h kd ou sz st mu sh ze = some o := by
  obtain ⟨m, rfl⟩ := nat_of hm.1
  obtain ⟨ou, rfl⟩ := nat_of ho.1
  obtain ⟨o, g1, g2⟩ := spec_l03DrawLayer_l0 (b := b) (kd := kd) (sz := sz) (st := st) (mu := mu) (sh := sh) (ze := ze) (ou := ou) (by omega) (m := m) (by omega) m 0 [] i h hc (by omega) rfl
  exact ⟨o, g1, evSuc (evMono g2 fun k e => by simp only [spec_l03DrawLayer.j4]; exact e)⟩
theorem spec_l03DrawLayer_j3 {b : List Int} {x y z kd ou sz st mu sh ze : Int} (hz : 0 ≤ z ∧ z ≤ 3) (hsz : 0 ≤ sz ∧ sz ≤ 3) {i : Int} (hc : Cu b i) (h : Int) : ∃ o, LayO b o ∧ Evp fun k => spec_l03DrawLayer.j3 k b i h x y z kd ou sz st mu sh ze = some o := by
  by_cases h1 : kd ≤ 1
  · obtain ⟨r1, i1, t1, e1, a1, b1, c1⟩ := spec_l01Below_ok hc h (n := 3) (by omega)
    obtain ⟨r2, i2, t2, e2, a2, b2, c2⟩ := spec_l01Below_ok c1 t1 (n := 16777216) (by omega)
    obtain ⟨r3, i3, t3, e3, a3, b3, c3⟩ := spec_l01Below_ok c2 t2 (n := 10) (by omega)
    obtain ⟨r4, i4, t4, e4, a4, b4, c4⟩ := spec_l01Below_ok c3 t3 (n := 9) (by omega)
    have hsb := sizeOf_b x y z
    have w1 : wrap64 (1 + r1) = 1 + r1 := w64' (by omega) (by omega)
    by_cases hk : kd = 1
    · have m1 := mul_b (a := 1 + r1) (b := sz) (A := 3) (B := 3) (by omega) (by omega) hsz.1 hsz.2
      have m2 := mul_b (a := (1 + r1) * sz) (b := sz) (A := 9) (B := 3) m1.1 (by omega) hsz.1 hsz.2
      have m3 := mul_b (a := (1 + r1) * sz * sz) (b := z) (A := 27) (B := 3) m2.1 (by omega) hz.1 hz.2
      have hw : wrap64 ((wrap64 ((wrap64 ((wrap64 (1 + r1)) * sz)) * sz)) * z) = (1 + r1) * sz * sz * z := by
        rw [w1, w64' (x := (1 + r1) * sz) (by omega) (by omega), w64' (x := (1 + r1) * sz * sz) (by omega) (by omega), w64' (by omega) (by omega)]
      obtain ⟨o, g1, g2⟩ := spec_l03DrawLayer_j4 (b := b) (kd := kd) (sz := sz) (st := st) (mu := wrap64 (1073741824 + (wrap64 (r2 * 60)))) (sh := r3) (ze := wrap64 (r4 - 4)) (ou := wrap64 (1 + r1)) (m := wrap64 ((wrap64 ((wrap64 ((wrap64 (1 + r1)) * sz)) * sz)) * z)) (by rw [w1]; omega) (by rw [hw]; omega) c4 t4
      refine ⟨o, g1, evSuc (evMono g2 fun k e => ?_)⟩
      simp only [spec_l03DrawLayer.j3]
      exact ite_yes h1 (bind_of e1 (bind_of e2 (bind_of e3 (bind_of e4 (bind_of (spec_SizeOf_eq _ _ _) (ite_yes hk e))))))
    · have m1 := mul_b (a := 1 + r1) (b := sizeOf x y z) (A := 3) (B := 512) (by omega) (by omega) hsb.1 hsb.2
      obtain ⟨o, g1, g2⟩ := spec_l03DrawLayer_j4 (b := b) (kd := kd) (sz := sz) (st := st) (mu := wrap64 (1073741824 + (wrap64 (r2 * 60)))) (sh := r3) (ze := wrap64 (r4 - 4)) (ou := wrap64 (1 + r1)) (m := wrap64 ((wrap64 (1 + r1)) * sizeOf x y z)) (by rw [w1]; omega) (by rw [w1, w64' (by omega) (by omega)]; omega) c4 t4
      refine ⟨o, g1, evSuc (evMono g2 fun k e => ?_)⟩
      simp only [spec_l03DrawLayer.j3]
      exact ite_yes h1 (bind_of e1 (bind_of e2 (bind_of e3 (bind_of e4 (bind_of (spec_SizeOf_eq _ _ _) (ite_no hk e))))))
  · by_cases h4 : kd = 4
    · obtain ⟨r1, i1, t1, e1, a1, b1, c1⟩ := spec_l01Below_ok hc h (n := 20) (by omega)
      exact ⟨(kd, ou, sz, st, mu, sh, wrap64 (r1 - 10), [], [], i1, t1), ⟨by simp, by simp, c1⟩, evSuc (evAll fun k => by
        simp only [spec_l03DrawLayer.j3]
        exact ite_no h1 (ite_yes h4 (bind_of e1 rfl)))⟩
    · exact ⟨(kd, ou, sz, st, mu, sh, ze, [], [], i, h), ⟨by simp, by simp, hc⟩, evSuc (evAll fun k => by
        simp only [spec_l03DrawLayer.j3]
        exact ite_no h1 (ite_no h4 rfl))⟩
theorem spec_l03DrawLayer_j2 {b : List Int} {v x y z kd ou sz st mu sh ze : Int} (hv : 1 ≤ v ∧ v ≤ 3) (hy : 1 ≤ y) (hz : 0 ≤ z ∧ z ≤ 3) {i : Int} (hc : Cu b i) (h : Int) : ∃ o, LayO b o ∧ Evp fun k => spec_l03DrawLayer.j2 k v b i h x y z kd ou sz st mu sh ze = some o := by
  by_cases q : y < v
  · obtain ⟨r1, i1, t1, e1, a1, b1, c1⟩ := spec_l01Below_ok hc h (n := y) hy
    obtain ⟨r2, i2, t2, e2, a2, b2, c2⟩ := spec_l01Below_ok c1 t1 (n := 2) (by omega)
    obtain ⟨o, g1, g2⟩ := spec_l03DrawLayer_j3 (b := b) (x := x) (y := y) (z := z) (kd := kd) (ou := ou) (sz := wrap64 (1 + r1)) (st := wrap64 (1 + r2)) (mu := mu) (sh := sh) (ze := ze) hz (by rw [w64' (by omega) (by omega)]; omega) c2 t2
    refine ⟨o, g1, evSuc (evMono g2 fun k e => ?_)⟩
    simp only [spec_l03DrawLayer.j2]
    exact ite_yes q (bind_of e1 (bind_of e2 e))
  · obtain ⟨r1, i1, t1, e1, a1, b1, c1⟩ := spec_l01Below_ok hc h (n := v) hv.1
    obtain ⟨r2, i2, t2, e2, a2, b2, c2⟩ := spec_l01Below_ok c1 t1 (n := 2) (by omega)
    obtain ⟨o, g1, g2⟩ := spec_l03DrawLayer_j3 (b := b) (x := x) (y := y) (z := z) (kd := kd) (ou := ou) (sz := wrap64 (1 + r1)) (st := wrap64 (1 + r2)) (mu := mu) (sh := sh) (ze := ze) hz (by rw [w64' (by omega) (by omega)]; omega) c2 t2
    refine ⟨o, g1, evSuc (evMono g2 fun k e => ?_)⟩
    simp only [spec_l03DrawLayer.j2]
    exact ite_no q (bind_of e1 (bind_of e2 e))
theorem spec_l03DrawLayer_j1 {b : List Int} {x y z kd : Int} (hx : 1 ≤ x) (hy : 1 ≤ y) (hz : 0 ≤ z ∧ z ≤ 3) {i : Int} (hc : Cu b i) (h : Int) : ∃ o, LayO b o ∧ Evp fun k => spec_l03DrawLayer.j1 k b i h x y z kd 0 0 0 0 0 0 = some o := by
  by_cases q : 1 ≤ kd ∧ kd ≤ 3
  · by_cases q3 : x < 3
    · obtain ⟨o, g1, g2⟩ := spec_l03DrawLayer_j2 (b := b) (v := x) (x := x) (y := y) (z := z) (kd := kd) (ou := 0) (sz := 0) (st := 0) (mu := 0) (sh := 0) (ze := 0) (by omega) hy hz hc h
      refine ⟨o, g1, evSuc (evMono g2 fun k e => ?_)⟩
      simp only [spec_l03DrawLayer.j1]
      exact bind_of (spec_l01In_eq _ _ _) (ite_yes (decide_eq_true q) (ite_yes q3 e))
    · obtain ⟨o, g1, g2⟩ := spec_l03DrawLayer_j2 (b := b) (v := 3) (x := x) (y := y) (z := z) (kd := kd) (ou := 0) (sz := 0) (st := 0) (mu := 0) (sh := 0) (ze := 0) (by omega) hy hz hc h
      refine ⟨o, g1, evSuc (evMono g2 fun k e => ?_)⟩
      simp only [spec_l03DrawLayer.j1]
      exact bind_of (spec_l01In_eq _ _ _) (ite_yes (decide_eq_true q) (ite_no q3 e))
  · obtain ⟨o, g1, g2⟩ := spec_l03DrawLayer_j3 (b := b) (x := x) (y := y) (z := z) (kd := kd) (ou := 0) (sz := 0) (st := 0) (mu := 0) (sh := 0) (ze := 0) hz (by omega) hc h
    refine ⟨o, g1, evSuc (evMono g2 fun k e => ?_)⟩
    simp only [spec_l03DrawLayer.j1]
    exact bind_of (spec_l01In_eq _ _ _) (ite_no (fun z => q (of_decide_eq_true z)) e)
theorem spec_l03DrawLayer_j0 {b : List Int} {x y z kd : Int} (B : Bool) (hx : 1 ≤ x) (hy : 1 ≤ y) (hz : 0 ≤ z ∧ z ≤ 3) {i : Int} (hc : Cu b i) (h : Int) : ∃ o, LayO b o ∧ Evp fun k => spec_l03DrawLayer.j0 k B b i h x y z kd 0 0 0 0 0 0 = some o := by
  by_cases q : B = true
  · obtain ⟨o, g1, g2⟩ := spec_l03DrawLayer_j1 (b := b) (x := x) (y := y) (z := z) (kd := 4) hx hy hz hc h
    refine ⟨o, g1, evSuc (evMono g2 fun k e => ?_)⟩
    simp only [spec_l03DrawLayer.j0]
    exact ite_yes q e
  · obtain ⟨o, g1, g2⟩ := spec_l03DrawLayer_j1 (b := b) (x := x) (y := y) (z := z) (kd := kd) hx hy hz hc h
    refine ⟨o, g1, evSuc (evMono g2 fun k e => ?_)⟩
    simp only [spec_l03DrawLayer.j0]
    exact ite_no q e
theorem spec_l03DrawLayer_ok {b : List Int} {x y z : Int} (hx : 1 ≤ x) (hy : 1 ≤ y) (hz : 0 ≤ z ∧ z ≤ 3) {i : Int} (hc : Cu b i) (h : Int) : ∃ o, LayO b o ∧ Evp fun k => spec_l03DrawLayer.f k b i h x y z = some o := by
  obtain ⟨r, i1, t1, e1, m1, c1⟩ := spec_l01PickInt_ok hc h ([0, 1, 1, 2, 3, 4, 5] : List Int) (by simp)
  by_cases q5 : r = 5
  · by_cases q8 : sizeOf x y z > 8
    · obtain ⟨o, g1, g2⟩ := spec_l03DrawLayer_j0 (kd := r) true hx hy hz c1 t1
      exact ⟨o, g1, evMono g2 fun k e => bind_of e1 (ite_yes q5 (bind_of (spec_SizeOf_eq _ _ _) (ite_yes q8 e)))⟩
    · obtain ⟨o, g1, g2⟩ := spec_l03DrawLayer_j0 (kd := r) false hx hy hz c1 t1
      exact ⟨o, g1, evMono g2 fun k e => bind_of e1 (ite_yes q5 (bind_of (spec_SizeOf_eq _ _ _) (ite_no q8 (ite_no (by omega) e))))⟩
  · by_cases q0 : r = 0
    · obtain ⟨o, g1, g2⟩ := spec_l03DrawLayer_j0 (kd := r) (decide (sizeOf x y z > 64)) hx hy hz c1 t1
      exact ⟨o, g1, evMono g2 fun k e => bind_of e1 (ite_no q5 (ite_yes q0 (bind_of (spec_SizeOf_eq _ _ _) e)))⟩
    · obtain ⟨o, g1, g2⟩ := spec_l03DrawLayer_j0 (kd := r) false hx hy hz c1 t1
      exact ⟨o, g1, evMono g2 fun k e => bind_of e1 (ite_no q5 (ite_no q0 e))⟩


theorem bend_j0 (b : List Int) (i h a0 a1 a2 a3 a4 a5 a6 : Int) (W B : List Int) : Evp fun k => spec_l03Bend.j0 k b i h a0 a1 a2 a3 a4 a5 a6 W B = some (a0, a1, a2, a3, a4, a5, a6, W, B, i, h) := evSuc (evAll fun k => by simp only [spec_l03Bend.j0])
theorem spec_l03Bend_ok {b : List Int} {i : Int} (hc : Cu b i) (h a0 a1 a2 a3 a4 a5 a6 : Int) (W B : List Int) (hW : W.length ≤ 2000) (hB : B.length ≤ 2000) : ∃ o : Int × Int × Int × Int × Int × Int × Int × List Int × List Int × Int × Int, (o.2.2.2.2.2.2.2.1.length ≤ 2001 ∧ o.2.2.2.2.2.2.2.2.1.length ≤ 2001 ∧ Cu b o.2.2.2.2.2.2.2.2.2.1) ∧ Evp fun k => spec_l03Bend.f k b i h a0 a1 a2 a3 a4 a5 a6 W B = some o := by
  obtain ⟨r, i1, t1, e1, a, b1, c1⟩ := spec_l01Below_ok hc h (n := 9) (by omega)
  have hW' : W.length ≤ 2001 := by omega
  have hB' : B.length ≤ 2001 := by omega
  by_cases q0 : r = 0
  · obtain ⟨v, i2, t2, e2, _, c2⟩ := spec_l01PickInt_ok c1 t1 ([(-1), 0, 2, 5, 6] : List Int) (by simp)
    exact ⟨_, ⟨hW', hB', c2⟩, evMono (bend_j0 b i2 t2 v a1 a2 a3 a4 a5 a6 W B) fun k g => bind_of e1 (ite_yes q0 (bind_of e2 g))⟩
  by_cases q1 : r = 1
  · obtain ⟨v, i2, t2, e2, _, c2⟩ := spec_l01PickInt_ok c1 t1 ([0, 8, 9] : List Int) (by simp)
    exact ⟨_, ⟨hW', hB', c2⟩, evMono (bend_j0 b i2 t2 a0 v a2 a3 a4 a5 a6 W B) fun k g => bind_of e1 (ite_no q0 (ite_yes q1 (bind_of e2 g)))⟩
  by_cases q2 : r = 2
  · obtain ⟨v, i2, t2, e2, _, c2⟩ := spec_l01PickInt_ok c1 t1 ([0, 3, 4] : List Int) (by simp)
    exact ⟨_, ⟨hW', hB', c2⟩, evMono (bend_j0 b i2 t2 a0 a1 v a3 a4 a5 a6 W B) fun k g => bind_of e1 (ite_no q0 (ite_no q1 (ite_yes q2 (bind_of e2 g))))⟩
  by_cases q3 : r = 3
  · obtain ⟨v, i2, t2, e2, _, c2⟩ := spec_l01PickInt_ok c1 t1 ([0, 2, 3] : List Int) (by simp)
    exact ⟨_, ⟨hW', hB', c2⟩, evMono (bend_j0 b i2 t2 a0 a1 a2 v a4 a5 a6 W B) fun k g => bind_of e1 (ite_no q0 (ite_no q1 (ite_no q2 (ite_yes q3 (bind_of e2 g)))))⟩
  by_cases q4 : r = 4
  · obtain ⟨v, i2, t2, e2, _, c2⟩ := spec_l01PickInt_ok c1 t1 ([(-1), 2147483647, 2147483648] : List Int) (by simp)
    exact ⟨_, ⟨hW', hB', c2⟩, evMono (bend_j0 b i2 t2 a0 a1 a2 a3 v a5 a6 W B) fun k g => bind_of e1 (ite_no q0 (ite_no q1 (ite_no q2 (ite_no q3 (ite_yes q4 (bind_of e2 g))))))⟩
  by_cases q5 : r = 5
  · obtain ⟨v, i2, t2, e2, _, c2⟩ := spec_l01PickInt_ok c1 t1 ([(-1), 31, 32] : List Int) (by simp)
    exact ⟨_, ⟨hW', hB', c2⟩, evMono (bend_j0 b i2 t2 a0 a1 a2 a3 a4 v a6 W B) fun k g => bind_of e1 (ite_no q0 (ite_no q1 (ite_no q2 (ite_no q3 (ite_no q4 (ite_yes q5 (bind_of e2 g)))))))⟩
  by_cases q6 : r = 6
  · obtain ⟨v, i2, t2, e2, _, c2⟩ := spec_l01PickInt_ok c1 t1 ([(-128), (-129), 127, 128] : List Int) (by simp)
    exact ⟨_, ⟨hW', hB', c2⟩, evMono (bend_j0 b i2 t2 a0 a1 a2 a3 a4 a5 v W B) fun k g => bind_of e1 (ite_no q0 (ite_no q1 (ite_no q2 (ite_no q3 (ite_no q4 (ite_no q5 (ite_yes q6 (bind_of e2 g))))))))⟩
  by_cases q7 : r = 7
  · obtain ⟨v, i2, t2, e2, _, c2⟩ := spec_l01PickInt_ok c1 t1 ([0, 128] : List Int) (by simp)
    exact ⟨_, ⟨by show (W ++ [v]).length ≤ 2001; simp; omega, hB', c2⟩, evMono (bend_j0 b i2 t2 a0 a1 a2 a3 a4 a5 a6 (W ++ [v]) B) fun k g => bind_of e1 (ite_no q0 (ite_no q1 (ite_no q2 (ite_no q3 (ite_no q4 (ite_no q5 (ite_no q6 (ite_yes q7 (bind_of e2 (ite_yes (by omega) g))))))))))⟩
  · have q8 : r = 8 := by omega
    obtain ⟨v, i2, t2, e2, _, c2⟩ := spec_l01PickInt_ok c1 t1 ([0, 1000001] : List Int) (by simp)
    exact ⟨_, ⟨hW', by show (B ++ [v]).length ≤ 2001; simp; omega, c2⟩, evMono (bend_j0 b i2 t2 a0 a1 a2 a3 a4 a5 a6 W (B ++ [v])) fun k g => bind_of e1 (ite_no q0 (ite_no q1 (ite_no q2 (ite_no q3 (ite_no q4 (ite_no q5 (ite_no q6 (ite_no q7 (ite_yes q8 (bind_of e2 (ite_yes (by omega) g)))))))))))⟩


def DrawO (b : List Int) (o : Int × Int × Int × Int × Int × Int × Int × Int × Int × Int × List Int × List Int × List Int × Int × Int) : Prop := o.2.2.2.2.2.2.2.2.2.2.1.length ≤ 2001 ∧ o.2.2.2.2.2.2.2.2.2.2.2.1.length ≤ 2001 ∧ o.2.2.2.2.2.2.2.2.2.2.2.2.1 = b ∧ Cu b o.2.2.2.2.2.2.2.2.2.2.2.2.2.1
theorem spec_l03Draw_j0 {b : List Int} {x y z : Int} (hx : 1 ≤ x) (hy : 1 ≤ y) (hz : 0 ≤ z ∧ z ≤ 3) {i : Int} (hc : Cu b i) (h : Int) : ∃ o, DrawO b o ∧ Evp fun k => spec_l03Draw.j0 k b i h x y z = some o := by
  obtain ⟨⟨a0, a1, a2, a3, a4, a5, a6, W, B, i1, t1⟩, ⟨hW, hB, c1⟩, e1⟩ := spec_l03DrawLayer_ok hx hy hz hc h
  obtain ⟨r, i2, t2, e2, c2⟩ := spec_l01Once_ok c1 t1 (n := 8) (by omega)
  by_cases q : r = true
  · obtain ⟨⟨b0, b1, b2, b3, b4, b5, b6, W', B', i3, t3⟩, ⟨hW', hB', c3⟩, e3⟩ := spec_l03Bend_ok c2 t2 a0 a1 a2 a3 a4 a5 a6 W B hW hB
    refine ⟨(x, y, z, b0, b1, b2, b3, b4, b5, b6, W', B', b, i3, t3), ⟨hW', hB', rfl, c3⟩, evSuc (evMono (evAnd e1 e3) fun k ⟨e, e3⟩ => ?_)⟩
    · simp only [spec_l03Draw.j0]
      exact bind_of e (bind_of e2 (ite_yes q (bind_of e3 rfl)))
  · have hW0 : W.length ≤ 2000 := hW
    have hB0 : B.length ≤ 2000 := hB
    refine ⟨(x, y, z, a0, a1, a2, a3, a4, a5, a6, W, B, b, i2, t2), ⟨show W.length ≤ 2001 by omega, show B.length ≤ 2001 by omega, rfl, c2⟩, evSuc (evMono e1 fun k e => ?_)⟩
    · simp only [spec_l03Draw.j0]
      exact bind_of e (bind_of e2 (ite_no q rfl))
theorem spec_l03Draw_ok (b : List Int) (hb : b.length ≤ 1099511627776) : ∃ o, DrawO b o ∧ Evp fun k => spec_l03Draw.f k b = some o := by
  obtain ⟨h0, e0⟩ := spec_l01New_ok b hb
  obtain ⟨x, y, z, i1, t1, e1, x1, y1, z1, c1⟩ := spec_l02DrawShape_ok (Cu.zero hb) h0
  obtain ⟨r, i2, t2, e2, c2⟩ := spec_l01Once_ok c1 t1 (n := 25) (by omega)
  by_cases q : r = true
  · obtain ⟨v, i3, t3, e3, m3, c3⟩ := spec_l01PickInt_ok c2 t2 ([1, 2] : List Int) (by simp)
    simp only [List.mem_cons, List.not_mem_nil, or_false] at m3
    obtain ⟨o, g1, g2⟩ := spec_l03Draw_j0 (b := b) (x := 8) (y := 8) (z := v) (by omega) (by omega) (by omega) c3 t3
    exact ⟨o, g1, evMono (evAnd e0 g2) fun k ⟨e, g⟩ => bind_of e (bind_of e1 (bind_of e2 (ite_yes q (bind_of e3 g))))⟩
  · obtain ⟨o, g1, g2⟩ := spec_l03Draw_j0 (b := b) (x := x) (y := y) (z := z) (by omega) (by omega) (by omega) c2 t2
    exact ⟨o, g1, evMono (evAnd e0 g2) fun k ⟨e, g⟩ => bind_of e (bind_of e1 (bind_of e2 (ite_no q g)))⟩


theorem spec_DrawRunLayer_ok (b : List Int) (hb : b.length ≤ 1099511627776) : ∃ x y z D a0 a1 a2 a3 a4 a5 a6 W B, D.length ≤ 1000 ∧ W.length ≤ 2001 ∧ B.length ≤ 2001 ∧ Evp fun k => spec_DrawRunLayer.f k b = some (x, y, z, D, a0, a1, a2, a3, a4, a5, a6, W, B) := by
  obtain ⟨⟨x, y, z, a0, a1, a2, a3, a4, a5, a6, W, B, b', i1, t1⟩, ⟨hW, hB, eb, c1⟩, e1⟩ := spec_l03Draw_ok b hb
  obtain rfl : b' = b := eb
  obtain ⟨D, i2, t2, l2, v2, c2, e2⟩ := spec_l02DrawTensor_ok c1 t1 x y z
  obtain ⟨r, i3, t3, e3, c3⟩ := spec_l01Once_ok c2 t2 (n := 20) (by omega)
  have hsz := sizeOf_b x y z
  by_cases q : r = true
  · obtain ⟨x', y', z', D', i4, t4, l4, c4, e4⟩ := spec_l02DrawLoose_ok c3 t3
    exact ⟨_, _, _, _, _, _, _, _, _, _, _, _, _, l4, hW, hB, evMono (evAnd e1 (evAnd e2 e4)) fun k ⟨e1, e2, e4⟩ => bind_of e1 (bind_of e2 (bind_of e3 (ite_yes q (bind_of e4 rfl))))⟩
  · exact ⟨_, _, _, _, _, _, _, _, _, _, _, _, _, by show D.length ≤ 1000; omega, hW, hB, evMono (evAnd e1 e2) fun k ⟨e1, e2⟩ => bind_of e1 (bind_of e2 (bind_of e3 (ite_no q rfl)))⟩


/-! #### what an item of a layer is -/
def itemP (w c kd sz st ze : Int) (d : List Int) (p q o : Nat) (v : Int) : Prop :=
  (-128 ≤ v ∧ v ≤ 127) ∧ (kd = 2 → ∀ x ∈ poolP d w.toNat c.toNat o sz.toNat (p * st.toNat) (q * st.toNat) sz.toNat 0, x ≤ v) ∧
  (kd = 3 → ∀ M : Int, (∀ x ∈ poolP d w.toNat c.toNat o sz.toNat (p * st.toNat) (q * st.toNat) sz.toNat 0, x ≤ M) → v ≤ M) ∧
  (kd = 4 → v = mx (d.getD ((p * w.toNat + q) * c.toNat + o) 0) ze)
theorem getD_bd7 {d : List Int} (hd : ∀ x ∈ d, -128 ≤ x ∧ x ≤ 127) (i : Nat) : -128 ≤ d.getD i 0 ∧ d.getD i 0 ≤ 127 := by
  by_cases h : i < d.length
  · have := hd d[i] (List.getElem_mem h)
    rw [getD_in h]
    omega
  · simp [List.getD, List.getElem?_eq_none (Nat.not_lt.1 h)]
theorem rowP_b7 {d : List Int} (hd : ∀ x ∈ d, -128 ≤ x ∧ x ≤ 127) (w c o x y : Nat) : ∀ (n j : Nat), ∀ z ∈ rowP d w c o x y n j, -128 ≤ z ∧ z ≤ 127
  | 0, j, z, hz => by simp [rowP] at hz
  | n + 1, j, z, hz => by
    rw [rowP, List.mem_cons] at hz
    rcases hz with rfl | hz
    · exact getD_bd7 hd _
    · exact rowP_b7 hd w c o x y n (j + 1) z hz
theorem poolP_b7 {d : List Int} (hd : ∀ x ∈ d, -128 ≤ x ∧ x ≤ 127) (w c o sz x y : Nat) : ∀ (n i : Nat), ∀ z ∈ poolP d w c o sz x y n i, -128 ≤ z ∧ z ≤ 127
  | 0, i, z, hz => by simp [poolP] at hz
  | n + 1, i, z, hz => by
    rw [poolP, List.mem_append] at hz
    rcases hz with hz | hz
    · exact rowP_b7 hd w c o _ _ _ _ z hz
    · exact poolP_b7 hd w c o sz x y n (i + 1) z hz
theorem sumP_le {M : Int} : ∀ (l : List Int) (s : Int), (∀ x ∈ l, x ≤ M) → sumP l s ≤ s + l.length * M
  | [], s, _ => by simp [sumP]
  | x :: l, s, h => by
    have h1 := h x (by simp)
    have h2 := sumP_le l (s + x) fun y hy => h y (by simp [hy])
    have e : ((l.length + 1 : Nat) : Int) * M = l.length * M + M := by rw [Int.natCast_add, Int.add_mul]; simp
    simp only [sumP, List.length_cons]
    rw [e]
    omega
theorem sumP_ge {m : Int} : ∀ (l : List Int) (s : Int), (∀ x ∈ l, m ≤ x) → s + l.length * m ≤ sumP l s
  | [], s, _ => by simp [sumP]
  | x :: l, s, h => by
    have h1 := h x (by simp)
    have h2 := sumP_ge l (s + x) fun y hy => h y (by simp [hy])
    have e : ((l.length + 1 : Nat) : Int) * m = l.length * m + m := by rw [Int.natCast_add, Int.add_mul]; simp
    simp only [sumP, List.length_cons]
    rw [e]
    omega
theorem rnd_le {x n M : Int} (hn : 1 ≤ n) (h : x ≤ n * M) : rnd x n ≤ M := by
  have e : M * (2 * n) = 2 * (n * M) := by rw [Int.mul_comm n M, ← Int.mul_assoc, Int.mul_comm M 2, Int.mul_assoc]
  unfold rnd
  split
  · have : -M ≤ (-2 * x + n) / (2 * n) := (Int.le_ediv_iff_mul_le (by omega)).2 (by rw [Int.neg_mul, e]; omega)
    omega
  · have : (2 * x + n) / (2 * n) < M + 1 := Int.ediv_lt_of_lt_mul (by omega) (by rw [Int.add_mul, e]; omega)
    omega
theorem rnd_ge {x n m : Int} (hn : 1 ≤ n) (h : n * m ≤ x) : m ≤ rnd x n := by
  have e : m * (2 * n) = 2 * (n * m) := by rw [Int.mul_comm n m, ← Int.mul_assoc, Int.mul_comm m 2, Int.mul_assoc]
  unfold rnd
  split
  · have : (-2 * x + n) / (2 * n) < -m + 1 := Int.ediv_lt_of_lt_mul (by omega) (by rw [Int.add_mul, show -m * (2 * n) = -(2 * (n * m)) by rw [Int.neg_mul, e]]; omega)
    omega
  · exact (Int.le_ediv_iff_mul_le (by omega)).2 (by rw [e]; omega)
theorem itemP_dense {h w c sz st p q : Int} {px qx o : Nat} {d W B : List Int} {ou mu sh ze : Int} (ht : tensorOk h w c d = true) (ho : o ≤ 8) (hW : (o + 1) * d.length ≤ W.length) (hB : o < B.length) : ∃ v, (Evp fun k => spec_l03Item.f k h w c d 0 ou sz st mu sh ze W B p q (o : Int) = some v) ∧ (Evp fun k => impl_Layer_item.f k 0 ou sz st mu sh ze W B h w c d p q (o : Int) = some v) ∧ itemP w c 0 sz st ze d px qx o v := by
  have hl := tensorOk_len ht
  obtain ⟨hs, hn, _⟩ := tensorOk_iff.1 ht
  have b1 : o * d.length ≤ 8 * 512 := Nat.mul_le_mul ho hl.2
  have e1 : (o + 1) * d.length = o * d.length + d.length := Nat.succ_mul _ _
  have hz : sizeOf h w c = (d.length : Int) := by
    unfold sizeOf
    rw [if_pos hs, hn]
  have w1 : wrap64 ((o : Int) * (d.length : Int)) = ((o * d.length : Nat) : Int) := by
    rw [show (o : Int) * (d.length : Int) = ((o * d.length : Nat) : Int) by simp]
    exact w64' (by omega) (by omega)
  have w2 : wrap64 (((o * d.length : Nat) : Int) + (d.length : Int)) = ((o * d.length + d.length : Nat) : Int) := by
    rw [show ((o * d.length : Nat) : Int) + (d.length : Int) = ((o * d.length + d.length : Nat) : Int) by simp]
    exact w64' (by omega) (by omega)
  refine ⟨_, ?_, evMono (impl_scaled_ev (kd := 0) (ou := ou) (sz := sz) (st := st) (mu := mu) (sh := sh) (ze := ze) ho hl.2 hW hB) fun k e => ite_yes rfl (bind_of e rfl), sat8_b _, fun e => absurd e (by decide), fun e => absurd e (by decide), fun e => absurd e (by decide)⟩
  refine evMono (evAnd (spec_DotOf_ev d (part W (o * d.length) d.length) (by omega)) (evAnd (spec_AddSat_ev (dotOf d (part W (o * d.length) d.length)) B[o]) (spec_Requant_ev (addSat (dotOf d (part W (o * d.length) d.length)) B[o]) mu sh ze))) fun k ⟨e2, e3, e4⟩ => ite_yes rfl (bind_of (spec_SizeOf_eq h w c) ?_)
  rw [hz, w1, w2, Int.toNat_natCast, Int.toNat_natCast, drop_take_part]
  refine ite_yes (by omega) (ite_yes (by omega) (ite_yes (by omega) (bind_of e2 (ite_yes (by omega) (ite_yes (by omega) ?_)))))
  rw [rd_eq hB]
  exact bind_of e3 (bind_of e4 rfl)
theorem itemP_flat {h w c sz st p q ze : Int} {px qx o : Nat} {d W B : List Int} {ou mu sh : Int} (hd : ∀ x ∈ d, -128 ≤ x ∧ x ≤ 127) (ho : o < d.length) : ∃ v, (Evp fun k => spec_l03Item.f k h w c d 5 ou sz st mu sh ze W B p q (o : Int) = some v) ∧ (Evp fun k => impl_Layer_item.f k 5 ou sz st mu sh ze W B h w c d p q (o : Int) = some v) ∧ itemP w c 5 sz st ze d px qx o v :=
  ⟨rd d (o : Int), evAll fun k => ite_no (by decide) (ite_no (by decide) (ite_no (by decide) (ite_no (by decide) (ite_no (by decide) (ite_yes (by omega) (ite_yes (by omega) rfl)))))), evAll fun k => ite_no (by decide) (ite_no (by decide) (ite_no (by decide) (ite_no (by decide) (ite_no (by decide) (ite_yes (by omega) (ite_yes (by omega) rfl)))))), by rw [rd_eq ho]; exact hd _ (List.getElem_mem ho), fun e => absurd e (by decide), fun e => absurd e (by decide), fun e => absurd e (by decide)⟩
theorem itemP_conv {h w c sz st p q o : Nat} {d W B : List Int} {ou mu sh ze : Int} (ht : tensorOk (h : Int) (w : Int) (c : Int) d = true) (hc1 : 1 ≤ c) (hc8 : c ≤ 8) (hw8 : w ≤ 8) (hsz : sz ≤ 3) (hst : st ≤ 2) (hp : p ≤ 8) (hq : q ≤ 8) (ho : o ≤ 8) (hW : ∀ x ∈ W, -128 ≤ x ∧ x ≤ 127) (hx : p * st + sz ≤ h) (hy : q * st + sz ≤ w) (hWl : (o + 1) * (sz * (sz * c)) ≤ W.length) (hB : o < B.length) : ∃ v, (Evp fun k => spec_l03Item.f k (h : Int) (w : Int) (c : Int) d 1 ou (sz : Int) (st : Int) mu sh ze W B (p : Int) (q : Int) (o : Int) = some v) ∧ (Evp fun k => impl_Layer_item.f k 1 ou (sz : Int) (st : Int) mu sh ze W B (h : Int) (w : Int) (c : Int) d (p : Int) (q : Int) (o : Int) = some v) ∧ itemP (w : Int) (c : Int) 1 (sz : Int) (st : Int) ze d p q o v := by
  have hl := winW_len ht hx hc1 hy sz 0 (by omega)
  have e1 : (o * sz + 0) * sz * c = o * (sz * (sz * c)) := by rw [Nat.add_zero, Nat.mul_assoc, Nat.mul_assoc]
  have e2 : (o * sz + sz) * sz * c = (o + 1) * (sz * (sz * c)) := by rw [← Nat.succ_mul, Nat.mul_assoc, Nat.mul_assoc]
  have b1 : sz * c ≤ 3 * 8 := Nat.mul_le_mul hsz hc8
  have b2 : sz * (sz * c) ≤ 3 * (3 * 8) := Nat.mul_le_mul hsz b1
  have s := spec_conv_l0 (kd := 1) (ou := ou) (mu := mu) (sh := sh) (ze := ze) ht hc8 hsz hst hp hq ho hW hc1 hx hy (by rw [e2]; exact hWl) hB sz 0 0 (by omega)
  have i1 := impl_win_ev (kd := 1) (ou := ou) (mu := mu) (sh := sh) (ze := ze) (W := W) (B := B) ht hc1 hc8 hw8 hsz hst hp hq hx hy
  have i2 := impl_scaled_ev (kd := 1) (ou := ou) (sz := (sz : Int)) (st := (st : Int)) (mu := mu) (sh := sh) (ze := ze) (W := W) (B := B) (l := winW d w c sz (p * st) (q * st) sz 0) ho (by rw [hl]; omega) (by rw [hl]; exact hWl) hB
  rw [hl, ← e1] at i2
  exact ⟨_, evMono s fun k e => ite_no (by decide) (ite_yes rfl e), evMono (evAnd i1 i2) fun k ⟨a, b⟩ => ite_no (by decide) (ite_yes rfl (bind_of a (bind_of b rfl))), sat8_b _, fun e => absurd e (by decide), fun e => absurd e (by decide), fun e => absurd e (by decide)⟩
theorem itemP_max {h w c sz st p q o : Nat} {d W B : List Int} {ou mu sh ze : Int} (ht : tensorOk (h : Int) (w : Int) (c : Int) d = true) (ho : o < c) (hc8 : c ≤ 8) (hw8 : w ≤ 8) (hs1 : 1 ≤ sz) (hsz : sz ≤ 3) (hst : st ≤ 2) (hp : p ≤ 8) (hq : q ≤ 8) (hx : p * st + sz ≤ h) (hy : q * st + sz ≤ w) : ∃ v, (Evp fun k => spec_l03Item.f k (h : Int) (w : Int) (c : Int) d 2 ou (sz : Int) (st : Int) mu sh ze W B (p : Int) (q : Int) (o : Int) = some v) ∧ (Evp fun k => impl_Layer_item.f k 2 ou (sz : Int) (st : Int) mu sh ze W B (h : Int) (w : Int) (c : Int) d (p : Int) (q : Int) (o : Int) = some v) ∧ itemP (w : Int) (c : Int) 2 (sz : Int) (st : Int) ze d p q o v := by
  have s1 := spec_pool_l0 (kd := 2) (ou := ou) (mu := mu) (sh := sh) (ze := ze) (W := W) (B := B) ht ho hc8 hw8 hsz hst hp hq hx hy sz 0 [] (by omega) (by simp)
  have i1 := impl_pool_l0 (kd := 2) (ou := ou) (mu := mu) (sh := sh) (ze := ze) (W := W) (B := B) ht ho hc8 hw8 hsz hst hp hq hx hy sz 0 [] (by omega) (by simp)
  have hl := poolP_len d w c o sz (p * st) (q * st) sz 0
  have b1 : 1 * 1 ≤ sz * sz := Nat.mul_le_mul hs1 hs1
  have b2 : sz * sz ≤ 3 * 3 := Nat.mul_le_mul hsz hsz
  have hb := poolP_b7 (tensorOk_iff.1 ht).2.2 w c o sz (p * st) (q * st) sz 0
  unfold itemP
  rw [List.nil_append] at s1 i1
  simp only [Int.toNat_natCast]
  generalize poolP d w c o sz (p * st) (q * st) sz 0 = L at s1 i1 hl hb ⊢
  obtain ⟨M, m1, ⟨j, hj, ej⟩, m3⟩ := spec_max_l3 L (by omega) (L.length - 1) 1 (rd L 0) (by omega) (fun j hj => by
    have : j = 0 := by omega
    rw [this]
    exact Int.le_of_eq (rd_nat L 0).symm) ⟨0, by omega, (rd_nat L 0).symm⟩
  obtain ⟨M', n1, ⟨j', hj', ej'⟩, n3⟩ := slices_Max_ok L (by omega) (by omega)
  have hM : M = M' := by
    have a := n1 j hj
    have b := m1 j' hj'
    omega
  subst hM
  refine ⟨M, evMono (evAnd s1 m3) fun k ⟨a, b⟩ => ite_no (by decide) (ite_no (by decide) (ite_yes rfl (bind_of a (ite_yes (by omega) b)))), evMono (evAnd i1 n3) fun k ⟨a, b⟩ => ite_no (by decide) (ite_no (by decide) (ite_yes rfl (bind_of a (bind_of b rfl)))), ?_, ?_, fun e => absurd e (by decide), fun e => absurd e (by decide)⟩
  · rw [← ej, getD_in hj]
    exact hb _ (List.getElem_mem hj)
  · intro _ x hx
    obtain ⟨i, hi, rfl⟩ := List.mem_iff_getElem.1 hx
    have := m1 i hi
    rwa [getD_in hi] at this
theorem itemP_avg {h w c sz st p q o : Nat} {d W B : List Int} {ou mu sh ze : Int} (ht : tensorOk (h : Int) (w : Int) (c : Int) d = true) (ho : o < c) (hc8 : c ≤ 8) (hw8 : w ≤ 8) (hs1 : 1 ≤ sz) (hsz : sz ≤ 3) (hst : st ≤ 2) (hp : p ≤ 8) (hq : q ≤ 8) (hx : p * st + sz ≤ h) (hy : q * st + sz ≤ w) : ∃ v, (Evp fun k => spec_l03Item.f k (h : Int) (w : Int) (c : Int) d 3 ou (sz : Int) (st : Int) mu sh ze W B (p : Int) (q : Int) (o : Int) = some v) ∧ (Evp fun k => impl_Layer_item.f k 3 ou (sz : Int) (st : Int) mu sh ze W B (h : Int) (w : Int) (c : Int) d (p : Int) (q : Int) (o : Int) = some v) ∧ itemP (w : Int) (c : Int) 3 (sz : Int) (st : Int) ze d p q o v := by
  have s1 := spec_pool_l0 (kd := 3) (ou := ou) (mu := mu) (sh := sh) (ze := ze) (W := W) (B := B) ht ho hc8 hw8 hsz hst hp hq hx hy sz 0 [] (by omega) (by simp)
  have i1 := impl_pool_l0 (kd := 3) (ou := ou) (mu := mu) (sh := sh) (ze := ze) (W := W) (B := B) ht ho hc8 hw8 hsz hst hp hq hx hy sz 0 [] (by omega) (by simp)
  have hl := poolP_len d w c o sz (p * st) (q * st) sz 0
  have hb := poolP_b (tensorOk_iff.1 ht).2.2 w c o sz (p * st) (q * st) sz 0
  have b1 : 1 * 1 ≤ sz * sz := Nat.mul_le_mul hs1 hs1
  have b2 : sz * sz ≤ 3 * 3 := Nat.mul_le_mul hsz hsz
  have hb7 := poolP_b7 (tensorOk_iff.1 ht).2.2 w c o sz (p * st) (q * st) sz 0
  unfold itemP
  rw [List.nil_append] at s1 i1
  simp only [Int.toNat_natCast]
  generalize poolP d w c o sz (p * st) (q * st) sz 0 = L at s1 i1 hl hb hb7 ⊢
  have m3 := spec_avg_l4 L (by omega) (by omega) hb L.length 0 0 (by omega) (by omega) (by omega)
  have n3 := impl_avg_l0 (kd := 3) (ou := ou) (st := (st : Int)) (mu := mu) (sh := sh) (ze := ze) (W := W) (B := B) L hl.symm (by omega) (by omega) hb L.length 0 0 (by omega) (by omega) (by omega)
  have hl1 : (1 : Int) ≤ (L.length : Int) := by omega
  have up : ∀ M : Int, (∀ x ∈ L, x ≤ M) → rnd (sumP L 0) (L.length : Int) ≤ M := fun M hM => rnd_le hl1 (by have := sumP_le L 0 hM; omega)
  have dn : -128 ≤ rnd (sumP L 0) (L.length : Int) := rnd_ge hl1 (by have := sumP_ge (m := -128) L 0 (fun x hx => (hb7 x hx).1); omega)
  rw [List.drop_zero] at m3 n3
  exact ⟨_, evMono (evAnd s1 m3) fun k ⟨a, b⟩ => ite_no (by decide) (ite_no (by decide) (ite_no (by decide) (ite_yes rfl (bind_of a b)))), evMono (evAnd i1 n3) fun k ⟨a, b⟩ => ite_no (by decide) (ite_no (by decide) (ite_no (by decide) (ite_yes rfl (bind_of a b)))), ⟨dn, up 127 fun x hx => (hb7 x hx).2⟩, fun e => absurd e (by decide), fun _ => up, fun e => absurd e (by decide)⟩
theorem itemP_relu {h w c p q o : Nat} {d W B : List Int} {ou sz st mu sh ze : Int} (ht : tensorOk (h : Int) (w : Int) (c : Int) d = true) (hh8 : h ≤ 8) (hc8 : c ≤ 8) (hw8 : w ≤ 8) (hp : p < h) (hq : q < w) (ho : o < c) (hze : -128 ≤ ze ∧ ze ≤ 127) : ∃ v, (Evp fun k => spec_l03Item.f k (h : Int) (w : Int) (c : Int) d 4 ou sz st mu sh ze W B (p : Int) (q : Int) (o : Int) = some v) ∧ (Evp fun k => impl_Layer_item.f k 4 ou sz st mu sh ze W B (h : Int) (w : Int) (c : Int) d (p : Int) (q : Int) (o : Int) = some v) ∧ itemP (w : Int) (c : Int) 4 sz st ze d p q o v := by
  obtain ⟨hd, hit⟩ := itemAt_at ht hp hq ho
  have hl := tensorOk_len ht
  have s := spec_ItemAt_ev (h : Int) (w : Int) (c : Int) d (p : Int) (q : Int) (o : Int) (by omega)
  rw [hit] at s
  refine ⟨mx (d.getD ((p * w + q) * c + o) 0) ze, evMono s fun k e => ite_no (by decide) (ite_no (by decide) (ite_no (by decide) (ite_no (by decide) (ite_yes rfl (bind_of e ?_))))), evAll fun k => ite_no (by decide) (ite_no (by decide) (ite_no (by decide) (ite_no (by decide) (ite_yes rfl (bind_of (place_w3 p q o w c (by omega) (by omega) (by omega) hw8 hc8) (ite_yes (by omega) (ite_yes (by omega) ?_))))))), ?_, fun e => absurd e (by decide), fun e => absurd e (by decide), fun _ => by simp only [Int.toNat_natCast]⟩
  · unfold mx
    by_cases hm : d.getD ((p * w + q) * c + o) 0 < ze
    · exact ite_yes hm (by rw [if_pos hm])
    · exact ite_no hm (by rw [if_neg hm])
  · rw [rd_nat]
  · have := getD_bd7 (tensorOk_iff.1 ht).2.2 ((p * w + q) * c + o)
    unfold mx
    split <;> omega
theorem itemP_ok {h w c kd ou sz st mu sh ze : Int} {d W B : List Int} {H Wd C : Int} (ht : tensorOk h w c d = true) (ho : outShape h w c kd ou sz st mu sh ze W B = (H, Wd, C, true)) : (1 ≤ H ∧ H ≤ 8) ∧ (1 ≤ Wd ∧ Wd ≤ 8) ∧ (1 ≤ C ∧ C ≤ 8) ∧ ∀ p q o : Nat, (p : Int) < H → (q : Int) < Wd → (o : Int) < C → ∃ v, (Evp fun k => spec_l03Item.f k h w c d kd ou sz st mu sh ze W B (p : Int) (q : Int) (o : Int) = some v) ∧ (Evp fun k => impl_Layer_item.f k kd ou sz st mu sh ze W B h w c d (p : Int) (q : Int) (o : Int) = some v) ∧ itemP w c kd sz st ze d p q o v := by
  obtain ⟨hs, hn, hd⟩ := tensorOk_iff.1 ht
  obtain ⟨⟨h1, h2⟩, ⟨h3, h4⟩, h5, h6⟩ := shape_dims hs
  have hlen := tensorOk_len ht
  unfold outShape at ho
  rw [if_pos hs] at ho
  have no : ∀ {P : Prop}, sh0 = (H, Wd, C, true) → P := fun e => by unfold sh0 at e; simp at e
  by_cases k0 : kd = 0
  · rw [if_pos k0] at ho
    by_cases g : h * w * c ≤ 64 ∧ noneB sz st = true ∧ scaledB ou mu sh ze W B (h * w * c) = true
    · rw [if_pos g] at ho
      simp only [Prod.mk.injEq, and_true] at ho
      obtain ⟨rfl, rfl, rfl⟩ := ho
      subst k0
      obtain ⟨g1, g2, g3, g4, g5, g6, g7, g8⟩ := scaledB_iff.1 g.2.2
      refine ⟨by omega, by omega, by omega, fun p q o hp hq ho => itemP_dense ht (by omega) ?_ (by omega)⟩
      have m : ((o + 1 : Nat) : Int) * (d.length : Int) ≤ ou * (d.length : Int) := Int.mul_le_mul_of_nonneg_right (by omega) (by omega)
      have m2 : (((o + 1) * d.length : Nat) : Int) = ((o + 1 : Nat) : Int) * (d.length : Int) := Int.natCast_mul _ _
      rw [← hn] at g5
      omega
    · rw [if_neg g] at ho
      exact no ho
  rw [if_neg k0] at ho
  by_cases k1 : kd = 1
  · rw [if_pos k1] at ho
    by_cases g : windB sz st h w = true ∧ (W.length : Int) ≤ 600 ∧ scaledB ou mu sh ze W B (sz * sz * c) = true
    · rw [if_pos g] at ho
      simp only [Prod.mk.injEq, and_true] at ho
      obtain ⟨rfl, rfl, rfl⟩ := ho
      subst k1
      obtain ⟨⟨⟨a1, a2⟩, a3, a4⟩, a5, a6⟩ := windB_iff.1 g.1
      obtain ⟨g1, g2, g3, g4, g5, g6, g7, g8⟩ := scaledB_iff.1 g.2.2
      obtain ⟨hN, rfl⟩ := nat_of (show 0 ≤ h by omega)
      obtain ⟨wN, rfl⟩ := nat_of (show 0 ≤ w by omega)
      obtain ⟨cN, rfl⟩ := nat_of (show 0 ≤ c by omega)
      obtain ⟨sN, rfl⟩ := nat_of (show 0 ≤ sz by omega)
      obtain ⟨tN, rfl⟩ := nat_of (show 0 ≤ st by omega)
      have d1 := Int.ediv_nonneg (show 0 ≤ (hN : Int) - sN by omega) (show 0 ≤ (tN : Int) by omega)
      have d2 := Int.ediv_le_self (a := (hN : Int) - sN) (tN : Int) (by omega)
      have d3 := Int.ediv_nonneg (show 0 ≤ (wN : Int) - sN by omega) (show 0 ≤ (tN : Int) by omega)
      have d4 := Int.ediv_le_self (a := (wN : Int) - sN) (tN : Int) (by omega)
      refine ⟨by omega, by omega, by omega, fun p q o hp hq ho => ?_⟩
      obtain ⟨x1, x2⟩ := win_in (by omega) (by omega) hp
      obtain ⟨y1, y2⟩ := win_in (by omega) (by omega) hq
      refine itemP_conv ht (by omega) (by omega) (by omega) (by omega) (by omega) (by omega) (by omega) (by omega) (fun x hx => ?_) x1 y1 ?_ (by omega)
      · exact itemsB_iff.1 g6 x hx
      · have m : ((o + 1 : Nat) : Int) * ((sN : Int) * sN * cN) ≤ ou * ((sN : Int) * sN * cN) := Int.mul_le_mul_of_nonneg_right (by omega) (Int.mul_nonneg (Int.mul_nonneg (by omega) (by omega)) (by omega))
        have m2 : (((o + 1) * (sN * (sN * cN)) : Nat) : Int) = ((o + 1 : Nat) : Int) * ((sN : Int) * sN * cN) := by rw [Int.natCast_mul, Int.natCast_mul, Int.natCast_mul, Int.mul_assoc (sN : Int)]
        omega
    · rw [if_neg g] at ho
      exact no ho
  rw [if_neg k1] at ho
  by_cases k2 : kd = 2 ∨ kd = 3
  · rw [if_pos k2] at ho
    by_cases g : windB sz st h w = true ∧ bareB ou mu sh W B = true ∧ ze = 0
    · rw [if_pos g] at ho
      simp only [Prod.mk.injEq, and_true] at ho
      obtain ⟨rfl, rfl, rfl⟩ := ho
      obtain ⟨⟨⟨a1, a2⟩, a3, a4⟩, a5, a6⟩ := windB_iff.1 g.1
      obtain ⟨hN, rfl⟩ := nat_of (show 0 ≤ h by omega)
      obtain ⟨wN, rfl⟩ := nat_of (show 0 ≤ w by omega)
      obtain ⟨cN, rfl⟩ := nat_of (show 0 ≤ c by omega)
      obtain ⟨sN, rfl⟩ := nat_of (show 0 ≤ sz by omega)
      obtain ⟨tN, rfl⟩ := nat_of (show 0 ≤ st by omega)
      have d1 := Int.ediv_nonneg (show 0 ≤ (hN : Int) - sN by omega) (show 0 ≤ (tN : Int) by omega)
      have d2 := Int.ediv_le_self (a := (hN : Int) - sN) (tN : Int) (by omega)
      have d3 := Int.ediv_nonneg (show 0 ≤ (wN : Int) - sN by omega) (show 0 ≤ (tN : Int) by omega)
      have d4 := Int.ediv_le_self (a := (wN : Int) - sN) (tN : Int) (by omega)
      refine ⟨by omega, by omega, by omega, fun p q o hp hq ho => ?_⟩
      obtain ⟨x1, x2⟩ := win_in (by omega) (by omega) hp
      obtain ⟨y1, y2⟩ := win_in (by omega) (by omega) hq
      rcases k2 with rfl | rfl
      · exact itemP_max ht (by omega) (by omega) (by omega) (by omega) (by omega) (by omega) (by omega) (by omega) x1 y1
      · exact itemP_avg ht (by omega) (by omega) (by omega) (by omega) (by omega) (by omega) (by omega) (by omega) x1 y1
    · rw [if_neg g] at ho
      exact no ho
  rw [if_neg k2] at ho
  by_cases k4 : kd = 4
  · rw [if_pos k4] at ho
    by_cases g : noneB sz st = true ∧ bareB ou mu sh W B = true ∧ rng ze (-128) 127 = true
    · rw [if_pos g] at ho
      simp only [Prod.mk.injEq, and_true] at ho
      obtain ⟨rfl, rfl, rfl⟩ := ho
      subst k4
      obtain ⟨hN, rfl⟩ := nat_of (show 0 ≤ h by omega)
      obtain ⟨wN, rfl⟩ := nat_of (show 0 ≤ w by omega)
      obtain ⟨cN, rfl⟩ := nat_of (show 0 ≤ c by omega)
      exact ⟨by omega, by omega, by omega, fun p q o hp hq ho => itemP_relu ht (by omega) (by omega) (by omega) (by omega) (by omega) (by omega) (by have := g.2.2; unfold rng at this; simp only [Bool.and_eq_true, decide_eq_true_eq] at this; omega)⟩
    · rw [if_neg g] at ho
      exact no ho
  rw [if_neg k4] at ho
  by_cases k5 : kd = 5
  · rw [if_pos k5] at ho
    by_cases g : noneB sz st = true ∧ bareB ou mu sh W B = true ∧ ze = 0 ∧ h * w * c ≤ 8
    · rw [if_pos g] at ho
      simp only [Prod.mk.injEq, and_true] at ho
      obtain ⟨rfl, rfl, rfl⟩ := ho
      subst k5
      exact ⟨by omega, by omega, by omega, fun p q o hp hq ho => itemP_flat hd (by omega)⟩
    · rw [if_neg g] at ho
      exact no ho
  rw [if_neg k5] at ho
  exact no ho
theorem RunLayer_P (h w c kd ou sz st mu sh ze : Int) (d W B : List Int) (hdl : d.length ≤ 9223372036854775807) (hW : (W.length : Int) ≤ 9223372036854775807) (hB : (B.length : Int) ≤ 9223372036854775807) : (∃ (H Wd C : Nat) (V : Nat → Nat → Nat → Int), tensorOk h w c d = true ∧ outShape h w c kd ou sz st mu sh ze W B = ((H : Int), (Wd : Int), (C : Int), true) ∧ (1 ≤ H ∧ H ≤ 8) ∧ (1 ≤ Wd ∧ Wd ≤ 8) ∧ (1 ≤ C ∧ C ≤ 8) ∧ (∀ p q o : Nat, p < H → q < Wd → o < C → itemP w c kd sz st ze d p q o (V p q o)) ∧ (Evp fun k => spec_RunLayer.f k h w c d kd ou sz st mu sh ze W B = some ((H : Int), (Wd : Int), (C : Int), rowL V C Wd H 0, true)) ∧ Evp fun k => impl_RunLayer.f k h w c d kd ou sz st mu sh ze W B = some ((H : Int), (Wd : Int), (C : Int), rowL V C Wd H 0, true)) ∨
    ((tensorOk h w c d = true → (outShape h w c kd ou sz st mu sh ze W B).2.2.2 = false) ∧ (Evp fun k => spec_RunLayer.f k h w c d kd ou sz st mu sh ze W B = some (0, 0, 0, [], false)) ∧ Evp fun k => impl_RunLayer.f k h w c d kd ou sz st mu sh ze W B = some (0, 0, 0, [], false)) := by
  have s1 := spec_TensorOk_ev h w c d hdl
  have i1 := impl_TensorOk_ev h w c d hdl
  have s2 := spec_OutShape_ev h w c kd ou sz st mu sh ze W B hW hB
  have i2 := impl_OutShape_ev h w c kd ou sz st mu sh ze W B hW hB
  have jt : ∀ a b e, Evp fun k => impl_RunLayer.j0 k true h w c d kd ou sz st mu sh ze W B a b e = some (0, 0, 0, [], false) := fun a b e => evSuc (evAll fun k => by
    simp only [impl_RunLayer.j0]
    exact ite_yes trivial rfl)
  cases ht : tensorOk h w c d with
  | false =>
    rw [ht] at s1 i1
    refine Or.inr ⟨fun e => (by cases e), evMono s1 fun k e => bind_of e (ite_no Bool.false_ne_true rfl), evMono (evAnd i2 (evAnd i1 (jt (outShape h w c kd ou sz st mu sh ze W B).1 (outShape h w c kd ou sz st mu sh ze W B).2.1 (outShape h w c kd ou sz st mu sh ze W B).2.2.1))) fun k ⟨a, b, e⟩ => bind_of a ?_⟩
    by_cases hk : (outShape h w c kd ou sz st mu sh ze W B).2.2.2 = true
    · exact ite_yes hk (bind_of b e)
    · exact ite_no hk e
  | true =>
    rw [ht] at s1 i1
    have key := fun {H Wd C : Int} => itemP_ok (kd := kd) (ou := ou) (sz := sz) (st := st) (mu := mu) (sh := sh) (ze := ze) (W := W) (B := B) (H := H) (Wd := Wd) (C := C) ht
    generalize outShape h w c kd ou sz st mu sh ze W B = O at s2 i2 key
    obtain ⟨H, Wd, C, ok⟩ := O
    cases ok with
    | false => exact Or.inr ⟨fun _ => rfl, evMono (evAnd s1 s2) fun k ⟨a, b⟩ => bind_of a (ite_yes rfl (bind_of b (ite_no Bool.false_ne_true rfl))), evMono (evAnd i2 (jt H Wd C)) fun k ⟨a, b⟩ => bind_of a (ite_no Bool.false_ne_true b)⟩
    | true =>
      obtain ⟨bH, bW, bC, hV⟩ := key rfl
      obtain ⟨H, rfl⟩ := nat_of (show 0 ≤ H by omega)
      obtain ⟨Wd, rfl⟩ := nat_of (show 0 ≤ Wd by omega)
      obtain ⟨C, rfl⟩ := nat_of (show 0 ≤ C by omega)
      have hV' : ∀ p q o : Nat, ∃ v, p < H → q < Wd → o < C → (Evp fun k => spec_l03Item.f k h w c d kd ou sz st mu sh ze W B (p : Int) (q : Int) (o : Int) = some v) ∧ (Evp fun k => impl_Layer_item.f k kd ou sz st mu sh ze W B h w c d (p : Int) (q : Int) (o : Int) = some v) ∧ itemP w c kd sz st ze d p q o v := fun p q o => by
        by_cases g : p < H ∧ q < Wd ∧ o < C
        · obtain ⟨v, g1⟩ := hV p q o (by omega) (by omega) (by omega)
          exact ⟨v, fun _ _ _ => g1⟩
        · exact ⟨0, fun a b e => absurd ⟨a, b, e⟩ g⟩
      obtain ⟨V, hV2⟩ : ∃ V : Nat → Nat → Nat → Int, ∀ p q o, p < H → q < Wd → o < C → (Evp fun k => spec_l03Item.f k h w c d kd ou sz st mu sh ze W B (p : Int) (q : Int) (o : Int) = some (V p q o)) ∧ (Evp fun k => impl_Layer_item.f k kd ou sz st mu sh ze W B h w c d (p : Int) (q : Int) (o : Int) = some (V p q o)) ∧ itemP w c kd sz st ze d p q o (V p q o) := ⟨fun p q o => Classical.choose (hV' p q o), fun p q o => Classical.choose_spec (hV' p q o)⟩
      have s3 := spec_run_l0 (show C ≤ 8 by omega) (show Wd ≤ 8 by omega) (show H ≤ 8 by omega) (fun p q o a b e => (hV2 p q o a b e).1) H 0 [] (by omega) (by simp)
      have i3 := impl_run_l0 (show C ≤ 8 by omega) (show Wd ≤ 8 by omega) (show H ≤ 8 by omega) (fun p q o a b e => (hV2 p q o a b e).2.1) H 0 [] (by omega) (by simp)
      have b1 : Wd * C ≤ 8 * 8 := Nat.mul_le_mul (by omega) (by omega)
      have b2 : H * (Wd * C) ≤ 8 * (8 * 8) := Nat.mul_le_mul (by omega) b1
      refine Or.inl ⟨H, Wd, C, V, rfl, rfl, by omega, by omega, by omega, fun p q o a b e => (hV2 p q o a b e).2.2, evMono (evAnd s1 (evAnd s2 s3)) fun k ⟨a, b, e⟩ => bind_of a (ite_yes rfl (bind_of b (ite_yes rfl e))), evMono (evAnd i2 (evAnd i1 (evSuc (p := fun k => impl_RunLayer.j0 k false h w c d kd ou sz st mu sh ze W B (H : Int) (Wd : Int) (C : Int) = some ((H : Int), (Wd : Int), (C : Int), rowL V C Wd H 0, true)) (evMono i3 fun k e => by
        simp only [impl_RunLayer.j0]
        exact ite_no Bool.false_ne_true e)))) fun k ⟨a, b, e⟩ => bind_of a (ite_yes rfl (bind_of b e))⟩
/-! #### rows of items -/
def leL : List Int → List Int → Prop
  | [], [] => True
  | a :: l, b :: m => a ≤ b ∧ leL l m
  | _, _ => False
theorem leL_app : ∀ {a b c d : List Int}, leL a b → leL c d → leL (a ++ c) (b ++ d)
  | [], [], _, _, _, h => h
  | x :: a, y :: b, _, _, h, k => ⟨h.1, leL_app h.2 k⟩
theorem leL_at : ∀ {a b : List Int}, leL a b → ∀ i, a.getD i 0 ≤ b.getD i 0
  | [], [], _, i => by simp
  | x :: a, y :: b, h, 0 => by simpa using h.1
  | x :: a, y :: b, h, i + 1 => by simpa using leL_at h.2 i
theorem chan_le {V U : Nat → Nat → Nat → Int} (p q : Nat) : ∀ (n o : Nat), (∀ i, o ≤ i → i < o + n → U p q i ≤ V p q i) → leL (chanL U p q n o) (chanL V p q n o)
  | 0, _, _ => trivial
  | n + 1, o, h => ⟨h o (by omega) (by omega), chan_le p q n (o + 1) fun i a b => h i (by omega) (by omega)⟩
theorem col_le {V U : Nat → Nat → Nat → Int} (C p : Nat) : ∀ (n q : Nat), (∀ j i, q ≤ j → j < q + n → i < C → U p j i ≤ V p j i) → leL (colL U C p n q) (colL V C p n q)
  | 0, _, _ => trivial
  | n + 1, q, h => leL_app (chan_le p q C 0 fun i _ b => h q i (by omega) (by omega) (by omega)) (col_le C p n (q + 1) fun j i a b e => h j i (by omega) (by omega) e)
theorem row_le {V U : Nat → Nat → Nat → Int} (C Wd : Nat) : ∀ (n p : Nat), (∀ l j i, p ≤ l → l < p + n → j < Wd → i < C → U l j i ≤ V l j i) → leL (rowL U C Wd n p) (rowL V C Wd n p)
  | 0, _, _ => trivial
  | n + 1, p, h => leL_app (col_le C p Wd 0 fun j i _ b e => h p j i (by omega) (by omega) (by omega) e) (row_le C Wd n (p + 1) fun l j i a b e f => h l j i (by omega) (by omega) e f)
theorem chan_at (V : Nat → Nat → Nat → Int) (p q : Nat) : ∀ (n o i : Nat), i < n → (chanL V p q n o).getD i 0 = V p q (o + i)
  | n + 1, o, 0, _ => by simp [chanL]
  | n + 1, o, i + 1, h => by
    have := chan_at V p q n (o + 1) i (by omega)
    simp only [chanL, List.getD_cons_succ, this]
    congr 1
    omega
theorem getD_l {a b : List Int} {i : Nat} (h : i < a.length) : (a ++ b).getD i 0 = a.getD i 0 := by
  simp [List.getD, List.getElem?_append_left h]
theorem getD_r {a b : List Int} {i n : Nat} (h : a.length = n) : (a ++ b).getD (n + i) 0 = b.getD i 0 := by
  subst h
  simp [List.getD, List.getElem?_append_right (Nat.le_add_right _ _)]
theorem col_at (V : Nat → Nat → Nat → Int) (C p : Nat) : ∀ (n q j i : Nat), j < n → i < C → (colL V C p n q).getD (j * C + i) 0 = V p (q + j) i
  | n + 1, q, 0, i, _, hi => by
    rw [colL, Nat.zero_mul, Nat.zero_add, getD_l (by rw [chanL_len]; exact hi), chan_at V p q C 0 i hi, Nat.zero_add, Nat.add_zero]
  | n + 1, q, j + 1, i, hj, hi => by
    rw [colL, show (j + 1) * C + i = C + (j * C + i) by rw [Nat.succ_mul]; omega, getD_r (chanL_len V p q C 0), col_at V C p n (q + 1) j i (by omega) hi]
    congr 1
    omega
theorem row_at (V : Nat → Nat → Nat → Int) (C Wd : Nat) : ∀ (n p l j i : Nat), l < n → j < Wd → i < C → (rowL V C Wd n p).getD ((l * Wd + j) * C + i) 0 = V (p + l) j i
  | n + 1, p, 0, j, i, _, hj, hi => by
    have b : j * C + i < Wd * C := by
      have := Nat.mul_le_mul_right C (show j + 1 ≤ Wd from hj)
      rw [Nat.succ_mul] at this
      omega
    rw [rowL, Nat.zero_mul, Nat.zero_add, getD_l (by rw [colL_len]; exact b), col_at V C p Wd 0 j i hj hi, Nat.zero_add, Nat.add_zero]
  | n + 1, p, l + 1, j, i, hl, hj, hi => by
    rw [rowL, show ((l + 1) * Wd + j) * C + i = Wd * C + ((l * Wd + j) * C + i) by rw [Nat.succ_mul, show l * Wd + Wd + j = Wd + (l * Wd + j) by omega, Nat.add_mul]; omega, getD_r (colL_len V C p Wd 0), row_at V C Wd n (p + 1) l j i (by omega) hj hi]
    congr 1
    omega
theorem leL_anti : ∀ {a b : List Int}, leL a b → leL b a → a = b
  | [], [], _, _ => rfl
  | x :: a, y :: b, h, k => by
    have := h.1; have := k.1
    rw [leL_anti h.2 k.2, show x = y by omega]
theorem chan_mem {V : Nat → Nat → Nat → Int} {P : Int → Prop} (p q : Nat) : ∀ (n o : Nat), (∀ i, o ≤ i → i < o + n → P (V p q i)) → ∀ x ∈ chanL V p q n o, P x
  | 0, _, _, x, hx => by simp [chanL] at hx
  | n + 1, o, h, x, hx => by
    rw [chanL, List.mem_cons] at hx
    rcases hx with rfl | hx
    · exact h o (by omega) (by omega)
    · exact chan_mem p q n (o + 1) (fun i a b => h i (by omega) (by omega)) x hx
theorem col_mem {V : Nat → Nat → Nat → Int} {P : Int → Prop} (C p : Nat) : ∀ (n q : Nat), (∀ j i, q ≤ j → j < q + n → i < C → P (V p j i)) → ∀ x ∈ colL V C p n q, P x
  | 0, _, _, x, hx => by simp [colL] at hx
  | n + 1, q, h, x, hx => by
    rw [colL, List.mem_append] at hx
    rcases hx with hx | hx
    · exact chan_mem p q C 0 (fun i _ b => h q i (by omega) (by omega) (by omega)) x hx
    · exact col_mem C p n (q + 1) (fun j i a b e => h j i (by omega) (by omega) e) x hx
theorem row_mem {V : Nat → Nat → Nat → Int} {P : Int → Prop} (C Wd : Nat) : ∀ (n p : Nat), (∀ l j i, p ≤ l → l < p + n → j < Wd → i < C → P (V l j i)) → ∀ x ∈ rowL V C Wd n p, P x
  | 0, _, _, x, hx => by simp [rowL] at hx
  | n + 1, p, h, x, hx => by
    rw [rowL, List.mem_append] at hx
    rcases hx with hx | hx
    · exact col_mem C p Wd 0 (fun j i _ b e => h p j i (by omega) (by omega) (by omega) e) x hx
    · exact row_mem C Wd n (p + 1) (fun l j i a b e f => h l j i (by omega) (by omega) e f) x hx
theorem row_tensorOk {V : Nat → Nat → Nat → Int} {H Wd C : Nat} (bH : 1 ≤ H ∧ H ≤ 8) (bW : 1 ≤ Wd ∧ Wd ≤ 8) (bC : 1 ≤ C ∧ C ≤ 8) (h : ∀ p q o : Nat, p < H → q < Wd → o < C → -128 ≤ V p q o ∧ V p q o ≤ 127) : tensorOk (H : Int) (Wd : Int) (C : Int) (rowL V C Wd H 0) = true := by
  refine tensorOk_iff.2 ⟨shapeOk_iff.2 ⟨by omega, by omega, by omega⟩, ?_, row_mem C Wd H 0 fun l j i _ b e f => h l j i (by omega) e f⟩
  rw [rowL_len, Int.natCast_mul, Int.natCast_mul, Int.mul_assoc]
theorem outShape_relu {h w c ou sz st mu sh ze : Int} {W B : List Int} {H Wd C : Int} (hs : shapeOk h w c = true) (ho : outShape h w c 4 ou sz st mu sh ze W B = (H, Wd, C, true)) : H = h ∧ Wd = w ∧ C = c := by
  unfold outShape at ho
  rw [if_pos hs, if_neg (by decide), if_neg (by decide), if_neg (by decide), if_pos rfl] at ho
  split at ho
  · simp only [Prod.mk.injEq, and_true] at ho
    obtain ⟨rfl, rfl, rfl⟩ := ho
    exact ⟨rfl, rfl, rfl⟩
  · unfold sh0 at ho
    simp at ho
theorem mx_mx (a z : Int) : mx (mx a z) z = mx a z := by
  unfold mx
  repeat' split
  all_goals omega
theorem outShape_pool (h w c ou sz st mu sh ze : Int) (W B : List Int) : outShape h w c 3 ou sz st mu sh ze W B = outShape h w c 2 ou sz st mu sh ze W B := by
  unfold outShape
  rw [if_neg (show ¬ (3 : Int) = 0 by decide), if_neg (show ¬ (3 : Int) = 1 by decide), if_pos (show (3 : Int) = 2 ∨ (3 : Int) = 3 from Or.inr rfl), if_neg (show ¬ (2 : Int) = 0 by decide), if_neg (show ¬ (2 : Int) = 1 by decide), if_pos (show (2 : Int) = 2 ∨ (2 : Int) = 3 from Or.inl rfl)]
theorem layers_l0 (a b e a' b' e' : Int) (D D' : List Int) (hl : D'.length = D.length) (hm : D.length ≤ 512) (hle : ∀ i, D'.getD i 0 ≤ D.getD i 0) : ∀ (n i : Nat), i + n = D.length → Evp fun k => laws_FnLayers.l0 k true (i : Int) a b e D a' b' e' D' = some true
  | 0, i, hi => evSuc (evSuc (evAll fun k => by
    simp only [laws_FnLayers.l0]
    exact ite_no (by omega) (by simp only [laws_FnLayers.j2])))
  | n + 1, i, hi => evSuc (evMono (layers_l0 a b e a' b' e' D D' hl hm hle n (i + 1) (by omega)) fun k g => by
    simp only [laws_FnLayers.l0]
    refine ite_yes (by omega) (ite_yes trivial (ite_yes (by omega) (ite_yes (by omega) (ite_no ?_ ?_))))
    · rw [rd_nat, rd_nat]
      have := hle i
      omega
    · rw [w64' (x := (i : Int) + 1) (by omega) (by omega)]
      exact g)

theorem FnLayers (l : List Int) (hg : l.length ≤ maxLen ∧ ∀ x ∈ l, (Lit.int .u8 x).wf = true) : ∃ k, laws_FnLayers.f k l = some true := by
  by_cases hbig : (l.length : Int) > 1048576
  · exact ⟨0, bind_of (a := true) (by unfold laws_big.f; rw [decide_eq_true hbig]) (ite_yes rfl rfl)⟩
  have hb : laws_big.f l = some false := by unfold laws_big.f; rw [decide_eq_false hbig]
  obtain ⟨x, y, z, D, kd, ou, sz, st, mu, sh, ze, W, B, hD, hW, hB, e1⟩ := spec_DrawRunLayer_ok l (by omega)
  rcases RunLayer_P x y z kd ou sz st mu sh ze D W B (by omega) (by omega) (by omega) with ⟨H, Wd, C, V, ht, ho, bH, bW, bC, hP, e2, e3⟩ | ⟨hno, e2, e3⟩
  · have e4 := impl_OutShape_ev x y z kd ou sz st mu sh ze W B (by omega) (by omega)
    rw [ho] at e4
    have hOk := row_tensorOk bH bW bC (fun p q o a b e => (hP p q o a b e).1)
    have hlen : (rowL V C Wd H 0).length ≤ 512 := by
      have b1 : Wd * C ≤ 8 * 8 := Nat.mul_le_mul (by omega) (by omega)
      have b2 : H * (Wd * C) ≤ 8 * (8 * 8) := Nat.mul_le_mul (by omega) b1
      rw [rowL_len]; omega
    have same : ∀ R : List Int, R.length ≤ 512 → tensorOk (H : Int) (Wd : Int) (C : Int) R = true → Evp fun k => impl_SameTensor.f k (H : Int) (Wd : Int) (C : Int) R (H : Int) (Wd : Int) (C : Int) R = some true := fun R hR hRt => evEq (impl_SameTensor_ev _ _ _ _ _ _ R R (by omega)) (by unfold sameTensor; rw [hRt]; simp)
    have e5 := same _ hlen hOk
    have e6 := evEq (spec_TensorOk_ev (H : Int) (Wd : Int) (C : Int) (rowL V C Wd H 0) (by omega)) hOk
    have e7 := impl_CostOf_ev x y z kd ou sz st mu sh ze W B (by omega) (by omega)
    have e8 := spec_CostOf_ev x y z kd ou sz st mu sh ze W B (by omega) (by omega)
    have j2 : Evp fun k => laws_FnLayers.j2 k = some true := evSuc (evAll fun k => by simp only [laws_FnLayers.j2])
    have j0 : Evp fun k => laws_FnLayers.j0 k false x y z D kd ou sz st mu sh ze W B (H : Int) (Wd : Int) (C : Int) (rowL V C Wd H 0) = some true := by
      by_cases k2 : kd = 2
      · subst k2
        rcases RunLayer_P x y z 3 ou sz st mu sh ze D W B (by omega) (by omega) (by omega) with ⟨H', Wd', C', U, ht', ho', bH', bW', bC', hP', _, f3⟩ | ⟨hno, _, _⟩
        · rw [outShape_pool, ho] at ho'
          simp only [Prod.mk.injEq, and_true, Int.natCast_inj] at ho'
          obtain ⟨rfl, rfl, rfl⟩ := ho'
          have hle := leL_at (row_le C Wd H 0 (U := U) (V := V) fun l j i _ b e f => (hP' l j i (by omega) e f).2.2.1 rfl _ ((hP l j i (by omega) e f).2.1 rfl))
          have hl : (rowL U C Wd H 0).length = (rowL V C Wd H 0).length := by rw [rowL_len, rowL_len]
          have l0 := layers_l0 (H : Int) (Wd : Int) (C : Int) (H : Int) (Wd : Int) (C : Int) (rowL V C Wd H 0) (rowL U C Wd H 0) hl hlen hle (rowL V C Wd H 0).length 0 (by omega)
          exact evSuc (evMono (evAnd f3 l0) fun k ⟨f, g⟩ => by
            simp only [laws_FnLayers.j0]
            exact ite_no Bool.false_ne_true (ite_yes trivial (bind_of f (ite_yes (show ((rowL U C Wd H 0).length : Int) = ((rowL V C Wd H 0).length : Int) by omega) g))))
        · have := hno ht
          rw [outShape_pool, ho] at this
          cases this
      · by_cases k4 : kd = 4
        · subst k4
          obtain ⟨hH, hWd, hC⟩ := outShape_relu (tensorOk_iff.1 ht).1 ho
          subst hH hWd hC
          rcases RunLayer_P (H : Int) (Wd : Int) (C : Int) 4 ou sz st mu sh ze (rowL V C Wd H 0) W B (by omega) (by omega) (by omega) with ⟨H', Wd', C', U, ht', ho', bH', bW', bC', hP', _, f3⟩ | ⟨hno, _, _⟩
          · rw [ho] at ho'
            simp only [Prod.mk.injEq, and_true, Int.natCast_inj] at ho'
            obtain ⟨rfl, rfl, rfl⟩ := ho'
            have hV : ∀ p j i : Nat, p < H → j < Wd → i < C → U p j i = V p j i := fun p j i a b e => by
              have h1 := (hP' p j i a b e).2.2.2 rfl
              have h2 := (hP p j i a b e).2.2.2 rfl
              simp only [Int.toNat_natCast] at h1 h2
              rw [row_at V C Wd H 0 p j i a b e, Nat.zero_add] at h1
              rw [h1, h2, mx_mx]
            have hUV : rowL U C Wd H 0 = rowL V C Wd H 0 := leL_anti (row_le C Wd H 0 fun l j i _ b e f => Int.le_of_eq (hV l j i (by omega) e f)) (row_le C Wd H 0 fun l j i _ b e f => Int.le_of_eq (hV l j i (by omega) e f).symm)
            rw [hUV] at f3
            exact evSuc (evMono (evAnd f3 (evAnd e5 j2)) fun k ⟨f, g, j⟩ => by
              simp only [laws_FnLayers.j0]
              exact ite_no Bool.false_ne_true (ite_no (by decide) (ite_yes trivial (bind_of f (ite_yes rfl (bind_of g (ite_yes rfl j)))))))
          · have := hno hOk
            rw [ho] at this
            cases this
        · exact evSuc (evMono j2 fun k j => by
            simp only [laws_FnLayers.j0]
            exact ite_no Bool.false_ne_true (ite_no k2 (ite_no k4 j)))
    refine evEx (evMono (evAnd e1 (evAnd e2 (evAnd e3 (evAnd e4 (evAnd e5 (evAnd e6 (evAnd e7 (evAnd e8 j0)))))))) fun k ⟨e1, e2, e3, e4, e5, e6, e7, e8, j0⟩ => bind_of hb (ite_no Bool.false_ne_true (bind_of e1 (bind_of e2 (bind_of e3 (ite_no (by simp) (ite_yes rfl (bind_of e4 (ite_yes rfl (bind_of e5 (ite_yes rfl (ite_no (by simp) (bind_of e6 (ite_yes rfl (bind_of e7 (bind_of e8 ?_))))))))))))))))
    rw [show (costOf x y z kd sz (outShape x y z kd ou sz st mu sh ze W B) != costOf x y z kd sz (outShape x y z kd ou sz st mu sh ze W B)) = false by simp]
    exact j0
  · exact evEx (evMono (evAnd e1 (evAnd e2 e3)) fun k ⟨e1, e2, e3⟩ => bind_of hb (ite_no Bool.false_ne_true (bind_of e1 (bind_of e2 (bind_of e3 (ite_no (by simp) (ite_no Bool.false_ne_true rfl)))))))

end Go.Proofs.Ytclpojeofclbjaa.Pure
