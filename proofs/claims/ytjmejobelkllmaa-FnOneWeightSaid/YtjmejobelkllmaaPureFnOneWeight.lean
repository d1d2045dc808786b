/- For every code of bytes that the law lets in: the dense layer whose one weight is 1 at a place, with a Mult of 1073741824 and no Shift, run on the tensor that is drawn from the code, gives the half of that number, rounded up (the law answers true). No condition. -/
import Derived.Test.YtjmejobelkllmaaPFnOneWeightx0
import Derived.Test.YtjmejobelkllmaaPFnOneWeightx1
import Derived.Test.YtjmejobelkllmaaPFnOneWeightx10
import Derived.Test.YtjmejobelkllmaaPFnOneWeightx11
import Derived.Test.YtjmejobelkllmaaPFnOneWeightx12
import Derived.Test.YtjmejobelkllmaaPFnOneWeightx13
import Derived.Test.YtjmejobelkllmaaPFnOneWeightx14
import Derived.Test.YtjmejobelkllmaaPFnOneWeightx15
import Derived.Test.YtjmejobelkllmaaPFnOneWeightx2
import Derived.Test.YtjmejobelkllmaaPFnOneWeightx3
import Derived.Test.YtjmejobelkllmaaPFnOneWeightx4
import Derived.Test.YtjmejobelkllmaaPFnOneWeightx5
import Derived.Test.YtjmejobelkllmaaPFnOneWeightx6
import Derived.Test.YtjmejobelkllmaaPFnOneWeightx7
import Derived.Test.YtjmejobelkllmaaPFnOneWeightx8
import Derived.Test.YtjmejobelkllmaaPFnOneWeightx9
namespace Go.Proofs.Ytjmejobelkllmaa.Pure
open Go.RowKit Go.Proofs.Ytjmejobelkllmaa.PFnOneWeight Go.Proofs.YtjmejobelkllmaaW.PrintWords Go.Proofs.YtjmejobelkllmaaW.PrintLast Go.Proofs.YtjmejobelkllmaaW.PrintMore
set_option linter.unusedVariables false
set_option linter.unusedSimpArgs false

/-! #### rounds -/
def Evp (p : Nat → Prop) : Prop := ∃ K, ∀ k, K ≤ k → p k
theorem evAnd {p q : Nat → Prop} (h : Evp p) (g : Evp q) : Evp (fun k => p k ∧ q k) := by
  obtain ⟨K, hK⟩ := h
  obtain ⟨L, hL⟩ := g
  exact ⟨max K L, fun k hk => ⟨hK k (by omega), hL k (by omega)⟩⟩
theorem evMono {p q : Nat → Prop} (h : Evp p) (g : ∀ k, p k → q k) : Evp q := by
  obtain ⟨K, hK⟩ := h
  exact ⟨K, fun k hk => g k (hK k hk)⟩
theorem evSuc {p : Nat → Prop} (h : Evp fun k => p (k + 1)) : Evp p := by
  obtain ⟨K, hK⟩ := h
  refine ⟨K + 1, fun k hk => ?_⟩
  obtain ⟨m, rfl⟩ : ∃ m, k = m + 1 := ⟨k - 1, by omega⟩
  exact hK m (by omega)
theorem evAll {p : Nat → Prop} (h : ∀ k, p k) : Evp p := ⟨0, fun k _ => h k⟩
theorem evEx {p : Nat → Prop} (h : Evp p) : ∃ k, p k := by
  obtain ⟨K, hK⟩ := h
  exact ⟨K, hK K (Nat.le_refl _)⟩
/-- One step of a chain. -/
theorem bind_of {α β : Type} {o : Option α} {f : α → Option β} {a : α} {r : Option β} (h : o = some a) (hf : f a = r) : o.bind f = r := by rw [h]; exact hf
theorem ite_yes {α : Type} {c : Prop} [Decidable c] {x y r : α} (h : c) (hx : x = r) : (if c then x else y) = r := by rw [if_pos h]; exact hx
theorem ite_no {α : Type} {c : Prop} [Decidable c] {x y r : α} (h : ¬ c) (hy : y = r) : (if c then x else y) = r := by rw [if_neg h]; exact hy

/-! #### whole numbers -/
def i64 (x : Int) : Prop := -9223372036854775808 ≤ x ∧ x ≤ 9223372036854775807
theorem w64 {x : Int} (h : i64 x) : wrap64 x = x := by
  unfold i64 at h
  unfold wrap64
  omega
theorem w64' {x : Int} (h0 : -9223372036854775808 ≤ x) (h1 : x ≤ 9223372036854775807) : wrap64 x = x := w64 ⟨h0, h1⟩
theorem u8_of {x : Int} (h : (Lit.int .u8 x).wf = true) : 0 ≤ x ∧ x ≤ 255 := by
  simp only [Lit.wf, IntKind.min, IntKind.max, IntKind.signed, IntKind.bits, Bool.and_eq_true, decide_eq_true_eq] at h
  simp at h
  omega
theorem tdiv_pos {a b : Int} (h : 0 ≤ a) : Int.tdiv a b = a / b := Int.tdiv_eq_ediv_of_nonneg h
theorem tmod_pos {a b : Int} (h : 0 ≤ a) : Int.tmod a b = a % b := Int.tmod_eq_emod_of_nonneg h
theorem bnd_mul {a b A B : Int} (ha : -A ≤ a) (ha' : a ≤ A) (hb : -B ≤ b) (hb' : b ≤ B) : -(A * B) ≤ a * b ∧ a * b ≤ A * B := by
  have hA : 0 ≤ A := by omega
  have hB : 0 ≤ B := by omega
  have h1 : (a * b).natAbs ≤ (A * B).natAbs := by
    rw [Int.natAbs_mul, Int.natAbs_mul]
    exact Nat.mul_le_mul (by omega) (by omega)
  have h2 : 0 ≤ A * B := Int.mul_nonneg hA hB
  omega

/-! #### lists -/
theorem rd_eq {l : List Int} {i : Nat} (h : i < l.length) : rd l (i : Int) = l[i] := by
  unfold rd
  simp [List.getD, h]
theorem nat_of {i : Int} (h : 0 ≤ i) : ∃ n : Nat, i = n := ⟨i.toNat, by omega⟩
theorem i64wrap (x : Int) : IntKind.i64.wrap x = wrap64 x := by
  unfold IntKind.wrap wrap64
  simp [IntKind.bits, IntKind.signed]
  split <;> omega
theorem shl_eq {x : Int} {n : Nat} (hn : n ≤ 62) : shl .i64 x (n : Int) = wrap64 (x * 2 ^ n) := by
  unfold shl
  rw [i64wrap]
  congr 3
  simp [IntKind.bits]
  omega
theorem two_pow_le {n m : Nat} (h : n ≤ m) : (1 : Int) ≤ 2 ^ n ∧ (2 : Int) ^ n ≤ 2 ^ m := by
  have h1 : (1 : Nat) ≤ 2 ^ n := Nat.one_le_two_pow
  have h2 : (2 : Nat) ^ n ≤ 2 ^ m := Nat.pow_le_pow_right (by omega) h
  exact ⟨by exact_mod_cast h1, by exact_mod_cast h2⟩

def sat32 (x : Int) : Int := if x < -2147483648 then -2147483648 else if x > 2147483647 then 2147483647 else x
def sat8 (x : Int) : Int := if x < -128 then -128 else if x > 127 then 127 else x
def cutTo (x lo hi : Int) : Int := if x > hi then hi else if x < lo then lo else x
theorem sat32_b (x : Int) : -2147483648 ≤ sat32 x ∧ sat32 x ≤ 2147483647 := by unfold sat32; split <;> (try split) <;> omega
theorem sat8_b (x : Int) : -128 ≤ sat8 x ∧ sat8 x ≤ 127 := by unfold sat8; split <;> (try split) <;> omega
theorem mxn_sat32 (x : Int) : mx (-2147483648) (mn x 2147483647) = sat32 x := by unfold mx mn sat32; repeat' split <;> omega
theorem mxn_sat8 (x : Int) : mx (-128) (mn x 127) = sat8 x := by unfold mx mn sat8; repeat' split <;> omega
def addSat (a b : Int) : Int := sat32 (sat32 a + sat32 b)
theorem addSat_w (a b : Int) : wrap64 (sat32 a + sat32 b) = sat32 a + sat32 b := by
  have := sat32_b a
  have := sat32_b b
  exact w64' (by omega) (by omega)
def mulHigh (a b : Int) : Int := sat32 ((sat32 a * sat32 b + 1073741824) / 2147483648)
theorem sat32_mul (a b : Int) : -4611686018427387904 ≤ sat32 a * sat32 b ∧ sat32 a * sat32 b ≤ 4611686018427387904 := by
  have h1 := sat32_b a
  have h2 := sat32_b b
  have := bnd_mul (a := sat32 a) (b := sat32 b) (A := 2147483648) (B := 2147483648) (by omega) (by omega) (by omega) (by omega)
  omega
theorem mulHigh_w (a b : Int) : wrap64 (wrap64 (sat32 a * sat32 b) + 1073741824) = sat32 a * sat32 b + 1073741824 := by
  have := sat32_mul a b
  simp (disch := omega) only [w64']
def pow31 (n : Int) : Int := 2 ^ (cutTo n 0 31).toNat
theorem cut_b (n : Int) : 0 ≤ cutTo n 0 31 ∧ cutTo n 0 31 ≤ 31 := by unfold cutTo; repeat' split <;> omega
theorem mxn_cut (n : Int) : mx 0 (mn n 31) = cutTo n 0 31 := by unfold mx mn cutTo; repeat' split <;> omega
theorem pow31_b (n : Int) : 1 ≤ pow31 n ∧ pow31 n ≤ 2147483648 := by
  have := cut_b n
  have h := two_pow_le (n := (cutTo n 0 31).toNat) (m := 31) (by omega)
  exact h
theorem shl_pow31 (n : Int) : shl .i64 1 (cutTo n 0 31) = pow31 n := by
  have h := cut_b n
  have hp := pow31_b n
  obtain ⟨m, hm⟩ := nat_of h.1
  unfold pow31 at hp ⊢
  rw [hm] at h hp ⊢
  rw [shl_eq (by omega), Int.one_mul]
  simp only [Int.toNat_natCast] at hp ⊢
  exact w64' (by omega) (by omega)
/-- A quotient rounded to the nearest, two as near away from 0. -/
def rnd (x by_ : Int) : Int := if x < 0 then -((-2 * x + by_) / (2 * by_)) else (2 * x + by_) / (2 * by_)
def roundShift (x n : Int) : Int := rnd (sat32 x) (pow31 n)
theorem rnd_b (x by_ : Int) (hb : 1 ≤ by_) (A : Int) (h0 : -A ≤ x) (h1 : x ≤ A) : -A ≤ rnd x by_ ∧ rnd x by_ ≤ A := by
  have key : ∀ y : Int, 0 ≤ y → y ≤ A → 0 ≤ (2 * y + by_) / (2 * by_) ∧ (2 * y + by_) / (2 * by_) ≤ A := by
    intro y hy hyA
    refine ⟨Int.ediv_nonneg (by omega) (by omega), ?_⟩
    have : (2 * y + by_) / (2 * by_) < A + 1 := by
      apply Int.ediv_lt_of_lt_mul (by omega)
      have h2 : A + 1 ≤ (A + 1) * by_ := by
        have := Int.mul_le_mul_of_nonneg_left hb (show 0 ≤ A + 1 by omega)
        omega
      have h3 : (A + 1) * (2 * by_) = 2 * ((A + 1) * by_) := by rw [← Int.mul_assoc, Int.mul_comm (A + 1) 2, Int.mul_assoc]
      have h4 : (A + 1) * by_ = A * by_ + by_ := by rw [Int.add_mul]; omega
      have h5 : A ≤ A * by_ := by
        have := Int.mul_le_mul_of_nonneg_left hb (show 0 ≤ A by omega)
        omega
      omega
    omega
  unfold rnd
  split
  · have := key (-x) (by omega) (by omega)
    rw [show -2 * x = 2 * -x by omega]
    omega
  · have := key x (by omega) (by omega)
    omega
theorem roundShift_b (x n : Int) : -2147483648 ≤ roundShift x n ∧ roundShift x n ≤ 2147483648 := rnd_b _ _ (pow31_b n).1 2147483648 (by have := sat32_b x; omega) (by have := sat32_b x; omega)
def requant (acc mult shift zero : Int) : Int := sat8 (roundShift (mulHigh acc mult) shift + sat8 zero)
theorem requant_w (acc mult shift zero : Int) : wrap64 (roundShift (mulHigh acc mult) shift + sat8 zero) = roundShift (mulHigh acc mult) shift + sat8 zero := by
  have := roundShift_b (mulHigh acc mult) shift
  have := sat8_b zero
  exact w64' (by omega) (by omega)
def dotGo : List Int → List Int → Int → Int
  | a :: u, b :: v, s => dotGo u v (addSat s (sat8 a * sat8 b))
  | _, _, s => s
def dotOf (a b : List Int) : Int := dotGo a b 0
theorem sat8_mul (a b : Int) : -16384 ≤ sat8 a * sat8 b ∧ sat8 a * sat8 b ≤ 16384 := by
  have h1 := sat8_b a
  have h2 := sat8_b b
  have := bnd_mul (a := sat8 a) (b := sat8 b) (A := 128) (B := 128) (by omega) (by omega) (by omega) (by omega)
  omega


theorem impl_Sat32_eq (x : Int) : impl_Sat32.f x = some (sat32 x) := by
  unfold impl_Sat32.f impl_cut.f
  rw [mxn_sat32]
  rfl


theorem impl_Sat8_eq (x : Int) : impl_Sat8.f x = some (sat8 x) := by
  unfold impl_Sat8.f impl_cut.f
  rw [mxn_sat8]
  rfl


theorem impl_AddSat_eq (a b : Int) : impl_AddSat.f a b = some (addSat a b) := by
  unfold impl_AddSat.f
  rw [impl_Sat32_eq, impl_Sat32_eq]
  simp only [Option.bind_some]
  rw [addSat_w, impl_Sat32_eq]
  rfl


theorem impl_MulHigh_eq (a b : Int) : impl_MulHigh.f a b = some (mulHigh a b) := by
  unfold impl_MulHigh.f
  rw [impl_Sat32_eq, impl_Sat32_eq]
  simp only [Option.bind_some]
  rw [mulHigh_w, impl_Sat32_eq]
  rfl


theorem impl_rounded_ev (x b : Int) (hb : 1 ≤ b) (hb' : b ≤ 2147483648) (h0 : -2147483648 ≤ x) (h1 : x ≤ 2147483648) : Evp fun k => impl_rounded.f k x b = some (rnd x b) := by
  have pos : ∀ k (y : Int), 0 ≤ y → y ≤ 2147483648 → impl_rounded.f (k + 1) y b = some ((2 * y + b) / (2 * b)) := by
    intro k y hy hy'
    simp only [impl_rounded.f]
    rw [if_neg (by omega), w64' (x := 2 * b) (by omega) (by omega), if_neg (by omega), w64' (x := 2 * y) (by omega) (by omega), w64' (x := 2 * y + b) (by omega) (by omega), tdiv_pos (by omega)]
    have hq : 0 ≤ (2 * y + b) / (2 * b) := Int.ediv_nonneg (by omega) (by omega)
    have := Int.ediv_le_self (a := 2 * y + b) (2 * b) (by omega)
    rw [w64' (by omega) (by omega)]
  have bb := rnd_b x b hb 2147483648 (by omega) (by omega)
  refine evSuc (evSuc (evAll fun k => ?_))
  unfold rnd at bb ⊢
  by_cases hx : x < 0
  · rw [if_pos hx] at bb ⊢
    simp only [impl_rounded.f]
    rw [if_pos hx, w64' (x := -x) (by omega) (by omega)]
    have := pos k (-x) (by omega) (by omega)
    simp only [impl_rounded.f] at this
    rw [this]
    simp only [Option.bind_some]
    rw [show -2 * x = 2 * -x by omega] at bb ⊢
    rw [w64' (by omega) (by omega)]
  · rw [if_neg hx]
    exact pos (k + 1) x (by omega) (by omega)


theorem impl_RoundShift_ev (x n : Int) : Evp fun k => impl_RoundShift.f k x n = some (roundShift x n) :=
  evMono (impl_rounded_ev (sat32 x) (pow31 n) (pow31_b n).1 (pow31_b n).2 (sat32_b x).1 (by have := sat32_b x; omega)) fun k h => by
    unfold impl_RoundShift.f
    rw [impl_Sat32_eq]
    simp only [Option.bind_some, impl_cut.f]
    rw [mxn_cut, if_pos (cut_b n).1, shl_pow31, h]
    rfl


theorem impl_Requant_ev (a m s z : Int) : Evp fun k => impl_Requant.f k a m s z = some (requant a m s z) :=
  evMono (impl_RoundShift_ev (mulHigh a m) s) fun k h2 => by
    unfold impl_Requant.f
    simp only [impl_MulHigh_eq, h2, impl_Sat8_eq, Option.bind_some]
    rw [requant_w]
    rfl


theorem spec_l01In_eq (x lo hi : Int) : spec_l01In.f x lo hi = some (decide (lo ≤ x ∧ x ≤ hi)) := by
  unfold spec_l01In.f
  by_cases h : lo ≤ x
  · simp [h]
  · simp [h]


theorem impl_in_eq (x lo hi : Int) : impl_in.f x lo hi = some (decide (lo ≤ x ∧ x ≤ hi)) := by
  unfold impl_in.f
  by_cases h : lo ≤ x
  · simp [h]
  · simp [h]

def isBytes (l : List Int) : Prop := ∀ x ∈ l, 0 ≤ x ∧ x ≤ 255
theorem drop_at {α : Type} {l : List α} {i : Nat} (h : i < l.length) : l.drop i = l[i] :: l.drop (i + 1) := by
  exact List.drop_eq_getElem_cons h
theorem dot_stop {a b : List Int} {i : Nat} (h : a.length ≤ i ∨ b.length ≤ i) (s : Int) : dotGo (a.drop i) (b.drop i) s = s := by
  rcases h with h | h
  · rw [List.drop_eq_nil_of_le h]
    unfold dotGo
    rfl
  · rw [List.drop_eq_nil_of_le h]
    cases a.drop i <;> rfl
theorem dot_step {a b : List Int} {i : Nat} (ha : i < a.length) (hb : i < b.length) (s : Int) : dotGo (a.drop i) (b.drop i) s = dotGo (a.drop (i + 1)) (b.drop (i + 1)) (addSat s (sat8 a[i] * sat8 b[i])) := by
  rw [drop_at ha, drop_at hb]
  rfl


theorem impl_DotOf_l0 (a b : List Int) (n : Nat) (hn : n = min a.length b.length) (hm : a.length ≤ 9223372036854775807) : ∀ (d i : Nat) (s : Int), i + d = n → Evp fun k => impl_DotOf.l0 k a b s (n : Int) (i : Int) = some (dotGo (a.drop i) (b.drop i) s)
  | 0, i, s, hi => evSuc (evAll fun k => by
    simp only [impl_DotOf.l0]
    rw [if_neg (by omega), dot_stop (by omega)])
  | d + 1, i, s, hi => by
    have ha : i < a.length := by omega
    have hb : i < b.length := by omega
    refine evSuc (evMono (impl_DotOf_l0 a b n hn hm d (i + 1) (addSat s (sat8 a[i] * sat8 b[i])) (by omega)) fun k ih => ?_)
    have hw := sat8_mul a[i] b[i]
    simp only [impl_DotOf.l0]
    rw [if_pos (by omega), dot_step ha hb, if_pos (by omega), if_pos (by omega), rd_eq ha, impl_Sat8_eq]
    simp only [Option.bind_some]
    rw [if_pos (by omega), rd_eq hb, impl_Sat8_eq]
    simp only [Option.bind_some]
    rw [w64' (x := sat8 a[i] * sat8 b[i]) (by omega) (by omega), impl_AddSat_eq, w64' (x := (i : Int) + 1) (by omega) (by omega)]
    exact ih
theorem impl_DotOf_ev (a b : List Int) (hm : a.length ≤ 9223372036854775807) : Evp fun k => impl_DotOf.f k a b = some (dotOf a b) := by
  have h := impl_DotOf_l0 a b (min a.length b.length) rfl hm (min a.length b.length) 0 0 (by omega)
  have e : mn (a.length : Int) (b.length : Int) = ((min a.length b.length : Nat) : Int) := by unfold mn; split <;> omega
  refine evMono h fun k hk => ?_
  unfold impl_DotOf.f
  rw [e]
  exact hk

def shapeOk (h w c : Int) : Bool := decide ((1 ≤ h ∧ h ≤ 8) ∧ (1 ≤ w ∧ w ≤ 8) ∧ (1 ≤ c ∧ c ≤ 8))
theorem shapeOk_iff {h w c : Int} : shapeOk h w c = true ↔ (1 ≤ h ∧ h ≤ 8) ∧ (1 ≤ w ∧ w ≤ 8) ∧ (1 ≤ c ∧ c ≤ 8) := by unfold shapeOk; simp
def sizeOf (h w c : Int) : Int := if shapeOk h w c = true then h * w * c else 0
theorem mul_b {a b A B : Int} (ha : 0 ≤ a) (ha' : a ≤ A) (hb : 0 ≤ b) (hb' : b ≤ B) : 0 ≤ a * b ∧ a * b ≤ A * B := by
  refine ⟨Int.mul_nonneg ha hb, Int.mul_le_mul ha' hb' hb (by omega)⟩
theorem mul_pos1 {a b : Int} (ha : 1 ≤ a) (hb : 1 ≤ b) : 1 ≤ a * b := by
  have := Int.mul_le_mul ha hb (by omega) (by omega)
  omega
theorem size_b {h w c : Int} (hs : shapeOk h w c = true) : 1 ≤ h * w ∧ h * w ≤ 64 ∧ 1 ≤ h * w * c ∧ h * w * c ≤ 512 := by
  obtain ⟨h1, h2, h3⟩ := shapeOk_iff.1 hs
  have a := mul_b (a := h) (b := w) (A := 8) (B := 8) (by omega) (by omega) (by omega) (by omega)
  have b := mul_b (a := h * w) (b := c) (A := 64) (B := 8) (by omega) (by omega) (by omega) (by omega)
  have c1 := mul_pos1 h1.1 h2.1
  have c2 := mul_pos1 c1 h3.1
  omega
theorem sizeOf_b (h w c : Int) : 0 ≤ sizeOf h w c ∧ sizeOf h w c ≤ 512 := by
  unfold sizeOf
  split
  · rename_i hs
    have := size_b hs
    omega
  · omega
theorem spec_ShapeOk_eq (h w c : Int) : spec_ShapeOk.f h w c = some (shapeOk h w c) := by
  unfold spec_ShapeOk.f shapeOk
  simp only [spec_l01In_eq, Option.bind_some, decide_eq_true_eq]
  by_cases h1 : 1 ≤ h ∧ h ≤ 8 <;> by_cases h2 : 1 ≤ w ∧ w ≤ 8 <;> simp [h1, h2]


theorem impl_ShapeOk_eq (h w c : Int) : impl_ShapeOk.f h w c = some (shapeOk h w c) := by
  unfold impl_ShapeOk.f shapeOk
  simp only [impl_in_eq, Option.bind_some, decide_eq_true_eq]
  by_cases h1 : 1 ≤ h ∧ h ≤ 8 <;> by_cases h2 : 1 ≤ w ∧ w ≤ 8 <;> simp [h1, h2]


theorem spec_SizeOf_eq (h w c : Int) : spec_SizeOf.f h w c = some (sizeOf h w c) := by
  unfold spec_SizeOf.f sizeOf
  rw [spec_ShapeOk_eq]
  simp only [Option.bind_some]
  by_cases hs : shapeOk h w c = true
  · have := size_b hs
    rw [if_pos hs, if_pos hs, w64' (x := h * w) (by omega) (by omega), w64' (by omega) (by omega)]
  · rw [if_neg hs, if_neg hs]


theorem impl_SizeOf_eq (h w c : Int) : impl_SizeOf.f h w c = some (sizeOf h w c) := by
  unfold impl_SizeOf.f sizeOf
  rw [impl_ShapeOk_eq]
  simp only [Option.bind_some]
  by_cases hs : shapeOk h w c = true
  · have := size_b hs
    rw [if_pos hs, if_pos hs, w64' (x := h * w) (by omega) (by omega), w64' (by omega) (by omega)]
  · rw [if_neg hs, if_neg hs]


def item8 (x : Int) : Bool := decide (-128 ≤ x ∧ x ≤ 127)
def itemsB (l : List Int) : Bool := l.all item8
theorem itemsB_iff {l : List Int} : itemsB l = true ↔ ∀ x ∈ l, -128 ≤ x ∧ x ≤ 127 := by
  unfold itemsB item8
  simp
theorem all_at {p : Int → Bool} {l : List Int} {i : Nat} (h : i < l.length) : (l.drop i).all p = (p l[i] && (l.drop (i + 1)).all p) := by
  rw [drop_at h, List.all_cons]
def tensorOk (h w c : Int) (l : List Int) : Bool := shapeOk h w c && (decide ((l.length : Int) = sizeOf h w c) && itemsB l)
theorem tensorOk_iff {h w c : Int} {l : List Int} : tensorOk h w c l = true ↔ shapeOk h w c = true ∧ (l.length : Int) = h * w * c ∧ ∀ x ∈ l, -128 ≤ x ∧ x ≤ 127 := by
  unfold tensorOk sizeOf
  by_cases hs : shapeOk h w c = true
  · simp [hs, itemsB_iff]
  · simp [hs]
theorem tensorOk_len {h w c : Int} {l : List Int} (ht : tensorOk h w c l = true) : 1 ≤ l.length ∧ l.length ≤ 512 := by
  obtain ⟨hs, hl, _⟩ := tensorOk_iff.1 ht
  have := size_b hs
  omega


theorem spec_l02Int8_eq (x : Int) : spec_l02Int8.f x = some (item8 x) := by
  unfold spec_l02Int8.f
  rw [spec_l01In_eq]
  rfl


theorem spec_TensorOk_l0 (h w c : Int) (l : List Int) (hl : l.length ≤ 9223372036854775807) : ∀ (d i : Nat), i + d = l.length → Evp fun k => spec_TensorOk.l0 k (i : Int) h w c l = some ((l.drop i).all item8)
  | 0, i, hi => evSuc (evAll fun k => by
    simp only [spec_TensorOk.l0]
    rw [if_neg (by omega), List.drop_eq_nil_of_le (by omega)]
    rfl)
  | d + 1, i, hi => by
    have hlt : i < l.length := by omega
    refine evSuc (evMono (spec_TensorOk_l0 h w c l hl d (i + 1) (by omega)) fun k ih => ?_)
    simp only [spec_TensorOk.l0]
    rw [if_pos (by omega), if_pos (by omega), rd_eq hlt, spec_l02Int8_eq, all_at hlt]
    simp only [Option.bind_some]
    cases hx : item8 l[i] with
    | true =>
      rw [if_pos rfl, w64' (by omega) (by omega)]
      simpa using ih
    | false => simp
theorem spec_TensorOk_ev (h w c : Int) (l : List Int) (hl : l.length ≤ 9223372036854775807) : Evp fun k => spec_TensorOk.f k h w c l = some (tensorOk h w c l) := by
  unfold tensorOk
  by_cases hs : shapeOk h w c = true
  · by_cases hz : (l.length : Int) = sizeOf h w c
    · refine evMono (evSuc (p := fun k => spec_TensorOk.j0 k false h w c l = some (l.all item8)) (evMono (spec_TensorOk_l0 h w c l hl l.length 0 (by omega)) fun k e => ?_)) fun k e => ?_
      · simp only [spec_TensorOk.j0]
        exact ite_no (by simp) e
      · refine bind_of (spec_ShapeOk_eq h w c) (ite_yes hs (bind_of (spec_SizeOf_eq h w c) ?_))
        rw [show ((l.length : Int) != sizeOf h w c) = false by simp [hz], hs, decide_eq_true hz]
        exact e
    · refine evSuc (evAll fun k => bind_of (spec_ShapeOk_eq h w c) (ite_yes hs (bind_of (spec_SizeOf_eq h w c) ?_)))
      rw [show ((l.length : Int) != sizeOf h w c) = true by simp [hz], decide_eq_false hz]
      simp [spec_TensorOk.j0]
  · refine evSuc (evAll fun k => bind_of (spec_ShapeOk_eq h w c) (ite_no hs ?_))
    simp [spec_TensorOk.j0, hs]


theorem impl_areItems_1_eq (x : Int) : impl_areItems_1.f x = some (!item8 x) := by
  unfold impl_areItems_1.f
  rw [impl_in_eq]
  rfl


theorem indexItems_l0 (l : List Int) (hl : l.length ≤ 9223372036854775807) : ∀ (d i : Nat), i + d = l.length → ∃ r, (Evp fun k => slices_IndexFunc_int_int_impl_areItems_1.l0 k l (l.length : Int) (i : Int) = some r) ∧ (decide (r ≥ 0) = !(l.drop i).all item8)
  | 0, i, hi => ⟨-1, evSuc (evAll fun k => by
    simp only [slices_IndexFunc_int_int_impl_areItems_1.l0]
    rw [if_neg (by omega)]), by rw [List.drop_eq_nil_of_le (by omega)]; rfl⟩
  | d + 1, i, hi => by
    have hlt : i < l.length := by omega
    rw [all_at hlt]
    cases hx : item8 l[i] with
    | true =>
      obtain ⟨r, h1, h2⟩ := indexItems_l0 l hl d (i + 1) (by omega)
      refine ⟨r, evSuc (evMono h1 fun k ih => ?_), by simpa using h2⟩
      simp only [slices_IndexFunc_int_int_impl_areItems_1.l0]
      rw [if_pos (by omega), if_pos (by omega), if_pos (by omega), rd_eq hlt, impl_areItems_1_eq, hx]
      simp only [Option.bind_some]
      rw [if_neg (by simp), w64' (by omega) (by omega)]
      exact ih
    | false =>
      refine ⟨(i : Int), evSuc (evAll fun k => ?_), by simp⟩
      simp only [slices_IndexFunc_int_int_impl_areItems_1.l0]
      rw [if_pos (by omega), if_pos (by omega), if_pos (by omega), rd_eq hlt, impl_areItems_1_eq, hx]
      simp


theorem impl_areItems_ev (l : List Int) (hl : l.length ≤ 9223372036854775807) : Evp fun k => impl_areItems.f k l = some (itemsB l) := by
  obtain ⟨r, h1, h2⟩ := indexItems_l0 l hl l.length 0 (by omega)
  refine evMono h1 fun k e => ?_
  have e1 : slices_ContainsFunc_int_int_impl_areItems_1.f k l = some (decide (r ≥ 0)) := bind_of (f := fun t => some (decide (t ≥ 0))) e rfl
  have e2 : impl_areItems.f k l = some (!decide (r ≥ 0)) := bind_of (f := fun t => some (!t)) e1 rfl
  rw [e2, h2]
  simp [itemsB]


theorem impl_TensorOk_ev (h w c : Int) (l : List Int) (hl : l.length ≤ 9223372036854775807) : Evp fun k => impl_TensorOk.f k h w c l = some (tensorOk h w c l) := by
  refine evMono (impl_areItems_ev l hl) fun k e => ?_
  unfold tensorOk
  by_cases hs : shapeOk h w c = true
  · refine bind_of (impl_ShapeOk_eq h w c) (ite_yes hs (bind_of (impl_SizeOf_eq h w c) ?_))
    by_cases hz : (l.length : Int) = sizeOf h w c
    · rw [if_pos hz, hs, decide_eq_true hz]
      exact bind_of e rfl
    · rw [if_neg hz, decide_eq_false hz]
      simp
  · refine bind_of (impl_ShapeOk_eq h w c) (ite_no hs ?_)
    simp [hs]


theorem and255_b (x : Int) : 0 ≤ Go.bits .and .i64 x 255 ∧ Go.bits .and .i64 x 255 ≤ 255 := by
  have h : ((BitVec.ofInt 64 x) &&& (BitVec.ofInt 64 255)).toNat ≤ 255 := by
    rw [BitVec.toNat_and]
    exact Nat.and_le_right
  have e : Go.bits .and .i64 x 255 = IntKind.i64.wrap (((BitVec.ofInt 64 x) &&& (BitVec.ofInt 64 255)).toNat : Int) := rfl
  rw [e, i64wrap, w64' (by omega) (by omega)]
  omega
/-- A drawing's place in its bytes. -/
def Cu (b : List Int) (i : Int) : Prop := 0 ≤ i ∧ i ≤ b.length ∧ b.length ≤ 1099511627776
theorem spec_l01New_l0 (b : List Int) (hb : b.length ≤ 1099511627776) : ∀ (d : Nat) (i : Nat) (h : Int), i + d = b.length → ∃ h', Evp fun k => spec_l01New.l0 k b h (i : Int) = some (b, 0, h')
  | 0, i, h, hi => ⟨h, evSuc (evAll fun k => by
    simp only [spec_l01New.l0]
    rw [if_neg (by omega)])⟩
  | d + 1, i, h, hi => by
    by_cases h4 : i < 4000
    · obtain ⟨h', hh⟩ := spec_l01New_l0 b hb d (i + 1) (Go.bits .and .i64 (wrap64 ((wrap64 ((wrap64 (h * 149)) + (wrap64 (rd b i)))) + 11)) 1073741823) (by omega)
      refine ⟨h', evSuc (evMono hh fun k e => ?_)⟩
      simp only [spec_l01New.l0]
      rw [if_pos (by omega), if_pos (by omega), if_pos (by omega), w64' (x := (i : Int) + 1) (by omega) (by omega)]
      exact e
    · refine ⟨h, evSuc (evAll fun k => ?_)⟩
      simp only [spec_l01New.l0]
      rw [if_pos (by omega), if_neg (by omega)]
theorem spec_l01New_ok (b : List Int) (hb : b.length ≤ 1099511627776) : ∃ h', Evp fun k => spec_l01New.f k b = some (b, 0, h') := spec_l01New_l0 b hb b.length 0 _ (by omega)
theorem Cu.zero {b : List Int} (hb : b.length ≤ 1099511627776) : Cu b 0 := ⟨by omega, by omega, hb⟩


theorem spec_l01Byte_ok {b : List Int} {i : Int} (hc : Cu b i) (h : Int) : ∃ r i' h', spec_l01Byte.f b i h = some (r, i', h') ∧ 0 ≤ r ∧ r ≤ 255 ∧ Cu b i' := by
  obtain ⟨h0, h1, h2⟩ := hc
  unfold spec_l01Byte.f
  by_cases hi : i < (b.length : Int)
  · rw [if_pos hi, if_pos h0]
    exact ⟨_, _, _, rfl, (and255_b _).1, (and255_b _).2, by rw [w64' (by omega) (by omega)]; exact ⟨by omega, by omega, h2⟩⟩
  · rw [if_neg hi]
    exact ⟨_, _, _, rfl, (and255_b _).1, (and255_b _).2, h0, h1, h2⟩


theorem spec_l01Below_ok {b : List Int} {i : Int} (hc : Cu b i) (h : Int) {n : Int} (hn : 1 ≤ n) : ∃ r i' h', spec_l01Below.f b i h n = some (r, i', h') ∧ 0 ≤ r ∧ r < n ∧ Cu b i' := by
  obtain ⟨r1, i1, h1, e1, a1, b1, c1⟩ := spec_l01Byte_ok hc h
  by_cases hs : n ≤ 256
  · refine ⟨_, _, _, ite_no (by omega) (ite_yes hs (bind_of e1 (ite_no (by omega) rfl))), ?_, ?_, c1⟩
    · rw [tmod_pos a1]; exact Int.emod_nonneg _ (by omega)
    · rw [tmod_pos a1]; exact Int.emod_lt_of_pos _ (by omega)
  · obtain ⟨r2, i2, h2, e2, a2, b2, c2⟩ := spec_l01Byte_ok c1 h1
    obtain ⟨r3, i3, h3, e3, a3, b3, c3⟩ := spec_l01Byte_ok c2 h2
    have hw : wrap64 ((wrap64 ((wrap64 (r1 * 65536)) + (wrap64 (r2 * 256)))) + r3) = r1 * 65536 + r2 * 256 + r3 := by
      simp (disch := omega) only [w64']
    refine ⟨_, _, _, ite_no (by omega) (ite_no hs (bind_of e1 (bind_of e2 (bind_of e3 (ite_no (by omega) rfl))))), ?_, ?_, c3⟩
    · show 0 ≤ Int.tmod (wrap64 ((wrap64 ((wrap64 (r1 * 65536)) + (wrap64 (r2 * 256)))) + r3)) n
      rw [hw, tmod_pos (by omega)]; exact Int.emod_nonneg _ (by omega)
    · show Int.tmod (wrap64 ((wrap64 ((wrap64 (r1 * 65536)) + (wrap64 (r2 * 256)))) + r3)) n < n
      rw [hw, tmod_pos (by omega)]; exact Int.emod_lt_of_pos _ (by omega)


theorem spec_l01PickInt_ok {b : List Int} {i : Int} (hc : Cu b i) (h : Int) (l : List Int) (hl : 1 ≤ l.length) : ∃ r i' h', spec_l01PickInt.f b i h l = some (r, i', h') ∧ r ∈ l ∧ Cu b i' := by
  obtain ⟨r1, i1, h1, e1, a1, b1, c1⟩ := spec_l01Below_ok hc h (n := (l.length : Int)) (by omega)
  obtain ⟨m, rfl⟩ := nat_of a1
  refine ⟨_, _, _, bind_of e1 (ite_yes a1 (ite_yes b1 rfl)), ?_, c1⟩
  show rd l (m : Int) ∈ l
  rw [rd_eq (by omega)]
  exact List.getElem_mem _


theorem spec_l01Once_ok {b : List Int} {i : Int} (hc : Cu b i) (h : Int) {n : Int} (hn : 1 ≤ n) : ∃ r i' h', spec_l01Once.f b i h n = some (r, i', h') ∧ Cu b i' := by
  obtain ⟨r1, i1, h1, e1, a1, b1, c1⟩ := spec_l01Below_ok hc h hn
  exact ⟨_, _, _, bind_of e1 rfl, c1⟩


theorem laws_at_ok (l : List Int) (hb : isBytes l) (hl : l.length ≤ 1048576) (i : Nat) (hi : i ≤ 1000) : ∃ a, laws_at.f l (i : Int) = some a ∧ 0 ≤ a ∧ a ≤ 255 := by
  by_cases h : i < l.length
  · have hx := hb l[i] (List.getElem_mem h)
    refine ⟨_, ite_yes (by omega) (ite_yes (by omega) rfl), ?_⟩
    rw [rd_eq h, w64' (by omega) (by omega)]
    exact hx
  · refine ⟨_, ite_no (by omega) rfl, ?_⟩
    rw [show wrap64 ((wrap64 ((i : Int) * 13)) + (wrap64 ((l.length : Int) * 5))) = (i : Int) * 13 + (l.length : Int) * 5 by simp (disch := omega) only [w64'], tmod_pos (by omega)]
    omega


theorem and_of {b c : Bool} {x y : Option Bool} (hx : b = true → x = some c) (hy : y = some false) : (if b = true then x else y) = some (b && c) := by
  cases b with
  | true => rw [if_pos rfl, hx rfl]; simp
  | false => rw [if_neg (by simp), hy]; simp
theorem and_ofP {P : Prop} [Decidable P] {c : Bool} {x y : Option Bool} (hx : P → x = some c) (hy : y = some false) : (if P then x else y) = some (decide P && c) := by
  by_cases h : P
  · rw [if_pos h, hx h]; simp [h]
  · rw [if_neg h, hy]; simp [h]
def rng (x lo hi : Int) : Bool := decide (lo ≤ x ∧ x ≤ hi)
theorem rng_iff {x lo hi : Int} : rng x lo hi = true ↔ lo ≤ x ∧ x ≤ hi := by simp [rng]
def biasB (l : List Int) : Bool := l.all fun x => rng x (-1000000) 1000000
def scaledB (ou mu sh ze : Int) (W B : List Int) (n : Int) : Bool :=
  rng ou 1 8 && (rng mu 0 2147483647 && (rng sh 0 31 && (rng ze (-128) 127 && (decide ((W.length : Int) = ou * n) && (itemsB W && (decide ((B.length : Int) = ou) && biasB B))))))
def bareB (ou mu sh : Int) (W B : List Int) : Bool := decide (ou = 0) && (decide (mu = 0) && (decide (sh = 0) && (decide ((W.length : Int) = 0) && decide ((B.length : Int) = 0))))
def noneB (sz st : Int) : Bool := decide (sz = 0) && decide (st = 0)
def windB (sz st h w : Int) : Bool := (rng sz 1 3 && (decide (sz ≤ h) && decide (sz ≤ w))) && rng st 1 2
def sh0 : Int × Int × Int × Bool := (0, 0, 0, false)
def outShape (h w c kd ou sz st mu sh ze : Int) (W B : List Int) : Int × Int × Int × Bool :=
  if shapeOk h w c = true then
    if kd = 0 then if h * w * c ≤ 64 ∧ noneB sz st = true ∧ scaledB ou mu sh ze W B (h * w * c) = true then (1, 1, ou, true) else sh0
    else if kd = 1 then if windB sz st h w = true ∧ (W.length : Int) ≤ 600 ∧ scaledB ou mu sh ze W B (sz * sz * c) = true then ((h - sz) / st + 1, (w - sz) / st + 1, ou, true) else sh0
    else if kd = 2 ∨ kd = 3 then if windB sz st h w = true ∧ bareB ou mu sh W B = true ∧ ze = 0 then ((h - sz) / st + 1, (w - sz) / st + 1, c, true) else sh0
    else if kd = 4 then if noneB sz st = true ∧ bareB ou mu sh W B = true ∧ rng ze (-128) 127 = true then (h, w, c, true) else sh0
    else if kd = 5 then if noneB sz st = true ∧ bareB ou mu sh W B = true ∧ ze = 0 ∧ h * w * c ≤ 8 then (1, 1, h * w * c, true) else sh0
    else sh0
  else sh0
theorem scaledB_iff {ou mu sh ze : Int} {W B : List Int} {n : Int} : scaledB ou mu sh ze W B n = true ↔ (1 ≤ ou ∧ ou ≤ 8) ∧ (0 ≤ mu ∧ mu ≤ 2147483647) ∧ (0 ≤ sh ∧ sh ≤ 31) ∧ (-128 ≤ ze ∧ ze ≤ 127) ∧ (W.length : Int) = ou * n ∧ itemsB W = true ∧ (B.length : Int) = ou ∧ biasB B = true := by
  simp only [scaledB, Bool.and_eq_true, rng_iff, decide_eq_true_eq]
theorem windB_iff {sz st h w : Int} : windB sz st h w = true ↔ ((1 ≤ sz ∧ sz ≤ 3) ∧ sz ≤ h ∧ sz ≤ w) ∧ 1 ≤ st ∧ st ≤ 2 := by
  simp only [windB, Bool.and_eq_true, rng_iff, decide_eq_true_eq]
theorem shape_dims {h w c : Int} (hs : shapeOk h w c = true) : (1 ≤ h ∧ h ≤ 8) ∧ (1 ≤ w ∧ w ≤ 8) ∧ (1 ≤ c ∧ c ≤ 8) := by
  simpa [shapeOk] using hs
theorem win_dims {h sz st : Int} (h1 : h ≤ 8) (h2 : 1 ≤ sz) (h3 : sz ≤ h) (h4 : 1 ≤ st) : wrap64 ((wrap64 (Int.tdiv (wrap64 (h - sz)) st)) + 1) = (h - sz) / st + 1 := by
  rw [w64' (x := h - sz) (by omega) (by omega), tdiv_pos (by omega)]
  have h5 : 0 ≤ (h - sz) / st := Int.ediv_nonneg (by omega) (by omega)
  have h6 := Int.ediv_le_self (a := h - sz) st (by omega)
  rw [w64' (x := (h - sz) / st) (by omega) (by omega), w64' (by omega) (by omega)]
theorem small_mul {a n : Int} (h1 : 1 ≤ a) (h2 : a ≤ 8) (h3 : 0 ≤ n) (h4 : n ≤ 4096) : wrap64 (a * n) = a * n := by
  have := bnd_mul (a := a) (b := n) (A := 8) (B := 4096) (by omega) (by omega) (by omega) (by omega)
  exact w64' (by omega) (by omega)
theorem area_b {sz c : Int} (h1 : 1 ≤ sz) (h2 : sz ≤ 3) (h3 : 1 ≤ c) (h4 : c ≤ 8) : 0 ≤ sz * sz * c ∧ sz * sz * c ≤ 72 ∧ 0 ≤ sz * sz ∧ sz * sz ≤ 9 := by
  have a1 := Int.mul_nonneg (show 0 ≤ sz by omega) (show 0 ≤ sz by omega)
  have a2 := bnd_mul (a := sz) (b := sz) (A := 3) (B := 3) (by omega) (by omega) (by omega) (by omega)
  have a3 := Int.mul_nonneg a1 (show 0 ≤ c by omega)
  have a4 := bnd_mul (a := sz * sz) (b := c) (A := 9) (B := 8) (by omega) (by omega) (by omega) (by omega)
  omega


theorem impl_Layer_isScaled_1_eq (x : Int) : impl_Layer_isScaled_1.f x = some (!rng x (-1000000) 1000000) := by
  unfold impl_Layer_isScaled_1.f
  rw [impl_in_eq]
  rfl


theorem indexBias_l0 (l : List Int) (hl : l.length ≤ 9223372036854775807) : ∀ (d i : Nat), i + d = l.length → ∃ r, (Evp fun k => slices_IndexFunc_int_int_impl_Layer_isScaled_1.l0 k l (l.length : Int) (i : Int) = some r) ∧ (decide (r ≥ 0) = !(l.drop i).all fun x => rng x (-1000000) 1000000)
  | 0, i, hi => ⟨-1, evSuc (evAll fun k => by
    simp only [slices_IndexFunc_int_int_impl_Layer_isScaled_1.l0]
    rw [if_neg (by omega)]), by rw [List.drop_eq_nil_of_le (by omega)]; rfl⟩
  | d + 1, i, hi => by
    have hlt : i < l.length := by omega
    rw [all_at hlt]
    cases hx : rng l[i] (-1000000) 1000000 with
    | true =>
      obtain ⟨r, h1, h2⟩ := indexBias_l0 l hl d (i + 1) (by omega)
      refine ⟨r, evSuc (evMono h1 fun k ih => ?_), by simpa using h2⟩
      simp only [slices_IndexFunc_int_int_impl_Layer_isScaled_1.l0]
      rw [if_pos (by omega), if_pos (by omega), if_pos (by omega), rd_eq hlt, impl_Layer_isScaled_1_eq, hx]
      simp only [Option.bind_some]
      rw [if_neg (by simp), w64' (by omega) (by omega)]
      exact ih
    | false =>
      refine ⟨(i : Int), evSuc (evAll fun k => ?_), by simp⟩
      simp only [slices_IndexFunc_int_int_impl_Layer_isScaled_1.l0]
      rw [if_pos (by omega), if_pos (by omega), if_pos (by omega), rd_eq hlt, impl_Layer_isScaled_1_eq, hx]
      simp


theorem impl_Layer_isScaled_ev (kd ou sz st mu sh ze : Int) (W B : List Int) (n : Int) (hW : (W.length : Int) ≤ 9223372036854775807) (hB : (B.length : Int) ≤ 9223372036854775807) (hn : 0 ≤ n ∧ n ≤ 4096) : Evp fun k => impl_Layer_isScaled.f k kd ou sz st mu sh ze W B n = some (scaledB ou mu sh ze W B n) := by
  obtain ⟨r, h1, h2⟩ := indexBias_l0 B (by omega) B.length 0 (by omega)
  refine evMono (evAnd (impl_areItems_ev W (by omega)) h1) fun k ⟨e1, e2⟩ => ?_
  have e3 : slices_ContainsFunc_int_int_impl_Layer_isScaled_1.f k B = some (!biasB B) := bind_of (f := fun t => some (decide (t ≥ 0))) e2 (by rw [h2]; rfl)
  unfold scaledB
  refine bind_of (impl_in_eq _ _ _) (and_of (fun z => bind_of (impl_in_eq _ _ _) (and_of (fun _ => bind_of (impl_in_eq _ _ _) (and_of (fun _ => bind_of (impl_in_eq _ _ _) (and_of (fun _ => ?_) rfl)) rfl)) rfl)) rfl)
  have z' : 1 ≤ ou ∧ ou ≤ 8 := of_decide_eq_true z
  rw [small_mul z'.1 z'.2 hn.1 hn.2]
  exact and_ofP (fun _ => bind_of e1 (and_of (fun _ => and_ofP (fun _ => bind_of e3 (by simp)) rfl) rfl)) rfl


theorem impl_Layer_isWindow_eq (kd ou sz st mu sh ze : Int) (W B : List Int) (h w c : Int) : impl_Layer_isWindow.f kd ou sz st mu sh ze W B h w c = some (windB sz st h w) := by
  refine bind_of (impl_in_eq _ _ _) ?_
  have e : decide (1 ≤ sz ∧ sz ≤ mn (mn 3 h) w) = (rng sz 1 3 && (decide (sz ≤ h) && decide (sz ≤ w))) := by
    rw [Bool.eq_iff_iff]
    simp only [rng, Bool.and_eq_true, decide_eq_true_eq]
    unfold mn
    repeat' split
    all_goals omega
  rw [e]
  exact and_of (fun _ => bind_of (impl_in_eq _ _ _) rfl) rfl
theorem impl_Layer_isBare_eq (kd ou sz st mu sh ze : Int) (W B : List Int) : impl_Layer_isBare.f kd ou sz st mu sh ze W B = some (bareB ou mu sh W B) :=
  and_ofP (fun _ => and_ofP (fun _ => and_ofP (fun _ => and_ofP (fun _ => rfl) rfl) rfl) rfl) rfl
theorem impl_Layer_hasNone_eq (kd ou sz st mu sh ze : Int) (W B : List Int) : impl_Layer_hasNone.f kd ou sz st mu sh ze W B = some (noneB sz st) :=
  and_ofP (fun _ => rfl) rfl
theorem impl_Layer_windows_eq (kd ou sz st mu sh ze : Int) (W B : List Int) (h w c x : Int) (h1 : h ≤ 8) (w1 : w ≤ 8) (hw : windB sz st h w = true) : impl_Layer_windows.f kd ou sz st mu sh ze W B h w c x = some ((h - sz) / st + 1, (w - sz) / st + 1, x) := by
  obtain ⟨⟨z1, z2, z3⟩, z4⟩ := windB_iff.1 hw
  refine ite_no (by omega) ?_
  rw [win_dims (by omega) (by omega) (by omega) (by omega), win_dims (by omega) (by omega) (by omega) (by omega)]
theorem ite3 {α : Type} {A B C : Prop} [Decidable A] [Decidable B] [Decidable C] {x y : α} : (if A ∧ B ∧ C then x else y) = (if A then (if B then (if C then x else y) else y) else y) := by
  by_cases a : A <;> by_cases b : B <;> by_cases c : C <;> simp [a, b, c]
theorem ite2 {α : Type} {A B : Prop} [Decidable A] [Decidable B] {x y : α} : (if A ∧ B then x else y) = (if A then (if B then x else y) else y) := by
  by_cases a : A <;> by_cases b : B <;> simp [a, b]
theorem ite_some {β : Type} {P : Prop} [Decidable P] {x y : Option β} {a b : β} (hx : P → x = some a) (hy : ¬ P → y = some b) : (if P then x else y) = some (if P then a else b) := by
  by_cases h : P
  · rw [if_pos h, if_pos h, hx h]
  · rw [if_neg h, if_neg h, hy h]
theorem impl_OutShape_ev (h w c kd ou sz st mu sh ze : Int) (W B : List Int) (hW : (W.length : Int) ≤ 9223372036854775807) (hB : (B.length : Int) ≤ 9223372036854775807) : Evp fun k => impl_OutShape.f k h w c kd ou sz st mu sh ze W B = some (outShape h w c kd ou sz st mu sh ze W B) := by
  by_cases hs : shapeOk h w c = true
  case neg =>
    refine evAll fun k => ?_
    unfold outShape
    rw [if_neg hs]
    exact bind_of (impl_ShapeOk_eq h w c) (ite_no hs rfl)
  obtain ⟨dh, dw, dc⟩ := shape_dims hs
  have hsz := size_b hs
  have eS : impl_SizeOf.f h w c = some (h * w * c) := by
    rw [impl_SizeOf_eq]
    unfold sizeOf
    rw [if_pos hs]
  unfold outShape
  rw [if_pos hs]
  by_cases k0 : kd = 0
  · rw [if_pos k0, ite3]
    exact evMono (impl_Layer_isScaled_ev kd ou sz st mu sh ze W B (h * w * c) hW hB (by omega)) fun k e => bind_of (impl_ShapeOk_eq h w c) (ite_yes hs (bind_of eS (ite_yes k0 (ite_some (fun _ => bind_of (impl_Layer_hasNone_eq _ _ _ _ _ _ _ _ _) (ite_some (fun _ => bind_of e (ite_some (fun _ => rfl) fun _ => rfl)) fun _ => rfl)) fun _ => rfl))))
  rw [if_neg k0]
  by_cases k1 : kd = 1
  · rw [if_pos k1]
    by_cases c1 : windB sz st h w = true
    · obtain ⟨⟨z1, z2, z3⟩, z4⟩ := windB_iff.1 c1
      have ar := area_b z1.1 z1.2 dc.1 dc.2
      rw [ite3, if_pos c1]
      refine evMono (impl_Layer_isScaled_ev kd ou sz st mu sh ze W B (sz * sz * c) hW hB (by omega)) fun k e => bind_of (impl_ShapeOk_eq h w c) (ite_yes hs (bind_of eS (ite_no k0 (ite_yes k1 (bind_of (impl_Layer_isWindow_eq _ _ _ _ _ _ _ _ _ _ _ _) (ite_yes c1 (ite_some (fun c2 => ?_) fun _ => rfl)))))))
      rw [show wrap64 ((wrap64 (sz * sz)) * c) = sz * sz * c by rw [w64' (x := sz * sz) (by omega) (by omega), w64' (by omega) (by omega)]]
      exact bind_of e (ite_some (fun c3 => bind_of (impl_Layer_windows_eq kd ou sz st mu sh ze W B h w c ou (by omega) (by omega) c1) rfl) fun _ => rfl)
    · refine evAll fun k => bind_of (impl_ShapeOk_eq h w c) (ite_yes hs (bind_of eS (ite_no k0 (ite_yes k1 (bind_of (impl_Layer_isWindow_eq _ _ _ _ _ _ _ _ _ _ _ _) (ite_no c1 ?_))))))
      rw [if_neg (fun z => c1 z.1)]
      rfl
  rw [if_neg k1]
  have jt : Evp fun k => impl_OutShape.j0 k (h * w * c) kd true h w c kd ou sz st mu sh ze W B = some (if windB sz st h w = true ∧ bareB ou mu sh W B = true ∧ ze = 0 then ((h - sz) / st + 1, (w - sz) / st + 1, c, true) else sh0) := evSuc (evAll fun k => by
    rw [ite3]
    simp only [impl_OutShape.j0]
    exact ite_yes trivial (bind_of (impl_Layer_isWindow_eq _ _ _ _ _ _ _ _ _ _ _ _) (ite_some (fun c1 => bind_of (impl_Layer_isBare_eq _ _ _ _ _ _ _ _ _) (ite_some (fun c2 => ite_some (fun c3 => bind_of (impl_Layer_windows_eq kd ou sz st mu sh ze W B h w c c (by omega) (by omega) c1) rfl) fun _ => rfl) fun _ => rfl)) fun _ => rfl)))
  by_cases k2 : kd = 2
  · rw [if_pos (Or.inl k2)]
    refine evMono jt fun k e => bind_of (impl_ShapeOk_eq h w c) (ite_yes hs (bind_of eS (ite_no k0 (ite_no k1 (ite_yes k2 ?_)))))
    rw [show (kd == 2) = true by simp [k2]]
    exact e
  by_cases k3 : kd = 3
  · rw [if_pos (Or.inr k3)]
    refine evMono jt fun k e => bind_of (impl_ShapeOk_eq h w c) (ite_yes hs (bind_of eS (ite_no k0 (ite_no k1 (ite_no k2 ?_)))))
    rw [show (kd == 3) = true by simp [k3]]
    exact e
  rw [if_neg (show ¬ (kd = 2 ∨ kd = 3) by omega)]
  refine evMono (evSuc (p := fun k => impl_OutShape.j0 k (h * w * c) kd false h w c kd ou sz st mu sh ze W B = some (if kd = 4 then if noneB sz st = true ∧ bareB ou mu sh W B = true ∧ rng ze (-128) 127 = true then (h, w, c, true) else sh0
    else if kd = 5 then if noneB sz st = true ∧ bareB ou mu sh W B = true ∧ ze = 0 ∧ h * w * c ≤ 8 then (1, 1, h * w * c, true) else sh0
    else sh0)) (evAll fun k => ?_)) fun k e => bind_of (impl_ShapeOk_eq h w c) (ite_yes hs (bind_of eS (ite_no k0 (ite_no k1 (ite_no k2 ?_)))))
  · rw [ite3, ite3, ite2]
    simp only [impl_OutShape.j0]
    exact ite_no Bool.false_ne_true (ite_some (fun _ => bind_of (impl_Layer_hasNone_eq _ _ _ _ _ _ _ _ _) (ite_some (fun _ => bind_of (impl_Layer_isBare_eq _ _ _ _ _ _ _ _ _) (ite_some (fun _ => bind_of (impl_in_eq _ _ _) (ite_some (fun _ => rfl) fun _ => rfl)) fun _ => rfl)) fun _ => rfl)) fun _ =>
      ite_some (fun _ => bind_of (impl_Layer_hasNone_eq _ _ _ _ _ _ _ _ _) (ite_some (fun _ => bind_of (impl_Layer_isBare_eq _ _ _ _ _ _ _ _ _) (ite_some (fun _ => ite_some (fun _ => ite_some (fun _ => rfl) fun _ => rfl) fun _ => rfl) fun _ => rfl)) fun _ => rfl)) fun _ => rfl)
  · rw [show (kd == 3) = false by simp [k3]]
    exact e


/-- A part of a list: n from place i on. -/
def part (l : List Int) (i n : Nat) : List Int := (l.drop i).take n


theorem drop_take_part (W : List Int) (a n : Nat) : (W.take (a + n)).drop a = part W a n := by
  unfold part
  rw [List.drop_take]
  congr 1
  omega
theorem impl_scaled_ev {kd ou sz st mu sh ze : Int} {W B l : List Int} {o : Nat} (ho : o ≤ 8) (hl : l.length ≤ 512) (hW : (o + 1) * l.length ≤ W.length) (hB : o < B.length) : Evp fun k => impl_Layer_scaled.f k kd ou sz st mu sh ze W B l (o : Int) = some (requant (addSat (dotOf l (part W (o * l.length) l.length)) B[o]) mu sh ze) := by
  have b1 : o * l.length ≤ 8 * 512 := Nat.mul_le_mul ho hl
  have e1 : (o + 1) * l.length = o * l.length + l.length := Nat.succ_mul _ _
  have w1 : wrap64 ((o : Int) * (l.length : Int)) = ((o * l.length : Nat) : Int) := by
    rw [show (o : Int) * (l.length : Int) = ((o * l.length : Nat) : Int) by simp]
    exact w64' (by omega) (by omega)
  have w2 : wrap64 ((wrap64 ((o : Int) + 1)) * (l.length : Int)) = ((o * l.length + l.length : Nat) : Int) := by
    rw [w64' (x := (o : Int) + 1) (by omega) (by omega), show ((o : Int) + 1) * (l.length : Int) = (((o + 1) * l.length : Nat) : Int) by simp, e1]
    exact w64' (by omega) (by omega)
  refine evMono (evAnd (impl_DotOf_ev l (part W (o * l.length) l.length) (by omega)) (evAnd (evAll fun _ => impl_AddSat_eq (dotOf l (part W (o * l.length) l.length)) B[o]) (impl_Requant_ev (addSat (dotOf l (part W (o * l.length) l.length)) B[o]) mu sh ze))) fun k ⟨e2, e3, e4⟩ => ?_
  unfold impl_Layer_scaled.f
  rw [w1, w2, Int.toNat_natCast, Int.toNat_natCast, drop_take_part]
  refine ite_yes (by omega) (ite_yes (by omega) (ite_yes (by omega) (bind_of e2 (ite_yes (by omega) (ite_yes (by omega) ?_)))))
  rw [rd_eq hB]
  exact bind_of e3 (bind_of e4 rfl)


def chanL (V : Nat → Nat → Nat → Int) (p q : Nat) : Nat → Nat → List Int
  | 0, _ => []
  | n + 1, o => V p q o :: chanL V p q n (o + 1)
def colL (V : Nat → Nat → Nat → Int) (C p : Nat) : Nat → Nat → List Int
  | 0, _ => []
  | n + 1, q => chanL V p q C 0 ++ colL V C p n (q + 1)
def rowL (V : Nat → Nat → Nat → Int) (C Wd : Nat) : Nat → Nat → List Int
  | 0, _ => []
  | n + 1, p => colL V C p Wd 0 ++ rowL V C Wd n (p + 1)
theorem chanL_len (V : Nat → Nat → Nat → Int) (p q : Nat) : ∀ (n o : Nat), (chanL V p q n o).length = n
  | 0, _ => rfl
  | n + 1, o => by simp [chanL, chanL_len V p q n]
theorem colL_len (V : Nat → Nat → Nat → Int) (C p : Nat) : ∀ (n q : Nat), (colL V C p n q).length = n * C
  | 0, _ => by simp [colL]
  | n + 1, q => by rw [colL, List.length_append, chanL_len, colL_len V C p n, Nat.add_mul]; omega
theorem impl_run_l2 {h w c kd ou sz st mu sh ze : Int} {d W B : List Int} {H Wd C : Nat} {V : Nat → Nat → Nat → Int} (hC : C ≤ 8) {p q : Nat} (hq : q ≤ 8) (hV : ∀ o : Nat, o < C → Evp fun k => impl_Layer_item.f k kd ou sz st mu sh ze W B h w c d (p : Int) (q : Int) (o : Int) = some (V p q o)) (r : Int × Int × Int × List Int × Bool) : ∀ (n o : Nat) (acc : List Int), o + n = C → acc.length ≤ 1000000 + o → (Evp fun k => impl_RunLayer.l1 k (p : Int) (H : Int) (p : Int) (Wd : Int) ((q + 1 : Nat) : Int) h w c d kd ou sz st mu sh ze W B (H : Int) (Wd : Int) (C : Int) (H : Int) (Wd : Int) (C : Int) (acc ++ chanL V p q n o) = some r) → Evp fun k => impl_RunLayer.l2 k (p : Int) (q : Int) (H : Int) (p : Int) (Wd : Int) (q : Int) (C : Int) (o : Int) h w c d kd ou sz st mu sh ze W B (H : Int) (Wd : Int) (C : Int) (H : Int) (Wd : Int) (C : Int) acc = some r
  | 0, o, acc, hm, ha, hk => evSuc (evMono hk fun k e => by
    simp only [impl_RunLayer.l2]
    refine ite_no (by omega) ?_
    rw [w64' (x := (q : Int) + 1) (by omega) (by omega), show (q : Int) + 1 = ((q + 1 : Nat) : Int) by omega]
    simpa [chanL] using e)
  | n + 1, o, acc, hm, ha, hk => evSuc (evMono (evAnd (hV o (by omega)) (impl_run_l2 (H := H) (Wd := Wd) hC hq hV r n (o + 1) (acc ++ [V p q o]) (by omega) (by simp; omega) (by rw [chanL, List.append_cons] at hk; exact hk))) fun k ⟨e1, e2⟩ => by
    simp only [impl_RunLayer.l2]
    refine ite_yes (by omega) (bind_of e1 (ite_yes (by omega) ?_))
    rw [w64' (x := (o : Int) + 1) (by omega) (by omega)]
    exact e2)
theorem impl_run_l1 {h w c kd ou sz st mu sh ze : Int} {d W B : List Int} {H Wd C : Nat} {V : Nat → Nat → Nat → Int} (hC : C ≤ 8) (hWd : Wd ≤ 8) {p : Nat} (hp : p ≤ 8) (hV : ∀ q o : Nat, q < Wd → o < C → Evp fun k => impl_Layer_item.f k kd ou sz st mu sh ze W B h w c d (p : Int) (q : Int) (o : Int) = some (V p q o)) (r : Int × Int × Int × List Int × Bool) : ∀ (n q : Nat) (acc : List Int), q + n = Wd → acc.length ≤ 10000 + 8 * q → (Evp fun k => impl_RunLayer.l0 k (H : Int) ((p + 1 : Nat) : Int) h w c d kd ou sz st mu sh ze W B (H : Int) (Wd : Int) (C : Int) (H : Int) (Wd : Int) (C : Int) (acc ++ colL V C p n q) = some r) → Evp fun k => impl_RunLayer.l1 k (p : Int) (H : Int) (p : Int) (Wd : Int) (q : Int) h w c d kd ou sz st mu sh ze W B (H : Int) (Wd : Int) (C : Int) (H : Int) (Wd : Int) (C : Int) acc = some r
  | 0, q, acc, hm, ha, hk => evSuc (evMono hk fun k e => by
    simp only [impl_RunLayer.l1]
    refine ite_no (by omega) ?_
    rw [w64' (x := (p : Int) + 1) (by omega) (by omega), show (p : Int) + 1 = ((p + 1 : Nat) : Int) by omega]
    simpa [colL] using e)
  | n + 1, q, acc, hm, ha, hk => evSuc (evMono (impl_run_l2 (H := H) (Wd := Wd) hC (show q ≤ 8 by omega) (fun o ho => hV q o (by omega) ho) r C 0 acc (by omega) (by omega) (impl_run_l1 hC hWd hp hV r n (q + 1) (acc ++ chanL V p q C 0) (by omega) (by rw [List.length_append, chanL_len]; omega) (by rw [colL, ← List.append_assoc] at hk; exact hk))) fun k e => by
    simp only [impl_RunLayer.l1]
    exact ite_yes (by omega) e)
theorem impl_run_l0 {h w c kd ou sz st mu sh ze : Int} {d W B : List Int} {H Wd C : Nat} {V : Nat → Nat → Nat → Int} (hC : C ≤ 8) (hWd : Wd ≤ 8) (hH : H ≤ 8) (hV : ∀ p q o : Nat, p < H → q < Wd → o < C → Evp fun k => impl_Layer_item.f k kd ou sz st mu sh ze W B h w c d (p : Int) (q : Int) (o : Int) = some (V p q o)) : ∀ (n p : Nat) (acc : List Int), p + n = H → acc.length ≤ 1000 + 64 * p → Evp fun k => impl_RunLayer.l0 k (H : Int) (p : Int) h w c d kd ou sz st mu sh ze W B (H : Int) (Wd : Int) (C : Int) (H : Int) (Wd : Int) (C : Int) acc = some ((H : Int), (Wd : Int), (C : Int), acc ++ rowL V C Wd n p, true)
  | 0, p, acc, hm, ha => evSuc (evAll fun k => by
    simp only [impl_RunLayer.l0]
    refine ite_no (by omega) ?_
    simp [rowL])
  | n + 1, p, acc, hm, ha => by
    have b : Wd * C ≤ 8 * 8 := Nat.mul_le_mul hWd hC
    have ih := impl_run_l0 hC hWd hH hV n (p + 1) (acc ++ colL V C p Wd 0) (by omega) (by rw [List.length_append, colL_len]; omega)
    rw [rowL, ← List.append_assoc]
    refine evSuc (evMono (impl_run_l1 hC hWd (show p ≤ 8 by omega) (fun q o hq ho => hV p q o (by omega) hq ho) _ Wd 0 acc (by omega) (by omega) ih) fun k e => ?_)
    simp only [impl_RunLayer.l0]
    exact ite_yes (by omega) e


theorem spec_l02DrawShape_ok {b : List Int} {i : Int} (hc : Cu b i) (h : Int) : ∃ x y z i' h', spec_l02DrawShape.f b i h 4 = some (x, y, z, i', h') ∧ (1 ≤ x ∧ x ≤ 4) ∧ (1 ≤ y ∧ y ≤ 4) ∧ (1 ≤ z ∧ z ≤ 3) ∧ Cu b i' := by
  obtain ⟨r1, i1, h1, e1, a1, b1, c1⟩ := spec_l01Below_ok hc h (n := 4) (by omega)
  obtain ⟨r2, i2, h2, e2, a2, b2, c2⟩ := spec_l01Below_ok c1 h1 (n := 4) (by omega)
  obtain ⟨r3, i3, h3, e3, a3, b3, c3⟩ := spec_l01Below_ok c2 h2 (n := 3) (by omega)
  refine ⟨_, _, _, _, _, bind_of e1 (bind_of e2 (bind_of e3 rfl)), ?_, ?_, ?_, c3⟩
  · show 1 ≤ wrap64 (1 + r1) ∧ wrap64 (1 + r1) ≤ 4
    rw [w64' (by omega) (by omega)]; omega
  · show 1 ≤ wrap64 (1 + r2) ∧ wrap64 (1 + r2) ≤ 4
    rw [w64' (by omega) (by omega)]; omega
  · show 1 ≤ wrap64 (1 + r3) ∧ wrap64 (1 + r3) ≤ 3
    rw [w64' (by omega) (by omega)]; omega


theorem spec_l02DrawItem_ok {b : List Int} {i : Int} (hc : Cu b i) (h : Int) : ∃ r i' h', spec_l02DrawItem.f b i h = some (r, i', h') ∧ (-128 ≤ r ∧ r ≤ 127) ∧ Cu b i' := by
  obtain ⟨r1, i1, h1, e1, a1, b1, c1⟩ := spec_l01Below_ok hc h (n := 256) (by omega)
  obtain ⟨r2, i2, h2, e2, a2, b2, c2⟩ := spec_l01Below_ok c1 h1 (n := 256) (by omega)
  obtain ⟨r3, i3, h3, e3, m3, c3⟩ := spec_l01PickInt_ok c2 h2 ([wrap64 (r1 - 128), wrap64 (r2 - 128), 127, (-128), 0] : List Int) (by simp)
  refine ⟨_, _, _, bind_of e1 (bind_of e2 (bind_of e3 rfl)), ?_, c3⟩
  show -128 ≤ r3 ∧ r3 ≤ 127
  simp only [List.mem_cons, List.not_mem_nil, or_false] at m3
  rw [w64' (x := r1 - 128) (by omega) (by omega), w64' (x := r2 - 128) (by omega) (by omega)] at m3
  omega


theorem spec_l02DrawTensor_l0 {b : List Int} {x y z : Int} (p q r : Int) : ∀ (d n : Nat) (acc : List Int) (i h : Int), Cu b i → ((n + d : Nat) : Int) = sizeOf x y z → acc.length = n → (∀ v ∈ acc, -128 ≤ v ∧ v ≤ 127) → ∃ o i' h', o.length = n + d ∧ (∀ v ∈ o, -128 ≤ v ∧ v ≤ 127) ∧ Cu b i' ∧ Evp fun k => spec_l02DrawTensor.l0 k (n : Int) b i h x y z p q r acc = some (p, q, r, o, i', h')
  | 0, n, acc, i, h, hc, hs, ha, hv => ⟨acc, i, h, by omega, hv, hc, evSuc (evAll fun k => by
    simp only [spec_l02DrawTensor.l0]
    exact bind_of (spec_SizeOf_eq _ _ _) (ite_no (by omega) rfl))⟩
  | d + 1, n, acc, i, h, hc, hs, ha, hv => by
    have hb := sizeOf_b x y z
    obtain ⟨v, i1, h1, e1, v1, c1⟩ := spec_l02DrawItem_ok hc h
    obtain ⟨o, i', h', g1, g2, g3, g4⟩ := spec_l02DrawTensor_l0 (x := x) (y := y) (z := z) p q r d (n + 1) (acc ++ [v]) i1 h1 c1 (by omega) (by simp; omega) (fun u hu => by
      rcases List.mem_append.1 hu with m | m
      · exact hv u m
      · simp only [List.mem_singleton] at m
        rw [m]; exact v1)
    refine ⟨o, i', h', by omega, g2, g3, evSuc (evMono g4 fun k e => ?_)⟩
    simp only [spec_l02DrawTensor.l0]
    refine bind_of (spec_SizeOf_eq _ _ _) (ite_yes (by omega) (bind_of e1 (ite_yes (by omega) ?_)))
    rw [w64' (x := (n : Int) + 1) (by omega) (by omega)]
    exact e
theorem spec_l02DrawTensor_ok {b : List Int} {i : Int} (hc : Cu b i) (h x y z : Int) : ∃ o i' h', (o.length : Int) = sizeOf x y z ∧ (∀ v ∈ o, -128 ≤ v ∧ v ≤ 127) ∧ Cu b i' ∧ Evp fun k => spec_l02DrawTensor.f k b i h x y z = some (x, y, z, o, i', h') := by
  have hb := sizeOf_b x y z
  obtain ⟨o, i', h', g1, g2, g3, g4⟩ := spec_l02DrawTensor_l0 (b := b) (x := x) (y := y) (z := z) x y z (sizeOf x y z).toNat 0 [] i h hc (by omega) rfl (by simp)
  exact ⟨o, i', h', by omega, g2, g3, g4⟩


theorem sizeOf_pos {x y z : Int} (hx : 1 ≤ x ∧ x ≤ 8) (hy : 1 ≤ y ∧ y ≤ 8) (hz : 1 ≤ z ∧ z ≤ 8) : 1 ≤ sizeOf x y z := by
  unfold sizeOf
  rw [if_pos (shapeOk_iff.2 ⟨hx, hy, hz⟩)]
  exact mul_pos1 (mul_pos1 hx.1 hy.1) hz.1
theorem loose_j0 (b : List Int) (i h x y z : Int) (o : List Int) : Evp fun k => spec_l02DrawLoose.j0 k b i h x y z o = some (x, y, z, o, i, h) := evSuc (evAll fun k => by simp only [spec_l02DrawLoose.j0])
theorem spec_l02DrawLoose_ok {b : List Int} {i : Int} (hc : Cu b i) (h : Int) : ∃ x y z o i' h', o.length ≤ 1000 ∧ Cu b i' ∧ Evp fun k => spec_l02DrawLoose.f k b i h = some (x, y, z, o, i', h') := by
  obtain ⟨x, y, z, i1, h1, e1, x1, y1, z1, c1⟩ := spec_l02DrawShape_ok hc h
  obtain ⟨o, i2, h2, l2, v2, c2, e2⟩ := spec_l02DrawTensor_ok c1 h1 x y z
  obtain ⟨r3, i3, h3, e3, c3⟩ := spec_l01Once_ok c2 h2 (n := 8) (by omega)
  have hsz := sizeOf_b x y z
  have hsp := sizeOf_pos (x := x) (y := y) (z := z) (by omega) (by omega) (by omega)
  by_cases q3 : r3 = true
  · obtain ⟨r4, i4, h4, e4, a4, b4, c4⟩ := spec_l01Below_ok c3 h3 (n := 4) (by omega)
    by_cases q0 : r4 = 0
    · obtain ⟨r5, i5, h5, e5, _, c5⟩ := spec_l01PickInt_ok c4 h4 ([0, 8, 9] : List Int) (by simp)
      exact ⟨_, _, _, _, _, _, by show o.length ≤ 1000; omega, c5, evMono (evAnd e2 (loose_j0 b i5 h5 r5 y z o)) fun k ⟨e, g⟩ => bind_of e1 (bind_of e (bind_of e3 (ite_yes q3 (bind_of e4 (ite_yes q0 (bind_of e5 g))))))⟩
    by_cases q1 : r4 = 1
    · exact ⟨_, _, _, _, _, _, by show (o ++ [0]).length ≤ 1000; simp; omega, c4, evMono (evAnd e2 (loose_j0 b i4 h4 x y z (o ++ [0]))) fun k ⟨e, g⟩ => bind_of e1 (bind_of e (bind_of e3 (ite_yes q3 (bind_of e4 (ite_no q0 (ite_yes q1 (ite_yes (show o.length < 17592186044416 by omega) g)))))))⟩
    by_cases q2 : r4 = 2
    · obtain ⟨r5, i5, h5, e5, a5, b5, c5⟩ := spec_l01Below_ok c4 h4 (n := (o.length : Int)) (by omega)
      obtain ⟨r6, i6, h6, e6, _, c6⟩ := spec_l01PickInt_ok c5 h5 ([128, (-129)] : List Int) (by simp)
      exact ⟨_, _, _, _, _, _, by show (o.set r5.toNat r6).length ≤ 1000; rw [List.length_set]; omega, c6, evMono (evAnd e2 (loose_j0 b i6 h6 x y z (o.set r5.toNat r6))) fun k ⟨e, g⟩ => bind_of e1 (bind_of e (bind_of e3 (ite_yes q3 (bind_of e4 (ite_no q0 (ite_no q1 (ite_yes q2 (bind_of e5 (bind_of e6 (ite_yes a5 (ite_yes b5 g)))))))))))⟩
    · have q5 : r4 = 3 := by omega
      obtain ⟨o5, i5, h5, l5, v5, c5, e5⟩ := spec_l02DrawTensor_ok c4 h4 8 8 8
      have := sizeOf_b 8 8 8
      exact ⟨_, _, _, _, _, _, by show o5.length ≤ 1000; omega, c5, evMono (evAnd e2 (evAnd e5 (loose_j0 b i5 h5 8 8 8 o5))) fun k ⟨e, e5, g⟩ => bind_of e1 (bind_of e (bind_of e3 (ite_yes q3 (bind_of e4 (ite_no q0 (ite_no q1 (ite_no q2 (ite_yes q5 (bind_of e5 g)))))))))⟩
  · exact ⟨_, _, _, _, _, _, by show o.length ≤ 1000; omega, c3, evMono (evAnd e2 (loose_j0 b i3 h3 x y z o)) fun k ⟨e, g⟩ => bind_of e1 (bind_of e (bind_of e3 (ite_no q3 g)))⟩


def LayO (b : List Int) (o : Int × Int × Int × Int × Int × Int × Int × List Int × List Int × Int × Int) : Prop := o.2.2.2.2.2.2.2.1.length ≤ 2000 ∧ o.2.2.2.2.2.2.2.2.1.length ≤ 2000 ∧ Cu b o.2.2.2.2.2.2.2.2.2.1
theorem spec_l03DrawLayer_l1 {b : List Int} {kd sz st mu sh ze : Int} {W : List Int} (hW : W.length ≤ 2000) {ou : Nat} (ho : ou ≤ 100) : ∀ (d n : Nat) (B : List Int) (i h : Int), Cu b i → n + d = ou → B.length = n → ∃ o, LayO b o ∧ Evp fun k => spec_l03DrawLayer.l1 k (n : Int) b i h kd (ou : Int) sz st mu sh ze W B = some o
  | 0, n, B, i, h, hc, hn, hB => by
    by_cases h4 : kd = 4
    · obtain ⟨r, i1, h1, e1, a1, b1, c1⟩ := spec_l01Below_ok hc h (n := 20) (by omega)
      exact ⟨(kd, (ou : Int), sz, st, mu, sh, wrap64 (r - 10), W, B, i1, h1), ⟨hW, by show B.length ≤ 2000; omega, c1⟩, evSuc (evAll fun k => by
        simp only [spec_l03DrawLayer.l1]
        exact ite_no (by omega) (ite_yes h4 (bind_of e1 rfl)))⟩
    · exact ⟨(kd, (ou : Int), sz, st, mu, sh, ze, W, B, i, h), ⟨hW, by show B.length ≤ 2000; omega, hc⟩, evSuc (evAll fun k => by
        simp only [spec_l03DrawLayer.l1]
        exact ite_no (by omega) (ite_no h4 rfl))⟩
  | d + 1, n, B, i, h, hc, hn, hB => by
    obtain ⟨r, i1, h1, e1, a1, b1, c1⟩ := spec_l01Below_ok hc h (n := 400) (by omega)
    obtain ⟨o, g1, g2⟩ := spec_l03DrawLayer_l1 (kd := kd) (sz := sz) (st := st) (mu := mu) (sh := sh) (ze := ze) hW ho d (n + 1) (B ++ [wrap64 (r - 200)]) i1 h1 c1 (by omega) (by simp; omega)
    refine ⟨o, g1, evSuc (evMono g2 fun k e => ?_)⟩
    simp only [spec_l03DrawLayer.l1]
    refine ite_yes (by omega) (bind_of e1 (ite_yes (by omega) ?_))
    rw [w64' (x := (n : Int) + 1) (by omega) (by omega)]
    exact e
theorem spec_l03DrawLayer_l0 {b : List Int} {kd sz st mu sh ze : Int} {ou : Nat} (ho : ou ≤ 100) {m : Nat} (hm : m ≤ 2000) : ∀ (d n : Nat) (W : List Int) (i h : Int), Cu b i → n + d = m → W.length = n → ∃ o, LayO b o ∧ Evp fun k => spec_l03DrawLayer.l0 k (m : Int) (n : Int) b i h kd (ou : Int) sz st mu sh ze W = some o
  | 0, n, W, i, h, hc, hn, hW => by
    obtain ⟨o, g1, g2⟩ := spec_l03DrawLayer_l1 (kd := kd) (sz := sz) (st := st) (mu := mu) (sh := sh) (ze := ze) (W := W) (by omega) ho ou 0 [] i h hc (by omega) rfl
    refine ⟨o, g1, evSuc (evMono g2 fun k e => ?_)⟩
    simp only [spec_l03DrawLayer.l0]
    exact ite_no (by omega) e
  | d + 1, n, W, i, h, hc, hn, hW => by
    obtain ⟨r, i1, h1, e1, a1, c1⟩ := spec_l02DrawItem_ok hc h
    obtain ⟨o, g1, g2⟩ := spec_l03DrawLayer_l0 (kd := kd) (sz := sz) (st := st) (mu := mu) (sh := sh) (ze := ze) ho hm d (n + 1) (W ++ [r]) i1 h1 c1 (by omega) (by simp; omega)
    refine ⟨o, g1, evSuc (evMono g2 fun k e => ?_)⟩
    simp only [spec_l03DrawLayer.l0]
    refine ite_yes (by omega) (bind_of e1 (ite_yes (by omega) ?_))
    rw [w64' (x := (n : Int) + 1) (by omega) (by omega)]
    exact e
theorem spec_l03DrawLayer_j4 {b : List Int} {kd sz st mu sh ze ou m : Int} (ho : 0 ≤ ou ∧ ou ≤ 100) (hm : 0 ≤ m ∧ m ≤ 2000) {i : Int} (hc : Cu b i) (h : Int) : ∃ o, LayO b o ∧ Evp fun k => spec_l03DrawLayer.j4 k m b i h kd ou sz st mu sh ze = some o := by
  obtain ⟨m, rfl⟩ := nat_of hm.1
  obtain ⟨ou, rfl⟩ := nat_of ho.1
  obtain ⟨o, g1, g2⟩ := spec_l03DrawLayer_l0 (b := b) (kd := kd) (sz := sz) (st := st) (mu := mu) (sh := sh) (ze := ze) (ou := ou) (by omega) (m := m) (by omega) m 0 [] i h hc (by omega) rfl
  exact ⟨o, g1, evSuc (evMono g2 fun k e => by simp only [spec_l03DrawLayer.j4]; exact e)⟩
theorem spec_l03DrawLayer_j3 {b : List Int} {x y z kd ou sz st mu sh ze : Int} (hz : 0 ≤ z ∧ z ≤ 3) (hsz : 0 ≤ sz ∧ sz ≤ 3) {i : Int} (hc : Cu b i) (h : Int) : ∃ o, LayO b o ∧ Evp fun k => spec_l03DrawLayer.j3 k b i h x y z kd ou sz st mu sh ze = some o := by
  by_cases h1 : kd ≤ 1
  · obtain ⟨r1, i1, t1, e1, a1, b1, c1⟩ := spec_l01Below_ok hc h (n := 3) (by omega)
    obtain ⟨r2, i2, t2, e2, a2, b2, c2⟩ := spec_l01Below_ok c1 t1 (n := 16777216) (by omega)
    obtain ⟨r3, i3, t3, e3, a3, b3, c3⟩ := spec_l01Below_ok c2 t2 (n := 10) (by omega)
    obtain ⟨r4, i4, t4, e4, a4, b4, c4⟩ := spec_l01Below_ok c3 t3 (n := 9) (by omega)
    have hsb := sizeOf_b x y z
    have w1 : wrap64 (1 + r1) = 1 + r1 := w64' (by omega) (by omega)
    by_cases hk : kd = 1
    · have m1 := mul_b (a := 1 + r1) (b := sz) (A := 3) (B := 3) (by omega) (by omega) hsz.1 hsz.2
      have m2 := mul_b (a := (1 + r1) * sz) (b := sz) (A := 9) (B := 3) m1.1 (by omega) hsz.1 hsz.2
      have m3 := mul_b (a := (1 + r1) * sz * sz) (b := z) (A := 27) (B := 3) m2.1 (by omega) hz.1 hz.2
      have hw : wrap64 ((wrap64 ((wrap64 ((wrap64 (1 + r1)) * sz)) * sz)) * z) = (1 + r1) * sz * sz * z := by
        rw [w1, w64' (x := (1 + r1) * sz) (by omega) (by omega), w64' (x := (1 + r1) * sz * sz) (by omega) (by omega), w64' (by omega) (by omega)]
      obtain ⟨o, g1, g2⟩ := spec_l03DrawLayer_j4 (b := b) (kd := kd) (sz := sz) (st := st) (mu := wrap64 (1073741824 + (wrap64 (r2 * 60)))) (sh := r3) (ze := wrap64 (r4 - 4)) (ou := wrap64 (1 + r1)) (m := wrap64 ((wrap64 ((wrap64 ((wrap64 (1 + r1)) * sz)) * sz)) * z)) (by rw [w1]; omega) (by rw [hw]; omega) c4 t4
      refine ⟨o, g1, evSuc (evMono g2 fun k e => ?_)⟩
      simp only [spec_l03DrawLayer.j3]
      exact ite_yes h1 (bind_of e1 (bind_of e2 (bind_of e3 (bind_of e4 (bind_of (spec_SizeOf_eq _ _ _) (ite_yes hk e))))))
    · have m1 := mul_b (a := 1 + r1) (b := sizeOf x y z) (A := 3) (B := 512) (by omega) (by omega) hsb.1 hsb.2
      obtain ⟨o, g1, g2⟩ := spec_l03DrawLayer_j4 (b := b) (kd := kd) (sz := sz) (st := st) (mu := wrap64 (1073741824 + (wrap64 (r2 * 60)))) (sh := r3) (ze := wrap64 (r4 - 4)) (ou := wrap64 (1 + r1)) (m := wrap64 ((wrap64 (1 + r1)) * sizeOf x y z)) (by rw [w1]; omega) (by rw [w1, w64' (by omega) (by omega)]; omega) c4 t4
      refine ⟨o, g1, evSuc (evMono g2 fun k e => ?_)⟩
      simp only [spec_l03DrawLayer.j3]
      exact ite_yes h1 (bind_of e1 (bind_of e2 (bind_of e3 (bind_of e4 (bind_of (spec_SizeOf_eq _ _ _) (ite_no hk e))))))
  · by_cases h4 : kd = 4
    · obtain ⟨r1, i1, t1, e1, a1, b1, c1⟩ := spec_l01Below_ok hc h (n := 20) (by omega)
      exact ⟨(kd, ou, sz, st, mu, sh, wrap64 (r1 - 10), [], [], i1, t1), ⟨by simp, by simp, c1⟩, evSuc (evAll fun k => by
        simp only [spec_l03DrawLayer.j3]
        exact ite_no h1 (ite_yes h4 (bind_of e1 rfl)))⟩
    · exact ⟨(kd, ou, sz, st, mu, sh, ze, [], [], i, h), ⟨by simp, by simp, hc⟩, evSuc (evAll fun k => by
        simp only [spec_l03DrawLayer.j3]
        exact ite_no h1 (ite_no h4 rfl))⟩
theorem spec_l03DrawLayer_j2 {b : List Int} {v x y z kd ou sz st mu sh ze : Int} (hv : 1 ≤ v ∧ v ≤ 3) (hy : 1 ≤ y) (hz : 0 ≤ z ∧ z ≤ 3) {i : Int} (hc : Cu b i) (h : Int) : ∃ o, LayO b o ∧ Evp fun k => spec_l03DrawLayer.j2 k v b i h x y z kd ou sz st mu sh ze = some o := by
  by_cases q : y < v
  · obtain ⟨r1, i1, t1, e1, a1, b1, c1⟩ := spec_l01Below_ok hc h (n := y) hy
    obtain ⟨r2, i2, t2, e2, a2, b2, c2⟩ := spec_l01Below_ok c1 t1 (n := 2) (by omega)
    obtain ⟨o, g1, g2⟩ := spec_l03DrawLayer_j3 (b := b) (x := x) (y := y) (z := z) (kd := kd) (ou := ou) (sz := wrap64 (1 + r1)) (st := wrap64 (1 + r2)) (mu := mu) (sh := sh) (ze := ze) hz (by rw [w64' (by omega) (by omega)]; omega) c2 t2
    refine ⟨o, g1, evSuc (evMono g2 fun k e => ?_)⟩
    simp only [spec_l03DrawLayer.j2]
    exact ite_yes q (bind_of e1 (bind_of e2 e))
  · obtain ⟨r1, i1, t1, e1, a1, b1, c1⟩ := spec_l01Below_ok hc h (n := v) hv.1
    obtain ⟨r2, i2, t2, e2, a2, b2, c2⟩ := spec_l01Below_ok c1 t1 (n := 2) (by omega)
    obtain ⟨o, g1, g2⟩ := spec_l03DrawLayer_j3 (b := b) (x := x) (y := y) (z := z) (kd := kd) (ou := ou) (sz := wrap64 (1 + r1)) (st := wrap64 (1 + r2)) (mu := mu) (sh := sh) (ze := ze) hz (by rw [w64' (by omega) (by omega)]; omega) c2 t2
    refine ⟨o, g1, evSuc (evMono g2 fun k e => ?_)⟩
    simp only [spec_l03DrawLayer.j2]
    exact ite_no q (bind_of e1 (bind_of e2 e))
theorem spec_l03DrawLayer_j1 {b : List Int} {x y z kd : Int} (hx : 1 ≤ x) (hy : 1 ≤ y) (hz : 0 ≤ z ∧ z ≤ 3) {i : Int} (hc : Cu b i) (h : Int) : ∃ o, LayO b o ∧ Evp fun k => spec_l03DrawLayer.j1 k b i h x y z kd 0 0 0 0 0 0 = some o := by
  by_cases q : 1 ≤ kd ∧ kd ≤ 3
  · by_cases q3 : x < 3
    · obtain ⟨o, g1, g2⟩ := spec_l03DrawLayer_j2 (b := b) (v := x) (x := x) (y := y) (z := z) (kd := kd) (ou := 0) (sz := 0) (st := 0) (mu := 0) (sh := 0) (ze := 0) (by omega) hy hz hc h
      refine ⟨o, g1, evSuc (evMono g2 fun k e => ?_)⟩
      simp only [spec_l03DrawLayer.j1]
      exact bind_of (spec_l01In_eq _ _ _) (ite_yes (decide_eq_true q) (ite_yes q3 e))
    · obtain ⟨o, g1, g2⟩ := spec_l03DrawLayer_j2 (b := b) (v := 3) (x := x) (y := y) (z := z) (kd := kd) (ou := 0) (sz := 0) (st := 0) (mu := 0) (sh := 0) (ze := 0) (by omega) hy hz hc h
      refine ⟨o, g1, evSuc (evMono g2 fun k e => ?_)⟩
      simp only [spec_l03DrawLayer.j1]
      exact bind_of (spec_l01In_eq _ _ _) (ite_yes (decide_eq_true q) (ite_no q3 e))
  · obtain ⟨o, g1, g2⟩ := spec_l03DrawLayer_j3 (b := b) (x := x) (y := y) (z := z) (kd := kd) (ou := 0) (sz := 0) (st := 0) (mu := 0) (sh := 0) (ze := 0) hz (by omega) hc h
    refine ⟨o, g1, evSuc (evMono g2 fun k e => ?_)⟩
    simp only [spec_l03DrawLayer.j1]
    exact bind_of (spec_l01In_eq _ _ _) (ite_no (fun z => q (of_decide_eq_true z)) e)
theorem spec_l03DrawLayer_j0 {b : List Int} {x y z kd : Int} (B : Bool) (hx : 1 ≤ x) (hy : 1 ≤ y) (hz : 0 ≤ z ∧ z ≤ 3) {i : Int} (hc : Cu b i) (h : Int) : ∃ o, LayO b o ∧ Evp fun k => spec_l03DrawLayer.j0 k B b i h x y z kd 0 0 0 0 0 0 = some o := by
  by_cases q : B = true
  · obtain ⟨o, g1, g2⟩ := spec_l03DrawLayer_j1 (b := b) (x := x) (y := y) (z := z) (kd := 4) hx hy hz hc h
    refine ⟨o, g1, evSuc (evMono g2 fun k e => ?_)⟩
    simp only [spec_l03DrawLayer.j0]
    exact ite_yes q e
  · obtain ⟨o, g1, g2⟩ := spec_l03DrawLayer_j1 (b := b) (x := x) (y := y) (z := z) (kd := kd) hx hy hz hc h
    refine ⟨o, g1, evSuc (evMono g2 fun k e => ?_)⟩
    simp only [spec_l03DrawLayer.j0]
    exact ite_no q e
theorem spec_l03DrawLayer_ok {b : List Int} {x y z : Int} (hx : 1 ≤ x) (hy : 1 ≤ y) (hz : 0 ≤ z ∧ z ≤ 3) {i : Int} (hc : Cu b i) (h : Int) : ∃ o, LayO b o ∧ Evp fun k => spec_l03DrawLayer.f k b i h x y z = some o := by
  obtain ⟨r, i1, t1, e1, m1, c1⟩ := spec_l01PickInt_ok hc h ([0, 1, 1, 2, 3, 4, 5] : List Int) (by simp)
  by_cases q5 : r = 5
  · by_cases q8 : sizeOf x y z > 8
    · obtain ⟨o, g1, g2⟩ := spec_l03DrawLayer_j0 (kd := r) true hx hy hz c1 t1
      exact ⟨o, g1, evMono g2 fun k e => bind_of e1 (ite_yes q5 (bind_of (spec_SizeOf_eq _ _ _) (ite_yes q8 e)))⟩
    · obtain ⟨o, g1, g2⟩ := spec_l03DrawLayer_j0 (kd := r) false hx hy hz c1 t1
      exact ⟨o, g1, evMono g2 fun k e => bind_of e1 (ite_yes q5 (bind_of (spec_SizeOf_eq _ _ _) (ite_no q8 (ite_no (by omega) e))))⟩
  · by_cases q0 : r = 0
    · obtain ⟨o, g1, g2⟩ := spec_l03DrawLayer_j0 (kd := r) (decide (sizeOf x y z > 64)) hx hy hz c1 t1
      exact ⟨o, g1, evMono g2 fun k e => bind_of e1 (ite_no q5 (ite_yes q0 (bind_of (spec_SizeOf_eq _ _ _) e)))⟩
    · obtain ⟨o, g1, g2⟩ := spec_l03DrawLayer_j0 (kd := r) false hx hy hz c1 t1
      exact ⟨o, g1, evMono g2 fun k e => bind_of e1 (ite_no q5 (ite_no q0 e))⟩


theorem bend_j0 (b : List Int) (i h a0 a1 a2 a3 a4 a5 a6 : Int) (W B : List Int) : Evp fun k => spec_l03Bend.j0 k b i h a0 a1 a2 a3 a4 a5 a6 W B = some (a0, a1, a2, a3, a4, a5, a6, W, B, i, h) := evSuc (evAll fun k => by simp only [spec_l03Bend.j0])
theorem spec_l03Bend_ok {b : List Int} {i : Int} (hc : Cu b i) (h a0 a1 a2 a3 a4 a5 a6 : Int) (W B : List Int) (hW : W.length ≤ 2000) (hB : B.length ≤ 2000) : ∃ o : Int × Int × Int × Int × Int × Int × Int × List Int × List Int × Int × Int, (o.2.2.2.2.2.2.2.1.length ≤ 2001 ∧ o.2.2.2.2.2.2.2.2.1.length ≤ 2001 ∧ Cu b o.2.2.2.2.2.2.2.2.2.1) ∧ Evp fun k => spec_l03Bend.f k b i h a0 a1 a2 a3 a4 a5 a6 W B = some o := by
  obtain ⟨r, i1, t1, e1, a, b1, c1⟩ := spec_l01Below_ok hc h (n := 9) (by omega)
  have hW' : W.length ≤ 2001 := by omega
  have hB' : B.length ≤ 2001 := by omega
  by_cases q0 : r = 0
  · obtain ⟨v, i2, t2, e2, _, c2⟩ := spec_l01PickInt_ok c1 t1 ([(-1), 0, 2, 5, 6] : List Int) (by simp)
    exact ⟨_, ⟨hW', hB', c2⟩, evMono (bend_j0 b i2 t2 v a1 a2 a3 a4 a5 a6 W B) fun k g => bind_of e1 (ite_yes q0 (bind_of e2 g))⟩
  by_cases q1 : r = 1
  · obtain ⟨v, i2, t2, e2, _, c2⟩ := spec_l01PickInt_ok c1 t1 ([0, 8, 9] : List Int) (by simp)
    exact ⟨_, ⟨hW', hB', c2⟩, evMono (bend_j0 b i2 t2 a0 v a2 a3 a4 a5 a6 W B) fun k g => bind_of e1 (ite_no q0 (ite_yes q1 (bind_of e2 g)))⟩
  by_cases q2 : r = 2
  · obtain ⟨v, i2, t2, e2, _, c2⟩ := spec_l01PickInt_ok c1 t1 ([0, 3, 4] : List Int) (by simp)
    exact ⟨_, ⟨hW', hB', c2⟩, evMono (bend_j0 b i2 t2 a0 a1 v a3 a4 a5 a6 W B) fun k g => bind_of e1 (ite_no q0 (ite_no q1 (ite_yes q2 (bind_of e2 g))))⟩
  by_cases q3 : r = 3
  · obtain ⟨v, i2, t2, e2, _, c2⟩ := spec_l01PickInt_ok c1 t1 ([0, 2, 3] : List Int) (by simp)
    exact ⟨_, ⟨hW', hB', c2⟩, evMono (bend_j0 b i2 t2 a0 a1 a2 v a4 a5 a6 W B) fun k g => bind_of e1 (ite_no q0 (ite_no q1 (ite_no q2 (ite_yes q3 (bind_of e2 g)))))⟩
  by_cases q4 : r = 4
  · obtain ⟨v, i2, t2, e2, _, c2⟩ := spec_l01PickInt_ok c1 t1 ([(-1), 2147483647, 2147483648] : List Int) (by simp)
    exact ⟨_, ⟨hW', hB', c2⟩, evMono (bend_j0 b i2 t2 a0 a1 a2 a3 v a5 a6 W B) fun k g => bind_of e1 (ite_no q0 (ite_no q1 (ite_no q2 (ite_no q3 (ite_yes q4 (bind_of e2 g))))))⟩
  by_cases q5 : r = 5
  · obtain ⟨v, i2, t2, e2, _, c2⟩ := spec_l01PickInt_ok c1 t1 ([(-1), 31, 32] : List Int) (by simp)
    exact ⟨_, ⟨hW', hB', c2⟩, evMono (bend_j0 b i2 t2 a0 a1 a2 a3 a4 v a6 W B) fun k g => bind_of e1 (ite_no q0 (ite_no q1 (ite_no q2 (ite_no q3 (ite_no q4 (ite_yes q5 (bind_of e2 g)))))))⟩
  by_cases q6 : r = 6
  · obtain ⟨v, i2, t2, e2, _, c2⟩ := spec_l01PickInt_ok c1 t1 ([(-128), (-129), 127, 128] : List Int) (by simp)
    exact ⟨_, ⟨hW', hB', c2⟩, evMono (bend_j0 b i2 t2 a0 a1 a2 a3 a4 a5 v W B) fun k g => bind_of e1 (ite_no q0 (ite_no q1 (ite_no q2 (ite_no q3 (ite_no q4 (ite_no q5 (ite_yes q6 (bind_of e2 g))))))))⟩
  by_cases q7 : r = 7
  · obtain ⟨v, i2, t2, e2, _, c2⟩ := spec_l01PickInt_ok c1 t1 ([0, 128] : List Int) (by simp)
    exact ⟨_, ⟨by show (W ++ [v]).length ≤ 2001; simp; omega, hB', c2⟩, evMono (bend_j0 b i2 t2 a0 a1 a2 a3 a4 a5 a6 (W ++ [v]) B) fun k g => bind_of e1 (ite_no q0 (ite_no q1 (ite_no q2 (ite_no q3 (ite_no q4 (ite_no q5 (ite_no q6 (ite_yes q7 (bind_of e2 (ite_yes (by omega) g))))))))))⟩
  · have q8 : r = 8 := by omega
    obtain ⟨v, i2, t2, e2, _, c2⟩ := spec_l01PickInt_ok c1 t1 ([0, 1000001] : List Int) (by simp)
    exact ⟨_, ⟨hW', by show (B ++ [v]).length ≤ 2001; simp; omega, c2⟩, evMono (bend_j0 b i2 t2 a0 a1 a2 a3 a4 a5 a6 W (B ++ [v])) fun k g => bind_of e1 (ite_no q0 (ite_no q1 (ite_no q2 (ite_no q3 (ite_no q4 (ite_no q5 (ite_no q6 (ite_no q7 (ite_yes q8 (bind_of e2 (ite_yes (by omega) g)))))))))))⟩


def DrawO (b : List Int) (o : Int × Int × Int × Int × Int × Int × Int × Int × Int × Int × List Int × List Int × List Int × Int × Int) : Prop := o.2.2.2.2.2.2.2.2.2.2.1.length ≤ 2001 ∧ o.2.2.2.2.2.2.2.2.2.2.2.1.length ≤ 2001 ∧ o.2.2.2.2.2.2.2.2.2.2.2.2.1 = b ∧ Cu b o.2.2.2.2.2.2.2.2.2.2.2.2.2.1
theorem spec_l03Draw_j0 {b : List Int} {x y z : Int} (hx : 1 ≤ x) (hy : 1 ≤ y) (hz : 0 ≤ z ∧ z ≤ 3) {i : Int} (hc : Cu b i) (h : Int) : ∃ o, DrawO b o ∧ Evp fun k => spec_l03Draw.j0 k b i h x y z = some o := by
  obtain ⟨⟨a0, a1, a2, a3, a4, a5, a6, W, B, i1, t1⟩, ⟨hW, hB, c1⟩, e1⟩ := spec_l03DrawLayer_ok hx hy hz hc h
  obtain ⟨r, i2, t2, e2, c2⟩ := spec_l01Once_ok c1 t1 (n := 8) (by omega)
  by_cases q : r = true
  · obtain ⟨⟨b0, b1, b2, b3, b4, b5, b6, W', B', i3, t3⟩, ⟨hW', hB', c3⟩, e3⟩ := spec_l03Bend_ok c2 t2 a0 a1 a2 a3 a4 a5 a6 W B hW hB
    refine ⟨(x, y, z, b0, b1, b2, b3, b4, b5, b6, W', B', b, i3, t3), ⟨hW', hB', rfl, c3⟩, evSuc (evMono (evAnd e1 e3) fun k ⟨e, e3⟩ => ?_)⟩
    · simp only [spec_l03Draw.j0]
      exact bind_of e (bind_of e2 (ite_yes q (bind_of e3 rfl)))
  · have hW0 : W.length ≤ 2000 := hW
    have hB0 : B.length ≤ 2000 := hB
    refine ⟨(x, y, z, a0, a1, a2, a3, a4, a5, a6, W, B, b, i2, t2), ⟨show W.length ≤ 2001 by omega, show B.length ≤ 2001 by omega, rfl, c2⟩, evSuc (evMono e1 fun k e => ?_)⟩
    · simp only [spec_l03Draw.j0]
      exact bind_of e (bind_of e2 (ite_no q rfl))
theorem spec_l03Draw_ok (b : List Int) (hb : b.length ≤ 1099511627776) : ∃ o, DrawO b o ∧ Evp fun k => spec_l03Draw.f k b = some o := by
  obtain ⟨h0, e0⟩ := spec_l01New_ok b hb
  obtain ⟨x, y, z, i1, t1, e1, x1, y1, z1, c1⟩ := spec_l02DrawShape_ok (Cu.zero hb) h0
  obtain ⟨r, i2, t2, e2, c2⟩ := spec_l01Once_ok c1 t1 (n := 25) (by omega)
  by_cases q : r = true
  · obtain ⟨v, i3, t3, e3, m3, c3⟩ := spec_l01PickInt_ok c2 t2 ([1, 2] : List Int) (by simp)
    simp only [List.mem_cons, List.not_mem_nil, or_false] at m3
    obtain ⟨o, g1, g2⟩ := spec_l03Draw_j0 (b := b) (x := 8) (y := 8) (z := v) (by omega) (by omega) (by omega) c3 t3
    exact ⟨o, g1, evMono (evAnd e0 g2) fun k ⟨e, g⟩ => bind_of e (bind_of e1 (bind_of e2 (ite_yes q (bind_of e3 g))))⟩
  · obtain ⟨o, g1, g2⟩ := spec_l03Draw_j0 (b := b) (x := x) (y := y) (z := z) (by omega) (by omega) (by omega) c2 t2
    exact ⟨o, g1, evMono (evAnd e0 g2) fun k ⟨e, g⟩ => bind_of e (bind_of e1 (bind_of e2 (ite_no q g)))⟩


theorem spec_DrawRunLayer_ok (b : List Int) (hb : b.length ≤ 1099511627776) : ∃ x y z D a0 a1 a2 a3 a4 a5 a6 W B, D.length ≤ 1000 ∧ W.length ≤ 2001 ∧ B.length ≤ 2001 ∧ Evp fun k => spec_DrawRunLayer.f k b = some (x, y, z, D, a0, a1, a2, a3, a4, a5, a6, W, B) := by
  obtain ⟨⟨x, y, z, a0, a1, a2, a3, a4, a5, a6, W, B, b', i1, t1⟩, ⟨hW, hB, eb, c1⟩, e1⟩ := spec_l03Draw_ok b hb
  obtain rfl : b' = b := eb
  obtain ⟨D, i2, t2, l2, v2, c2, e2⟩ := spec_l02DrawTensor_ok c1 t1 x y z
  obtain ⟨r, i3, t3, e3, c3⟩ := spec_l01Once_ok c2 t2 (n := 20) (by omega)
  have hsz := sizeOf_b x y z
  by_cases q : r = true
  · obtain ⟨x', y', z', D', i4, t4, l4, c4, e4⟩ := spec_l02DrawLoose_ok c3 t3
    exact ⟨_, _, _, _, _, _, _, _, _, _, _, _, _, l4, hW, hB, evMono (evAnd e1 (evAnd e2 e4)) fun k ⟨e1, e2, e4⟩ => bind_of e1 (bind_of e2 (bind_of e3 (ite_yes q (bind_of e4 rfl))))⟩
  · exact ⟨_, _, _, _, _, _, _, _, _, _, _, _, _, by show D.length ≤ 1000; omega, hW, hB, evMono (evAnd e1 e2) fun k ⟨e1, e2⟩ => bind_of e1 (bind_of e2 (bind_of e3 (ite_no q rfl)))⟩


theorem addSat_id {s t : Int} (h0 : -2147483648 ≤ s ∧ s ≤ 2147483647) (h1 : -2147483648 ≤ t ∧ t ≤ 2147483647) (h2 : -2147483648 ≤ s + t ∧ s + t ≤ 2147483647) : addSat s t = s + t := by
  unfold addSat sat32
  omega
theorem sat8_i {x : Int} (h : -128 ≤ x ∧ x ≤ 127) : sat8 x = x := by unfold sat8; omega
theorem dotGo_zero : ∀ (d : List Int) (s : Int), -2147483648 ≤ s ∧ s ≤ 2147483647 → dotGo d (List.replicate d.length 0) s = s
  | [], s, _ => rfl
  | a :: d, s, hs => by
    rw [List.length_cons, List.replicate_succ, dotGo, show sat8 0 = 0 from rfl, Int.mul_zero, addSat_id hs (by omega) (by omega), Int.add_zero]
    exact dotGo_zero d s hs
theorem dotGo_unit : ∀ (d : List Int) (k : Nat) (hk : k < d.length), (∀ x ∈ d, -128 ≤ x ∧ x ≤ 127) → dotGo d ((List.replicate d.length 0).set k 1) 0 = d[k]
  | a :: d, 0, hk, hd => by
    have ha := hd a (by simp)
    rw [List.length_cons, List.replicate_succ, List.set_cons_zero, dotGo, show sat8 1 = 1 from rfl, sat8_i ha, Int.mul_one, addSat_id (by omega) (by omega) (by omega), Int.zero_add]
    exact dotGo_zero d a (by omega)
  | a :: d, k + 1, hk, hd => by
    rw [List.length_cons, List.replicate_succ, List.set_cons_succ, dotGo, show sat8 0 = 0 from rfl, Int.mul_zero, addSat_id (by omega) (by omega) (by omega), Int.add_zero]
    exact dotGo_unit d k (by simpa using hk) (fun x hx => hd x (List.mem_cons_of_mem _ hx))
theorem tdiv_two (x : Int) : Int.tdiv x 2 = if 0 ≤ x then x / 2 else -((-x) / 2) := by
  split
  · exact tdiv_pos (by omega)
  · rename_i h
    rw [← tdiv_pos (a := -x) (b := 2) (by omega), Int.neg_tdiv, Int.neg_neg]
theorem requant_half {x : Int} (h : -128 ≤ x ∧ x ≤ 127) : requant x 1073741824 0 0 = (x + 1) / 2 := by
  have e1 : mulHigh x 1073741824 = (x + 1) / 2 := by
    unfold mulHigh
    rw [show sat32 x = x by unfold sat32; omega, show sat32 1073741824 = 1073741824 from rfl, show (x * 1073741824 + 1073741824) / 2147483648 = (x + 1) / 2 by omega]
    unfold sat32
    omega
  have e2 : roundShift ((x + 1) / 2) 0 = (x + 1) / 2 := by
    unfold roundShift rnd
    rw [show sat32 ((x + 1) / 2) = (x + 1) / 2 by unfold sat32; omega, show pow31 0 = 1 from rfl]
    split <;> omega
  unfold requant
  rw [e1, e2, show sat8 0 = 0 from rfl, Int.add_zero]
  exact sat8_i (by omega)
theorem impl_RunLayer_one {h w c : Int} {d : List Int} (ht : tensorOk h w c d = true) (hl : d.length ≤ 64) {m : Nat} (hm : m < d.length) : Evp fun k => impl_RunLayer.f k h w c d 0 1 0 0 1073741824 0 0 ((List.replicate d.length 0).set m 1) [0] = some (1, 1, 1, [(d[m] + 1) / 2], true) := by
  obtain ⟨hs, hn, hv⟩ := tensorOk_iff.1 ht
  have hx := hv d[m] (List.getElem_mem hm)
  have hWl : ((List.replicate d.length (0 : Int)).set m 1).length = d.length := by rw [List.length_set, List.length_replicate]
  have i1 := impl_TensorOk_ev h w c d (by omega)
  have i2 := impl_OutShape_ev h w c 0 1 0 0 1073741824 0 0 ((List.replicate d.length 0).set m 1) [0] (by rw [hWl]; omega) (by simp)
  rw [ht] at i1
  have hi : itemsB ((List.replicate d.length (0 : Int)).set m 1) = true := by
    rw [itemsB_iff]
    intro y hy
    rcases List.mem_or_eq_of_mem_set hy with g | g
    · have := List.eq_of_mem_replicate g
      omega
    · omega
  have ho : outShape h w c 0 1 0 0 1073741824 0 0 ((List.replicate d.length 0).set m 1) [0] = (1, 1, 1, true) := by
    unfold outShape
    rw [if_pos hs, if_pos rfl, if_pos ⟨by omega, rfl, scaledB_iff.2 ⟨by omega, by omega, by omega, by omega, by rw [hWl, hn, Int.one_mul], hi, rfl, rfl⟩⟩]
  rw [ho] at i2
  have it : Evp fun k => impl_Layer_item.f k 0 1 0 0 1073741824 0 0 ((List.replicate d.length 0).set m 1) [0] h w c d ((0 : Nat) : Int) ((0 : Nat) : Int) ((0 : Nat) : Int) = some ((d[m] + 1) / 2) := by
    have g := impl_scaled_ev (kd := 0) (ou := 1) (sz := 0) (st := 0) (mu := 1073741824) (sh := 0) (ze := 0) (W := (List.replicate d.length 0).set m 1) (B := [0]) (l := d) (o := 0) (by omega) (by omega) (by rw [hWl]; omega) (by simp)
    have e : requant (addSat (dotOf d (part ((List.replicate d.length 0).set m 1) (0 * d.length) d.length)) ([0] : List Int)[0]) 1073741824 0 0 = (d[m] + 1) / 2 := by
      rw [Nat.zero_mul, show part ((List.replicate d.length (0 : Int)).set m 1) 0 d.length = (List.replicate d.length 0).set m 1 by unfold part; rw [List.drop_zero]; exact List.take_of_length_le (by omega), show dotOf d ((List.replicate d.length 0).set m 1) = d[m] from dotGo_unit d m hm hv, show ([0] : List Int)[0] = 0 from rfl, addSat_id (by omega) (by omega) (by omega), Int.add_zero]
      exact requant_half hx
    rw [e] at g
    exact evMono g fun k e => ite_yes rfl (bind_of e rfl)
  have i3 := impl_run_l0 (h := h) (w := w) (c := c) (kd := 0) (ou := 1) (sz := 0) (st := 0) (mu := 1073741824) (sh := 0) (ze := 0) (d := d) (W := (List.replicate d.length 0).set m 1) (B := [0]) (H := 1) (Wd := 1) (C := 1) (V := fun _ _ _ => (d[m] + 1) / 2) (by omega) (by omega) (by omega) (fun p q o a b e => by
    obtain rfl : p = 0 := by omega
    obtain rfl : q = 0 := by omega
    obtain rfl : o = 0 := by omega
    exact it) 1 0 [] (by omega) (by simp)
  exact evMono (evAnd i2 (evAnd i1 (evSuc (p := fun k => impl_RunLayer.j0 k false h w c d 0 1 0 0 1073741824 0 0 ((List.replicate d.length 0).set m 1) [0] 1 1 1 = some (1, 1, 1, [(d[m] + 1) / 2], true)) (evMono i3 fun k e => by
    simp only [impl_RunLayer.j0]
    exact ite_no Bool.false_ne_true e)))) fun k ⟨a, b, e⟩ => bind_of a (ite_yes rfl (bind_of b e))

theorem FnOneWeight (l : List Int) (hg : l.length ≤ maxLen ∧ ∀ x ∈ l, (Lit.int .u8 x).wf = true) : ∃ k, laws_FnOneWeight.f k l = some true := by
  by_cases hbig : (l.length : Int) > 1048576
  · exact ⟨0, bind_of (a := true) (by unfold laws_big.f; rw [decide_eq_true hbig]) (ite_yes rfl rfl)⟩
  have hb : laws_big.f l = some false := by unfold laws_big.f; rw [decide_eq_false hbig]
  have hbytes : isBytes l := fun x hx => u8_of (hg.2 x hx)
  obtain ⟨x, y, z, D, a0, a1, a2, a3, a4, a5, a6, W, B, hD, hW, hB, e1⟩ := spec_DrawRunLayer_ok l (by omega)
  have e2 := spec_TensorOk_ev x y z D (by omega)
  have jt : Evp fun k => laws_FnOneWeight.j0 k l true x y z D = some true := evSuc (evAll fun k => by
    simp only [laws_FnOneWeight.j0]
    exact ite_yes trivial rfl)
  by_cases ht : tensorOk x y z D = true
  · by_cases h64 : (D.length : Int) > 64
    · refine evEx (evMono (evAnd e1 (evAnd e2 jt)) fun k ⟨e1, e2, e3⟩ => bind_of hb (ite_no Bool.false_ne_true (bind_of e1 (bind_of e2 (ite_yes ht ?_)))))
      rw [decide_eq_true h64]
      exact e3
    · obtain ⟨t, et, t0, t1⟩ := laws_at_ok l hbytes (by omega) 0 (by omega)
      have hl := tensorOk_len ht
      obtain ⟨hs, hn, hv⟩ := tensorOk_iff.1 ht
      have ht0 : 0 ≤ Int.tmod t (D.length : Int) ∧ Int.tmod t (D.length : Int) < (D.length : Int) := by
        rw [tmod_pos t0]
        exact ⟨Int.emod_nonneg _ (by omega), Int.emod_lt_of_pos _ (by omega)⟩
      obtain ⟨m, hm⟩ := nat_of ht0.1
      have hml : m < D.length := by omega
      have hx := hv D[m] (List.getElem_mem hml)
      have e4 := impl_RunLayer_one ht (by omega) hml
      have j2 : Evp fun k => laws_FnOneWeight.j2 k true = some true := evSuc (evAll fun k => by simp only [laws_FnOneWeight.j2])
      have j3 : Evp fun k => laws_FnOneWeight.j3 k true = some true := evSuc (evAll fun k => by simp only [laws_FnOneWeight.j3])
      have j1 : ∀ v : Int, (D[m] + 1) / 2 = v → Evp fun k => laws_FnOneWeight.j1 k true v 1 1 1 [(D[m] + 1) / 2] = some true := fun v hv => evSuc (evMono j2 fun k e => by
        simp only [laws_FnOneWeight.j1]
        refine ite_yes trivial (ite_yes rfl (ite_yes (show (0 : Int) < 1 by decide) ?_))
        rw [show (rd [(D[m] + 1) / 2] 0 == v) = true from beq_iff_eq.2 hv]
        exact e)
      have h2 := tdiv_two D[m]
      have hw : wrap64 (Int.tdiv D[m] 2) = Int.tdiv D[m] 2 := w64' (by omega) (by omega)
      have hw2 : wrap64 (Int.tdiv D[m] 2 + 1) = Int.tdiv D[m] 2 + 1 := w64' (by omega) (by omega)
      have jA : (D[m] + 1) / 2 = Int.tdiv D[m] 2 + 1 ∨ (D[m] + 1) / 2 = Int.tdiv D[m] 2 := by omega
      have jf : Evp fun k => laws_FnOneWeight.j0 k l false x y z D = some true := by
       by_cases c1 : D[m] > 0
       · have h3 : Int.tmod D[m] 2 = D[m] % 2 := tmod_pos (by omega)
         by_cases c2 : Int.tmod D[m] 2 = 1
         · refine evSuc (evMono (evAnd e4 (j1 (Int.tdiv D[m] 2 + 1) (by omega))) fun k ⟨e, g⟩ => ?_)
           simp only [laws_FnOneWeight.j0]
           refine ite_no Bool.false_ne_true (bind_of et (ite_no (by omega) (ite_yes (by omega) (ite_yes (by omega) (bind_of (a := List.replicate D.length 0) rfl ?_)))))
           rw [hm, Int.toNat_natCast]
           refine ite_yes (by omega) (ite_yes (by rw [List.length_replicate]; omega) (bind_of e (ite_yes (by omega) ?_)))
           rw [rd_eq hml, hw, hw2]
           exact ite_yes c1 (ite_yes c2 g)
         · refine evSuc (evMono (evAnd e4 (j1 (Int.tdiv D[m] 2) (by omega))) fun k ⟨e, g⟩ => ?_)
           simp only [laws_FnOneWeight.j0]
           refine ite_no Bool.false_ne_true (bind_of et (ite_no (by omega) (ite_yes (by omega) (ite_yes (by omega) (bind_of (a := List.replicate D.length 0) rfl ?_)))))
           rw [hm, Int.toNat_natCast]
           refine ite_yes (by omega) (ite_yes (by rw [List.length_replicate]; omega) (bind_of e (ite_yes (by omega) ?_)))
           rw [rd_eq hml, hw, hw2]
           exact ite_yes c1 (ite_no c2 g)
       · refine evSuc (evMono (evAnd e4 j3) fun k ⟨e, g⟩ => ?_)
         simp only [laws_FnOneWeight.j0]
         refine ite_no Bool.false_ne_true (bind_of et (ite_no (by omega) (ite_yes (by omega) (ite_yes (by omega) (bind_of (a := List.replicate D.length 0) rfl ?_)))))
         rw [hm, Int.toNat_natCast]
         refine ite_yes (by omega) (ite_yes (by rw [List.length_replicate]; omega) (bind_of e (ite_yes (by omega) ?_)))
         rw [rd_eq hml, hw]
         refine ite_no c1 (ite_yes rfl (ite_yes rfl (ite_yes (show (0 : Int) < 1 by decide) ?_)))
         rw [show (rd [(D[m] + 1) / 2] 0 == Int.tdiv D[m] 2) = true from beq_iff_eq.2 (show (D[m] + 1) / 2 = Int.tdiv D[m] 2 by omega)]
         exact g
      refine evEx (evMono (evAnd e1 (evAnd e2 jf)) fun k ⟨e1, e2, e3⟩ => bind_of hb (ite_no Bool.false_ne_true (bind_of e1 (bind_of e2 (ite_yes ht ?_)))))
      rw [decide_eq_false h64]
      exact e3
  · exact evEx (evMono (evAnd e1 (evAnd e2 jt)) fun k ⟨e1, e2, e3⟩ => bind_of hb (ite_no Bool.false_ne_true (bind_of e1 (bind_of e2 (ite_no ht e3)))))

end Go.Proofs.Ytjmejobelkllmaa.Pure
