/- For every code of bytes that the law lets in: DecodeModel of EncodeModel of the drawn model is the model and its head tells its shape and its number of layers; cut anywhere it is not read; with a byte more it is told as long or as of a wrong sum; a model that is not encoded has the sum -1 (the law FnStored answers true). -/
import Derived.Test.YtjmejobelkllmaaPFnStoredx0
import Derived.Test.YtjmejobelkllmaaPFnStoredx1
import Derived.Test.YtjmejobelkllmaaPFnStoredx10
import Derived.Test.YtjmejobelkllmaaPFnStoredx11
import Derived.Test.YtjmejobelkllmaaPFnStoredx12
import Derived.Test.YtjmejobelkllmaaPFnStoredx13
import Derived.Test.YtjmejobelkllmaaPFnStoredx14
import Derived.Test.YtjmejobelkllmaaPFnStoredx15
import Derived.Test.YtjmejobelkllmaaPFnStoredx16
import Derived.Test.YtjmejobelkllmaaPFnStoredx17
import Derived.Test.YtjmejobelkllmaaPFnStoredx18
import Derived.Test.YtjmejobelkllmaaPFnStoredx19
import Derived.Test.YtjmejobelkllmaaPFnStoredx2
import Derived.Test.YtjmejobelkllmaaPFnStoredx20
import Derived.Test.YtjmejobelkllmaaPFnStoredx21
import Derived.Test.YtjmejobelkllmaaPFnStoredx22
import Derived.Test.YtjmejobelkllmaaPFnStoredx23
import Derived.Test.YtjmejobelkllmaaPFnStoredx3
import Derived.Test.YtjmejobelkllmaaPFnStoredx4
import Derived.Test.YtjmejobelkllmaaPFnStoredx5
import Derived.Test.YtjmejobelkllmaaPFnStoredx6
import Derived.Test.YtjmejobelkllmaaPFnStoredx7
import Derived.Test.YtjmejobelkllmaaPFnStoredx8
import Derived.Test.YtjmejobelkllmaaPFnStoredx9
namespace Go.Proofs.Ytjmejobelkllmaa.Pure
open Go.RowKit Go.Proofs.Ytjmejobelkllmaa.PFnStored Go.Proofs.YtjmejobelkllmaaW.PrintWords Go.Proofs.YtjmejobelkllmaaW.PrintLast Go.Proofs.YtjmejobelkllmaaW.PrintMore
set_option linter.unusedVariables false
set_option linter.unusedSimpArgs false

/-! #### rounds -/
def Evp (p : Nat → Prop) : Prop := ∃ K, ∀ k, K ≤ k → p k
theorem evAnd {p q : Nat → Prop} (h : Evp p) (g : Evp q) : Evp (fun k => p k ∧ q k) := by
  obtain ⟨K, hK⟩ := h
  obtain ⟨L, hL⟩ := g
  exact ⟨max K L, fun k hk => ⟨hK k (by omega), hL k (by omega)⟩⟩
theorem evMono {p q : Nat → Prop} (h : Evp p) (g : ∀ k, p k → q k) : Evp q := by
  obtain ⟨K, hK⟩ := h
  exact ⟨K, fun k hk => g k (hK k hk)⟩
theorem evSuc {p : Nat → Prop} (h : Evp fun k => p (k + 1)) : Evp p := by
  obtain ⟨K, hK⟩ := h
  refine ⟨K + 1, fun k hk => ?_⟩
  obtain ⟨m, rfl⟩ : ∃ m, k = m + 1 := ⟨k - 1, by omega⟩
  exact hK m (by omega)
theorem evAll {p : Nat → Prop} (h : ∀ k, p k) : Evp p := ⟨0, fun k _ => h k⟩
theorem evEx {p : Nat → Prop} (h : Evp p) : ∃ k, p k := by
  obtain ⟨K, hK⟩ := h
  exact ⟨K, hK K (Nat.le_refl _)⟩
/-- One step of a chain. -/
theorem bind_of {α β : Type} {o : Option α} {f : α → Option β} {a : α} {r : Option β} (h : o = some a) (hf : f a = r) : o.bind f = r := by rw [h]; exact hf
theorem ite_yes {α : Type} {c : Prop} [Decidable c] {x y r : α} (h : c) (hx : x = r) : (if c then x else y) = r := by rw [if_pos h]; exact hx
theorem ite_no {α : Type} {c : Prop} [Decidable c] {x y r : α} (h : ¬ c) (hy : y = r) : (if c then x else y) = r := by rw [if_neg h]; exact hy

/-! #### whole numbers -/
def i64 (x : Int) : Prop := -9223372036854775808 ≤ x ∧ x ≤ 9223372036854775807
theorem w64 {x : Int} (h : i64 x) : wrap64 x = x := by
  unfold i64 at h
  unfold wrap64
  omega
theorem w64' {x : Int} (h0 : -9223372036854775808 ≤ x) (h1 : x ≤ 9223372036854775807) : wrap64 x = x := w64 ⟨h0, h1⟩
theorem u8_of {x : Int} (h : (Lit.int .u8 x).wf = true) : 0 ≤ x ∧ x ≤ 255 := by
  simp only [Lit.wf, IntKind.min, IntKind.max, IntKind.signed, IntKind.bits, Bool.and_eq_true, decide_eq_true_eq] at h
  simp at h
  omega
theorem tdiv_pos {a b : Int} (h : 0 ≤ a) : Int.tdiv a b = a / b := Int.tdiv_eq_ediv_of_nonneg h
theorem tmod_pos {a b : Int} (h : 0 ≤ a) : Int.tmod a b = a % b := Int.tmod_eq_emod_of_nonneg h
theorem bnd_mul {a b A B : Int} (ha : -A ≤ a) (ha' : a ≤ A) (hb : -B ≤ b) (hb' : b ≤ B) : -(A * B) ≤ a * b ∧ a * b ≤ A * B := by
  have hA : 0 ≤ A := by omega
  have hB : 0 ≤ B := by omega
  have h1 : (a * b).natAbs ≤ (A * B).natAbs := by
    rw [Int.natAbs_mul, Int.natAbs_mul]
    exact Nat.mul_le_mul (by omega) (by omega)
  have h2 : 0 ≤ A * B := Int.mul_nonneg hA hB
  omega

/-! #### lists -/
theorem rd_eq {l : List Int} {i : Nat} (h : i < l.length) : rd l (i : Int) = l[i] := by
  unfold rd
  simp [List.getD, h]
theorem nat_of {i : Int} (h : 0 ≤ i) : ∃ n : Nat, i = n := ⟨i.toNat, by omega⟩
theorem i64wrap (x : Int) : IntKind.i64.wrap x = wrap64 x := by
  unfold IntKind.wrap wrap64
  simp [IntKind.bits, IntKind.signed]
  split <;> omega
theorem shl_eq {x : Int} {n : Nat} (hn : n ≤ 62) : shl .i64 x (n : Int) = wrap64 (x * 2 ^ n) := by
  unfold shl
  rw [i64wrap]
  congr 3
  simp [IntKind.bits]
  omega
theorem two_pow_le {n m : Nat} (h : n ≤ m) : (1 : Int) ≤ 2 ^ n ∧ (2 : Int) ^ n ≤ 2 ^ m := by
  have h1 : (1 : Nat) ≤ 2 ^ n := Nat.one_le_two_pow
  have h2 : (2 : Nat) ^ n ≤ 2 ^ m := Nat.pow_le_pow_right (by omega) h
  exact ⟨by exact_mod_cast h1, by exact_mod_cast h2⟩

theorem spec_l01In_eq (x lo hi : Int) : spec_l01In.f x lo hi = some (decide (lo ≤ x ∧ x ≤ hi)) := by
  unfold spec_l01In.f
  by_cases h : lo ≤ x
  · simp [h]
  · simp [h]


theorem impl_in_eq (x lo hi : Int) : impl_in.f x lo hi = some (decide (lo ≤ x ∧ x ≤ hi)) := by
  unfold impl_in.f
  by_cases h : lo ≤ x
  · simp [h]
  · simp [h]

theorem slices_Equal_int_int_l0 (a b : List Int) (hl : a.length = b.length) (hm : a.length ≤ 9223372036854775807) : ∀ (d i : Nat), i + d = a.length → a.take i = b.take i → Evp fun k => slices_Equal_int_int.l0 k a b (a.length : Int) (i : Int) = some (decide (a = b))
  | 0, i, hi, ht => evSuc (evAll fun k => by
    simp only [slices_Equal_int_int.l0]
    rw [if_neg (by omega)]
    obtain rfl : i = a.length := by omega
    have e : a = b := by
      rw [List.take_length, hl, List.take_length] at ht
      exact ht
    simp [e])
  | d + 1, i, hi, ht => by
    have ha : i < a.length := by omega
    have hb : i < b.length := by omega
    by_cases he : a[i] = b[i]
    · have ht' : a.take (i + 1) = b.take (i + 1) := by
        rw [List.take_succ_eq_append_getElem ha, List.take_succ_eq_append_getElem hb, ht, he]
      refine evSuc (evMono (slices_Equal_int_int_l0 a b hl hm d (i + 1) (by omega) ht') fun k ih => ?_)
      simp only [slices_Equal_int_int.l0]
      rw [if_pos (by omega), if_pos (by omega), if_pos (by omega), if_pos (by omega), rd_eq ha, rd_eq hb, if_pos he, w64' (by omega) (by omega)]
      exact ih
    · refine evSuc (evAll fun k => ?_)
      simp only [slices_Equal_int_int.l0]
      rw [if_pos (by omega), if_pos (by omega), if_pos (by omega), if_pos (by omega), rd_eq ha, rd_eq hb, if_neg he]
      have : a ≠ b := by
        rintro rfl
        exact he rfl
      simp [this]
theorem slices_Equal_int_int_ev (a b : List Int) (hm : a.length ≤ 9223372036854775807) : Evp fun k => slices_Equal_int_int.f k a b = some (decide (a = b)) := by
  unfold slices_Equal_int_int.f
  by_cases hl : a.length = b.length
  · refine evMono (slices_Equal_int_int_l0 a b hl hm a.length 0 (by omega) (by simp)) fun k h => ?_
    rw [if_pos (by omega)]
    exact h
  · refine evAll fun k => ?_
    rw [if_neg (by omega)]
    have : a ≠ b := by
      rintro rfl
      exact hl rfl
    simp [this]


def sumStep (s x : Int) : Int := (s * 257 + x + 1) % 1000003
theorem sumStep_b (s x : Int) (h : 0 ≤ s * 257 + x + 1) : 0 ≤ sumStep s x ∧ sumStep s x < 1000003 := by unfold sumStep; omega
def sumOf (l : List Int) : Int := l.foldl sumStep 1
def isBytes (l : List Int) : Prop := ∀ x ∈ l, 0 ≤ x ∧ x ≤ 255
theorem drop_at {α : Type} {l : List α} {i : Nat} (h : i < l.length) : l.drop i = l[i] :: l.drop (i + 1) := by
  exact List.drop_eq_getElem_cons h
theorem fold_snoc {l : List Int} {i : Nat} (h : i < l.length) (s : Int) : (l.drop i).foldl sumStep s = (l.drop (i + 1)).foldl sumStep (sumStep s l[i]) := by
  rw [drop_at h]; rfl


theorem spec_SumOf_l0 (l : List Int) (hb : isBytes l) (hm : l.length ≤ 9223372036854775807) : ∀ (d i : Nat) (s : Int), i + d = l.length → 0 ≤ s → s < 1000003 → Evp fun k => spec_SumOf.l0 k l s (i : Int) = some ((l.drop i).foldl sumStep s)
  | 0, i, s, hi, h0, h1 => evSuc (evAll fun k => by
    simp only [spec_SumOf.l0]
    rw [if_neg (by omega), List.drop_eq_nil_of_le (by omega)]
    rfl)
  | d + 1, i, s, hi, h0, h1 => by
    have hlt : i < l.length := by omega
    have hx := hb l[i] (List.getElem_mem hlt)
    have hs := sumStep_b s l[i] (by omega)
    refine evSuc (evMono (spec_SumOf_l0 l hb hm d (i + 1) (sumStep s l[i]) (by omega) hs.1 hs.2) fun k ih => ?_)
    simp only [spec_SumOf.l0]
    rw [if_pos (by omega), if_pos (by omega), rd_eq hlt, w64' (x := l[i]) (by omega) (by omega), w64' (x := 257 * s) (by omega) (by omega), w64' (x := 257 * s + l[i]) (by omega) (by omega), w64' (x := 257 * s + l[i] + 1) (by omega) (by omega), tmod_pos (by omega), w64' (x := (i : Int) + 1) (by omega) (by omega), fold_snoc hlt]
    rw [show (257 * s + l[i] + 1) % 1000003 = sumStep s l[i] by unfold sumStep; rw [Int.mul_comm 257 s]]
    exact ih
theorem spec_SumOf_ev (l : List Int) (hb : isBytes l) (hm : l.length ≤ 9223372036854775807) : Evp fun k => spec_SumOf.f k l = some (sumOf l) := by
  have := spec_SumOf_l0 l hb hm l.length 0 1 (by omega) (by omega) (by omega)
  exact this


theorem impl_SumOf_l0 (l : List Int) (hb : isBytes l) (hm : l.length ≤ 9223372036854775807) : ∀ (d i : Nat) (s : Int), i + d = l.length → 0 ≤ s → s < 1000003 → Evp fun k => impl_SumOf.l0 k s l (l.length : Int) (i : Int) = some ((l.drop i).foldl sumStep s)
  | 0, i, s, hi, h0, h1 => evSuc (evAll fun k => by
    simp only [impl_SumOf.l0]
    rw [if_neg (by omega), List.drop_eq_nil_of_le (by omega)]
    rfl)
  | d + 1, i, s, hi, h0, h1 => by
    have hlt : i < l.length := by omega
    have hx := hb l[i] (List.getElem_mem hlt)
    have hs := sumStep_b s l[i] (by omega)
    refine evSuc (evMono (impl_SumOf_l0 l hb hm d (i + 1) (sumStep s l[i]) (by omega) hs.1 hs.2) fun k ih => ?_)
    simp only [impl_SumOf.l0]
    rw [if_pos (by omega), if_pos (by omega), if_pos (by omega), rd_eq hlt, w64' (x := l[i]) (by omega) (by omega), w64' (x := s * 257) (by omega) (by omega), w64' (x := s * 257 + l[i]) (by omega) (by omega), w64' (x := s * 257 + l[i] + 1) (by omega) (by omega), tmod_pos (by omega), w64' (x := (i : Int) + 1) (by omega) (by omega), fold_snoc hlt]
    exact ih
theorem impl_SumOf_ev (l : List Int) (hb : isBytes l) (hm : l.length ≤ 9223372036854775807) : Evp fun k => impl_SumOf.f k l = some (sumOf l) := by
  have := impl_SumOf_l0 l hb hm l.length 0 1 (by omega) (by omega) (by omega)
  exact this


def shapeOk (h w c : Int) : Bool := decide ((1 ≤ h ∧ h ≤ 8) ∧ (1 ≤ w ∧ w ≤ 8) ∧ (1 ≤ c ∧ c ≤ 8))
theorem shapeOk_iff {h w c : Int} : shapeOk h w c = true ↔ (1 ≤ h ∧ h ≤ 8) ∧ (1 ≤ w ∧ w ≤ 8) ∧ (1 ≤ c ∧ c ≤ 8) := by unfold shapeOk; simp
def sizeOf (h w c : Int) : Int := if shapeOk h w c = true then h * w * c else 0
theorem mul_b {a b A B : Int} (ha : 0 ≤ a) (ha' : a ≤ A) (hb : 0 ≤ b) (hb' : b ≤ B) : 0 ≤ a * b ∧ a * b ≤ A * B := by
  refine ⟨Int.mul_nonneg ha hb, Int.mul_le_mul ha' hb' hb (by omega)⟩
theorem mul_pos1 {a b : Int} (ha : 1 ≤ a) (hb : 1 ≤ b) : 1 ≤ a * b := by
  have := Int.mul_le_mul ha hb (by omega) (by omega)
  omega
theorem size_b {h w c : Int} (hs : shapeOk h w c = true) : 1 ≤ h * w ∧ h * w ≤ 64 ∧ 1 ≤ h * w * c ∧ h * w * c ≤ 512 := by
  obtain ⟨h1, h2, h3⟩ := shapeOk_iff.1 hs
  have a := mul_b (a := h) (b := w) (A := 8) (B := 8) (by omega) (by omega) (by omega) (by omega)
  have b := mul_b (a := h * w) (b := c) (A := 64) (B := 8) (by omega) (by omega) (by omega) (by omega)
  have c1 := mul_pos1 h1.1 h2.1
  have c2 := mul_pos1 c1 h3.1
  omega
theorem sizeOf_b (h w c : Int) : 0 ≤ sizeOf h w c ∧ sizeOf h w c ≤ 512 := by
  unfold sizeOf
  split
  · rename_i hs
    have := size_b hs
    omega
  · omega
theorem spec_ShapeOk_eq (h w c : Int) : spec_ShapeOk.f h w c = some (shapeOk h w c) := by
  unfold spec_ShapeOk.f shapeOk
  simp only [spec_l01In_eq, Option.bind_some, decide_eq_true_eq]
  by_cases h1 : 1 ≤ h ∧ h ≤ 8 <;> by_cases h2 : 1 ≤ w ∧ w ≤ 8 <;> simp [h1, h2]


theorem impl_ShapeOk_eq (h w c : Int) : impl_ShapeOk.f h w c = some (shapeOk h w c) := by
  unfold impl_ShapeOk.f shapeOk
  simp only [impl_in_eq, Option.bind_some, decide_eq_true_eq]
  by_cases h1 : 1 ≤ h ∧ h ≤ 8 <;> by_cases h2 : 1 ≤ w ∧ w ≤ 8 <;> simp [h1, h2]


theorem spec_SizeOf_eq (h w c : Int) : spec_SizeOf.f h w c = some (sizeOf h w c) := by
  unfold spec_SizeOf.f sizeOf
  rw [spec_ShapeOk_eq]
  simp only [Option.bind_some]
  by_cases hs : shapeOk h w c = true
  · have := size_b hs
    rw [if_pos hs, if_pos hs, w64' (x := h * w) (by omega) (by omega), w64' (by omega) (by omega)]
  · rw [if_neg hs, if_neg hs]


theorem impl_SizeOf_eq (h w c : Int) : impl_SizeOf.f h w c = some (sizeOf h w c) := by
  unfold impl_SizeOf.f sizeOf
  rw [impl_ShapeOk_eq]
  simp only [Option.bind_some]
  by_cases hs : shapeOk h w c = true
  · have := size_b hs
    rw [if_pos hs, if_pos hs, w64' (x := h * w) (by omega) (by omega), w64' (by omega) (by omega)]
  · rw [if_neg hs, if_neg hs]


def sameLayer (a b c d e f g : Int) (W B : List Int) (a' b' c' d' e' f' g' : Int) (W' B' : List Int) : Bool := decide (a = a' ∧ b = b' ∧ c = c' ∧ d = d' ∧ e = e' ∧ f = f' ∧ g = g' ∧ W = W' ∧ B = B')


theorem impl_SameLayer_ev (a b c d e f g : Int) (W B : List Int) (a' b' c' d' e' f' g' : Int) (W' B' : List Int) (hW : (W.length : Int) ≤ 9223372036854775807) (hB : (B.length : Int) ≤ 9223372036854775807) :
    Evp fun k => impl_SameLayer.f k a b c d e f g W B a' b' c' d' e' f' g' W' B' = some (sameLayer a b c d e f g W B a' b' c' d' e' f' g' W' B') :=
  evMono (evAnd (slices_Equal_int_int_ev [a, b, c, d, e, f, g] [a', b', c', d', e', f', g'] (by simp)) (evAnd (slices_Equal_int_int_ev W W' (by omega)) (slices_Equal_int_int_ev B B' (by omega)))) fun k ⟨h0, h1, h2⟩ => by
    unfold impl_SameLayer.f impl_Layer_numbers.f sameLayer
    simp only [Option.bind_some]
    rw [h0, h1, h2]
    by_cases e1 : [a, b, c, d, e, f, g] = [a', b', c', d', e', f', g']
    · obtain ⟨rfl, rfl, rfl, rfl, rfl, rfl, rfl⟩ : a = a' ∧ b = b' ∧ c = c' ∧ d = d' ∧ e = e' ∧ f = f' ∧ g = g' := by simpa using e1
      by_cases e8 : W = W' <;> simp [e8]
    · have e2 : ¬ (a = a' ∧ b = b' ∧ c = c' ∧ d = d' ∧ e = e' ∧ f = f' ∧ g = g' ∧ W = W' ∧ B = B') := by
        rintro ⟨rfl, rfl, rfl, rfl, rfl, rfl, rfl, _, _⟩
        exact e1 rfl
      rw [decide_eq_false e1, decide_eq_false e2]
      simp

/-! #### numbers of up to six bytes -/
theorem or_comm64 {x y : Int} (hx : 0 ≤ x) (hx' : x < 2 ^ 62) (hy : 0 ≤ y) (hy' : y < 2 ^ 62) : Go.bits .or .i64 x y = Go.bits .or .i64 y x := by
  unfold Go.bits
  simp only [BitVec.or_comm]
theorem wraps_i64 (n : Int) (h0 : 0 ≤ n) (h1 : n < 2 ^ 62) : IntKind.i64.wrap n = n := by rw [i64wrap]; exact w64' (by omega) (by omega)
theorem pow_split (i : Nat) : (2 : Int) ^ (7 * (i + 1)) = 128 * 2 ^ (7 * i) := by rw [show 7 * (i + 1) = 7 * i + 7 by omega, Int.pow_add]; omega
theorem or_add {u v : Int} {i : Nat} (hi : i ≤ 5) (hu : 0 ≤ u) (hu' : u < 2 ^ (7 * i)) (hv : 0 ≤ v) (hv' : v ≤ 127) :
    0 ≤ v * 2 ^ (7 * i) ∧ v * 2 ^ (7 * i) ≤ 127 * 2 ^ (7 * i) ∧ (2 : Int) ^ (7 * i) ≤ 34359738368 ∧ 1 ≤ (2 : Int) ^ (7 * i) ∧ Go.bits .or .i64 u (v * 2 ^ (7 * i)) = u + v * 2 ^ (7 * i) := by
  have hp := two_pow_le (n := 7 * i) (m := 35) (by omega)
  have hm := mul_b (a := v) (b := 2 ^ (7 * i)) (A := 127) (B := 2 ^ (7 * i)) hv hv' (by omega) (by omega)
  refine ⟨hm.1, hm.2, hp.2, hp.1, ?_⟩
  have h35 : (2 : Int) ^ 35 = 34359738368 := by decide
  rw [or_comm64 hu (by omega) hm.1 (by omega), Int.add_comm]
  exact bits_join .i64 62 (by decide) wraps_i64 (7 * i) _ _ hm.1 (by simp) (by omega) hu hu' (by omega)
/-- What a number is written as: even for those from 0 on. -/
def wideOf (u : Int) : Int := if u % 2 = 1 then -(u / 2) - 1 else u / 2
def takeGo (l : List Int) (at_ : Int) : Nat → Nat → Int → Int × Int
  | 0, _, _ => (0, -1)
  | d + 1, i, u =>
    if at_ < 0 ∨ at_ ≥ (l.length : Int) - i then (0, -1)
    else if l.getD (at_ + i).toNat 0 < 128 then
      (if (l.getD (at_ + i).toNat 0 = 0 ∧ 0 < i) ∨ u + l.getD (at_ + i).toNat 0 % 128 * 2 ^ (7 * i) > 2199023255551 then (0, -1)
       else (wideOf (u + l.getD (at_ + i).toNat 0 % 128 * 2 ^ (7 * i)), at_ + i + 1))
    else takeGo l at_ d (i + 1) (u + l.getD (at_ + i).toNat 0 % 128 * 2 ^ (7 * i))
def takeWide (l : List Int) (at_ : Int) : Int × Int := takeGo l at_ 6 0 0
theorem getD_b {l : List Int} (hb : isBytes l) (n : Nat) : 0 ≤ l.getD n 0 ∧ l.getD n 0 ≤ 255 := by
  by_cases h : n < l.length
  · have := hb l[n] (List.getElem_mem h)
    simpa [List.getD, h] using this
  · simp [List.getD, h]
theorem wideOf_b {u : Int} (h : 0 ≤ u) (h1 : u ≤ 2199023255551) : -1099511627776 ≤ wideOf u ∧ wideOf u ≤ 1099511627775 := by unfold wideOf; split <;> omega
theorem wideOf_b' {u : Int} (h : 0 ≤ u) (h1 : u > 2199023255551) : ¬ (-1099511627776 ≤ wideOf u ∧ wideOf u ≤ 1099511627775) := by unfold wideOf; split <;> omega


theorem impl_isWide_eq (x : Int) : impl_isWide.f x = some (decide (-1099511627776 ≤ x ∧ x ≤ 1099511627775)) := by
  unfold impl_isWide.f
  rw [impl_in_eq]
  rfl


theorem impl_TakeWide_l0 (l : List Int) (hb : isBytes l) (hl : l.length ≤ 1073741824) (n : Nat) (hn : n < l.length) (m : Nat) (hm : m = min l.length (n + 6) - n) (s : List Int) (hs : s = (l.take (n + m)).drop n) :
    ∀ (d i : Nat) (u : Int), i + d = 6 → i ≤ m → 0 ≤ u → u < 2 ^ (7 * i) → Evp fun k => impl_TakeWide.l0 k (n : Int) u s (m : Int) (i : Int) = some (takeGo l n d i u)
  | 0, i, u, hi, him, h0, h1 => evSuc (evAll fun k => by
    simp only [impl_TakeWide.l0]
    rw [if_neg (by omega)]
    rfl)
  | d + 1, i, u, hi, him, h0, h1 => by
    have hslen : s.length = m := by rw [hs]; simp; omega
    unfold takeGo
    by_cases hc : (n : Int) < 0 ∨ (n : Int) ≥ (l.length : Int) - i
    · refine evSuc (evAll fun k => ?_)
      rw [if_pos hc]
      simp only [impl_TakeWide.l0]
      rw [if_neg (by omega)]
    · have hlt : n + i < l.length := by omega
      have him' : i < m := by omega
      have hsi : i < s.length := by omega
      have hx := hb l[n + i] (List.getElem_mem hlt)
      have hv : 0 ≤ l[n + i] % 128 ∧ l[n + i] % 128 ≤ 127 := by omega
      obtain ⟨o1, o2, o3, o4, o5⟩ := or_add (i := i) (by omega) h0 h1 hv.1 hv.2
      have e1 : ((n : Int) + (i : Int)).toNat = n + i := by omega
      have e2 : l.getD (n + i) 0 = l[n + i] := by simp [List.getD, hlt]
      rw [e1, e2, if_neg hc]
      have e3 : rd s (i : Int) = l[n + i] := by
        rw [rd_eq hsi]
        subst hs
        simp
      have e4 : shl .i64 (l[n + i] % 128) (7 * (i : Int)) = l[n + i] % 128 * 2 ^ (7 * i) := by
        rw [show (7 * (i : Int)) = ((7 * i : Nat) : Int) by omega, shl_eq (by omega)]
        exact w64' (by omega) (by omega)
      have e5 : Go.bits .and .u8 l[n + i] 127 = l[n + i] % 128 := bits_mask .u8 8 (by decide) wraps_u8 7 (by decide) _ hx.1 (by omega)
      have hnn : 0 ≤ u + l[n + i] % 128 * 2 ^ (7 * i) := by omega
      have hle : u + l[n + i] % 128 * 2 ^ (7 * i) ≤ 4398046511104 := by omega
      by_cases hsm : l[n + i] < 128
      · rw [if_pos hsm]
        refine evSuc (evAll fun k => ?_)
        simp only [impl_TakeWide.l0]
        rw [if_pos (by omega), if_pos (by omega), if_pos (by omega), w64' (x := 7 * (i : Int)) (by omega) (by omega), if_pos (by omega), e3, if_neg (by omega), e5, w64' (x := l[n + i] % 128) (by omega) (by omega), e4, o5]
        generalize hzz : u + l[n + i] % 128 * 2 ^ (7 * i) = z at hnn hle ⊢
        simp only [impl_isWide_eq, Option.bind_some, decide_eq_true_eq]
        rw [tmod_pos hnn, tdiv_pos hnn, w64' (x := z / 2) (by omega) (by omega), w64' (x := -(z / 2)) (by omega) (by omega), w64' (x := -(z / 2) - 1) (by omega) (by omega), w64' (x := (n : Int) + i) (by omega) (by omega), w64' (x := (n : Int) + i + 1) (by omega) (by omega)]
        have w1 := fun h => wideOf_b (u := z) hnn h
        have w2 := fun h => wideOf_b' (u := z) hnn h
        unfold wideOf at w1 w2 ⊢
        by_cases ho : z % 2 = 1
        · simp only [if_pos ho] at w1 w2 ⊢
          by_cases hi0 : (i : Int) > 0
          · rw [if_pos hi0]
            by_cases hz : l[n + i] = 0
            · rw [if_pos hz, if_pos (.inl ⟨hz, by omega⟩)]
            · rw [if_neg hz]
              by_cases hg : z > 2199023255551
              · rw [if_neg (w2 hg), if_pos (.inr hg)]
              · rw [if_pos (w1 (by omega)), if_neg (by omega)]
          · rw [if_neg hi0]
            by_cases hg : z > 2199023255551
            · rw [if_neg (w2 hg), if_pos (.inr hg)]
            · rw [if_pos (w1 (by omega)), if_neg (by omega)]
        · simp only [if_neg ho] at w1 w2 ⊢
          by_cases hi0 : (i : Int) > 0
          · rw [if_pos hi0]
            by_cases hz : l[n + i] = 0
            · rw [if_pos hz, if_pos (.inl ⟨hz, by omega⟩)]
            · rw [if_neg hz]
              by_cases hg : z > 2199023255551
              · rw [if_neg (w2 hg), if_pos (.inr hg)]
              · rw [if_pos (w1 (by omega)), if_neg (by omega)]
          · rw [if_neg hi0]
            by_cases hg : z > 2199023255551
            · rw [if_neg (w2 hg), if_pos (.inr hg)]
            · rw [if_pos (w1 (by omega)), if_neg (by omega)]
      · rw [if_neg hsm]
        refine evSuc (evMono (impl_TakeWide_l0 l hb hl n hn m hm s hs d (i + 1) (u + l[n + i] % 128 * 2 ^ (7 * i)) (by omega) (by omega) (by omega) (by rw [pow_split]; omega)) fun k ih => ?_)
        simp only [impl_TakeWide.l0]
        rw [if_pos (by omega), if_pos (by omega), if_pos (by omega), w64' (x := 7 * (i : Int)) (by omega) (by omega), if_pos (by omega), e3, if_pos (by omega), e5, w64' (x := l[n + i] % 128) (by omega) (by omega), e4, o5, w64' (x := (i : Int) + 1) (by omega) (by omega)]
        exact ih
theorem impl_TakeWide_ev (l : List Int) (hb : isBytes l) (hl : l.length ≤ 1073741824) (at_ : Int) (hat : i64 at_) : Evp fun k => impl_TakeWide.f k l at_ = some (takeWide l at_) := by
  unfold i64 at hat
  unfold impl_TakeWide.f
  rw [impl_in_eq, w64' (x := (l.length : Int) - 1) (by omega) (by omega)]
  simp only [Option.bind_some, decide_eq_true_eq]
  by_cases h : 0 ≤ at_ ∧ at_ ≤ (l.length : Int) - 1
  · obtain ⟨n, rfl⟩ := nat_of h.1
    have hn : n < l.length := by omega
    have e : mn (l.length : Int) (wrap64 ((n : Int) + 6)) = ((n + (min l.length (n + 6) - n) : Nat) : Int) := by
      rw [w64' (by omega) (by omega)]
      unfold mn
      split <;> omega
    refine evMono (impl_TakeWide_l0 l hb hl n hn _ rfl _ rfl 6 0 0 (by omega) (by omega) (by omega) (by decide)) fun k hk => ?_
    rw [if_pos h, if_pos (by omega), e, if_pos (by omega), if_pos (by omega)]
    simp only [Int.toNat_natCast]
    rw [show ((List.drop n (List.take (n + (min l.length (n + 6) - n)) l)).length : Int) = ((min l.length (n + 6) - n : Nat) : Int) by simp; omega]
    exact hk
  · refine evAll fun k => ?_
    rw [if_neg h]
    unfold takeWide takeGo
    rw [if_pos (by omega)]


/-- The bytes of a number that was made to be from 0 on. -/
def putGo : Nat → Int → List Int
  | 0, u => [u % 256]
  | d + 1, u => if u ≥ 128 then (128 + u % 128) :: putGo d (u / 128) else [u % 256]
def zig (x : Int) : Int := if x < 0 then -2 * x - 1 else 2 * x
def putWide (x : Int) : List Int := putGo 6 (zig x)
theorem putGo_len : ∀ d u, (putGo d u).length ≤ d + 1
  | 0, u => by simp [putGo]
  | d + 1, u => by
    unfold putGo
    have := putGo_len d (u / 128)
    split <;> simp <;> omega
theorem zig_b {x : Int} (h : -1099511627776 ≤ x ∧ x ≤ 1099511627775) : 0 ≤ zig x ∧ zig x < 128 ^ 6 := by unfold zig; split <;> omega


theorem spec_PutWide_l0 : ∀ (d : Nat) (o : List Int) (u : Int), 0 ≤ u → u < 128 ^ (d + 1) → d ≤ 6 → o.length + d ≤ 1000 → Evp fun k => spec_PutWide.l0 k o u = some (o ++ putGo d u)
  | 0, o, u, h0, h1, hd, ho => evSuc (evAll fun k => by
    simp only [spec_PutWide.l0]
    rw [if_neg (by omega), if_pos (by omega)]
    rfl)
  | d + 1, o, u, h0, h1, hd, ho => by
    unfold putGo
    by_cases hu : u ≥ 128
    · have hb : u < (2 : Int) ^ 56 := by
        have := two_pow_le (n := 7 * (d + 1 + 1)) (m := 56) (by omega)
        have e : (128 : Int) ^ (d + 1 + 1) = 2 ^ (7 * (d + 1 + 1)) := by rw [Int.pow_mul]; rfl
        exact Int.lt_of_lt_of_le h1 (by rw [e]; exact this.2)
      have hb2 : (2 : Int) ^ 56 = 72057594037927936 := by decide
      have hq : u / 128 < 128 ^ (d + 1) := by
        rw [Int.pow_succ] at h1
        omega
      refine evSuc (evMono (spec_PutWide_l0 d (o ++ [128 + u % 128]) (u / 128) (by omega) hq (by omega) (by simp; omega)) fun k ih => ?_)
      simp only [spec_PutWide.l0]
      rw [if_pos hu, if_pos hu, if_pos (by omega), tmod_pos h0, tdiv_pos h0, w64' (x := 128 + u % 128) (by omega) (by omega), w64' (x := u / 128) (by omega) (by omega), show (128 + u % 128) % 256 = 128 + u % 128 by omega, ih]
      simp
    · refine evSuc (evAll fun k => ?_)
      simp only [spec_PutWide.l0]
      rw [if_neg hu, if_neg hu, if_pos (by omega)]
theorem spec_PutWide_ev (x : Int) (hx : i64 x) : Evp fun k => spec_PutWide.f k x = some (if -1099511627776 ≤ x ∧ x ≤ 1099511627775 then putWide x else []) := by
  unfold i64 at hx
  unfold spec_PutWide.f
  simp only [Option.bind_some, spec_l01In_eq, decide_eq_true_eq]
  by_cases h : -1099511627776 ≤ x ∧ x ≤ 1099511627775
  · have hz := zig_b h
    have hz2 : (128 : Int) ^ 6 < 128 ^ 7 := by decide
    refine evMono (evSuc (p := fun k => spec_PutWide.j0 k [] (zig x) = some (putWide x)) (evMono (spec_PutWide_l0 6 [] (zig x) hz.1 (by omega) (by omega) (by simp)) fun k hk => ?_)) fun k hk => ?_
    · simp only [spec_PutWide.j0]
      rw [hk]
      rfl
    · rw [if_pos h, if_pos h]
      unfold zig at hk
      by_cases hn : x < 0
      · rw [if_pos hn] at hk ⊢
        rw [w64' (x := -2 * x) (by omega) (by omega), w64' (by omega) (by omega)]
        exact hk
      · rw [if_neg hn] at hk ⊢
        rw [w64' (by omega) (by omega)]
        exact hk
  · refine evAll fun k => ?_
    rw [if_neg h, if_neg h]


theorem or128 {u : Int} (h0 : 0 ≤ u) : Go.bits .or .u8 (u % 256) 128 = 128 + u % 128 := by
  have e : Go.bits .or .u8 (u % 256) 128 = Go.bits .or .u8 128 (u % 256) := by unfold Go.bits; simp only [BitVec.or_comm]
  rw [e]
  by_cases h : u % 256 < 128
  · rw [bits_join .u8 8 (by decide) wraps_u8 7 128 (u % 256) (by decide) (by decide) (by decide) (by omega) (by omega) (by omega)]
    omega
  · have k : ∀ n : Nat, n < 128 → Go.bits .or .u8 128 (128 + (n : Int)) = 128 + (n : Int) := by decide +kernel
    obtain ⟨n, hn⟩ := nat_of (show 0 ≤ u % 256 - 128 by omega)
    have := k n (by omega)
    rw [show u % 256 = 128 + (n : Int) by omega, this]
    omega
theorem impl_putWide_l1 (l : List Int) (m : Int) (j : Int) : ∀ (d : Nat) (o : List Int) (u : Int) (r : List Int), 0 ≤ u → u < 128 ^ (d + 1) → o.length + d ≤ 1000000000 →
    (Evp fun k => impl_putWide.l0 k (o ++ putGo d u) l m (wrap64 (j + 1)) = some r) → Evp fun k => impl_putWide.l1 k o u l m j = some r
  | 0, o, u, r, h0, h1, ho, hn => evSuc (evMono hn fun k hk => by
    simp only [impl_putWide.l1]
    rw [if_neg (by omega), if_pos (by omega)]
    exact hk)
  | d + 1, o, u, r, h0, h1, ho, hn => by
    unfold putGo at hn
    by_cases hu : u ≥ 128
    · have hq : u / 128 < 128 ^ (d + 1) := by
        rw [Int.pow_succ] at h1
        omega
      rw [if_pos hu] at hn
      refine evSuc (evMono (impl_putWide_l1 l m j d (o ++ [128 + u % 128]) (u / 128) r (by omega) hq (by simp; omega) (by simpa using hn)) fun k ih => ?_)
      simp only [impl_putWide.l1]
      rw [if_pos (by omega), if_pos (by omega), or128 h0]
      exact ih
    · rw [if_neg hu] at hn
      refine evSuc (evMono hn fun k hk => ?_)
      simp only [impl_putWide.l1]
      rw [if_neg (by omega), if_pos (by omega)]
      exact hk
theorem putWide_len (x : Int) : (putWide x).length ≤ 7 := putGo_len 6 _
theorem impl_putWide_l0 (l : List Int) (hw : ∀ x ∈ l, -1099511627776 ≤ x ∧ x ≤ 1099511627775) (hm : l.length ≤ 999999000) : ∀ (d i : Nat) (o : List Int), i + d = l.length → o.length + 7 * d ≤ 999999000 →
    Evp fun k => impl_putWide.l0 k o l (l.length : Int) (i : Int) = some (o ++ (l.drop i).flatMap putWide)
  | 0, i, o, hi, ho => evSuc (evAll fun k => by
    simp only [impl_putWide.l0]
    rw [if_neg (by omega), List.drop_eq_nil_of_le (by omega)]
    simp)
  | d + 1, i, o, hi, ho => by
    have hlt : i < l.length := by omega
    have hx := hw l[i] (List.getElem_mem hlt)
    have hz := zig_b hx
    have hz2 : (128 : Int) ^ 6 < 128 ^ 7 := by decide
    have hl7 := putWide_len l[i]
    have hnext := impl_putWide_l0 l hw hm d (i + 1) (o ++ putWide l[i]) (by omega) (by simp; omega)
    have hnext' : Evp fun k => impl_putWide.l0 k (o ++ putGo 6 (zig l[i])) l (l.length : Int) (wrap64 ((i : Int) + 1)) = some (o ++ (l.drop i).flatMap putWide) := by
      rw [w64' (by omega) (by omega), drop_at hlt, List.flatMap_cons, ← List.append_assoc]
      exact hnext
    have h1 := impl_putWide_l1 l (l.length : Int) i 6 o (zig l[i]) _ hz.1 (by omega) (by omega) hnext'
    refine evSuc (evSuc (evMono h1 fun k hk => ?_))
    simp only [impl_putWide.l0]
    rw [if_pos (by omega), if_pos (by omega), if_pos (by omega), rd_eq hlt]
    unfold zig at hk
    by_cases hn : l[i] < 0
    · rw [if_pos hn] at hk ⊢
      rw [w64' (x := -2 * l[i]) (by omega) (by omega), w64' (by omega) (by omega)]
      simp only [impl_putWide.j1]
      exact hk
    · rw [if_neg hn] at hk ⊢
      rw [w64' (by omega) (by omega)]
      simp only [impl_putWide.j1]
      exact hk
theorem impl_putWide_ev (o l : List Int) (hw : ∀ x ∈ l, -1099511627776 ≤ x ∧ x ≤ 1099511627775) (ho : o.length + 7 * l.length ≤ 999999000) : Evp fun k => impl_putWide.f k o l = some (o ++ l.flatMap putWide) := by
  have := impl_putWide_l0 l hw (by omega) l.length 0 o (by omega) ho
  exact this


def item8 (x : Int) : Bool := decide (-128 ≤ x ∧ x ≤ 127)
def itemsB (l : List Int) : Bool := l.all item8
theorem itemsB_iff {l : List Int} : itemsB l = true ↔ ∀ x ∈ l, -128 ≤ x ∧ x ≤ 127 := by
  unfold itemsB item8
  simp
theorem all_at {p : Int → Bool} {l : List Int} {i : Nat} (h : i < l.length) : (l.drop i).all p = (p l[i] && (l.drop (i + 1)).all p) := by
  rw [drop_at h, List.all_cons]
theorem spec_l02Int8_eq (x : Int) : spec_l02Int8.f x = some (item8 x) := by
  unfold spec_l02Int8.f
  rw [spec_l01In_eq]
  rfl


theorem impl_areItems_1_eq (x : Int) : impl_areItems_1.f x = some (!item8 x) := by
  unfold impl_areItems_1.f
  rw [impl_in_eq]
  rfl


theorem indexItems_l0 (l : List Int) (hl : l.length ≤ 9223372036854775807) : ∀ (d i : Nat), i + d = l.length → ∃ r, (Evp fun k => slices_IndexFunc_int_int_impl_areItems_1.l0 k l (l.length : Int) (i : Int) = some r) ∧ (decide (r ≥ 0) = !(l.drop i).all item8)
  | 0, i, hi => ⟨-1, evSuc (evAll fun k => by
    simp only [slices_IndexFunc_int_int_impl_areItems_1.l0]
    rw [if_neg (by omega)]), by rw [List.drop_eq_nil_of_le (by omega)]; rfl⟩
  | d + 1, i, hi => by
    have hlt : i < l.length := by omega
    rw [all_at hlt]
    cases hx : item8 l[i] with
    | true =>
      obtain ⟨r, h1, h2⟩ := indexItems_l0 l hl d (i + 1) (by omega)
      refine ⟨r, evSuc (evMono h1 fun k ih => ?_), by simpa using h2⟩
      simp only [slices_IndexFunc_int_int_impl_areItems_1.l0]
      rw [if_pos (by omega), if_pos (by omega), if_pos (by omega), rd_eq hlt, impl_areItems_1_eq, hx]
      simp only [Option.bind_some]
      rw [if_neg (by simp), w64' (by omega) (by omega)]
      exact ih
    | false =>
      refine ⟨(i : Int), evSuc (evAll fun k => ?_), by simp⟩
      simp only [slices_IndexFunc_int_int_impl_areItems_1.l0]
      rw [if_pos (by omega), if_pos (by omega), if_pos (by omega), rd_eq hlt, impl_areItems_1_eq, hx]
      simp


theorem impl_areItems_ev (l : List Int) (hl : l.length ≤ 9223372036854775807) : Evp fun k => impl_areItems.f k l = some (itemsB l) := by
  obtain ⟨r, h1, h2⟩ := indexItems_l0 l hl l.length 0 (by omega)
  refine evMono h1 fun k e => ?_
  have e1 : slices_ContainsFunc_int_int_impl_areItems_1.f k l = some (decide (r ≥ 0)) := bind_of (f := fun t => some (decide (t ≥ 0))) e rfl
  have e2 : impl_areItems.f k l = some (!decide (r ≥ 0)) := bind_of (f := fun t => some (!t)) e1 rfl
  rw [e2, h2]
  simp [itemsB]


theorem and255_b (x : Int) : 0 ≤ Go.bits .and .i64 x 255 ∧ Go.bits .and .i64 x 255 ≤ 255 := by
  have h : ((BitVec.ofInt 64 x) &&& (BitVec.ofInt 64 255)).toNat ≤ 255 := by
    rw [BitVec.toNat_and]
    exact Nat.and_le_right
  have e : Go.bits .and .i64 x 255 = IntKind.i64.wrap (((BitVec.ofInt 64 x) &&& (BitVec.ofInt 64 255)).toNat : Int) := rfl
  rw [e, i64wrap, w64' (by omega) (by omega)]
  omega
/-- A drawing's place in its bytes. -/
def Cu (b : List Int) (i : Int) : Prop := 0 ≤ i ∧ i ≤ b.length ∧ b.length ≤ 1099511627776
theorem spec_l01New_l0 (b : List Int) (hb : b.length ≤ 1099511627776) : ∀ (d : Nat) (i : Nat) (h : Int), i + d = b.length → ∃ h', Evp fun k => spec_l01New.l0 k b h (i : Int) = some (b, 0, h')
  | 0, i, h, hi => ⟨h, evSuc (evAll fun k => by
    simp only [spec_l01New.l0]
    rw [if_neg (by omega)])⟩
  | d + 1, i, h, hi => by
    by_cases h4 : i < 4000
    · obtain ⟨h', hh⟩ := spec_l01New_l0 b hb d (i + 1) (Go.bits .and .i64 (wrap64 ((wrap64 ((wrap64 (h * 149)) + (wrap64 (rd b i)))) + 11)) 1073741823) (by omega)
      refine ⟨h', evSuc (evMono hh fun k e => ?_)⟩
      simp only [spec_l01New.l0]
      rw [if_pos (by omega), if_pos (by omega), if_pos (by omega), w64' (x := (i : Int) + 1) (by omega) (by omega)]
      exact e
    · refine ⟨h, evSuc (evAll fun k => ?_)⟩
      simp only [spec_l01New.l0]
      rw [if_pos (by omega), if_neg (by omega)]
theorem spec_l01New_ok (b : List Int) (hb : b.length ≤ 1099511627776) : ∃ h', Evp fun k => spec_l01New.f k b = some (b, 0, h') := spec_l01New_l0 b hb b.length 0 _ (by omega)
theorem Cu.zero {b : List Int} (hb : b.length ≤ 1099511627776) : Cu b 0 := ⟨by omega, by omega, hb⟩


theorem spec_l01Byte_ok {b : List Int} {i : Int} (hc : Cu b i) (h : Int) : ∃ r i' h', spec_l01Byte.f b i h = some (r, i', h') ∧ 0 ≤ r ∧ r ≤ 255 ∧ Cu b i' := by
  obtain ⟨h0, h1, h2⟩ := hc
  unfold spec_l01Byte.f
  by_cases hi : i < (b.length : Int)
  · rw [if_pos hi, if_pos h0]
    exact ⟨_, _, _, rfl, (and255_b _).1, (and255_b _).2, by rw [w64' (by omega) (by omega)]; exact ⟨by omega, by omega, h2⟩⟩
  · rw [if_neg hi]
    exact ⟨_, _, _, rfl, (and255_b _).1, (and255_b _).2, h0, h1, h2⟩


theorem spec_l01Below_ok {b : List Int} {i : Int} (hc : Cu b i) (h : Int) {n : Int} (hn : 1 ≤ n) : ∃ r i' h', spec_l01Below.f b i h n = some (r, i', h') ∧ 0 ≤ r ∧ r < n ∧ Cu b i' := by
  obtain ⟨r1, i1, h1, e1, a1, b1, c1⟩ := spec_l01Byte_ok hc h
  by_cases hs : n ≤ 256
  · refine ⟨_, _, _, ite_no (by omega) (ite_yes hs (bind_of e1 (ite_no (by omega) rfl))), ?_, ?_, c1⟩
    · rw [tmod_pos a1]; exact Int.emod_nonneg _ (by omega)
    · rw [tmod_pos a1]; exact Int.emod_lt_of_pos _ (by omega)
  · obtain ⟨r2, i2, h2, e2, a2, b2, c2⟩ := spec_l01Byte_ok c1 h1
    obtain ⟨r3, i3, h3, e3, a3, b3, c3⟩ := spec_l01Byte_ok c2 h2
    have hw : wrap64 ((wrap64 ((wrap64 (r1 * 65536)) + (wrap64 (r2 * 256)))) + r3) = r1 * 65536 + r2 * 256 + r3 := by
      simp (disch := omega) only [w64']
    refine ⟨_, _, _, ite_no (by omega) (ite_no hs (bind_of e1 (bind_of e2 (bind_of e3 (ite_no (by omega) rfl))))), ?_, ?_, c3⟩
    · show 0 ≤ Int.tmod (wrap64 ((wrap64 ((wrap64 (r1 * 65536)) + (wrap64 (r2 * 256)))) + r3)) n
      rw [hw, tmod_pos (by omega)]; exact Int.emod_nonneg _ (by omega)
    · show Int.tmod (wrap64 ((wrap64 ((wrap64 (r1 * 65536)) + (wrap64 (r2 * 256)))) + r3)) n < n
      rw [hw, tmod_pos (by omega)]; exact Int.emod_lt_of_pos _ (by omega)


theorem spec_l01PickInt_ok {b : List Int} {i : Int} (hc : Cu b i) (h : Int) (l : List Int) (hl : 1 ≤ l.length) : ∃ r i' h', spec_l01PickInt.f b i h l = some (r, i', h') ∧ r ∈ l ∧ Cu b i' := by
  obtain ⟨r1, i1, h1, e1, a1, b1, c1⟩ := spec_l01Below_ok hc h (n := (l.length : Int)) (by omega)
  obtain ⟨m, rfl⟩ := nat_of a1
  refine ⟨_, _, _, bind_of e1 (ite_yes a1 (ite_yes b1 rfl)), ?_, c1⟩
  show rd l (m : Int) ∈ l
  rw [rd_eq (by omega)]
  exact List.getElem_mem _


theorem spec_l01Once_ok {b : List Int} {i : Int} (hc : Cu b i) (h : Int) {n : Int} (hn : 1 ≤ n) : ∃ r i' h', spec_l01Once.f b i h n = some (r, i', h') ∧ Cu b i' := by
  obtain ⟨r1, i1, h1, e1, a1, b1, c1⟩ := spec_l01Below_ok hc h hn
  exact ⟨_, _, _, bind_of e1 rfl, c1⟩


theorem laws_at_ok (l : List Int) (hb : isBytes l) (hl : l.length ≤ 1048576) (i : Nat) (hi : i ≤ 1000) : ∃ a, laws_at.f l (i : Int) = some a ∧ 0 ≤ a ∧ a ≤ 255 := by
  by_cases h : i < l.length
  · have hx := hb l[i] (List.getElem_mem h)
    refine ⟨_, ite_yes (by omega) (ite_yes (by omega) rfl), ?_⟩
    rw [rd_eq h, w64' (by omega) (by omega)]
    exact hx
  · refine ⟨_, ite_no (by omega) rfl, ?_⟩
    rw [show wrap64 ((wrap64 ((i : Int) * 13)) + (wrap64 ((l.length : Int) * 5))) = (i : Int) * 13 + (l.length : Int) * 5 by simp (disch := omega) only [w64'], tmod_pos (by omega)]
    omega


/-- The place of the first of the greatest. -/
def IsTop (l : List Int) (r : Nat) : Prop := r < l.length ∧ (∀ j, j < l.length → l.getD j 0 ≤ l.getD r 0) ∧ ∀ j, j < r → l.getD j 0 < l.getD r 0
theorem IsTop.one {l : List Int} {r s : Nat} (h : IsTop l r) (g : IsTop l s) : r = s := by
  obtain ⟨h1, h2, h3⟩ := h
  obtain ⟨g1, g2, g3⟩ := g
  rcases Nat.lt_trichotomy r s with e | e | e
  · have := g3 r e
    have := h2 s g1
    omega
  · exact e
  · have := h3 s e
    have := g2 r h1
    omega


theorem rdImp_eq {l : List S46} {i : Nat} (h : i < l.length) : rd_T46 l (i : Int) = l[i] := by
  unfold rd_T46
  simp [List.getD, h]
/-- The lists of a layer, of layers: within the law's bound. -/
def smallL (x : S46) : Prop := (x.f7.length : Int) ≤ 1048576 ∧ (x.f8.length : Int) ≤ 1048576
def smallI (l : List S46) : Prop := (l.length : Int) ≤ 1048576 ∧ ∀ x ∈ l, smallL x


def sameL (x y : S46) : Bool := sameLayer x.f0 x.f1 x.f2 x.f3 x.f4 x.f5 x.f6 x.f7 x.f8 y.f0 y.f1 y.f2 y.f3 y.f4 y.f5 y.f6 y.f7 y.f8
def sameLs : List S46 → List S46 → Bool
  | x :: a, y :: b => sameL x y && sameLs a b
  | [], [] => true
  | _, _ => false
def sameModel (h w c : Int) (a : List S46) (h' w' c' : Int) (b : List S46) : Bool := decide (h = h' ∧ w = w' ∧ c = c') && (decide (a.length = b.length) && sameLs a b)


theorem impl_Layer_impl_SameLayer_l0 (a b : List S46) (ha : smallI a) (hl : a.length = b.length) : ∀ (d i : Nat), i + d = a.length → Evp fun k => impl_Layer_impl_SameLayer.l0 k b a (a.length : Int) (i : Int) = some (sameLs (a.drop i) (b.drop i))
  | 0, i, hi => evSuc (evAll fun k => by
    simp only [impl_Layer_impl_SameLayer.l0]
    rw [if_neg (by omega), List.drop_eq_nil_of_le (by omega), List.drop_eq_nil_of_le (by omega)]
    rfl)
  | d + 1, i, hi => by
    have hlt : i < a.length := by omega
    have hlt' : i < b.length := by omega
    have hb := ha.1
    have hx := ha.2 a[i] (List.getElem_mem hlt)
    rw [List.drop_eq_getElem_cons hlt, List.drop_eq_getElem_cons hlt']
    simp only [sameLs]
    refine evSuc (evMono (evAnd (impl_SameLayer_ev a[i].f0 a[i].f1 a[i].f2 a[i].f3 a[i].f4 a[i].f5 a[i].f6 a[i].f7 a[i].f8 b[i].f0 b[i].f1 b[i].f2 b[i].f3 b[i].f4 b[i].f5 b[i].f6 b[i].f7 b[i].f8 (by have := hx.1; omega) (by have := hx.2; omega)) (impl_Layer_impl_SameLayer_l0 a b ha hl d (i + 1) (by omega))) fun k ⟨e, ih⟩ => ?_)
    simp only [impl_Layer_impl_SameLayer.l0]
    rw [if_pos (by omega), if_pos (by omega), if_pos (by omega), if_pos (by omega), rdImp_eq hlt, rdImp_eq hlt']
    refine bind_of e ?_
    cases hs : sameL a[i] b[i] with
    | true =>
      refine ite_yes hs ?_
      rw [w64' (by omega) (by omega)]
      exact ih
    | false => exact ite_no (by unfold sameL at hs; rw [hs]; simp) rfl


theorem impl_SameModel_ev (h w c h' w' c' : Int) (a b : List S46) (ha : smallI a) : Evp fun k => impl_SameModel.f k h w c a h' w' c' b = some (sameModel h w c a h' w' c' b) := by
  unfold sameModel
  by_cases hs : h = h' ∧ w = w' ∧ c = c'
  · rw [decide_eq_true hs]
    obtain ⟨rfl, rfl, rfl⟩ := hs
    by_cases hl : a.length = b.length
    · rw [decide_eq_true hl]
      refine evMono (impl_Layer_impl_SameLayer_l0 a b ha hl a.length 0 (by omega)) fun k e => ite_yes (by simp) (bind_of (ite_yes (by omega) e) (by simp))
    · rw [decide_eq_false hl]
      exact evAll fun k => ite_yes (by simp) (bind_of (ite_no (by omega) rfl) rfl)
  · rw [decide_eq_false hs]
    refine evAll fun k => ite_no (fun z => hs ?_) rfl
    simpa using z


theorem and_of {b c : Bool} {x y : Option Bool} (hx : b = true → x = some c) (hy : y = some false) : (if b = true then x else y) = some (b && c) := by
  cases b with
  | true => rw [if_pos rfl, hx rfl]; simp
  | false => rw [if_neg (by simp), hy]; simp
theorem and_ofP {P : Prop} [Decidable P] {c : Bool} {x y : Option Bool} (hx : P → x = some c) (hy : y = some false) : (if P then x else y) = some (decide P && c) := by
  by_cases h : P
  · rw [if_pos h, hx h]; simp [h]
  · rw [if_neg h, hy]; simp [h]
def rng (x lo hi : Int) : Bool := decide (lo ≤ x ∧ x ≤ hi)
theorem rng_iff {x lo hi : Int} : rng x lo hi = true ↔ lo ≤ x ∧ x ≤ hi := by simp [rng]
def biasB (l : List Int) : Bool := l.all fun x => rng x (-1000000) 1000000
def scaledB (ou mu sh ze : Int) (W B : List Int) (n : Int) : Bool :=
  rng ou 1 8 && (rng mu 0 2147483647 && (rng sh 0 31 && (rng ze (-128) 127 && (decide ((W.length : Int) = ou * n) && (itemsB W && (decide ((B.length : Int) = ou) && biasB B))))))
def bareB (ou mu sh : Int) (W B : List Int) : Bool := decide (ou = 0) && (decide (mu = 0) && (decide (sh = 0) && (decide ((W.length : Int) = 0) && decide ((B.length : Int) = 0))))
def noneB (sz st : Int) : Bool := decide (sz = 0) && decide (st = 0)
def windB (sz st h w : Int) : Bool := (rng sz 1 3 && (decide (sz ≤ h) && decide (sz ≤ w))) && rng st 1 2
def sh0 : Int × Int × Int × Bool := (0, 0, 0, false)
def outShape (h w c kd ou sz st mu sh ze : Int) (W B : List Int) : Int × Int × Int × Bool :=
  if shapeOk h w c = true then
    if kd = 0 then if h * w * c ≤ 64 ∧ noneB sz st = true ∧ scaledB ou mu sh ze W B (h * w * c) = true then (1, 1, ou, true) else sh0
    else if kd = 1 then if windB sz st h w = true ∧ (W.length : Int) ≤ 600 ∧ scaledB ou mu sh ze W B (sz * sz * c) = true then ((h - sz) / st + 1, (w - sz) / st + 1, ou, true) else sh0
    else if kd = 2 ∨ kd = 3 then if windB sz st h w = true ∧ bareB ou mu sh W B = true ∧ ze = 0 then ((h - sz) / st + 1, (w - sz) / st + 1, c, true) else sh0
    else if kd = 4 then if noneB sz st = true ∧ bareB ou mu sh W B = true ∧ rng ze (-128) 127 = true then (h, w, c, true) else sh0
    else if kd = 5 then if noneB sz st = true ∧ bareB ou mu sh W B = true ∧ ze = 0 ∧ h * w * c ≤ 8 then (1, 1, h * w * c, true) else sh0
    else sh0
  else sh0
theorem scaledB_iff {ou mu sh ze : Int} {W B : List Int} {n : Int} : scaledB ou mu sh ze W B n = true ↔ (1 ≤ ou ∧ ou ≤ 8) ∧ (0 ≤ mu ∧ mu ≤ 2147483647) ∧ (0 ≤ sh ∧ sh ≤ 31) ∧ (-128 ≤ ze ∧ ze ≤ 127) ∧ (W.length : Int) = ou * n ∧ itemsB W = true ∧ (B.length : Int) = ou ∧ biasB B = true := by
  simp only [scaledB, Bool.and_eq_true, rng_iff, decide_eq_true_eq]
theorem bareB_iff {ou mu sh : Int} {W B : List Int} : bareB ou mu sh W B = true ↔ ou = 0 ∧ mu = 0 ∧ sh = 0 ∧ (W.length : Int) = 0 ∧ (B.length : Int) = 0 := by
  simp only [bareB, Bool.and_eq_true, decide_eq_true_eq]
theorem noneB_iff {sz st : Int} : noneB sz st = true ↔ sz = 0 ∧ st = 0 := by
  simp only [noneB, Bool.and_eq_true, decide_eq_true_eq]
theorem windB_iff {sz st h w : Int} : windB sz st h w = true ↔ ((1 ≤ sz ∧ sz ≤ 3) ∧ sz ≤ h ∧ sz ≤ w) ∧ 1 ≤ st ∧ st ≤ 2 := by
  simp only [windB, Bool.and_eq_true, rng_iff, decide_eq_true_eq]
theorem shape_dims {h w c : Int} (hs : shapeOk h w c = true) : (1 ≤ h ∧ h ≤ 8) ∧ (1 ≤ w ∧ w ≤ 8) ∧ (1 ≤ c ∧ c ≤ 8) := by
  simpa [shapeOk] using hs
theorem win_dims {h sz st : Int} (h1 : h ≤ 8) (h2 : 1 ≤ sz) (h3 : sz ≤ h) (h4 : 1 ≤ st) : wrap64 ((wrap64 (Int.tdiv (wrap64 (h - sz)) st)) + 1) = (h - sz) / st + 1 := by
  rw [w64' (x := h - sz) (by omega) (by omega), tdiv_pos (by omega)]
  have h5 : 0 ≤ (h - sz) / st := Int.ediv_nonneg (by omega) (by omega)
  have h6 := Int.ediv_le_self (a := h - sz) st (by omega)
  rw [w64' (x := (h - sz) / st) (by omega) (by omega), w64' (by omega) (by omega)]
theorem small_mul {a n : Int} (h1 : 1 ≤ a) (h2 : a ≤ 8) (h3 : 0 ≤ n) (h4 : n ≤ 4096) : wrap64 (a * n) = a * n := by
  have := bnd_mul (a := a) (b := n) (A := 8) (B := 4096) (by omega) (by omega) (by omega) (by omega)
  exact w64' (by omega) (by omega)
theorem area_b {sz c : Int} (h1 : 1 ≤ sz) (h2 : sz ≤ 3) (h3 : 1 ≤ c) (h4 : c ≤ 8) : 0 ≤ sz * sz * c ∧ sz * sz * c ≤ 72 ∧ 0 ≤ sz * sz ∧ sz * sz ≤ 9 := by
  have a1 := Int.mul_nonneg (show 0 ≤ sz by omega) (show 0 ≤ sz by omega)
  have a2 := bnd_mul (a := sz) (b := sz) (A := 3) (B := 3) (by omega) (by omega) (by omega) (by omega)
  have a3 := Int.mul_nonneg a1 (show 0 ≤ c by omega)
  have a4 := bnd_mul (a := sz * sz) (b := c) (A := 9) (B := 8) (by omega) (by omega) (by omega) (by omega)
  omega


def valB (kd ze : Int) : Bool := if kd = 4 then rng ze (-128) 127 else decide (ze = 0)
def plainB (kd ou sz st mu sh ze : Int) (W B : List Int) (win wei : Bool) : Bool :=
  (if win = true then rng sz 1 3 && rng st 1 2 else noneB sz st) &&
  (if wei = true then rng ou 1 8 && (rng mu 0 2147483647 && (rng sh 0 31 && (rng ze (-128) 127 && (decide ((B.length : Int) = ou) && (biasB B && itemsB W))))) else bareB ou mu sh W B && valB kd ze)
theorem spec_l03Plain_l1 (kd ou sz st mu sh ze : Int) (W B : List Int) (hW : (W.length : Int) ≤ 9223372036854775807) : ∀ (d i : Nat), i + d = W.length → Evp fun k => spec_l03Plain.l1 k (i : Int) kd ou sz st mu sh ze W B = some ((W.drop i).all item8)
  | 0, i, hi => evSuc (evAll fun k => by
    simp only [spec_l03Plain.l1]
    rw [if_neg (by omega), List.drop_eq_nil_of_le (by omega)]
    rfl)
  | d + 1, i, hi => by
    have hlt : i < W.length := by omega
    refine evSuc (evMono (spec_l03Plain_l1 kd ou sz st mu sh ze W B hW d (i + 1) (by omega)) fun k ih => ?_)
    simp only [spec_l03Plain.l1]
    rw [if_pos (by omega), if_pos (by omega), rd_eq hlt, all_at hlt]
    refine bind_of (spec_l02Int8_eq _) (and_of (fun _ => ?_) rfl)
    rw [w64' (by omega) (by omega)]
    exact ih
theorem spec_l03Plain_l0 (kd ou sz st mu sh ze : Int) (W B : List Int) (hW : (W.length : Int) ≤ 9223372036854775807) (hB : (B.length : Int) ≤ 9223372036854775807) : ∀ (d i : Nat), i + d = B.length → Evp fun k => spec_l03Plain.l0 k (i : Int) kd ou sz st mu sh ze W B = some ((B.drop i).all (fun x => rng x (-1000000) 1000000) && itemsB W)
  | 0, i, hi => evSuc (evMono (spec_l03Plain_l1 kd ou sz st mu sh ze W B hW W.length 0 (by omega)) fun k e => by
    simp only [spec_l03Plain.l0]
    rw [if_neg (by omega), List.drop_eq_nil_of_le (by omega)]
    simpa [itemsB] using e)
  | d + 1, i, hi => by
    have hlt : i < B.length := by omega
    refine evSuc (evMono (spec_l03Plain_l0 kd ou sz st mu sh ze W B hW hB d (i + 1) (by omega)) fun k ih => ?_)
    simp only [spec_l03Plain.l0]
    rw [if_pos (by omega), if_pos (by omega), rd_eq hlt, all_at hlt, Bool.and_assoc]
    refine bind_of (spec_l01In_eq _ _ _) (and_of (fun _ => ?_) rfl)
    rw [w64' (by omega) (by omega)]
    exact ih
theorem spec_l03Plain_ev (kd ou sz st mu sh ze : Int) (W B : List Int) (win wei : Bool) (hW : (W.length : Int) ≤ 9223372036854775807) (hB : (B.length : Int) ≤ 9223372036854775807) : Evp fun k => spec_l03Plain.f k kd ou sz st mu sh ze W B win wei = some (plainB kd ou sz st mu sh ze W B win wei) := by
  have j1t : Evp fun k => spec_l03Plain.j1 k true kd ou sz st mu sh ze W B = some false := evSuc (evAll fun k => by
    simp only [spec_l03Plain.j1]
    exact ite_yes trivial rfl)
  have j4t : Evp fun k => spec_l03Plain.j4 k true kd ou sz st mu sh ze W B = some false := evSuc (evAll fun k => by
    simp only [spec_l03Plain.j4]
    exact ite_yes trivial rfl)
  have j1f : Evp fun k => spec_l03Plain.j1 k false kd ou sz st mu sh ze W B = some (biasB B && itemsB W) := evSuc (evMono (spec_l03Plain_l0 kd ou sz st mu sh ze W B hW hB B.length 0 (by omega)) fun k e => by
    simp only [spec_l03Plain.j1]
    refine ite_no (by simp) ?_
    rw [List.drop_zero] at e
    exact e)
  have j4f : Evp fun k => spec_l03Plain.j4 k false kd ou sz st mu sh ze W B = some (valB kd ze) := evSuc (evAll fun k => by
    simp only [spec_l03Plain.j4]
    refine ite_no (by simp) ?_
    unfold valB
    by_cases h4 : kd = 4
    · rw [if_pos h4, if_pos h4]
      exact bind_of (spec_l02Int8_eq _) rfl
    · rw [if_neg h4, if_neg h4]
      by_cases hz : ze = 0 <;> simp [hz])
  have j0 : Evp fun k => spec_l03Plain.j0 k wei kd ou sz st mu sh ze W B = some (if wei = true then rng ou 1 8 && (rng mu 0 2147483647 && (rng sh 0 31 && (rng ze (-128) 127 && (decide ((B.length : Int) = ou) && (biasB B && itemsB W))))) else bareB ou mu sh W B && valB kd ze) := evSuc (evMono (evAnd j1t (evAnd j1f (evAnd j4t j4f))) fun k ⟨a1, a2, a3, a4⟩ => by
    simp only [spec_l03Plain.j0]
    cases wei with
    | true =>
      rw [if_pos rfl, if_pos rfl]
      refine bind_of (spec_l01In_eq _ _ _) (and_of (fun _ => bind_of (spec_l01In_eq _ _ _) (and_of (fun _ => bind_of (spec_l01In_eq _ _ _) (and_of (fun _ => bind_of (spec_l02Int8_eq _) (and_of (fun _ => ?_) a1)) a1)) a1)) a1)
      by_cases hb : (B.length : Int) = ou
      · rw [show ((B.length : Int) != ou) = false by simp [hb], a2, decide_eq_true hb]
        rfl
      · rw [show ((B.length : Int) != ou) = true by simp [hb], a1, decide_eq_false hb]
        rfl
    | false =>
      rw [if_neg Bool.false_ne_true, if_neg Bool.false_ne_true]
      unfold bareB
      rw [Bool.and_assoc, Bool.and_assoc, Bool.and_assoc]
      refine and_ofP (fun _ => and_ofP (fun _ => and_ofP (fun _ => ?_) a3) a3) a3
      by_cases hw : (W.length : Int) > 0
      · rw [if_pos hw, a3, decide_eq_false (show ¬ (W.length : Int) = 0 by omega)]
        rfl
      · rw [if_neg hw, decide_eq_true (show (W.length : Int) = 0 by omega)]
        by_cases hb : (B.length : Int) > 0
        · rw [decide_eq_true hb, a3, decide_eq_false (show ¬ (B.length : Int) = 0 by omega)]
          rfl
        · rw [decide_eq_false hb, a4, decide_eq_true (show (B.length : Int) = 0 by omega)]
          rfl)
  refine evMono j0 fun k e => ?_
  unfold plainB spec_l03Plain.f
  cases win with
  | true =>
    rw [if_pos rfl, if_pos rfl, Bool.and_assoc]
    exact bind_of (spec_l01In_eq _ _ _) (and_of (fun _ => bind_of (spec_l01In_eq _ _ _) (and_of (fun _ => e) rfl)) rfl)
  | false =>
    rw [if_neg Bool.false_ne_true, if_neg Bool.false_ne_true]
    unfold noneB
    rw [Bool.and_assoc]
    exact and_ofP (fun _ => and_ofP (fun _ => e) rfl) rfl


theorem spec_OutShape_ev (h w c kd ou sz st mu sh ze : Int) (W B : List Int) (hW : (W.length : Int) ≤ 9223372036854775807) (hB : (B.length : Int) ≤ 9223372036854775807) : Evp fun k => spec_OutShape.f k h w c kd ou sz st mu sh ze W B = some (outShape h w c kd ou sz st mu sh ze W B) := by
  have j0t : Evp fun k => spec_OutShape.j0 k true h w c kd ou sz st mu sh ze W B 0 0 0 = some sh0 := evSuc (evAll fun k => by
    simp only [spec_OutShape.j0]
    exact ite_yes trivial rfl)
  by_cases hs : shapeOk h w c = true
  case neg =>
    refine evMono j0t fun k e => ?_
    unfold outShape
    rw [if_neg hs]
    exact bind_of (spec_ShapeOk_eq h w c) (ite_no hs e)
  by_cases hk : 0 ≤ kd ∧ kd ≤ 5
  case neg =>
    refine evMono j0t fun k e => ?_
    unfold outShape
    rw [if_pos hs, if_neg (by omega), if_neg (by omega), if_neg (by omega), if_neg (by omega), if_neg (by omega)]
    refine bind_of (spec_ShapeOk_eq h w c) (ite_yes hs (bind_of (spec_l01In_eq _ _ _) ?_))
    rw [decide_eq_false hk]
    exact e
  obtain ⟨dh, dw, dc⟩ := shape_dims hs
  have hsz := size_b hs
  have eS : spec_SizeOf.f h w c = some (h * w * c) := by
    rw [spec_SizeOf_eq]
    unfold sizeOf
    rw [if_pos hs]
  have pl := spec_l03Plain_ev kd ou sz st mu sh ze W B (rng kd 1 3) (decide (kd ≤ 1)) hW hB
  refine evMono (evSuc (p := fun k => spec_OutShape.j0 k false h w c kd ou sz st mu sh ze W B 0 0 0 = some (outShape h w c kd ou sz st mu sh ze W B)) (evMono (evAnd pl (evSuc (p := fun k => ∀ x y z, spec_OutShape.j1 k h w c kd ou sz st mu sh ze W B 0 0 0 x y z = (if kd = 0 then (if h * w * c > 64 then some sh0 else if (W.length : Int) = wrap64 (ou * (h * w * c)) then some (1, 1, ou, true) else some sh0) else if kd = 1 then (if (W.length : Int) = wrap64 (wrap64 (wrap64 (ou * sz) * sz) * c) then (if (W.length : Int) > 600 then some sh0 else some (x, y, ou, true)) else some sh0) else if kd = 5 then (if h * w * c > 8 then some sh0 else some (1, 1, h * w * c, true)) else some (x, y, z, true))) (evAll fun k x y z => ?_))) fun k ⟨e, j1⟩ => ?_)) fun k e => ?_
  · simp only [spec_OutShape.j1]
    rw [eS]
    simp only [Option.bind_some]
    rfl
  · simp only [spec_OutShape.j0]
    refine ite_no (by simp) (bind_of (spec_l01In_eq _ _ _) (bind_of e ?_))
    unfold outShape
    rw [if_pos hs]
    show (if plainB kd ou sz st mu sh ze W B (rng kd 1 3) (decide (kd ≤ 1)) = true then (if rng kd 1 3 = true then _ else _) else _) = _
    rcases (by omega : kd = 0 ∨ kd = 1 ∨ (kd = 2 ∨ kd = 3) ∨ kd = 4 ∨ kd = 5) with rfl | rfl | k23 | rfl | rfl
    · rw [show rng 0 1 3 = false from rfl, show decide ((0 : Int) ≤ 1) = true from rfl, if_pos (rfl : (0 : Int) = 0)]
      by_cases hp : plainB 0 ou sz st mu sh ze W B false true = true
      · rw [if_pos hp, if_neg Bool.false_ne_true, j1, if_pos (rfl : (0 : Int) = 0)]
        simp only [plainB, Bool.and_eq_true, rng_iff, decide_eq_true_eq, if_true, Bool.false_eq_true, if_false] at hp
        obtain ⟨p1, p2, p3, p4, p5, p6, p7, p8⟩ := hp
        rw [small_mul (by omega) (by omega) (by omega) (by omega)]
        by_cases c1 : h * w * c > 64
        · rw [if_pos c1, if_neg (fun z => by omega)]
        · rw [if_neg c1]
          by_cases c2 : (W.length : Int) = ou * (h * w * c)
          · rw [if_pos c2, if_pos ⟨by omega, p1, scaledB_iff.2 ⟨p2, p3, p4, p5, c2, p8, p6, p7⟩⟩]
          · rw [if_neg c2, if_neg (fun z => c2 (scaledB_iff.1 z.2.2).2.2.2.2.1)]
      · rw [if_neg hp, if_neg (fun z => hp ?_)]
        · rfl
        · obtain ⟨q1, q2, q3, q4, q5, q6, q7, q8⟩ := scaledB_iff.1 z.2.2
          simp only [plainB, Bool.and_eq_true, rng_iff, decide_eq_true_eq, if_true, Bool.false_eq_true, if_false]
          exact ⟨z.2.1, q1, q2, q3, q4, q7, q8, q6⟩
    · rw [show rng 1 1 3 = true from rfl, show decide ((1 : Int) ≤ 1) = true from rfl, if_neg (show ¬ (1 : Int) = 0 by decide), if_pos (rfl : (1 : Int) = 1)]
      by_cases hp : plainB 1 ou sz st mu sh ze W B true true = true
      · rw [if_pos hp, if_pos rfl]
        simp only [plainB, Bool.and_eq_true, rng_iff, decide_eq_true_eq, if_true] at hp
        obtain ⟨⟨p0, p1⟩, p2, p3, p4, p5, p6, p7, p8⟩ := hp
        have ar := area_b p0.1 p0.2 dc.1 dc.2
        by_cases c1 : sz > h
        · rw [if_pos c1, if_neg (fun z => by have := windB_iff.1 z.1; omega)]
          rfl
        rw [if_neg c1]
        by_cases c2 : sz > w
        · rw [if_pos c2, if_neg (fun z => by have := windB_iff.1 z.1; omega)]
          rfl
        rw [if_neg c2, if_neg (show ¬ st = 0 by omega), j1, if_neg (show ¬ (1 : Int) = 0 by decide), if_pos (rfl : (1 : Int) = 1), win_dims (by omega) (by omega) (by omega) (by omega), win_dims (by omega) (by omega) (by omega) (by omega)]
        have e3 : wrap64 (wrap64 (wrap64 (ou * sz) * sz) * c) = ou * (sz * sz * c) := by
          have b1 := bnd_mul (a := ou) (b := sz) (A := 8) (B := 3) (by omega) (by omega) (by omega) (by omega)
          have b2 := bnd_mul (a := ou * sz) (b := sz) (A := 24) (B := 3) (by omega) (by omega) (by omega) (by omega)
          have b3 := bnd_mul (a := ou * sz * sz) (b := c) (A := 72) (B := 8) (by omega) (by omega) (by omega) (by omega)
          rw [w64' (x := ou * sz) (by omega) (by omega), w64' (x := ou * sz * sz) (by omega) (by omega), w64' (by omega) (by omega)]
          ac_rfl
        rw [e3]
        by_cases c3 : (W.length : Int) = ou * (sz * sz * c)
        · rw [if_pos c3]
          by_cases c4 : (W.length : Int) > 600
          · rw [if_pos c4, if_neg (fun z => by omega)]
          · rw [if_neg c4, if_pos ⟨windB_iff.2 ⟨⟨p0, by omega, by omega⟩, p1⟩, by omega, scaledB_iff.2 ⟨p2, p3, p4, p5, c3, p8, p6, p7⟩⟩]
        · rw [if_neg c3, if_neg (fun z => c3 (scaledB_iff.1 z.2.2).2.2.2.2.1)]
      · rw [if_neg hp, if_neg (fun z => hp ?_)]
        · rfl
        · obtain ⟨q1, q2, q3, q4, q5, q6, q7, q8⟩ := scaledB_iff.1 z.2.2
          obtain ⟨⟨w1, w2, w3⟩, w4⟩ := windB_iff.1 z.1
          simp only [plainB, Bool.and_eq_true, rng_iff, decide_eq_true_eq, if_true]
          exact ⟨⟨w1, w4⟩, q1, q2, q3, q4, q7, q8, q6⟩
    · have hr : rng kd 1 3 = true := rng_iff.2 (by omega)
      have hd : decide (kd ≤ 1) = false := decide_eq_false (by omega)
      have hv : valB kd ze = decide (ze = 0) := by unfold valB; rw [if_neg (by omega)]
      rw [hr, hd, if_neg (show ¬ kd = 0 by omega), if_neg (show ¬ kd = 1 by omega), if_pos k23]
      by_cases hp : plainB kd ou sz st mu sh ze W B true false = true
      · rw [if_pos hp, if_pos rfl]
        simp only [plainB, Bool.and_eq_true, rng_iff, decide_eq_true_eq, if_true, Bool.false_eq_true, if_false, hv] at hp
        obtain ⟨⟨p0, p1⟩, p2, p3⟩ := hp
        by_cases c1 : sz > h
        · rw [if_pos c1, if_neg (fun z => by have := windB_iff.1 z.1; omega)]
          rfl
        rw [if_neg c1]
        by_cases c2 : sz > w
        · rw [if_pos c2, if_neg (fun z => by have := windB_iff.1 z.1; omega)]
          rfl
        rw [if_neg c2, if_neg (show ¬ st = 0 by omega), j1, if_neg (show ¬ kd = 0 by omega), if_neg (show ¬ kd = 1 by omega), if_neg (show ¬ kd = 5 by omega), win_dims (by omega) (by omega) (by omega) (by omega), win_dims (by omega) (by omega) (by omega) (by omega), if_pos ⟨windB_iff.2 ⟨⟨p0, by omega, by omega⟩, p1⟩, p2, p3⟩]
      · rw [if_neg hp, if_neg (fun z => hp ?_)]
        · rfl
        · obtain ⟨⟨w1, w2, w3⟩, w4⟩ := windB_iff.1 z.1
          simp only [plainB, Bool.and_eq_true, rng_iff, decide_eq_true_eq, if_true, Bool.false_eq_true, if_false, hv]
          exact ⟨⟨w1, w4⟩, z.2.1, z.2.2⟩
    · rw [show rng 4 1 3 = false from rfl, show decide ((4 : Int) ≤ 1) = false from rfl, if_neg (show ¬ (4 : Int) = 0 by decide), if_neg (show ¬ (4 : Int) = 1 by decide), if_neg (show ¬ ((4 : Int) = 2 ∨ (4 : Int) = 3) by decide), if_pos (rfl : (4 : Int) = 4)]
      by_cases hp : plainB 4 ou sz st mu sh ze W B false false = true
      · rw [if_pos hp, if_neg Bool.false_ne_true, j1, if_neg (show ¬ (4 : Int) = 0 by decide), if_neg (show ¬ (4 : Int) = 1 by decide), if_neg (show ¬ (4 : Int) = 5 by decide)]
        simp only [plainB, Bool.and_eq_true, Bool.false_eq_true, if_false] at hp
        rw [if_pos ⟨hp.1, hp.2.1, hp.2.2⟩]
      · rw [if_neg hp, if_neg (fun z => hp ?_)]
        · rfl
        · simp only [plainB, Bool.and_eq_true, Bool.false_eq_true, if_false]
          exact ⟨z.1, z.2.1, z.2.2⟩
    · rw [show rng 5 1 3 = false from rfl, show decide ((5 : Int) ≤ 1) = false from rfl, if_neg (show ¬ (5 : Int) = 0 by decide), if_neg (show ¬ (5 : Int) = 1 by decide), if_neg (show ¬ ((5 : Int) = 2 ∨ (5 : Int) = 3) by decide), if_neg (show ¬ (5 : Int) = 4 by decide), if_pos (rfl : (5 : Int) = 5)]
      have hv : valB 5 ze = decide (ze = 0) := rfl
      by_cases hp : plainB 5 ou sz st mu sh ze W B false false = true
      · rw [if_pos hp, if_neg Bool.false_ne_true, j1, if_neg (show ¬ (5 : Int) = 0 by decide), if_neg (show ¬ (5 : Int) = 1 by decide), if_pos (rfl : (5 : Int) = 5)]
        simp only [plainB, Bool.and_eq_true, Bool.false_eq_true, if_false, hv, decide_eq_true_eq] at hp
        by_cases c1 : h * w * c > 8
        · rw [if_pos c1, if_neg (fun z => by omega)]
        · rw [if_neg c1, if_pos ⟨hp.1, hp.2.1, hp.2.2, by omega⟩]
      · rw [if_neg hp, if_neg (fun z => hp ?_)]
        · rfl
        · simp only [plainB, Bool.and_eq_true, Bool.false_eq_true, if_false, hv, decide_eq_true_eq]
          exact ⟨z.1, z.2.1, z.2.2.1⟩
  · refine bind_of (spec_ShapeOk_eq h w c) (ite_yes hs (bind_of (spec_l01In_eq _ _ _) ?_))
    rw [decide_eq_true hk]
    exact e


theorem impl_Layer_isScaled_1_eq (x : Int) : impl_Layer_isScaled_1.f x = some (!rng x (-1000000) 1000000) := by
  unfold impl_Layer_isScaled_1.f
  rw [impl_in_eq]
  rfl


theorem indexBias_l0 (l : List Int) (hl : l.length ≤ 9223372036854775807) : ∀ (d i : Nat), i + d = l.length → ∃ r, (Evp fun k => slices_IndexFunc_int_int_impl_Layer_isScaled_1.l0 k l (l.length : Int) (i : Int) = some r) ∧ (decide (r ≥ 0) = !(l.drop i).all fun x => rng x (-1000000) 1000000)
  | 0, i, hi => ⟨-1, evSuc (evAll fun k => by
    simp only [slices_IndexFunc_int_int_impl_Layer_isScaled_1.l0]
    rw [if_neg (by omega)]), by rw [List.drop_eq_nil_of_le (by omega)]; rfl⟩
  | d + 1, i, hi => by
    have hlt : i < l.length := by omega
    rw [all_at hlt]
    cases hx : rng l[i] (-1000000) 1000000 with
    | true =>
      obtain ⟨r, h1, h2⟩ := indexBias_l0 l hl d (i + 1) (by omega)
      refine ⟨r, evSuc (evMono h1 fun k ih => ?_), by simpa using h2⟩
      simp only [slices_IndexFunc_int_int_impl_Layer_isScaled_1.l0]
      rw [if_pos (by omega), if_pos (by omega), if_pos (by omega), rd_eq hlt, impl_Layer_isScaled_1_eq, hx]
      simp only [Option.bind_some]
      rw [if_neg (by simp), w64' (by omega) (by omega)]
      exact ih
    | false =>
      refine ⟨(i : Int), evSuc (evAll fun k => ?_), by simp⟩
      simp only [slices_IndexFunc_int_int_impl_Layer_isScaled_1.l0]
      rw [if_pos (by omega), if_pos (by omega), if_pos (by omega), rd_eq hlt, impl_Layer_isScaled_1_eq, hx]
      simp


theorem impl_Layer_isScaled_ev (kd ou sz st mu sh ze : Int) (W B : List Int) (n : Int) (hW : (W.length : Int) ≤ 9223372036854775807) (hB : (B.length : Int) ≤ 9223372036854775807) (hn : 0 ≤ n ∧ n ≤ 4096) : Evp fun k => impl_Layer_isScaled.f k kd ou sz st mu sh ze W B n = some (scaledB ou mu sh ze W B n) := by
  obtain ⟨r, h1, h2⟩ := indexBias_l0 B (by omega) B.length 0 (by omega)
  refine evMono (evAnd (impl_areItems_ev W (by omega)) h1) fun k ⟨e1, e2⟩ => ?_
  have e3 : slices_ContainsFunc_int_int_impl_Layer_isScaled_1.f k B = some (!biasB B) := bind_of (f := fun t => some (decide (t ≥ 0))) e2 (by rw [h2]; rfl)
  unfold scaledB
  refine bind_of (impl_in_eq _ _ _) (and_of (fun z => bind_of (impl_in_eq _ _ _) (and_of (fun _ => bind_of (impl_in_eq _ _ _) (and_of (fun _ => bind_of (impl_in_eq _ _ _) (and_of (fun _ => ?_) rfl)) rfl)) rfl)) rfl)
  have z' : 1 ≤ ou ∧ ou ≤ 8 := of_decide_eq_true z
  rw [small_mul z'.1 z'.2 hn.1 hn.2]
  exact and_ofP (fun _ => bind_of e1 (and_of (fun _ => and_ofP (fun _ => bind_of e3 (by simp)) rfl) rfl)) rfl


theorem impl_Layer_isWindow_eq (kd ou sz st mu sh ze : Int) (W B : List Int) (h w c : Int) : impl_Layer_isWindow.f kd ou sz st mu sh ze W B h w c = some (windB sz st h w) := by
  refine bind_of (impl_in_eq _ _ _) ?_
  have e : decide (1 ≤ sz ∧ sz ≤ mn (mn 3 h) w) = (rng sz 1 3 && (decide (sz ≤ h) && decide (sz ≤ w))) := by
    rw [Bool.eq_iff_iff]
    simp only [rng, Bool.and_eq_true, decide_eq_true_eq]
    unfold mn
    repeat' split
    all_goals omega
  rw [e]
  exact and_of (fun _ => bind_of (impl_in_eq _ _ _) rfl) rfl
theorem impl_Layer_isBare_eq (kd ou sz st mu sh ze : Int) (W B : List Int) : impl_Layer_isBare.f kd ou sz st mu sh ze W B = some (bareB ou mu sh W B) :=
  and_ofP (fun _ => and_ofP (fun _ => and_ofP (fun _ => and_ofP (fun _ => rfl) rfl) rfl) rfl) rfl
theorem impl_Layer_hasNone_eq (kd ou sz st mu sh ze : Int) (W B : List Int) : impl_Layer_hasNone.f kd ou sz st mu sh ze W B = some (noneB sz st) :=
  and_ofP (fun _ => rfl) rfl
theorem impl_Layer_windows_eq (kd ou sz st mu sh ze : Int) (W B : List Int) (h w c x : Int) (h1 : h ≤ 8) (w1 : w ≤ 8) (hw : windB sz st h w = true) : impl_Layer_windows.f kd ou sz st mu sh ze W B h w c x = some ((h - sz) / st + 1, (w - sz) / st + 1, x) := by
  obtain ⟨⟨z1, z2, z3⟩, z4⟩ := windB_iff.1 hw
  refine ite_no (by omega) ?_
  rw [win_dims (by omega) (by omega) (by omega) (by omega), win_dims (by omega) (by omega) (by omega) (by omega)]
theorem ite3 {α : Type} {A B C : Prop} [Decidable A] [Decidable B] [Decidable C] {x y : α} : (if A ∧ B ∧ C then x else y) = (if A then (if B then (if C then x else y) else y) else y) := by
  by_cases a : A <;> by_cases b : B <;> by_cases c : C <;> simp [a, b, c]
theorem ite2 {α : Type} {A B : Prop} [Decidable A] [Decidable B] {x y : α} : (if A ∧ B then x else y) = (if A then (if B then x else y) else y) := by
  by_cases a : A <;> by_cases b : B <;> simp [a, b]
theorem ite_some {β : Type} {P : Prop} [Decidable P] {x y : Option β} {a b : β} (hx : P → x = some a) (hy : ¬ P → y = some b) : (if P then x else y) = some (if P then a else b) := by
  by_cases h : P
  · rw [if_pos h, if_pos h, hx h]
  · rw [if_neg h, if_neg h, hy h]
theorem impl_OutShape_ev (h w c kd ou sz st mu sh ze : Int) (W B : List Int) (hW : (W.length : Int) ≤ 9223372036854775807) (hB : (B.length : Int) ≤ 9223372036854775807) : Evp fun k => impl_OutShape.f k h w c kd ou sz st mu sh ze W B = some (outShape h w c kd ou sz st mu sh ze W B) := by
  by_cases hs : shapeOk h w c = true
  case neg =>
    refine evAll fun k => ?_
    unfold outShape
    rw [if_neg hs]
    exact bind_of (impl_ShapeOk_eq h w c) (ite_no hs rfl)
  obtain ⟨dh, dw, dc⟩ := shape_dims hs
  have hsz := size_b hs
  have eS : impl_SizeOf.f h w c = some (h * w * c) := by
    rw [impl_SizeOf_eq]
    unfold sizeOf
    rw [if_pos hs]
  unfold outShape
  rw [if_pos hs]
  by_cases k0 : kd = 0
  · rw [if_pos k0, ite3]
    exact evMono (impl_Layer_isScaled_ev kd ou sz st mu sh ze W B (h * w * c) hW hB (by omega)) fun k e => bind_of (impl_ShapeOk_eq h w c) (ite_yes hs (bind_of eS (ite_yes k0 (ite_some (fun _ => bind_of (impl_Layer_hasNone_eq _ _ _ _ _ _ _ _ _) (ite_some (fun _ => bind_of e (ite_some (fun _ => rfl) fun _ => rfl)) fun _ => rfl)) fun _ => rfl))))
  rw [if_neg k0]
  by_cases k1 : kd = 1
  · rw [if_pos k1]
    by_cases c1 : windB sz st h w = true
    · obtain ⟨⟨z1, z2, z3⟩, z4⟩ := windB_iff.1 c1
      have ar := area_b z1.1 z1.2 dc.1 dc.2
      rw [ite3, if_pos c1]
      refine evMono (impl_Layer_isScaled_ev kd ou sz st mu sh ze W B (sz * sz * c) hW hB (by omega)) fun k e => bind_of (impl_ShapeOk_eq h w c) (ite_yes hs (bind_of eS (ite_no k0 (ite_yes k1 (bind_of (impl_Layer_isWindow_eq _ _ _ _ _ _ _ _ _ _ _ _) (ite_yes c1 (ite_some (fun c2 => ?_) fun _ => rfl)))))))
      rw [show wrap64 ((wrap64 (sz * sz)) * c) = sz * sz * c by rw [w64' (x := sz * sz) (by omega) (by omega), w64' (by omega) (by omega)]]
      exact bind_of e (ite_some (fun c3 => bind_of (impl_Layer_windows_eq kd ou sz st mu sh ze W B h w c ou (by omega) (by omega) c1) rfl) fun _ => rfl)
    · refine evAll fun k => bind_of (impl_ShapeOk_eq h w c) (ite_yes hs (bind_of eS (ite_no k0 (ite_yes k1 (bind_of (impl_Layer_isWindow_eq _ _ _ _ _ _ _ _ _ _ _ _) (ite_no c1 ?_))))))
      rw [if_neg (fun z => c1 z.1)]
      rfl
  rw [if_neg k1]
  have jt : Evp fun k => impl_OutShape.j0 k (h * w * c) kd true h w c kd ou sz st mu sh ze W B = some (if windB sz st h w = true ∧ bareB ou mu sh W B = true ∧ ze = 0 then ((h - sz) / st + 1, (w - sz) / st + 1, c, true) else sh0) := evSuc (evAll fun k => by
    rw [ite3]
    simp only [impl_OutShape.j0]
    exact ite_yes trivial (bind_of (impl_Layer_isWindow_eq _ _ _ _ _ _ _ _ _ _ _ _) (ite_some (fun c1 => bind_of (impl_Layer_isBare_eq _ _ _ _ _ _ _ _ _) (ite_some (fun c2 => ite_some (fun c3 => bind_of (impl_Layer_windows_eq kd ou sz st mu sh ze W B h w c c (by omega) (by omega) c1) rfl) fun _ => rfl) fun _ => rfl)) fun _ => rfl)))
  by_cases k2 : kd = 2
  · rw [if_pos (Or.inl k2)]
    refine evMono jt fun k e => bind_of (impl_ShapeOk_eq h w c) (ite_yes hs (bind_of eS (ite_no k0 (ite_no k1 (ite_yes k2 ?_)))))
    rw [show (kd == 2) = true by simp [k2]]
    exact e
  by_cases k3 : kd = 3
  · rw [if_pos (Or.inr k3)]
    refine evMono jt fun k e => bind_of (impl_ShapeOk_eq h w c) (ite_yes hs (bind_of eS (ite_no k0 (ite_no k1 (ite_no k2 ?_)))))
    rw [show (kd == 3) = true by simp [k3]]
    exact e
  rw [if_neg (show ¬ (kd = 2 ∨ kd = 3) by omega)]
  refine evMono (evSuc (p := fun k => impl_OutShape.j0 k (h * w * c) kd false h w c kd ou sz st mu sh ze W B = some (if kd = 4 then if noneB sz st = true ∧ bareB ou mu sh W B = true ∧ rng ze (-128) 127 = true then (h, w, c, true) else sh0
    else if kd = 5 then if noneB sz st = true ∧ bareB ou mu sh W B = true ∧ ze = 0 ∧ h * w * c ≤ 8 then (1, 1, h * w * c, true) else sh0
    else sh0)) (evAll fun k => ?_)) fun k e => bind_of (impl_ShapeOk_eq h w c) (ite_yes hs (bind_of eS (ite_no k0 (ite_no k1 (ite_no k2 ?_)))))
  · rw [ite3, ite3, ite2]
    simp only [impl_OutShape.j0]
    exact ite_no Bool.false_ne_true (ite_some (fun _ => bind_of (impl_Layer_hasNone_eq _ _ _ _ _ _ _ _ _) (ite_some (fun _ => bind_of (impl_Layer_isBare_eq _ _ _ _ _ _ _ _ _) (ite_some (fun _ => bind_of (impl_in_eq _ _ _) (ite_some (fun _ => rfl) fun _ => rfl)) fun _ => rfl)) fun _ => rfl)) fun _ =>
      ite_some (fun _ => bind_of (impl_Layer_hasNone_eq _ _ _ _ _ _ _ _ _) (ite_some (fun _ => bind_of (impl_Layer_isBare_eq _ _ _ _ _ _ _ _ _) (ite_some (fun _ => ite_some (fun _ => ite_some (fun _ => rfl) fun _ => rfl) fun _ => rfl) fun _ => rfl)) fun _ => rfl)) fun _ => rfl)
  · rw [show (kd == 3) = false by simp [k3]]
    exact e


theorem rdShape_eq {l : List S24} {i : Nat} (h : i < l.length) : rd_T24 l (i : Int) = l[i] := by
  unfold rd_T24
  simp [List.getD, h]
def outOf (s : S24) (x : S46) : Int × Int × Int × Bool := outShape s.f0 s.f1 s.f2 x.f0 x.f1 x.f2 x.f3 x.f4 x.f5 x.f6 x.f7 x.f8
def shapeOf (X : Int × Int × Int × Bool) : S24 := ⟨X.1, X.2.1, X.2.2.1⟩
def shapesOf (s : S24) : List S46 → Option (List S24)
  | [] => some []
  | x :: l => if (outOf s x).2.2.2 = true then (shapesOf (shapeOf (outOf s x)) l).map (shapeOf (outOf s x) :: ·) else none
def withAcc (acc : List S24) : Option (List S24) → List S24 × Bool
  | some o => (acc ++ o, true)
  | none => ([], false)
def modelShapes (s : S24) (l : List S46) : List S24 × Bool := if 1 ≤ (l.length : Int) ∧ (l.length : Int) ≤ 6 then withAcc [s] (shapesOf s l) else ([], false)
theorem withAcc_cons {acc : List S24} {t : S24} (o : Option (List S24)) : withAcc acc (o.map (t :: ·)) = withAcc (acc ++ [t]) o := by
  cases o <;> simp [withAcc]
theorem outOf_bad {s : S24} (x : S46) (h : ¬ shapeOk s.f0 s.f1 s.f2 = true) : (outOf s x).2.2.2 = false := by
  unfold outOf outShape
  rw [if_neg h]
  rfl
theorem spec_l04Shapes_l0 (h w c : Int) (l : List S46) (hl : smallI l) : ∀ (d i : Nat) (acc : List S24) (s : S24), i + d = l.length → acc.length = i → Evp fun k => spec_l04Shapes.l0 k (acc ++ [s]) (i : Int) h w c l = some (withAcc (acc ++ [s]) (shapesOf s (l.drop i)))
  | 0, i, acc, s, hi, ha => evSuc (evAll fun k => by
    simp only [spec_l04Shapes.l0]
    rw [if_neg (by omega), List.drop_eq_nil_of_le (by omega)]
    simp [shapesOf, withAcc])
  | d + 1, i, acc, s, hi, ha => by
    have hlt : i < l.length := by omega
    have hb := hl.1
    have hx := hl.2 l[i] (List.getElem_mem hlt)
    have hr : rd_T24 (acc ++ [s]) (i : Int) = s := by
      rw [rdShape_eq (by simp; omega)]
      subst ha
      simp
    rw [List.drop_eq_getElem_cons hlt]
    simp only [shapesOf]
    have e0 := spec_OutShape_ev s.f0 s.f1 s.f2 l[i].f0 l[i].f1 l[i].f2 l[i].f3 l[i].f4 l[i].f5 l[i].f6 l[i].f7 l[i].f8 (by have := hx.1; omega) (by have := hx.2; omega)
    by_cases hok : (outOf s l[i]).2.2.2 = true
    · rw [if_pos hok, withAcc_cons]
      refine evSuc (evMono (evAnd e0 (spec_l04Shapes_l0 h w c l hl d (i + 1) (acc ++ [s]) (shapeOf (outOf s l[i])) (by omega) (by simp; omega))) fun k ⟨e, ih⟩ => ?_)
      simp only [spec_l04Shapes.l0]
      rw [if_pos (by omega), if_pos (by omega), if_pos (by simp; omega), hr, rdImp_eq hlt]
      refine bind_of e (ite_yes hok (ite_yes (by simp; omega) ?_))
      rw [w64' (by omega) (by omega)]
      exact ih
    · rw [if_neg hok]
      refine evSuc (evMono e0 fun k e => ?_)
      simp only [spec_l04Shapes.l0]
      rw [if_pos (by omega), if_pos (by omega), if_pos (by simp; omega), hr, rdImp_eq hlt]
      exact bind_of e (ite_no hok rfl)
theorem spec_l04Shapes_ev (s : S24) (l : List S46) (hl : smallI l) : Evp fun k => spec_l04Shapes.f k s.f0 s.f1 s.f2 l = some (modelShapes s l) := by
  have jt : Evp fun k => spec_l04Shapes.j0 k [s] true s.f0 s.f1 s.f2 l = some ([], false) := evSuc (evAll fun k => by
    simp only [spec_l04Shapes.j0]
    exact ite_yes trivial rfl)
  have jf : Evp fun k => spec_l04Shapes.j0 k [s] false s.f0 s.f1 s.f2 l = some (withAcc [s] (shapesOf s l)) := evSuc (evMono (spec_l04Shapes_l0 s.f0 s.f1 s.f2 l hl l.length 0 [] s (by omega) rfl) fun k e => by
    simp only [spec_l04Shapes.j0]
    exact ite_no Bool.false_ne_true e)
  unfold modelShapes
  by_cases hn : 1 ≤ (l.length : Int) ∧ (l.length : Int) ≤ 6
  · rw [if_pos hn]
    by_cases hs : shapeOk s.f0 s.f1 s.f2 = true
    · refine evMono jf fun k e => bind_of (a := [s]) rfl (bind_of (spec_ShapeOk_eq _ _ _) (ite_yes hs (bind_of (spec_l01In_eq _ _ _) ?_)))
      rw [decide_eq_true hn]
      exact e
    · have e0 : shapesOf s l = none := by
        cases l with
        | nil => simp at hn
        | cons x l =>
          simp only [shapesOf]
          rw [if_neg (by rw [outOf_bad x hs]; exact Bool.false_ne_true)]
      rw [e0]
      exact evMono jt fun k e => bind_of (a := [s]) rfl (bind_of (spec_ShapeOk_eq _ _ _) (ite_no hs e))
  · rw [if_neg hn]
    by_cases hs : shapeOk s.f0 s.f1 s.f2 = true
    · refine evMono jt fun k e => bind_of (a := [s]) rfl (bind_of (spec_ShapeOk_eq _ _ _) (ite_yes hs (bind_of (spec_l01In_eq _ _ _) ?_)))
      rw [decide_eq_false hn]
      exact e
    · exact evMono jt fun k e => bind_of (a := [s]) rfl (bind_of (spec_ShapeOk_eq _ _ _) (ite_no hs e))


theorem impl_Model_shapes_l0 (l : List S46) (hl : smallI l) : ∀ (d i : Nat) (acc : List S24) (s : S24), i + d = l.length → acc.length = i + 1 → Evp fun k => impl_Model_shapes.l0 k acc l (l.length : Int) (i : Int) s.f0 s.f1 s.f2 = some (withAcc acc (shapesOf s (l.drop i)))
  | 0, i, acc, s, hi, ha => evSuc (evAll fun k => by
    simp only [impl_Model_shapes.l0]
    rw [if_neg (by omega), List.drop_eq_nil_of_le (by omega)]
    simp [shapesOf, withAcc])
  | d + 1, i, acc, s, hi, ha => by
    have hlt : i < l.length := by omega
    have hb := hl.1
    have hx := hl.2 l[i] (List.getElem_mem hlt)
    rw [List.drop_eq_getElem_cons hlt]
    simp only [shapesOf]
    have e0 := impl_OutShape_ev s.f0 s.f1 s.f2 l[i].f0 l[i].f1 l[i].f2 l[i].f3 l[i].f4 l[i].f5 l[i].f6 l[i].f7 l[i].f8 (by have := hx.1; omega) (by have := hx.2; omega)
    by_cases hok : (outOf s l[i]).2.2.2 = true
    · rw [if_pos hok, withAcc_cons]
      refine evSuc (evMono (evAnd e0 (impl_Model_shapes_l0 l hl d (i + 1) (acc ++ [shapeOf (outOf s l[i])]) (shapeOf (outOf s l[i])) (by omega) (by simp; omega))) fun k ⟨e, ih⟩ => ?_)
      simp only [impl_Model_shapes.l0]
      rw [if_pos (by omega), if_pos (by omega), if_pos (by omega), rdImp_eq hlt]
      refine bind_of e (ite_yes hok (ite_yes (by omega) ?_))
      rw [w64' (by omega) (by omega)]
      exact ih
    · rw [if_neg hok]
      refine evSuc (evMono e0 fun k e => ?_)
      simp only [impl_Model_shapes.l0]
      rw [if_pos (by omega), if_pos (by omega), if_pos (by omega), rdImp_eq hlt]
      exact bind_of e (ite_no hok rfl)
theorem impl_Model_shapes_ev (s : S24) (l : List S46) (hl : smallI l) : Evp fun k => impl_Model_shapes.f k s.f0 s.f1 s.f2 l = some (withAcc [s] (shapesOf s l)) :=
  evMono (impl_Model_shapes_l0 l hl l.length 0 [s] s (by omega) rfl) fun k e => e


theorem impl_ModelOk_ev (s : S24) (l : List S46) (hl : smallI l) : Evp fun k => impl_ModelOk.f k s.f0 s.f1 s.f2 l = some (modelShapes s l).2 := by
  unfold modelShapes
  by_cases hn : 1 ≤ (l.length : Int) ∧ (l.length : Int) ≤ 6
  · rw [if_pos hn]
    exact evMono (impl_Model_shapes_ev s l hl) fun k e => bind_of (impl_in_eq _ _ _) (ite_yes (decide_eq_true hn) (bind_of e rfl))
  · rw [if_neg hn]
    exact evAll fun k => bind_of (impl_in_eq _ _ _) (ite_no (fun z => hn (of_decide_eq_true z)) rfl)


theorem spec_ModelOk_ev (s : S24) (l : List S46) (hl : smallI l) : Evp fun k => spec_ModelOk.f k s.f0 s.f1 s.f2 l = some (modelShapes s l).2 :=
  evMono (spec_l04Shapes_ev s l hl) fun k e => bind_of e rfl


def inW (y : Int) : Prop := -1099511627776 ≤ y ∧ y ≤ 1099511627775
def numsL (x : S46) : List Int := [x.f0, x.f1, x.f2, x.f3, x.f4, x.f5, x.f6]
def wideL (x : S46) : Prop := (∀ y ∈ numsL x, inW y) ∧ (∀ y ∈ x.f7, inW y) ∧ ∀ y ∈ x.f8, inW y
def layerBytes (x : S46) : List Int := ((((numsL x).flatMap putWide ++ putWide (x.f7.length : Int)) ++ x.f7.flatMap putWide) ++ putWide (x.f8.length : Int)) ++ x.f8.flatMap putWide
def headBytes (s : S24) (n : Int) : List Int := [80, 77, 49] ++ [s.f0, s.f1, s.f2, n].flatMap putWide
def encBytes (s : S24) (l : List S46) : List Int := headBytes s (l.length : Int) ++ l.flatMap layerBytes
def encFull (s : S24) (l : List S46) : List Int := encBytes s l ++ putWide (sumOf (encBytes s l))
def encodeM (s : S24) (l : List S46) : List Int × Bool := if (modelShapes s l).2 = true then if ((encFull s l).length : Int) > 6000 then ([], false) else (encFull s l, true) else ([], false)
theorem putGo_bytes : ∀ (d : Nat) (u : Int), isBytes (putGo d u)
  | 0, u => fun x hx => by
    simp only [putGo, List.mem_singleton] at hx
    omega
  | d + 1, u => fun x hx => by
    unfold putGo at hx
    split at hx
    · rw [List.mem_cons] at hx
      rcases hx with rfl | hx
      · omega
      · exact putGo_bytes d (u / 128) x hx
    · simp only [List.mem_singleton] at hx
      omega
theorem bytes_app {a b : List Int} (ha : isBytes a) (hb : isBytes b) : isBytes (a ++ b) := fun x hx => (List.mem_append.1 hx).elim (ha x) (hb x)
theorem bytes_flat {α : Type} {f : α → List Int} (hf : ∀ a, isBytes (f a)) (l : List α) : isBytes (l.flatMap f) := fun x hx => by
  obtain ⟨a, _, h⟩ := List.mem_flatMap.1 hx
  exact hf a x h
theorem layerBytes_bytes (x : S46) : isBytes (layerBytes x) := by
  unfold layerBytes putWide
  exact bytes_app (bytes_app (bytes_app (bytes_app (bytes_flat (fun _ => putGo_bytes _ _) _) (putGo_bytes _ _)) (bytes_flat (fun _ => putGo_bytes _ _) _)) (putGo_bytes _ _)) (bytes_flat (fun _ => putGo_bytes _ _) _)
theorem encBytes_bytes (s : S24) (l : List S46) : isBytes (encBytes s l) := by
  unfold encBytes headBytes putWide
  refine bytes_app (bytes_app (fun x hx => ?_) (bytes_flat (fun _ => putGo_bytes _ _) _)) (bytes_flat layerBytes_bytes l)
  simp only [List.mem_cons, List.not_mem_nil, or_false] at hx
  omega
theorem flat_len : ∀ (l : List Int), (l.flatMap putWide).length ≤ 7 * l.length
  | [] => by simp
  | x :: l => by
    have := flat_len l
    have := putWide_len x
    rw [List.flatMap_cons, List.length_append, List.length_cons]
    omega
theorem layerBytes_len {x : S46} (h : smallL x) : (layerBytes x).length ≤ 14680127 := by
  unfold smallL at h
  have h1 := flat_len (numsL x)
  have h2 := flat_len x.f7
  have h3 := flat_len x.f8
  have h4 := putWide_len (x.f7.length : Int)
  have h5 := putWide_len (x.f8.length : Int)
  have h6 : (numsL x).length = 7 := rfl
  unfold layerBytes
  simp only [List.length_append]
  omega
theorem headBytes_len (s : S24) (n : Int) : (headBytes s n).length ≤ 31 := by
  have h1 := flat_len [s.f0, s.f1, s.f2, n]
  unfold headBytes
  rw [List.length_append]
  simp only [List.length_cons, List.length_nil] at h1 ⊢
  omega
theorem putGo_pos : ∀ (d : Nat) (u : Int), 0 < (putGo d u).length
  | 0, u => by simp [putGo]
  | d + 1, u => by
    unfold putGo
    split <;> simp
theorem putWide_pos (x : Int) : 0 < (putWide x).length := by
  unfold putWide
  exact putGo_pos _ _
theorem headBytes_long (s : S24) (n : Int) : 3 < (headBytes s n).length := by
  have := putWide_pos s.f0
  unfold headBytes
  simp only [List.length_append, List.flatMap_cons, List.length_cons, List.length_nil]
  omega
theorem fold_b : ∀ (l : List Int) (s : Int), isBytes l → 0 ≤ s → s < 1000003 → 0 ≤ l.foldl sumStep s ∧ l.foldl sumStep s < 1000003
  | [], s, _, h0, h1 => ⟨h0, h1⟩
  | x :: l, s, hb, h0, h1 => by
    have hx := hb x (by simp)
    have := sumStep_b s x (by omega)
    exact fold_b l (sumStep s x) (fun y hy => hb y (by simp [hy])) this.1 this.2
theorem sumOf_w {l : List Int} (hb : isBytes l) : inW (sumOf l) := by
  have := fold_b l 1 hb (by omega) (by omega)
  unfold inW sumOf
  omega
theorem out_wide {s : S24} {x : S46} (h : (outOf s x).2.2.2 = true) : wideL x := by
  have small : ∀ y : Int, -2147483648 ≤ y → y ≤ 2147483647 → inW y := fun y a b => ⟨by omega, by omega⟩
  have none : ∀ l : List Int, (l.length : Int) = 0 → ∀ y ∈ l, inW y := fun l hl y hy => by
    have : l = [] := List.eq_nil_of_length_eq_zero (by omega)
    rw [this] at hy
    simp at hy
  have six : ∀ (a b c d e f g : Int), (a = 0 ∨ a = 1 ∨ a = 2 ∨ a = 3 ∨ a = 4 ∨ a = 5) → -2147483648 ≤ b ∧ b ≤ 2147483647 → -2147483648 ≤ c ∧ c ≤ 2147483647 → -2147483648 ≤ d ∧ d ≤ 2147483647 → -2147483648 ≤ e ∧ e ≤ 2147483647 → -2147483648 ≤ f ∧ f ≤ 2147483647 → -2147483648 ≤ g ∧ g ≤ 2147483647 → ∀ y ∈ [a, b, c, d, e, f, g], inW y := fun a b c d e f g h1 h2 h3 h4 h5 h6 h7 y hy => by
    simp only [List.mem_cons, List.not_mem_nil, or_false] at hy
    exact small y (by omega) (by omega)
  unfold outOf outShape at h
  have no : ∀ {P : Prop}, sh0.2.2.2 = true → P := fun e => by unfold sh0 at e; simp at e
  by_cases hs : shapeOk s.f0 s.f1 s.f2 = true
  · rw [if_pos hs] at h
    by_cases k0 : x.f0 = 0
    · rw [if_pos k0] at h
      split at h
      · rename_i g
        obtain ⟨g1, g2, g3, g4, g5, g6, g7, g8⟩ := scaledB_iff.1 g.2.2
        obtain ⟨n1, n2⟩ := noneB_iff.1 g.2.1
        refine ⟨six x.f0 x.f1 x.f2 x.f3 x.f4 x.f5 x.f6 (by omega) (by omega) (by omega) (by omega) (by omega) (by omega) (by omega), fun y hy => ?_, fun y hy => ?_⟩
        · have := itemsB_iff.1 g6 y hy
          exact small y (by omega) (by omega)
        · have := rng_iff.1 (List.all_eq_true.1 g8 y hy)
          exact small y (by omega) (by omega)
      · exact no h
    rw [if_neg k0] at h
    by_cases k1 : x.f0 = 1
    · rw [if_pos k1] at h
      split at h
      · rename_i g
        obtain ⟨g1, g2, g3, g4, g5, g6, g7, g8⟩ := scaledB_iff.1 g.2.2
        obtain ⟨n1, n2⟩ := windB_iff.1 g.1
        refine ⟨six x.f0 x.f1 x.f2 x.f3 x.f4 x.f5 x.f6 (by omega) (by omega) (by omega) (by omega) (by omega) (by omega) (by omega), fun y hy => ?_, fun y hy => ?_⟩
        · have := itemsB_iff.1 g6 y hy
          exact small y (by omega) (by omega)
        · have := rng_iff.1 (List.all_eq_true.1 g8 y hy)
          exact small y (by omega) (by omega)
      · exact no h
    rw [if_neg k1] at h
    by_cases k2 : x.f0 = 2 ∨ x.f0 = 3
    · rw [if_pos k2] at h
      split at h
      · rename_i g
        obtain ⟨g1, g2, g3, g4, g5⟩ := bareB_iff.1 g.2.1
        obtain ⟨n1, n2⟩ := windB_iff.1 g.1
        exact ⟨six x.f0 x.f1 x.f2 x.f3 x.f4 x.f5 x.f6 (by omega) (by omega) (by omega) (by omega) (by omega) (by omega) (by omega), none x.f7 g4, none x.f8 g5⟩
      · exact no h
    rw [if_neg k2] at h
    by_cases k4 : x.f0 = 4
    · rw [if_pos k4] at h
      split at h
      · rename_i g
        obtain ⟨g1, g2, g3, g4, g5⟩ := bareB_iff.1 g.2.1
        obtain ⟨n1, n2⟩ := noneB_iff.1 g.1
        have := rng_iff.1 g.2.2
        exact ⟨six x.f0 x.f1 x.f2 x.f3 x.f4 x.f5 x.f6 (by omega) (by omega) (by omega) (by omega) (by omega) (by omega) (by omega), none x.f7 g4, none x.f8 g5⟩
      · exact no h
    rw [if_neg k4] at h
    by_cases k5 : x.f0 = 5
    · rw [if_pos k5] at h
      split at h
      · rename_i g
        obtain ⟨g1, g2, g3, g4, g5⟩ := bareB_iff.1 g.2.1
        obtain ⟨n1, n2⟩ := noneB_iff.1 g.1
        exact ⟨six x.f0 x.f1 x.f2 x.f3 x.f4 x.f5 x.f6 (by omega) (by omega) (by omega) (by omega) (by omega) (by omega) (by omega), none x.f7 g4, none x.f8 g5⟩
      · exact no h
    rw [if_neg k5] at h
    exact no h
  · rw [if_neg hs] at h
    exact no h
theorem shapes_wide : ∀ (l : List S46) (s : S24) (o : List S24), shapesOf s l = some o → ∀ x ∈ l, wideL x
  | [], s, o, h, x, hx => by simp at hx
  | y :: l, s, o, h, x, hx => by
    simp only [shapesOf] at h
    split at h
    · rename_i g
      obtain ⟨p, hp, _⟩ := Option.map_eq_some_iff.1 h
      rcases List.mem_cons.1 hx with rfl | hx
      · exact out_wide g
      · exact shapes_wide l _ p hp x hx
    · cases h
theorem model_wide {s : S24} {l : List S46} (h : (modelShapes s l).2 = true) : (1 ≤ l.length ∧ l.length ≤ 6) ∧ (inW s.f0 ∧ inW s.f1 ∧ inW s.f2) ∧ ∀ x ∈ l, wideL x := by
  unfold modelShapes at h
  by_cases g : 1 ≤ (l.length : Int) ∧ (l.length : Int) ≤ 6
  · rw [if_pos g] at h
    cases e : shapesOf s l with
    | none => rw [e] at h; simp [withAcc] at h
    | some o =>
      refine ⟨by omega, ?_, shapes_wide l s o e⟩
      match l, e with
      | [], _ => simp at g
      | x :: l, e =>
        by_cases hs : shapeOk s.f0 s.f1 s.f2 = true
        · obtain ⟨⟨a1, a2⟩, ⟨a3, a4⟩, a5, a6⟩ := shape_dims hs
          exact ⟨⟨by omega, by omega⟩, ⟨by omega, by omega⟩, ⟨by omega, by omega⟩⟩
        · simp only [shapesOf] at e
          rw [if_neg (by rw [outOf_bad x hs]; simp)] at e
          cases e
  · rw [if_neg g] at h
    cases h
theorem spec_l05Put_l1 (l : List Int) (j : Int) (b : List Int) (hb : b.length ≤ 7) (r : List Int) : ∀ (d i : Nat) (o : List Int), i + d = b.length → o.length + d ≤ 1000000000 → (Evp fun k => spec_l05Put.l0 k (o ++ b.drop i) l (wrap64 (j + 1)) = some r) → Evp fun k => spec_l05Put.l1 k o l j b (i : Int) = some r
  | 0, i, o, hi, ho, hn => evSuc (evMono hn fun k e => by
    simp only [spec_l05Put.l1]
    rw [List.drop_eq_nil_of_le (by omega), List.append_nil] at e
    exact ite_no (by omega) e)
  | d + 1, i, o, hi, ho, hn => by
    have hlt : i < b.length := by omega
    rw [drop_at hlt] at hn
    refine evSuc (evMono (spec_l05Put_l1 l j b hb r d (i + 1) (o ++ [b[i]]) (by omega) (by simp; omega) (by simpa using hn)) fun k e => ?_)
    simp only [spec_l05Put.l1]
    refine ite_yes (by omega) (ite_yes (by omega) (ite_yes (by omega) ?_))
    rw [rd_eq hlt, w64' (x := (i : Int) + 1) (by omega) (by omega)]
    exact e
theorem spec_l05Put_l0 (l : List Int) (hw : ∀ x ∈ l, inW x) (hm : l.length ≤ 999999000) : ∀ (d i : Nat) (o : List Int), i + d = l.length → o.length + 7 * d ≤ 999999000 → Evp fun k => spec_l05Put.l0 k o l (i : Int) = some (o ++ (l.drop i).flatMap putWide)
  | 0, i, o, hi, ho => evSuc (evAll fun k => by
    simp only [spec_l05Put.l0]
    rw [if_neg (by omega), List.drop_eq_nil_of_le (by omega)]
    simp)
  | d + 1, i, o, hi, ho => by
    have hlt : i < l.length := by omega
    have hx := hw l[i] (List.getElem_mem hlt)
    have hl7 := putWide_len l[i]
    have hnext := spec_l05Put_l0 l hw hm d (i + 1) (o ++ putWide l[i]) (by omega) (by simp; omega)
    have h1 := spec_l05Put_l1 l i (putWide l[i]) hl7 (o ++ (l.drop i).flatMap putWide) (putWide l[i]).length 0 o (by omega) (by omega) (by
      rw [w64' (by omega) (by omega), drop_at hlt, List.flatMap_cons, ← List.append_assoc, List.drop_zero]
      exact hnext)
    have pw := spec_PutWide_ev l[i] (by unfold inW at hx; unfold i64; omega)
    unfold inW at hx
    rw [if_pos hx] at pw
    refine evSuc (evMono (evAnd pw h1) fun k ⟨e1, e2⟩ => ?_)
    simp only [spec_l05Put.l0]
    refine ite_yes (by omega) (ite_yes (by omega) ?_)
    rw [rd_eq hlt]
    exact bind_of e1 e2
theorem spec_l05Put_ev (o l : List Int) (hw : ∀ x ∈ l, inW x) (ho : o.length + 7 * l.length ≤ 999999000) : Evp fun k => spec_l05Put.f k o l = some (o ++ l.flatMap putWide) := spec_l05Put_l0 l hw (by omega) l.length 0 o (by omega) ho
theorem len_w {n : Nat} (h : (n : Int) ≤ 1048576) : ∀ x ∈ [(n : Int)], inW x := fun x hx => by
  simp only [List.mem_singleton] at hx
  unfold inW
  omega
theorem single_flat (x : Int) : [x].flatMap putWide = putWide x := by simp
theorem spec_Encode_l0 (s : S24) (l : List S46) (hw : ∀ x ∈ l, wideL x) (hs : ∀ x ∈ l, smallL x) (hl : l.length ≤ 6) : ∀ (d i : Nat) (o : List Int), i + d = l.length → o.length + d * 14680127 ≤ 100000000 → isBytes (o ++ (l.drop i).flatMap layerBytes) → Evp fun k => spec_EncodeModel.l0 k o (i : Int) s.f0 s.f1 s.f2 l = some (if (((o ++ (l.drop i).flatMap layerBytes) ++ putWide (sumOf (o ++ (l.drop i).flatMap layerBytes))).length : Int) > 6000 then ([], false) else ((o ++ (l.drop i).flatMap layerBytes) ++ putWide (sumOf (o ++ (l.drop i).flatMap layerBytes)), true))
  | 0, i, o, hi, ho, hb => by
    rw [List.drop_eq_nil_of_le (by omega), List.flatMap_nil, List.append_nil] at hb ⊢
    have pw := spec_l05Put_ev o [sumOf o] (fun x hx => by rw [List.mem_singleton.1 hx]; exact sumOf_w hb) (by simp; omega)
    rw [single_flat] at pw
    refine evSuc (evMono (evAnd (spec_SumOf_ev o hb (by omega)) pw) fun k ⟨e1, e2⟩ => ?_)
    simp only [spec_EncodeModel.l0]
    refine ite_no (by omega) (bind_of e1 (bind_of e2 ?_))
    split <;> rfl
  | d + 1, i, o, hi, ho, hb => by
    have hlt : i < l.length := by omega
    rw [drop_at hlt, List.flatMap_cons, ← List.append_assoc] at hb ⊢
    have hr : rd_T46 l (i : Int) = l[i] := rdImp_eq hlt
    have hwx := hw l[i] (List.getElem_mem hlt)
    have hsx := hs l[i] (List.getElem_mem hlt)
    have hll := layerBytes_len hsx
    have ih := spec_Encode_l0 s l hw hs hl d (i + 1) (o ++ layerBytes l[i]) (by omega) (by rw [List.length_append]; omega) hb
    generalize l[i] = x at hr hwx hsx hll ih
    unfold smallL at hsx
    have h1 := flat_len (numsL x)
    have h2 := flat_len x.f7
    have h3 := flat_len x.f8
    have h4 := putWide_len (x.f7.length : Int)
    have h5 := putWide_len (x.f8.length : Int)
    have h6 : (numsL x).length = 7 := rfl
    have p1 := spec_l05Put_ev o (numsL x ++ [(x.f7.length : Int)]) (fun y hy => (List.mem_append.1 hy).elim (hwx.1 y) (len_w hsx.1 y)) (by simp [h6]; omega)
    rw [List.flatMap_append, single_flat] at p1
    have p2 := spec_l05Put_ev (o ++ ((numsL x).flatMap putWide ++ putWide (x.f7.length : Int))) x.f7 hwx.2.1 (by simp only [List.length_append]; omega)
    have p3 := spec_l05Put_ev (o ++ ((numsL x).flatMap putWide ++ putWide (x.f7.length : Int)) ++ x.f7.flatMap putWide) [(x.f8.length : Int)] (len_w hsx.2) (by simp only [List.length_append, List.length_cons, List.length_nil]; omega)
    rw [single_flat] at p3
    have p4 := spec_l05Put_ev (o ++ ((numsL x).flatMap putWide ++ putWide (x.f7.length : Int)) ++ x.f7.flatMap putWide ++ putWide (x.f8.length : Int)) x.f8 hwx.2.2 (by simp only [List.length_append]; omega)
    have e : o ++ ((numsL x).flatMap putWide ++ putWide (x.f7.length : Int)) ++ x.f7.flatMap putWide ++ putWide (x.f8.length : Int) ++ x.f8.flatMap putWide = o ++ layerBytes x := by
      unfold layerBytes
      simp only [List.append_assoc]
    rw [e] at p4
    refine evSuc (evMono (evAnd p1 (evAnd p2 (evAnd p3 (evAnd p4 ih)))) fun k ⟨e1, e2, e3, e4, e5⟩ => ?_)
    simp only [spec_EncodeModel.l0]
    rw [hr]
    refine ite_yes (by omega) (ite_yes (by omega) (bind_of e1 (bind_of e2 (bind_of e3 (bind_of e4 ?_)))))
    rw [w64' (x := (i : Int) + 1) (by omega) (by omega)]
    exact e5
theorem head_w {s : S24} {n : Nat} (h : inW s.f0 ∧ inW s.f1 ∧ inW s.f2) (hn : n ≤ 6) : ∀ x ∈ [s.f0, s.f1, s.f2, (n : Int)], inW x := fun x hx => by
  simp only [List.mem_cons, List.not_mem_nil, or_false] at hx
  rcases hx with rfl | rfl | rfl | rfl
  · exact h.1
  · exact h.2.1
  · exact h.2.2
  · unfold inW
    omega
theorem spec_EncodeModel_ev (s : S24) (l : List S46) (hl : smallI l) : Evp fun k => spec_EncodeModel.f k s.f0 s.f1 s.f2 l = some (encodeM s l) := by
  have e0 := spec_ModelOk_ev s l hl
  unfold encodeM
  by_cases hk : (modelShapes s l).2 = true
  · rw [hk] at e0
    rw [if_pos hk]
    obtain ⟨h1, h2, h3⟩ := model_wide hk
    have hd := headBytes_len s (l.length : Int)
    have p1 := spec_l05Put_ev [80, 77, 49] [s.f0, s.f1, s.f2, (l.length : Int)] (head_w h2 h1.2) (by simp)
    have g := spec_Encode_l0 s l h3 hl.2 h1.2 l.length 0 (headBytes s (l.length : Int)) (by omega) (by omega) (encBytes_bytes s l)
    exact evMono (evAnd e0 (evAnd p1 g)) fun k ⟨a, b, c⟩ => bind_of a (ite_yes rfl (bind_of b (ite_yes (headBytes_long s _) c)))
  · rw [if_neg hk]
    exact evMono e0 fun k a => bind_of a (ite_no hk rfl)
theorem encGo_ev : ∀ (l : List S46) (o : List Int), (∀ x ∈ l, wideL x) → (∀ x ∈ l, smallL x) → o.length + l.length * 14680127 ≤ 100000000 → Evp fun k => encGo k l o = some (o ++ l.flatMap layerBytes)
  | [], o, _, _, _ => evAll fun k => by simp [encGo]
  | x :: l, o, hw, hs, ho => by
    have hwx := hw x (by simp)
    have hsx := hs x (by simp)
    have hll := layerBytes_len hsx
    rw [List.length_cons] at ho
    have ih := encGo_ev l (o ++ layerBytes x) (fun y hy => hw y (by simp [hy])) (fun y hy => hs y (by simp [hy])) (by rw [List.length_append]; omega)
    unfold smallL at hsx
    have h1 := flat_len (numsL x)
    have h2 := flat_len x.f7
    have h3 := flat_len x.f8
    have h4 := putWide_len (x.f7.length : Int)
    have h5 := putWide_len (x.f8.length : Int)
    have h6 : (numsL x).length = 7 := rfl
    have p0 := impl_putWide_ev o (numsL x) hwx.1 (by omega)
    have p1 := impl_putWide_ev (o ++ (numsL x).flatMap putWide) [(x.f7.length : Int)] (len_w hsx.1) (by simp only [List.length_append, List.length_cons, List.length_nil]; omega)
    rw [single_flat] at p1
    have p2 := impl_putWide_ev (o ++ (numsL x).flatMap putWide ++ putWide (x.f7.length : Int)) x.f7 hwx.2.1 (by simp only [List.length_append]; omega)
    have p3 := impl_putWide_ev (o ++ (numsL x).flatMap putWide ++ putWide (x.f7.length : Int) ++ x.f7.flatMap putWide) [(x.f8.length : Int)] (len_w hsx.2) (by simp only [List.length_append, List.length_cons, List.length_nil]; omega)
    rw [single_flat] at p3
    have p4 := impl_putWide_ev (o ++ (numsL x).flatMap putWide ++ putWide (x.f7.length : Int) ++ x.f7.flatMap putWide ++ putWide (x.f8.length : Int)) x.f8 hwx.2.2 (by simp only [List.length_append]; omega)
    have e : o ++ (numsL x).flatMap putWide ++ putWide (x.f7.length : Int) ++ x.f7.flatMap putWide ++ putWide (x.f8.length : Int) ++ x.f8.flatMap putWide = o ++ layerBytes x := by
      unfold layerBytes
      simp only [List.append_assoc]
    rw [e] at p4
    refine evMono (evAnd p0 (evAnd p1 (evAnd p2 (evAnd p3 (evAnd p4 ih))))) fun k ⟨e0, e1, e2, e3, e4, e5⟩ => ?_
    simp only [encGo]
    rw [List.flatMap_cons, ← List.append_assoc]
    refine bind_of (a := numsL x) rfl (bind_of e0 (bind_of (a := o ++ layerBytes x) ?_ e5))
    simp only [inGo]
    exact bind_of e1 (bind_of e2 (bind_of e3 (bind_of e4 rfl)))
theorem impl_EncodeModel_ev (s : S24) (l : List S46) (hl : smallI l) : Evp fun k => impl_EncodeModel.f k s.f0 s.f1 s.f2 l = some (encodeM s l) := by
  have e0 := impl_ModelOk_ev s l hl
  unfold encodeM
  by_cases hk : (modelShapes s l).2 = true
  · rw [hk] at e0
    rw [if_pos hk]
    obtain ⟨h1, h2, h3⟩ := model_wide hk
    have hd := headBytes_len s (l.length : Int)
    have hb := encBytes_bytes s l
    have p1 := impl_putWide_ev [80, 77, 49] [s.f0, s.f1, s.f2, (l.length : Int)] (head_w h2 h1.2) (by simp)
    have g := encGo_ev l (headBytes s (l.length : Int)) h3 hl.2 (by have := Nat.mul_le_mul_right 14680127 h1.2; omega)
    have hlen : (encBytes s l).length ≤ 100000000 := by
      have : ∀ (m : List S46), (∀ x ∈ m, smallL x) → (m.flatMap layerBytes).length ≤ m.length * 14680127 := fun m => by
        induction m with
        | nil => intro _; simp
        | cons y m ih =>
          intro h
          have a := ih fun z hz => h z (by simp [hz])
          have b := layerBytes_len (h y (by simp))
          rw [List.flatMap_cons, List.length_append, List.length_cons]
          omega
      have a := this l hl.2
      have b := Nat.mul_le_mul_right 14680127 h1.2
      unfold encBytes
      rw [List.length_append]
      omega
    have p2 := impl_putWide_ev (encBytes s l) [sumOf (encBytes s l)] (fun x hx => by rw [List.mem_singleton.1 hx]; exact sumOf_w hb) (by simp; omega)
    rw [single_flat] at p2
    refine evMono (evAnd e0 (evAnd p1 (evAnd g (evAnd (impl_SumOf_ev (encBytes s l) hb (by omega)) p2)))) fun k ⟨a, b, c, d, e⟩ => bind_of a (ite_no (by simp) (bind_of (bind_of b (if_pos (headBytes_long s _))) (bind_of c (bind_of d (bind_of e ?_)))))
    unfold encFull
    split <;> rfl
  · rw [if_neg hk]
    exact evMono e0 fun k a => bind_of a (ite_yes (Bool.eq_false_iff.2 hk) rfl)


theorem ModelSum_ok (s : S24) (l : List S46) (hl : smallI l) : ∃ r, (Evp fun k => spec_ModelSum.f k s.f0 s.f1 s.f2 l = some r) ∧ Evp fun k => impl_ModelSum.f k s.f0 s.f1 s.f2 l = some r := by
  have e1 := spec_EncodeModel_ev s l hl
  have e2 := impl_EncodeModel_ev s l hl
  unfold encodeM at e1 e2
  have no : (Evp fun k => spec_EncodeModel.f k s.f0 s.f1 s.f2 l = some ([], false)) → (Evp fun k => impl_EncodeModel.f k s.f0 s.f1 s.f2 l = some ([], false)) → ∃ r, (Evp fun k => spec_ModelSum.f k s.f0 s.f1 s.f2 l = some r) ∧ Evp fun k => impl_ModelSum.f k s.f0 s.f1 s.f2 l = some r := fun a b => ⟨-1, evMono a fun k e => bind_of e (ite_no Bool.false_ne_true rfl), evMono b fun k e => bind_of e (ite_no Bool.false_ne_true rfl)⟩
  by_cases hk : (modelShapes s l).2 = true
  · rw [if_pos hk] at e1 e2
    by_cases h6 : ((encFull s l).length : Int) > 6000
    · rw [if_pos h6] at e1 e2
      exact no e1 e2
    · rw [if_neg h6] at e1 e2
      have hb : isBytes (encFull s l) := bytes_app (encBytes_bytes s l) (putGo_bytes _ _)
      exact ⟨sumOf (encFull s l), evMono (evAnd e1 (spec_SumOf_ev _ hb (by omega))) fun k ⟨a, b⟩ => bind_of a (ite_yes rfl (bind_of b rfl)), evMono (evAnd e2 (impl_SumOf_ev _ hb (by omega))) fun k ⟨a, b⟩ => bind_of a (ite_yes rfl (bind_of b rfl))⟩
  · rw [if_neg hk] at e1 e2
    exact no e1 e2


theorem takeGo_b (l : List Int) (hb : isBytes l) (at_ : Int) : ∀ (d i : Nat) (u : Int), 0 ≤ u → takeGo l at_ d i u = (0, -1) ∨ (0 ≤ at_ ∧ at_ < (takeGo l at_ d i u).2 ∧ (takeGo l at_ d i u).2 ≤ (l.length : Int) ∧ -1099511627776 ≤ (takeGo l at_ d i u).1 ∧ (takeGo l at_ d i u).1 ≤ 1099511627775)
  | 0, i, u, hu => .inl rfl
  | d + 1, i, u, hu => by
    have hg := getD_b hb (at_ + i).toNat
    have hp := (two_pow_le (n := 7 * i) (m := 7 * i) (Nat.le_refl _)).1
    have hm : 0 ≤ l.getD (at_ + i).toNat 0 % 128 * 2 ^ (7 * i) := Int.mul_nonneg (Int.emod_nonneg _ (by omega)) (by omega)
    unfold takeGo
    by_cases h1 : at_ < 0 ∨ at_ ≥ (l.length : Int) - i
    · rw [if_pos h1]; exact .inl rfl
    rw [if_neg h1]
    by_cases h2 : l.getD (at_ + i).toNat 0 < 128
    · rw [if_pos h2]
      by_cases h3 : (l.getD (at_ + i).toNat 0 = 0 ∧ 0 < i) ∨ u + l.getD (at_ + i).toNat 0 % 128 * 2 ^ (7 * i) > 2199023255551
      · rw [if_pos h3]; exact .inl rfl
      · rw [if_neg h3]
        have hw := wideOf_b (u := u + l.getD (at_ + i).toNat 0 % 128 * 2 ^ (7 * i)) (by omega) (by omega)
        exact .inr ⟨by omega, by show at_ < at_ + i + 1; omega, by show at_ + i + 1 ≤ (l.length : Int); omega, hw.1, hw.2⟩
    · rw [if_neg h2]
      exact takeGo_b l hb at_ d (i + 1) _ (by omega)
theorem takeWide_b (l : List Int) (hb : isBytes l) (at_ : Int) : takeWide l at_ = (0, -1) ∨ (0 ≤ at_ ∧ at_ < (takeWide l at_).2 ∧ (takeWide l at_).2 ≤ (l.length : Int) ∧ -1099511627776 ≤ (takeWide l at_).1 ∧ (takeWide l at_).1 ≤ 1099511627775) := takeGo_b l hb at_ 6 0 0 (by omega)
/-- What a reader of numbers reads next: the number, its place behind it, whether one was not there. -/
def nextW (l : List Int) (at_ : Int) (bad : Bool) : Int × Int × Bool := if bad = true then (0, at_, true) else if (takeWide l at_).2 < 0 then (0, at_, true) else ((takeWide l at_).1, (takeWide l at_).2, false)
theorem nextW_b (l : List Int) (hb : isBytes l) (at_ : Int) (bad : Bool) (h0 : 0 ≤ at_) (h1 : at_ ≤ (l.length : Int)) : at_ ≤ (nextW l at_ bad).2.1 ∧ (nextW l at_ bad).2.1 ≤ (l.length : Int) ∧ -1099511627776 ≤ (nextW l at_ bad).1 ∧ (nextW l at_ bad).1 ≤ 1099511627775 ∧ (bad = true → (nextW l at_ bad).2.2 = true) := by
  unfold nextW
  by_cases hbd : bad = true
  · rw [if_pos hbd]
    exact ⟨Int.le_refl _, h1, by show -1099511627776 ≤ (0 : Int); omega, by show (0 : Int) ≤ 1099511627775; omega, fun _ => rfl⟩
  rw [if_neg hbd]
  by_cases hn : (takeWide l at_).2 < 0
  · rw [if_pos hn]
    exact ⟨Int.le_refl _, h1, by show -1099511627776 ≤ (0 : Int); omega, by show (0 : Int) ≤ 1099511627775; omega, fun _ => rfl⟩
  rw [if_neg hn]
  rcases takeWide_b l hb at_ with h | ⟨_, h3, h4, h5, h6⟩
  · rw [h] at hn; exact absurd (show (-1 : Int) < 0 by omega) hn
  · exact ⟨Int.le_of_lt h3, h4, h5, h6, fun h => absurd h hbd⟩


theorem impl_number_ev (l : List Int) (hb : isBytes l) (hl : l.length ≤ 1073741824) (at_ : Int) (bad : Bool) (hat : i64 at_) : Evp fun k => impl_wideReader_number.f k l at_ bad = some (nextW l at_ bad) := by
  cases bad with
  | true => exact evAll fun k => rfl
  | false =>
    refine evMono (impl_TakeWide_ev l hb hl at_ hat) fun k e => ite_no Bool.false_ne_true (bind_of e ?_)
    unfold nextW
    rw [if_neg Bool.false_ne_true]
    by_cases hn : (takeWide l at_).2 < 0
    · rw [if_pos hn, if_pos hn]
    · rw [if_neg hn, if_neg hn]


def headOk (l : List Int) : Bool := decide (3 ≤ l.length ∧ l.getD 0 0 = 80 ∧ l.getD 1 0 = 77 ∧ l.getD 2 0 = 49)
theorem ba_toList (bs : ByteArray) : bs.toList = bs.data.toList := ByteArray.toList_eq bs
theorem u8_inj {x : Int} {n : Nat} (h : 0 ≤ x ∧ x ≤ 255) (hn : n ≤ 255) (e : UInt8.ofNat x.toNat = UInt8.ofNat n) : x = n := by
  have e2 := congrArg UInt8.toNat e
  simp only [UInt8.toNat_ofNat'] at e2
  omega
theorem bytes_HasPrefix_eq (l : List Int) (hb : isBytes l) : bytes_HasPrefix.f l [80, 77, 49] = some (headOk l) := by
  unfold bytes_HasPrefix.f headOk
  match l, hb with
  | [], _ => rfl
  | [_], _ => rfl
  | [_, _], _ => rfl
  | a :: b :: c :: t, hb =>
    have hl : (((a :: b :: c :: t).length : Nat) : Int) = t.length + 3 := by simp; omega
    rw [hl]
    refine ite_yes (show (t.length : Int) + 3 ≥ 3 by omega) (ite_yes (show (0 : Int) ≤ 3 by omega) (ite_yes (show (3 : Int) ≤ t.length + 3 by omega) ?_))
    have ha := hb a (by simp)
    have hb' := hb b (by simp)
    have hc := hb c (by simp)
    have hlen : (3 ≤ (a :: b :: c :: t).length ∧ (a :: b :: c :: t).getD 0 0 = 80 ∧ (a :: b :: c :: t).getD 1 0 = 77 ∧ (a :: b :: c :: t).getD 2 0 = 49) ↔ (a = 80 ∧ b = 77 ∧ c = 49) := by simp
    show Option.bind (some ((strOfNums [a, b, c]).toList == (strOfNums [80, 77, 49]).toList)) (fun t => some t) = _
    rw [ba_toList, ba_toList]
    show some ([UInt8.ofNat a.toNat, UInt8.ofNat b.toNat, UInt8.ofNat c.toNat] == [UInt8.ofNat 80, UInt8.ofNat 77, UInt8.ofNat 49]) = _
    congr 1
    rw [Bool.eq_iff_iff, decide_eq_true_iff, hlen, beq_iff_eq]
    constructor
    · intro e
      simp only [List.cons.injEq, and_true] at e
      exact ⟨u8_inj (n := 80) ha (by decide) e.1, u8_inj (n := 77) hb' (by decide) e.2.1, u8_inj (n := 49) hc (by decide) e.2.2⟩
    · rintro ⟨rfl, rfl, rfl⟩
      rfl


theorem spec_l02DrawShape_ok {b : List Int} {i : Int} (hc : Cu b i) (h : Int) : ∃ x y z i' h', spec_l02DrawShape.f b i h 4 = some (x, y, z, i', h') ∧ (1 ≤ x ∧ x ≤ 4) ∧ (1 ≤ y ∧ y ≤ 4) ∧ (1 ≤ z ∧ z ≤ 3) ∧ Cu b i' := by
  obtain ⟨r1, i1, h1, e1, a1, b1, c1⟩ := spec_l01Below_ok hc h (n := 4) (by omega)
  obtain ⟨r2, i2, h2, e2, a2, b2, c2⟩ := spec_l01Below_ok c1 h1 (n := 4) (by omega)
  obtain ⟨r3, i3, h3, e3, a3, b3, c3⟩ := spec_l01Below_ok c2 h2 (n := 3) (by omega)
  refine ⟨_, _, _, _, _, bind_of e1 (bind_of e2 (bind_of e3 rfl)), ?_, ?_, ?_, c3⟩
  · show 1 ≤ wrap64 (1 + r1) ∧ wrap64 (1 + r1) ≤ 4
    rw [w64' (by omega) (by omega)]; omega
  · show 1 ≤ wrap64 (1 + r2) ∧ wrap64 (1 + r2) ≤ 4
    rw [w64' (by omega) (by omega)]; omega
  · show 1 ≤ wrap64 (1 + r3) ∧ wrap64 (1 + r3) ≤ 3
    rw [w64' (by omega) (by omega)]; omega


theorem spec_l02DrawItem_ok {b : List Int} {i : Int} (hc : Cu b i) (h : Int) : ∃ r i' h', spec_l02DrawItem.f b i h = some (r, i', h') ∧ (-128 ≤ r ∧ r ≤ 127) ∧ Cu b i' := by
  obtain ⟨r1, i1, h1, e1, a1, b1, c1⟩ := spec_l01Below_ok hc h (n := 256) (by omega)
  obtain ⟨r2, i2, h2, e2, a2, b2, c2⟩ := spec_l01Below_ok c1 h1 (n := 256) (by omega)
  obtain ⟨r3, i3, h3, e3, m3, c3⟩ := spec_l01PickInt_ok c2 h2 ([wrap64 (r1 - 128), wrap64 (r2 - 128), 127, (-128), 0] : List Int) (by simp)
  refine ⟨_, _, _, bind_of e1 (bind_of e2 (bind_of e3 rfl)), ?_, c3⟩
  show -128 ≤ r3 ∧ r3 ≤ 127
  simp only [List.mem_cons, List.not_mem_nil, or_false] at m3
  rw [w64' (x := r1 - 128) (by omega) (by omega), w64' (x := r2 - 128) (by omega) (by omega)] at m3
  omega


def LayO (b : List Int) (o : Int × Int × Int × Int × Int × Int × Int × List Int × List Int × Int × Int) : Prop := o.2.2.2.2.2.2.2.1.length ≤ 2000 ∧ o.2.2.2.2.2.2.2.2.1.length ≤ 2000 ∧ Cu b o.2.2.2.2.2.2.2.2.2.1
theorem spec_l03DrawLayer_l1 {b : List Int} {kd sz st mu sh ze : Int} {W : List Int} (hW : W.length ≤ 2000) {ou : Nat} (ho : ou ≤ 100) : ∀ (d n : Nat) (B : List Int) (i h : Int), Cu b i → n + d = ou → B.length = n → ∃ o, LayO b o ∧ Evp fun k => spec_l03DrawLayer.l1 k (n : Int) b i h kd (ou : Int) sz st mu sh ze W B = some o
  | 0, n, B, i, h, hc, hn, hB => by
    by_cases h4 : kd = 4
    · obtain ⟨r, i1, h1, e1, a1, b1, c1⟩ := spec_l01Below_ok hc h (n := 20) (by omega)
      exact ⟨(kd, (ou : Int), sz, st, mu, sh, wrap64 (r - 10), W, B, i1, h1), ⟨hW, by show B.length ≤ 2000; omega, c1⟩, evSuc (evAll fun k => by
        simp only [spec_l03DrawLayer.l1]
        exact ite_no (by omega) (ite_yes h4 (bind_of e1 rfl)))⟩
    · exact ⟨(kd, (ou : Int), sz, st, mu, sh, ze, W, B, i, h), ⟨hW, by show B.length ≤ 2000; omega, hc⟩, evSuc (evAll fun k => by
        simp only [spec_l03DrawLayer.l1]
        exact ite_no (by omega) (ite_no h4 rfl))⟩
  | d + 1, n, B, i, h, hc, hn, hB => by
    obtain ⟨r, i1, h1, e1, a1, b1, c1⟩ := spec_l01Below_ok hc h (n := 400) (by omega)
    obtain ⟨o, g1, g2⟩ := spec_l03DrawLayer_l1 (kd := kd) (sz := sz) (st := st) (mu := mu) (sh := sh) (ze := ze) hW ho d (n + 1) (B ++ [wrap64 (r - 200)]) i1 h1 c1 (by omega) (by simp; omega)
    refine ⟨o, g1, evSuc (evMono g2 fun k e => ?_)⟩
    simp only [spec_l03DrawLayer.l1]
    refine ite_yes (by omega) (bind_of e1 (ite_yes (by omega) ?_))
    rw [w64' (x := (n : Int) + 1) (by omega) (by omega)]
    exact e
theorem spec_l03DrawLayer_l0 {b : List Int} {kd sz st mu sh ze : Int} {ou : Nat} (ho : ou ≤ 100) {m : Nat} (hm : m ≤ 2000) : ∀ (d n : Nat) (W : List Int) (i h : Int), Cu b i → n + d = m → W.length = n → ∃ o, LayO b o ∧ Evp fun k => spec_l03DrawLayer.l0 k (m : Int) (n : Int) b i h kd (ou : Int) sz st mu sh ze W = some o
  | 0, n, W, i, h, hc, hn, hW => by
    obtain ⟨o, g1, g2⟩ := spec_l03DrawLayer_l1 (kd := kd) (sz := sz) (st := st) (mu := mu) (sh := sh) (ze := ze) (W := W) (by omega) ho ou 0 [] i h hc (by omega) rfl
    refine ⟨o, g1, evSuc (evMono g2 fun k e => ?_)⟩
    simp only [spec_l03DrawLayer.l0]
    exact ite_no (by omega) e
  | d + 1, n, W, i, h, hc, hn, hW => by
    obtain ⟨r, i1, h1, e1, a1, c1⟩ := spec_l02DrawItem_ok hc h
    obtain ⟨o, g1, g2⟩ := spec_l03DrawLayer_l0 (kd := kd) (sz := sz) (st := st) (mu := mu) (sh := sh) (ze := ze) ho hm d (n + 1) (W ++ [r]) i1 h1 c1 (by omega) (by simp; omega)
    refine ⟨o, g1, evSuc (evMono g2 fun k e => ?_)⟩
    simp only [spec_l03DrawLayer.l0]
    refine ite_yes (by omega) (bind_of e1 (ite_yes (by omega) ?_))
    rw [w64' (x := (n : Int) + 1) (by omega) (by omega)]
    exact e
theorem spec_l03DrawLayer_j4 {b : List Int} {kd sz st mu sh ze ou m : Int} (ho : 0 ≤ ou ∧ ou ≤ 100) (hm : 0 ≤ m ∧ m ≤ 2000) {i : Int} (hc : Cu b i) (h : Int) : ∃ o, LayO b o ∧ Evp fun k => spec_l03DrawLayer.j4 k m b i h kd ou sz st mu sh ze = some o := by
  obtain ⟨m, rfl⟩ := nat_of hm.1
  obtain ⟨ou, rfl⟩ := nat_of ho.1
  obtain ⟨o, g1, g2⟩ := spec_l03DrawLayer_l0 (b := b) (kd := kd) (sz := sz) (st := st) (mu := mu) (sh := sh) (ze := ze) (ou := ou) (by omega) (m := m) (by omega) m 0 [] i h hc (by omega) rfl
  exact ⟨o, g1, evSuc (evMono g2 fun k e => by simp only [spec_l03DrawLayer.j4]; exact e)⟩
theorem spec_l03DrawLayer_j3 {b : List Int} {x y z kd ou sz st mu sh ze : Int} (hz : 0 ≤ z ∧ z ≤ 8) (hsz : 0 ≤ sz ∧ sz ≤ 3) {i : Int} (hc : Cu b i) (h : Int) : ∃ o, LayO b o ∧ Evp fun k => spec_l03DrawLayer.j3 k b i h x y z kd ou sz st mu sh ze = some o := by
  by_cases h1 : kd ≤ 1
  · obtain ⟨r1, i1, t1, e1, a1, b1, c1⟩ := spec_l01Below_ok hc h (n := 3) (by omega)
    obtain ⟨r2, i2, t2, e2, a2, b2, c2⟩ := spec_l01Below_ok c1 t1 (n := 16777216) (by omega)
    obtain ⟨r3, i3, t3, e3, a3, b3, c3⟩ := spec_l01Below_ok c2 t2 (n := 10) (by omega)
    obtain ⟨r4, i4, t4, e4, a4, b4, c4⟩ := spec_l01Below_ok c3 t3 (n := 9) (by omega)
    have hsb := sizeOf_b x y z
    have w1 : wrap64 (1 + r1) = 1 + r1 := w64' (by omega) (by omega)
    by_cases hk : kd = 1
    · have m1 := mul_b (a := 1 + r1) (b := sz) (A := 3) (B := 3) (by omega) (by omega) hsz.1 hsz.2
      have m2 := mul_b (a := (1 + r1) * sz) (b := sz) (A := 9) (B := 3) m1.1 (by omega) hsz.1 hsz.2
      have m3 := mul_b (a := (1 + r1) * sz * sz) (b := z) (A := 27) (B := 8) m2.1 (by omega) hz.1 hz.2
      have hw : wrap64 ((wrap64 ((wrap64 ((wrap64 (1 + r1)) * sz)) * sz)) * z) = (1 + r1) * sz * sz * z := by
        rw [w1, w64' (x := (1 + r1) * sz) (by omega) (by omega), w64' (x := (1 + r1) * sz * sz) (by omega) (by omega), w64' (by omega) (by omega)]
      obtain ⟨o, g1, g2⟩ := spec_l03DrawLayer_j4 (b := b) (kd := kd) (sz := sz) (st := st) (mu := wrap64 (1073741824 + (wrap64 (r2 * 60)))) (sh := r3) (ze := wrap64 (r4 - 4)) (ou := wrap64 (1 + r1)) (m := wrap64 ((wrap64 ((wrap64 ((wrap64 (1 + r1)) * sz)) * sz)) * z)) (by rw [w1]; omega) (by rw [hw]; omega) c4 t4
      refine ⟨o, g1, evSuc (evMono g2 fun k e => ?_)⟩
      simp only [spec_l03DrawLayer.j3]
      exact ite_yes h1 (bind_of e1 (bind_of e2 (bind_of e3 (bind_of e4 (bind_of (spec_SizeOf_eq _ _ _) (ite_yes hk e))))))
    · have m1 := mul_b (a := 1 + r1) (b := sizeOf x y z) (A := 3) (B := 512) (by omega) (by omega) hsb.1 hsb.2
      obtain ⟨o, g1, g2⟩ := spec_l03DrawLayer_j4 (b := b) (kd := kd) (sz := sz) (st := st) (mu := wrap64 (1073741824 + (wrap64 (r2 * 60)))) (sh := r3) (ze := wrap64 (r4 - 4)) (ou := wrap64 (1 + r1)) (m := wrap64 ((wrap64 (1 + r1)) * sizeOf x y z)) (by rw [w1]; omega) (by rw [w1, w64' (by omega) (by omega)]; omega) c4 t4
      refine ⟨o, g1, evSuc (evMono g2 fun k e => ?_)⟩
      simp only [spec_l03DrawLayer.j3]
      exact ite_yes h1 (bind_of e1 (bind_of e2 (bind_of e3 (bind_of e4 (bind_of (spec_SizeOf_eq _ _ _) (ite_no hk e))))))
  · by_cases h4 : kd = 4
    · obtain ⟨r1, i1, t1, e1, a1, b1, c1⟩ := spec_l01Below_ok hc h (n := 20) (by omega)
      exact ⟨(kd, ou, sz, st, mu, sh, wrap64 (r1 - 10), [], [], i1, t1), ⟨by simp, by simp, c1⟩, evSuc (evAll fun k => by
        simp only [spec_l03DrawLayer.j3]
        exact ite_no h1 (ite_yes h4 (bind_of e1 rfl)))⟩
    · exact ⟨(kd, ou, sz, st, mu, sh, ze, [], [], i, h), ⟨by simp, by simp, hc⟩, evSuc (evAll fun k => by
        simp only [spec_l03DrawLayer.j3]
        exact ite_no h1 (ite_no h4 rfl))⟩
theorem spec_l03DrawLayer_j2 {b : List Int} {v x y z kd ou sz st mu sh ze : Int} (hv : 1 ≤ v ∧ v ≤ 3) (hy : 1 ≤ y) (hz : 0 ≤ z ∧ z ≤ 8) {i : Int} (hc : Cu b i) (h : Int) : ∃ o, LayO b o ∧ Evp fun k => spec_l03DrawLayer.j2 k v b i h x y z kd ou sz st mu sh ze = some o := by
  by_cases q : y < v
  · obtain ⟨r1, i1, t1, e1, a1, b1, c1⟩ := spec_l01Below_ok hc h (n := y) hy
    obtain ⟨r2, i2, t2, e2, a2, b2, c2⟩ := spec_l01Below_ok c1 t1 (n := 2) (by omega)
    obtain ⟨o, g1, g2⟩ := spec_l03DrawLayer_j3 (b := b) (x := x) (y := y) (z := z) (kd := kd) (ou := ou) (sz := wrap64 (1 + r1)) (st := wrap64 (1 + r2)) (mu := mu) (sh := sh) (ze := ze) hz (by rw [w64' (by omega) (by omega)]; omega) c2 t2
    refine ⟨o, g1, evSuc (evMono g2 fun k e => ?_)⟩
    simp only [spec_l03DrawLayer.j2]
    exact ite_yes q (bind_of e1 (bind_of e2 e))
  · obtain ⟨r1, i1, t1, e1, a1, b1, c1⟩ := spec_l01Below_ok hc h (n := v) hv.1
    obtain ⟨r2, i2, t2, e2, a2, b2, c2⟩ := spec_l01Below_ok c1 t1 (n := 2) (by omega)
    obtain ⟨o, g1, g2⟩ := spec_l03DrawLayer_j3 (b := b) (x := x) (y := y) (z := z) (kd := kd) (ou := ou) (sz := wrap64 (1 + r1)) (st := wrap64 (1 + r2)) (mu := mu) (sh := sh) (ze := ze) hz (by rw [w64' (by omega) (by omega)]; omega) c2 t2
    refine ⟨o, g1, evSuc (evMono g2 fun k e => ?_)⟩
    simp only [spec_l03DrawLayer.j2]
    exact ite_no q (bind_of e1 (bind_of e2 e))
theorem spec_l03DrawLayer_j1 {b : List Int} {x y z kd : Int} (hx : 1 ≤ x) (hy : 1 ≤ y) (hz : 0 ≤ z ∧ z ≤ 8) {i : Int} (hc : Cu b i) (h : Int) : ∃ o, LayO b o ∧ Evp fun k => spec_l03DrawLayer.j1 k b i h x y z kd 0 0 0 0 0 0 = some o := by
  by_cases q : 1 ≤ kd ∧ kd ≤ 3
  · by_cases q3 : x < 3
    · obtain ⟨o, g1, g2⟩ := spec_l03DrawLayer_j2 (b := b) (v := x) (x := x) (y := y) (z := z) (kd := kd) (ou := 0) (sz := 0) (st := 0) (mu := 0) (sh := 0) (ze := 0) (by omega) hy hz hc h
      refine ⟨o, g1, evSuc (evMono g2 fun k e => ?_)⟩
      simp only [spec_l03DrawLayer.j1]
      exact bind_of (spec_l01In_eq _ _ _) (ite_yes (decide_eq_true q) (ite_yes q3 e))
    · obtain ⟨o, g1, g2⟩ := spec_l03DrawLayer_j2 (b := b) (v := 3) (x := x) (y := y) (z := z) (kd := kd) (ou := 0) (sz := 0) (st := 0) (mu := 0) (sh := 0) (ze := 0) (by omega) hy hz hc h
      refine ⟨o, g1, evSuc (evMono g2 fun k e => ?_)⟩
      simp only [spec_l03DrawLayer.j1]
      exact bind_of (spec_l01In_eq _ _ _) (ite_yes (decide_eq_true q) (ite_no q3 e))
  · obtain ⟨o, g1, g2⟩ := spec_l03DrawLayer_j3 (b := b) (x := x) (y := y) (z := z) (kd := kd) (ou := 0) (sz := 0) (st := 0) (mu := 0) (sh := 0) (ze := 0) hz (by omega) hc h
    refine ⟨o, g1, evSuc (evMono g2 fun k e => ?_)⟩
    simp only [spec_l03DrawLayer.j1]
    exact bind_of (spec_l01In_eq _ _ _) (ite_no (fun z => q (of_decide_eq_true z)) e)
theorem spec_l03DrawLayer_j0 {b : List Int} {x y z kd : Int} (B : Bool) (hx : 1 ≤ x) (hy : 1 ≤ y) (hz : 0 ≤ z ∧ z ≤ 8) {i : Int} (hc : Cu b i) (h : Int) : ∃ o, LayO b o ∧ Evp fun k => spec_l03DrawLayer.j0 k B b i h x y z kd 0 0 0 0 0 0 = some o := by
  by_cases q : B = true
  · obtain ⟨o, g1, g2⟩ := spec_l03DrawLayer_j1 (b := b) (x := x) (y := y) (z := z) (kd := 4) hx hy hz hc h
    refine ⟨o, g1, evSuc (evMono g2 fun k e => ?_)⟩
    simp only [spec_l03DrawLayer.j0]
    exact ite_yes q e
  · obtain ⟨o, g1, g2⟩ := spec_l03DrawLayer_j1 (b := b) (x := x) (y := y) (z := z) (kd := kd) hx hy hz hc h
    refine ⟨o, g1, evSuc (evMono g2 fun k e => ?_)⟩
    simp only [spec_l03DrawLayer.j0]
    exact ite_no q e
theorem spec_l03DrawLayer_ok {b : List Int} {x y z : Int} (hx : 1 ≤ x) (hy : 1 ≤ y) (hz : 0 ≤ z ∧ z ≤ 8) {i : Int} (hc : Cu b i) (h : Int) : ∃ o, LayO b o ∧ Evp fun k => spec_l03DrawLayer.f k b i h x y z = some o := by
  obtain ⟨r, i1, t1, e1, m1, c1⟩ := spec_l01PickInt_ok hc h ([0, 1, 1, 2, 3, 4, 5] : List Int) (by simp)
  by_cases q5 : r = 5
  · by_cases q8 : sizeOf x y z > 8
    · obtain ⟨o, g1, g2⟩ := spec_l03DrawLayer_j0 (kd := r) true hx hy hz c1 t1
      exact ⟨o, g1, evMono g2 fun k e => bind_of e1 (ite_yes q5 (bind_of (spec_SizeOf_eq _ _ _) (ite_yes q8 e)))⟩
    · obtain ⟨o, g1, g2⟩ := spec_l03DrawLayer_j0 (kd := r) false hx hy hz c1 t1
      exact ⟨o, g1, evMono g2 fun k e => bind_of e1 (ite_yes q5 (bind_of (spec_SizeOf_eq _ _ _) (ite_no q8 (ite_no (by omega) e))))⟩
  · by_cases q0 : r = 0
    · obtain ⟨o, g1, g2⟩ := spec_l03DrawLayer_j0 (kd := r) (decide (sizeOf x y z > 64)) hx hy hz c1 t1
      exact ⟨o, g1, evMono g2 fun k e => bind_of e1 (ite_no q5 (ite_yes q0 (bind_of (spec_SizeOf_eq _ _ _) e)))⟩
    · obtain ⟨o, g1, g2⟩ := spec_l03DrawLayer_j0 (kd := r) false hx hy hz c1 t1
      exact ⟨o, g1, evMono g2 fun k e => bind_of e1 (ite_no q5 (ite_no q0 e))⟩


theorem bend_j0 (b : List Int) (i h a0 a1 a2 a3 a4 a5 a6 : Int) (W B : List Int) : Evp fun k => spec_l03Bend.j0 k b i h a0 a1 a2 a3 a4 a5 a6 W B = some (a0, a1, a2, a3, a4, a5, a6, W, B, i, h) := evSuc (evAll fun k => by simp only [spec_l03Bend.j0])
theorem spec_l03Bend_ok {b : List Int} {i : Int} (hc : Cu b i) (h a0 a1 a2 a3 a4 a5 a6 : Int) (W B : List Int) (hW : W.length ≤ 2000) (hB : B.length ≤ 2000) : ∃ o : Int × Int × Int × Int × Int × Int × Int × List Int × List Int × Int × Int, (o.2.2.2.2.2.2.2.1.length ≤ 2001 ∧ o.2.2.2.2.2.2.2.2.1.length ≤ 2001 ∧ Cu b o.2.2.2.2.2.2.2.2.2.1) ∧ Evp fun k => spec_l03Bend.f k b i h a0 a1 a2 a3 a4 a5 a6 W B = some o := by
  obtain ⟨r, i1, t1, e1, a, b1, c1⟩ := spec_l01Below_ok hc h (n := 9) (by omega)
  have hW' : W.length ≤ 2001 := by omega
  have hB' : B.length ≤ 2001 := by omega
  by_cases q0 : r = 0
  · obtain ⟨v, i2, t2, e2, _, c2⟩ := spec_l01PickInt_ok c1 t1 ([(-1), 0, 2, 5, 6] : List Int) (by simp)
    exact ⟨_, ⟨hW', hB', c2⟩, evMono (bend_j0 b i2 t2 v a1 a2 a3 a4 a5 a6 W B) fun k g => bind_of e1 (ite_yes q0 (bind_of e2 g))⟩
  by_cases q1 : r = 1
  · obtain ⟨v, i2, t2, e2, _, c2⟩ := spec_l01PickInt_ok c1 t1 ([0, 8, 9] : List Int) (by simp)
    exact ⟨_, ⟨hW', hB', c2⟩, evMono (bend_j0 b i2 t2 a0 v a2 a3 a4 a5 a6 W B) fun k g => bind_of e1 (ite_no q0 (ite_yes q1 (bind_of e2 g)))⟩
  by_cases q2 : r = 2
  · obtain ⟨v, i2, t2, e2, _, c2⟩ := spec_l01PickInt_ok c1 t1 ([0, 3, 4] : List Int) (by simp)
    exact ⟨_, ⟨hW', hB', c2⟩, evMono (bend_j0 b i2 t2 a0 a1 v a3 a4 a5 a6 W B) fun k g => bind_of e1 (ite_no q0 (ite_no q1 (ite_yes q2 (bind_of e2 g))))⟩
  by_cases q3 : r = 3
  · obtain ⟨v, i2, t2, e2, _, c2⟩ := spec_l01PickInt_ok c1 t1 ([0, 2, 3] : List Int) (by simp)
    exact ⟨_, ⟨hW', hB', c2⟩, evMono (bend_j0 b i2 t2 a0 a1 a2 v a4 a5 a6 W B) fun k g => bind_of e1 (ite_no q0 (ite_no q1 (ite_no q2 (ite_yes q3 (bind_of e2 g)))))⟩
  by_cases q4 : r = 4
  · obtain ⟨v, i2, t2, e2, _, c2⟩ := spec_l01PickInt_ok c1 t1 ([(-1), 2147483647, 2147483648] : List Int) (by simp)
    exact ⟨_, ⟨hW', hB', c2⟩, evMono (bend_j0 b i2 t2 a0 a1 a2 a3 v a5 a6 W B) fun k g => bind_of e1 (ite_no q0 (ite_no q1 (ite_no q2 (ite_no q3 (ite_yes q4 (bind_of e2 g))))))⟩
  by_cases q5 : r = 5
  · obtain ⟨v, i2, t2, e2, _, c2⟩ := spec_l01PickInt_ok c1 t1 ([(-1), 31, 32] : List Int) (by simp)
    exact ⟨_, ⟨hW', hB', c2⟩, evMono (bend_j0 b i2 t2 a0 a1 a2 a3 a4 v a6 W B) fun k g => bind_of e1 (ite_no q0 (ite_no q1 (ite_no q2 (ite_no q3 (ite_no q4 (ite_yes q5 (bind_of e2 g)))))))⟩
  by_cases q6 : r = 6
  · obtain ⟨v, i2, t2, e2, _, c2⟩ := spec_l01PickInt_ok c1 t1 ([(-128), (-129), 127, 128] : List Int) (by simp)
    exact ⟨_, ⟨hW', hB', c2⟩, evMono (bend_j0 b i2 t2 a0 a1 a2 a3 a4 a5 v W B) fun k g => bind_of e1 (ite_no q0 (ite_no q1 (ite_no q2 (ite_no q3 (ite_no q4 (ite_no q5 (ite_yes q6 (bind_of e2 g))))))))⟩
  by_cases q7 : r = 7
  · obtain ⟨v, i2, t2, e2, _, c2⟩ := spec_l01PickInt_ok c1 t1 ([0, 128] : List Int) (by simp)
    exact ⟨_, ⟨by show (W ++ [v]).length ≤ 2001; simp; omega, hB', c2⟩, evMono (bend_j0 b i2 t2 a0 a1 a2 a3 a4 a5 a6 (W ++ [v]) B) fun k g => bind_of e1 (ite_no q0 (ite_no q1 (ite_no q2 (ite_no q3 (ite_no q4 (ite_no q5 (ite_no q6 (ite_yes q7 (bind_of e2 (ite_yes (by omega) g))))))))))⟩
  · have q8 : r = 8 := by omega
    obtain ⟨v, i2, t2, e2, _, c2⟩ := spec_l01PickInt_ok c1 t1 ([0, 1000001] : List Int) (by simp)
    exact ⟨_, ⟨hW', by show (B ++ [v]).length ≤ 2001; simp; omega, c2⟩, evMono (bend_j0 b i2 t2 a0 a1 a2 a3 a4 a5 a6 W (B ++ [v])) fun k g => bind_of e1 (ite_no q0 (ite_no q1 (ite_no q2 (ite_no q3 (ite_no q4 (ite_no q5 (ite_no q6 (ite_no q7 (ite_yes q8 (bind_of e2 (ite_yes (by omega) g)))))))))))⟩


def cntW (l : List Int) (at_ : Int) (bad : Bool) : Int × Int × Bool := if 0 ≤ (nextW l at_ bad).1 ∧ (nextW l at_ bad).1 ≤ 2000 then nextW l at_ bad else (0, (nextW l at_ bad).2.1, true)
theorem impl_count_ev (l : List Int) (hb : isBytes l) (hl : l.length ≤ 1073741824) (at_ : Int) (bad : Bool) (hat : i64 at_) : Evp fun k => impl_wideReader_count.f k l at_ bad 2000 = some (cntW l at_ bad) :=
  evMono (impl_number_ev l hb hl at_ bad hat) fun k e => bind_of e (bind_of (impl_in_eq _ _ _) (by
    unfold cntW
    by_cases h : 0 ≤ (nextW l at_ bad).1 ∧ (nextW l at_ bad).1 ≤ 2000
    · rw [if_pos h]; exact ite_yes (decide_eq_true h) rfl
    · rw [if_neg h]; exact ite_no (fun z => h (of_decide_eq_true z)) rfl))
/-- A place in the bytes. -/
def AtB (l : List Int) (a : Int) : Prop := 0 ≤ a ∧ a ≤ (l.length : Int)
theorem AtB.i64 {l : List Int} {a : Int} (h : AtB l a) (hl : l.length ≤ 1073741824) : i64 a := by
  obtain ⟨h0, h1⟩ := h
  unfold Pure.i64
  omega
theorem AtB.next {l : List Int} {a : Int} (h : AtB l a) (hb : isBytes l) (bad : Bool) : AtB l (nextW l a bad).2.1 := by
  obtain ⟨h1, h2, _⟩ := nextW_b l hb a bad h.1 h.2
  exact ⟨Int.le_trans h.1 h1, h2⟩
theorem AtB.cnt {l : List Int} {a : Int} (h : AtB l a) (hb : isBytes l) (bad : Bool) : AtB l (cntW l a bad).2.1 := by
  unfold cntW
  split
  · exact h.next hb bad
  · exact h.next hb bad
theorem cntW_b (l : List Int) (a : Int) (bad : Bool) : 0 ≤ (cntW l a bad).1 ∧ (cntW l a bad).1 ≤ 2000 := by
  unfold cntW
  split
  · rename_i h; exact h
  · exact ⟨Int.le_refl _, by show (0 : Int) ≤ 2000; omega⟩


def listGo (l : List Int) : Nat → List Int → Int → Bool → List Int × Int × Bool
  | 0, acc, at_, bad => (acc, at_, bad)
  | n + 1, acc, at_, bad => if bad = true then (acc, at_, bad) else listGo l n (acc ++ [(nextW l at_ bad).1]) (nextW l at_ bad).2.1 (nextW l at_ bad).2.2
theorem listGo_b (l : List Int) (hb : isBytes l) : ∀ (n : Nat) (acc : List Int) (a : Int) (bad : Bool), AtB l a → (listGo l n acc a bad).1.length ≤ acc.length + n ∧ AtB l (listGo l n acc a bad).2.1
  | 0, acc, a, bad, h => ⟨Nat.le_refl _, h⟩
  | n + 1, acc, a, bad, h => by
    unfold listGo
    split
    · exact ⟨by show acc.length ≤ _; omega, h⟩
    · have := listGo_b l hb n (acc ++ [(nextW l a bad).1]) _ (nextW l a bad).2.2 (h.next hb bad)
      rw [List.length_append, List.length_singleton] at this
      exact ⟨by omega, this.2⟩
theorem impl_list_l0 (l : List Int) (hb : isBytes l) (hl : l.length ≤ 1073741824) : ∀ (d : Nat) (acc : List Int) (a : Int) (bad : Bool), AtB l a → d ≤ 2000 → acc.length + d ≤ 2000 → Evp fun k => impl_wideReader_list.l0 k acc (d : Int) l a bad = some (listGo l d acc a bad)
  | 0, acc, a, bad, h, hd, ha => evSuc (evAll fun k => by
    simp only [impl_wideReader_list.l0]
    exact ite_no (by omega) rfl)
  | d + 1, acc, a, bad, h, hd, ha => by
    unfold listGo
    by_cases hbd : bad = true
    · rw [if_pos hbd]
      exact evSuc (evAll fun k => by
        simp only [impl_wideReader_list.l0]
        exact ite_yes (by omega) (ite_yes hbd rfl))
    · rw [if_neg hbd]
      have ih := impl_list_l0 l hb hl d (acc ++ [(nextW l a bad).1]) (nextW l a bad).2.1 (nextW l a bad).2.2 (h.next hb bad) (by omega) (by simp; omega)
      refine evSuc (evMono (evAnd (impl_number_ev l hb hl a bad (h.i64 hl)) ih) fun k ⟨e, e2⟩ => ?_)
      simp only [impl_wideReader_list.l0]
      refine ite_yes (by omega) (ite_no hbd (bind_of e (ite_yes (by omega) ?_)))
      rw [w64' (x := ((d + 1 : Nat) : Int) - 1) (by omega) (by omega), show ((d + 1 : Nat) : Int) - 1 = (d : Int) by omega]
      exact e2
def listW (l : List Int) (a : Int) (bad : Bool) : List Int × Int × Bool := listGo l (cntW l a bad).1.toNat [] (cntW l a bad).2.1 (cntW l a bad).2.2
theorem listW_b (l : List Int) (hb : isBytes l) {a : Int} (bad : Bool) (h : AtB l a) : (listW l a bad).1.length ≤ 2000 ∧ AtB l (listW l a bad).2.1 := by
  have hc := cntW_b l a bad
  have := listGo_b l hb (cntW l a bad).1.toNat [] _ (cntW l a bad).2.2 (h.cnt hb bad)
  unfold listW
  exact ⟨by have := this.1; simp only [List.length_nil] at this; omega, this.2⟩
theorem impl_list_ev (l : List Int) (hb : isBytes l) (hl : l.length ≤ 1073741824) {a : Int} (bad : Bool) (h : AtB l a) : Evp fun k => impl_wideReader_list.f k l a bad 2000 = some (listW l a bad) := by
  have hc := cntW_b l a bad
  have g := impl_list_l0 l hb hl (cntW l a bad).1.toNat [] _ (cntW l a bad).2.2 (h.cnt hb bad) (by omega) (by simp; omega)
  rw [show (((cntW l a bad).1.toNat : Nat) : Int) = (cntW l a bad).1 by omega] at g
  exact evMono (evAnd (impl_count_ev l hb hl a bad (h.i64 hl)) g) fun k ⟨e, e2⟩ => bind_of e e2


def accOk (n : Nat) (acc : List S46) : Prop := acc.length ≤ n ∧ ∀ x ∈ acc, x.f7.length ≤ 2000 ∧ x.f8.length ≤ 2000
theorem accOk.small {n : Nat} {acc : List S46} (h : accOk n acc) (hn : n ≤ 2000) : smallI acc :=
  ⟨by have := h.1; omega, fun x hx => by have := h.2 x hx; exact ⟨by omega, by omega⟩⟩
/-! #### a number that is written is read again -/
theorem wide_zig (x : Int) : wideOf (zig x) = x := by
  unfold wideOf zig
  split <;> split <;> omega
theorem getD_mid (p : List Int) (b : Int) (s : List Int) : (p ++ b :: s).getD p.length 0 = b := by
  simp [List.getD]
theorem take_put (s : List Int) (a : Nat) : ∀ (d i : Nat) (u v : Int) (p : List Int), p.length = a + i → 1 ≤ d → 0 ≤ v → v < 128 ^ d → 0 ≤ u → u + v * 2 ^ (7 * i) ≤ 2199023255551 → (i = 0 ∨ 1 ≤ v) →
    takeGo (p ++ (putGo d v ++ s)) (a : Int) d i u = (wideOf (u + v * 2 ^ (7 * i)), ((p.length + (putGo d v).length : Nat) : Int))
  | d + 1, i, u, v, p, hp, _, hv, hvd, hu, hb, hi => by
    have hidx : ((a : Int) + (i : Int)).toNat = p.length := by omega
    by_cases h : v ≥ 128
    · have e : putGo (d + 1) v = (128 + v % 128) :: putGo d (v / 128) := if_pos h
      have hd : 1 ≤ d := by
        cases d with
        | zero => simp at hvd; omega
        | succ d => omega
      have hq : v / 128 < 128 ^ d := by
        rw [Int.pow_succ] at hvd
        exact Int.ediv_lt_of_lt_mul (by omega) hvd
      have hm : (128 + v % 128) % 128 = v % 128 := by omega
      have hs : v % 128 * 2 ^ (7 * i) + v / 128 * 2 ^ (7 * (i + 1)) = v * 2 ^ (7 * i) := by
        rw [pow_split, ← Int.mul_assoc, ← Int.add_mul]
        congr 1
        omega
      have ih := take_put s a d (i + 1) (u + v % 128 * 2 ^ (7 * i)) (v / 128) (p ++ [128 + v % 128]) (by simp; omega) hd (by omega) hq (by
        have := (two_pow_le (n := 0) (m := 7 * i) (by omega)).2
        have : 0 ≤ v % 128 * 2 ^ (7 * i) := Int.mul_nonneg (by omega) (by omega)
        omega) (by rw [Int.add_assoc, hs]; exact hb) (Or.inr (by omega))
      rw [Int.add_assoc, hs] at ih
      rw [e, List.cons_append]
      rw [List.append_assoc] at ih
      simp only [List.singleton_append] at ih
      unfold takeGo
      rw [hidx, getD_mid, if_neg (by simp only [List.length_append, List.length_cons]; omega), if_neg (by omega), hm, ih]
      simp only [List.length_append, List.length_cons, List.length_nil]
      congr 1
      omega
    · have e : putGo (d + 1) v = [v % 256] := by unfold putGo; rw [if_neg h]
      rw [e]
      have hv2 : v % 256 = v := by omega
      have hm : v % 128 = v := by omega
      unfold takeGo
      rw [hidx, List.singleton_append, getD_mid, hv2, if_neg (by simp only [List.length_append, List.length_cons]; omega), if_pos (by omega), hm, if_neg (by omega)]
      simp only [List.length_cons, List.length_nil]
      congr 1
      omega
theorem zig_le {x : Int} (h : inW x) : 0 ≤ zig x ∧ zig x < 128 ^ 6 ∧ zig x ≤ 2199023255551 := by
  unfold inW at h
  unfold zig
  split <;> omega
theorem next_put {p s : List Int} {x : Int} (h : inW x) : nextW (p ++ (putWide x ++ s)) (p.length : Int) false = (x, ((p.length + (putWide x).length : Nat) : Int), false) := by
  obtain ⟨z0, z1, z2⟩ := zig_le h
  have e := take_put s p.length 6 0 0 (zig x) p rfl (by omega) z0 z1 (by omega) (by simpa using z2) (Or.inl rfl)
  have e' : takeWide (p ++ (putWide x ++ s)) (p.length : Int) = (x, ((p.length + (putWide x).length : Nat) : Int)) := by
    unfold takeWide putWide
    rw [e]
    simp [wide_zig]
  unfold nextW
  rw [if_neg Bool.false_ne_true, e', if_neg (by simp only; omega)]
/-! #### what is read of a shorter row is read of the longer one -/
def Pre (l' l : List Int) : Prop := ∃ s, l = l' ++ s
theorem Pre.len {l' l : List Int} (h : Pre l' l) : l'.length ≤ l.length := by obtain ⟨s, rfl⟩ := h; simp
theorem Pre.getD {l' l : List Int} (h : Pre l' l) {i : Nat} (hi : i < l'.length) : l.getD i 0 = l'.getD i 0 := by
  obtain ⟨s, rfl⟩ := h
  simp [List.getD, List.getElem?_append_left hi]
theorem takeGo_pre {l' l : List Int} (h : Pre l' l) (a : Int) : ∀ (d i : Nat) (u : Int), 0 ≤ (takeGo l' a d i u).2 → takeGo l a d i u = takeGo l' a d i u
  | 0, i, u, hk => by simp [takeGo] at hk
  | d + 1, i, u, hk => by
    have hl := h.len
    unfold takeGo at hk ⊢
    by_cases c : a < 0 ∨ a ≥ (l'.length : Int) - i
    · rw [if_pos c] at hk
      exact absurd hk (by show ¬ (0 : Int) ≤ -1; omega)
    · rw [if_neg c] at hk
      rw [if_neg c, if_neg (by omega), h.getD (i := (a + i).toNat) (by omega)]
      split
      · rename_i c2
        rfl
      · rename_i c2
        rw [if_neg c2] at hk
        exact takeGo_pre h a d (i + 1) _ hk
/-- A reader: from a place (and whether a number was missed) to what is read, and where it stands then. -/
abbrev Rdr (α : Type) := Int → Bool → α × Int × Bool
def sticks {α : Type} (f : Rdr α) : Prop := ∀ a, (f a true).2.2 = true
def agree {α : Type} (f' f : Rdr α) : Prop := ∀ a, (f' a false).2.2 = false → f a false = f' a false
def bndR {α β : Type} (f : Rdr α) (g : α → Rdr β) : Rdr β := fun a b => g (f a b).1 (f a b).2.1 (f a b).2.2
def retR {α : Type} (x : α) : Rdr α := fun a b => (x, a, b)
theorem sticks_bnd {α β : Type} {f : Rdr α} {g : α → Rdr β} (hf : sticks f) (hg : ∀ x, sticks (g x)) : sticks (bndR f g) := fun a => by
  unfold bndR
  rw [hf a]
  exact hg _ _
theorem sticks_ret {α : Type} (x : α) : sticks (retR x) := fun _ => rfl
theorem agree_bnd {α β : Type} {f' f : Rdr α} {g' g : α → Rdr β} (hf : agree f' f) (hs : ∀ x, sticks (g' x)) (hg : ∀ x, agree (g' x) (g x)) : agree (bndR f' g') (bndR f g) := fun a h => by
  unfold bndR at h ⊢
  have hb : (f' a false).2.2 = false := by
    cases e : (f' a false).2.2 with
    | false => rfl
    | true => rw [e, hs] at h; cases h
  rw [hb] at h
  rw [hf a hb, hb]
  exact hg _ _ h
theorem agree_ret {α : Type} (x : α) : agree (retR x) (retR x) := fun _ _ => rfl
theorem sticks_next (l : List Int) : sticks (nextW l) := fun a => rfl
theorem agree_next {l' l : List Int} (h : Pre l' l) : agree (nextW l') (nextW l) := fun a hk => by
  unfold nextW at hk ⊢
  rw [if_neg Bool.false_ne_true] at hk
  rw [if_neg Bool.false_ne_true, if_neg Bool.false_ne_true]
  by_cases c : (takeWide l' a).2 < 0
  · rw [if_pos c] at hk; cases hk
  · have e : takeWide l a = takeWide l' a := takeGo_pre h a 6 0 0 (by unfold takeWide at c; omega)
    rw [e]
theorem sticks_cnt (l : List Int) : sticks (cntW l) := fun a => by
  unfold cntW
  split
  · exact sticks_next l a
  · rfl
theorem agree_cnt {l' l : List Int} (h : Pre l' l) : agree (cntW l') (cntW l) := fun a hk => by
  unfold cntW at hk ⊢
  by_cases c : 0 ≤ (nextW l' a false).1 ∧ (nextW l' a false).1 ≤ 2000
  · rw [if_pos c] at hk
    rw [agree_next h a hk]
  · rw [if_neg c] at hk; cases hk
theorem sticks_go (l : List Int) : ∀ (n : Nat) (acc : List Int), sticks (listGo l n acc)
  | 0, acc, a => rfl
  | n + 1, acc, a => by unfold listGo; rw [if_pos rfl]
theorem agree_go {l' l : List Int} (h : Pre l' l) : ∀ (n : Nat) (acc : List Int), agree (listGo l' n acc) (listGo l n acc)
  | 0, acc, a, _ => rfl
  | n + 1, acc, a, hk => by
    unfold listGo at hk ⊢
    rw [if_neg Bool.false_ne_true] at hk
    rw [if_neg Bool.false_ne_true, if_neg Bool.false_ne_true]
    have hb : (nextW l' a false).2.2 = false := by
      cases e : (nextW l' a false).2.2 with
      | false => rfl
      | true => rw [e, sticks_go] at hk; cases hk
    rw [hb] at hk
    rw [agree_next h a hb, hb]
    exact agree_go h n _ _ hk
def listR (l : List Int) : Rdr (List Int) := bndR (cntW l) fun n => listGo l n.toNat []
theorem sticks_list (l : List Int) : sticks (listR l) := sticks_bnd (sticks_cnt l) fun n => sticks_go l _ _
theorem agree_list {l' l : List Int} (h : Pre l' l) : agree (listR l') (listR l) := agree_bnd (agree_cnt h) (fun n => sticks_go l' _ _) fun n => agree_go h _ _
def shapeR (l : List Int) : Rdr S24 := bndR (nextW l) fun x => bndR (nextW l) fun y => bndR (nextW l) fun z => retR ⟨x, y, z⟩
theorem sticks_shape (l : List Int) : sticks (shapeR l) := sticks_bnd (sticks_next l) fun _ => sticks_bnd (sticks_next l) fun _ => sticks_bnd (sticks_next l) fun _ => sticks_ret _
theorem agree_shape {l' l : List Int} (h : Pre l' l) : agree (shapeR l') (shapeR l) :=
  agree_bnd (agree_next h) (fun _ => sticks_bnd (sticks_next l') fun _ => sticks_bnd (sticks_next l') fun _ => sticks_ret _) fun _ => agree_bnd (agree_next h) (fun _ => sticks_bnd (sticks_next l') fun _ => sticks_ret _) fun _ => agree_bnd (agree_next h) (fun _ => sticks_ret _) fun _ => agree_ret _
def layR (l : List Int) : Rdr S46 := bndR (nextW l) fun a => bndR (nextW l) fun b => bndR (nextW l) fun c => bndR (nextW l) fun d => bndR (nextW l) fun e => bndR (nextW l) fun f => bndR (nextW l) fun g => bndR (listR l) fun W => bndR (listR l) fun B => retR ⟨a, b, c, d, e, f, g, W, B⟩
/-- Both at once. -/
def good {α : Type} (f' f : Rdr α) : Prop := sticks f' ∧ agree f' f
theorem good_bnd {α β : Type} {f' f : Rdr α} {g' g : α → Rdr β} (hf : good f' f) (hg : ∀ x, good (g' x) (g x)) : good (bndR f' g') (bndR f g) := ⟨sticks_bnd hf.1 fun x => (hg x).1, agree_bnd hf.2 (fun x => (hg x).1) fun x => (hg x).2⟩
theorem good_ret {α : Type} (x : α) : good (retR x) (retR x) := ⟨sticks_ret x, agree_ret x⟩
theorem good_next {l' l : List Int} (h : Pre l' l) : good (nextW l') (nextW l) := ⟨sticks_next l', agree_next h⟩
theorem good_list {l' l : List Int} (h : Pre l' l) : good (listR l') (listR l) := ⟨sticks_list l', agree_list h⟩
theorem good_lay {l' l : List Int} (h : Pre l' l) : good (layR l') (layR l) := good_bnd (good_next h) fun _ => good_bnd (good_next h) fun _ => good_bnd (good_next h) fun _ => good_bnd (good_next h) fun _ => good_bnd (good_next h) fun _ => good_bnd (good_next h) fun _ => good_bnd (good_next h) fun _ => good_bnd (good_list h) fun _ => good_bnd (good_list h) fun _ => good_ret _
def laysR (l : List Int) : Nat → List S46 → Rdr (List S46)
  | 0, acc => retR acc
  | n + 1, acc => fun a b => if b = true then (acc, a, true) else bndR (layR l) (fun x => laysR l n (acc ++ [x])) a b
theorem good_lays {l' l : List Int} (h : Pre l' l) : ∀ (n : Nat) (acc : List S46), good (laysR l' n acc) (laysR l n acc)
  | 0, acc => good_ret acc
  | n + 1, acc => ⟨fun a => by unfold laysR; rw [if_pos rfl], fun a hk => by
    unfold laysR at hk ⊢
    rw [if_neg Bool.false_ne_true] at hk
    rw [if_neg Bool.false_ne_true, if_neg Bool.false_ne_true]
    exact (good_bnd (good_lay h) fun x => good_lays h n (acc ++ [x])).2 a hk⟩
/-- What is read of a model: its shape and its layers; and behind them the sum, and where the sum begins. -/
def modR (l : List Int) : Rdr (S24 × List S46) := bndR (shapeR l) fun s => bndR (cntW l) fun n => bndR (laysR l n.toNat []) fun L => retR (s, L)
def sumR (l : List Int) (m : S24 × List S46) : Rdr (S24 × List S46 × Int × Int) := fun a b => bndR (nextW l) (fun t => retR (m.1, m.2, a, t)) a b
def allR (l : List Int) : Rdr (S24 × List S46 × Int × Int) := bndR (modR l) (sumR l)
theorem good_cnt {l' l : List Int} (h : Pre l' l) : good (cntW l') (cntW l) := ⟨sticks_cnt l', agree_cnt h⟩
theorem good_all {l' l : List Int} (h : Pre l' l) : good (allR l') (allR l) :=
  good_bnd (good_bnd ⟨sticks_shape l', agree_shape h⟩ fun s => good_bnd (good_cnt h) fun n => good_bnd (good_lays h _ _) fun L => good_ret _) fun m => ⟨fun a => (good_bnd (good_next h) fun t => good_ret (m.1, m.2, a, t)).1 a, fun a hk => (good_bnd (good_next h) fun t => good_ret (m.1, m.2, a, t)).2 a hk⟩
def decR (l : List Int) (R : (S24 × List S46 × Int × Int) × Int × Bool) : Int × Int × Int × List S46 × Int :=
  if R.2.2 = true then (0, 0, 0, [], 2) else if R.1.2.2.2 = sumOf (l.take R.1.2.2.1.toNat) ∧ R.2.1 = (l.length : Int) then
    (if (modelShapes R.1.1 R.1.2.1).2 = true then (R.1.1.f0, R.1.1.f1, R.1.1.f2, R.1.2.1, 0) else (0, 0, 0, [], 4)) else (0, 0, 0, [], 3)
def decW (l : List Int) : Int × Int × Int × List S46 × Int := if (l.length : Int) > 6000 then (0, 0, 0, [], 5) else if headOk l = true then decR l (allR l 3 false) else (0, 0, 0, [], 1)
/-! #### what is written is read again -/
theorem list_go_put {s : List Int} : ∀ (W acc p : List Int), (∀ y ∈ W, inW y) → listGo (p ++ (W.flatMap putWide ++ s)) W.length acc (p.length : Int) false = (acc ++ W, ((p.length + (W.flatMap putWide).length : Nat) : Int), false)
  | [], acc, p, _ => by simp [listGo]
  | x :: W, acc, p, h => by
    have e := next_put (p := p) (s := W.flatMap putWide ++ s) (h x (by simp))
    have ih := list_go_put (s := s) W (acc ++ [x]) (p ++ putWide x) fun y hy => h y (by simp [hy])
    rw [List.flatMap_cons, List.append_assoc]
    rw [List.append_assoc] at ih
    unfold listGo
    simp only [List.length_cons]
    rw [if_neg Bool.false_ne_true, e]
    simp only
    rw [show ((p.length + (putWide x).length : Nat) : Int) = (((p ++ putWide x).length : Nat) : Int) by simp, ih]
    simp only [List.append_assoc, List.singleton_append, List.length_append]
    congr 2
    omega
theorem cnt_put {p s : List Int} {n : Nat} (h : n ≤ 2000) : cntW (p ++ (putWide (n : Int) ++ s)) (p.length : Int) false = ((n : Int), ((p.length + (putWide (n : Int)).length : Nat) : Int), false) := by
  have e := next_put (p := p) (s := s) (x := (n : Int)) (by unfold inW; omega)
  unfold cntW
  rw [e, if_pos (by simp only; omega)]
theorem list_put {p s W : List Int} (hn : W.length ≤ 2000) (h : ∀ y ∈ W, inW y) : listR (p ++ ((putWide (W.length : Int) ++ W.flatMap putWide) ++ s)) (p.length : Int) false = (W, ((p.length + (putWide (W.length : Int) ++ W.flatMap putWide).length : Nat) : Int), false) := by
  have e := cnt_put (p := p) (s := W.flatMap putWide ++ s) hn
  have g := list_go_put (s := s) W [] (p ++ putWide (W.length : Int)) h
  unfold listR bndR
  rw [List.append_assoc, e]
  simp only [Int.toNat_natCast]
  rw [List.append_assoc] at g
  rw [show ((p.length + (putWide (W.length : Int)).length : Nat) : Int) = (((p ++ putWide (W.length : Int)).length : Nat) : Int) by simp, g]
  simp only [List.nil_append, List.length_append]
  congr 2
  omega

def puts {α : Type} (f : List Int → Rdr α) (bs : List Int) (x : α) : Prop := ∀ p s, f (p ++ (bs ++ s)) (p.length : Int) false = (x, ((p.length + bs.length : Nat) : Int), false)
theorem bnd_eq {α β : Type} {f : Rdr α} {g : α → Rdr β} {a a' : Int} {b b' : Bool} {x : α} {r : β × Int × Bool} (h : f a b = (x, a', b')) (hg : g x a' b' = r) : bndR f g a b = r := by
  unfold bndR
  rw [h]
  exact hg
theorem puts_bnd {α β : Type} {f : List Int → Rdr α} {g : α → List Int → Rdr β} {bs cs : List Int} {x : α} {y : β} (hf : puts f bs x) (hg : puts (g x) cs y) : puts (fun l => bndR (f l) fun x => g x l) (bs ++ cs) y := fun p s => by
  rw [List.append_assoc]
  refine bnd_eq (hf p (cs ++ s)) ?_
  have h := hg (p ++ bs) s
  rw [List.append_assoc, List.length_append] at h
  rw [h, List.length_append]
  congr 3
  omega
theorem puts_ret {α : Type} (x : α) : puts (fun _ => retR x) [] x := fun p s => rfl
theorem puts_next {x : Int} (h : inW x) : puts nextW (putWide x) x := fun p s => next_put h
theorem puts_cnt {n : Nat} (h : n ≤ 2000) : puts cntW (putWide (n : Int)) (n : Int) := fun p s => cnt_put h
theorem puts_list {W : List Int} (hn : W.length ≤ 2000) (h : ∀ y ∈ W, inW y) : puts listR (putWide (W.length : Int) ++ W.flatMap putWide) W := fun p s => list_put hn h
theorem puts_shape {s : S24} (h : inW s.f0 ∧ inW s.f1 ∧ inW s.f2) : puts shapeR (putWide s.f0 ++ (putWide s.f1 ++ (putWide s.f2 ++ []))) s :=
  puts_bnd (g := fun x l => bndR (nextW l) fun y => bndR (nextW l) fun z => retR (⟨x, y, z⟩ : S24)) (puts_next h.1) (puts_bnd (g := fun y l => bndR (nextW l) fun z => retR (⟨s.f0, y, z⟩ : S24)) (puts_next h.2.1) (puts_bnd (g := fun z _ => retR (⟨s.f0, s.f1, z⟩ : S24)) (puts_next h.2.2) (puts_ret s)))
def shortL (x : S46) : Prop := x.f7.length ≤ 2000 ∧ x.f8.length ≤ 2000
theorem puts_lay {x : S46} (h : wideL x) (hs : shortL x) : puts layR (layerBytes x) x := by
  obtain ⟨h1, h7, h8⟩ := h
  unfold numsL at h1
  simp only [List.mem_cons, List.not_mem_nil, or_false, forall_eq_or_imp, forall_eq] at h1
  obtain ⟨n0, n1, n2, n3, n4, n5, n6⟩ := h1
  have e := puts_bnd (g := fun a l => bndR (nextW l) fun b => bndR (nextW l) fun c => bndR (nextW l) fun d => bndR (nextW l) fun e => bndR (nextW l) fun f => bndR (nextW l) fun g => bndR (listR l) fun W => bndR (listR l) fun B => retR (⟨a, b, c, d, e, f, g, W, B⟩ : S46)) (puts_next n0)
    (puts_bnd (g := fun b l => bndR (nextW l) fun c => bndR (nextW l) fun d => bndR (nextW l) fun e => bndR (nextW l) fun f => bndR (nextW l) fun g => bndR (listR l) fun W => bndR (listR l) fun B => retR (⟨x.f0, b, c, d, e, f, g, W, B⟩ : S46)) (puts_next n1)
    (puts_bnd (g := fun c l => bndR (nextW l) fun d => bndR (nextW l) fun e => bndR (nextW l) fun f => bndR (nextW l) fun g => bndR (listR l) fun W => bndR (listR l) fun B => retR (⟨x.f0, x.f1, c, d, e, f, g, W, B⟩ : S46)) (puts_next n2)
    (puts_bnd (g := fun d l => bndR (nextW l) fun e => bndR (nextW l) fun f => bndR (nextW l) fun g => bndR (listR l) fun W => bndR (listR l) fun B => retR (⟨x.f0, x.f1, x.f2, d, e, f, g, W, B⟩ : S46)) (puts_next n3)
    (puts_bnd (g := fun e l => bndR (nextW l) fun f => bndR (nextW l) fun g => bndR (listR l) fun W => bndR (listR l) fun B => retR (⟨x.f0, x.f1, x.f2, x.f3, e, f, g, W, B⟩ : S46)) (puts_next n4)
    (puts_bnd (g := fun f l => bndR (nextW l) fun g => bndR (listR l) fun W => bndR (listR l) fun B => retR (⟨x.f0, x.f1, x.f2, x.f3, x.f4, f, g, W, B⟩ : S46)) (puts_next n5)
    (puts_bnd (g := fun g l => bndR (listR l) fun W => bndR (listR l) fun B => retR (⟨x.f0, x.f1, x.f2, x.f3, x.f4, x.f5, g, W, B⟩ : S46)) (puts_next n6)
    (puts_bnd (g := fun W l => bndR (listR l) fun B => retR (⟨x.f0, x.f1, x.f2, x.f3, x.f4, x.f5, x.f6, W, B⟩ : S46)) (puts_list hs.1 h7)
    (puts_bnd (g := fun B _ => retR (⟨x.f0, x.f1, x.f2, x.f3, x.f4, x.f5, x.f6, x.f7, B⟩ : S46)) (puts_list hs.2 h8) (puts_ret x)))))))))
  have hb : layerBytes x = putWide x.f0 ++ (putWide x.f1 ++ (putWide x.f2 ++ (putWide x.f3 ++ (putWide x.f4 ++ (putWide x.f5 ++ (putWide x.f6 ++ ((putWide (x.f7.length : Int) ++ x.f7.flatMap putWide) ++ ((putWide (x.f8.length : Int) ++ x.f8.flatMap putWide) ++ [])))))))) := by simp [layerBytes, numsL]
  rw [hb]
  exact e
theorem puts_lays : ∀ (L acc : List S46), (∀ x ∈ L, wideL x) → (∀ x ∈ L, shortL x) → puts (fun l => laysR l L.length acc) (L.flatMap layerBytes) (acc ++ L)
  | [], acc, _, _ => fun p s => by simp [laysR, retR]
  | x :: L, acc, h, hs => fun p s => by
    have e := puts_bnd (g := fun x l => laysR l L.length (acc ++ [x])) (puts_lay (h x (by simp)) (hs x (by simp))) (puts_lays L (acc ++ [x]) (fun y hy => h y (by simp [hy])) fun y hy => hs y (by simp [hy])) p s
    rw [show acc ++ [x] ++ L = acc ++ x :: L by simp, ← List.flatMap_cons] at e
    show laysR _ (L.length + 1) acc _ _ = _
    unfold laysR
    rw [if_neg Bool.false_ne_true]
    exact e
def modBytes (s : S24) (L : List S46) : List Int := (putWide s.f0 ++ (putWide s.f1 ++ (putWide s.f2 ++ []))) ++ (putWide (L.length : Int) ++ (L.flatMap layerBytes ++ []))
theorem puts_mod {s : S24} {L : List S46} (h : inW s.f0 ∧ inW s.f1 ∧ inW s.f2) (hn : L.length ≤ 2000) (hw : ∀ x ∈ L, wideL x) (hs : ∀ x ∈ L, shortL x) : puts modR (modBytes s L) (s, L) := by
  have e := puts_lays L [] hw hs
  rw [List.nil_append] at e
  refine puts_bnd (g := fun s l => bndR (cntW l) fun n => bndR (laysR l n.toNat []) fun L => retR (s, L)) (puts_shape h) (puts_bnd (g := fun n l => bndR (laysR l n.toNat []) fun L => retR (s, L)) (puts_cnt hn) (puts_bnd (f := fun l => laysR l (L.length : Int).toNat []) (g := fun L _ => retR (s, L)) ?_ (puts_ret _)))
  rw [Int.toNat_natCast]
  exact e
theorem enc_eq (s : S24) (L : List S46) : encBytes s L = [80, 77, 49] ++ modBytes s L := by simp [encBytes, headBytes, modBytes]
theorem all_put {s : S24} {L : List S46} (h : inW s.f0 ∧ inW s.f1 ∧ inW s.f2) (hn : L.length ≤ 2000) (hw : ∀ x ∈ L, wideL x) (hs : ∀ x ∈ L, shortL x) (x : List Int) : allR (encFull s L ++ x) 3 false = ((s, L, ((encBytes s L).length : Int), sumOf (encBytes s L)), ((encFull s L).length : Int), false) := by
  have e1 := puts_mod h hn hw hs [80, 77, 49] (putWide (sumOf (encBytes s L)) ++ x)
  have e2 := puts_next (sumOf_w (encBytes_bytes s L)) ([80, 77, 49] ++ modBytes s L) x
  have hl : ((([80, 77, 49] : List Int).length + (modBytes s L).length : Nat) : Int) = ((encBytes s L).length : Int) := by rw [enc_eq, List.length_append]
  have hf : encFull s L ++ x = [80, 77, 49] ++ (modBytes s L ++ (putWide (sumOf (encBytes s L)) ++ x)) := by
    unfold encFull
    rw [List.append_assoc, ← List.append_assoc [80, 77, 49], ← enc_eq]
  rw [← hf, hl] at e1
  rw [List.append_assoc, ← hf, ← enc_eq] at e2
  refine bnd_eq e1 ?_
  refine bnd_eq e2 ?_
  unfold encFull retR
  rw [List.length_append]
/-! #### what the program reads -/
theorem num_ok (l : List Int) (hb : isBytes l) (hl : l.length ≤ 1073741824) {a : Int} (bad : Bool) (h : AtB l a) : ∃ (x a' : Int) (b' : Bool), AtB l a' ∧ nextW l a bad = (x, a', b') ∧ Evp fun k => impl_wideReader_number.f k l a bad = some (x, a', b') :=
  ⟨_, _, _, h.next hb bad, rfl, impl_number_ev l hb hl a bad (h.i64 hl)⟩
theorem lst_ok (l : List Int) (hb : isBytes l) (hl : l.length ≤ 1073741824) {a : Int} (bad : Bool) (h : AtB l a) : ∃ (x : List Int) (a' : Int) (b' : Bool), AtB l a' ∧ x.length ≤ 2000 ∧ listR l a bad = (x, a', b') ∧ Evp fun k => impl_wideReader_list.f k l a bad 2000 = some (x, a', b') :=
  ⟨_, _, _, (listW_b l hb bad h).2, (listW_b l hb bad h).1, rfl, impl_list_ev l hb hl bad h⟩
theorem shape_ok (l : List Int) (hb : isBytes l) (hl : l.length ≤ 1073741824) {a : Int} (bad : Bool) (h : AtB l a) : ∃ (s : S24) (a' : Int) (b' : Bool), AtB l a' ∧ shapeR l a bad = (s, a', b') ∧ Evp fun k => impl_wideReader_shape.f k l a bad = some (s.f0, s.f1, s.f2, a', b') := by
  obtain ⟨x1, a1, b1, A1, s1, t1⟩ := num_ok l hb hl bad h
  obtain ⟨x2, a2, b2, A2, s2, t2⟩ := num_ok l hb hl b1 A1
  obtain ⟨x3, a3, b3, A3, s3, t3⟩ := num_ok l hb hl b2 A2
  exact ⟨⟨x1, x2, x3⟩, a3, b3, A3, bnd_eq s1 (bnd_eq s2 (bnd_eq s3 rfl)), evMono (evAnd t1 (evAnd t2 t3)) fun k ⟨e1, e2, e3⟩ => bind_of e1 (bind_of e2 (bind_of e3 rfl))⟩
theorem lay_ok (l : List Int) (hb : isBytes l) (hl : l.length ≤ 1073741824) {a : Int} (bad : Bool) (h : AtB l a) : ∃ (x : S46) (a' : Int) (b' : Bool), AtB l a' ∧ shortL x ∧ layR l a bad = (x, a', b') ∧ Evp fun k => impl_wideReader_layer.f k l a bad = some (x.f0, x.f1, x.f2, x.f3, x.f4, x.f5, x.f6, x.f7, x.f8, a', b') := by
  obtain ⟨x1, a1, b1, A1, s1, t1⟩ := num_ok l hb hl bad h
  obtain ⟨x2, a2, b2, A2, s2, t2⟩ := num_ok l hb hl b1 A1
  obtain ⟨x3, a3, b3, A3, s3, t3⟩ := num_ok l hb hl b2 A2
  obtain ⟨x4, a4, b4, A4, s4, t4⟩ := num_ok l hb hl b3 A3
  obtain ⟨x5, a5, b5, A5, s5, t5⟩ := num_ok l hb hl b4 A4
  obtain ⟨x6, a6, b6, A6, s6, t6⟩ := num_ok l hb hl b5 A5
  obtain ⟨x7, a7, b7, A7, s7, t7⟩ := num_ok l hb hl b6 A6
  obtain ⟨x8, a8, b8, A8, l8, s8, t8⟩ := lst_ok l hb hl b7 A7
  obtain ⟨x9, a9, b9, A9, l9, s9, t9⟩ := lst_ok l hb hl b8 A8
  exact ⟨⟨x1, x2, x3, x4, x5, x6, x7, x8, x9⟩, a9, b9, A9, ⟨l8, l9⟩, bnd_eq s1 (bnd_eq s2 (bnd_eq s3 (bnd_eq s4 (bnd_eq s5 (bnd_eq s6 (bnd_eq s7 (bnd_eq s8 (bnd_eq s9 rfl)))))))), evMono (evAnd t1 (evAnd t2 (evAnd t3 (evAnd t4 (evAnd t5 (evAnd t6 (evAnd t7 (evAnd t8 t9)))))))) fun k ⟨s1, s2, s3, s4, s5, s6, s7, s8, s9⟩ => bind_of s1 (bind_of s2 (bind_of s3 (bind_of s4 (bind_of s5 (bind_of s6 (bind_of s7 (bind_of s8 (bind_of s9 rfl))))))))⟩
theorem dec_j2 (p q r : Int) (acc : List S46) (hs : smallI acc) (c : Bool) : Evp fun k => impl_DecodeModel.j2 k c p q r acc = some (if c = true then (0, 0, 0, [], 3) else if (modelShapes ⟨p, q, r⟩ acc).2 = true then (p, q, r, acc, 0) else (0, 0, 0, [], 4)) :=
  evSuc (evMono (impl_ModelOk_ev ⟨p, q, r⟩ acc hs) fun k e => by
    simp only [impl_DecodeModel.j2]
    by_cases hc : c = true
    · rw [if_pos hc, if_pos hc]
    · rw [if_neg hc, if_neg hc]
      exact bind_of e (apply_ite some _ _ _).symm)
theorem dec_tail (l : List Int) (hb : isBytes l) (hl : l.length ≤ 6000) {a : Int} (bad : Bool) (h : AtB l a) (p q r : Int) {acc : List S46} (hs : smallI acc) : Evp fun k => impl_DecodeModel.j1 k l l a bad p q r acc = some (decR l (sumR l (⟨p, q, r⟩, acc) a bad)) := by
  obtain ⟨x, a', b', hA, e1, e2⟩ := num_ok l hb (by omega) bad h
  have e : sumR l (⟨p, q, r⟩, acc) a bad = ((⟨p, q, r⟩, acc, a, x), a', b') := bnd_eq e1 rfl
  rw [e]
  have s2 := impl_SumOf_ev (l.take a.toNat) (fun y hy => hb y (List.mem_of_mem_take hy)) (by rw [List.length_take]; omega)
  refine evSuc (evMono (evAnd e2 (evAnd s2 (evAnd (dec_j2 p q r acc hs true) (dec_j2 p q r acc hs (a' != (l.length : Int)))))) fun k ⟨e, s, g1, g2⟩ => ?_)
  simp only [impl_DecodeModel.j1]
  refine bind_of e ?_
  unfold decR
  dsimp only
  by_cases hbd : b' = true
  · exact ite_yes hbd (by rw [if_pos hbd])
  refine ite_no hbd (ite_yes h.1 (ite_yes h.2 (bind_of s ?_)))
  rw [if_neg hbd]
  by_cases hx : x = sumOf (l.take a.toNat)
  · refine ite_yes hx (g2.trans ?_)
    by_cases ha : a' = (l.length : Int)
    · rw [if_neg (show ¬ ((a' != (l.length : Int)) = true) by simp [ha]), if_pos (show x = sumOf (l.take a.toNat) ∧ a' = (l.length : Int) from ⟨hx, ha⟩)]
    · rw [if_pos (show (a' != (l.length : Int)) = true by simpa using ha), if_neg (show ¬ (x = sumOf (l.take a.toNat) ∧ a' = (l.length : Int)) from fun h => ha h.2)]
  · refine ite_no hx (g1.trans ?_)
    rw [if_pos rfl, if_neg (show ¬ (x = sumOf (l.take a.toNat) ∧ a' = (l.length : Int)) from fun h => hx h.1)]
theorem dec_l0 (l : List Int) (hb : isBytes l) (hl : l.length ≤ 6000) (p q r : Int) : ∀ (d : Nat) (a : Int) (bad : Bool) (acc : List S46), AtB l a → acc.length + d ≤ 2000 → (∀ x ∈ acc, shortL x) → Evp fun k => impl_DecodeModel.l0 k l (d : Int) l a bad p q r acc = some (decR l (bndR (laysR l d acc) (fun L => sumR l (⟨p, q, r⟩, L)) a bad))
  | 0, a, bad, acc, h, hn, ha => evSuc (evMono (dec_tail l hb hl bad h p q r (acc := acc) ⟨by omega, fun x hx => by have := ha x hx; unfold shortL at this; exact ⟨by omega, by omega⟩⟩) fun k e => by
    simp only [impl_DecodeModel.l0]
    exact ite_no (by omega) e)
  | d + 1, a, bad, acc, h, hn, ha => by
    cases hbd : bad with
    | true =>
      have e : bndR (laysR l (d + 1) acc) (fun L => sumR l (⟨p, q, r⟩, L)) a true = sumR l (⟨p, q, r⟩, acc) a true := bnd_eq (by unfold laysR; rw [if_pos rfl]) rfl
      rw [e]
      exact evSuc (evMono (dec_tail l hb hl true h p q r (acc := acc) ⟨by omega, fun x hx => by have := ha x hx; unfold shortL at this; exact ⟨by omega, by omega⟩⟩) fun k e => by
        simp only [impl_DecodeModel.l0]
        exact ite_yes (by omega) (ite_yes trivial e))
    | false =>
      obtain ⟨x, a', b', hA, hx, e1, e2⟩ := lay_ok l hb (by omega) false h
      have e : bndR (laysR l (d + 1) acc) (fun L => sumR l (⟨p, q, r⟩, L)) a false = bndR (laysR l d (acc ++ [x])) (fun L => sumR l (⟨p, q, r⟩, L)) a' b' := by
        have e3 : laysR l (d + 1) acc a false = laysR l d (acc ++ [x]) a' b' := by
          rw [show laysR l (d + 1) acc a false = bndR (layR l) (fun x => laysR l d (acc ++ [x])) a false from rfl]
          exact bnd_eq e1 rfl
        unfold bndR
        rw [e3]
      have ih := dec_l0 l hb hl p q r d a' b' (acc ++ [x]) hA (by simp; omega) fun y hy => by
        rcases List.mem_append.1 hy with m | m
        · exact ha y m
        · simp only [List.mem_singleton] at m
          rw [m]; exact hx
      rw [e]
      refine evSuc (evMono (evAnd e2 ih) fun k ⟨e2, ih⟩ => ?_)
      simp only [impl_DecodeModel.l0]
      refine ite_yes (by omega) (ite_no Bool.false_ne_true (bind_of e2 (ite_yes (by omega) ?_)))
      rw [w64' (x := ((d + 1 : Nat) : Int) - 1) (by omega) (by omega), show ((d + 1 : Nat) : Int) - 1 = (d : Int) by omega]
      exact ih
theorem DecodeModel_ev (l : List Int) (hb : isBytes l) : Evp fun k => impl_DecodeModel.f k l = some (decW l) := by
  unfold decW
  by_cases h6 : (l.length : Int) > 6000
  · rw [if_pos h6]
    exact evAll fun k => ite_yes h6 rfl
  rw [if_neg h6]
  by_cases hd : headOk l = true
  · rw [if_pos hd]
    have h3 : AtB l 3 := by
      unfold headOk at hd
      have := (of_decide_eq_true hd).1
      exact ⟨by omega, by omega⟩
    obtain ⟨s, a1, b1, A1, s1, t1⟩ := shape_ok l hb (by omega) false h3
    have hc := cntW_b l a1 b1
    have t2 := impl_count_ev l hb (by omega) a1 b1 (A1.i64 (by omega))
    obtain ⟨n, hn⟩ := nat_of hc.1
    have g := dec_l0 l hb (by omega) s.f0 s.f1 s.f2 n (cntW l a1 b1).2.1 (cntW l a1 b1).2.2 [] (A1.cnt hb b1) (by simp; omega) (by simp)
    have e : allR l 3 false = bndR (laysR l n []) (fun L => sumR l (s, L)) (cntW l a1 b1).2.1 (cntW l a1 b1).2.2 := by
      have e0 : modR l 3 false = bndR (laysR l n []) (fun L => retR (s, L)) (cntW l a1 b1).2.1 (cntW l a1 b1).2.2 := bnd_eq s1 (by
        show bndR (laysR l (cntW l a1 b1).1.toNat []) (fun L => retR (s, L)) (cntW l a1 b1).2.1 (cntW l a1 b1).2.2 = _
        rw [hn, Int.toNat_natCast])
      unfold allR
      show sumR l (modR l 3 false).1 (modR l 3 false).2.1 (modR l 3 false).2.2 = _
      rw [e0]
      rfl
    rw [e]
    exact evMono (evAnd t1 (evAnd t2 g)) fun k ⟨s1, s2, g⟩ => ite_no h6 (bind_of (bytes_HasPrefix_eq l hb) (ite_yes hd (bind_of s1 (bind_of s2 (by rw [hn]; exact g)))))
  · rw [if_neg hd]
    exact evAll fun k => ite_no h6 (bind_of (bytes_HasPrefix_eq l hb) (ite_no hd rfl))
/-! #### what was encoded, what is shorter, what is longer -/
theorem out_short {s : S24} {x : S46} (h : (outOf s x).2.2.2 = true) : shortL x ∧ (1 ≤ (outOf s x).1 ∧ 1 ≤ (outOf s x).2.1 ∧ 1 ≤ (outOf s x).2.2.1 ∧ (outOf s x).2.2.1 ≤ 8) := by
  have wn : ∀ {p q sz st : Int}, windB sz st p q = true → 1 ≤ (p - sz) / st + 1 ∧ 1 ≤ (q - sz) / st + 1 ∧ (1 ≤ sz ∧ sz ≤ 3) := fun {p q sz st} hw => by
    obtain ⟨n1, n2⟩ := windB_iff.1 hw
    have e1 := Int.ediv_nonneg (a := p - sz) (b := st) (Int.sub_nonneg.2 n1.2.1) (by omega)
    have e2 := Int.ediv_nonneg (a := q - sz) (b := st) (Int.sub_nonneg.2 n1.2.2) (by omega)
    exact ⟨by omega, by omega, n1.1⟩
  have sc : ∀ {ou mu sh ze n : Int} {W B : List Int}, scaledB ou mu sh ze W B n = true → n ≤ 72 → W.length ≤ 2000 ∧ B.length ≤ 2000 ∧ 1 ≤ ou ∧ ou ≤ 8 := fun {ou mu sh ze n W B} g hn => by
    obtain ⟨g1, g2, g3, g4, g5, g6, g7, g8⟩ := scaledB_iff.1 g
    have := Int.mul_le_mul_of_nonneg_left hn (show 0 ≤ ou by omega)
    exact ⟨by omega, by omega, g1⟩
  have br : ∀ {ou mu sh : Int} {W B : List Int}, bareB ou mu sh W B = true → W.length ≤ 2000 ∧ B.length ≤ 2000 := fun g => by
    obtain ⟨g1, g2, g3, g4, g5⟩ := bareB_iff.1 g
    exact ⟨by omega, by omega⟩
  unfold outOf outShape at h ⊢
  unfold shortL
  have no : ∀ {P : Prop}, sh0.2.2.2 = true → P := fun e => by unfold sh0 at e; simp at e
  by_cases hs : shapeOk s.f0 s.f1 s.f2 = true
  · obtain ⟨d1, d2, d3⟩ := shape_dims hs
    rw [if_pos hs] at h ⊢
    by_cases k0 : x.f0 = 0
    · rw [if_pos k0] at h ⊢
      split at h
      · rename_i g
        rw [if_pos g]
        obtain ⟨a, b, c, d⟩ := sc g.2.2 (by omega)
        exact ⟨⟨a, b⟩, by show (1 : Int) ≤ 1; omega, by show (1 : Int) ≤ 1; omega, c, d⟩
      · exact no h
    rw [if_neg k0] at h ⊢
    by_cases k1 : x.f0 = 1
    · rw [if_pos k1] at h ⊢
      split at h
      · rename_i g
        rw [if_pos g]
        obtain ⟨w1, w2, w3⟩ := wn g.1
        obtain ⟨a, b, c, d⟩ := sc g.2.2 (area_b w3.1 w3.2 d3.1 d3.2).2.1
        exact ⟨⟨a, b⟩, w1, w2, c, d⟩
      · exact no h
    rw [if_neg k1] at h ⊢
    by_cases k2 : x.f0 = 2 ∨ x.f0 = 3
    · rw [if_pos k2] at h ⊢
      split at h
      · rename_i g
        rw [if_pos g]
        obtain ⟨w1, w2, w3⟩ := wn g.1
        exact ⟨br g.2.1, w1, w2, d3⟩
      · exact no h
    rw [if_neg k2] at h ⊢
    by_cases k4 : x.f0 = 4
    · rw [if_pos k4] at h ⊢
      split at h
      · rename_i g
        rw [if_pos g]
        exact ⟨br g.2.1, d1.1, d2.1, d3⟩
      · exact no h
    rw [if_neg k4] at h ⊢
    by_cases k5 : x.f0 = 5
    · rw [if_pos k5] at h ⊢
      split at h
      · rename_i g
        rw [if_pos g]
        exact ⟨br g.2.1, by show (1 : Int) ≤ 1; omega, by show (1 : Int) ≤ 1; omega, mul_pos1 (mul_pos1 d1.1 d2.1) d3.1, g.2.2.2⟩
      · exact no h
    rw [if_neg k5] at h
    exact no h
  · rw [if_neg hs] at h
    exact no h
theorem shapes_short : ∀ (l : List S46) (s : S24) (o : List S24), shapesOf s l = some o → ∀ x ∈ l, shortL x
  | [], s, o, h, x, hx => by simp at hx
  | y :: l, s, o, h, x, hx => by
    simp only [shapesOf] at h
    split at h
    · rename_i g
      obtain ⟨p, hp, _⟩ := Option.map_eq_some_iff.1 h
      rcases List.mem_cons.1 hx with rfl | hx
      · exact (out_short g).1
      · exact shapes_short l _ p hp x hx
    · cases h
theorem model_short {s : S24} {l : List S46} (h : (modelShapes s l).2 = true) : ∀ x ∈ l, shortL x := by
  unfold modelShapes at h
  split at h
  · cases e : shapesOf s l with
    | none => rw [e] at h; simp [withAcc] at h
    | some o => exact shapes_short l s o e
  · simp at h
theorem head_of (s : S24) (L : List S46) (x : List Int) : headOk (encFull s L ++ x) = true := by
  unfold encFull
  rw [enc_eq]
  simp [headOk]
theorem dec_full {s : S24} {L : List S46} (hm : (modelShapes s L).2 = true) (h6 : (encFull s L).length ≤ 6000) : decW (encFull s L) = (s.f0, s.f1, s.f2, L, 0) ∧ (∀ x : Int, (decW (encFull s L ++ [x])).2.2.2.2 = 3 ∨ (decW (encFull s L ++ [x])).2.2.2.2 = 5) ∧ ∀ c, c < (encFull s L).length → (decW ((encFull s L).take c)).2.2.2.2 ≠ 0 := by
  obtain ⟨⟨n1, n6⟩, hi, hw⟩ := model_wide hm
  have hs := model_short hm
  have ha := all_put hi (by omega) hw hs
  have h0 := ha []
  rw [List.append_nil] at h0
  have hh := head_of s L []
  rw [List.append_nil] at hh
  have htk : (encFull s L).take (((encBytes s L).length : Int).toNat) = encBytes s L := by
    rw [Int.toNat_natCast]
    unfold encFull
    rw [List.take_left]
  refine ⟨?_, fun x => ?_, fun c hc => ?_⟩
  · unfold decW
    rw [if_neg (by omega), if_pos hh, h0]
    unfold decR
    rw [if_neg Bool.false_ne_true, if_pos ⟨by rw [htk], rfl⟩, if_pos hm]
  · unfold decW
    by_cases q : (((encFull s L ++ [x]).length : Nat) : Int) > 6000
    · rw [if_pos q]; exact .inr rfl
    · rw [if_neg q, if_pos (head_of s L [x]), ha [x]]
      unfold decR
      rw [if_neg Bool.false_ne_true, if_neg (fun h => by have := h.2; simp at this; omega)]
      exact .inl rfl
  · have hp : Pre ((encFull s L).take c) (encFull s L) := ⟨_, (List.take_append_drop c _).symm⟩
    have hl : ((encFull s L).take c).length = c := by rw [List.length_take]; omega
    unfold decW
    rw [if_neg (by omega)]
    split
    · unfold decR
      by_cases q : (allR ((encFull s L).take c) 3 false).2.2 = true
      · rw [if_pos q]; simp
      · have e := (good_all hp).2 3 (by simpa using q)
        rw [if_neg q, ← e, h0, if_neg (fun h => by have := h.2; simp only at this; omega)]
        simp
    · simp
theorem HeadOf_ev {s : S24} {L : List S46} (hm : (modelShapes s L).2 = true) (h6 : (encFull s L).length ≤ 6000) (hb : isBytes (encFull s L)) : Evp fun k => impl_HeadOf.f k (encFull s L) = some (s.f0, s.f1, s.f2, (L.length : Int), true) := by
  obtain ⟨⟨n1, n6⟩, hi, hw⟩ := model_wide hm
  have hh := head_of s L []
  rw [List.append_nil] at hh
  obtain ⟨t, ht⟩ : ∃ t, encFull s L = [80, 77, 49] ++ ((putWide s.f0 ++ (putWide s.f1 ++ (putWide s.f2 ++ []))) ++ (putWide (L.length : Int) ++ t)) := by
    unfold encFull
    rw [enc_eq]
    unfold modBytes
    exact ⟨L.flatMap layerBytes ++ putWide (sumOf ([80, 77, 49] ++ modBytes s L)), by simp [modBytes]⟩
  have h3 : AtB (encFull s L) 3 := ⟨by omega, by rw [ht]; simp; omega⟩
  obtain ⟨s', a1, b1, A1, s1, t1⟩ := shape_ok _ hb (by omega) false h3
  have e1 := puts_shape hi [80, 77, 49] (putWide (L.length : Int) ++ t)
  have e2 := puts_next (x := (L.length : Int)) (by unfold inW; omega) ([80, 77, 49] ++ (putWide s.f0 ++ (putWide s.f1 ++ (putWide s.f2 ++ [])))) t
  rw [List.append_assoc, ← ht, List.length_append] at e2
  rw [← ht] at e1
  have e := s1.symm.trans e1
  injection e with f1 e
  injection e with f2 f3
  subst f1 f2 f3
  obtain ⟨x2, a2, b2, A2, s2, t2⟩ := num_ok _ hb (by omega) false A1
  have e := s2.symm.trans e2
  injection e with f1 e
  injection e with f2 f3
  subst f1 f2 f3
  exact evMono (evAnd t1 t2) fun k ⟨e1, e2⟩ => bind_of (bytes_HasPrefix_eq _ hb) (by rw [hh]; exact bind_of e1 (bind_of e2 (ite_no Bool.false_ne_true rfl)))
theorem sameLs_self : ∀ l : List S46, sameLs l l = true
  | [] => rfl
  | x :: l => by simp [sameLs, sameL, sameLayer, sameLs_self l]
theorem sameModel_self (h w c : Int) (l : List S46) : sameModel h w c l h w c l = true := by simp [sameModel, sameLs_self]


theorem DrawFrom_l0 {b : List Int} {m : Nat} (hm : m ≤ 10) (p q r : Int) : ∀ (d n : Nat) (acc : List S46) (x y z i h : Int), Cu b i → n + d = m → acc.length = n → (∀ v ∈ acc, shortL v) → 1 ≤ x → 1 ≤ y → (0 ≤ z ∧ z ≤ 8) → ∃ (L : List S46) (i' h' : Int), L.length ≤ m ∧ (∀ v ∈ L, shortL v) ∧ Cu b i' ∧ Evp fun k => spec_l04DrawFrom.l0 k (m : Int) (n : Int) b i h x y z p q r acc = some (p, q, r, L, i', h')
  | 0, n, acc, x, y, z, i, h, hc, hn, ha, hs, _, _, _ => ⟨acc, i, h, by omega, hs, hc, evSuc (evAll fun k => by
    simp only [spec_l04DrawFrom.l0]
    exact ite_no (by omega) rfl)⟩
  | d + 1, n, acc, x, y, z, i, h, hc, hn, ha, hs, hx, hy, hz => by
    obtain ⟨⟨a0, a1, a2, a3, a4, a5, a6, W, B, i1, t1⟩, ⟨hW, hB, c1⟩, e1⟩ := spec_l03DrawLayer_ok hx hy hz hc h
    have hW' : W.length ≤ 2000 := hW
    have hB' : B.length ≤ 2000 := hB
    have e2 := spec_OutShape_ev x y z a0 a1 a2 a3 a4 a5 a6 W B (by omega) (by omega)
    by_cases g : (outShape x y z a0 a1 a2 a3 a4 a5 a6 W B).2.2.2 = true
    · obtain ⟨h1, h2, h3, h4, h5⟩ := out_short (s := ⟨x, y, z⟩) (x := ⟨a0, a1, a2, a3, a4, a5, a6, W, B⟩) g
      obtain ⟨L, i', h', l1, l2, l3, l4⟩ := DrawFrom_l0 hm p q r d (n + 1) (acc ++ [⟨a0, a1, a2, a3, a4, a5, a6, W, B⟩]) (outShape x y z a0 a1 a2 a3 a4 a5 a6 W B).1 (outShape x y z a0 a1 a2 a3 a4 a5 a6 W B).2.1 (outShape x y z a0 a1 a2 a3 a4 a5 a6 W B).2.2.1 i1 t1 c1 (by omega) (by simp; omega) (fun v hv => by
        rcases List.mem_append.1 hv with k | k
        · exact hs v k
        · simp only [List.mem_singleton] at k
          rw [k]; exact h1) h2 h3 ⟨Int.le_trans (by omega) h4, h5⟩
      refine ⟨L, i', h', l1, l2, l3, evSuc (evMono (evAnd e1 (evAnd e2 l4)) fun k ⟨e1, e2, e3⟩ => ?_)⟩
      simp only [spec_l04DrawFrom.l0]
      refine ite_yes (by omega) (bind_of e1 (bind_of e2 (ite_yes g (ite_yes (by omega) ?_))))
      rw [w64' (x := (n : Int) + 1) (by omega) (by omega)]
      exact e3
    · refine ⟨acc, i1, t1, by omega, hs, c1, evSuc (evMono (evAnd e1 e2) fun k ⟨e1, e2⟩ => ?_)⟩
      simp only [spec_l04DrawFrom.l0]
      exact ite_yes (by omega) (bind_of e1 (bind_of e2 (ite_no g rfl)))
theorem DrawModel_ok {b : List Int} {i : Int} (hc : Cu b i) (h : Int) : ∃ (p q r : Int) (L : List S46) (i' h' : Int), L.length ≤ 4 ∧ (∀ v ∈ L, shortL v) ∧ Cu b i' ∧ Evp fun k => spec_l04DrawModel.f k b i h = some (p, q, r, L, i', h') := by
  obtain ⟨x, y, z, i1, h1, e1, x1, y1, z1, c1⟩ := spec_l02DrawShape_ok hc h
  obtain ⟨n, i2, h2, e2, a2, b2, c2⟩ := spec_l01Below_ok c1 h1 (n := 4) (by omega)
  obtain ⟨n, rfl⟩ := nat_of a2
  obtain ⟨L, i3, h3, l1, l2, l3, l4⟩ := DrawFrom_l0 (b := b) (m := n + 1) (by omega) x y z (n + 1) 0 [] x y z i2 h2 c2 (by omega) rfl (by simp) (by omega) (by omega) (by omega)
  exact ⟨x, y, z, L, i3, h3, by omega, l2, l3, evMono l4 fun k e => bind_of e1 (bind_of e2 (bind_of (show spec_l04DrawFrom.f k b i2 h2 x y z (wrap64 (1 + (n : Int))) = some (x, y, z, L, i3, h3) by
    rw [w64' (by omega) (by omega), show 1 + (n : Int) = ((n + 1 : Nat) : Int) by omega]
    exact e) rfl))⟩


def longL (x : S46) : Prop := x.f7.length ≤ 2001 ∧ x.f8.length ≤ 2001
theorem loose_l0 {b : List Int} (p q r : Int) : ∀ (d : Nat) (L : List S46) (i h : Int), Cu b i → 7 ≤ L.length + d → L.length ≤ 7 → (∀ v ∈ L, longL v) → ∃ (L' : List S46) (i' h' : Int), L'.length ≤ 7 ∧ (∀ v ∈ L', longL v) ∧ Evp fun k => spec_l04DrawLoose.l0 k b i h p q r L = some (p, q, r, L', i', h')
  | d, L, i, h, hc, hd, h7, hs => by
    obtain ⟨n, i1, h1, e1, a1, b1, c1⟩ := spec_l01Below_ok hc h (n := 2) (by omega)
    have hw : wrap64 (6 + n) = 6 + n := w64' (by omega) (by omega)
    by_cases g : (L.length : Int) < 6 + n
    · cases d with
      | zero => omega
      | succ d =>
        obtain ⟨L', i', h', l1, l2, l3⟩ := loose_l0 p q r d (L ++ [⟨4, 0, 0, 0, 0, 0, 0, [], []⟩]) i1 h1 c1 (by simp; omega) (by simp; omega) (fun v hv => by
          rcases List.mem_append.1 hv with k | k
          · exact hs v k
          · simp only [List.mem_singleton] at k
            rw [k]; exact ⟨by simp, by simp⟩)
        refine ⟨L', i', h', l1, l2, evSuc (evMono l3 fun k e => ?_)⟩
        simp only [spec_l04DrawLoose.l0]
        rw [show spec_l01Below.f b i h 2 = some (n, i1, h1) from e1]
        exact ite_yes (by rw [hw]; exact g) (ite_yes (by omega) e)
    · refine ⟨L, i1, h1, h7, hs, evSuc (evAll fun k => ?_)⟩
      simp only [spec_l04DrawLoose.l0]
      exact bind_of e1 (ite_no (by rw [hw]; exact g) rfl)
theorem DrawLoose_ok {b : List Int} {i : Int} (hc : Cu b i) (h : Int) : ∃ (p q r : Int) (L : List S46) (i' h' : Int), L.length ≤ 7 ∧ (∀ v ∈ L, longL v) ∧ Evp fun k => spec_l04DrawLoose.f k b i h = some (p, q, r, L, i', h') := by
  obtain ⟨p, q, r, L, i1, h1, l1, l2, c1, e1⟩ := DrawModel_ok hc h
  have hl : ∀ v ∈ L, longL v := fun v hv => ⟨by have := (l2 v hv).1; omega, by have := (l2 v hv).2; omega⟩
  obtain ⟨o, i2, h2, e2, c2⟩ := spec_l01Once_ok c1 h1 (n := 10) (by omega)
  have no : Evp fun k => spec_l04DrawLoose.j0 k false b i2 h2 p q r L = some (p, q, r, L, i2, h2) := evSuc (evAll fun k => by
    simp only [spec_l04DrawLoose.j0]
    exact ite_no Bool.false_ne_true rfl)
  by_cases ho : o = true
  · have fin : ∀ {R : Int × Int × Int × List S46 × Int × Int}, (Evp fun k => spec_l04DrawLoose.j0 k (decide ((L.length : Int) > 0)) b i2 h2 p q r L = some R) → Evp fun k => spec_l04DrawLoose.f k b i h = some R := fun g => evMono (evAnd e1 g) fun k ⟨e1, g⟩ => bind_of e1 (bind_of e2 (ite_yes ho g))
    by_cases hp : (L.length : Int) > 0
    · rw [decide_eq_true hp] at fin
      obtain ⟨n, i3, h3, e3, a3, b3, c3⟩ := spec_l01Below_ok c2 h2 (n := 4) (by omega)
      by_cases n0 : n = 0
      · obtain ⟨v, i4, h4, e4, _, c4⟩ := spec_l01PickInt_ok c3 h3 ([0, 9, wrap64 (r + 1)] : List Int) (by simp)
        exact ⟨p, q, v, L, i4, h4, by omega, hl, fin (evSuc (evAll fun k => by
          simp only [spec_l04DrawLoose.j0]
          exact ite_yes trivial (bind_of e3 (ite_yes n0 (bind_of e4 rfl)))))⟩
      by_cases n1 : n = 1
      · obtain ⟨j, i4, h4, e4, a4, b4, c4⟩ := spec_l01Below_ok c3 h3 (n := (L.length : Int)) (by omega)
        have hj : j.toNat < L.length := by omega
        have hv := l2 L[j.toNat] (List.getElem_mem hj)
        have hr : rd_T46 L j = L[j.toNat] := by
          unfold rd_T46
          rw [List.getD_eq_getElem?_getD, List.getElem?_eq_getElem hj]
          rfl
        obtain ⟨⟨v0, v1, v2, v3, v4, v5, v6, W', B', i5, t5⟩, ⟨hW', hB', c5⟩, e5⟩ := spec_l03Bend_ok c4 h4 L[j.toNat].f0 L[j.toNat].f1 L[j.toNat].f2 L[j.toNat].f3 L[j.toNat].f4 L[j.toNat].f5 L[j.toNat].f6 L[j.toNat].f7 L[j.toNat].f8 hv.1 hv.2
        refine ⟨p, q, r, L.set j.toNat ⟨v0, v1, v2, v3, v4, v5, v6, W', B'⟩, i5, t5, by rw [List.length_set]; omega, fun v hv => ?_, fin (evSuc (evMono e5 fun k e5 => ?_))⟩
        · rcases List.mem_or_eq_of_mem_set hv with m | m
          · exact hl v m
          · rw [m]; exact ⟨hW', hB'⟩
        · simp only [spec_l04DrawLoose.j0]
          refine ite_yes trivial (bind_of e3 (ite_no n0 (ite_yes n1 (bind_of e4 (bind_of (a := (L.set j.toNat ⟨v0, v1, v2, v3, v4, v5, v6, W', B'⟩, i5, t5)) ?_ rfl)))))
          unfold spec_l04DrawLoose.b
          rw [hr]
          exact ite_yes ⟨a4, b4⟩ (bind_of e5 rfl)
      by_cases n2 : n = 2
      · exact ⟨p, q, r, [], i3, h3, by simp, by simp, fin (evSuc (evAll fun k => by
          simp only [spec_l04DrawLoose.j0]
          exact ite_yes trivial (bind_of e3 (ite_no n0 (ite_no n1 (ite_yes n2 rfl))))))⟩
      · have n3 : n = 3 := by omega
        obtain ⟨L', i', h', g1, g2, g3⟩ := loose_l0 (b := b) p q r 7 L i3 h3 c3 (by omega) (by omega) hl
        exact ⟨p, q, r, L', i', h', g1, g2, fin (evSuc (evMono g3 fun k e => by
          simp only [spec_l04DrawLoose.j0]
          exact ite_yes trivial (bind_of e3 (ite_no n0 (ite_no n1 (ite_no n2 (ite_yes n3 e)))))))⟩
    · rw [decide_eq_false hp] at fin
      exact ⟨p, q, r, L, i2, h2, by omega, hl, fin no⟩
  · exact ⟨p, q, r, L, i2, h2, by omega, hl, evMono (evAnd e1 no) fun k ⟨e1, g⟩ => bind_of e1 (bind_of e2 (ite_no ho g))⟩
theorem DrawEncode_ok (b : List Int) (hb : b.length ≤ 1099511627776) : ∃ (s : S24) (L : List S46), smallI L ∧ Evp fun k => spec_DrawEncodeModel.f k b = some (s.f0, s.f1, s.f2, L) := by
  obtain ⟨h', e0⟩ := spec_l01New_ok b hb
  obtain ⟨p, q, r, L, i1, h1, l1, l2, e1⟩ := DrawLoose_ok (Cu.zero hb) h'
  exact ⟨⟨p, q, r⟩, L, ⟨by omega, fun x hx => by have := l2 x hx; unfold longL at this; exact ⟨by omega, by omega⟩⟩, evMono (evAnd e0 e1) fun k ⟨e0, e1⟩ => bind_of (bind_of e0 (bind_of e1 rfl)) rfl⟩

theorem FnStored (l : List Int) (hg : l.length ≤ maxLen ∧ ∀ x ∈ l, (Lit.int .u8 x).wf = true) : ∃ k, laws_FnStored.f k l = some true := by
  by_cases hbig : (l.length : Int) > 1048576
  · exact ⟨0, bind_of (a := true) (by unfold laws_big.f; rw [decide_eq_true hbig]) (ite_yes rfl rfl)⟩
  have hb : laws_big.f l = some false := by unfold laws_big.f; rw [decide_eq_false hbig]
  have hbytes : isBytes l := fun x hx => u8_of (hg.2 x hx)
  obtain ⟨s, L, hL, e1⟩ := DrawEncode_ok l (by omega)
  have e2 := impl_EncodeModel_ev s L hL
  have e3 := spec_EncodeModel_ev s L hL
  suffices j : Evp fun k => laws_FnStored.j0 k l (encodeM s L).1 (encodeM s L).2 false s.f0 s.f1 s.f2 L = some true from
    evEx (evMono (evAnd e1 (evAnd e2 (evAnd e3 j))) fun k ⟨e1, e2, e3, j⟩ => bind_of hb (ite_no Bool.false_ne_true (bind_of e1 (bind_of e2 (bind_of e3 (ite_no (by simp) (by
      rw [show ((((encodeM s L).1.length : Nat) : Int) != (((encodeM s L).1.length : Nat) : Int)) = false by simp]
      exact j)))))))
  by_cases hm : (modelShapes s L).2 = true ∧ (encFull s L).length ≤ 6000
  · have he : encodeM s L = (encFull s L, true) := by
      unfold encodeM
      rw [if_pos hm.1, if_neg (by omega)]
    have hbb : isBytes (encFull s L) := bytes_app (encBytes_bytes s L) (putGo_bytes _ _)
    have hpos : 0 < (encFull s L).length := by
      unfold encFull
      rw [enc_eq]
      simp
    rw [he]
    obtain ⟨d0, d1, d2⟩ := dec_full hm.1 hm.2
    have f1 := DecodeModel_ev (encFull s L) hbb
    rw [d0] at f1
    have f2 := HeadOf_ev hm.1 hm.2 hbb
    have f3 := impl_SameModel_ev s.f0 s.f1 s.f2 s.f0 s.f1 s.f2 L L hL
    rw [sameModel_self] at f3
    obtain ⟨r, f4, f5⟩ := ModelSum_ok s L hL
    obtain ⟨t, et, t0, t1⟩ := laws_at_ok l hbytes (by omega) 0 (by omega)
    obtain ⟨u, eu, u0, u1⟩ := laws_at_ok l hbytes (by omega) 1 (by omega)
    have hw : wrap64 (1 + u) = 1 + u := w64' (by omega) (by omega)
    have hml := mul_b (a := t) (b := 1 + u) (A := 255) (B := 256) t0 t1 (by omega) (by omega)
    have hw2 : wrap64 (t * wrap64 (1 + u)) = t * (1 + u) := by rw [hw]; exact w64' (by omega) (by omega)
    have hc : 0 ≤ Int.tmod (t * (1 + u)) ((encFull s L).length : Int) ∧ Int.tmod (t * (1 + u)) ((encFull s L).length : Int) < ((encFull s L).length : Int) := by
      rw [tmod_pos hml.1]
      exact ⟨Int.emod_nonneg _ (by omega), Int.emod_lt_of_pos _ (by omega)⟩
    obtain ⟨c, hcc⟩ := nat_of hc.1
    rw [hcc] at hc
    have f6 := DecodeModel_ev ((encFull s L).take c) (fun y hy => hbb y (List.mem_of_mem_take hy))
    have f7 := DecodeModel_ev (encFull s L ++ [0]) (bytes_app hbb fun y hy => by simp only [List.mem_singleton] at hy; omega)
    have n6 := d2 c (by omega)
    have n7 := d1 0
    have j1 : Evp fun k => laws_FnStored.j1 k l (encFull s L) false = some true := evSuc (evMono (evAnd f6 f7) fun k ⟨f6, f7⟩ => by
      simp only [laws_FnStored.j1]
      refine ite_no Bool.false_ne_true (bind_of et (bind_of eu (ite_no (by omega) ?_)))
      rw [hw2, hcc, Int.toNat_natCast]
      refine ite_yes (by omega) (ite_yes (by omega) (bind_of f6 (bind_of rfl (ite_yes (by simp; omega) (bind_of rfl (ite_yes (by simp; omega) (bind_of f7 (ite_no n6 ?_))))))))
      rcases n7 with n7 | n7
      · exact ite_yes n7 rfl
      · exact ite_no (by rw [n7]; decide) (by rw [n7]; rfl))
    refine evSuc (evMono (evAnd f1 (evAnd f2 (evAnd f3 (evAnd f4 (evAnd f5 j1))))) fun k ⟨f1, f2, f3, f4, f5, j1⟩ => ?_)
    simp only [laws_FnStored.j0]
    refine ite_no Bool.false_ne_true (ite_yes trivial (bind_of f1 (bind_of f2 (ite_yes rfl (bind_of f3 (ite_yes rfl (ite_yes rfl (ite_no (by simp) (ite_yes rfl (bind_of f5 (bind_of f4 ?_)))))))))))
    rw [show (r != r) = false by simp]
    exact j1
  · have he : encodeM s L = ([], false) := by
      unfold encodeM
      by_cases h1 : (modelShapes s L).2 = true
      · rw [if_pos h1, if_pos (by have : ¬ (encFull s L).length ≤ 6000 := fun h => hm ⟨h1, h⟩; omega)]
      · rw [if_neg h1]
    rw [he] at e2 ⊢
    exact evSuc (evMono e2 fun k e => by
      simp only [laws_FnStored.j0]
      exact ite_no Bool.false_ne_true (ite_no Bool.false_ne_true (bind_of (bind_of e (ite_no Bool.false_ne_true rfl)) rfl)))

end Go.Proofs.Ytjmejobelkllmaa.Pure
