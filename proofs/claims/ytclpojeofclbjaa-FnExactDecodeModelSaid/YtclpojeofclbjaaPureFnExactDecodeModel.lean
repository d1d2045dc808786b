/- For every row of bytes, DecodeModel answers what the reference's DecodeModel answers, in every field, leaves its argument as it was, and what it gives back lies in new memory; conditions: none beyond the row's own (longer rows than 2 to the 20 are answered true ahead). -/
import Derived.Test.YtclpojeofclbjaaPFnExactDecodeModelx0
import Derived.Test.YtclpojeofclbjaaPFnExactDecodeModelx1
import Derived.Test.YtclpojeofclbjaaPFnExactDecodeModelx10
import Derived.Test.YtclpojeofclbjaaPFnExactDecodeModelx11
import Derived.Test.YtclpojeofclbjaaPFnExactDecodeModelx12
import Derived.Test.YtclpojeofclbjaaPFnExactDecodeModelx13
import Derived.Test.YtclpojeofclbjaaPFnExactDecodeModelx14
import Derived.Test.YtclpojeofclbjaaPFnExactDecodeModelx15
import Derived.Test.YtclpojeofclbjaaPFnExactDecodeModelx16
import Derived.Test.YtclpojeofclbjaaPFnExactDecodeModelx17
import Derived.Test.YtclpojeofclbjaaPFnExactDecodeModelx18
import Derived.Test.YtclpojeofclbjaaPFnExactDecodeModelx19
import Derived.Test.YtclpojeofclbjaaPFnExactDecodeModelx2
import Derived.Test.YtclpojeofclbjaaPFnExactDecodeModelx3
import Derived.Test.YtclpojeofclbjaaPFnExactDecodeModelx4
import Derived.Test.YtclpojeofclbjaaPFnExactDecodeModelx5
import Derived.Test.YtclpojeofclbjaaPFnExactDecodeModelx6
import Derived.Test.YtclpojeofclbjaaPFnExactDecodeModelx7
import Derived.Test.YtclpojeofclbjaaPFnExactDecodeModelx8
import Derived.Test.YtclpojeofclbjaaPFnExactDecodeModelx9
namespace Go.Proofs.Ytclpojeofclbjaa.Pure
open Go.RowKit Go.Proofs.Ytclpojeofclbjaa.PFnExactDecodeModel Go.Proofs.YtclpojeofclbjaaW.PrintWords Go.Proofs.YtclpojeofclbjaaW.PrintLast Go.Proofs.YtclpojeofclbjaaW.PrintMore
set_option linter.unusedVariables false
set_option linter.unusedSimpArgs false

/-! #### rounds -/
def Evp (p : Nat → Prop) : Prop := ∃ K, ∀ k, K ≤ k → p k
theorem evAnd {p q : Nat → Prop} (h : Evp p) (g : Evp q) : Evp (fun k => p k ∧ q k) := by
  obtain ⟨K, hK⟩ := h
  obtain ⟨L, hL⟩ := g
  exact ⟨max K L, fun k hk => ⟨hK k (by omega), hL k (by omega)⟩⟩
theorem evMono {p q : Nat → Prop} (h : Evp p) (g : ∀ k, p k → q k) : Evp q := by
  obtain ⟨K, hK⟩ := h
  exact ⟨K, fun k hk => g k (hK k hk)⟩
theorem evSuc {p : Nat → Prop} (h : Evp fun k => p (k + 1)) : Evp p := by
  obtain ⟨K, hK⟩ := h
  refine ⟨K + 1, fun k hk => ?_⟩
  obtain ⟨m, rfl⟩ : ∃ m, k = m + 1 := ⟨k - 1, by omega⟩
  exact hK m (by omega)
theorem evAll {p : Nat → Prop} (h : ∀ k, p k) : Evp p := ⟨0, fun k _ => h k⟩
theorem evEx {p : Nat → Prop} (h : Evp p) : ∃ k, p k := by
  obtain ⟨K, hK⟩ := h
  exact ⟨K, hK K (Nat.le_refl _)⟩
/-- One step of a chain. -/
theorem bind_of {α β : Type} {o : Option α} {f : α → Option β} {a : α} {r : Option β} (h : o = some a) (hf : f a = r) : o.bind f = r := by rw [h]; exact hf
theorem ite_yes {α : Type} {c : Prop} [Decidable c] {x y r : α} (h : c) (hx : x = r) : (if c then x else y) = r := by rw [if_pos h]; exact hx
theorem ite_no {α : Type} {c : Prop} [Decidable c] {x y r : α} (h : ¬ c) (hy : y = r) : (if c then x else y) = r := by rw [if_neg h]; exact hy

/-! #### whole numbers -/
def i64 (x : Int) : Prop := -9223372036854775808 ≤ x ∧ x ≤ 9223372036854775807
theorem w64 {x : Int} (h : i64 x) : wrap64 x = x := by
  unfold i64 at h
  unfold wrap64
  omega
theorem w64' {x : Int} (h0 : -9223372036854775808 ≤ x) (h1 : x ≤ 9223372036854775807) : wrap64 x = x := w64 ⟨h0, h1⟩
theorem u8_of {x : Int} (h : (Lit.int .u8 x).wf = true) : 0 ≤ x ∧ x ≤ 255 := by
  simp only [Lit.wf, IntKind.min, IntKind.max, IntKind.signed, IntKind.bits, Bool.and_eq_true, decide_eq_true_eq] at h
  simp at h
  omega
theorem tdiv_pos {a b : Int} (h : 0 ≤ a) : Int.tdiv a b = a / b := Int.tdiv_eq_ediv_of_nonneg h
theorem tmod_pos {a b : Int} (h : 0 ≤ a) : Int.tmod a b = a % b := Int.tmod_eq_emod_of_nonneg h
theorem bnd_mul {a b A B : Int} (ha : -A ≤ a) (ha' : a ≤ A) (hb : -B ≤ b) (hb' : b ≤ B) : -(A * B) ≤ a * b ∧ a * b ≤ A * B := by
  have hA : 0 ≤ A := by omega
  have hB : 0 ≤ B := by omega
  have h1 : (a * b).natAbs ≤ (A * B).natAbs := by
    rw [Int.natAbs_mul, Int.natAbs_mul]
    exact Nat.mul_le_mul (by omega) (by omega)
  have h2 : 0 ≤ A * B := Int.mul_nonneg hA hB
  omega

/-! #### lists -/
theorem rd_eq {l : List Int} {i : Nat} (h : i < l.length) : rd l (i : Int) = l[i] := by
  unfold rd
  simp [List.getD, h]
theorem nat_of {i : Int} (h : 0 ≤ i) : ∃ n : Nat, i = n := ⟨i.toNat, by omega⟩
theorem u64_small {x : Int} (h0 : 0 ≤ x) (h1 : x < 18446744073709551616) : IntKind.u64.wrap x = x := by
  unfold IntKind.wrap
  simp [IntKind.bits, IntKind.signed]
  omega
theorem i64wrap (x : Int) : IntKind.i64.wrap x = wrap64 x := by
  unfold IntKind.wrap wrap64
  simp [IntKind.bits, IntKind.signed]
  split <;> omega
theorem shl_eq {x : Int} {n : Nat} (hn : n ≤ 62) : shl .i64 x (n : Int) = wrap64 (x * 2 ^ n) := by
  unfold shl
  rw [i64wrap]
  congr 3
  simp [IntKind.bits]
  omega
theorem two_pow_le {n m : Nat} (h : n ≤ m) : (1 : Int) ≤ 2 ^ n ∧ (2 : Int) ^ n ≤ 2 ^ m := by
  have h1 : (1 : Nat) ≤ 2 ^ n := Nat.one_le_two_pow
  have h2 : (2 : Nat) ^ n ≤ 2 ^ m := Nat.pow_le_pow_right (by omega) h
  exact ⟨by exact_mod_cast h1, by exact_mod_cast h2⟩

theorem spec_l01In_eq (x lo hi : Int) : spec_l01In.f x lo hi = some (decide (lo ≤ x ∧ x ≤ hi)) := by
  unfold spec_l01In.f
  by_cases h : lo ≤ x
  · simp [h]
  · simp [h]


theorem impl_in_eq (x lo hi : Int) : impl_in.f x lo hi = some (decide (lo ≤ x ∧ x ≤ hi)) := by
  unfold impl_in.f
  by_cases h : lo ≤ x
  · simp [h]
  · simp [h]

/-- A list that is filled from the left. -/
theorem fill_step {α : Type} {l o : List α} {i : Nat} (hi : i < l.length) (hl : o.length = l.length) (ht : o.take i = l.take i) : (o.set i l[i]).length = l.length ∧ (o.set i l[i]).take (i + 1) = l.take (i + 1) := by
  refine ⟨by simp [hl], ?_⟩
  apply List.ext_getElem?
  intro j
  rw [List.getElem?_take, List.getElem?_take]
  by_cases hj : j < i + 1
  · rw [if_pos hj, if_pos hj]
    by_cases e : j = i
    · subst e
      rw [List.getElem?_set_self (by omega), List.getElem?_eq_getElem hi]
    · rw [List.getElem?_set_ne (by omega)]
      have := congrArg (fun x => x[j]?) ht
      simp only [List.getElem?_take] at this
      rw [if_pos (by omega), if_pos (by omega)] at this
      exact this
  · rw [if_neg hj, if_neg hj]
theorem fill_end {α : Type} {l o : List α} (hl : o.length = l.length) (ht : o.take l.length = l.take l.length) : o = l := by
  rw [List.take_length] at ht
  rw [← hl, List.take_length] at ht
  exact ht


theorem laws_toByteS_l0 (l : List Int) (hl : l.length ≤ 9223372036854775807) : ∀ (d i : Nat) (o : List Int), i + d = l.length → o.length = l.length → o.take i = l.take i → Evp fun k => laws_toByteS.l0 k l o (i : Int) = some l
  | 0, i, o, hi, ho, ht => evSuc (evAll fun k => by
    simp only [laws_toByteS.l0]
    rw [if_neg (by omega)]
    obtain rfl : i = l.length := by omega
    rw [fill_end ho ht])
  | d + 1, i, o, hi, ho, ht => by
    have hlt : i < l.length := by omega
    have hs := fill_step hlt ho ht
    refine evSuc (evMono (laws_toByteS_l0 l hl d (i + 1) (o.set i l[i]) (by omega) hs.1 hs.2) fun k ih => ?_)
    simp only [laws_toByteS.l0]
    rw [if_pos (by omega), if_pos (by omega), if_pos (by omega), w64' (by omega) (by omega), rd_eq hlt, Int.toNat_natCast]
    exact ih
theorem laws_toByteS_ev (l : List Int) (hl : l.length ≤ 35184372088832) : Evp fun k => laws_toByteS.f k l = some l :=
  evMono (laws_toByteS_l0 l (by omega) l.length 0 (List.replicate l.length 0) (by omega) (by simp) (by simp)) fun k h => by
    unfold laws_toByteS.f
    rw [if_pos (by omega), if_pos (by omega), Int.toNat_natCast]
    exact h


theorem laws_eqByteS_l0 (a b : List Int) (hl : a.length = b.length) (hm : a.length ≤ 9223372036854775807) : ∀ (d i : Nat), i + d = a.length → a.take i = b.take i → Evp fun k => laws_eqByteS.l0 k a b (i : Int) = some (decide (a = b))
  | 0, i, hi, ht => evSuc (evAll fun k => by
    simp only [laws_eqByteS.l0]
    rw [if_neg (by omega)]
    obtain rfl : i = a.length := by omega
    have e : a = b := by
      rw [List.take_length, hl, List.take_length] at ht
      exact ht
    simp [e])
  | d + 1, i, hi, ht => by
    have ha : i < a.length := by omega
    have hb : i < b.length := by omega
    by_cases he : a[i] = b[i]
    · have ht' : a.take (i + 1) = b.take (i + 1) := by
        rw [List.take_succ_eq_append_getElem ha, List.take_succ_eq_append_getElem hb, ht, he]
      refine evSuc (evMono (laws_eqByteS_l0 a b hl hm d (i + 1) (by omega) ht') fun k ih => ?_)
      simp only [laws_eqByteS.l0]
      rw [if_pos (by omega), if_pos (by omega), if_pos (by omega), rd_eq ha, rd_eq hb, if_pos he, w64' (by omega) (by omega)]
      exact ih
    · refine evSuc (evAll fun k => ?_)
      simp only [laws_eqByteS.l0]
      rw [if_pos (by omega), if_pos (by omega), if_pos (by omega), rd_eq ha, rd_eq hb, if_neg he]
      have : a ≠ b := by
        rintro rfl
        exact he rfl
      simp [this]
theorem laws_eqByteS_ev (a b : List Int) (hm : a.length ≤ 9223372036854775807) : Evp fun k => laws_eqByteS.f k a b = some (decide (a = b)) := by
  unfold laws_eqByteS.f
  by_cases hl : a.length = b.length
  · refine evMono (laws_eqByteS_l0 a b hl hm a.length 0 (by omega) (by simp)) fun k h => ?_
    rw [if_pos (by omega)]
    exact h
  · refine evAll fun k => ?_
    rw [if_neg (by omega)]
    have : a ≠ b := by
      rintro rfl
      exact hl rfl
    simp [this]


theorem laws_eqIntS_l0 (a b : List Int) (hl : a.length = b.length) (hm : a.length ≤ 9223372036854775807) : ∀ (d i : Nat), i + d = a.length → a.take i = b.take i → Evp fun k => laws_eqIntS.l0 k a b (i : Int) = some (decide (a = b))
  | 0, i, hi, ht => evSuc (evAll fun k => by
    simp only [laws_eqIntS.l0]
    rw [if_neg (by omega)]
    obtain rfl : i = a.length := by omega
    have e : a = b := by
      rw [List.take_length, hl, List.take_length] at ht
      exact ht
    simp [e])
  | d + 1, i, hi, ht => by
    have ha : i < a.length := by omega
    have hb : i < b.length := by omega
    by_cases he : a[i] = b[i]
    · have ht' : a.take (i + 1) = b.take (i + 1) := by
        rw [List.take_succ_eq_append_getElem ha, List.take_succ_eq_append_getElem hb, ht, he]
      refine evSuc (evMono (laws_eqIntS_l0 a b hl hm d (i + 1) (by omega) ht') fun k ih => ?_)
      simp only [laws_eqIntS.l0]
      rw [if_pos (by omega), if_pos (by omega), if_pos (by omega), rd_eq ha, rd_eq hb, if_pos he, w64' (by omega) (by omega)]
      exact ih
    · refine evSuc (evAll fun k => ?_)
      simp only [laws_eqIntS.l0]
      rw [if_pos (by omega), if_pos (by omega), if_pos (by omega), rd_eq ha, rd_eq hb, if_neg he]
      have : a ≠ b := by
        rintro rfl
        exact he rfl
      simp [this]
theorem laws_eqIntS_ev (a b : List Int) (hm : a.length ≤ 9223372036854775807) : Evp fun k => laws_eqIntS.f k a b = some (decide (a = b)) := by
  unfold laws_eqIntS.f
  by_cases hl : a.length = b.length
  · refine evMono (laws_eqIntS_l0 a b hl hm a.length 0 (by omega) (by simp)) fun k h => ?_
    rw [if_pos (by omega)]
    exact h
  · refine evAll fun k => ?_
    rw [if_neg (by omega)]
    have : a ≠ b := by
      rintro rfl
      exact hl rfl
    simp [this]


def sumStep (s x : Int) : Int := (s * 257 + x + 1) % 1000003
theorem sumStep_b (s x : Int) (h : 0 ≤ s * 257 + x + 1) : 0 ≤ sumStep s x ∧ sumStep s x < 1000003 := by unfold sumStep; omega
def sumOf (l : List Int) : Int := l.foldl sumStep 1
def isBytes (l : List Int) : Prop := ∀ x ∈ l, 0 ≤ x ∧ x ≤ 255
theorem drop_at {α : Type} {l : List α} {i : Nat} (h : i < l.length) : l.drop i = l[i] :: l.drop (i + 1) := by
  exact List.drop_eq_getElem_cons h
theorem fold_snoc {l : List Int} {i : Nat} (h : i < l.length) (s : Int) : (l.drop i).foldl sumStep s = (l.drop (i + 1)).foldl sumStep (sumStep s l[i]) := by
  rw [drop_at h]; rfl


theorem spec_SumOf_l0 (l : List Int) (hb : isBytes l) (hm : l.length ≤ 9223372036854775807) : ∀ (d i : Nat) (s : Int), i + d = l.length → 0 ≤ s → s < 1000003 → Evp fun k => spec_SumOf.l0 k l s (i : Int) = some ((l.drop i).foldl sumStep s)
  | 0, i, s, hi, h0, h1 => evSuc (evAll fun k => by
    simp only [spec_SumOf.l0]
    rw [if_neg (by omega), List.drop_eq_nil_of_le (by omega)]
    rfl)
  | d + 1, i, s, hi, h0, h1 => by
    have hlt : i < l.length := by omega
    have hx := hb l[i] (List.getElem_mem hlt)
    have hs := sumStep_b s l[i] (by omega)
    refine evSuc (evMono (spec_SumOf_l0 l hb hm d (i + 1) (sumStep s l[i]) (by omega) hs.1 hs.2) fun k ih => ?_)
    simp only [spec_SumOf.l0]
    rw [if_pos (by omega), if_pos (by omega), rd_eq hlt, w64' (x := l[i]) (by omega) (by omega), w64' (x := 257 * s) (by omega) (by omega), w64' (x := 257 * s + l[i]) (by omega) (by omega), w64' (x := 257 * s + l[i] + 1) (by omega) (by omega), tmod_pos (by omega), w64' (x := (i : Int) + 1) (by omega) (by omega), fold_snoc hlt]
    rw [show (257 * s + l[i] + 1) % 1000003 = sumStep s l[i] by unfold sumStep; rw [Int.mul_comm 257 s]]
    exact ih
theorem spec_SumOf_ev (l : List Int) (hb : isBytes l) (hm : l.length ≤ 9223372036854775807) : Evp fun k => spec_SumOf.f k l = some (sumOf l) := by
  have := spec_SumOf_l0 l hb hm l.length 0 1 (by omega) (by omega) (by omega)
  exact this


theorem impl_SumOf_l0 (l : List Int) (hb : isBytes l) (hm : l.length ≤ 9223372036854775807) : ∀ (d i : Nat) (s : Int), i + d = l.length → 0 ≤ s → s < 1000003 → Evp fun k => impl_SumOf.l0 k s l (l.length : Int) (i : Int) = some ((l.drop i).foldl sumStep s)
  | 0, i, s, hi, h0, h1 => evSuc (evAll fun k => by
    simp only [impl_SumOf.l0]
    rw [if_neg (by omega), List.drop_eq_nil_of_le (by omega)]
    rfl)
  | d + 1, i, s, hi, h0, h1 => by
    have hlt : i < l.length := by omega
    have hx := hb l[i] (List.getElem_mem hlt)
    have hs := sumStep_b s l[i] (by omega)
    refine evSuc (evMono (impl_SumOf_l0 l hb hm d (i + 1) (sumStep s l[i]) (by omega) hs.1 hs.2) fun k ih => ?_)
    simp only [impl_SumOf.l0]
    rw [if_pos (by omega), if_pos (by omega), if_pos (by omega), rd_eq hlt, w64' (x := l[i]) (by omega) (by omega), w64' (x := s * 257) (by omega) (by omega), w64' (x := s * 257 + l[i]) (by omega) (by omega), w64' (x := s * 257 + l[i] + 1) (by omega) (by omega), tmod_pos (by omega), w64' (x := (i : Int) + 1) (by omega) (by omega), fold_snoc hlt]
    exact ih
theorem impl_SumOf_ev (l : List Int) (hb : isBytes l) (hm : l.length ≤ 9223372036854775807) : Evp fun k => impl_SumOf.f k l = some (sumOf l) := by
  have := impl_SumOf_l0 l hb hm l.length 0 1 (by omega) (by omega) (by omega)
  exact this


def shapeOk (h w c : Int) : Bool := decide ((1 ≤ h ∧ h ≤ 8) ∧ (1 ≤ w ∧ w ≤ 8) ∧ (1 ≤ c ∧ c ≤ 8))
theorem shapeOk_iff {h w c : Int} : shapeOk h w c = true ↔ (1 ≤ h ∧ h ≤ 8) ∧ (1 ≤ w ∧ w ≤ 8) ∧ (1 ≤ c ∧ c ≤ 8) := by unfold shapeOk; simp
def sizeOf (h w c : Int) : Int := if shapeOk h w c = true then h * w * c else 0
theorem mul_b {a b A B : Int} (ha : 0 ≤ a) (ha' : a ≤ A) (hb : 0 ≤ b) (hb' : b ≤ B) : 0 ≤ a * b ∧ a * b ≤ A * B := by
  refine ⟨Int.mul_nonneg ha hb, Int.mul_le_mul ha' hb' hb (by omega)⟩
theorem mul_pos1 {a b : Int} (ha : 1 ≤ a) (hb : 1 ≤ b) : 1 ≤ a * b := by
  have := Int.mul_le_mul ha hb (by omega) (by omega)
  omega
theorem size_b {h w c : Int} (hs : shapeOk h w c = true) : 1 ≤ h * w ∧ h * w ≤ 64 ∧ 1 ≤ h * w * c ∧ h * w * c ≤ 512 := by
  obtain ⟨h1, h2, h3⟩ := shapeOk_iff.1 hs
  have a := mul_b (a := h) (b := w) (A := 8) (B := 8) (by omega) (by omega) (by omega) (by omega)
  have b := mul_b (a := h * w) (b := c) (A := 64) (B := 8) (by omega) (by omega) (by omega) (by omega)
  have c1 := mul_pos1 h1.1 h2.1
  have c2 := mul_pos1 c1 h3.1
  omega
theorem spec_ShapeOk_eq (h w c : Int) : spec_ShapeOk.f h w c = some (shapeOk h w c) := by
  unfold spec_ShapeOk.f shapeOk
  simp only [spec_l01In_eq, Option.bind_some, decide_eq_true_eq]
  by_cases h1 : 1 ≤ h ∧ h ≤ 8 <;> by_cases h2 : 1 ≤ w ∧ w ≤ 8 <;> simp [h1, h2]


theorem impl_ShapeOk_eq (h w c : Int) : impl_ShapeOk.f h w c = some (shapeOk h w c) := by
  unfold impl_ShapeOk.f shapeOk
  simp only [impl_in_eq, Option.bind_some, decide_eq_true_eq]
  by_cases h1 : 1 ≤ h ∧ h ≤ 8 <;> by_cases h2 : 1 ≤ w ∧ w ≤ 8 <;> simp [h1, h2]


theorem spec_SizeOf_eq (h w c : Int) : spec_SizeOf.f h w c = some (sizeOf h w c) := by
  unfold spec_SizeOf.f sizeOf
  rw [spec_ShapeOk_eq]
  simp only [Option.bind_some]
  by_cases hs : shapeOk h w c = true
  · have := size_b hs
    rw [if_pos hs, if_pos hs, w64' (x := h * w) (by omega) (by omega), w64' (by omega) (by omega)]
  · rw [if_neg hs, if_neg hs]


theorem impl_SizeOf_eq (h w c : Int) : impl_SizeOf.f h w c = some (sizeOf h w c) := by
  unfold impl_SizeOf.f sizeOf
  rw [impl_ShapeOk_eq]
  simp only [Option.bind_some]
  by_cases hs : shapeOk h w c = true
  · have := size_b hs
    rw [if_pos hs, if_pos hs, w64' (x := h * w) (by omega) (by omega), w64' (by omega) (by omega)]
  · rw [if_neg hs, if_neg hs]


theorem laws_eqLayer_self (a b c d e f g : Int) (W B : List Int) (hW : (W.length : Int) ≤ 1048576) (hB : (B.length : Int) ≤ 1048576) : Evp fun k => laws_eqLayer.f k a b c d e f g W B a b c d e f g W B = some true :=
  evMono (evAnd (laws_eqIntS_ev W W (by omega)) (laws_eqIntS_ev B B (by omega))) fun k ⟨h1, h2⟩ => by
    unfold laws_eqLayer.f
    simp [h1, h2]


/-! #### numbers of up to six bytes -/
theorem or_comm64 {x y : Int} (hx : 0 ≤ x) (hx' : x < 2 ^ 62) (hy : 0 ≤ y) (hy' : y < 2 ^ 62) : Go.bits .or .i64 x y = Go.bits .or .i64 y x := by
  unfold Go.bits
  simp only [BitVec.or_comm]
theorem wraps_i64 (n : Int) (h0 : 0 ≤ n) (h1 : n < 2 ^ 62) : IntKind.i64.wrap n = n := by rw [i64wrap]; exact w64' (by omega) (by omega)
theorem pow_split (i : Nat) : (2 : Int) ^ (7 * (i + 1)) = 128 * 2 ^ (7 * i) := by rw [show 7 * (i + 1) = 7 * i + 7 by omega, Int.pow_add]; omega
theorem or_add {u v : Int} {i : Nat} (hi : i ≤ 5) (hu : 0 ≤ u) (hu' : u < 2 ^ (7 * i)) (hv : 0 ≤ v) (hv' : v ≤ 127) :
    0 ≤ v * 2 ^ (7 * i) ∧ v * 2 ^ (7 * i) ≤ 127 * 2 ^ (7 * i) ∧ (2 : Int) ^ (7 * i) ≤ 34359738368 ∧ 1 ≤ (2 : Int) ^ (7 * i) ∧ Go.bits .or .i64 u (v * 2 ^ (7 * i)) = u + v * 2 ^ (7 * i) := by
  have hp := two_pow_le (n := 7 * i) (m := 35) (by omega)
  have hm := mul_b (a := v) (b := 2 ^ (7 * i)) (A := 127) (B := 2 ^ (7 * i)) hv hv' (by omega) (by omega)
  refine ⟨hm.1, hm.2, hp.2, hp.1, ?_⟩
  have h35 : (2 : Int) ^ 35 = 34359738368 := by decide
  rw [or_comm64 hu (by omega) hm.1 (by omega), Int.add_comm]
  exact bits_join .i64 62 (by decide) wraps_i64 (7 * i) _ _ hm.1 (by simp) (by omega) hu hu' (by omega)
/-- What a number is written as: even for those from 0 on. -/
def wideOf (u : Int) : Int := if u % 2 = 1 then -(u / 2) - 1 else u / 2
def takeGo (l : List Int) (at_ : Int) : Nat → Nat → Int → Int × Int
  | 0, _, _ => (0, -1)
  | d + 1, i, u =>
    if at_ < 0 ∨ at_ ≥ (l.length : Int) - i then (0, -1)
    else if l.getD (at_ + i).toNat 0 < 128 then
      (if (l.getD (at_ + i).toNat 0 = 0 ∧ 0 < i) ∨ u + l.getD (at_ + i).toNat 0 % 128 * 2 ^ (7 * i) > 2199023255551 then (0, -1)
       else (wideOf (u + l.getD (at_ + i).toNat 0 % 128 * 2 ^ (7 * i)), at_ + i + 1))
    else takeGo l at_ d (i + 1) (u + l.getD (at_ + i).toNat 0 % 128 * 2 ^ (7 * i))
def takeWide (l : List Int) (at_ : Int) : Int × Int := takeGo l at_ 6 0 0
theorem getD_b {l : List Int} (hb : isBytes l) (n : Nat) : 0 ≤ l.getD n 0 ∧ l.getD n 0 ≤ 255 := by
  by_cases h : n < l.length
  · have := hb l[n] (List.getElem_mem h)
    simpa [List.getD, h] using this
  · simp [List.getD, h]
theorem wideOf_b {u : Int} (h : 0 ≤ u) (h1 : u ≤ 2199023255551) : -1099511627776 ≤ wideOf u ∧ wideOf u ≤ 1099511627775 := by unfold wideOf; split <;> omega
theorem wideOf_b' {u : Int} (h : 0 ≤ u) (h1 : u > 2199023255551) : ¬ (-1099511627776 ≤ wideOf u ∧ wideOf u ≤ 1099511627775) := by unfold wideOf; split <;> omega


theorem spec_TakeWide_l0 (l : List Int) (hb : isBytes l) (hl : l.length ≤ 1073741824) (at_ : Int) (hat : i64 at_) : ∀ (d i : Nat) (u : Int), i + d = 6 → 0 ≤ u → u < 2 ^ (7 * i) → Evp fun k => spec_TakeWide.l0 k l at_ u (i : Int) = some (takeGo l at_ d i u)
  | 0, i, u, hi, h0, h1 => evSuc (evAll fun k => by
    simp only [spec_TakeWide.l0]
    rw [if_neg (by omega)]
    rfl)
  | d + 1, i, u, hi, h0, h1 => by
    unfold i64 at hat
    unfold takeGo
    by_cases hc : at_ < 0 ∨ at_ ≥ (l.length : Int) - i
    · refine evSuc (evSuc (evAll fun k => ?_))
      rw [if_pos hc]
      simp only [spec_TakeWide.l0]
      rw [if_pos (by omega)]
      by_cases h2 : at_ < 0
      · rw [if_pos h2]
        simp [spec_TakeWide.j1]
      · rw [if_neg h2, w64' (by omega) (by omega), show decide (at_ ≥ (l.length : Int) - i) = true by simp; omega]
        simp [spec_TakeWide.j1]
    · obtain ⟨n, rfl⟩ := nat_of (show 0 ≤ at_ by omega)
      have hlt : n + i < l.length := by omega
      have hx := hb l[n + i] (List.getElem_mem hlt)
      have hv : 0 ≤ l[n + i] % 128 ∧ l[n + i] % 128 ≤ 127 := by omega
      obtain ⟨o1, o2, o3, o4, o5⟩ := or_add (i := i) (by omega) h0 h1 hv.1 hv.2
      have e1 : ((n : Int) + (i : Int)).toNat = n + i := by omega
      have e2 : l.getD (n + i) 0 = l[n + i] := by simp [List.getD, hlt]
      rw [e1, e2, if_neg hc]
      have start : ∀ k, spec_TakeWide.l0 (k + 1) l (n : Int) u (i : Int) = spec_TakeWide.j1 k l (n : Int) u (i : Int) false := by
        intro k
        simp only [spec_TakeWide.l0]
        rw [if_pos (by omega), if_neg (by omega), w64' (by omega) (by omega), show decide ((n : Int) ≥ (l.length : Int) - i) = false by simp; omega]
      have e3 : rd l ((n : Int) + (i : Int)) = l[n + i] := by rw [show (n : Int) + (i : Int) = ((n + i : Nat) : Int) by omega, rd_eq hlt]
      have e4 : shl .i64 (l[n + i] % 128) (7 * (i : Int)) = l[n + i] % 128 * 2 ^ (7 * i) := by
        rw [show (7 * (i : Int)) = ((7 * i : Nat) : Int) by omega, shl_eq (by omega)]
        exact w64' (by omega) (by omega)
      by_cases hs : l[n + i] < 128
      · rw [if_pos hs]
        refine evSuc (evSuc (evSuc (evAll fun k => ?_)))
        rw [start]
        simp only [spec_TakeWide.j1]
        rw [if_neg (by decide), w64' (x := (n : Int) + i) (by omega) (by omega), if_pos (by omega), if_pos (by omega), w64' (x := 7 * (i : Int)) (by omega) (by omega), u64_small (by omega) (by omega), if_pos (by omega), e3, w64' (x := l[n + i]) (by omega) (by omega), if_pos hs, tmod_pos (by omega), e4, w64' (x := u + l[n + i] % 128 * 2 ^ (7 * i)) (by omega) (by omega)]
        have fin : ∀ b : Bool, spec_TakeWide.j2 (k + 1) (n : Int) (u + l[n + i] % 128 * 2 ^ (7 * i)) (i : Int) b = some (if b = true then (0, -1) else (wideOf (u + l[n + i] % 128 * 2 ^ (7 * i)), (n : Int) + i + 1)) := by
          intro b
          simp only [spec_TakeWide.j2]
          cases b with
          | true => simp
          | false =>
            have hnn : 0 ≤ u + l[n + i] % 128 * 2 ^ (7 * i) := by omega
            have hle : u + l[n + i] % 128 * 2 ^ (7 * i) ≤ 4398046511104 := by omega
            generalize u + l[n + i] % 128 * 2 ^ (7 * i) = z at hnn hle ⊢
            simp only [Bool.false_eq_true, if_false]
            rw [tmod_pos hnn, w64' (x := (n : Int) + i) (by omega) (by omega), w64' (x := (n : Int) + i + 1) (by omega) (by omega)]
            unfold wideOf
            by_cases ho : z % 2 = 1
            · rw [if_pos ho, if_pos ho, w64' (x := z + 1) (by omega) (by omega), w64' (x := -(z + 1)) (by omega) (by omega), Int.neg_tdiv, tdiv_pos (by omega), w64' (by omega) (by omega)]
              congr 2
              omega
            · rw [if_neg ho, if_neg ho, tdiv_pos hnn, w64' (by omega) (by omega)]
        by_cases hz : l[n + i] = 0
        · rw [if_pos hz]
          by_cases hi0 : (i : Int) > 0
          · rw [if_pos hi0, fin, if_pos rfl, if_pos (.inl ⟨hz, by omega⟩)]
          · rw [if_neg hi0, fin]
            by_cases hg : u + l[n + i] % 128 * 2 ^ (7 * i) > 2199023255551
            · rw [if_pos (by simpa using hg), if_pos (.inr hg)]
            · rw [if_neg (by simpa using hg), if_neg (by omega)]
        · rw [if_neg hz, fin]
          by_cases hg : u + l[n + i] % 128 * 2 ^ (7 * i) > 2199023255551
          · rw [if_pos (by simpa using hg), if_pos (.inr hg)]
          · rw [if_neg (by simpa using hg), if_neg (by omega)]
      · rw [if_neg hs]
        refine evSuc (evSuc (evMono (spec_TakeWide_l0 l hb hl n (by unfold i64; omega) d (i + 1) (u + l[n + i] % 128 * 2 ^ (7 * i)) (by omega) (by omega) (by rw [pow_split]; omega)) fun k ih => ?_))
        rw [start]
        simp only [spec_TakeWide.j1]
        rw [if_neg (by decide), w64' (x := (n : Int) + i) (by omega) (by omega), if_pos (by omega), if_pos (by omega), w64' (x := 7 * (i : Int)) (by omega) (by omega), u64_small (by omega) (by omega), if_pos (by omega), e3, w64' (x := l[n + i]) (by omega) (by omega), if_neg hs, tmod_pos (by omega), e4, w64' (x := u + l[n + i] % 128 * 2 ^ (7 * i)) (by omega) (by omega), w64' (x := (i : Int) + 1) (by omega) (by omega)]
        exact ih
theorem spec_TakeWide_ev (l : List Int) (hb : isBytes l) (hl : l.length ≤ 1073741824) (at_ : Int) (hat : i64 at_) : Evp fun k => spec_TakeWide.f k l at_ = some (takeWide l at_) := by
  have := spec_TakeWide_l0 l hb hl at_ hat 6 0 0 (by omega) (by omega) (by decide)
  exact this


theorem impl_isWide_eq (x : Int) : impl_isWide.f x = some (decide (-1099511627776 ≤ x ∧ x ≤ 1099511627775)) := by
  unfold impl_isWide.f
  rw [impl_in_eq]
  rfl


theorem impl_TakeWide_l0 (l : List Int) (hb : isBytes l) (hl : l.length ≤ 1073741824) (n : Nat) (hn : n < l.length) (m : Nat) (hm : m = min l.length (n + 6) - n) (s : List Int) (hs : s = (l.take (n + m)).drop n) :
    ∀ (d i : Nat) (u : Int), i + d = 6 → i ≤ m → 0 ≤ u → u < 2 ^ (7 * i) → Evp fun k => impl_TakeWide.l0 k (n : Int) u s (m : Int) (i : Int) = some (takeGo l n d i u)
  | 0, i, u, hi, him, h0, h1 => evSuc (evAll fun k => by
    simp only [impl_TakeWide.l0]
    rw [if_neg (by omega)]
    rfl)
  | d + 1, i, u, hi, him, h0, h1 => by
    have hslen : s.length = m := by rw [hs]; simp; omega
    unfold takeGo
    by_cases hc : (n : Int) < 0 ∨ (n : Int) ≥ (l.length : Int) - i
    · refine evSuc (evAll fun k => ?_)
      rw [if_pos hc]
      simp only [impl_TakeWide.l0]
      rw [if_neg (by omega)]
    · have hlt : n + i < l.length := by omega
      have him' : i < m := by omega
      have hsi : i < s.length := by omega
      have hx := hb l[n + i] (List.getElem_mem hlt)
      have hv : 0 ≤ l[n + i] % 128 ∧ l[n + i] % 128 ≤ 127 := by omega
      obtain ⟨o1, o2, o3, o4, o5⟩ := or_add (i := i) (by omega) h0 h1 hv.1 hv.2
      have e1 : ((n : Int) + (i : Int)).toNat = n + i := by omega
      have e2 : l.getD (n + i) 0 = l[n + i] := by simp [List.getD, hlt]
      rw [e1, e2, if_neg hc]
      have e3 : rd s (i : Int) = l[n + i] := by
        rw [rd_eq hsi]
        subst hs
        simp
      have e4 : shl .i64 (l[n + i] % 128) (7 * (i : Int)) = l[n + i] % 128 * 2 ^ (7 * i) := by
        rw [show (7 * (i : Int)) = ((7 * i : Nat) : Int) by omega, shl_eq (by omega)]
        exact w64' (by omega) (by omega)
      have e5 : Go.bits .and .u8 l[n + i] 127 = l[n + i] % 128 := bits_mask .u8 8 (by decide) wraps_u8 7 (by decide) _ hx.1 (by omega)
      have hnn : 0 ≤ u + l[n + i] % 128 * 2 ^ (7 * i) := by omega
      have hle : u + l[n + i] % 128 * 2 ^ (7 * i) ≤ 4398046511104 := by omega
      by_cases hsm : l[n + i] < 128
      · rw [if_pos hsm]
        refine evSuc (evAll fun k => ?_)
        simp only [impl_TakeWide.l0]
        rw [if_pos (by omega), if_pos (by omega), if_pos (by omega), w64' (x := 7 * (i : Int)) (by omega) (by omega), if_pos (by omega), e3, if_neg (by omega), e5, w64' (x := l[n + i] % 128) (by omega) (by omega), e4, o5]
        generalize hzz : u + l[n + i] % 128 * 2 ^ (7 * i) = z at hnn hle ⊢
        simp only [impl_isWide_eq, Option.bind_some, decide_eq_true_eq]
        rw [tmod_pos hnn, tdiv_pos hnn, w64' (x := z / 2) (by omega) (by omega), w64' (x := -(z / 2)) (by omega) (by omega), w64' (x := -(z / 2) - 1) (by omega) (by omega), w64' (x := (n : Int) + i) (by omega) (by omega), w64' (x := (n : Int) + i + 1) (by omega) (by omega)]
        have w1 := fun h => wideOf_b (u := z) hnn h
        have w2 := fun h => wideOf_b' (u := z) hnn h
        unfold wideOf at w1 w2 ⊢
        by_cases ho : z % 2 = 1
        · simp only [if_pos ho] at w1 w2 ⊢
          by_cases hi0 : (i : Int) > 0
          · rw [if_pos hi0]
            by_cases hz : l[n + i] = 0
            · rw [if_pos hz, if_pos (.inl ⟨hz, by omega⟩)]
            · rw [if_neg hz]
              by_cases hg : z > 2199023255551
              · rw [if_neg (w2 hg), if_pos (.inr hg)]
              · rw [if_pos (w1 (by omega)), if_neg (by omega)]
          · rw [if_neg hi0]
            by_cases hg : z > 2199023255551
            · rw [if_neg (w2 hg), if_pos (.inr hg)]
            · rw [if_pos (w1 (by omega)), if_neg (by omega)]
        · simp only [if_neg ho] at w1 w2 ⊢
          by_cases hi0 : (i : Int) > 0
          · rw [if_pos hi0]
            by_cases hz : l[n + i] = 0
            · rw [if_pos hz, if_pos (.inl ⟨hz, by omega⟩)]
            · rw [if_neg hz]
              by_cases hg : z > 2199023255551
              · rw [if_neg (w2 hg), if_pos (.inr hg)]
              · rw [if_pos (w1 (by omega)), if_neg (by omega)]
          · rw [if_neg hi0]
            by_cases hg : z > 2199023255551
            · rw [if_neg (w2 hg), if_pos (.inr hg)]
            · rw [if_pos (w1 (by omega)), if_neg (by omega)]
      · rw [if_neg hsm]
        refine evSuc (evMono (impl_TakeWide_l0 l hb hl n hn m hm s hs d (i + 1) (u + l[n + i] % 128 * 2 ^ (7 * i)) (by omega) (by omega) (by omega) (by rw [pow_split]; omega)) fun k ih => ?_)
        simp only [impl_TakeWide.l0]
        rw [if_pos (by omega), if_pos (by omega), if_pos (by omega), w64' (x := 7 * (i : Int)) (by omega) (by omega), if_pos (by omega), e3, if_pos (by omega), e5, w64' (x := l[n + i] % 128) (by omega) (by omega), e4, o5, w64' (x := (i : Int) + 1) (by omega) (by omega)]
        exact ih
theorem impl_TakeWide_ev (l : List Int) (hb : isBytes l) (hl : l.length ≤ 1073741824) (at_ : Int) (hat : i64 at_) : Evp fun k => impl_TakeWide.f k l at_ = some (takeWide l at_) := by
  unfold i64 at hat
  unfold impl_TakeWide.f
  rw [impl_in_eq, w64' (x := (l.length : Int) - 1) (by omega) (by omega)]
  simp only [Option.bind_some, decide_eq_true_eq]
  by_cases h : 0 ≤ at_ ∧ at_ ≤ (l.length : Int) - 1
  · obtain ⟨n, rfl⟩ := nat_of h.1
    have hn : n < l.length := by omega
    have e : mn (l.length : Int) (wrap64 ((n : Int) + 6)) = ((n + (min l.length (n + 6) - n) : Nat) : Int) := by
      rw [w64' (by omega) (by omega)]
      unfold mn
      split <;> omega
    refine evMono (impl_TakeWide_l0 l hb hl n hn _ rfl _ rfl 6 0 0 (by omega) (by omega) (by omega) (by decide)) fun k hk => ?_
    rw [if_pos h, if_pos (by omega), e, if_pos (by omega), if_pos (by omega)]
    simp only [Int.toNat_natCast]
    rw [show ((List.drop n (List.take (n + (min l.length (n + 6) - n)) l)).length : Int) = ((min l.length (n + 6) - n : Nat) : Int) by simp; omega]
    exact hk
  · refine evAll fun k => ?_
    rw [if_neg h]
    unfold takeWide takeGo
    rw [if_pos (by omega)]


def marksByte (k0 : Int) (n : Nat) : List Int := (List.range n).map fun (j : Nat) => (k0 + (j : Int)) % 256
theorem marksByte_succ (k0 : Int) (n : Nat) : marksByte k0 (n + 1) = (k0) % 256 :: marksByte (k0 + 1) n := by
  unfold marksByte
  rw [List.range_succ_eq_map]
  simp only [List.map_cons, List.map_map, Function.comp_def, Int.natCast_zero, Int.add_zero, Nat.succ_eq_add_one, Int.natCast_add, Int.natCast_one]
  congr 1
  apply List.map_congr_left
  intro j _
  rw [show k0 + ((j : Int) + 1) = k0 + 1 + (j : Int) by omega]
theorem laws_markByteS_l0 : ∀ (d i : Nat) (l : List Int) (x : Int), i + d = l.length → 0 ≤ x → x + d ≤ 4000000000000 → l.length ≤ 4000000000000 → Evp fun k => laws_markByteS.l0 k l x (i : Int) = some (x + d, l.take i ++ marksByte x d)
  | 0, i, l, x, hi, h0, h1, hl => evSuc (evAll fun k => by
    simp only [laws_markByteS.l0]
    rw [if_neg (by omega), List.take_of_length_le (by omega)]
    simp [marksByte])
  | d + 1, i, l, x, hi, h0, h1, hl => by
    have hlt : i < l.length := by omega
    refine evSuc (evMono (laws_markByteS_l0 d (i + 1) (l.set i ((x) % 256)) (x + 1) (by simp; omega) (by omega) (by omega) (by simp; omega)) fun k ih => ?_)
    simp only [laws_markByteS.l0]
    rw [if_pos (by omega), if_pos (by omega), Int.toNat_natCast, w64' (x := x + 1) (by omega) (by omega), w64' (x := (i : Int) + 1) (by omega) (by omega)]
    have e : (l.set i ((x) % 256)).take (i + 1) = l.take i ++ [(x) % 256] := by
      rw [List.take_succ_eq_append_getElem (by simpa using hlt), List.take_set_of_le (Nat.le_refl i)]
      simp
    rw [e] at ih
    have ih' : laws_markByteS.l0 k (l.set i ((x) % 256)) (x + 1) ((i : Int) + 1) = _ := ih
    rw [ih', marksByte_succ]
    simp
    omega
theorem laws_markByteS_ev (l : List Int) (x : Int) (h0 : 0 ≤ x) (h1 : x + l.length ≤ 4000000000000) : Evp fun k => laws_markByteS.f k l x = some (x + l.length, marksByte x l.length) := by
  have := laws_markByteS_l0 l.length 0 l x (by omega) h0 h1 (by omega)
  unfold laws_markByteS.f
  simpa using this


def marksInt (k0 : Int) (n : Nat) : List Int := (List.range n).map fun (j : Nat) => k0 + (j : Int)
theorem marksInt_len (k0 : Int) (n : Nat) : (marksInt k0 n).length = n := by simp [marksInt]
theorem marksInt_get (k0 : Int) (n j : Nat) (h : j < n) : (marksInt k0 n)[j]'(by simpa [marksInt] using h) = k0 + (j : Int) := by simp [marksInt]


theorem laws_heldIntS_l0 (l : List Int) (hl : l.length ≤ 4000000000000) (x0 : Int) (h0 : 0 ≤ x0) (h1 : x0 + l.length ≤ 4000000000000) (hm : l = marksInt x0 l.length) : ∀ (d i : Nat), i + d = l.length → Evp fun k => laws_heldIntS.l0 k l (x0 + i) (i : Int) = some (x0 + l.length)
  | 0, i, hi => evSuc (evAll fun k => by
    simp only [laws_heldIntS.l0]
    rw [if_neg (by omega)]
    congr 1
    omega)
  | d + 1, i, hi => by
    have hlt : i < l.length := by omega
    refine evSuc (evMono (laws_heldIntS_l0 l hl x0 h0 h1 hm d (i + 1) (by omega)) fun k ih => ?_)
    have e : l[i] = x0 + (i : Int) := by
      have g := marksInt_get x0 l.length i hlt
      rw [← g]
      congr 1
    simp only [laws_heldIntS.l0]
    rw [if_pos (by omega), if_pos (by omega), rd_eq hlt, if_pos e, w64' (x := x0 + (i : Int) + 1) (by omega) (by omega), w64' (x := (i : Int) + 1) (by omega) (by omega), show x0 + (i : Int) + 1 = x0 + ((i + 1 : Nat) : Int) by omega]
    exact ih
theorem laws_heldIntS_ev (n : Nat) (x : Int) (h0 : 0 ≤ x) (h1 : x + n ≤ 4000000000000) : Evp fun k => laws_heldIntS.f k (marksInt x n) x = some (x + n) := by
  have := laws_heldIntS_l0 (marksInt x n) (by rw [marksInt_len]; omega) x h0 (by rw [marksInt_len]; omega) (by rw [marksInt_len]) n 0 (by rw [marksInt_len]; omega)
  rw [marksInt_len] at this
  unfold laws_heldIntS.f
  simpa using this


def item8 (x : Int) : Bool := decide (-128 ≤ x ∧ x ≤ 127)
def itemsB (l : List Int) : Bool := l.all item8
theorem all_at {p : Int → Bool} {l : List Int} {i : Nat} (h : i < l.length) : (l.drop i).all p = (p l[i] && (l.drop (i + 1)).all p) := by
  rw [drop_at h, List.all_cons]
theorem laws_eqShape_self (h w c : Int) : laws_eqShape.f h w c h w c = some true := ite_yes rfl (ite_yes rfl (ite_yes rfl rfl))


theorem spec_l02Int8_eq (x : Int) : spec_l02Int8.f x = some (item8 x) := by
  unfold spec_l02Int8.f
  rw [spec_l01In_eq]
  rfl


theorem impl_areItems_1_eq (x : Int) : impl_areItems_1.f x = some (!item8 x) := by
  unfold impl_areItems_1.f
  rw [impl_in_eq]
  rfl


theorem indexItems_l0 (l : List Int) (hl : l.length ≤ 9223372036854775807) : ∀ (d i : Nat), i + d = l.length → ∃ r, (Evp fun k => slices_IndexFunc_int_int_impl_areItems_1.l0 k l (l.length : Int) (i : Int) = some r) ∧ (decide (r ≥ 0) = !(l.drop i).all item8)
  | 0, i, hi => ⟨-1, evSuc (evAll fun k => by
    simp only [slices_IndexFunc_int_int_impl_areItems_1.l0]
    rw [if_neg (by omega)]), by rw [List.drop_eq_nil_of_le (by omega)]; rfl⟩
  | d + 1, i, hi => by
    have hlt : i < l.length := by omega
    rw [all_at hlt]
    cases hx : item8 l[i] with
    | true =>
      obtain ⟨r, h1, h2⟩ := indexItems_l0 l hl d (i + 1) (by omega)
      refine ⟨r, evSuc (evMono h1 fun k ih => ?_), by simpa using h2⟩
      simp only [slices_IndexFunc_int_int_impl_areItems_1.l0]
      rw [if_pos (by omega), if_pos (by omega), if_pos (by omega), rd_eq hlt, impl_areItems_1_eq, hx]
      simp only [Option.bind_some]
      rw [if_neg (by simp), w64' (by omega) (by omega)]
      exact ih
    | false =>
      refine ⟨(i : Int), evSuc (evAll fun k => ?_), by simp⟩
      simp only [slices_IndexFunc_int_int_impl_areItems_1.l0]
      rw [if_pos (by omega), if_pos (by omega), if_pos (by omega), rd_eq hlt, impl_areItems_1_eq, hx]
      simp


theorem impl_areItems_ev (l : List Int) (hl : l.length ≤ 9223372036854775807) : Evp fun k => impl_areItems.f k l = some (itemsB l) := by
  obtain ⟨r, h1, h2⟩ := indexItems_l0 l hl l.length 0 (by omega)
  refine evMono h1 fun k e => ?_
  have e1 : slices_ContainsFunc_int_int_impl_areItems_1.f k l = some (decide (r ≥ 0)) := bind_of (f := fun t => some (decide (t ≥ 0))) e rfl
  have e2 : impl_areItems.f k l = some (!decide (r ≥ 0)) := bind_of (f := fun t => some (!t)) e1 rfl
  rw [e2, h2]
  simp [itemsB]


/-- The place of the first of the greatest. -/
def IsTop (l : List Int) (r : Nat) : Prop := r < l.length ∧ (∀ j, j < l.length → l.getD j 0 ≤ l.getD r 0) ∧ ∀ j, j < r → l.getD j 0 < l.getD r 0
theorem IsTop.one {l : List Int} {r s : Nat} (h : IsTop l r) (g : IsTop l s) : r = s := by
  obtain ⟨h1, h2, h3⟩ := h
  obtain ⟨g1, g2, g3⟩ := g
  rcases Nat.lt_trichotomy r s with e | e | e
  · have := g3 r e
    have := h2 s g1
    omega
  · exact e
  · have := h3 s e
    have := g2 r h1
    omega


theorem rdImp_eq {l : List S37} {i : Nat} (h : i < l.length) : rd_T37 l (i : Int) = l[i] := by
  unfold rd_T37
  simp [List.getD, h]
/-- The lists of a layer, of layers: within the law's bound. -/
def smallL (x : S37) : Prop := (x.f7.length : Int) ≤ 1048576 ∧ (x.f8.length : Int) ≤ 1048576
def smallI (l : List S37) : Prop := (l.length : Int) ≤ 1048576 ∧ ∀ x ∈ l, smallL x


theorem laws_eqLayerS_l0 (l : List S37) (h : smallI l) : ∀ (d i : Nat), i + d = l.length → Evp fun k => laws_eqLayerS.l0 k l l (i : Int) = some true
  | 0, i, hi => evSuc (evAll fun k => by
    simp only [laws_eqLayerS.l0]
    rw [if_neg (by omega)])
  | d + 1, i, hi => by
    have hlt : i < l.length := by omega
    have hb := h.1
    have hx := h.2 l[i] (List.getElem_mem hlt)
    refine evSuc (evMono (evAnd (laws_eqLayer_self l[i].f0 l[i].f1 l[i].f2 l[i].f3 l[i].f4 l[i].f5 l[i].f6 l[i].f7 l[i].f8 hx.1 hx.2) (laws_eqLayerS_l0 l h d (i + 1) (by omega))) fun k ⟨e, ih⟩ => ?_)
    simp only [laws_eqLayerS.l0]
    rw [if_pos (by omega), if_pos (by omega), if_pos (by omega), rdImp_eq hlt]
    refine bind_of e (ite_yes rfl ?_)
    rw [w64' (by omega) (by omega)]
    exact ih
theorem laws_eqLayerS_self (l : List S37) (h : smallI l) : Evp fun k => laws_eqLayerS.f k l l = some true :=
  evMono (laws_eqLayerS_l0 l h l.length 0 (by omega)) fun k e => ite_yes rfl e


theorem laws_eqModel_self (h w c : Int) (l : List S37) (hl : smallI l) : Evp fun k => laws_eqModel.f k h w c l h w c l = some true :=
  evMono (laws_eqLayerS_self l hl) fun k e => bind_of (laws_eqShape_self h w c) (ite_yes rfl (bind_of e (ite_yes rfl rfl)))


theorem and_of {b c : Bool} {x y : Option Bool} (hx : b = true → x = some c) (hy : y = some false) : (if b = true then x else y) = some (b && c) := by
  cases b with
  | true => rw [if_pos rfl, hx rfl]; simp
  | false => rw [if_neg (by simp), hy]; simp
theorem and_ofP {P : Prop} [Decidable P] {c : Bool} {x y : Option Bool} (hx : P → x = some c) (hy : y = some false) : (if P then x else y) = some (decide P && c) := by
  by_cases h : P
  · rw [if_pos h, hx h]; simp [h]
  · rw [if_neg h, hy]; simp [h]
def rng (x lo hi : Int) : Bool := decide (lo ≤ x ∧ x ≤ hi)
theorem rng_iff {x lo hi : Int} : rng x lo hi = true ↔ lo ≤ x ∧ x ≤ hi := by simp [rng]
def biasB (l : List Int) : Bool := l.all fun x => rng x (-1000000) 1000000
def scaledB (ou mu sh ze : Int) (W B : List Int) (n : Int) : Bool :=
  rng ou 1 8 && (rng mu 0 2147483647 && (rng sh 0 31 && (rng ze (-128) 127 && (decide ((W.length : Int) = ou * n) && (itemsB W && (decide ((B.length : Int) = ou) && biasB B))))))
def bareB (ou mu sh : Int) (W B : List Int) : Bool := decide (ou = 0) && (decide (mu = 0) && (decide (sh = 0) && (decide ((W.length : Int) = 0) && decide ((B.length : Int) = 0))))
def noneB (sz st : Int) : Bool := decide (sz = 0) && decide (st = 0)
def windB (sz st h w : Int) : Bool := (rng sz 1 3 && (decide (sz ≤ h) && decide (sz ≤ w))) && rng st 1 2
def sh0 : Int × Int × Int × Bool := (0, 0, 0, false)
def outShape (h w c kd ou sz st mu sh ze : Int) (W B : List Int) : Int × Int × Int × Bool :=
  if shapeOk h w c = true then
    if kd = 0 then if h * w * c ≤ 64 ∧ noneB sz st = true ∧ scaledB ou mu sh ze W B (h * w * c) = true then (1, 1, ou, true) else sh0
    else if kd = 1 then if windB sz st h w = true ∧ (W.length : Int) ≤ 600 ∧ scaledB ou mu sh ze W B (sz * sz * c) = true then ((h - sz) / st + 1, (w - sz) / st + 1, ou, true) else sh0
    else if kd = 2 ∨ kd = 3 then if windB sz st h w = true ∧ bareB ou mu sh W B = true ∧ ze = 0 then ((h - sz) / st + 1, (w - sz) / st + 1, c, true) else sh0
    else if kd = 4 then if noneB sz st = true ∧ bareB ou mu sh W B = true ∧ rng ze (-128) 127 = true then (h, w, c, true) else sh0
    else if kd = 5 then if noneB sz st = true ∧ bareB ou mu sh W B = true ∧ ze = 0 ∧ h * w * c ≤ 8 then (1, 1, h * w * c, true) else sh0
    else sh0
  else sh0
theorem scaledB_iff {ou mu sh ze : Int} {W B : List Int} {n : Int} : scaledB ou mu sh ze W B n = true ↔ (1 ≤ ou ∧ ou ≤ 8) ∧ (0 ≤ mu ∧ mu ≤ 2147483647) ∧ (0 ≤ sh ∧ sh ≤ 31) ∧ (-128 ≤ ze ∧ ze ≤ 127) ∧ (W.length : Int) = ou * n ∧ itemsB W = true ∧ (B.length : Int) = ou ∧ biasB B = true := by
  simp only [scaledB, Bool.and_eq_true, rng_iff, decide_eq_true_eq]
theorem windB_iff {sz st h w : Int} : windB sz st h w = true ↔ ((1 ≤ sz ∧ sz ≤ 3) ∧ sz ≤ h ∧ sz ≤ w) ∧ 1 ≤ st ∧ st ≤ 2 := by
  simp only [windB, Bool.and_eq_true, rng_iff, decide_eq_true_eq]
theorem shape_dims {h w c : Int} (hs : shapeOk h w c = true) : (1 ≤ h ∧ h ≤ 8) ∧ (1 ≤ w ∧ w ≤ 8) ∧ (1 ≤ c ∧ c ≤ 8) := by
  simpa [shapeOk] using hs
theorem win_dims {h sz st : Int} (h1 : h ≤ 8) (h2 : 1 ≤ sz) (h3 : sz ≤ h) (h4 : 1 ≤ st) : wrap64 ((wrap64 (Int.tdiv (wrap64 (h - sz)) st)) + 1) = (h - sz) / st + 1 := by
  rw [w64' (x := h - sz) (by omega) (by omega), tdiv_pos (by omega)]
  have h5 : 0 ≤ (h - sz) / st := Int.ediv_nonneg (by omega) (by omega)
  have h6 := Int.ediv_le_self (a := h - sz) st (by omega)
  rw [w64' (x := (h - sz) / st) (by omega) (by omega), w64' (by omega) (by omega)]
theorem small_mul {a n : Int} (h1 : 1 ≤ a) (h2 : a ≤ 8) (h3 : 0 ≤ n) (h4 : n ≤ 4096) : wrap64 (a * n) = a * n := by
  have := bnd_mul (a := a) (b := n) (A := 8) (B := 4096) (by omega) (by omega) (by omega) (by omega)
  exact w64' (by omega) (by omega)
theorem area_b {sz c : Int} (h1 : 1 ≤ sz) (h2 : sz ≤ 3) (h3 : 1 ≤ c) (h4 : c ≤ 8) : 0 ≤ sz * sz * c ∧ sz * sz * c ≤ 72 ∧ 0 ≤ sz * sz ∧ sz * sz ≤ 9 := by
  have a1 := Int.mul_nonneg (show 0 ≤ sz by omega) (show 0 ≤ sz by omega)
  have a2 := bnd_mul (a := sz) (b := sz) (A := 3) (B := 3) (by omega) (by omega) (by omega) (by omega)
  have a3 := Int.mul_nonneg a1 (show 0 ≤ c by omega)
  have a4 := bnd_mul (a := sz * sz) (b := c) (A := 9) (B := 8) (by omega) (by omega) (by omega) (by omega)
  omega


def valB (kd ze : Int) : Bool := if kd = 4 then rng ze (-128) 127 else decide (ze = 0)
def plainB (kd ou sz st mu sh ze : Int) (W B : List Int) (win wei : Bool) : Bool :=
  (if win = true then rng sz 1 3 && rng st 1 2 else noneB sz st) &&
  (if wei = true then rng ou 1 8 && (rng mu 0 2147483647 && (rng sh 0 31 && (rng ze (-128) 127 && (decide ((B.length : Int) = ou) && (biasB B && itemsB W))))) else bareB ou mu sh W B && valB kd ze)
theorem spec_l03Plain_l1 (kd ou sz st mu sh ze : Int) (W B : List Int) (hW : (W.length : Int) ≤ 9223372036854775807) : ∀ (d i : Nat), i + d = W.length → Evp fun k => spec_l03Plain.l1 k (i : Int) kd ou sz st mu sh ze W B = some ((W.drop i).all item8)
  | 0, i, hi => evSuc (evAll fun k => by
    simp only [spec_l03Plain.l1]
    rw [if_neg (by omega), List.drop_eq_nil_of_le (by omega)]
    rfl)
  | d + 1, i, hi => by
    have hlt : i < W.length := by omega
    refine evSuc (evMono (spec_l03Plain_l1 kd ou sz st mu sh ze W B hW d (i + 1) (by omega)) fun k ih => ?_)
    simp only [spec_l03Plain.l1]
    rw [if_pos (by omega), if_pos (by omega), rd_eq hlt, all_at hlt]
    refine bind_of (spec_l02Int8_eq _) (and_of (fun _ => ?_) rfl)
    rw [w64' (by omega) (by omega)]
    exact ih
theorem spec_l03Plain_l0 (kd ou sz st mu sh ze : Int) (W B : List Int) (hW : (W.length : Int) ≤ 9223372036854775807) (hB : (B.length : Int) ≤ 9223372036854775807) : ∀ (d i : Nat), i + d = B.length → Evp fun k => spec_l03Plain.l0 k (i : Int) kd ou sz st mu sh ze W B = some ((B.drop i).all (fun x => rng x (-1000000) 1000000) && itemsB W)
  | 0, i, hi => evSuc (evMono (spec_l03Plain_l1 kd ou sz st mu sh ze W B hW W.length 0 (by omega)) fun k e => by
    simp only [spec_l03Plain.l0]
    rw [if_neg (by omega), List.drop_eq_nil_of_le (by omega)]
    simpa [itemsB] using e)
  | d + 1, i, hi => by
    have hlt : i < B.length := by omega
    refine evSuc (evMono (spec_l03Plain_l0 kd ou sz st mu sh ze W B hW hB d (i + 1) (by omega)) fun k ih => ?_)
    simp only [spec_l03Plain.l0]
    rw [if_pos (by omega), if_pos (by omega), rd_eq hlt, all_at hlt, Bool.and_assoc]
    refine bind_of (spec_l01In_eq _ _ _) (and_of (fun _ => ?_) rfl)
    rw [w64' (by omega) (by omega)]
    exact ih
theorem spec_l03Plain_ev (kd ou sz st mu sh ze : Int) (W B : List Int) (win wei : Bool) (hW : (W.length : Int) ≤ 9223372036854775807) (hB : (B.length : Int) ≤ 9223372036854775807) : Evp fun k => spec_l03Plain.f k kd ou sz st mu sh ze W B win wei = some (plainB kd ou sz st mu sh ze W B win wei) := by
  have j1t : Evp fun k => spec_l03Plain.j1 k true kd ou sz st mu sh ze W B = some false := evSuc (evAll fun k => by
    simp only [spec_l03Plain.j1]
    exact ite_yes trivial rfl)
  have j4t : Evp fun k => spec_l03Plain.j4 k true kd ou sz st mu sh ze W B = some false := evSuc (evAll fun k => by
    simp only [spec_l03Plain.j4]
    exact ite_yes trivial rfl)
  have j1f : Evp fun k => spec_l03Plain.j1 k false kd ou sz st mu sh ze W B = some (biasB B && itemsB W) := evSuc (evMono (spec_l03Plain_l0 kd ou sz st mu sh ze W B hW hB B.length 0 (by omega)) fun k e => by
    simp only [spec_l03Plain.j1]
    refine ite_no (by simp) ?_
    rw [List.drop_zero] at e
    exact e)
  have j4f : Evp fun k => spec_l03Plain.j4 k false kd ou sz st mu sh ze W B = some (valB kd ze) := evSuc (evAll fun k => by
    simp only [spec_l03Plain.j4]
    refine ite_no (by simp) ?_
    unfold valB
    by_cases h4 : kd = 4
    · rw [if_pos h4, if_pos h4]
      exact bind_of (spec_l02Int8_eq _) rfl
    · rw [if_neg h4, if_neg h4]
      by_cases hz : ze = 0 <;> simp [hz])
  have j0 : Evp fun k => spec_l03Plain.j0 k wei kd ou sz st mu sh ze W B = some (if wei = true then rng ou 1 8 && (rng mu 0 2147483647 && (rng sh 0 31 && (rng ze (-128) 127 && (decide ((B.length : Int) = ou) && (biasB B && itemsB W))))) else bareB ou mu sh W B && valB kd ze) := evSuc (evMono (evAnd j1t (evAnd j1f (evAnd j4t j4f))) fun k ⟨a1, a2, a3, a4⟩ => by
    simp only [spec_l03Plain.j0]
    cases wei with
    | true =>
      rw [if_pos rfl, if_pos rfl]
      refine bind_of (spec_l01In_eq _ _ _) (and_of (fun _ => bind_of (spec_l01In_eq _ _ _) (and_of (fun _ => bind_of (spec_l01In_eq _ _ _) (and_of (fun _ => bind_of (spec_l02Int8_eq _) (and_of (fun _ => ?_) a1)) a1)) a1)) a1)
      by_cases hb : (B.length : Int) = ou
      · rw [show ((B.length : Int) != ou) = false by simp [hb], a2, decide_eq_true hb]
        rfl
      · rw [show ((B.length : Int) != ou) = true by simp [hb], a1, decide_eq_false hb]
        rfl
    | false =>
      rw [if_neg Bool.false_ne_true, if_neg Bool.false_ne_true]
      unfold bareB
      rw [Bool.and_assoc, Bool.and_assoc, Bool.and_assoc]
      refine and_ofP (fun _ => and_ofP (fun _ => and_ofP (fun _ => ?_) a3) a3) a3
      by_cases hw : (W.length : Int) > 0
      · rw [if_pos hw, a3, decide_eq_false (show ¬ (W.length : Int) = 0 by omega)]
        rfl
      · rw [if_neg hw, decide_eq_true (show (W.length : Int) = 0 by omega)]
        by_cases hb : (B.length : Int) > 0
        · rw [decide_eq_true hb, a3, decide_eq_false (show ¬ (B.length : Int) = 0 by omega)]
          rfl
        · rw [decide_eq_false hb, a4, decide_eq_true (show (B.length : Int) = 0 by omega)]
          rfl)
  refine evMono j0 fun k e => ?_
  unfold plainB spec_l03Plain.f
  cases win with
  | true =>
    rw [if_pos rfl, if_pos rfl, Bool.and_assoc]
    exact bind_of (spec_l01In_eq _ _ _) (and_of (fun _ => bind_of (spec_l01In_eq _ _ _) (and_of (fun _ => e) rfl)) rfl)
  | false =>
    rw [if_neg Bool.false_ne_true, if_neg Bool.false_ne_true]
    unfold noneB
    rw [Bool.and_assoc]
    exact and_ofP (fun _ => and_ofP (fun _ => e) rfl) rfl


theorem spec_OutShape_ev (h w c kd ou sz st mu sh ze : Int) (W B : List Int) (hW : (W.length : Int) ≤ 9223372036854775807) (hB : (B.length : Int) ≤ 9223372036854775807) : Evp fun k => spec_OutShape.f k h w c kd ou sz st mu sh ze W B = some (outShape h w c kd ou sz st mu sh ze W B) := by
  have j0t : Evp fun k => spec_OutShape.j0 k true h w c kd ou sz st mu sh ze W B 0 0 0 = some sh0 := evSuc (evAll fun k => by
    simp only [spec_OutShape.j0]
    exact ite_yes trivial rfl)
  by_cases hs : shapeOk h w c = true
  case neg =>
    refine evMono j0t fun k e => ?_
    unfold outShape
    rw [if_neg hs]
    exact bind_of (spec_ShapeOk_eq h w c) (ite_no hs e)
  by_cases hk : 0 ≤ kd ∧ kd ≤ 5
  case neg =>
    refine evMono j0t fun k e => ?_
    unfold outShape
    rw [if_pos hs, if_neg (by omega), if_neg (by omega), if_neg (by omega), if_neg (by omega), if_neg (by omega)]
    refine bind_of (spec_ShapeOk_eq h w c) (ite_yes hs (bind_of (spec_l01In_eq _ _ _) ?_))
    rw [decide_eq_false hk]
    exact e
  obtain ⟨dh, dw, dc⟩ := shape_dims hs
  have hsz := size_b hs
  have eS : spec_SizeOf.f h w c = some (h * w * c) := by
    rw [spec_SizeOf_eq]
    unfold sizeOf
    rw [if_pos hs]
  have pl := spec_l03Plain_ev kd ou sz st mu sh ze W B (rng kd 1 3) (decide (kd ≤ 1)) hW hB
  refine evMono (evSuc (p := fun k => spec_OutShape.j0 k false h w c kd ou sz st mu sh ze W B 0 0 0 = some (outShape h w c kd ou sz st mu sh ze W B)) (evMono (evAnd pl (evSuc (p := fun k => ∀ x y z, spec_OutShape.j1 k h w c kd ou sz st mu sh ze W B 0 0 0 x y z = (if kd = 0 then (if h * w * c > 64 then some sh0 else if (W.length : Int) = wrap64 (ou * (h * w * c)) then some (1, 1, ou, true) else some sh0) else if kd = 1 then (if (W.length : Int) = wrap64 (wrap64 (wrap64 (ou * sz) * sz) * c) then (if (W.length : Int) > 600 then some sh0 else some (x, y, ou, true)) else some sh0) else if kd = 5 then (if h * w * c > 8 then some sh0 else some (1, 1, h * w * c, true)) else some (x, y, z, true))) (evAll fun k x y z => ?_))) fun k ⟨e, j1⟩ => ?_)) fun k e => ?_
  · simp only [spec_OutShape.j1]
    rw [eS]
    simp only [Option.bind_some]
    rfl
  · simp only [spec_OutShape.j0]
    refine ite_no (by simp) (bind_of (spec_l01In_eq _ _ _) (bind_of e ?_))
    unfold outShape
    rw [if_pos hs]
    show (if plainB kd ou sz st mu sh ze W B (rng kd 1 3) (decide (kd ≤ 1)) = true then (if rng kd 1 3 = true then _ else _) else _) = _
    rcases (by omega : kd = 0 ∨ kd = 1 ∨ (kd = 2 ∨ kd = 3) ∨ kd = 4 ∨ kd = 5) with rfl | rfl | k23 | rfl | rfl
    · rw [show rng 0 1 3 = false from rfl, show decide ((0 : Int) ≤ 1) = true from rfl, if_pos (rfl : (0 : Int) = 0)]
      by_cases hp : plainB 0 ou sz st mu sh ze W B false true = true
      · rw [if_pos hp, if_neg Bool.false_ne_true, j1, if_pos (rfl : (0 : Int) = 0)]
        simp only [plainB, Bool.and_eq_true, rng_iff, decide_eq_true_eq, if_true, Bool.false_eq_true, if_false] at hp
        obtain ⟨p1, p2, p3, p4, p5, p6, p7, p8⟩ := hp
        rw [small_mul (by omega) (by omega) (by omega) (by omega)]
        by_cases c1 : h * w * c > 64
        · rw [if_pos c1, if_neg (fun z => by omega)]
        · rw [if_neg c1]
          by_cases c2 : (W.length : Int) = ou * (h * w * c)
          · rw [if_pos c2, if_pos ⟨by omega, p1, scaledB_iff.2 ⟨p2, p3, p4, p5, c2, p8, p6, p7⟩⟩]
          · rw [if_neg c2, if_neg (fun z => c2 (scaledB_iff.1 z.2.2).2.2.2.2.1)]
      · rw [if_neg hp, if_neg (fun z => hp ?_)]
        · rfl
        · obtain ⟨q1, q2, q3, q4, q5, q6, q7, q8⟩ := scaledB_iff.1 z.2.2
          simp only [plainB, Bool.and_eq_true, rng_iff, decide_eq_true_eq, if_true, Bool.false_eq_true, if_false]
          exact ⟨z.2.1, q1, q2, q3, q4, q7, q8, q6⟩
    · rw [show rng 1 1 3 = true from rfl, show decide ((1 : Int) ≤ 1) = true from rfl, if_neg (show ¬ (1 : Int) = 0 by decide), if_pos (rfl : (1 : Int) = 1)]
      by_cases hp : plainB 1 ou sz st mu sh ze W B true true = true
      · rw [if_pos hp, if_pos rfl]
        simp only [plainB, Bool.and_eq_true, rng_iff, decide_eq_true_eq, if_true] at hp
        obtain ⟨⟨p0, p1⟩, p2, p3, p4, p5, p6, p7, p8⟩ := hp
        have ar := area_b p0.1 p0.2 dc.1 dc.2
        by_cases c1 : sz > h
        · rw [if_pos c1, if_neg (fun z => by have := windB_iff.1 z.1; omega)]
          rfl
        rw [if_neg c1]
        by_cases c2 : sz > w
        · rw [if_pos c2, if_neg (fun z => by have := windB_iff.1 z.1; omega)]
          rfl
        rw [if_neg c2, if_neg (show ¬ st = 0 by omega), j1, if_neg (show ¬ (1 : Int) = 0 by decide), if_pos (rfl : (1 : Int) = 1), win_dims (by omega) (by omega) (by omega) (by omega), win_dims (by omega) (by omega) (by omega) (by omega)]
        have e3 : wrap64 (wrap64 (wrap64 (ou * sz) * sz) * c) = ou * (sz * sz * c) := by
          have b1 := bnd_mul (a := ou) (b := sz) (A := 8) (B := 3) (by omega) (by omega) (by omega) (by omega)
          have b2 := bnd_mul (a := ou * sz) (b := sz) (A := 24) (B := 3) (by omega) (by omega) (by omega) (by omega)
          have b3 := bnd_mul (a := ou * sz * sz) (b := c) (A := 72) (B := 8) (by omega) (by omega) (by omega) (by omega)
          rw [w64' (x := ou * sz) (by omega) (by omega), w64' (x := ou * sz * sz) (by omega) (by omega), w64' (by omega) (by omega)]
          ac_rfl
        rw [e3]
        by_cases c3 : (W.length : Int) = ou * (sz * sz * c)
        · rw [if_pos c3]
          by_cases c4 : (W.length : Int) > 600
          · rw [if_pos c4, if_neg (fun z => by omega)]
          · rw [if_neg c4, if_pos ⟨windB_iff.2 ⟨⟨p0, by omega, by omega⟩, p1⟩, by omega, scaledB_iff.2 ⟨p2, p3, p4, p5, c3, p8, p6, p7⟩⟩]
        · rw [if_neg c3, if_neg (fun z => c3 (scaledB_iff.1 z.2.2).2.2.2.2.1)]
      · rw [if_neg hp, if_neg (fun z => hp ?_)]
        · rfl
        · obtain ⟨q1, q2, q3, q4, q5, q6, q7, q8⟩ := scaledB_iff.1 z.2.2
          obtain ⟨⟨w1, w2, w3⟩, w4⟩ := windB_iff.1 z.1
          simp only [plainB, Bool.and_eq_true, rng_iff, decide_eq_true_eq, if_true]
          exact ⟨⟨w1, w4⟩, q1, q2, q3, q4, q7, q8, q6⟩
    · have hr : rng kd 1 3 = true := rng_iff.2 (by omega)
      have hd : decide (kd ≤ 1) = false := decide_eq_false (by omega)
      have hv : valB kd ze = decide (ze = 0) := by unfold valB; rw [if_neg (by omega)]
      rw [hr, hd, if_neg (show ¬ kd = 0 by omega), if_neg (show ¬ kd = 1 by omega), if_pos k23]
      by_cases hp : plainB kd ou sz st mu sh ze W B true false = true
      · rw [if_pos hp, if_pos rfl]
        simp only [plainB, Bool.and_eq_true, rng_iff, decide_eq_true_eq, if_true, Bool.false_eq_true, if_false, hv] at hp
        obtain ⟨⟨p0, p1⟩, p2, p3⟩ := hp
        by_cases c1 : sz > h
        · rw [if_pos c1, if_neg (fun z => by have := windB_iff.1 z.1; omega)]
          rfl
        rw [if_neg c1]
        by_cases c2 : sz > w
        · rw [if_pos c2, if_neg (fun z => by have := windB_iff.1 z.1; omega)]
          rfl
        rw [if_neg c2, if_neg (show ¬ st = 0 by omega), j1, if_neg (show ¬ kd = 0 by omega), if_neg (show ¬ kd = 1 by omega), if_neg (show ¬ kd = 5 by omega), win_dims (by omega) (by omega) (by omega) (by omega), win_dims (by omega) (by omega) (by omega) (by omega), if_pos ⟨windB_iff.2 ⟨⟨p0, by omega, by omega⟩, p1⟩, p2, p3⟩]
      · rw [if_neg hp, if_neg (fun z => hp ?_)]
        · rfl
        · obtain ⟨⟨w1, w2, w3⟩, w4⟩ := windB_iff.1 z.1
          simp only [plainB, Bool.and_eq_true, rng_iff, decide_eq_true_eq, if_true, Bool.false_eq_true, if_false, hv]
          exact ⟨⟨w1, w4⟩, z.2.1, z.2.2⟩
    · rw [show rng 4 1 3 = false from rfl, show decide ((4 : Int) ≤ 1) = false from rfl, if_neg (show ¬ (4 : Int) = 0 by decide), if_neg (show ¬ (4 : Int) = 1 by decide), if_neg (show ¬ ((4 : Int) = 2 ∨ (4 : Int) = 3) by decide), if_pos (rfl : (4 : Int) = 4)]
      by_cases hp : plainB 4 ou sz st mu sh ze W B false false = true
      · rw [if_pos hp, if_neg Bool.false_ne_true, j1, if_neg (show ¬ (4 : Int) = 0 by decide), if_neg (show ¬ (4 : Int) = 1 by decide), if_neg (show ¬ (4 : Int) = 5 by decide)]
        simp only [plainB, Bool.and_eq_true, Bool.false_eq_true, if_false] at hp
        rw [if_pos ⟨hp.1, hp.2.1, hp.2.2⟩]
      · rw [if_neg hp, if_neg (fun z => hp ?_)]
        · rfl
        · simp only [plainB, Bool.and_eq_true, Bool.false_eq_true, if_false]
          exact ⟨z.1, z.2.1, z.2.2⟩
    · rw [show rng 5 1 3 = false from rfl, show decide ((5 : Int) ≤ 1) = false from rfl, if_neg (show ¬ (5 : Int) = 0 by decide), if_neg (show ¬ (5 : Int) = 1 by decide), if_neg (show ¬ ((5 : Int) = 2 ∨ (5 : Int) = 3) by decide), if_neg (show ¬ (5 : Int) = 4 by decide), if_pos (rfl : (5 : Int) = 5)]
      have hv : valB 5 ze = decide (ze = 0) := rfl
      by_cases hp : plainB 5 ou sz st mu sh ze W B false false = true
      · rw [if_pos hp, if_neg Bool.false_ne_true, j1, if_neg (show ¬ (5 : Int) = 0 by decide), if_neg (show ¬ (5 : Int) = 1 by decide), if_pos (rfl : (5 : Int) = 5)]
        simp only [plainB, Bool.and_eq_true, Bool.false_eq_true, if_false, hv, decide_eq_true_eq] at hp
        by_cases c1 : h * w * c > 8
        · rw [if_pos c1, if_neg (fun z => by omega)]
        · rw [if_neg c1, if_pos ⟨hp.1, hp.2.1, hp.2.2, by omega⟩]
      · rw [if_neg hp, if_neg (fun z => hp ?_)]
        · rfl
        · simp only [plainB, Bool.and_eq_true, Bool.false_eq_true, if_false, hv, decide_eq_true_eq]
          exact ⟨z.1, z.2.1, z.2.2.1⟩
  · refine bind_of (spec_ShapeOk_eq h w c) (ite_yes hs (bind_of (spec_l01In_eq _ _ _) ?_))
    rw [decide_eq_true hk]
    exact e


theorem impl_Layer_isScaled_1_eq (x : Int) : impl_Layer_isScaled_1.f x = some (!rng x (-1000000) 1000000) := by
  unfold impl_Layer_isScaled_1.f
  rw [impl_in_eq]
  rfl


theorem indexBias_l0 (l : List Int) (hl : l.length ≤ 9223372036854775807) : ∀ (d i : Nat), i + d = l.length → ∃ r, (Evp fun k => slices_IndexFunc_int_int_impl_Layer_isScaled_1.l0 k l (l.length : Int) (i : Int) = some r) ∧ (decide (r ≥ 0) = !(l.drop i).all fun x => rng x (-1000000) 1000000)
  | 0, i, hi => ⟨-1, evSuc (evAll fun k => by
    simp only [slices_IndexFunc_int_int_impl_Layer_isScaled_1.l0]
    rw [if_neg (by omega)]), by rw [List.drop_eq_nil_of_le (by omega)]; rfl⟩
  | d + 1, i, hi => by
    have hlt : i < l.length := by omega
    rw [all_at hlt]
    cases hx : rng l[i] (-1000000) 1000000 with
    | true =>
      obtain ⟨r, h1, h2⟩ := indexBias_l0 l hl d (i + 1) (by omega)
      refine ⟨r, evSuc (evMono h1 fun k ih => ?_), by simpa using h2⟩
      simp only [slices_IndexFunc_int_int_impl_Layer_isScaled_1.l0]
      rw [if_pos (by omega), if_pos (by omega), if_pos (by omega), rd_eq hlt, impl_Layer_isScaled_1_eq, hx]
      simp only [Option.bind_some]
      rw [if_neg (by simp), w64' (by omega) (by omega)]
      exact ih
    | false =>
      refine ⟨(i : Int), evSuc (evAll fun k => ?_), by simp⟩
      simp only [slices_IndexFunc_int_int_impl_Layer_isScaled_1.l0]
      rw [if_pos (by omega), if_pos (by omega), if_pos (by omega), rd_eq hlt, impl_Layer_isScaled_1_eq, hx]
      simp


theorem impl_Layer_isScaled_ev (kd ou sz st mu sh ze : Int) (W B : List Int) (n : Int) (hW : (W.length : Int) ≤ 9223372036854775807) (hB : (B.length : Int) ≤ 9223372036854775807) (hn : 0 ≤ n ∧ n ≤ 4096) : Evp fun k => impl_Layer_isScaled.f k kd ou sz st mu sh ze W B n = some (scaledB ou mu sh ze W B n) := by
  obtain ⟨r, h1, h2⟩ := indexBias_l0 B (by omega) B.length 0 (by omega)
  refine evMono (evAnd (impl_areItems_ev W (by omega)) h1) fun k ⟨e1, e2⟩ => ?_
  have e3 : slices_ContainsFunc_int_int_impl_Layer_isScaled_1.f k B = some (!biasB B) := bind_of (f := fun t => some (decide (t ≥ 0))) e2 (by rw [h2]; rfl)
  unfold scaledB
  refine bind_of (impl_in_eq _ _ _) (and_of (fun z => bind_of (impl_in_eq _ _ _) (and_of (fun _ => bind_of (impl_in_eq _ _ _) (and_of (fun _ => bind_of (impl_in_eq _ _ _) (and_of (fun _ => ?_) rfl)) rfl)) rfl)) rfl)
  have z' : 1 ≤ ou ∧ ou ≤ 8 := of_decide_eq_true z
  rw [small_mul z'.1 z'.2 hn.1 hn.2]
  exact and_ofP (fun _ => bind_of e1 (and_of (fun _ => and_ofP (fun _ => bind_of e3 (by simp)) rfl) rfl)) rfl


theorem impl_Layer_isWindow_eq (kd ou sz st mu sh ze : Int) (W B : List Int) (h w c : Int) : impl_Layer_isWindow.f kd ou sz st mu sh ze W B h w c = some (windB sz st h w) := by
  refine bind_of (impl_in_eq _ _ _) ?_
  have e : decide (1 ≤ sz ∧ sz ≤ mn (mn 3 h) w) = (rng sz 1 3 && (decide (sz ≤ h) && decide (sz ≤ w))) := by
    rw [Bool.eq_iff_iff]
    simp only [rng, Bool.and_eq_true, decide_eq_true_eq]
    unfold mn
    repeat' split
    all_goals omega
  rw [e]
  exact and_of (fun _ => bind_of (impl_in_eq _ _ _) rfl) rfl
theorem impl_Layer_isBare_eq (kd ou sz st mu sh ze : Int) (W B : List Int) : impl_Layer_isBare.f kd ou sz st mu sh ze W B = some (bareB ou mu sh W B) :=
  and_ofP (fun _ => and_ofP (fun _ => and_ofP (fun _ => and_ofP (fun _ => rfl) rfl) rfl) rfl) rfl
theorem impl_Layer_hasNone_eq (kd ou sz st mu sh ze : Int) (W B : List Int) : impl_Layer_hasNone.f kd ou sz st mu sh ze W B = some (noneB sz st) :=
  and_ofP (fun _ => rfl) rfl
theorem impl_Layer_windows_eq (kd ou sz st mu sh ze : Int) (W B : List Int) (h w c x : Int) (h1 : h ≤ 8) (w1 : w ≤ 8) (hw : windB sz st h w = true) : impl_Layer_windows.f kd ou sz st mu sh ze W B h w c x = some ((h - sz) / st + 1, (w - sz) / st + 1, x) := by
  obtain ⟨⟨z1, z2, z3⟩, z4⟩ := windB_iff.1 hw
  refine ite_no (by omega) ?_
  rw [win_dims (by omega) (by omega) (by omega) (by omega), win_dims (by omega) (by omega) (by omega) (by omega)]
theorem ite3 {α : Type} {A B C : Prop} [Decidable A] [Decidable B] [Decidable C] {x y : α} : (if A ∧ B ∧ C then x else y) = (if A then (if B then (if C then x else y) else y) else y) := by
  by_cases a : A <;> by_cases b : B <;> by_cases c : C <;> simp [a, b, c]
theorem ite2 {α : Type} {A B : Prop} [Decidable A] [Decidable B] {x y : α} : (if A ∧ B then x else y) = (if A then (if B then x else y) else y) := by
  by_cases a : A <;> by_cases b : B <;> simp [a, b]
theorem ite_some {β : Type} {P : Prop} [Decidable P] {x y : Option β} {a b : β} (hx : P → x = some a) (hy : ¬ P → y = some b) : (if P then x else y) = some (if P then a else b) := by
  by_cases h : P
  · rw [if_pos h, if_pos h, hx h]
  · rw [if_neg h, if_neg h, hy h]
theorem impl_OutShape_ev (h w c kd ou sz st mu sh ze : Int) (W B : List Int) (hW : (W.length : Int) ≤ 9223372036854775807) (hB : (B.length : Int) ≤ 9223372036854775807) : Evp fun k => impl_OutShape.f k h w c kd ou sz st mu sh ze W B = some (outShape h w c kd ou sz st mu sh ze W B) := by
  by_cases hs : shapeOk h w c = true
  case neg =>
    refine evAll fun k => ?_
    unfold outShape
    rw [if_neg hs]
    exact bind_of (impl_ShapeOk_eq h w c) (ite_no hs rfl)
  obtain ⟨dh, dw, dc⟩ := shape_dims hs
  have hsz := size_b hs
  have eS : impl_SizeOf.f h w c = some (h * w * c) := by
    rw [impl_SizeOf_eq]
    unfold sizeOf
    rw [if_pos hs]
  unfold outShape
  rw [if_pos hs]
  by_cases k0 : kd = 0
  · rw [if_pos k0, ite3]
    exact evMono (impl_Layer_isScaled_ev kd ou sz st mu sh ze W B (h * w * c) hW hB (by omega)) fun k e => bind_of (impl_ShapeOk_eq h w c) (ite_yes hs (bind_of eS (ite_yes k0 (ite_some (fun _ => bind_of (impl_Layer_hasNone_eq _ _ _ _ _ _ _ _ _) (ite_some (fun _ => bind_of e (ite_some (fun _ => rfl) fun _ => rfl)) fun _ => rfl)) fun _ => rfl))))
  rw [if_neg k0]
  by_cases k1 : kd = 1
  · rw [if_pos k1]
    by_cases c1 : windB sz st h w = true
    · obtain ⟨⟨z1, z2, z3⟩, z4⟩ := windB_iff.1 c1
      have ar := area_b z1.1 z1.2 dc.1 dc.2
      rw [ite3, if_pos c1]
      refine evMono (impl_Layer_isScaled_ev kd ou sz st mu sh ze W B (sz * sz * c) hW hB (by omega)) fun k e => bind_of (impl_ShapeOk_eq h w c) (ite_yes hs (bind_of eS (ite_no k0 (ite_yes k1 (bind_of (impl_Layer_isWindow_eq _ _ _ _ _ _ _ _ _ _ _ _) (ite_yes c1 (ite_some (fun c2 => ?_) fun _ => rfl)))))))
      rw [show wrap64 ((wrap64 (sz * sz)) * c) = sz * sz * c by rw [w64' (x := sz * sz) (by omega) (by omega), w64' (by omega) (by omega)]]
      exact bind_of e (ite_some (fun c3 => bind_of (impl_Layer_windows_eq kd ou sz st mu sh ze W B h w c ou (by omega) (by omega) c1) rfl) fun _ => rfl)
    · refine evAll fun k => bind_of (impl_ShapeOk_eq h w c) (ite_yes hs (bind_of eS (ite_no k0 (ite_yes k1 (bind_of (impl_Layer_isWindow_eq _ _ _ _ _ _ _ _ _ _ _ _) (ite_no c1 ?_))))))
      rw [if_neg (fun z => c1 z.1)]
      rfl
  rw [if_neg k1]
  have jt : Evp fun k => impl_OutShape.j0 k (h * w * c) kd true h w c kd ou sz st mu sh ze W B = some (if windB sz st h w = true ∧ bareB ou mu sh W B = true ∧ ze = 0 then ((h - sz) / st + 1, (w - sz) / st + 1, c, true) else sh0) := evSuc (evAll fun k => by
    rw [ite3]
    simp only [impl_OutShape.j0]
    exact ite_yes trivial (bind_of (impl_Layer_isWindow_eq _ _ _ _ _ _ _ _ _ _ _ _) (ite_some (fun c1 => bind_of (impl_Layer_isBare_eq _ _ _ _ _ _ _ _ _) (ite_some (fun c2 => ite_some (fun c3 => bind_of (impl_Layer_windows_eq kd ou sz st mu sh ze W B h w c c (by omega) (by omega) c1) rfl) fun _ => rfl) fun _ => rfl)) fun _ => rfl)))
  by_cases k2 : kd = 2
  · rw [if_pos (Or.inl k2)]
    refine evMono jt fun k e => bind_of (impl_ShapeOk_eq h w c) (ite_yes hs (bind_of eS (ite_no k0 (ite_no k1 (ite_yes k2 ?_)))))
    rw [show (kd == 2) = true by simp [k2]]
    exact e
  by_cases k3 : kd = 3
  · rw [if_pos (Or.inr k3)]
    refine evMono jt fun k e => bind_of (impl_ShapeOk_eq h w c) (ite_yes hs (bind_of eS (ite_no k0 (ite_no k1 (ite_no k2 ?_)))))
    rw [show (kd == 3) = true by simp [k3]]
    exact e
  rw [if_neg (show ¬ (kd = 2 ∨ kd = 3) by omega)]
  refine evMono (evSuc (p := fun k => impl_OutShape.j0 k (h * w * c) kd false h w c kd ou sz st mu sh ze W B = some (if kd = 4 then if noneB sz st = true ∧ bareB ou mu sh W B = true ∧ rng ze (-128) 127 = true then (h, w, c, true) else sh0
    else if kd = 5 then if noneB sz st = true ∧ bareB ou mu sh W B = true ∧ ze = 0 ∧ h * w * c ≤ 8 then (1, 1, h * w * c, true) else sh0
    else sh0)) (evAll fun k => ?_)) fun k e => bind_of (impl_ShapeOk_eq h w c) (ite_yes hs (bind_of eS (ite_no k0 (ite_no k1 (ite_no k2 ?_)))))
  · rw [ite3, ite3, ite2]
    simp only [impl_OutShape.j0]
    exact ite_no Bool.false_ne_true (ite_some (fun _ => bind_of (impl_Layer_hasNone_eq _ _ _ _ _ _ _ _ _) (ite_some (fun _ => bind_of (impl_Layer_isBare_eq _ _ _ _ _ _ _ _ _) (ite_some (fun _ => bind_of (impl_in_eq _ _ _) (ite_some (fun _ => rfl) fun _ => rfl)) fun _ => rfl)) fun _ => rfl)) fun _ =>
      ite_some (fun _ => bind_of (impl_Layer_hasNone_eq _ _ _ _ _ _ _ _ _) (ite_some (fun _ => bind_of (impl_Layer_isBare_eq _ _ _ _ _ _ _ _ _) (ite_some (fun _ => ite_some (fun _ => ite_some (fun _ => rfl) fun _ => rfl) fun _ => rfl) fun _ => rfl)) fun _ => rfl)) fun _ => rfl)
  · rw [show (kd == 3) = false by simp [k3]]
    exact e


theorem rdShape_eq {l : List S31} {i : Nat} (h : i < l.length) : rd_T31 l (i : Int) = l[i] := by
  unfold rd_T31
  simp [List.getD, h]
def outOf (s : S31) (x : S37) : Int × Int × Int × Bool := outShape s.f0 s.f1 s.f2 x.f0 x.f1 x.f2 x.f3 x.f4 x.f5 x.f6 x.f7 x.f8
def shapeOf (X : Int × Int × Int × Bool) : S31 := ⟨X.1, X.2.1, X.2.2.1⟩
def shapesOf (s : S31) : List S37 → Option (List S31)
  | [] => some []
  | x :: l => if (outOf s x).2.2.2 = true then (shapesOf (shapeOf (outOf s x)) l).map (shapeOf (outOf s x) :: ·) else none
def withAcc (acc : List S31) : Option (List S31) → List S31 × Bool
  | some o => (acc ++ o, true)
  | none => ([], false)
def modelShapes (s : S31) (l : List S37) : List S31 × Bool := if 1 ≤ (l.length : Int) ∧ (l.length : Int) ≤ 6 then withAcc [s] (shapesOf s l) else ([], false)
theorem withAcc_cons {acc : List S31} {t : S31} (o : Option (List S31)) : withAcc acc (o.map (t :: ·)) = withAcc (acc ++ [t]) o := by
  cases o <;> simp [withAcc]
theorem outOf_bad {s : S31} (x : S37) (h : ¬ shapeOk s.f0 s.f1 s.f2 = true) : (outOf s x).2.2.2 = false := by
  unfold outOf outShape
  rw [if_neg h]
  rfl
theorem spec_l04Shapes_l0 (h w c : Int) (l : List S37) (hl : smallI l) : ∀ (d i : Nat) (acc : List S31) (s : S31), i + d = l.length → acc.length = i → Evp fun k => spec_l04Shapes.l0 k (acc ++ [s]) (i : Int) h w c l = some (withAcc (acc ++ [s]) (shapesOf s (l.drop i)))
  | 0, i, acc, s, hi, ha => evSuc (evAll fun k => by
    simp only [spec_l04Shapes.l0]
    rw [if_neg (by omega), List.drop_eq_nil_of_le (by omega)]
    simp [shapesOf, withAcc])
  | d + 1, i, acc, s, hi, ha => by
    have hlt : i < l.length := by omega
    have hb := hl.1
    have hx := hl.2 l[i] (List.getElem_mem hlt)
    have hr : rd_T31 (acc ++ [s]) (i : Int) = s := by
      rw [rdShape_eq (by simp; omega)]
      subst ha
      simp
    rw [List.drop_eq_getElem_cons hlt]
    simp only [shapesOf]
    have e0 := spec_OutShape_ev s.f0 s.f1 s.f2 l[i].f0 l[i].f1 l[i].f2 l[i].f3 l[i].f4 l[i].f5 l[i].f6 l[i].f7 l[i].f8 (by have := hx.1; omega) (by have := hx.2; omega)
    by_cases hok : (outOf s l[i]).2.2.2 = true
    · rw [if_pos hok, withAcc_cons]
      refine evSuc (evMono (evAnd e0 (spec_l04Shapes_l0 h w c l hl d (i + 1) (acc ++ [s]) (shapeOf (outOf s l[i])) (by omega) (by simp; omega))) fun k ⟨e, ih⟩ => ?_)
      simp only [spec_l04Shapes.l0]
      rw [if_pos (by omega), if_pos (by omega), if_pos (by simp; omega), hr, rdImp_eq hlt]
      refine bind_of e (ite_yes hok (ite_yes (by simp; omega) ?_))
      rw [w64' (by omega) (by omega)]
      exact ih
    · rw [if_neg hok]
      refine evSuc (evMono e0 fun k e => ?_)
      simp only [spec_l04Shapes.l0]
      rw [if_pos (by omega), if_pos (by omega), if_pos (by simp; omega), hr, rdImp_eq hlt]
      exact bind_of e (ite_no hok rfl)
theorem spec_l04Shapes_ev (s : S31) (l : List S37) (hl : smallI l) : Evp fun k => spec_l04Shapes.f k s.f0 s.f1 s.f2 l = some (modelShapes s l) := by
  have jt : Evp fun k => spec_l04Shapes.j0 k [s] true s.f0 s.f1 s.f2 l = some ([], false) := evSuc (evAll fun k => by
    simp only [spec_l04Shapes.j0]
    exact ite_yes trivial rfl)
  have jf : Evp fun k => spec_l04Shapes.j0 k [s] false s.f0 s.f1 s.f2 l = some (withAcc [s] (shapesOf s l)) := evSuc (evMono (spec_l04Shapes_l0 s.f0 s.f1 s.f2 l hl l.length 0 [] s (by omega) rfl) fun k e => by
    simp only [spec_l04Shapes.j0]
    exact ite_no Bool.false_ne_true e)
  unfold modelShapes
  by_cases hn : 1 ≤ (l.length : Int) ∧ (l.length : Int) ≤ 6
  · rw [if_pos hn]
    by_cases hs : shapeOk s.f0 s.f1 s.f2 = true
    · refine evMono jf fun k e => bind_of (a := [s]) rfl (bind_of (spec_ShapeOk_eq _ _ _) (ite_yes hs (bind_of (spec_l01In_eq _ _ _) ?_)))
      rw [decide_eq_true hn]
      exact e
    · have e0 : shapesOf s l = none := by
        cases l with
        | nil => simp at hn
        | cons x l =>
          simp only [shapesOf]
          rw [if_neg (by rw [outOf_bad x hs]; exact Bool.false_ne_true)]
      rw [e0]
      exact evMono jt fun k e => bind_of (a := [s]) rfl (bind_of (spec_ShapeOk_eq _ _ _) (ite_no hs e))
  · rw [if_neg hn]
    by_cases hs : shapeOk s.f0 s.f1 s.f2 = true
    · refine evMono jt fun k e => bind_of (a := [s]) rfl (bind_of (spec_ShapeOk_eq _ _ _) (ite_yes hs (bind_of (spec_l01In_eq _ _ _) ?_)))
      rw [decide_eq_false hn]
      exact e
    · exact evMono jt fun k e => bind_of (a := [s]) rfl (bind_of (spec_ShapeOk_eq _ _ _) (ite_no hs e))


theorem impl_Model_shapes_l0 (l : List S37) (hl : smallI l) : ∀ (d i : Nat) (acc : List S31) (s : S31), i + d = l.length → acc.length = i + 1 → Evp fun k => impl_Model_shapes.l0 k acc l (l.length : Int) (i : Int) s.f0 s.f1 s.f2 = some (withAcc acc (shapesOf s (l.drop i)))
  | 0, i, acc, s, hi, ha => evSuc (evAll fun k => by
    simp only [impl_Model_shapes.l0]
    rw [if_neg (by omega), List.drop_eq_nil_of_le (by omega)]
    simp [shapesOf, withAcc])
  | d + 1, i, acc, s, hi, ha => by
    have hlt : i < l.length := by omega
    have hb := hl.1
    have hx := hl.2 l[i] (List.getElem_mem hlt)
    rw [List.drop_eq_getElem_cons hlt]
    simp only [shapesOf]
    have e0 := impl_OutShape_ev s.f0 s.f1 s.f2 l[i].f0 l[i].f1 l[i].f2 l[i].f3 l[i].f4 l[i].f5 l[i].f6 l[i].f7 l[i].f8 (by have := hx.1; omega) (by have := hx.2; omega)
    by_cases hok : (outOf s l[i]).2.2.2 = true
    · rw [if_pos hok, withAcc_cons]
      refine evSuc (evMono (evAnd e0 (impl_Model_shapes_l0 l hl d (i + 1) (acc ++ [shapeOf (outOf s l[i])]) (shapeOf (outOf s l[i])) (by omega) (by simp; omega))) fun k ⟨e, ih⟩ => ?_)
      simp only [impl_Model_shapes.l0]
      rw [if_pos (by omega), if_pos (by omega), if_pos (by omega), rdImp_eq hlt]
      refine bind_of e (ite_yes hok (ite_yes (by omega) ?_))
      rw [w64' (by omega) (by omega)]
      exact ih
    · rw [if_neg hok]
      refine evSuc (evMono e0 fun k e => ?_)
      simp only [impl_Model_shapes.l0]
      rw [if_pos (by omega), if_pos (by omega), if_pos (by omega), rdImp_eq hlt]
      exact bind_of e (ite_no hok rfl)
theorem impl_Model_shapes_ev (s : S31) (l : List S37) (hl : smallI l) : Evp fun k => impl_Model_shapes.f k s.f0 s.f1 s.f2 l = some (withAcc [s] (shapesOf s l)) :=
  evMono (impl_Model_shapes_l0 l hl l.length 0 [s] s (by omega) rfl) fun k e => e


theorem impl_ModelOk_ev (s : S31) (l : List S37) (hl : smallI l) : Evp fun k => impl_ModelOk.f k s.f0 s.f1 s.f2 l = some (modelShapes s l).2 := by
  unfold modelShapes
  by_cases hn : 1 ≤ (l.length : Int) ∧ (l.length : Int) ≤ 6
  · rw [if_pos hn]
    exact evMono (impl_Model_shapes_ev s l hl) fun k e => bind_of (impl_in_eq _ _ _) (ite_yes (decide_eq_true hn) (bind_of e rfl))
  · rw [if_neg hn]
    exact evAll fun k => bind_of (impl_in_eq _ _ _) (ite_no (fun z => hn (of_decide_eq_true z)) rfl)


theorem spec_ModelOk_ev (s : S31) (l : List S37) (hl : smallI l) : Evp fun k => spec_ModelOk.f k s.f0 s.f1 s.f2 l = some (modelShapes s l).2 :=
  evMono (spec_l04Shapes_ev s l hl) fun k e => bind_of e rfl


theorem takeGo_b (l : List Int) (hb : isBytes l) (at_ : Int) : ∀ (d i : Nat) (u : Int), 0 ≤ u → takeGo l at_ d i u = (0, -1) ∨ (0 ≤ at_ ∧ at_ < (takeGo l at_ d i u).2 ∧ (takeGo l at_ d i u).2 ≤ (l.length : Int) ∧ -1099511627776 ≤ (takeGo l at_ d i u).1 ∧ (takeGo l at_ d i u).1 ≤ 1099511627775)
  | 0, i, u, hu => .inl rfl
  | d + 1, i, u, hu => by
    have hg := getD_b hb (at_ + i).toNat
    have hp := (two_pow_le (n := 7 * i) (m := 7 * i) (Nat.le_refl _)).1
    have hm : 0 ≤ l.getD (at_ + i).toNat 0 % 128 * 2 ^ (7 * i) := Int.mul_nonneg (Int.emod_nonneg _ (by omega)) (by omega)
    unfold takeGo
    by_cases h1 : at_ < 0 ∨ at_ ≥ (l.length : Int) - i
    · rw [if_pos h1]; exact .inl rfl
    rw [if_neg h1]
    by_cases h2 : l.getD (at_ + i).toNat 0 < 128
    · rw [if_pos h2]
      by_cases h3 : (l.getD (at_ + i).toNat 0 = 0 ∧ 0 < i) ∨ u + l.getD (at_ + i).toNat 0 % 128 * 2 ^ (7 * i) > 2199023255551
      · rw [if_pos h3]; exact .inl rfl
      · rw [if_neg h3]
        have hw := wideOf_b (u := u + l.getD (at_ + i).toNat 0 % 128 * 2 ^ (7 * i)) (by omega) (by omega)
        exact .inr ⟨by omega, by show at_ < at_ + i + 1; omega, by show at_ + i + 1 ≤ (l.length : Int); omega, hw.1, hw.2⟩
    · rw [if_neg h2]
      exact takeGo_b l hb at_ d (i + 1) _ (by omega)
theorem takeWide_b (l : List Int) (hb : isBytes l) (at_ : Int) : takeWide l at_ = (0, -1) ∨ (0 ≤ at_ ∧ at_ < (takeWide l at_).2 ∧ (takeWide l at_).2 ≤ (l.length : Int) ∧ -1099511627776 ≤ (takeWide l at_).1 ∧ (takeWide l at_).1 ≤ 1099511627775) := takeGo_b l hb at_ 6 0 0 (by omega)
/-- What a reader of numbers reads next: the number, its place behind it, whether one was not there. -/
def nextW (l : List Int) (at_ : Int) (bad : Bool) : Int × Int × Bool := if bad = true then (0, at_, true) else if (takeWide l at_).2 < 0 then (0, at_, true) else ((takeWide l at_).1, (takeWide l at_).2, false)
theorem nextW_b (l : List Int) (hb : isBytes l) (at_ : Int) (bad : Bool) (h0 : 0 ≤ at_) (h1 : at_ ≤ (l.length : Int)) : at_ ≤ (nextW l at_ bad).2.1 ∧ (nextW l at_ bad).2.1 ≤ (l.length : Int) ∧ -1099511627776 ≤ (nextW l at_ bad).1 ∧ (nextW l at_ bad).1 ≤ 1099511627775 ∧ (bad = true → (nextW l at_ bad).2.2 = true) := by
  unfold nextW
  by_cases hbd : bad = true
  · rw [if_pos hbd]
    exact ⟨Int.le_refl _, h1, by show -1099511627776 ≤ (0 : Int); omega, by show (0 : Int) ≤ 1099511627775; omega, fun _ => rfl⟩
  rw [if_neg hbd]
  by_cases hn : (takeWide l at_).2 < 0
  · rw [if_pos hn]
    exact ⟨Int.le_refl _, h1, by show -1099511627776 ≤ (0 : Int); omega, by show (0 : Int) ≤ 1099511627775; omega, fun _ => rfl⟩
  rw [if_neg hn]
  rcases takeWide_b l hb at_ with h | ⟨_, h3, h4, h5, h6⟩
  · rw [h] at hn; exact absurd (show (-1 : Int) < 0 by omega) hn
  · exact ⟨Int.le_of_lt h3, h4, h5, h6, fun h => absurd h hbd⟩


theorem spec_l05Next_ev (l : List Int) (hb : isBytes l) (hl : l.length ≤ 1073741824) (at_ : Int) (bad : Bool) (hat : i64 at_) : Evp fun k => spec_l05Next.f k l at_ bad = some (nextW l at_ bad) := by
  cases bad with
  | true => exact evAll fun k => rfl
  | false =>
    refine evMono (spec_TakeWide_ev l hb hl at_ hat) fun k e => ite_no Bool.false_ne_true (bind_of e ?_)
    unfold nextW
    rw [if_neg Bool.false_ne_true]
    by_cases hn : (takeWide l at_).2 < 0
    · rw [if_pos hn, if_pos hn]
    · rw [if_neg hn, if_neg hn]


theorem impl_number_ev (l : List Int) (hb : isBytes l) (hl : l.length ≤ 1073741824) (at_ : Int) (bad : Bool) (hat : i64 at_) : Evp fun k => impl_wideReader_number.f k l at_ bad = some (nextW l at_ bad) := by
  cases bad with
  | true => exact evAll fun k => rfl
  | false =>
    refine evMono (impl_TakeWide_ev l hb hl at_ hat) fun k e => ite_no Bool.false_ne_true (bind_of e ?_)
    unfold nextW
    rw [if_neg Bool.false_ne_true]
    by_cases hn : (takeWide l at_).2 < 0
    · rw [if_pos hn, if_pos hn]
    · rw [if_neg hn, if_neg hn]


def headOk (l : List Int) : Bool := decide (3 ≤ l.length ∧ l.getD 0 0 = 80 ∧ l.getD 1 0 = 77 ∧ l.getD 2 0 = 49)
theorem spec_l05Head_eq (l : List Int) : spec_l05Head.f l = some (headOk l) := by
  unfold spec_l05Head.f headOk
  match l with
  | [] => rfl
  | [_] => rfl
  | [_, _] => rfl
  | a :: b :: c :: t =>
    have hl : (((a :: b :: c :: t).length : Nat) : Int) = t.length + 3 := by simp; omega
    rw [hl]
    refine ite_yes (by omega) (ite_yes (by omega) ?_)
    by_cases ha : a = 80
    · refine ite_yes ha (ite_yes (by omega) ?_)
      by_cases hb : b = 77
      · refine ite_yes hb (ite_yes (by omega) ?_)
        show some (c == 49) = _
        subst ha hb
        by_cases hc : c = 49
        · subst hc; simp
        · simp [hc]
      · refine ite_no hb ?_
        simp [hb]
    · refine ite_no ha ?_
      simp [ha]


theorem ba_toList (bs : ByteArray) : bs.toList = bs.data.toList := ByteArray.toList_eq bs
theorem u8_inj {x : Int} {n : Nat} (h : 0 ≤ x ∧ x ≤ 255) (hn : n ≤ 255) (e : UInt8.ofNat x.toNat = UInt8.ofNat n) : x = n := by
  have e2 := congrArg UInt8.toNat e
  simp only [UInt8.toNat_ofNat'] at e2
  omega
theorem bytes_HasPrefix_eq (l : List Int) (hb : isBytes l) : bytes_HasPrefix.f l [80, 77, 49] = some (headOk l) := by
  unfold bytes_HasPrefix.f headOk
  match l, hb with
  | [], _ => rfl
  | [_], _ => rfl
  | [_, _], _ => rfl
  | a :: b :: c :: t, hb =>
    have hl : (((a :: b :: c :: t).length : Nat) : Int) = t.length + 3 := by simp; omega
    rw [hl]
    refine ite_yes (show (t.length : Int) + 3 ≥ 3 by omega) (ite_yes (show (0 : Int) ≤ 3 by omega) (ite_yes (show (3 : Int) ≤ t.length + 3 by omega) ?_))
    have ha := hb a (by simp)
    have hb' := hb b (by simp)
    have hc := hb c (by simp)
    have hlen : (3 ≤ (a :: b :: c :: t).length ∧ (a :: b :: c :: t).getD 0 0 = 80 ∧ (a :: b :: c :: t).getD 1 0 = 77 ∧ (a :: b :: c :: t).getD 2 0 = 49) ↔ (a = 80 ∧ b = 77 ∧ c = 49) := by simp
    show Option.bind (some ((strOfNums [a, b, c]).toList == (strOfNums [80, 77, 49]).toList)) (fun t => some t) = _
    rw [ba_toList, ba_toList]
    show some ([UInt8.ofNat a.toNat, UInt8.ofNat b.toNat, UInt8.ofNat c.toNat] == [UInt8.ofNat 80, UInt8.ofNat 77, UInt8.ofNat 49]) = _
    congr 1
    rw [Bool.eq_iff_iff, decide_eq_true_iff, hlen, beq_iff_eq]
    constructor
    · intro e
      simp only [List.cons.injEq, and_true] at e
      exact ⟨u8_inj (n := 80) ha (by decide) e.1, u8_inj (n := 77) hb' (by decide) e.2.1, u8_inj (n := 49) hc (by decide) e.2.2⟩
    · rintro ⟨rfl, rfl, rfl⟩
      rfl


def cntW (l : List Int) (at_ : Int) (bad : Bool) : Int × Int × Bool := if 0 ≤ (nextW l at_ bad).1 ∧ (nextW l at_ bad).1 ≤ 2000 then nextW l at_ bad else (0, (nextW l at_ bad).2.1, true)
theorem spec_l05Count_ev (l : List Int) (hb : isBytes l) (hl : l.length ≤ 1073741824) (at_ : Int) (bad : Bool) (hat : i64 at_) : Evp fun k => spec_l05Count.f k l at_ bad = some (cntW l at_ bad) :=
  evMono (spec_l05Next_ev l hb hl at_ bad hat) fun k e => bind_of e (bind_of (spec_l01In_eq _ _ _) (by
    unfold cntW
    by_cases h : 0 ≤ (nextW l at_ bad).1 ∧ (nextW l at_ bad).1 ≤ 2000
    · rw [if_pos h]; exact ite_yes (decide_eq_true h) rfl
    · rw [if_neg h]; exact ite_no (fun z => h (of_decide_eq_true z)) rfl))
theorem impl_count_ev (l : List Int) (hb : isBytes l) (hl : l.length ≤ 1073741824) (at_ : Int) (bad : Bool) (hat : i64 at_) : Evp fun k => impl_wideReader_count.f k l at_ bad 2000 = some (cntW l at_ bad) :=
  evMono (impl_number_ev l hb hl at_ bad hat) fun k e => bind_of e (bind_of (impl_in_eq _ _ _) (by
    unfold cntW
    by_cases h : 0 ≤ (nextW l at_ bad).1 ∧ (nextW l at_ bad).1 ≤ 2000
    · rw [if_pos h]; exact ite_yes (decide_eq_true h) rfl
    · rw [if_neg h]; exact ite_no (fun z => h (of_decide_eq_true z)) rfl))
/-- A place in the bytes. -/
def AtB (l : List Int) (a : Int) : Prop := 0 ≤ a ∧ a ≤ (l.length : Int)
theorem AtB.i64 {l : List Int} {a : Int} (h : AtB l a) (hl : l.length ≤ 1073741824) : i64 a := by
  obtain ⟨h0, h1⟩ := h
  unfold Pure.i64
  omega
theorem AtB.next {l : List Int} {a : Int} (h : AtB l a) (hb : isBytes l) (bad : Bool) : AtB l (nextW l a bad).2.1 := by
  obtain ⟨h1, h2, _⟩ := nextW_b l hb a bad h.1 h.2
  exact ⟨Int.le_trans h.1 h1, h2⟩
theorem AtB.cnt {l : List Int} {a : Int} (h : AtB l a) (hb : isBytes l) (bad : Bool) : AtB l (cntW l a bad).2.1 := by
  unfold cntW
  split
  · exact h.next hb bad
  · exact h.next hb bad
theorem cntW_b (l : List Int) (a : Int) (bad : Bool) : 0 ≤ (cntW l a bad).1 ∧ (cntW l a bad).1 ≤ 2000 := by
  unfold cntW
  split
  · rename_i h; exact h
  · exact ⟨Int.le_refl _, by show (0 : Int) ≤ 2000; omega⟩


def listGo (l : List Int) : Nat → List Int → Int → Bool → List Int × Int × Bool
  | 0, acc, at_, bad => (acc, at_, bad)
  | n + 1, acc, at_, bad => if bad = true then (acc, at_, bad) else listGo l n (acc ++ [(nextW l at_ bad).1]) (nextW l at_ bad).2.1 (nextW l at_ bad).2.2
theorem listGo_b (l : List Int) (hb : isBytes l) : ∀ (n : Nat) (acc : List Int) (a : Int) (bad : Bool), AtB l a → (listGo l n acc a bad).1.length ≤ acc.length + n ∧ AtB l (listGo l n acc a bad).2.1
  | 0, acc, a, bad, h => ⟨Nat.le_refl _, h⟩
  | n + 1, acc, a, bad, h => by
    unfold listGo
    split
    · exact ⟨by show acc.length ≤ _; omega, h⟩
    · have := listGo_b l hb n (acc ++ [(nextW l a bad).1]) _ (nextW l a bad).2.2 (h.next hb bad)
      rw [List.length_append, List.length_singleton] at this
      exact ⟨by omega, this.2⟩
theorem spec_l05List_l0 (l : List Int) (hb : isBytes l) (hl : l.length ≤ 1073741824) (m : Nat) (hm : m ≤ 2000) : ∀ (d i : Nat) (acc : List Int) (a : Int) (bad : Bool), AtB l a → i + d = m → acc.length ≤ i → Evp fun k => spec_l05List.l0 k acc (m : Int) (i : Int) l a bad = some (listGo l d acc a bad)
  | 0, i, acc, a, bad, h, hi, ha => evSuc (evAll fun k => by
    simp only [spec_l05List.l0]
    exact ite_no (by omega) rfl)
  | d + 1, i, acc, a, bad, h, hi, ha => by
    unfold listGo
    by_cases hbd : bad = true
    · rw [if_pos hbd]
      exact evSuc (evAll fun k => by
        simp only [spec_l05List.l0]
        exact ite_yes (by omega) (ite_yes hbd rfl))
    · rw [if_neg hbd]
      have ih := spec_l05List_l0 l hb hl m hm d (i + 1) (acc ++ [(nextW l a bad).1]) (nextW l a bad).2.1 (nextW l a bad).2.2 (h.next hb bad) (by omega) (by simp; omega)
      refine evSuc (evMono (evAnd (spec_l05Next_ev l hb hl a bad (h.i64 hl)) ih) fun k ⟨e, e2⟩ => ?_)
      simp only [spec_l05List.l0]
      refine ite_yes (by omega) (ite_no hbd (bind_of e (ite_yes (by omega) ?_)))
      rw [w64' (x := (i : Int) + 1) (by omega) (by omega)]
      exact e2
theorem impl_list_l0 (l : List Int) (hb : isBytes l) (hl : l.length ≤ 1073741824) : ∀ (d : Nat) (acc : List Int) (a : Int) (bad : Bool), AtB l a → d ≤ 2000 → acc.length + d ≤ 2000 → Evp fun k => impl_wideReader_list.l0 k acc (d : Int) l a bad = some (listGo l d acc a bad)
  | 0, acc, a, bad, h, hd, ha => evSuc (evAll fun k => by
    simp only [impl_wideReader_list.l0]
    exact ite_no (by omega) rfl)
  | d + 1, acc, a, bad, h, hd, ha => by
    unfold listGo
    by_cases hbd : bad = true
    · rw [if_pos hbd]
      exact evSuc (evAll fun k => by
        simp only [impl_wideReader_list.l0]
        exact ite_yes (by omega) (ite_yes hbd rfl))
    · rw [if_neg hbd]
      have ih := impl_list_l0 l hb hl d (acc ++ [(nextW l a bad).1]) (nextW l a bad).2.1 (nextW l a bad).2.2 (h.next hb bad) (by omega) (by simp; omega)
      refine evSuc (evMono (evAnd (impl_number_ev l hb hl a bad (h.i64 hl)) ih) fun k ⟨e, e2⟩ => ?_)
      simp only [impl_wideReader_list.l0]
      refine ite_yes (by omega) (ite_no hbd (bind_of e (ite_yes (by omega) ?_)))
      rw [w64' (x := ((d + 1 : Nat) : Int) - 1) (by omega) (by omega), show ((d + 1 : Nat) : Int) - 1 = (d : Int) by omega]
      exact e2
def listW (l : List Int) (a : Int) (bad : Bool) : List Int × Int × Bool := listGo l (cntW l a bad).1.toNat [] (cntW l a bad).2.1 (cntW l a bad).2.2
theorem listW_b (l : List Int) (hb : isBytes l) {a : Int} (bad : Bool) (h : AtB l a) : (listW l a bad).1.length ≤ 2000 ∧ AtB l (listW l a bad).2.1 := by
  have hc := cntW_b l a bad
  have := listGo_b l hb (cntW l a bad).1.toNat [] _ (cntW l a bad).2.2 (h.cnt hb bad)
  unfold listW
  exact ⟨by have := this.1; simp only [List.length_nil] at this; omega, this.2⟩
theorem spec_l05List_ev (l : List Int) (hb : isBytes l) (hl : l.length ≤ 1073741824) {a : Int} (bad : Bool) (h : AtB l a) : Evp fun k => spec_l05List.f k l a bad = some (listW l a bad) := by
  have hc := cntW_b l a bad
  have g := spec_l05List_l0 l hb hl (cntW l a bad).1.toNat (by omega) (cntW l a bad).1.toNat 0 [] _ (cntW l a bad).2.2 (h.cnt hb bad) (by omega) (by simp)
  rw [show (((cntW l a bad).1.toNat : Nat) : Int) = (cntW l a bad).1 by omega] at g
  exact evMono (evAnd (spec_l05Count_ev l hb hl a bad (h.i64 hl)) g) fun k ⟨e, e2⟩ => bind_of e e2
theorem impl_list_ev (l : List Int) (hb : isBytes l) (hl : l.length ≤ 1073741824) {a : Int} (bad : Bool) (h : AtB l a) : Evp fun k => impl_wideReader_list.f k l a bad 2000 = some (listW l a bad) := by
  have hc := cntW_b l a bad
  have g := impl_list_l0 l hb hl (cntW l a bad).1.toNat [] _ (cntW l a bad).2.2 (h.cnt hb bad) (by omega) (by simp; omega)
  rw [show (((cntW l a bad).1.toNat : Nat) : Int) = (cntW l a bad).1 by omega] at g
  exact evMono (evAnd (impl_count_ev l hb hl a bad (h.i64 hl)) g) fun k ⟨e, e2⟩ => bind_of e e2


theorem read_number (l : List Int) (hb : isBytes l) (hl : l.length ≤ 1073741824) {a : Int} (bad : Bool) (h : AtB l a) : ∃ (x a' : Int) (b' : Bool), AtB l a' ∧ (Evp fun k => spec_l05Next.f k l a bad = some (x, a', b')) ∧ Evp fun k => impl_wideReader_number.f k l a bad = some (x, a', b') :=
  ⟨_, _, _, h.next hb bad, spec_l05Next_ev l hb hl a bad (h.i64 hl), impl_number_ev l hb hl a bad (h.i64 hl)⟩
theorem read_list (l : List Int) (hb : isBytes l) (hl : l.length ≤ 1073741824) {a : Int} (bad : Bool) (h : AtB l a) : ∃ (x : List Int) (a' : Int) (b' : Bool), AtB l a' ∧ x.length ≤ 2000 ∧ (Evp fun k => spec_l05List.f k l a bad = some (x, a', b')) ∧ Evp fun k => impl_wideReader_list.f k l a bad 2000 = some (x, a', b') :=
  ⟨_, _, _, (listW_b l hb bad h).2, (listW_b l hb bad h).1, spec_l05List_ev l hb hl bad h, impl_list_ev l hb hl bad h⟩
def accOk (n : Nat) (acc : List S37) : Prop := acc.length ≤ n ∧ ∀ x ∈ acc, x.f7.length ≤ 2000 ∧ x.f8.length ≤ 2000
theorem accOk.snoc {n : Nat} {acc : List S37} (h : accOk n acc) {x : S37} (hx : x.f7.length ≤ 2000 ∧ x.f8.length ≤ 2000) : accOk (n + 1) (acc ++ [x]) := by
  refine ⟨by rw [List.length_append, List.length_singleton]; have := h.1; omega, fun y hy => ?_⟩
  rcases List.mem_append.1 hy with m | m
  · exact h.2 y m
  · simp only [List.mem_singleton] at m
    rw [m]; exact hx
theorem accOk.small {n : Nat} {acc : List S37} (h : accOk n acc) (hn : n ≤ 2000) : smallI acc :=
  ⟨by have := h.1; omega, fun x hx => by have := h.2 x hx; exact ⟨by omega, by omega⟩⟩
theorem decode_tail (l : List Int) (hb : isBytes l) (hl : l.length ≤ 6000) {n i : Int} {a : Int} (bad : Bool) (h : AtB l a) (p q r : Int) {acc : List S37} (hacc : accOk 2000 acc) : ∃ R : Int × Int × Int × (List S37) × Int, accOk 2000 R.2.2.2.1 ∧ (Evp fun k => spec_DecodeModel.j1 k l n i false 0 0 0 l a bad p q r acc = some R) ∧ Evp fun k => impl_DecodeModel.j1 k l l a bad p q r acc = some R := by
  obtain ⟨x, a', b', hA, e1, e2⟩ := read_number l hb (by omega) bad h
  have h0 : accOk 2000 ([] : List S37) := ⟨by simp, by simp⟩
  by_cases hbd : b' = true
  · exact ⟨(0, 0, 0, [], 2), h0, evSuc (evMono e1 fun k e => by
      simp only [spec_DecodeModel.j1]
      exact ite_no Bool.false_ne_true (bind_of e (ite_yes hbd rfl))), evSuc (evMono e2 fun k e => by
      simp only [impl_DecodeModel.j1]
      exact bind_of e (ite_yes hbd rfl))⟩
  have hbt : isBytes (l.take a.toNat) := fun y hy => hb y (List.mem_of_mem_take hy)
  have hlt : (l.take a.toNat).length ≤ 9223372036854775807 := by rw [List.length_take]; omega
  have s1 := spec_SumOf_ev (l.take a.toNat) hbt hlt
  have s2 := impl_SumOf_ev (l.take a.toNat) hbt hlt
  have ok1 := spec_ModelOk_ev ⟨p, q, r⟩ acc (hacc.small (Nat.le_refl _))
  have ok2 := impl_ModelOk_ev ⟨p, q, r⟩ acc (hacc.small (Nat.le_refl _))
  have j2 : ∀ c : Bool, ∃ R : Int × Int × Int × (List S37) × Int, accOk 2000 R.2.2.2.1 ∧ (Evp fun k => spec_DecodeModel.j2 k c 0 0 0 p q r acc = some R) ∧ Evp fun k => impl_DecodeModel.j2 k c p q r acc = some R := by
    intro c
    by_cases hc : c = true
    · exact ⟨(0, 0, 0, [], 3), h0, evSuc (evAll fun k => by
        simp only [spec_DecodeModel.j2]
        exact ite_yes hc rfl), evSuc (evAll fun k => by
        simp only [impl_DecodeModel.j2]
        exact ite_yes hc rfl)⟩
    · by_cases hm : (modelShapes ⟨p, q, r⟩ acc).2 = true
      · exact ⟨(p, q, r, acc, 0), hacc, evSuc (evMono ok1 fun k e => by
          simp only [spec_DecodeModel.j2]
          exact ite_no hc (bind_of e (ite_yes hm rfl))), evSuc (evMono ok2 fun k e => by
          simp only [impl_DecodeModel.j2]
          exact ite_no hc (bind_of e (ite_yes hm rfl)))⟩
      · exact ⟨(0, 0, 0, [], 4), h0, evSuc (evMono ok1 fun k e => by
          simp only [spec_DecodeModel.j2]
          exact ite_no hc (bind_of e (ite_no hm rfl))), evSuc (evMono ok2 fun k e => by
          simp only [impl_DecodeModel.j2]
          exact ite_no hc (bind_of e (ite_no hm rfl)))⟩
  by_cases hs : x = sumOf (l.take a.toNat)
  · obtain ⟨R, g0, g1, g2⟩ := j2 (a' != (l.length : Int))
    exact ⟨R, g0, evSuc (evMono (evAnd e1 (evAnd s1 g1)) fun k ⟨e, s, g⟩ => by
      simp only [spec_DecodeModel.j1]
      exact ite_no Bool.false_ne_true (bind_of e (ite_no hbd (ite_yes h.1 (ite_yes h.2 (bind_of s (ite_yes hs g))))))), evSuc (evMono (evAnd e2 (evAnd s2 g2)) fun k ⟨e, s, g⟩ => by
      simp only [impl_DecodeModel.j1]
      exact bind_of e (ite_no hbd (ite_yes h.1 (ite_yes h.2 (bind_of s (ite_yes hs g))))))⟩
  · obtain ⟨R, g0, g1, g2⟩ := j2 true
    exact ⟨R, g0, evSuc (evMono (evAnd e1 (evAnd s1 g1)) fun k ⟨e, s, g⟩ => by
      simp only [spec_DecodeModel.j1]
      exact ite_no Bool.false_ne_true (bind_of e (ite_no hbd (ite_yes h.1 (ite_yes h.2 (bind_of s (ite_no hs g))))))), evSuc (evMono (evAnd e2 (evAnd s2 g2)) fun k ⟨e, s, g⟩ => by
      simp only [impl_DecodeModel.j1]
      exact bind_of e (ite_no hbd (ite_yes h.1 (ite_yes h.2 (bind_of s (ite_no hs g))))))⟩
theorem decode_layers (l : List Int) (hb : isBytes l) (hl : l.length ≤ 6000) (m : Nat) (hm : m ≤ 2000) (p q r : Int) : ∀ (d i : Nat) (a : Int) (bad : Bool) (acc : List S37), AtB l a → i + d = m → accOk i acc → ∃ R : Int × Int × Int × (List S37) × Int, accOk 2000 R.2.2.2.1 ∧ (Evp fun k => spec_DecodeModel.l0 k l (m : Int) (i : Int) 0 0 0 l a bad p q r acc = some R) ∧ Evp fun k => impl_DecodeModel.l0 k l (d : Int) l a bad p q r acc = some R
  | 0, i, a, bad, acc, h, hi, ha => by
    obtain ⟨R, g0, g1, g2⟩ := decode_tail l hb hl (n := (m : Int)) (i := (i : Int)) bad h p q r (acc := acc) ⟨by have := ha.1; omega, ha.2⟩
    exact ⟨R, g0, evSuc (evMono g1 fun k e => by
      simp only [spec_DecodeModel.l0]
      exact ite_no (by omega) e), evSuc (evMono g2 fun k e => by
      simp only [impl_DecodeModel.l0]
      exact ite_no (by omega) e)⟩
  | d + 1, i, a, bad, acc, h, hi, ha => by
    by_cases hbd : bad = true
    · obtain ⟨R, g0, g1, g2⟩ := decode_tail l hb hl (n := (m : Int)) (i := (i : Int)) bad h p q r (acc := acc) ⟨by have := ha.1; omega, ha.2⟩
      exact ⟨R, g0, evSuc (evMono g1 fun k e => by
        simp only [spec_DecodeModel.l0]
        refine ite_yes (by omega) ?_
        rw [hbd] at e ⊢
        exact e), evSuc (evMono g2 fun k e => by
        simp only [impl_DecodeModel.l0]
        exact ite_yes (by omega) (ite_yes hbd e))⟩
    · have hl2 : l.length ≤ 1073741824 := by omega
      obtain ⟨x1, a1, b1, A1, s1, t1⟩ := read_number l hb hl2 bad h
      obtain ⟨x2, a2, b2, A2, s2, t2⟩ := read_number l hb hl2 b1 A1
      obtain ⟨x3, a3, b3, A3, s3, t3⟩ := read_number l hb hl2 b2 A2
      obtain ⟨x4, a4, b4, A4, s4, t4⟩ := read_number l hb hl2 b3 A3
      obtain ⟨x5, a5, b5, A5, s5, t5⟩ := read_number l hb hl2 b4 A4
      obtain ⟨x6, a6, b6, A6, s6, t6⟩ := read_number l hb hl2 b5 A5
      obtain ⟨x7, a7, b7, A7, s7, t7⟩ := read_number l hb hl2 b6 A6
      obtain ⟨x8, a8, b8, A8, l8, s8, t8⟩ := read_list l hb hl2 b7 A7
      obtain ⟨x9, a9, b9, A9, l9, s9, t9⟩ := read_list l hb hl2 b8 A8
      obtain ⟨R, g0, g1, g2⟩ := decode_layers l hb hl m hm p q r d (i + 1) a9 b9 (acc ++ [⟨x1, x2, x3, x4, x5, x6, x7, x8, x9⟩]) A9 (by omega) (ha.snoc ⟨l8, l9⟩)
      have hal := ha.1
      have j1 : Evp fun k => spec_DecodeModel.j1 k l (m : Int) (i : Int) true 0 0 0 l a bad p q r acc = some R := evSuc (evMono (evAnd s1 (evAnd s2 (evAnd s3 (evAnd s4 (evAnd s5 (evAnd s6 (evAnd s7 (evAnd s8 (evAnd s9 g1))))))))) fun k ⟨s1, s2, s3, s4, s5, s6, s7, s8, s9, g⟩ => by
        simp only [spec_DecodeModel.j1]
        refine ite_yes trivial (bind_of s1 (bind_of s2 (bind_of s3 (bind_of s4 (bind_of s5 (bind_of s6 (bind_of s7 (bind_of s8 (bind_of s9 (ite_yes (by omega) ?_))))))))))
        rw [w64' (x := (i : Int) + 1) (by omega) (by omega)]
        exact g)
      have ly : Evp fun k => impl_wideReader_layer.f k l a bad = some (x1, x2, x3, x4, x5, x6, x7, x8, x9, a9, b9) := evMono (evAnd t1 (evAnd t2 (evAnd t3 (evAnd t4 (evAnd t5 (evAnd t6 (evAnd t7 (evAnd t8 t9)))))))) fun k ⟨s1, s2, s3, s4, s5, s6, s7, s8, s9⟩ => bind_of s1 (bind_of s2 (bind_of s3 (bind_of s4 (bind_of s5 (bind_of s6 (bind_of s7 (bind_of s8 (bind_of s9 rfl))))))))
      refine ⟨R, g0, evSuc (evMono j1 fun k e => ?_), evSuc (evMono (evAnd ly g2) fun k ⟨e, g⟩ => ?_)⟩
      · simp only [spec_DecodeModel.l0]
        refine ite_yes (by omega) ?_
        rw [show (!bad) = true by simpa using hbd]
        exact e
      · simp only [impl_DecodeModel.l0]
        refine ite_yes (by omega) (ite_no hbd (bind_of e (ite_yes (by omega) ?_)))
        rw [w64' (x := ((d + 1 : Nat) : Int) - 1) (by omega) (by omega), show ((d + 1 : Nat) : Int) - 1 = (d : Int) by omega]
        exact g
theorem DecodeModel_ok (l : List Int) (hb : isBytes l) : ∃ R : Int × Int × Int × (List S37) × Int, accOk 2000 R.2.2.2.1 ∧ (Evp fun k => spec_DecodeModel.f k l = some R) ∧ Evp fun k => impl_DecodeModel.f k l = some R := by
  have h0 : accOk 2000 ([] : List S37) := ⟨by simp, by simp⟩
  by_cases h6 : (l.length : Int) > 6000
  · exact ⟨(0, 0, 0, [], 5), h0, evAll fun k => ite_yes h6 rfl, evAll fun k => ite_yes h6 rfl⟩
  by_cases hd : headOk l = true
  · have hl2 : l.length ≤ 1073741824 := by omega
    have h3 : AtB l 3 := by
      unfold headOk at hd
      have := (of_decide_eq_true hd).1
      exact ⟨by omega, by omega⟩
    obtain ⟨x1, a1, b1, A1, s1, t1⟩ := read_number l hb hl2 false h3
    obtain ⟨x2, a2, b2, A2, s2, t2⟩ := read_number l hb hl2 b1 A1
    obtain ⟨x3, a3, b3, A3, s3, t3⟩ := read_number l hb hl2 b2 A2
    have hc := cntW_b l a3 b3
    have s4 := spec_l05Count_ev l hb hl2 a3 b3 (A3.i64 hl2)
    have t4 := impl_count_ev l hb hl2 a3 b3 (A3.i64 hl2)
    obtain ⟨R, g0, g1, g2⟩ := decode_layers l hb (by omega) (cntW l a3 b3).1.toNat (by omega) x1 x2 x3 (cntW l a3 b3).1.toNat 0 (cntW l a3 b3).2.1 (cntW l a3 b3).2.2 [] (A3.cnt hb b3) (by omega) ⟨by simp, by simp⟩
    rw [show (((cntW l a3 b3).1.toNat : Nat) : Int) = (cntW l a3 b3).1 by omega] at g1 g2
    exact ⟨R, g0, evMono (evAnd s1 (evAnd s2 (evAnd s3 (evAnd s4 g1)))) fun k ⟨s1, s2, s3, s4, g⟩ => ite_no h6 (bind_of (spec_l05Head_eq l) (ite_yes hd (bind_of s1 (bind_of s2 (bind_of s3 (bind_of s4 g)))))), evMono (evAnd t1 (evAnd t2 (evAnd t3 (evAnd t4 g2)))) fun k ⟨s1, s2, s3, s4, g⟩ => ite_no h6 (bind_of (bytes_HasPrefix_eq l hb) (ite_yes hd (bind_of (a := (x1, x2, x3, a3, b3)) (bind_of s1 (bind_of s2 (bind_of s3 rfl))) (bind_of s4 g))))⟩
  · exact ⟨(0, 0, 0, [], 1), h0, evAll fun k => ite_no h6 (bind_of (spec_l05Head_eq l) (ite_no hd rfl)), evAll fun k => ite_no h6 (bind_of (bytes_HasPrefix_eq l hb) (ite_no hd rfl))⟩


theorem heldLayerS_l0 (l : List S37) (a : Int) (h0 : 0 ≤ a) (hT : a + marksTot l ≤ 1000000000000) : ∀ (d i : Nat), i + d = l.length → Evp fun k => laws_heldLayerS.l0 k (markLs l a) (a + marksTot (l.take i)) (i : Int) = some (a + marksTot l)
  | 0, i, hi => evSuc (evAll fun k => by
    simp only [laws_heldLayerS.l0]
    rw [if_neg (by rw [markLs_len]; omega), List.take_of_length_le (by omega)])
  | d + 1, i, hi => by
    have hlt : i < l.length := by omega
    have ih := heldLayerS_l0 l a h0 hT d (i + 1) (by omega)
    have ht := marksTot_at l i hlt
    have hn := marksTot_nn (l.take i)
    have hll := marksTot_len l
    have hr : rd_T37 (markLs l a) (i : Int) = markL l[i] (a + marksTot (l.take i)) := by
      unfold rd_T37
      rw [Int.toNat_natCast, List.getD_eq_getElem?_getD, markLs_at l a i hlt]
      rfl
    generalize hv : a + marksTot (l.take i) = v at hr ⊢
    have w1 : wrap64 (v + 1) = v + 1 := w64' (by omega) (by omega)
    have w2 : wrap64 (v + 1 + 1) = v + 2 := by rw [w64' (by omega) (by omega)]; omega
    have w3 : wrap64 (v + 2 + 1) = v + 3 := by rw [w64' (by omega) (by omega)]; omega
    have w4 : wrap64 (v + 3 + 1) = v + 4 := by rw [w64' (by omega) (by omega)]; omega
    have w5 : wrap64 (v + 4 + 1) = v + 5 := by rw [w64' (by omega) (by omega)]; omega
    have w6 : wrap64 (v + 5 + 1) = v + 6 := by rw [w64' (by omega) (by omega)]; omega
    have w7 : wrap64 (v + 6 + 1) = v + 7 := by rw [w64' (by omega) (by omega)]; omega
    have g1 := laws_heldIntS_ev l[i].f7.length (v + 7) (by omega) (by omega)
    have g2 := laws_heldIntS_ev l[i].f8.length (v + 7 + (l[i].f7.length : Int)) (by omega) (by omega)
    refine evSuc (evMono (evAnd g1 (evAnd g2 ih)) fun k ⟨e1, e2, e3⟩ => ?_)
    simp only [laws_heldLayerS.l0]
    rw [hr, w1, w2, w3, w4, w5, w6, w7]
    refine ite_yes (by rw [markLs_len]; omega) (ite_yes (by omega) (ite_yes rfl (ite_yes rfl (ite_yes rfl (ite_yes rfl (ite_yes rfl (ite_yes rfl (ite_yes rfl ?_))))))))
    refine bind_of (show laws_heldIntS.f k (marksFrom (v + 7) l[i].f7.length) (v + 7) = some (v + 7 + (l[i].f7.length : Int)) from e1) (ite_no (by omega) ?_)
    refine bind_of (show laws_heldIntS.f k (marksFrom (v + 7 + (l[i].f7.length : Int)) l[i].f8.length) (v + 7 + (l[i].f7.length : Int)) = some (v + 7 + (l[i].f7.length : Int) + (l[i].f8.length : Int)) from e2) (ite_no (by omega) ?_)
    rw [w64' (x := (i : Int) + 1) (by omega) (by omega), show v + 7 + (l[i].f7.length : Int) + (l[i].f8.length : Int) = a + marksTot (l.take (i + 1)) by omega]
    exact e3
theorem heldModel_ev (p q r : Int) (l : List S37) (a : Int) (h0 : 0 ≤ a) (hT : a + marksTot l ≤ 1000000000000) : Evp fun k => laws_heldModel.f k p q r (markLs l a) a = some (a + marksTot l) := by
  have g := heldLayerS_l0 l a h0 hT l.length 0 (by omega)
  have hn := marksTot_nn l
  rw [List.take_zero, show marksTot ([] : List S37) = 0 from rfl, Int.add_zero] at g
  exact evMono g fun k e => bind_of e (ite_no (by omega) rfl)
theorem marksTot_b : ∀ (l : List S37), (∀ x ∈ l, x.f7.length ≤ 2000 ∧ x.f8.length ≤ 2000) → marksTot l ≤ 4007 * (l.length : Int)
  | [], _ => by simp [marksTot]
  | x :: l, h => by
    have h1 := h x (by simp)
    have h2 := marksTot_b l (fun y hy => h y (List.mem_cons_of_mem _ hy))
    simp only [marksTot, List.length_cons]
    omega

theorem FnExactDecodeModel (l : List Int) (hg : l.length ≤ maxLen ∧ ∀ x ∈ l, (Lit.int .u8 x).wf = true) : ∃ k, laws_FnExactDecodeModel.f k l = some true := by
  by_cases hbig : (l.length : Int) > 1048576
  · exact ⟨0, ite_yes hbig rfl⟩
  have hb : isBytes l := fun x hx => u8_of (hg.2 x hx)
  obtain ⟨⟨p, q, r, L, c⟩, hacc, e1, e2⟩ := DecodeModel_ok l hb
  have hacc' : accOk 2000 L := hacc
  have hs := hacc'.small (Nat.le_refl _)
  have hT := marksTot_b L hacc'.2
  have hn := marksTot_nn L
  have hL := hacc'.1
  have eb := laws_toByteS_ev l (by omega)
  have eq := laws_eqModel_self p q r L hs
  have eqb := laws_eqByteS_ev l l (by omega)
  have mb := laws_markByteS_ev l 1 (by omega) (by omega)
  have hm : laws_markModel.f p q r L 1 = some (1 + marksTot L, markLs L 1) := ite_yes ⟨by omega, by omega⟩ rfl
  have hd := heldModel_ev p q r L 1 (by omega) (by omega)
  have j2 : Evp fun k => laws_FnExactDecodeModel.j2 k (1 + marksTot L) false p q r (markLs L 1) = some true := evSuc (evMono hd fun k e => by
    simp only [laws_FnExactDecodeModel.j2]
    exact ite_no Bool.false_ne_true (bind_of e (ite_no (by omega) (ite_yes rfl rfl))))
  have j1 : Evp fun k => laws_FnExactDecodeModel.j1 k l c false p q r L p q r L = some true := evSuc (evMono (evAnd hd (evAnd eb (evAnd e2 (evAnd eq j2)))) fun k ⟨hd, eb, e2, eq, j2⟩ => by
    simp only [laws_FnExactDecodeModel.j1]
    refine ite_no Bool.false_ne_true (bind_of hm (bind_of hd (ite_no (by omega) (ite_yes rfl (bind_of eb (bind_of e2 (bind_of eq (ite_yes rfl ?_))))))))
    rw [show (c != c) = false by simp]
    exact j2)
  have j0 : Evp fun k => laws_FnExactDecodeModel.j0 k l c l c false p q r L p q r L = some true := evSuc (evMono (evAnd eb (evAnd eqb (evAnd mb (evAnd eq j1)))) fun k ⟨eb, eqb, mb, eq, j1⟩ => by
    simp only [laws_FnExactDecodeModel.j0]
    refine ite_no Bool.false_ne_true (bind_of eb (bind_of eqb ?_))
    refine ite_yes (by simp) (bind_of mb (ite_no (by omega) (bind_of eq (ite_yes rfl ?_))))
    rw [show (c != c) = false by simp]
    exact j1)
  refine evEx (evMono (evAnd eb (evAnd e1 (evAnd e2 (evAnd eq j0)))) fun k ⟨eb, e1, e2, eq, j0⟩ => ite_no hbig (bind_of eb (bind_of e1 (bind_of eb (bind_of e2 (bind_of eq (ite_yes rfl ?_)))))))
  rw [show (c != c) = false by simp]
  exact j0

end Go.Proofs.Ytclpojeofclbjaa.Pure
