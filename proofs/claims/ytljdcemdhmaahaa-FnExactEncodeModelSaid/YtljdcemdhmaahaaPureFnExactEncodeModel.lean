/- For every model that the law lets in, the program's EncodeModel and the reference's return the same, in new memory (the law FnExactEncodeModel answers true). No condition. -/
import Derived.Test.YtljdcemdhmaahaaPFnExactEncodeModelx0
import Derived.Test.YtljdcemdhmaahaaPFnExactEncodeModelx1
import Derived.Test.YtljdcemdhmaahaaPFnExactEncodeModelx10
import Derived.Test.YtljdcemdhmaahaaPFnExactEncodeModelx11
import Derived.Test.YtljdcemdhmaahaaPFnExactEncodeModelx12
import Derived.Test.YtljdcemdhmaahaaPFnExactEncodeModelx13
import Derived.Test.YtljdcemdhmaahaaPFnExactEncodeModelx14
import Derived.Test.YtljdcemdhmaahaaPFnExactEncodeModelx2
import Derived.Test.YtljdcemdhmaahaaPFnExactEncodeModelx3
import Derived.Test.YtljdcemdhmaahaaPFnExactEncodeModelx4
import Derived.Test.YtljdcemdhmaahaaPFnExactEncodeModelx5
import Derived.Test.YtljdcemdhmaahaaPFnExactEncodeModelx6
import Derived.Test.YtljdcemdhmaahaaPFnExactEncodeModelx7
import Derived.Test.YtljdcemdhmaahaaPFnExactEncodeModelx8
import Derived.Test.YtljdcemdhmaahaaPFnExactEncodeModelx9
namespace Go.Proofs.Ytljdcemdhmaahaa.Pure
open Go.RowKit Go.Proofs.Ytljdcemdhmaahaa.PFnExactEncodeModel Go.Proofs.YtljdcemdhmaahaaW.PrintWords Go.Proofs.YtljdcemdhmaahaaW.PrintLast Go.Proofs.YtljdcemdhmaahaaW.PrintMore
set_option linter.unusedVariables false
set_option linter.unusedSimpArgs false

/-! #### rounds -/
def Evp (p : Nat → Prop) : Prop := ∃ K, ∀ k, K ≤ k → p k
theorem evAnd {p q : Nat → Prop} (h : Evp p) (g : Evp q) : Evp (fun k => p k ∧ q k) := by
  obtain ⟨K, hK⟩ := h
  obtain ⟨L, hL⟩ := g
  exact ⟨max K L, fun k hk => ⟨hK k (by omega), hL k (by omega)⟩⟩
theorem evMono {p q : Nat → Prop} (h : Evp p) (g : ∀ k, p k → q k) : Evp q := by
  obtain ⟨K, hK⟩ := h
  exact ⟨K, fun k hk => g k (hK k hk)⟩
theorem evSuc {p : Nat → Prop} (h : Evp fun k => p (k + 1)) : Evp p := by
  obtain ⟨K, hK⟩ := h
  refine ⟨K + 1, fun k hk => ?_⟩
  obtain ⟨m, rfl⟩ : ∃ m, k = m + 1 := ⟨k - 1, by omega⟩
  exact hK m (by omega)
theorem evAll {p : Nat → Prop} (h : ∀ k, p k) : Evp p := ⟨0, fun k _ => h k⟩
theorem evEx {p : Nat → Prop} (h : Evp p) : ∃ k, p k := by
  obtain ⟨K, hK⟩ := h
  exact ⟨K, hK K (Nat.le_refl _)⟩
theorem evEq {α : Type} {g : Nat → Option α} {r r' : α} (h : Evp fun k => g k = some r) (e : r = r') : Evp fun k => g k = some r' := e ▸ h

/-- One step of a chain. -/
theorem bind_of {α β : Type} {o : Option α} {f : α → Option β} {a : α} {r : Option β} (h : o = some a) (hf : f a = r) : o.bind f = r := by rw [h]; exact hf
theorem ite_yes {α : Type} {c : Prop} [Decidable c] {x y r : α} (h : c) (hx : x = r) : (if c then x else y) = r := by rw [if_pos h]; exact hx
theorem ite_no {α : Type} {c : Prop} [Decidable c] {x y r : α} (h : ¬ c) (hy : y = r) : (if c then x else y) = r := by rw [if_neg h]; exact hy

/-! #### whole numbers -/
def i64 (x : Int) : Prop := -9223372036854775808 ≤ x ∧ x ≤ 9223372036854775807
theorem w64 {x : Int} (h : i64 x) : wrap64 x = x := by
  unfold i64 at h
  unfold wrap64
  omega
theorem w64' {x : Int} (h0 : -9223372036854775808 ≤ x) (h1 : x ≤ 9223372036854775807) : wrap64 x = x := w64 ⟨h0, h1⟩
theorem tdiv_pos {a b : Int} (h : 0 ≤ a) : Int.tdiv a b = a / b := Int.tdiv_eq_ediv_of_nonneg h
theorem tmod_pos {a b : Int} (h : 0 ≤ a) : Int.tmod a b = a % b := Int.tmod_eq_emod_of_nonneg h
theorem bnd_mul {a b A B : Int} (ha : -A ≤ a) (ha' : a ≤ A) (hb : -B ≤ b) (hb' : b ≤ B) : -(A * B) ≤ a * b ∧ a * b ≤ A * B := by
  have hA : 0 ≤ A := by omega
  have hB : 0 ≤ B := by omega
  have h1 : (a * b).natAbs ≤ (A * B).natAbs := by
    rw [Int.natAbs_mul, Int.natAbs_mul]
    exact Nat.mul_le_mul (by omega) (by omega)
  have h2 : 0 ≤ A * B := Int.mul_nonneg hA hB
  omega

/-! #### lists -/
theorem rd_eq {l : List Int} {i : Nat} (h : i < l.length) : rd l (i : Int) = l[i] := by
  unfold rd
  simp [List.getD, h]
theorem nat_of {i : Int} (h : 0 ≤ i) : ∃ n : Nat, i = n := ⟨i.toNat, by omega⟩
theorem two_pow_le {n m : Nat} (h : n ≤ m) : (1 : Int) ≤ 2 ^ n ∧ (2 : Int) ^ n ≤ 2 ^ m := by
  have h1 : (1 : Nat) ≤ 2 ^ n := Nat.one_le_two_pow
  have h2 : (2 : Nat) ^ n ≤ 2 ^ m := Nat.pow_le_pow_right (by omega) h
  exact ⟨by exact_mod_cast h1, by exact_mod_cast h2⟩

theorem spec_l01In_eq (x lo hi : Int) : spec_l01In.f x lo hi = some (decide (lo ≤ x ∧ x ≤ hi)) := by
  unfold spec_l01In.f
  by_cases h : lo ≤ x
  · simp [h]
  · simp [h]


theorem impl_in_eq (x lo hi : Int) : impl_in.f x lo hi = some (decide (lo ≤ x ∧ x ≤ hi)) := by
  unfold impl_in.f
  by_cases h : lo ≤ x
  · simp [h]
  · simp [h]

/-- A list that is filled from the left. -/
theorem fill_step {α : Type} {l o : List α} {i : Nat} (hi : i < l.length) (hl : o.length = l.length) (ht : o.take i = l.take i) : (o.set i l[i]).length = l.length ∧ (o.set i l[i]).take (i + 1) = l.take (i + 1) := by
  refine ⟨by simp [hl], ?_⟩
  apply List.ext_getElem?
  intro j
  rw [List.getElem?_take, List.getElem?_take]
  by_cases hj : j < i + 1
  · rw [if_pos hj, if_pos hj]
    by_cases e : j = i
    · subst e
      rw [List.getElem?_set_self (by omega), List.getElem?_eq_getElem hi]
    · rw [List.getElem?_set_ne (by omega)]
      have := congrArg (fun x => x[j]?) ht
      simp only [List.getElem?_take] at this
      rw [if_pos (by omega), if_pos (by omega)] at this
      exact this
  · rw [if_neg hj, if_neg hj]
theorem fill_end {α : Type} {l o : List α} (hl : o.length = l.length) (ht : o.take l.length = l.take l.length) : o = l := by
  rw [List.take_length] at ht
  rw [← hl, List.take_length] at ht
  exact ht


theorem laws_toIntS_l0 (l : List Int) (hl : l.length ≤ 9223372036854775807) : ∀ (d i : Nat) (o : List Int), i + d = l.length → o.length = l.length → o.take i = l.take i → Evp fun k => laws_toIntS.l0 k l o (i : Int) = some l
  | 0, i, o, hi, ho, ht => evSuc (evAll fun k => by
    simp only [laws_toIntS.l0]
    rw [if_neg (by omega)]
    obtain rfl : i = l.length := by omega
    rw [fill_end ho ht])
  | d + 1, i, o, hi, ho, ht => by
    have hlt : i < l.length := by omega
    have hs := fill_step hlt ho ht
    refine evSuc (evMono (laws_toIntS_l0 l hl d (i + 1) (o.set i l[i]) (by omega) hs.1 hs.2) fun k ih => ?_)
    simp only [laws_toIntS.l0]
    rw [if_pos (by omega), if_pos (by omega), if_pos (by omega), w64' (by omega) (by omega), rd_eq hlt, Int.toNat_natCast]
    exact ih
theorem laws_toIntS_ev (l : List Int) (hl : l.length ≤ 35184372088832) : Evp fun k => laws_toIntS.f k l = some l :=
  evMono (laws_toIntS_l0 l (by omega) l.length 0 (List.replicate l.length 0) (by omega) (by simp) (by simp)) fun k h => by
    unfold laws_toIntS.f
    rw [if_pos (by omega), if_pos (by omega), Int.toNat_natCast]
    exact h


theorem laws_eqByteS_l0 (a b : List Int) (hl : a.length = b.length) (hm : a.length ≤ 9223372036854775807) : ∀ (d i : Nat), i + d = a.length → a.take i = b.take i → Evp fun k => laws_eqByteS.l0 k a b (i : Int) = some (decide (a = b))
  | 0, i, hi, ht => evSuc (evAll fun k => by
    simp only [laws_eqByteS.l0]
    rw [if_neg (by omega)]
    obtain rfl : i = a.length := by omega
    have e : a = b := by
      rw [List.take_length, hl, List.take_length] at ht
      exact ht
    simp [e])
  | d + 1, i, hi, ht => by
    have ha : i < a.length := by omega
    have hb : i < b.length := by omega
    by_cases he : a[i] = b[i]
    · have ht' : a.take (i + 1) = b.take (i + 1) := by
        rw [List.take_succ_eq_append_getElem ha, List.take_succ_eq_append_getElem hb, ht, he]
      refine evSuc (evMono (laws_eqByteS_l0 a b hl hm d (i + 1) (by omega) ht') fun k ih => ?_)
      simp only [laws_eqByteS.l0]
      rw [if_pos (by omega), if_pos (by omega), if_pos (by omega), rd_eq ha, rd_eq hb, if_pos he, w64' (by omega) (by omega)]
      exact ih
    · refine evSuc (evAll fun k => ?_)
      simp only [laws_eqByteS.l0]
      rw [if_pos (by omega), if_pos (by omega), if_pos (by omega), rd_eq ha, rd_eq hb, if_neg he]
      have : a ≠ b := by
        rintro rfl
        exact he rfl
      simp [this]
theorem laws_eqByteS_ev (a b : List Int) (hm : a.length ≤ 9223372036854775807) : Evp fun k => laws_eqByteS.f k a b = some (decide (a = b)) := by
  unfold laws_eqByteS.f
  by_cases hl : a.length = b.length
  · refine evMono (laws_eqByteS_l0 a b hl hm a.length 0 (by omega) (by simp)) fun k h => ?_
    rw [if_pos (by omega)]
    exact h
  · refine evAll fun k => ?_
    rw [if_neg (by omega)]
    have : a ≠ b := by
      rintro rfl
      exact hl rfl
    simp [this]


theorem laws_eqIntS_l0 (a b : List Int) (hl : a.length = b.length) (hm : a.length ≤ 9223372036854775807) : ∀ (d i : Nat), i + d = a.length → a.take i = b.take i → Evp fun k => laws_eqIntS.l0 k a b (i : Int) = some (decide (a = b))
  | 0, i, hi, ht => evSuc (evAll fun k => by
    simp only [laws_eqIntS.l0]
    rw [if_neg (by omega)]
    obtain rfl : i = a.length := by omega
    have e : a = b := by
      rw [List.take_length, hl, List.take_length] at ht
      exact ht
    simp [e])
  | d + 1, i, hi, ht => by
    have ha : i < a.length := by omega
    have hb : i < b.length := by omega
    by_cases he : a[i] = b[i]
    · have ht' : a.take (i + 1) = b.take (i + 1) := by
        rw [List.take_succ_eq_append_getElem ha, List.take_succ_eq_append_getElem hb, ht, he]
      refine evSuc (evMono (laws_eqIntS_l0 a b hl hm d (i + 1) (by omega) ht') fun k ih => ?_)
      simp only [laws_eqIntS.l0]
      rw [if_pos (by omega), if_pos (by omega), if_pos (by omega), rd_eq ha, rd_eq hb, if_pos he, w64' (by omega) (by omega)]
      exact ih
    · refine evSuc (evAll fun k => ?_)
      simp only [laws_eqIntS.l0]
      rw [if_pos (by omega), if_pos (by omega), if_pos (by omega), rd_eq ha, rd_eq hb, if_neg he]
      have : a ≠ b := by
        rintro rfl
        exact he rfl
      simp [this]
theorem laws_eqIntS_ev (a b : List Int) (hm : a.length ≤ 9223372036854775807) : Evp fun k => laws_eqIntS.f k a b = some (decide (a = b)) := by
  unfold laws_eqIntS.f
  by_cases hl : a.length = b.length
  · refine evMono (laws_eqIntS_l0 a b hl hm a.length 0 (by omega) (by simp)) fun k h => ?_
    rw [if_pos (by omega)]
    exact h
  · refine evAll fun k => ?_
    rw [if_neg (by omega)]
    have : a ≠ b := by
      rintro rfl
      exact hl rfl
    simp [this]


/-- What is left of a bound, behind a list; -1 where nothing is. -/
def szL {α : Type} (l : List α) (left : Int) : Int := if left - l.length < 0 then -1 else left - l.length
theorem szL_b {α : Type} (l : List α) {left : Int} (h : 0 ≤ left) (h1 : left ≤ 1048576) : -1 ≤ szL l left ∧ szL l left ≤ 1048576 ∧ (0 ≤ szL l left → (l.length : Int) ≤ 1048576) := by
  unfold szL
  split <;> omega


theorem laws_szIntS_eq (l : List Int) (left : Int) (h : 0 ≤ left) (h1 : left ≤ 1048576) (hl : l.length ≤ 9223372036854775807) : laws_szIntS.f l left = some (szL l left) := by
  unfold laws_szIntS.f szL
  rw [w64' (by omega) (by omega)]
  split <;> rfl


def sumStep (s x : Int) : Int := (s * 257 + x + 1) % 1000003
theorem sumStep_b (s x : Int) (h : 0 ≤ s * 257 + x + 1) : 0 ≤ sumStep s x ∧ sumStep s x < 1000003 := by unfold sumStep; omega
def sumOf (l : List Int) : Int := l.foldl sumStep 1
def isBytes (l : List Int) : Prop := ∀ x ∈ l, 0 ≤ x ∧ x ≤ 255
theorem drop_at {α : Type} {l : List α} {i : Nat} (h : i < l.length) : l.drop i = l[i] :: l.drop (i + 1) := by
  exact List.drop_eq_getElem_cons h
theorem fold_snoc {l : List Int} {i : Nat} (h : i < l.length) (s : Int) : (l.drop i).foldl sumStep s = (l.drop (i + 1)).foldl sumStep (sumStep s l[i]) := by
  rw [drop_at h]; rfl


theorem spec_SumOf_l0 (l : List Int) (hb : isBytes l) (hm : l.length ≤ 9223372036854775807) : ∀ (d i : Nat) (s : Int), i + d = l.length → 0 ≤ s → s < 1000003 → Evp fun k => spec_SumOf.l0 k l s (i : Int) = some ((l.drop i).foldl sumStep s)
  | 0, i, s, hi, h0, h1 => evSuc (evAll fun k => by
    simp only [spec_SumOf.l0]
    rw [if_neg (by omega), List.drop_eq_nil_of_le (by omega)]
    rfl)
  | d + 1, i, s, hi, h0, h1 => by
    have hlt : i < l.length := by omega
    have hx := hb l[i] (List.getElem_mem hlt)
    have hs := sumStep_b s l[i] (by omega)
    refine evSuc (evMono (spec_SumOf_l0 l hb hm d (i + 1) (sumStep s l[i]) (by omega) hs.1 hs.2) fun k ih => ?_)
    simp only [spec_SumOf.l0]
    rw [if_pos (by omega), if_pos (by omega), rd_eq hlt, w64' (x := l[i]) (by omega) (by omega), w64' (x := 257 * s) (by omega) (by omega), w64' (x := 257 * s + l[i]) (by omega) (by omega), w64' (x := 257 * s + l[i] + 1) (by omega) (by omega), tmod_pos (by omega), w64' (x := (i : Int) + 1) (by omega) (by omega), fold_snoc hlt]
    rw [show (257 * s + l[i] + 1) % 1000003 = sumStep s l[i] by unfold sumStep; rw [Int.mul_comm 257 s]]
    exact ih
theorem spec_SumOf_ev (l : List Int) (hb : isBytes l) (hm : l.length ≤ 9223372036854775807) : Evp fun k => spec_SumOf.f k l = some (sumOf l) := by
  have := spec_SumOf_l0 l hb hm l.length 0 1 (by omega) (by omega) (by omega)
  exact this


theorem impl_SumOf_l0 (l : List Int) (hb : isBytes l) (hm : l.length ≤ 9223372036854775807) : ∀ (d i : Nat) (s : Int), i + d = l.length → 0 ≤ s → s < 1000003 → Evp fun k => impl_SumOf.l0 k s l (l.length : Int) (i : Int) = some ((l.drop i).foldl sumStep s)
  | 0, i, s, hi, h0, h1 => evSuc (evAll fun k => by
    simp only [impl_SumOf.l0]
    rw [if_neg (by omega), List.drop_eq_nil_of_le (by omega)]
    rfl)
  | d + 1, i, s, hi, h0, h1 => by
    have hlt : i < l.length := by omega
    have hx := hb l[i] (List.getElem_mem hlt)
    have hs := sumStep_b s l[i] (by omega)
    refine evSuc (evMono (impl_SumOf_l0 l hb hm d (i + 1) (sumStep s l[i]) (by omega) hs.1 hs.2) fun k ih => ?_)
    simp only [impl_SumOf.l0]
    rw [if_pos (by omega), if_pos (by omega), if_pos (by omega), rd_eq hlt, w64' (x := l[i]) (by omega) (by omega), w64' (x := s * 257) (by omega) (by omega), w64' (x := s * 257 + l[i]) (by omega) (by omega), w64' (x := s * 257 + l[i] + 1) (by omega) (by omega), tmod_pos (by omega), w64' (x := (i : Int) + 1) (by omega) (by omega), fold_snoc hlt]
    exact ih
theorem impl_SumOf_ev (l : List Int) (hb : isBytes l) (hm : l.length ≤ 9223372036854775807) : Evp fun k => impl_SumOf.f k l = some (sumOf l) := by
  have := impl_SumOf_l0 l hb hm l.length 0 1 (by omega) (by omega) (by omega)
  exact this


def shapeOk (h w c : Int) : Bool := decide ((1 ≤ h ∧ h ≤ 8) ∧ (1 ≤ w ∧ w ≤ 8) ∧ (1 ≤ c ∧ c ≤ 8))
theorem shapeOk_iff {h w c : Int} : shapeOk h w c = true ↔ (1 ≤ h ∧ h ≤ 8) ∧ (1 ≤ w ∧ w ≤ 8) ∧ (1 ≤ c ∧ c ≤ 8) := by unfold shapeOk; simp
def sizeOf (h w c : Int) : Int := if shapeOk h w c = true then h * w * c else 0
theorem mul_b {a b A B : Int} (ha : 0 ≤ a) (ha' : a ≤ A) (hb : 0 ≤ b) (hb' : b ≤ B) : 0 ≤ a * b ∧ a * b ≤ A * B := by
  refine ⟨Int.mul_nonneg ha hb, Int.mul_le_mul ha' hb' hb (by omega)⟩
theorem mul_pos1 {a b : Int} (ha : 1 ≤ a) (hb : 1 ≤ b) : 1 ≤ a * b := by
  have := Int.mul_le_mul ha hb (by omega) (by omega)
  omega
theorem size_b {h w c : Int} (hs : shapeOk h w c = true) : 1 ≤ h * w ∧ h * w ≤ 64 ∧ 1 ≤ h * w * c ∧ h * w * c ≤ 512 := by
  obtain ⟨h1, h2, h3⟩ := shapeOk_iff.1 hs
  have a := mul_b (a := h) (b := w) (A := 8) (B := 8) (by omega) (by omega) (by omega) (by omega)
  have b := mul_b (a := h * w) (b := c) (A := 64) (B := 8) (by omega) (by omega) (by omega) (by omega)
  have c1 := mul_pos1 h1.1 h2.1
  have c2 := mul_pos1 c1 h3.1
  omega
theorem laws_toShape_eq (h w c : Int) : laws_toShape.f h w c = some (h, w, c) := rfl


theorem spec_ShapeOk_eq (h w c : Int) : spec_ShapeOk.f h w c = some (shapeOk h w c) := by
  unfold spec_ShapeOk.f shapeOk
  simp only [spec_l01In_eq, Option.bind_some, decide_eq_true_eq]
  by_cases h1 : 1 ≤ h ∧ h ≤ 8 <;> by_cases h2 : 1 ≤ w ∧ w ≤ 8 <;> simp [h1, h2]


theorem impl_ShapeOk_eq (h w c : Int) : impl_ShapeOk.f h w c = some (shapeOk h w c) := by
  unfold impl_ShapeOk.f shapeOk
  simp only [impl_in_eq, Option.bind_some, decide_eq_true_eq]
  by_cases h1 : 1 ≤ h ∧ h ≤ 8 <;> by_cases h2 : 1 ≤ w ∧ w ≤ 8 <;> simp [h1, h2]


theorem spec_SizeOf_eq (h w c : Int) : spec_SizeOf.f h w c = some (sizeOf h w c) := by
  unfold spec_SizeOf.f sizeOf
  rw [spec_ShapeOk_eq]
  simp only [Option.bind_some]
  by_cases hs : shapeOk h w c = true
  · have := size_b hs
    rw [if_pos hs, if_pos hs, w64' (x := h * w) (by omega) (by omega), w64' (by omega) (by omega)]
  · rw [if_neg hs, if_neg hs]


theorem impl_SizeOf_eq (h w c : Int) : impl_SizeOf.f h w c = some (sizeOf h w c) := by
  unfold impl_SizeOf.f sizeOf
  rw [impl_ShapeOk_eq]
  simp only [Option.bind_some]
  by_cases hs : shapeOk h w c = true
  · have := size_b hs
    rw [if_pos hs, if_pos hs, w64' (x := h * w) (by omega) (by omega), w64' (by omega) (by omega)]
  · rw [if_neg hs, if_neg hs]


theorem laws_szLayer_tells (a b c d e f g : Int) (W B : List Int) (left : Int) (h : 0 ≤ left) (h1 : left ≤ 1048576) (hW : W.length ≤ 9223372036854775807) (hB : B.length ≤ 9223372036854775807) :
    ∃ r, laws_szLayer.f a b c d e f g W B left = some r ∧ r ≤ 1048576 ∧ (0 ≤ r → (W.length : Int) ≤ 1048576 ∧ (B.length : Int) ≤ 1048576) := by
  unfold laws_szLayer.f
  have b1 := szL_b W h h1
  rw [laws_szIntS_eq W left h h1 hW]
  simp only [Option.bind_some]
  by_cases hr : szL W left < 0
  · rw [if_pos hr]
    exact ⟨-1, rfl, by omega, fun z => by omega⟩
  · have b2 := szL_b B (left := szL W left) (by omega) (by omega)
    rw [if_neg hr, laws_szIntS_eq B _ (by omega) (by omega) hB]
    simp only [Option.bind_some]
    split
    · exact ⟨-1, rfl, by omega, fun z => by omega⟩
    · exact ⟨_, rfl, by omega, fun z => ⟨b1.2.2 (by omega), b2.2.2 (by omega)⟩⟩


theorem laws_toLayer_ev (a b c d e f g : Int) (W B : List Int) (hW : (W.length : Int) ≤ 1048576) (hB : (B.length : Int) ≤ 1048576) : Evp fun k => laws_toLayer.f k a b c d e f g W B = some (a, b, c, d, e, f, g, W, B) :=
  evMono (evAnd (laws_toIntS_ev W (by omega)) (laws_toIntS_ev B (by omega))) fun k ⟨h1, h2⟩ => by
    unfold laws_toLayer.f
    rw [h1, h2]
    rfl


theorem laws_eqLayer_self (a b c d e f g : Int) (W B : List Int) (hW : (W.length : Int) ≤ 1048576) (hB : (B.length : Int) ≤ 1048576) : Evp fun k => laws_eqLayer.f k a b c d e f g W B a b c d e f g W B = some true :=
  evMono (evAnd (laws_eqIntS_ev W W (by omega)) (laws_eqIntS_ev B B (by omega))) fun k ⟨h1, h2⟩ => by
    unfold laws_eqLayer.f
    simp [h1, h2]


/-- The bytes of a number that was made to be from 0 on. -/
def putGo : Nat → Int → List Int
  | 0, u => [u % 256]
  | d + 1, u => if u ≥ 128 then (128 + u % 128) :: putGo d (u / 128) else [u % 256]
def zig (x : Int) : Int := if x < 0 then -2 * x - 1 else 2 * x
def putWide (x : Int) : List Int := putGo 6 (zig x)
theorem putGo_len : ∀ d u, (putGo d u).length ≤ d + 1
  | 0, u => by simp [putGo]
  | d + 1, u => by
    unfold putGo
    have := putGo_len d (u / 128)
    split <;> simp <;> omega
theorem zig_b {x : Int} (h : -1099511627776 ≤ x ∧ x ≤ 1099511627775) : 0 ≤ zig x ∧ zig x < 128 ^ 6 := by unfold zig; split <;> omega


theorem spec_PutWide_l0 : ∀ (d : Nat) (o : List Int) (u : Int), 0 ≤ u → u < 128 ^ (d + 1) → d ≤ 6 → o.length + d ≤ 1000 → Evp fun k => spec_PutWide.l0 k o u = some (o ++ putGo d u)
  | 0, o, u, h0, h1, hd, ho => evSuc (evAll fun k => by
    simp only [spec_PutWide.l0]
    rw [if_neg (by omega), if_pos (by omega)]
    rfl)
  | d + 1, o, u, h0, h1, hd, ho => by
    unfold putGo
    by_cases hu : u ≥ 128
    · have hb : u < (2 : Int) ^ 56 := by
        have := two_pow_le (n := 7 * (d + 1 + 1)) (m := 56) (by omega)
        have e : (128 : Int) ^ (d + 1 + 1) = 2 ^ (7 * (d + 1 + 1)) := by rw [Int.pow_mul]; rfl
        exact Int.lt_of_lt_of_le h1 (by rw [e]; exact this.2)
      have hb2 : (2 : Int) ^ 56 = 72057594037927936 := by decide
      have hq : u / 128 < 128 ^ (d + 1) := by
        rw [Int.pow_succ] at h1
        omega
      refine evSuc (evMono (spec_PutWide_l0 d (o ++ [128 + u % 128]) (u / 128) (by omega) hq (by omega) (by simp; omega)) fun k ih => ?_)
      simp only [spec_PutWide.l0]
      rw [if_pos hu, if_pos hu, if_pos (by omega), tmod_pos h0, tdiv_pos h0, w64' (x := 128 + u % 128) (by omega) (by omega), w64' (x := u / 128) (by omega) (by omega), show (128 + u % 128) % 256 = 128 + u % 128 by omega, ih]
      simp
    · refine evSuc (evAll fun k => ?_)
      simp only [spec_PutWide.l0]
      rw [if_neg hu, if_neg hu, if_pos (by omega)]
theorem spec_PutWide_ev (x : Int) (hx : i64 x) : Evp fun k => spec_PutWide.f k x = some (if -1099511627776 ≤ x ∧ x ≤ 1099511627775 then putWide x else []) := by
  unfold i64 at hx
  unfold spec_PutWide.f
  simp only [Option.bind_some, spec_l01In_eq, decide_eq_true_eq]
  by_cases h : -1099511627776 ≤ x ∧ x ≤ 1099511627775
  · have hz := zig_b h
    have hz2 : (128 : Int) ^ 6 < 128 ^ 7 := by decide
    refine evMono (evSuc (p := fun k => spec_PutWide.j0 k [] (zig x) = some (putWide x)) (evMono (spec_PutWide_l0 6 [] (zig x) hz.1 (by omega) (by omega) (by simp)) fun k hk => ?_)) fun k hk => ?_
    · simp only [spec_PutWide.j0]
      rw [hk]
      rfl
    · rw [if_pos h, if_pos h]
      unfold zig at hk
      by_cases hn : x < 0
      · rw [if_pos hn] at hk ⊢
        rw [w64' (x := -2 * x) (by omega) (by omega), w64' (by omega) (by omega)]
        exact hk
      · rw [if_neg hn] at hk ⊢
        rw [w64' (by omega) (by omega)]
        exact hk
  · refine evAll fun k => ?_
    rw [if_neg h, if_neg h]


theorem or128 {u : Int} (h0 : 0 ≤ u) : Go.bits .or .u8 (u % 256) 128 = 128 + u % 128 := by
  have e : Go.bits .or .u8 (u % 256) 128 = Go.bits .or .u8 128 (u % 256) := by unfold Go.bits; simp only [BitVec.or_comm]
  rw [e]
  by_cases h : u % 256 < 128
  · rw [bits_join .u8 8 (by decide) wraps_u8 7 128 (u % 256) (by decide) (by decide) (by decide) (by omega) (by omega) (by omega)]
    omega
  · have k : ∀ n : Nat, n < 128 → Go.bits .or .u8 128 (128 + (n : Int)) = 128 + (n : Int) := by decide +kernel
    obtain ⟨n, hn⟩ := nat_of (show 0 ≤ u % 256 - 128 by omega)
    have := k n (by omega)
    rw [show u % 256 = 128 + (n : Int) by omega, this]
    omega
theorem impl_putWide_l1 (l : List Int) (m : Int) (j : Int) : ∀ (d : Nat) (o : List Int) (u : Int) (r : List Int), 0 ≤ u → u < 128 ^ (d + 1) → o.length + d ≤ 1000000000 →
    (Evp fun k => impl_putWide.l0 k (o ++ putGo d u) l m (wrap64 (j + 1)) = some r) → Evp fun k => impl_putWide.l1 k o u l m j = some r
  | 0, o, u, r, h0, h1, ho, hn => evSuc (evMono hn fun k hk => by
    simp only [impl_putWide.l1]
    rw [if_neg (by omega), if_pos (by omega)]
    exact hk)
  | d + 1, o, u, r, h0, h1, ho, hn => by
    unfold putGo at hn
    by_cases hu : u ≥ 128
    · have hq : u / 128 < 128 ^ (d + 1) := by
        rw [Int.pow_succ] at h1
        omega
      rw [if_pos hu] at hn
      refine evSuc (evMono (impl_putWide_l1 l m j d (o ++ [128 + u % 128]) (u / 128) r (by omega) hq (by simp; omega) (by simpa using hn)) fun k ih => ?_)
      simp only [impl_putWide.l1]
      rw [if_pos (by omega), if_pos (by omega), or128 h0]
      exact ih
    · rw [if_neg hu] at hn
      refine evSuc (evMono hn fun k hk => ?_)
      simp only [impl_putWide.l1]
      rw [if_neg (by omega), if_pos (by omega)]
      exact hk
theorem putWide_len (x : Int) : (putWide x).length ≤ 7 := putGo_len 6 _
theorem impl_putWide_l0 (l : List Int) (hw : ∀ x ∈ l, -1099511627776 ≤ x ∧ x ≤ 1099511627775) (hm : l.length ≤ 999999000) : ∀ (d i : Nat) (o : List Int), i + d = l.length → o.length + 7 * d ≤ 999999000 →
    Evp fun k => impl_putWide.l0 k o l (l.length : Int) (i : Int) = some (o ++ (l.drop i).flatMap putWide)
  | 0, i, o, hi, ho => evSuc (evAll fun k => by
    simp only [impl_putWide.l0]
    rw [if_neg (by omega), List.drop_eq_nil_of_le (by omega)]
    simp)
  | d + 1, i, o, hi, ho => by
    have hlt : i < l.length := by omega
    have hx := hw l[i] (List.getElem_mem hlt)
    have hz := zig_b hx
    have hz2 : (128 : Int) ^ 6 < 128 ^ 7 := by decide
    have hl7 := putWide_len l[i]
    have hnext := impl_putWide_l0 l hw hm d (i + 1) (o ++ putWide l[i]) (by omega) (by simp; omega)
    have hnext' : Evp fun k => impl_putWide.l0 k (o ++ putGo 6 (zig l[i])) l (l.length : Int) (wrap64 ((i : Int) + 1)) = some (o ++ (l.drop i).flatMap putWide) := by
      rw [w64' (by omega) (by omega), drop_at hlt, List.flatMap_cons, ← List.append_assoc]
      exact hnext
    have h1 := impl_putWide_l1 l (l.length : Int) i 6 o (zig l[i]) _ hz.1 (by omega) (by omega) hnext'
    refine evSuc (evSuc (evMono h1 fun k hk => ?_))
    simp only [impl_putWide.l0]
    rw [if_pos (by omega), if_pos (by omega), if_pos (by omega), rd_eq hlt]
    unfold zig at hk
    by_cases hn : l[i] < 0
    · rw [if_pos hn] at hk ⊢
      rw [w64' (x := -2 * l[i]) (by omega) (by omega), w64' (by omega) (by omega)]
      simp only [impl_putWide.j1]
      exact hk
    · rw [if_neg hn] at hk ⊢
      rw [w64' (by omega) (by omega)]
      simp only [impl_putWide.j1]
      exact hk
theorem impl_putWide_ev (o l : List Int) (hw : ∀ x ∈ l, -1099511627776 ≤ x ∧ x ≤ 1099511627775) (ho : o.length + 7 * l.length ≤ 999999000) : Evp fun k => impl_putWide.f k o l = some (o ++ l.flatMap putWide) := by
  have := impl_putWide_l0 l hw (by omega) l.length 0 o (by omega) ho
  exact this


def marksByte (k0 : Int) (n : Nat) : List Int := (List.range n).map fun (j : Nat) => (k0 + (j : Int)) % 256
theorem marksByte_len (k0 : Int) (n : Nat) : (marksByte k0 n).length = n := by simp [marksByte]
theorem marksByte_succ (k0 : Int) (n : Nat) : marksByte k0 (n + 1) = (k0) % 256 :: marksByte (k0 + 1) n := by
  unfold marksByte
  rw [List.range_succ_eq_map]
  simp only [List.map_cons, List.map_map, Function.comp_def, Int.natCast_zero, Int.add_zero, Nat.succ_eq_add_one, Int.natCast_add, Int.natCast_one]
  congr 1
  apply List.map_congr_left
  intro j _
  rw [show k0 + ((j : Int) + 1) = k0 + 1 + (j : Int) by omega]
theorem marksByte_get (k0 : Int) (n j : Nat) (h : j < n) : (marksByte k0 n)[j]'(by simpa [marksByte] using h) = (k0 + (j : Int)) % 256 := by simp [marksByte]


theorem laws_markByteS_l0 : ∀ (d i : Nat) (l : List Int) (x : Int), i + d = l.length → 0 ≤ x → x + d ≤ 1000000000000 → l.length ≤ 1000000000000 → Evp fun k => laws_markByteS.l0 k l x (i : Int) = some (x + d, l.take i ++ marksByte x d)
  | 0, i, l, x, hi, h0, h1, hl => evSuc (evAll fun k => by
    simp only [laws_markByteS.l0]
    rw [if_neg (by omega), List.take_of_length_le (by omega)]
    simp [marksByte])
  | d + 1, i, l, x, hi, h0, h1, hl => by
    have hlt : i < l.length := by omega
    refine evSuc (evMono (laws_markByteS_l0 d (i + 1) (l.set i ((x) % 256)) (x + 1) (by simp; omega) (by omega) (by omega) (by simp; omega)) fun k ih => ?_)
    simp only [laws_markByteS.l0]
    rw [if_pos (by omega), if_pos (by omega), Int.toNat_natCast, w64' (x := x + 1) (by omega) (by omega), w64' (x := (i : Int) + 1) (by omega) (by omega)]
    have e : (l.set i ((x) % 256)).take (i + 1) = l.take i ++ [(x) % 256] := by
      rw [List.take_succ_eq_append_getElem (by simpa using hlt), List.take_set_of_le (Nat.le_refl i)]
      simp
    rw [e] at ih
    have ih' : laws_markByteS.l0 k (l.set i ((x) % 256)) (x + 1) ((i : Int) + 1) = _ := ih
    rw [ih', marksByte_succ]
    simp
    omega
theorem laws_markByteS_ev (l : List Int) (x : Int) (h0 : 0 ≤ x) (h1 : x + l.length ≤ 1000000000000) : Evp fun k => laws_markByteS.f k l x = some (x + l.length, marksByte x l.length) := by
  have := laws_markByteS_l0 l.length 0 l x (by omega) h0 h1 (by omega)
  unfold laws_markByteS.f
  simpa using this


theorem laws_heldByteS_l0 (l : List Int) (hl : l.length ≤ 1000000000000) (x0 : Int) (h0 : 0 ≤ x0) (h1 : x0 + l.length ≤ 1000000000000) (hm : l = marksByte x0 l.length) : ∀ (d i : Nat), i + d = l.length → Evp fun k => laws_heldByteS.l0 k l (x0 + i) (i : Int) = some (x0 + l.length)
  | 0, i, hi => evSuc (evAll fun k => by
    simp only [laws_heldByteS.l0]
    rw [if_neg (by omega)]
    congr 1
    omega)
  | d + 1, i, hi => by
    have hlt : i < l.length := by omega
    refine evSuc (evMono (laws_heldByteS_l0 l hl x0 h0 h1 hm d (i + 1) (by omega)) fun k ih => ?_)
    have e : l[i] = (x0 + (i : Int)) % 256 := by
      have g := marksByte_get x0 l.length i hlt
      rw [← g]
      congr 1
    simp only [laws_heldByteS.l0]
    rw [if_pos (by omega), if_pos (by omega), rd_eq hlt, if_pos e, w64' (x := x0 + (i : Int) + 1) (by omega) (by omega), w64' (x := (i : Int) + 1) (by omega) (by omega), show x0 + (i : Int) + 1 = x0 + ((i + 1 : Nat) : Int) by omega]
    exact ih
theorem laws_heldByteS_ev (n : Nat) (x : Int) (h0 : 0 ≤ x) (h1 : x + n ≤ 1000000000000) : Evp fun k => laws_heldByteS.f k (marksByte x n) x = some (x + n) := by
  have := laws_heldByteS_l0 (marksByte x n) (by rw [marksByte_len]; omega) x h0 (by rw [marksByte_len]; omega) (by rw [marksByte_len]) n 0 (by rw [marksByte_len]; omega)
  rw [marksByte_len] at this
  unfold laws_heldByteS.f
  simpa using this


def item8 (x : Int) : Bool := decide (-128 ≤ x ∧ x ≤ 127)
def itemsB (l : List Int) : Bool := l.all item8
theorem itemsB_iff {l : List Int} : itemsB l = true ↔ ∀ x ∈ l, -128 ≤ x ∧ x ≤ 127 := by
  unfold itemsB item8
  simp
theorem all_at {p : Int → Bool} {l : List Int} {i : Nat} (h : i < l.length) : (l.drop i).all p = (p l[i] && (l.drop (i + 1)).all p) := by
  rw [drop_at h, List.all_cons]
theorem laws_eqShape_self (h w c : Int) : laws_eqShape.f h w c h w c = some true := ite_yes rfl (ite_yes rfl (ite_yes rfl rfl))


theorem spec_l02Int8_eq (x : Int) : spec_l02Int8.f x = some (item8 x) := by
  unfold spec_l02Int8.f
  rw [spec_l01In_eq]
  rfl


theorem impl_areItems_1_eq (x : Int) : impl_areItems_1.f x = some (!item8 x) := by
  unfold impl_areItems_1.f
  rw [impl_in_eq]
  rfl


theorem indexItems_l0 (l : List Int) (hl : l.length ≤ 9223372036854775807) : ∀ (d i : Nat), i + d = l.length → ∃ r, (Evp fun k => slices_IndexFunc_int_int_impl_areItems_1.l0 k l (l.length : Int) (i : Int) = some r) ∧ (decide (r ≥ 0) = !(l.drop i).all item8)
  | 0, i, hi => ⟨-1, evSuc (evAll fun k => by
    simp only [slices_IndexFunc_int_int_impl_areItems_1.l0]
    rw [if_neg (by omega)]), by rw [List.drop_eq_nil_of_le (by omega)]; rfl⟩
  | d + 1, i, hi => by
    have hlt : i < l.length := by omega
    rw [all_at hlt]
    cases hx : item8 l[i] with
    | true =>
      obtain ⟨r, h1, h2⟩ := indexItems_l0 l hl d (i + 1) (by omega)
      refine ⟨r, evSuc (evMono h1 fun k ih => ?_), by simpa using h2⟩
      simp only [slices_IndexFunc_int_int_impl_areItems_1.l0]
      rw [if_pos (by omega), if_pos (by omega), if_pos (by omega), rd_eq hlt, impl_areItems_1_eq, hx]
      simp only [Option.bind_some]
      rw [if_neg (by simp), w64' (by omega) (by omega)]
      exact ih
    | false =>
      refine ⟨(i : Int), evSuc (evAll fun k => ?_), by simp⟩
      simp only [slices_IndexFunc_int_int_impl_areItems_1.l0]
      rw [if_pos (by omega), if_pos (by omega), if_pos (by omega), rd_eq hlt, impl_areItems_1_eq, hx]
      simp


theorem impl_areItems_ev (l : List Int) (hl : l.length ≤ 9223372036854775807) : Evp fun k => impl_areItems.f k l = some (itemsB l) := by
  obtain ⟨r, h1, h2⟩ := indexItems_l0 l hl l.length 0 (by omega)
  refine evMono h1 fun k e => ?_
  have e1 : slices_ContainsFunc_int_int_impl_areItems_1.f k l = some (decide (r ≥ 0)) := bind_of (f := fun t => some (decide (t ≥ 0))) e rfl
  have e2 : impl_areItems.f k l = some (!decide (r ≥ 0)) := bind_of (f := fun t => some (!t)) e1 rfl
  rw [e2, h2]
  simp [itemsB]


theorem rdLaw_eq {l : List S117} {i : Nat} (h : i < l.length) : rd_T117 l (i : Int) = l[i] := by
  unfold rd_T117
  simp [List.getD, h]
theorem rdImp_eq {l : List S73} {i : Nat} (h : i < l.length) : rd_T73 l (i : Int) = l[i] := by
  unfold rd_T73
  simp [List.getD, h]
def conv (x : S117) : S73 := ⟨x.f0, x.f1, x.f2, x.f3, x.f4, x.f5, x.f6, x.f7, x.f8⟩
/-- What the row tells of a layer's fields. -/
def wfLayer (x : S117) : Prop := (Lit.int .i64 x.f0).wf = true ∧ (Lit.int .i64 x.f1).wf = true ∧ (Lit.int .i64 x.f2).wf = true ∧ (Lit.int .i64 x.f3).wf = true ∧ (Lit.int .i64 x.f4).wf = true ∧ (Lit.int .i64 x.f5).wf = true ∧ (Lit.int .i64 x.f6).wf = true ∧ (x.f7.length ≤ maxLen ∧ ∀ y ∈ x.f7, (Lit.int .i64 y).wf = true) ∧ (x.f8.length ≤ maxLen ∧ ∀ y ∈ x.f8, (Lit.int .i64 y).wf = true)
theorem wfLayer.len {x : S117} (h : wfLayer x) : x.f7.length ≤ 9223372036854775807 ∧ x.f8.length ≤ 9223372036854775807 := by
  obtain ⟨-, -, -, -, -, -, -, h7, h8⟩ := h
  unfold maxLen at h7 h8
  exact ⟨h7.1, h8.1⟩
def wfLayers (l : List S117) : Prop := l.length ≤ maxLen ∧ ∀ x ∈ l, wfLayer x
/-- The lists of a layer, of layers: within the law's bound. -/
def smallL (x : S73) : Prop := (x.f7.length : Int) ≤ 1048576 ∧ (x.f8.length : Int) ≤ 1048576
def smallM (l : List S117) : Prop := (l.length : Int) ≤ 1048576 ∧ ∀ x ∈ l, smallL (conv x)
def smallI (l : List S73) : Prop := (l.length : Int) ≤ 1048576 ∧ ∀ x ∈ l, smallL x
theorem smallM.conv {l : List S117} (h : smallM l) : smallI (l.map Pure.conv) := by
  refine ⟨by simpa using h.1, fun x hx => ?_⟩
  obtain ⟨y, hy, rfl⟩ := List.mem_map.1 hx
  exact h.2 y hy
theorem laws_toLayerS_l0 (l : List S117) (h : smallM l) : ∀ (d i : Nat) (o : List S73), i + d = l.length → o.length = (l.map conv).length → o.take i = (l.map conv).take i → Evp fun k => laws_toLayerS.l0 k l o (i : Int) = some (l.map conv)
  | 0, i, o, hi, ho, ht => evSuc (evAll fun k => by
    simp only [laws_toLayerS.l0]
    rw [if_neg (by omega)]
    obtain rfl : i = (l.map conv).length := by simpa using hi
    rw [fill_end ho ht])
  | d + 1, i, o, hi, ho, ht => by
    have hlt : i < l.length := by omega
    have hlt' : i < (l.map conv).length := by simpa using hlt
    have hs := fill_step hlt' ho ht
    have hb := h.1
    have hx := h.2 l[i] (List.getElem_mem hlt)
    have hol : o.length = l.length := by simpa using ho
    refine evSuc (evMono (evAnd (laws_toLayer_ev l[i].f0 l[i].f1 l[i].f2 l[i].f3 l[i].f4 l[i].f5 l[i].f6 l[i].f7 l[i].f8 hx.1 hx.2) (laws_toLayerS_l0 l h d (i + 1) (o.set i (l.map conv)[i]) (by omega) hs.1 hs.2)) fun k ⟨e, ih⟩ => ?_)
    simp only [laws_toLayerS.l0]
    rw [if_pos (by omega), if_pos (by omega), rdLaw_eq hlt]
    refine bind_of e (ite_yes (by omega) ?_)
    rw [w64' (by omega) (by omega), Int.toNat_natCast]
    rw [List.getElem_map] at ih
    exact ih
theorem laws_toLayerS_ev (l : List S117) (h : smallM l) : Evp fun k => laws_toLayerS.f k l = some (l.map conv) :=
  evMono (laws_toLayerS_l0 l h l.length 0 (List.replicate l.length z73) (by omega) (by simp) (by simp)) fun k e => by
    have := h.1
    refine ite_yes (by omega) (ite_yes (by omega) ?_)
    rw [Int.toNat_natCast]
    exact e


theorem laws_toModel_ev (h w c : Int) (l : List S117) (hl : smallM l) : Evp fun k => laws_toModel.f k h w c l = some (h, w, c, l.map conv) :=
  evMono (laws_toLayerS_ev l hl) fun k e => bind_of (laws_toShape_eq h w c) (bind_of e rfl)


theorem laws_szLayerS_l0 (l : List S117) (hl : l.length ≤ 9223372036854775807) (hx : ∀ x ∈ l, x.f7.length ≤ 9223372036854775807 ∧ x.f8.length ≤ 9223372036854775807) : ∀ (d i : Nat) (left : Int), i + d = l.length → 0 ≤ left → left ≤ 1048576 → ∃ r, r ≤ 1048576 ∧ (0 ≤ r → ∀ x ∈ l.drop i, smallL (conv x)) ∧ Evp fun k => laws_szLayerS.l0 k l left (i : Int) = some r
  | 0, i, left, hi, h0, h1 => by
    refine ⟨left, h1, fun _ x hm => ?_, evSuc (evAll fun k => ?_)⟩
    · rw [List.drop_eq_nil_of_le (by omega)] at hm
      cases hm
    · simp only [laws_szLayerS.l0]
      rw [if_neg (by omega)]
  | d + 1, i, left, hi, h0, h1 => by
    have hlt : i < l.length := by omega
    have hb := hx l[i] (List.getElem_mem hlt)
    obtain ⟨r, hr, hr1, hr2⟩ := laws_szLayer_tells l[i].f0 l[i].f1 l[i].f2 l[i].f3 l[i].f4 l[i].f5 l[i].f6 l[i].f7 l[i].f8 left h0 h1 hb.1 hb.2
    by_cases hn : r < 0
    · refine ⟨-1, by omega, fun z => by omega, evSuc (evAll fun k => ?_)⟩
      simp only [laws_szLayerS.l0]
      rw [if_pos (by omega), if_pos (by omega), rdLaw_eq hlt]
      exact bind_of hr (ite_yes hn rfl)
    · obtain ⟨q, q1, q2, ih⟩ := laws_szLayerS_l0 l hl hx d (i + 1) r (by omega) (by omega) hr1
      refine ⟨q, q1, fun z x hm => ?_, evSuc (evMono ih fun k e => ?_)⟩
      · rw [List.drop_eq_getElem_cons hlt] at hm
        rcases List.mem_cons.1 hm with rfl | hm
        · exact hr2 (by omega)
        · exact q2 z x hm
      · simp only [laws_szLayerS.l0]
        rw [if_pos (by omega), if_pos (by omega), rdLaw_eq hlt]
        refine bind_of hr (ite_no hn ?_)
        rw [w64' (by omega) (by omega)]
        exact e
theorem laws_szLayerS_tells (l : List S117) (hl : l.length ≤ 9223372036854775807) (hx : ∀ x ∈ l, x.f7.length ≤ 9223372036854775807 ∧ x.f8.length ≤ 9223372036854775807) (left : Int) (h0 : 0 ≤ left) (h1 : left ≤ 1048576) : ∃ r, r ≤ 1048576 ∧ (0 ≤ r → smallM l) ∧ Evp fun k => laws_szLayerS.f k l left = some r := by
  by_cases hn : left - (l.length : Int) < 0
  · refine ⟨-1, by omega, fun z => by omega, evAll fun k => ?_⟩
    refine ite_yes ?_ rfl
    rw [w64' (by omega) (by omega)]
    exact hn
  · obtain ⟨r, r1, r2, e⟩ := laws_szLayerS_l0 l hl hx l.length 0 (left - l.length) (by omega) (by omega) (by omega)
    refine ⟨r, r1, fun z => ⟨by omega, by simpa using r2 z⟩, evMono e fun k e => ?_⟩
    have hw : wrap64 (left - (l.length : Int)) = left - l.length := w64' (by omega) (by omega)
    refine ite_no (by rw [hw]; exact hn) ?_
    rw [hw]
    exact e


theorem laws_szModel_tells (h w c : Int) (l : List S117) (left : Int) (h0 : 0 ≤ left) (h1 : left ≤ 1048576) (hl : l.length ≤ 9223372036854775807) (hx : ∀ x ∈ l, x.f7.length ≤ 9223372036854775807 ∧ x.f8.length ≤ 9223372036854775807) : ∃ r, r ≤ 1048576 ∧ (0 ≤ r → smallM l) ∧ Evp fun k => laws_szModel.f k h w c l left = some r := by
  obtain ⟨r, r1, r2, e⟩ := laws_szLayerS_tells l hl hx left h0 h1
  by_cases hn : r < 0
  · exact ⟨-1, by omega, fun z => by omega, evMono e fun k e => bind_of e (ite_yes hn rfl)⟩
  · exact ⟨r, r1, r2, evMono e fun k e => bind_of e (ite_no hn rfl)⟩


theorem laws_eqLayerS_l0 (l : List S73) (h : smallI l) : ∀ (d i : Nat), i + d = l.length → Evp fun k => laws_eqLayerS.l0 k l l (i : Int) = some true
  | 0, i, hi => evSuc (evAll fun k => by
    simp only [laws_eqLayerS.l0]
    rw [if_neg (by omega)])
  | d + 1, i, hi => by
    have hlt : i < l.length := by omega
    have hb := h.1
    have hx := h.2 l[i] (List.getElem_mem hlt)
    refine evSuc (evMono (evAnd (laws_eqLayer_self l[i].f0 l[i].f1 l[i].f2 l[i].f3 l[i].f4 l[i].f5 l[i].f6 l[i].f7 l[i].f8 hx.1 hx.2) (laws_eqLayerS_l0 l h d (i + 1) (by omega))) fun k ⟨e, ih⟩ => ?_)
    simp only [laws_eqLayerS.l0]
    rw [if_pos (by omega), if_pos (by omega), if_pos (by omega), rdImp_eq hlt]
    refine bind_of e (ite_yes rfl ?_)
    rw [w64' (by omega) (by omega)]
    exact ih
theorem laws_eqLayerS_self (l : List S73) (h : smallI l) : Evp fun k => laws_eqLayerS.f k l l = some true :=
  evMono (laws_eqLayerS_l0 l h l.length 0 (by omega)) fun k e => ite_yes rfl e


theorem laws_eqModel_self (h w c : Int) (l : List S73) (hl : smallI l) : Evp fun k => laws_eqModel.f k h w c l h w c l = some true :=
  evMono (laws_eqLayerS_self l hl) fun k e => bind_of (laws_eqShape_self h w c) (ite_yes rfl (bind_of e (ite_yes rfl rfl)))


theorem and_of {b c : Bool} {x y : Option Bool} (hx : b = true → x = some c) (hy : y = some false) : (if b = true then x else y) = some (b && c) := by
  cases b with
  | true => rw [if_pos rfl, hx rfl]; simp
  | false => rw [if_neg (by simp), hy]; simp
theorem and_ofP {P : Prop} [Decidable P] {c : Bool} {x y : Option Bool} (hx : P → x = some c) (hy : y = some false) : (if P then x else y) = some (decide P && c) := by
  by_cases h : P
  · rw [if_pos h, hx h]; simp [h]
  · rw [if_neg h, hy]; simp [h]
def rng (x lo hi : Int) : Bool := decide (lo ≤ x ∧ x ≤ hi)
theorem rng_iff {x lo hi : Int} : rng x lo hi = true ↔ lo ≤ x ∧ x ≤ hi := by simp [rng]
def biasB (l : List Int) : Bool := l.all fun x => rng x (-1000000) 1000000
def scaledB (ou mu sh ze : Int) (W B : List Int) (n : Int) : Bool :=
  rng ou 1 8 && (rng mu 0 2147483647 && (rng sh 0 31 && (rng ze (-128) 127 && (decide ((W.length : Int) = ou * n) && (itemsB W && (decide ((B.length : Int) = ou) && biasB B))))))
def bareB (ou mu sh : Int) (W B : List Int) : Bool := decide (ou = 0) && (decide (mu = 0) && (decide (sh = 0) && (decide ((W.length : Int) = 0) && decide ((B.length : Int) = 0))))
def noneB (sz st : Int) : Bool := decide (sz = 0) && decide (st = 0)
def windB (sz st h w : Int) : Bool := (rng sz 1 3 && (decide (sz ≤ h) && decide (sz ≤ w))) && rng st 1 2
def sh0 : Int × Int × Int × Bool := (0, 0, 0, false)
def outShape (h w c kd ou sz st mu sh ze : Int) (W B : List Int) : Int × Int × Int × Bool :=
  if shapeOk h w c = true then
    if kd = 0 then if h * w * c ≤ 64 ∧ noneB sz st = true ∧ scaledB ou mu sh ze W B (h * w * c) = true then (1, 1, ou, true) else sh0
    else if kd = 1 then if windB sz st h w = true ∧ (W.length : Int) ≤ 600 ∧ scaledB ou mu sh ze W B (sz * sz * c) = true then ((h - sz) / st + 1, (w - sz) / st + 1, ou, true) else sh0
    else if kd = 2 ∨ kd = 3 then if windB sz st h w = true ∧ bareB ou mu sh W B = true ∧ ze = 0 then ((h - sz) / st + 1, (w - sz) / st + 1, c, true) else sh0
    else if kd = 4 then if noneB sz st = true ∧ bareB ou mu sh W B = true ∧ rng ze (-128) 127 = true then (h, w, c, true) else sh0
    else if kd = 5 then if noneB sz st = true ∧ bareB ou mu sh W B = true ∧ ze = 0 ∧ h * w * c ≤ 8 then (1, 1, h * w * c, true) else sh0
    else sh0
  else sh0
theorem scaledB_iff {ou mu sh ze : Int} {W B : List Int} {n : Int} : scaledB ou mu sh ze W B n = true ↔ (1 ≤ ou ∧ ou ≤ 8) ∧ (0 ≤ mu ∧ mu ≤ 2147483647) ∧ (0 ≤ sh ∧ sh ≤ 31) ∧ (-128 ≤ ze ∧ ze ≤ 127) ∧ (W.length : Int) = ou * n ∧ itemsB W = true ∧ (B.length : Int) = ou ∧ biasB B = true := by
  simp only [scaledB, Bool.and_eq_true, rng_iff, decide_eq_true_eq]
theorem bareB_iff {ou mu sh : Int} {W B : List Int} : bareB ou mu sh W B = true ↔ ou = 0 ∧ mu = 0 ∧ sh = 0 ∧ (W.length : Int) = 0 ∧ (B.length : Int) = 0 := by
  simp only [bareB, Bool.and_eq_true, decide_eq_true_eq]
theorem noneB_iff {sz st : Int} : noneB sz st = true ↔ sz = 0 ∧ st = 0 := by
  simp only [noneB, Bool.and_eq_true, decide_eq_true_eq]
theorem windB_iff {sz st h w : Int} : windB sz st h w = true ↔ ((1 ≤ sz ∧ sz ≤ 3) ∧ sz ≤ h ∧ sz ≤ w) ∧ 1 ≤ st ∧ st ≤ 2 := by
  simp only [windB, Bool.and_eq_true, rng_iff, decide_eq_true_eq]
theorem shape_dims {h w c : Int} (hs : shapeOk h w c = true) : (1 ≤ h ∧ h ≤ 8) ∧ (1 ≤ w ∧ w ≤ 8) ∧ (1 ≤ c ∧ c ≤ 8) := by
  simpa [shapeOk] using hs
theorem win_dims {h sz st : Int} (h1 : h ≤ 8) (h2 : 1 ≤ sz) (h3 : sz ≤ h) (h4 : 1 ≤ st) : wrap64 ((wrap64 (Int.tdiv (wrap64 (h - sz)) st)) + 1) = (h - sz) / st + 1 := by
  rw [w64' (x := h - sz) (by omega) (by omega), tdiv_pos (by omega)]
  have h5 : 0 ≤ (h - sz) / st := Int.ediv_nonneg (by omega) (by omega)
  have h6 := Int.ediv_le_self (a := h - sz) st (by omega)
  rw [w64' (x := (h - sz) / st) (by omega) (by omega), w64' (by omega) (by omega)]
theorem small_mul {a n : Int} (h1 : 1 ≤ a) (h2 : a ≤ 8) (h3 : 0 ≤ n) (h4 : n ≤ 4096) : wrap64 (a * n) = a * n := by
  have := bnd_mul (a := a) (b := n) (A := 8) (B := 4096) (by omega) (by omega) (by omega) (by omega)
  exact w64' (by omega) (by omega)
theorem area_b {sz c : Int} (h1 : 1 ≤ sz) (h2 : sz ≤ 3) (h3 : 1 ≤ c) (h4 : c ≤ 8) : 0 ≤ sz * sz * c ∧ sz * sz * c ≤ 72 ∧ 0 ≤ sz * sz ∧ sz * sz ≤ 9 := by
  have a1 := Int.mul_nonneg (show 0 ≤ sz by omega) (show 0 ≤ sz by omega)
  have a2 := bnd_mul (a := sz) (b := sz) (A := 3) (B := 3) (by omega) (by omega) (by omega) (by omega)
  have a3 := Int.mul_nonneg a1 (show 0 ≤ c by omega)
  have a4 := bnd_mul (a := sz * sz) (b := c) (A := 9) (B := 8) (by omega) (by omega) (by omega) (by omega)
  omega


def valB (kd ze : Int) : Bool := if kd = 4 then rng ze (-128) 127 else decide (ze = 0)
def plainB (kd ou sz st mu sh ze : Int) (W B : List Int) (win wei : Bool) : Bool :=
  (if win = true then rng sz 1 3 && rng st 1 2 else noneB sz st) &&
  (if wei = true then rng ou 1 8 && (rng mu 0 2147483647 && (rng sh 0 31 && (rng ze (-128) 127 && (decide ((B.length : Int) = ou) && (biasB B && itemsB W))))) else bareB ou mu sh W B && valB kd ze)
theorem spec_l03Plain_l1 (kd ou sz st mu sh ze : Int) (W B : List Int) (hW : (W.length : Int) ≤ 9223372036854775807) : ∀ (d i : Nat), i + d = W.length → Evp fun k => spec_l03Plain.l1 k (i : Int) kd ou sz st mu sh ze W B = some ((W.drop i).all item8)
  | 0, i, hi => evSuc (evAll fun k => by
    simp only [spec_l03Plain.l1]
    rw [if_neg (by omega), List.drop_eq_nil_of_le (by omega)]
    rfl)
  | d + 1, i, hi => by
    have hlt : i < W.length := by omega
    refine evSuc (evMono (spec_l03Plain_l1 kd ou sz st mu sh ze W B hW d (i + 1) (by omega)) fun k ih => ?_)
    simp only [spec_l03Plain.l1]
    rw [if_pos (by omega), if_pos (by omega), rd_eq hlt, all_at hlt]
    refine bind_of (spec_l02Int8_eq _) (and_of (fun _ => ?_) rfl)
    rw [w64' (by omega) (by omega)]
    exact ih
theorem spec_l03Plain_l0 (kd ou sz st mu sh ze : Int) (W B : List Int) (hW : (W.length : Int) ≤ 9223372036854775807) (hB : (B.length : Int) ≤ 9223372036854775807) : ∀ (d i : Nat), i + d = B.length → Evp fun k => spec_l03Plain.l0 k (i : Int) kd ou sz st mu sh ze W B = some ((B.drop i).all (fun x => rng x (-1000000) 1000000) && itemsB W)
  | 0, i, hi => evSuc (evMono (spec_l03Plain_l1 kd ou sz st mu sh ze W B hW W.length 0 (by omega)) fun k e => by
    simp only [spec_l03Plain.l0]
    rw [if_neg (by omega), List.drop_eq_nil_of_le (by omega)]
    simpa [itemsB] using e)
  | d + 1, i, hi => by
    have hlt : i < B.length := by omega
    refine evSuc (evMono (spec_l03Plain_l0 kd ou sz st mu sh ze W B hW hB d (i + 1) (by omega)) fun k ih => ?_)
    simp only [spec_l03Plain.l0]
    rw [if_pos (by omega), if_pos (by omega), rd_eq hlt, all_at hlt, Bool.and_assoc]
    refine bind_of (spec_l01In_eq _ _ _) (and_of (fun _ => ?_) rfl)
    rw [w64' (by omega) (by omega)]
    exact ih
theorem spec_l03Plain_ev (kd ou sz st mu sh ze : Int) (W B : List Int) (win wei : Bool) (hW : (W.length : Int) ≤ 9223372036854775807) (hB : (B.length : Int) ≤ 9223372036854775807) : Evp fun k => spec_l03Plain.f k kd ou sz st mu sh ze W B win wei = some (plainB kd ou sz st mu sh ze W B win wei) := by
  have j1t : Evp fun k => spec_l03Plain.j1 k true kd ou sz st mu sh ze W B = some false := evSuc (evAll fun k => by
    simp only [spec_l03Plain.j1]
    exact ite_yes trivial rfl)
  have j4t : Evp fun k => spec_l03Plain.j4 k true kd ou sz st mu sh ze W B = some false := evSuc (evAll fun k => by
    simp only [spec_l03Plain.j4]
    exact ite_yes trivial rfl)
  have j1f : Evp fun k => spec_l03Plain.j1 k false kd ou sz st mu sh ze W B = some (biasB B && itemsB W) := evSuc (evMono (spec_l03Plain_l0 kd ou sz st mu sh ze W B hW hB B.length 0 (by omega)) fun k e => by
    simp only [spec_l03Plain.j1]
    refine ite_no (by simp) ?_
    rw [List.drop_zero] at e
    exact e)
  have j4f : Evp fun k => spec_l03Plain.j4 k false kd ou sz st mu sh ze W B = some (valB kd ze) := evSuc (evAll fun k => by
    simp only [spec_l03Plain.j4]
    refine ite_no (by simp) ?_
    unfold valB
    by_cases h4 : kd = 4
    · rw [if_pos h4, if_pos h4]
      exact bind_of (spec_l02Int8_eq _) rfl
    · rw [if_neg h4, if_neg h4]
      by_cases hz : ze = 0 <;> simp [hz])
  have j0 : Evp fun k => spec_l03Plain.j0 k wei kd ou sz st mu sh ze W B = some (if wei = true then rng ou 1 8 && (rng mu 0 2147483647 && (rng sh 0 31 && (rng ze (-128) 127 && (decide ((B.length : Int) = ou) && (biasB B && itemsB W))))) else bareB ou mu sh W B && valB kd ze) := evSuc (evMono (evAnd j1t (evAnd j1f (evAnd j4t j4f))) fun k ⟨a1, a2, a3, a4⟩ => by
    simp only [spec_l03Plain.j0]
    cases wei with
    | true =>
      rw [if_pos rfl, if_pos rfl]
      refine bind_of (spec_l01In_eq _ _ _) (and_of (fun _ => bind_of (spec_l01In_eq _ _ _) (and_of (fun _ => bind_of (spec_l01In_eq _ _ _) (and_of (fun _ => bind_of (spec_l02Int8_eq _) (and_of (fun _ => ?_) a1)) a1)) a1)) a1)
      by_cases hb : (B.length : Int) = ou
      · rw [show ((B.length : Int) != ou) = false by simp [hb], a2, decide_eq_true hb]
        rfl
      · rw [show ((B.length : Int) != ou) = true by simp [hb], a1, decide_eq_false hb]
        rfl
    | false =>
      rw [if_neg Bool.false_ne_true, if_neg Bool.false_ne_true]
      unfold bareB
      rw [Bool.and_assoc, Bool.and_assoc, Bool.and_assoc]
      refine and_ofP (fun _ => and_ofP (fun _ => and_ofP (fun _ => ?_) a3) a3) a3
      by_cases hw : (W.length : Int) > 0
      · rw [if_pos hw, a3, decide_eq_false (show ¬ (W.length : Int) = 0 by omega)]
        rfl
      · rw [if_neg hw, decide_eq_true (show (W.length : Int) = 0 by omega)]
        by_cases hb : (B.length : Int) > 0
        · rw [decide_eq_true hb, a3, decide_eq_false (show ¬ (B.length : Int) = 0 by omega)]
          rfl
        · rw [decide_eq_false hb, a4, decide_eq_true (show (B.length : Int) = 0 by omega)]
          rfl)
  refine evMono j0 fun k e => ?_
  unfold plainB spec_l03Plain.f
  cases win with
  | true =>
    rw [if_pos rfl, if_pos rfl, Bool.and_assoc]
    exact bind_of (spec_l01In_eq _ _ _) (and_of (fun _ => bind_of (spec_l01In_eq _ _ _) (and_of (fun _ => e) rfl)) rfl)
  | false =>
    rw [if_neg Bool.false_ne_true, if_neg Bool.false_ne_true]
    unfold noneB
    rw [Bool.and_assoc]
    exact and_ofP (fun _ => and_ofP (fun _ => e) rfl) rfl


theorem spec_OutShape_ev (h w c kd ou sz st mu sh ze : Int) (W B : List Int) (hW : (W.length : Int) ≤ 9223372036854775807) (hB : (B.length : Int) ≤ 9223372036854775807) : Evp fun k => spec_OutShape.f k h w c kd ou sz st mu sh ze W B = some (outShape h w c kd ou sz st mu sh ze W B) := by
  have j0t : Evp fun k => spec_OutShape.j0 k true h w c kd ou sz st mu sh ze W B 0 0 0 = some sh0 := evSuc (evAll fun k => by
    simp only [spec_OutShape.j0]
    exact ite_yes trivial rfl)
  by_cases hs : shapeOk h w c = true
  case neg =>
    refine evMono j0t fun k e => ?_
    unfold outShape
    rw [if_neg hs]
    exact bind_of (spec_ShapeOk_eq h w c) (ite_no hs e)
  by_cases hk : 0 ≤ kd ∧ kd ≤ 5
  case neg =>
    refine evMono j0t fun k e => ?_
    unfold outShape
    rw [if_pos hs, if_neg (by omega), if_neg (by omega), if_neg (by omega), if_neg (by omega), if_neg (by omega)]
    refine bind_of (spec_ShapeOk_eq h w c) (ite_yes hs (bind_of (spec_l01In_eq _ _ _) ?_))
    rw [decide_eq_false hk]
    exact e
  obtain ⟨dh, dw, dc⟩ := shape_dims hs
  have hsz := size_b hs
  have eS : spec_SizeOf.f h w c = some (h * w * c) := by
    rw [spec_SizeOf_eq]
    unfold sizeOf
    rw [if_pos hs]
  have pl := spec_l03Plain_ev kd ou sz st mu sh ze W B (rng kd 1 3) (decide (kd ≤ 1)) hW hB
  refine evMono (evSuc (p := fun k => spec_OutShape.j0 k false h w c kd ou sz st mu sh ze W B 0 0 0 = some (outShape h w c kd ou sz st mu sh ze W B)) (evMono (evAnd pl (evSuc (p := fun k => ∀ x y z, spec_OutShape.j1 k h w c kd ou sz st mu sh ze W B 0 0 0 x y z = (if kd = 0 then (if h * w * c > 64 then some sh0 else if (W.length : Int) = wrap64 (ou * (h * w * c)) then some (1, 1, ou, true) else some sh0) else if kd = 1 then (if (W.length : Int) = wrap64 (wrap64 (wrap64 (ou * sz) * sz) * c) then (if (W.length : Int) > 600 then some sh0 else some (x, y, ou, true)) else some sh0) else if kd = 5 then (if h * w * c > 8 then some sh0 else some (1, 1, h * w * c, true)) else some (x, y, z, true))) (evAll fun k x y z => ?_))) fun k ⟨e, j1⟩ => ?_)) fun k e => ?_
  · simp only [spec_OutShape.j1]
    rw [eS]
    simp only [Option.bind_some]
    rfl
  · simp only [spec_OutShape.j0]
    refine ite_no (by simp) (bind_of (spec_l01In_eq _ _ _) (bind_of e ?_))
    unfold outShape
    rw [if_pos hs]
    show (if plainB kd ou sz st mu sh ze W B (rng kd 1 3) (decide (kd ≤ 1)) = true then (if rng kd 1 3 = true then _ else _) else _) = _
    rcases (by omega : kd = 0 ∨ kd = 1 ∨ (kd = 2 ∨ kd = 3) ∨ kd = 4 ∨ kd = 5) with rfl | rfl | k23 | rfl | rfl
    · rw [show rng 0 1 3 = false from rfl, show decide ((0 : Int) ≤ 1) = true from rfl, if_pos (rfl : (0 : Int) = 0)]
      by_cases hp : plainB 0 ou sz st mu sh ze W B false true = true
      · rw [if_pos hp, if_neg Bool.false_ne_true, j1, if_pos (rfl : (0 : Int) = 0)]
        simp only [plainB, Bool.and_eq_true, rng_iff, decide_eq_true_eq, if_true, Bool.false_eq_true, if_false] at hp
        obtain ⟨p1, p2, p3, p4, p5, p6, p7, p8⟩ := hp
        rw [small_mul (by omega) (by omega) (by omega) (by omega)]
        by_cases c1 : h * w * c > 64
        · rw [if_pos c1, if_neg (fun z => by omega)]
        · rw [if_neg c1]
          by_cases c2 : (W.length : Int) = ou * (h * w * c)
          · rw [if_pos c2, if_pos ⟨by omega, p1, scaledB_iff.2 ⟨p2, p3, p4, p5, c2, p8, p6, p7⟩⟩]
          · rw [if_neg c2, if_neg (fun z => c2 (scaledB_iff.1 z.2.2).2.2.2.2.1)]
      · rw [if_neg hp, if_neg (fun z => hp ?_)]
        · rfl
        · obtain ⟨q1, q2, q3, q4, q5, q6, q7, q8⟩ := scaledB_iff.1 z.2.2
          simp only [plainB, Bool.and_eq_true, rng_iff, decide_eq_true_eq, if_true, Bool.false_eq_true, if_false]
          exact ⟨z.2.1, q1, q2, q3, q4, q7, q8, q6⟩
    · rw [show rng 1 1 3 = true from rfl, show decide ((1 : Int) ≤ 1) = true from rfl, if_neg (show ¬ (1 : Int) = 0 by decide), if_pos (rfl : (1 : Int) = 1)]
      by_cases hp : plainB 1 ou sz st mu sh ze W B true true = true
      · rw [if_pos hp, if_pos rfl]
        simp only [plainB, Bool.and_eq_true, rng_iff, decide_eq_true_eq, if_true] at hp
        obtain ⟨⟨p0, p1⟩, p2, p3, p4, p5, p6, p7, p8⟩ := hp
        have ar := area_b p0.1 p0.2 dc.1 dc.2
        by_cases c1 : sz > h
        · rw [if_pos c1, if_neg (fun z => by have := windB_iff.1 z.1; omega)]
          rfl
        rw [if_neg c1]
        by_cases c2 : sz > w
        · rw [if_pos c2, if_neg (fun z => by have := windB_iff.1 z.1; omega)]
          rfl
        rw [if_neg c2, if_neg (show ¬ st = 0 by omega), j1, if_neg (show ¬ (1 : Int) = 0 by decide), if_pos (rfl : (1 : Int) = 1), win_dims (by omega) (by omega) (by omega) (by omega), win_dims (by omega) (by omega) (by omega) (by omega)]
        have e3 : wrap64 (wrap64 (wrap64 (ou * sz) * sz) * c) = ou * (sz * sz * c) := by
          have b1 := bnd_mul (a := ou) (b := sz) (A := 8) (B := 3) (by omega) (by omega) (by omega) (by omega)
          have b2 := bnd_mul (a := ou * sz) (b := sz) (A := 24) (B := 3) (by omega) (by omega) (by omega) (by omega)
          have b3 := bnd_mul (a := ou * sz * sz) (b := c) (A := 72) (B := 8) (by omega) (by omega) (by omega) (by omega)
          rw [w64' (x := ou * sz) (by omega) (by omega), w64' (x := ou * sz * sz) (by omega) (by omega), w64' (by omega) (by omega)]
          ac_rfl
        rw [e3]
        by_cases c3 : (W.length : Int) = ou * (sz * sz * c)
        · rw [if_pos c3]
          by_cases c4 : (W.length : Int) > 600
          · rw [if_pos c4, if_neg (fun z => by omega)]
          · rw [if_neg c4, if_pos ⟨windB_iff.2 ⟨⟨p0, by omega, by omega⟩, p1⟩, by omega, scaledB_iff.2 ⟨p2, p3, p4, p5, c3, p8, p6, p7⟩⟩]
        · rw [if_neg c3, if_neg (fun z => c3 (scaledB_iff.1 z.2.2).2.2.2.2.1)]
      · rw [if_neg hp, if_neg (fun z => hp ?_)]
        · rfl
        · obtain ⟨q1, q2, q3, q4, q5, q6, q7, q8⟩ := scaledB_iff.1 z.2.2
          obtain ⟨⟨w1, w2, w3⟩, w4⟩ := windB_iff.1 z.1
          simp only [plainB, Bool.and_eq_true, rng_iff, decide_eq_true_eq, if_true]
          exact ⟨⟨w1, w4⟩, q1, q2, q3, q4, q7, q8, q6⟩
    · have hr : rng kd 1 3 = true := rng_iff.2 (by omega)
      have hd : decide (kd ≤ 1) = false := decide_eq_false (by omega)
      have hv : valB kd ze = decide (ze = 0) := by unfold valB; rw [if_neg (by omega)]
      rw [hr, hd, if_neg (show ¬ kd = 0 by omega), if_neg (show ¬ kd = 1 by omega), if_pos k23]
      by_cases hp : plainB kd ou sz st mu sh ze W B true false = true
      · rw [if_pos hp, if_pos rfl]
        simp only [plainB, Bool.and_eq_true, rng_iff, decide_eq_true_eq, if_true, Bool.false_eq_true, if_false, hv] at hp
        obtain ⟨⟨p0, p1⟩, p2, p3⟩ := hp
        by_cases c1 : sz > h
        · rw [if_pos c1, if_neg (fun z => by have := windB_iff.1 z.1; omega)]
          rfl
        rw [if_neg c1]
        by_cases c2 : sz > w
        · rw [if_pos c2, if_neg (fun z => by have := windB_iff.1 z.1; omega)]
          rfl
        rw [if_neg c2, if_neg (show ¬ st = 0 by omega), j1, if_neg (show ¬ kd = 0 by omega), if_neg (show ¬ kd = 1 by omega), if_neg (show ¬ kd = 5 by omega), win_dims (by omega) (by omega) (by omega) (by omega), win_dims (by omega) (by omega) (by omega) (by omega), if_pos ⟨windB_iff.2 ⟨⟨p0, by omega, by omega⟩, p1⟩, p2, p3⟩]
      · rw [if_neg hp, if_neg (fun z => hp ?_)]
        · rfl
        · obtain ⟨⟨w1, w2, w3⟩, w4⟩ := windB_iff.1 z.1
          simp only [plainB, Bool.and_eq_true, rng_iff, decide_eq_true_eq, if_true, Bool.false_eq_true, if_false, hv]
          exact ⟨⟨w1, w4⟩, z.2.1, z.2.2⟩
    · rw [show rng 4 1 3 = false from rfl, show decide ((4 : Int) ≤ 1) = false from rfl, if_neg (show ¬ (4 : Int) = 0 by decide), if_neg (show ¬ (4 : Int) = 1 by decide), if_neg (show ¬ ((4 : Int) = 2 ∨ (4 : Int) = 3) by decide), if_pos (rfl : (4 : Int) = 4)]
      by_cases hp : plainB 4 ou sz st mu sh ze W B false false = true
      · rw [if_pos hp, if_neg Bool.false_ne_true, j1, if_neg (show ¬ (4 : Int) = 0 by decide), if_neg (show ¬ (4 : Int) = 1 by decide), if_neg (show ¬ (4 : Int) = 5 by decide)]
        simp only [plainB, Bool.and_eq_true, Bool.false_eq_true, if_false] at hp
        rw [if_pos ⟨hp.1, hp.2.1, hp.2.2⟩]
      · rw [if_neg hp, if_neg (fun z => hp ?_)]
        · rfl
        · simp only [plainB, Bool.and_eq_true, Bool.false_eq_true, if_false]
          exact ⟨z.1, z.2.1, z.2.2⟩
    · rw [show rng 5 1 3 = false from rfl, show decide ((5 : Int) ≤ 1) = false from rfl, if_neg (show ¬ (5 : Int) = 0 by decide), if_neg (show ¬ (5 : Int) = 1 by decide), if_neg (show ¬ ((5 : Int) = 2 ∨ (5 : Int) = 3) by decide), if_neg (show ¬ (5 : Int) = 4 by decide), if_pos (rfl : (5 : Int) = 5)]
      have hv : valB 5 ze = decide (ze = 0) := rfl
      by_cases hp : plainB 5 ou sz st mu sh ze W B false false = true
      · rw [if_pos hp, if_neg Bool.false_ne_true, j1, if_neg (show ¬ (5 : Int) = 0 by decide), if_neg (show ¬ (5 : Int) = 1 by decide), if_pos (rfl : (5 : Int) = 5)]
        simp only [plainB, Bool.and_eq_true, Bool.false_eq_true, if_false, hv, decide_eq_true_eq] at hp
        by_cases c1 : h * w * c > 8
        · rw [if_pos c1, if_neg (fun z => by omega)]
        · rw [if_neg c1, if_pos ⟨hp.1, hp.2.1, hp.2.2, by omega⟩]
      · rw [if_neg hp, if_neg (fun z => hp ?_)]
        · rfl
        · simp only [plainB, Bool.and_eq_true, Bool.false_eq_true, if_false, hv, decide_eq_true_eq]
          exact ⟨z.1, z.2.1, z.2.2.1⟩
  · refine bind_of (spec_ShapeOk_eq h w c) (ite_yes hs (bind_of (spec_l01In_eq _ _ _) ?_))
    rw [decide_eq_true hk]
    exact e


theorem impl_Layer_isScaled_1_eq (x : Int) : impl_Layer_isScaled_1.f x = some (!rng x (-1000000) 1000000) := by
  unfold impl_Layer_isScaled_1.f
  rw [impl_in_eq]
  rfl


theorem indexBias_l0 (l : List Int) (hl : l.length ≤ 9223372036854775807) : ∀ (d i : Nat), i + d = l.length → ∃ r, (Evp fun k => slices_IndexFunc_int_int_impl_Layer_isScaled_1.l0 k l (l.length : Int) (i : Int) = some r) ∧ (decide (r ≥ 0) = !(l.drop i).all fun x => rng x (-1000000) 1000000)
  | 0, i, hi => ⟨-1, evSuc (evAll fun k => by
    simp only [slices_IndexFunc_int_int_impl_Layer_isScaled_1.l0]
    rw [if_neg (by omega)]), by rw [List.drop_eq_nil_of_le (by omega)]; rfl⟩
  | d + 1, i, hi => by
    have hlt : i < l.length := by omega
    rw [all_at hlt]
    cases hx : rng l[i] (-1000000) 1000000 with
    | true =>
      obtain ⟨r, h1, h2⟩ := indexBias_l0 l hl d (i + 1) (by omega)
      refine ⟨r, evSuc (evMono h1 fun k ih => ?_), by simpa using h2⟩
      simp only [slices_IndexFunc_int_int_impl_Layer_isScaled_1.l0]
      rw [if_pos (by omega), if_pos (by omega), if_pos (by omega), rd_eq hlt, impl_Layer_isScaled_1_eq, hx]
      simp only [Option.bind_some]
      rw [if_neg (by simp), w64' (by omega) (by omega)]
      exact ih
    | false =>
      refine ⟨(i : Int), evSuc (evAll fun k => ?_), by simp⟩
      simp only [slices_IndexFunc_int_int_impl_Layer_isScaled_1.l0]
      rw [if_pos (by omega), if_pos (by omega), if_pos (by omega), rd_eq hlt, impl_Layer_isScaled_1_eq, hx]
      simp


theorem impl_Layer_isScaled_ev (kd ou sz st mu sh ze : Int) (W B : List Int) (n : Int) (hW : (W.length : Int) ≤ 9223372036854775807) (hB : (B.length : Int) ≤ 9223372036854775807) (hn : 0 ≤ n ∧ n ≤ 4096) : Evp fun k => impl_Layer_isScaled.f k kd ou sz st mu sh ze W B n = some (scaledB ou mu sh ze W B n) := by
  obtain ⟨r, h1, h2⟩ := indexBias_l0 B (by omega) B.length 0 (by omega)
  refine evMono (evAnd (impl_areItems_ev W (by omega)) h1) fun k ⟨e1, e2⟩ => ?_
  have e3 : slices_ContainsFunc_int_int_impl_Layer_isScaled_1.f k B = some (!biasB B) := bind_of (f := fun t => some (decide (t ≥ 0))) e2 (by rw [h2]; rfl)
  unfold scaledB
  refine bind_of (impl_in_eq _ _ _) (and_of (fun z => bind_of (impl_in_eq _ _ _) (and_of (fun _ => bind_of (impl_in_eq _ _ _) (and_of (fun _ => bind_of (impl_in_eq _ _ _) (and_of (fun _ => ?_) rfl)) rfl)) rfl)) rfl)
  have z' : 1 ≤ ou ∧ ou ≤ 8 := of_decide_eq_true z
  rw [small_mul z'.1 z'.2 hn.1 hn.2]
  exact and_ofP (fun _ => bind_of e1 (and_of (fun _ => and_ofP (fun _ => bind_of e3 (by simp)) rfl) rfl)) rfl


theorem impl_Layer_isWindow_eq (kd ou sz st mu sh ze : Int) (W B : List Int) (h w c : Int) : impl_Layer_isWindow.f kd ou sz st mu sh ze W B h w c = some (windB sz st h w) := by
  refine bind_of (impl_in_eq _ _ _) ?_
  have e : decide (1 ≤ sz ∧ sz ≤ mn (mn 3 h) w) = (rng sz 1 3 && (decide (sz ≤ h) && decide (sz ≤ w))) := by
    rw [Bool.eq_iff_iff]
    simp only [rng, Bool.and_eq_true, decide_eq_true_eq]
    unfold mn
    repeat' split
    all_goals omega
  rw [e]
  exact and_of (fun _ => bind_of (impl_in_eq _ _ _) rfl) rfl
theorem impl_Layer_isBare_eq (kd ou sz st mu sh ze : Int) (W B : List Int) : impl_Layer_isBare.f kd ou sz st mu sh ze W B = some (bareB ou mu sh W B) :=
  and_ofP (fun _ => and_ofP (fun _ => and_ofP (fun _ => and_ofP (fun _ => rfl) rfl) rfl) rfl) rfl
theorem impl_Layer_hasNone_eq (kd ou sz st mu sh ze : Int) (W B : List Int) : impl_Layer_hasNone.f kd ou sz st mu sh ze W B = some (noneB sz st) :=
  and_ofP (fun _ => rfl) rfl
theorem impl_Layer_windows_eq (kd ou sz st mu sh ze : Int) (W B : List Int) (h w c x : Int) (h1 : h ≤ 8) (w1 : w ≤ 8) (hw : windB sz st h w = true) : impl_Layer_windows.f kd ou sz st mu sh ze W B h w c x = some ((h - sz) / st + 1, (w - sz) / st + 1, x) := by
  obtain ⟨⟨z1, z2, z3⟩, z4⟩ := windB_iff.1 hw
  refine ite_no (by omega) ?_
  rw [win_dims (by omega) (by omega) (by omega) (by omega), win_dims (by omega) (by omega) (by omega) (by omega)]
theorem ite3 {α : Type} {A B C : Prop} [Decidable A] [Decidable B] [Decidable C] {x y : α} : (if A ∧ B ∧ C then x else y) = (if A then (if B then (if C then x else y) else y) else y) := by
  by_cases a : A <;> by_cases b : B <;> by_cases c : C <;> simp [a, b, c]
theorem ite2 {α : Type} {A B : Prop} [Decidable A] [Decidable B] {x y : α} : (if A ∧ B then x else y) = (if A then (if B then x else y) else y) := by
  by_cases a : A <;> by_cases b : B <;> simp [a, b]
theorem ite_some {β : Type} {P : Prop} [Decidable P] {x y : Option β} {a b : β} (hx : P → x = some a) (hy : ¬ P → y = some b) : (if P then x else y) = some (if P then a else b) := by
  by_cases h : P
  · rw [if_pos h, if_pos h, hx h]
  · rw [if_neg h, if_neg h, hy h]
theorem impl_OutShape_ev (h w c kd ou sz st mu sh ze : Int) (W B : List Int) (hW : (W.length : Int) ≤ 9223372036854775807) (hB : (B.length : Int) ≤ 9223372036854775807) : Evp fun k => impl_OutShape.f k h w c kd ou sz st mu sh ze W B = some (outShape h w c kd ou sz st mu sh ze W B) := by
  by_cases hs : shapeOk h w c = true
  case neg =>
    refine evAll fun k => ?_
    unfold outShape
    rw [if_neg hs]
    exact bind_of (impl_ShapeOk_eq h w c) (ite_no hs rfl)
  obtain ⟨dh, dw, dc⟩ := shape_dims hs
  have hsz := size_b hs
  have eS : impl_SizeOf.f h w c = some (h * w * c) := by
    rw [impl_SizeOf_eq]
    unfold sizeOf
    rw [if_pos hs]
  unfold outShape
  rw [if_pos hs]
  by_cases k0 : kd = 0
  · rw [if_pos k0, ite3]
    exact evMono (impl_Layer_isScaled_ev kd ou sz st mu sh ze W B (h * w * c) hW hB (by omega)) fun k e => bind_of (impl_ShapeOk_eq h w c) (ite_yes hs (bind_of eS (ite_yes k0 (ite_some (fun _ => bind_of (impl_Layer_hasNone_eq _ _ _ _ _ _ _ _ _) (ite_some (fun _ => bind_of e (ite_some (fun _ => rfl) fun _ => rfl)) fun _ => rfl)) fun _ => rfl))))
  rw [if_neg k0]
  by_cases k1 : kd = 1
  · rw [if_pos k1]
    by_cases c1 : windB sz st h w = true
    · obtain ⟨⟨z1, z2, z3⟩, z4⟩ := windB_iff.1 c1
      have ar := area_b z1.1 z1.2 dc.1 dc.2
      rw [ite3, if_pos c1]
      refine evMono (impl_Layer_isScaled_ev kd ou sz st mu sh ze W B (sz * sz * c) hW hB (by omega)) fun k e => bind_of (impl_ShapeOk_eq h w c) (ite_yes hs (bind_of eS (ite_no k0 (ite_yes k1 (bind_of (impl_Layer_isWindow_eq _ _ _ _ _ _ _ _ _ _ _ _) (ite_yes c1 (ite_some (fun c2 => ?_) fun _ => rfl)))))))
      rw [show wrap64 ((wrap64 (sz * sz)) * c) = sz * sz * c by rw [w64' (x := sz * sz) (by omega) (by omega), w64' (by omega) (by omega)]]
      exact bind_of e (ite_some (fun c3 => bind_of (impl_Layer_windows_eq kd ou sz st mu sh ze W B h w c ou (by omega) (by omega) c1) rfl) fun _ => rfl)
    · refine evAll fun k => bind_of (impl_ShapeOk_eq h w c) (ite_yes hs (bind_of eS (ite_no k0 (ite_yes k1 (bind_of (impl_Layer_isWindow_eq _ _ _ _ _ _ _ _ _ _ _ _) (ite_no c1 ?_))))))
      rw [if_neg (fun z => c1 z.1)]
      rfl
  rw [if_neg k1]
  have jt : Evp fun k => impl_OutShape.j0 k (h * w * c) kd true h w c kd ou sz st mu sh ze W B = some (if windB sz st h w = true ∧ bareB ou mu sh W B = true ∧ ze = 0 then ((h - sz) / st + 1, (w - sz) / st + 1, c, true) else sh0) := evSuc (evAll fun k => by
    rw [ite3]
    simp only [impl_OutShape.j0]
    exact ite_yes trivial (bind_of (impl_Layer_isWindow_eq _ _ _ _ _ _ _ _ _ _ _ _) (ite_some (fun c1 => bind_of (impl_Layer_isBare_eq _ _ _ _ _ _ _ _ _) (ite_some (fun c2 => ite_some (fun c3 => bind_of (impl_Layer_windows_eq kd ou sz st mu sh ze W B h w c c (by omega) (by omega) c1) rfl) fun _ => rfl) fun _ => rfl)) fun _ => rfl)))
  by_cases k2 : kd = 2
  · rw [if_pos (Or.inl k2)]
    refine evMono jt fun k e => bind_of (impl_ShapeOk_eq h w c) (ite_yes hs (bind_of eS (ite_no k0 (ite_no k1 (ite_yes k2 ?_)))))
    rw [show (kd == 2) = true by simp [k2]]
    exact e
  by_cases k3 : kd = 3
  · rw [if_pos (Or.inr k3)]
    refine evMono jt fun k e => bind_of (impl_ShapeOk_eq h w c) (ite_yes hs (bind_of eS (ite_no k0 (ite_no k1 (ite_no k2 ?_)))))
    rw [show (kd == 3) = true by simp [k3]]
    exact e
  rw [if_neg (show ¬ (kd = 2 ∨ kd = 3) by omega)]
  refine evMono (evSuc (p := fun k => impl_OutShape.j0 k (h * w * c) kd false h w c kd ou sz st mu sh ze W B = some (if kd = 4 then if noneB sz st = true ∧ bareB ou mu sh W B = true ∧ rng ze (-128) 127 = true then (h, w, c, true) else sh0
    else if kd = 5 then if noneB sz st = true ∧ bareB ou mu sh W B = true ∧ ze = 0 ∧ h * w * c ≤ 8 then (1, 1, h * w * c, true) else sh0
    else sh0)) (evAll fun k => ?_)) fun k e => bind_of (impl_ShapeOk_eq h w c) (ite_yes hs (bind_of eS (ite_no k0 (ite_no k1 (ite_no k2 ?_)))))
  · rw [ite3, ite3, ite2]
    simp only [impl_OutShape.j0]
    exact ite_no Bool.false_ne_true (ite_some (fun _ => bind_of (impl_Layer_hasNone_eq _ _ _ _ _ _ _ _ _) (ite_some (fun _ => bind_of (impl_Layer_isBare_eq _ _ _ _ _ _ _ _ _) (ite_some (fun _ => bind_of (impl_in_eq _ _ _) (ite_some (fun _ => rfl) fun _ => rfl)) fun _ => rfl)) fun _ => rfl)) fun _ =>
      ite_some (fun _ => bind_of (impl_Layer_hasNone_eq _ _ _ _ _ _ _ _ _) (ite_some (fun _ => bind_of (impl_Layer_isBare_eq _ _ _ _ _ _ _ _ _) (ite_some (fun _ => ite_some (fun _ => ite_some (fun _ => rfl) fun _ => rfl) fun _ => rfl) fun _ => rfl)) fun _ => rfl)) fun _ => rfl)
  · rw [show (kd == 3) = false by simp [k3]]
    exact e


theorem rdShape_eq {l : List S25} {i : Nat} (h : i < l.length) : rd_T25 l (i : Int) = l[i] := by
  unfold rd_T25
  simp [List.getD, h]
def outOf (s : S25) (x : S73) : Int × Int × Int × Bool := outShape s.f0 s.f1 s.f2 x.f0 x.f1 x.f2 x.f3 x.f4 x.f5 x.f6 x.f7 x.f8
def shapeOf (X : Int × Int × Int × Bool) : S25 := ⟨X.1, X.2.1, X.2.2.1⟩
def shapesOf (s : S25) : List S73 → Option (List S25)
  | [] => some []
  | x :: l => if (outOf s x).2.2.2 = true then (shapesOf (shapeOf (outOf s x)) l).map (shapeOf (outOf s x) :: ·) else none
def withAcc (acc : List S25) : Option (List S25) → List S25 × Bool
  | some o => (acc ++ o, true)
  | none => ([], false)
def modelShapes (s : S25) (l : List S73) : List S25 × Bool := if 1 ≤ (l.length : Int) ∧ (l.length : Int) ≤ 6 then withAcc [s] (shapesOf s l) else ([], false)
theorem withAcc_cons {acc : List S25} {t : S25} (o : Option (List S25)) : withAcc acc (o.map (t :: ·)) = withAcc (acc ++ [t]) o := by
  cases o <;> simp [withAcc]
theorem outOf_bad {s : S25} (x : S73) (h : ¬ shapeOk s.f0 s.f1 s.f2 = true) : (outOf s x).2.2.2 = false := by
  unfold outOf outShape
  rw [if_neg h]
  rfl
theorem spec_l04Shapes_l0 (h w c : Int) (l : List S73) (hl : smallI l) : ∀ (d i : Nat) (acc : List S25) (s : S25), i + d = l.length → acc.length = i → Evp fun k => spec_l04Shapes.l0 k (acc ++ [s]) (i : Int) h w c l = some (withAcc (acc ++ [s]) (shapesOf s (l.drop i)))
  | 0, i, acc, s, hi, ha => evSuc (evAll fun k => by
    simp only [spec_l04Shapes.l0]
    rw [if_neg (by omega), List.drop_eq_nil_of_le (by omega)]
    simp [shapesOf, withAcc])
  | d + 1, i, acc, s, hi, ha => by
    have hlt : i < l.length := by omega
    have hb := hl.1
    have hx := hl.2 l[i] (List.getElem_mem hlt)
    have hr : rd_T25 (acc ++ [s]) (i : Int) = s := by
      rw [rdShape_eq (by simp; omega)]
      subst ha
      simp
    rw [List.drop_eq_getElem_cons hlt]
    simp only [shapesOf]
    have e0 := spec_OutShape_ev s.f0 s.f1 s.f2 l[i].f0 l[i].f1 l[i].f2 l[i].f3 l[i].f4 l[i].f5 l[i].f6 l[i].f7 l[i].f8 (by have := hx.1; omega) (by have := hx.2; omega)
    by_cases hok : (outOf s l[i]).2.2.2 = true
    · rw [if_pos hok, withAcc_cons]
      refine evSuc (evMono (evAnd e0 (spec_l04Shapes_l0 h w c l hl d (i + 1) (acc ++ [s]) (shapeOf (outOf s l[i])) (by omega) (by simp; omega))) fun k ⟨e, ih⟩ => ?_)
      simp only [spec_l04Shapes.l0]
      rw [if_pos (by omega), if_pos (by omega), if_pos (by simp; omega), hr, rdImp_eq hlt]
      refine bind_of e (ite_yes hok (ite_yes (by simp; omega) ?_))
      rw [w64' (by omega) (by omega)]
      exact ih
    · rw [if_neg hok]
      refine evSuc (evMono e0 fun k e => ?_)
      simp only [spec_l04Shapes.l0]
      rw [if_pos (by omega), if_pos (by omega), if_pos (by simp; omega), hr, rdImp_eq hlt]
      exact bind_of e (ite_no hok rfl)
theorem spec_l04Shapes_ev (s : S25) (l : List S73) (hl : smallI l) : Evp fun k => spec_l04Shapes.f k s.f0 s.f1 s.f2 l = some (modelShapes s l) := by
  have jt : Evp fun k => spec_l04Shapes.j0 k [s] true s.f0 s.f1 s.f2 l = some ([], false) := evSuc (evAll fun k => by
    simp only [spec_l04Shapes.j0]
    exact ite_yes trivial rfl)
  have jf : Evp fun k => spec_l04Shapes.j0 k [s] false s.f0 s.f1 s.f2 l = some (withAcc [s] (shapesOf s l)) := evSuc (evMono (spec_l04Shapes_l0 s.f0 s.f1 s.f2 l hl l.length 0 [] s (by omega) rfl) fun k e => by
    simp only [spec_l04Shapes.j0]
    exact ite_no Bool.false_ne_true e)
  unfold modelShapes
  by_cases hn : 1 ≤ (l.length : Int) ∧ (l.length : Int) ≤ 6
  · rw [if_pos hn]
    by_cases hs : shapeOk s.f0 s.f1 s.f2 = true
    · refine evMono jf fun k e => bind_of (a := [s]) rfl (bind_of (spec_ShapeOk_eq _ _ _) (ite_yes hs (bind_of (spec_l01In_eq _ _ _) ?_)))
      rw [decide_eq_true hn]
      exact e
    · have e0 : shapesOf s l = none := by
        cases l with
        | nil => simp at hn
        | cons x l =>
          simp only [shapesOf]
          rw [if_neg (by rw [outOf_bad x hs]; exact Bool.false_ne_true)]
      rw [e0]
      exact evMono jt fun k e => bind_of (a := [s]) rfl (bind_of (spec_ShapeOk_eq _ _ _) (ite_no hs e))
  · rw [if_neg hn]
    by_cases hs : shapeOk s.f0 s.f1 s.f2 = true
    · refine evMono jt fun k e => bind_of (a := [s]) rfl (bind_of (spec_ShapeOk_eq _ _ _) (ite_yes hs (bind_of (spec_l01In_eq _ _ _) ?_)))
      rw [decide_eq_false hn]
      exact e
    · exact evMono jt fun k e => bind_of (a := [s]) rfl (bind_of (spec_ShapeOk_eq _ _ _) (ite_no hs e))


theorem impl_Model_shapes_l0 (l : List S73) (hl : smallI l) : ∀ (d i : Nat) (acc : List S25) (s : S25), i + d = l.length → acc.length = i + 1 → Evp fun k => impl_Model_shapes.l0 k acc l (l.length : Int) (i : Int) s.f0 s.f1 s.f2 = some (withAcc acc (shapesOf s (l.drop i)))
  | 0, i, acc, s, hi, ha => evSuc (evAll fun k => by
    simp only [impl_Model_shapes.l0]
    rw [if_neg (by omega), List.drop_eq_nil_of_le (by omega)]
    simp [shapesOf, withAcc])
  | d + 1, i, acc, s, hi, ha => by
    have hlt : i < l.length := by omega
    have hb := hl.1
    have hx := hl.2 l[i] (List.getElem_mem hlt)
    rw [List.drop_eq_getElem_cons hlt]
    simp only [shapesOf]
    have e0 := impl_OutShape_ev s.f0 s.f1 s.f2 l[i].f0 l[i].f1 l[i].f2 l[i].f3 l[i].f4 l[i].f5 l[i].f6 l[i].f7 l[i].f8 (by have := hx.1; omega) (by have := hx.2; omega)
    by_cases hok : (outOf s l[i]).2.2.2 = true
    · rw [if_pos hok, withAcc_cons]
      refine evSuc (evMono (evAnd e0 (impl_Model_shapes_l0 l hl d (i + 1) (acc ++ [shapeOf (outOf s l[i])]) (shapeOf (outOf s l[i])) (by omega) (by simp; omega))) fun k ⟨e, ih⟩ => ?_)
      simp only [impl_Model_shapes.l0]
      rw [if_pos (by omega), if_pos (by omega), if_pos (by omega), rdImp_eq hlt]
      refine bind_of e (ite_yes hok (ite_yes (by omega) ?_))
      rw [w64' (by omega) (by omega)]
      exact ih
    · rw [if_neg hok]
      refine evSuc (evMono e0 fun k e => ?_)
      simp only [impl_Model_shapes.l0]
      rw [if_pos (by omega), if_pos (by omega), if_pos (by omega), rdImp_eq hlt]
      exact bind_of e (ite_no hok rfl)
theorem impl_Model_shapes_ev (s : S25) (l : List S73) (hl : smallI l) : Evp fun k => impl_Model_shapes.f k s.f0 s.f1 s.f2 l = some (withAcc [s] (shapesOf s l)) :=
  evMono (impl_Model_shapes_l0 l hl l.length 0 [s] s (by omega) rfl) fun k e => e


theorem impl_ModelOk_ev (s : S25) (l : List S73) (hl : smallI l) : Evp fun k => impl_ModelOk.f k s.f0 s.f1 s.f2 l = some (modelShapes s l).2 := by
  unfold modelShapes
  by_cases hn : 1 ≤ (l.length : Int) ∧ (l.length : Int) ≤ 6
  · rw [if_pos hn]
    exact evMono (impl_Model_shapes_ev s l hl) fun k e => bind_of (impl_in_eq _ _ _) (ite_yes (decide_eq_true hn) (bind_of e rfl))
  · rw [if_neg hn]
    exact evAll fun k => bind_of (impl_in_eq _ _ _) (ite_no (fun z => hn (of_decide_eq_true z)) rfl)


theorem spec_ModelOk_ev (s : S25) (l : List S73) (hl : smallI l) : Evp fun k => spec_ModelOk.f k s.f0 s.f1 s.f2 l = some (modelShapes s l).2 :=
  evMono (spec_l04Shapes_ev s l hl) fun k e => bind_of e rfl


theorem marksTot_le : ∀ (l : List S73), (∀ x ∈ l, smallL x) → marksTot l ≤ l.length * 2097159
  | [], _ => by simp [marksTot]
  | x :: l, h => by
    have h1 := marksTot_le l fun y hy => h y (by simp [hy])
    have h2 := h x (by simp)
    unfold smallL at h2
    simp only [marksTot, List.length_cons]
    omega
theorem laws_markModel_ok (h w c : Int) (l : List S73) (hl : smallI l) : ∃ m, 0 ≤ m ∧ m ≤ 2199030661121 ∧ laws_markModel.f h w c l 1 = some m := by
  have h1 := marksTot_le l hl.2
  have h2 := marksTot_nn l
  have h3 := hl.1
  exact ⟨1 + marksTot l, by omega, by omega, ite_yes (by omega) rfl⟩


def inW (y : Int) : Prop := -1099511627776 ≤ y ∧ y ≤ 1099511627775
def numsL (x : S73) : List Int := [x.f0, x.f1, x.f2, x.f3, x.f4, x.f5, x.f6]
def wideL (x : S73) : Prop := (∀ y ∈ numsL x, inW y) ∧ (∀ y ∈ x.f7, inW y) ∧ ∀ y ∈ x.f8, inW y
def layerBytes (x : S73) : List Int := ((((numsL x).flatMap putWide ++ putWide (x.f7.length : Int)) ++ x.f7.flatMap putWide) ++ putWide (x.f8.length : Int)) ++ x.f8.flatMap putWide
def headBytes (s : S25) (n : Int) : List Int := [80, 77, 49] ++ [s.f0, s.f1, s.f2, n].flatMap putWide
def encBytes (s : S25) (l : List S73) : List Int := headBytes s (l.length : Int) ++ l.flatMap layerBytes
def encFull (s : S25) (l : List S73) : List Int := encBytes s l ++ putWide (sumOf (encBytes s l))
def encodeM (s : S25) (l : List S73) : List Int × Bool := if (modelShapes s l).2 = true then if ((encFull s l).length : Int) > 6000 then ([], false) else (encFull s l, true) else ([], false)
theorem putGo_bytes : ∀ (d : Nat) (u : Int), isBytes (putGo d u)
  | 0, u => fun x hx => by
    simp only [putGo, List.mem_singleton] at hx
    omega
  | d + 1, u => fun x hx => by
    unfold putGo at hx
    split at hx
    · rw [List.mem_cons] at hx
      rcases hx with rfl | hx
      · omega
      · exact putGo_bytes d (u / 128) x hx
    · simp only [List.mem_singleton] at hx
      omega
theorem bytes_app {a b : List Int} (ha : isBytes a) (hb : isBytes b) : isBytes (a ++ b) := fun x hx => (List.mem_append.1 hx).elim (ha x) (hb x)
theorem bytes_flat {α : Type} {f : α → List Int} (hf : ∀ a, isBytes (f a)) (l : List α) : isBytes (l.flatMap f) := fun x hx => by
  obtain ⟨a, _, h⟩ := List.mem_flatMap.1 hx
  exact hf a x h
theorem layerBytes_bytes (x : S73) : isBytes (layerBytes x) := by
  unfold layerBytes putWide
  exact bytes_app (bytes_app (bytes_app (bytes_app (bytes_flat (fun _ => putGo_bytes _ _) _) (putGo_bytes _ _)) (bytes_flat (fun _ => putGo_bytes _ _) _)) (putGo_bytes _ _)) (bytes_flat (fun _ => putGo_bytes _ _) _)
theorem encBytes_bytes (s : S25) (l : List S73) : isBytes (encBytes s l) := by
  unfold encBytes headBytes putWide
  refine bytes_app (bytes_app (fun x hx => ?_) (bytes_flat (fun _ => putGo_bytes _ _) _)) (bytes_flat layerBytes_bytes l)
  simp only [List.mem_cons, List.not_mem_nil, or_false] at hx
  omega
theorem flat_len : ∀ (l : List Int), (l.flatMap putWide).length ≤ 7 * l.length
  | [] => by simp
  | x :: l => by
    have := flat_len l
    have := putWide_len x
    rw [List.flatMap_cons, List.length_append, List.length_cons]
    omega
theorem layerBytes_len {x : S73} (h : smallL x) : (layerBytes x).length ≤ 14680127 := by
  unfold smallL at h
  have h1 := flat_len (numsL x)
  have h2 := flat_len x.f7
  have h3 := flat_len x.f8
  have h4 := putWide_len (x.f7.length : Int)
  have h5 := putWide_len (x.f8.length : Int)
  have h6 : (numsL x).length = 7 := rfl
  unfold layerBytes
  simp only [List.length_append]
  omega
theorem headBytes_len (s : S25) (n : Int) : (headBytes s n).length ≤ 31 := by
  have h1 := flat_len [s.f0, s.f1, s.f2, n]
  unfold headBytes
  rw [List.length_append]
  simp only [List.length_cons, List.length_nil] at h1 ⊢
  omega
theorem putGo_pos : ∀ (d : Nat) (u : Int), 0 < (putGo d u).length
  | 0, u => by simp [putGo]
  | d + 1, u => by
    unfold putGo
    split <;> simp
theorem putWide_pos (x : Int) : 0 < (putWide x).length := by
  unfold putWide
  exact putGo_pos _ _
theorem headBytes_long (s : S25) (n : Int) : 3 < (headBytes s n).length := by
  have := putWide_pos s.f0
  unfold headBytes
  simp only [List.length_append, List.flatMap_cons, List.length_cons, List.length_nil]
  omega
theorem fold_b : ∀ (l : List Int) (s : Int), isBytes l → 0 ≤ s → s < 1000003 → 0 ≤ l.foldl sumStep s ∧ l.foldl sumStep s < 1000003
  | [], s, _, h0, h1 => ⟨h0, h1⟩
  | x :: l, s, hb, h0, h1 => by
    have hx := hb x (by simp)
    have := sumStep_b s x (by omega)
    exact fold_b l (sumStep s x) (fun y hy => hb y (by simp [hy])) this.1 this.2
theorem sumOf_w {l : List Int} (hb : isBytes l) : inW (sumOf l) := by
  have := fold_b l 1 hb (by omega) (by omega)
  unfold inW sumOf
  omega
theorem out_wide {s : S25} {x : S73} (h : (outOf s x).2.2.2 = true) : wideL x := by
  have small : ∀ y : Int, -2147483648 ≤ y → y ≤ 2147483647 → inW y := fun y a b => ⟨by omega, by omega⟩
  have none : ∀ l : List Int, (l.length : Int) = 0 → ∀ y ∈ l, inW y := fun l hl y hy => by
    have : l = [] := List.eq_nil_of_length_eq_zero (by omega)
    rw [this] at hy
    simp at hy
  have six : ∀ (a b c d e f g : Int), (a = 0 ∨ a = 1 ∨ a = 2 ∨ a = 3 ∨ a = 4 ∨ a = 5) → -2147483648 ≤ b ∧ b ≤ 2147483647 → -2147483648 ≤ c ∧ c ≤ 2147483647 → -2147483648 ≤ d ∧ d ≤ 2147483647 → -2147483648 ≤ e ∧ e ≤ 2147483647 → -2147483648 ≤ f ∧ f ≤ 2147483647 → -2147483648 ≤ g ∧ g ≤ 2147483647 → ∀ y ∈ [a, b, c, d, e, f, g], inW y := fun a b c d e f g h1 h2 h3 h4 h5 h6 h7 y hy => by
    simp only [List.mem_cons, List.not_mem_nil, or_false] at hy
    exact small y (by omega) (by omega)
  unfold outOf outShape at h
  have no : ∀ {P : Prop}, sh0.2.2.2 = true → P := fun e => by unfold sh0 at e; simp at e
  by_cases hs : shapeOk s.f0 s.f1 s.f2 = true
  · rw [if_pos hs] at h
    by_cases k0 : x.f0 = 0
    · rw [if_pos k0] at h
      split at h
      · rename_i g
        obtain ⟨g1, g2, g3, g4, g5, g6, g7, g8⟩ := scaledB_iff.1 g.2.2
        obtain ⟨n1, n2⟩ := noneB_iff.1 g.2.1
        refine ⟨six x.f0 x.f1 x.f2 x.f3 x.f4 x.f5 x.f6 (by omega) (by omega) (by omega) (by omega) (by omega) (by omega) (by omega), fun y hy => ?_, fun y hy => ?_⟩
        · have := itemsB_iff.1 g6 y hy
          exact small y (by omega) (by omega)
        · have := rng_iff.1 (List.all_eq_true.1 g8 y hy)
          exact small y (by omega) (by omega)
      · exact no h
    rw [if_neg k0] at h
    by_cases k1 : x.f0 = 1
    · rw [if_pos k1] at h
      split at h
      · rename_i g
        obtain ⟨g1, g2, g3, g4, g5, g6, g7, g8⟩ := scaledB_iff.1 g.2.2
        obtain ⟨n1, n2⟩ := windB_iff.1 g.1
        refine ⟨six x.f0 x.f1 x.f2 x.f3 x.f4 x.f5 x.f6 (by omega) (by omega) (by omega) (by omega) (by omega) (by omega) (by omega), fun y hy => ?_, fun y hy => ?_⟩
        · have := itemsB_iff.1 g6 y hy
          exact small y (by omega) (by omega)
        · have := rng_iff.1 (List.all_eq_true.1 g8 y hy)
          exact small y (by omega) (by omega)
      · exact no h
    rw [if_neg k1] at h
    by_cases k2 : x.f0 = 2 ∨ x.f0 = 3
    · rw [if_pos k2] at h
      split at h
      · rename_i g
        obtain ⟨g1, g2, g3, g4, g5⟩ := bareB_iff.1 g.2.1
        obtain ⟨n1, n2⟩ := windB_iff.1 g.1
        exact ⟨six x.f0 x.f1 x.f2 x.f3 x.f4 x.f5 x.f6 (by omega) (by omega) (by omega) (by omega) (by omega) (by omega) (by omega), none x.f7 g4, none x.f8 g5⟩
      · exact no h
    rw [if_neg k2] at h
    by_cases k4 : x.f0 = 4
    · rw [if_pos k4] at h
      split at h
      · rename_i g
        obtain ⟨g1, g2, g3, g4, g5⟩ := bareB_iff.1 g.2.1
        obtain ⟨n1, n2⟩ := noneB_iff.1 g.1
        have := rng_iff.1 g.2.2
        exact ⟨six x.f0 x.f1 x.f2 x.f3 x.f4 x.f5 x.f6 (by omega) (by omega) (by omega) (by omega) (by omega) (by omega) (by omega), none x.f7 g4, none x.f8 g5⟩
      · exact no h
    rw [if_neg k4] at h
    by_cases k5 : x.f0 = 5
    · rw [if_pos k5] at h
      split at h
      · rename_i g
        obtain ⟨g1, g2, g3, g4, g5⟩ := bareB_iff.1 g.2.1
        obtain ⟨n1, n2⟩ := noneB_iff.1 g.1
        exact ⟨six x.f0 x.f1 x.f2 x.f3 x.f4 x.f5 x.f6 (by omega) (by omega) (by omega) (by omega) (by omega) (by omega) (by omega), none x.f7 g4, none x.f8 g5⟩
      · exact no h
    rw [if_neg k5] at h
    exact no h
  · rw [if_neg hs] at h
    exact no h
theorem shapes_wide : ∀ (l : List S73) (s : S25) (o : List S25), shapesOf s l = some o → ∀ x ∈ l, wideL x
  | [], s, o, h, x, hx => by simp at hx
  | y :: l, s, o, h, x, hx => by
    simp only [shapesOf] at h
    split at h
    · rename_i g
      obtain ⟨p, hp, _⟩ := Option.map_eq_some_iff.1 h
      rcases List.mem_cons.1 hx with rfl | hx
      · exact out_wide g
      · exact shapes_wide l _ p hp x hx
    · cases h
theorem model_wide {s : S25} {l : List S73} (h : (modelShapes s l).2 = true) : (1 ≤ l.length ∧ l.length ≤ 6) ∧ (inW s.f0 ∧ inW s.f1 ∧ inW s.f2) ∧ ∀ x ∈ l, wideL x := by
  unfold modelShapes at h
  by_cases g : 1 ≤ (l.length : Int) ∧ (l.length : Int) ≤ 6
  · rw [if_pos g] at h
    cases e : shapesOf s l with
    | none => rw [e] at h; simp [withAcc] at h
    | some o =>
      refine ⟨by omega, ?_, shapes_wide l s o e⟩
      match l, e with
      | [], _ => simp at g
      | x :: l, e =>
        by_cases hs : shapeOk s.f0 s.f1 s.f2 = true
        · obtain ⟨⟨a1, a2⟩, ⟨a3, a4⟩, a5, a6⟩ := shape_dims hs
          exact ⟨⟨by omega, by omega⟩, ⟨by omega, by omega⟩, ⟨by omega, by omega⟩⟩
        · simp only [shapesOf] at e
          rw [if_neg (by rw [outOf_bad x hs]; simp)] at e
          cases e
  · rw [if_neg g] at h
    cases h
theorem spec_l05Put_l1 (l : List Int) (j : Int) (b : List Int) (hb : b.length ≤ 7) (r : List Int) : ∀ (d i : Nat) (o : List Int), i + d = b.length → o.length + d ≤ 1000000000 → (Evp fun k => spec_l05Put.l0 k (o ++ b.drop i) l (wrap64 (j + 1)) = some r) → Evp fun k => spec_l05Put.l1 k o l j b (i : Int) = some r
  | 0, i, o, hi, ho, hn => evSuc (evMono hn fun k e => by
    simp only [spec_l05Put.l1]
    rw [List.drop_eq_nil_of_le (by omega), List.append_nil] at e
    exact ite_no (by omega) e)
  | d + 1, i, o, hi, ho, hn => by
    have hlt : i < b.length := by omega
    rw [drop_at hlt] at hn
    refine evSuc (evMono (spec_l05Put_l1 l j b hb r d (i + 1) (o ++ [b[i]]) (by omega) (by simp; omega) (by simpa using hn)) fun k e => ?_)
    simp only [spec_l05Put.l1]
    refine ite_yes (by omega) (ite_yes (by omega) (ite_yes (by omega) ?_))
    rw [rd_eq hlt, w64' (x := (i : Int) + 1) (by omega) (by omega)]
    exact e
theorem spec_l05Put_l0 (l : List Int) (hw : ∀ x ∈ l, inW x) (hm : l.length ≤ 999999000) : ∀ (d i : Nat) (o : List Int), i + d = l.length → o.length + 7 * d ≤ 999999000 → Evp fun k => spec_l05Put.l0 k o l (i : Int) = some (o ++ (l.drop i).flatMap putWide)
  | 0, i, o, hi, ho => evSuc (evAll fun k => by
    simp only [spec_l05Put.l0]
    rw [if_neg (by omega), List.drop_eq_nil_of_le (by omega)]
    simp)
  | d + 1, i, o, hi, ho => by
    have hlt : i < l.length := by omega
    have hx := hw l[i] (List.getElem_mem hlt)
    have hl7 := putWide_len l[i]
    have hnext := spec_l05Put_l0 l hw hm d (i + 1) (o ++ putWide l[i]) (by omega) (by simp; omega)
    have h1 := spec_l05Put_l1 l i (putWide l[i]) hl7 (o ++ (l.drop i).flatMap putWide) (putWide l[i]).length 0 o (by omega) (by omega) (by
      rw [w64' (by omega) (by omega), drop_at hlt, List.flatMap_cons, ← List.append_assoc, List.drop_zero]
      exact hnext)
    have pw := spec_PutWide_ev l[i] (by unfold inW at hx; unfold i64; omega)
    unfold inW at hx
    rw [if_pos hx] at pw
    refine evSuc (evMono (evAnd pw h1) fun k ⟨e1, e2⟩ => ?_)
    simp only [spec_l05Put.l0]
    refine ite_yes (by omega) (ite_yes (by omega) ?_)
    rw [rd_eq hlt]
    exact bind_of e1 e2
theorem spec_l05Put_ev (o l : List Int) (hw : ∀ x ∈ l, inW x) (ho : o.length + 7 * l.length ≤ 999999000) : Evp fun k => spec_l05Put.f k o l = some (o ++ l.flatMap putWide) := spec_l05Put_l0 l hw (by omega) l.length 0 o (by omega) ho
theorem len_w {n : Nat} (h : (n : Int) ≤ 1048576) : ∀ x ∈ [(n : Int)], inW x := fun x hx => by
  simp only [List.mem_singleton] at hx
  unfold inW
  omega
theorem single_flat (x : Int) : [x].flatMap putWide = putWide x := by simp
theorem spec_Encode_l0 (s : S25) (l : List S73) (hw : ∀ x ∈ l, wideL x) (hs : ∀ x ∈ l, smallL x) (hl : l.length ≤ 6) : ∀ (d i : Nat) (o : List Int), i + d = l.length → o.length + d * 14680127 ≤ 100000000 → isBytes (o ++ (l.drop i).flatMap layerBytes) → Evp fun k => spec_EncodeModel.l0 k o (i : Int) s.f0 s.f1 s.f2 l = some (if (((o ++ (l.drop i).flatMap layerBytes) ++ putWide (sumOf (o ++ (l.drop i).flatMap layerBytes))).length : Int) > 6000 then ([], false) else ((o ++ (l.drop i).flatMap layerBytes) ++ putWide (sumOf (o ++ (l.drop i).flatMap layerBytes)), true))
  | 0, i, o, hi, ho, hb => by
    rw [List.drop_eq_nil_of_le (by omega), List.flatMap_nil, List.append_nil] at hb ⊢
    have pw := spec_l05Put_ev o [sumOf o] (fun x hx => by rw [List.mem_singleton.1 hx]; exact sumOf_w hb) (by simp; omega)
    rw [single_flat] at pw
    refine evSuc (evMono (evAnd (spec_SumOf_ev o hb (by omega)) pw) fun k ⟨e1, e2⟩ => ?_)
    simp only [spec_EncodeModel.l0]
    refine ite_no (by omega) (bind_of e1 (bind_of e2 ?_))
    split <;> rfl
  | d + 1, i, o, hi, ho, hb => by
    have hlt : i < l.length := by omega
    rw [drop_at hlt, List.flatMap_cons, ← List.append_assoc] at hb ⊢
    have hr : rd_T73 l (i : Int) = l[i] := rdImp_eq hlt
    have hwx := hw l[i] (List.getElem_mem hlt)
    have hsx := hs l[i] (List.getElem_mem hlt)
    have hll := layerBytes_len hsx
    have ih := spec_Encode_l0 s l hw hs hl d (i + 1) (o ++ layerBytes l[i]) (by omega) (by rw [List.length_append]; omega) hb
    generalize l[i] = x at hr hwx hsx hll ih
    unfold smallL at hsx
    have h1 := flat_len (numsL x)
    have h2 := flat_len x.f7
    have h3 := flat_len x.f8
    have h4 := putWide_len (x.f7.length : Int)
    have h5 := putWide_len (x.f8.length : Int)
    have h6 : (numsL x).length = 7 := rfl
    have p1 := spec_l05Put_ev o (numsL x ++ [(x.f7.length : Int)]) (fun y hy => (List.mem_append.1 hy).elim (hwx.1 y) (len_w hsx.1 y)) (by simp [h6]; omega)
    rw [List.flatMap_append, single_flat] at p1
    have p2 := spec_l05Put_ev (o ++ ((numsL x).flatMap putWide ++ putWide (x.f7.length : Int))) x.f7 hwx.2.1 (by simp only [List.length_append]; omega)
    have p3 := spec_l05Put_ev (o ++ ((numsL x).flatMap putWide ++ putWide (x.f7.length : Int)) ++ x.f7.flatMap putWide) [(x.f8.length : Int)] (len_w hsx.2) (by simp only [List.length_append, List.length_cons, List.length_nil]; omega)
    rw [single_flat] at p3
    have p4 := spec_l05Put_ev (o ++ ((numsL x).flatMap putWide ++ putWide (x.f7.length : Int)) ++ x.f7.flatMap putWide ++ putWide (x.f8.length : Int)) x.f8 hwx.2.2 (by simp only [List.length_append]; omega)
    have e : o ++ ((numsL x).flatMap putWide ++ putWide (x.f7.length : Int)) ++ x.f7.flatMap putWide ++ putWide (x.f8.length : Int) ++ x.f8.flatMap putWide = o ++ layerBytes x := by
      unfold layerBytes
      simp only [List.append_assoc]
    rw [e] at p4
    refine evSuc (evMono (evAnd p1 (evAnd p2 (evAnd p3 (evAnd p4 ih)))) fun k ⟨e1, e2, e3, e4, e5⟩ => ?_)
    simp only [spec_EncodeModel.l0]
    rw [hr]
    refine ite_yes (by omega) (ite_yes (by omega) (bind_of e1 (bind_of e2 (bind_of e3 (bind_of e4 ?_)))))
    rw [w64' (x := (i : Int) + 1) (by omega) (by omega)]
    exact e5
theorem head_w {s : S25} {n : Nat} (h : inW s.f0 ∧ inW s.f1 ∧ inW s.f2) (hn : n ≤ 6) : ∀ x ∈ [s.f0, s.f1, s.f2, (n : Int)], inW x := fun x hx => by
  simp only [List.mem_cons, List.not_mem_nil, or_false] at hx
  rcases hx with rfl | rfl | rfl | rfl
  · exact h.1
  · exact h.2.1
  · exact h.2.2
  · unfold inW
    omega
theorem spec_EncodeModel_ev (s : S25) (l : List S73) (hl : smallI l) : Evp fun k => spec_EncodeModel.f k s.f0 s.f1 s.f2 l = some (encodeM s l) := by
  have e0 := spec_ModelOk_ev s l hl
  unfold encodeM
  by_cases hk : (modelShapes s l).2 = true
  · rw [hk] at e0
    rw [if_pos hk]
    obtain ⟨h1, h2, h3⟩ := model_wide hk
    have hd := headBytes_len s (l.length : Int)
    have p1 := spec_l05Put_ev [80, 77, 49] [s.f0, s.f1, s.f2, (l.length : Int)] (head_w h2 h1.2) (by simp)
    have g := spec_Encode_l0 s l h3 hl.2 h1.2 l.length 0 (headBytes s (l.length : Int)) (by omega) (by omega) (encBytes_bytes s l)
    exact evMono (evAnd e0 (evAnd p1 g)) fun k ⟨a, b, c⟩ => bind_of a (ite_yes rfl (bind_of b (ite_yes (headBytes_long s _) c)))
  · rw [if_neg hk]
    exact evMono e0 fun k a => bind_of a (ite_no hk rfl)
theorem encGo_ev : ∀ (l : List S73) (o : List Int), (∀ x ∈ l, wideL x) → (∀ x ∈ l, smallL x) → o.length + l.length * 14680127 ≤ 100000000 → Evp fun k => encGo k l o = some (o ++ l.flatMap layerBytes)
  | [], o, _, _, _ => evAll fun k => by simp [encGo]
  | x :: l, o, hw, hs, ho => by
    have hwx := hw x (by simp)
    have hsx := hs x (by simp)
    have hll := layerBytes_len hsx
    rw [List.length_cons] at ho
    have ih := encGo_ev l (o ++ layerBytes x) (fun y hy => hw y (by simp [hy])) (fun y hy => hs y (by simp [hy])) (by rw [List.length_append]; omega)
    unfold smallL at hsx
    have h1 := flat_len (numsL x)
    have h2 := flat_len x.f7
    have h3 := flat_len x.f8
    have h4 := putWide_len (x.f7.length : Int)
    have h5 := putWide_len (x.f8.length : Int)
    have h6 : (numsL x).length = 7 := rfl
    have p0 := impl_putWide_ev o (numsL x) hwx.1 (by omega)
    have p1 := impl_putWide_ev (o ++ (numsL x).flatMap putWide) [(x.f7.length : Int)] (len_w hsx.1) (by simp only [List.length_append, List.length_cons, List.length_nil]; omega)
    rw [single_flat] at p1
    have p2 := impl_putWide_ev (o ++ (numsL x).flatMap putWide ++ putWide (x.f7.length : Int)) x.f7 hwx.2.1 (by simp only [List.length_append]; omega)
    have p3 := impl_putWide_ev (o ++ (numsL x).flatMap putWide ++ putWide (x.f7.length : Int) ++ x.f7.flatMap putWide) [(x.f8.length : Int)] (len_w hsx.2) (by simp only [List.length_append, List.length_cons, List.length_nil]; omega)
    rw [single_flat] at p3
    have p4 := impl_putWide_ev (o ++ (numsL x).flatMap putWide ++ putWide (x.f7.length : Int) ++ x.f7.flatMap putWide ++ putWide (x.f8.length : Int)) x.f8 hwx.2.2 (by simp only [List.length_append]; omega)
    have e : o ++ (numsL x).flatMap putWide ++ putWide (x.f7.length : Int) ++ x.f7.flatMap putWide ++ putWide (x.f8.length : Int) ++ x.f8.flatMap putWide = o ++ layerBytes x := by
      unfold layerBytes
      simp only [List.append_assoc]
    rw [e] at p4
    refine evMono (evAnd p0 (evAnd p1 (evAnd p2 (evAnd p3 (evAnd p4 ih))))) fun k ⟨e0, e1, e2, e3, e4, e5⟩ => ?_
    simp only [encGo]
    rw [List.flatMap_cons, ← List.append_assoc]
    refine bind_of (a := numsL x) rfl (bind_of e0 (bind_of (a := o ++ layerBytes x) ?_ e5))
    simp only [inGo]
    exact bind_of e1 (bind_of e2 (bind_of e3 (bind_of e4 rfl)))
theorem impl_EncodeModel_ev (s : S25) (l : List S73) (hl : smallI l) : Evp fun k => impl_EncodeModel.f k s.f0 s.f1 s.f2 l = some (encodeM s l) := by
  have e0 := impl_ModelOk_ev s l hl
  unfold encodeM
  by_cases hk : (modelShapes s l).2 = true
  · rw [hk] at e0
    rw [if_pos hk]
    obtain ⟨h1, h2, h3⟩ := model_wide hk
    have hd := headBytes_len s (l.length : Int)
    have hb := encBytes_bytes s l
    have p1 := impl_putWide_ev [80, 77, 49] [s.f0, s.f1, s.f2, (l.length : Int)] (head_w h2 h1.2) (by simp)
    have g := encGo_ev l (headBytes s (l.length : Int)) h3 hl.2 (by have := Nat.mul_le_mul_right 14680127 h1.2; omega)
    have hlen : (encBytes s l).length ≤ 100000000 := by
      have : ∀ (m : List S73), (∀ x ∈ m, smallL x) → (m.flatMap layerBytes).length ≤ m.length * 14680127 := fun m => by
        induction m with
        | nil => intro _; simp
        | cons y m ih =>
          intro h
          have a := ih fun z hz => h z (by simp [hz])
          have b := layerBytes_len (h y (by simp))
          rw [List.flatMap_cons, List.length_append, List.length_cons]
          omega
      have a := this l hl.2
      have b := Nat.mul_le_mul_right 14680127 h1.2
      unfold encBytes
      rw [List.length_append]
      omega
    have p2 := impl_putWide_ev (encBytes s l) [sumOf (encBytes s l)] (fun x hx => by rw [List.mem_singleton.1 hx]; exact sumOf_w hb) (by simp; omega)
    rw [single_flat] at p2
    refine evMono (evAnd e0 (evAnd p1 (evAnd g (evAnd (impl_SumOf_ev (encBytes s l) hb (by omega)) p2)))) fun k ⟨a, b, c, d, e⟩ => bind_of a (ite_no (by simp) (bind_of (bind_of b (if_pos (headBytes_long s _))) (bind_of c (bind_of d (bind_of e ?_)))))
    unfold encFull
    split <;> rfl
  · rw [if_neg hk]
    exact evMono e0 fun k a => bind_of a (ite_yes (Bool.eq_false_iff.2 hk) rfl)


theorem encodeM_len (s : S25) (l : List S73) : (encodeM s l).1.length ≤ 6000 := by
  unfold encodeM
  split
  · split
    · simp
    · show (encFull s l).length ≤ 6000
      omega
  · simp


theorem FnExactEncodeModel (h w c : Int) (l : List S117) (hg : ((Lit.int .i64 h).wf = true ∧ (Lit.int .i64 w).wf = true ∧ (Lit.int .i64 c).wf = true) ∧ wfLayers l) : ∃ k, laws_FnExactEncodeModel.f k h w c l = some true := by
  have hl := hg.2.1
  unfold maxLen at hl
  obtain ⟨r, hr1, hr2, hr⟩ := laws_szModel_tells h w c l 1048576 (by omega) (by omega) hl (fun x hx => (hg.2.2 x hx).len)
  by_cases h0 : r < 0
  · exact evEx (evMono hr fun k hr => bind_of hr (ite_yes h0 rfl))
  have hs := hr2 (by omega)
  have e1 := spec_EncodeModel_ev ⟨h, w, c⟩ (l.map conv) hs.conv
  have e2 := impl_EncodeModel_ev ⟨h, w, c⟩ (l.map conv) hs.conv
  have hn := encodeM_len ⟨h, w, c⟩ (l.map conv)
  generalize encodeM ⟨h, w, c⟩ (l.map conv) = p at e1 e2 hn
  obtain ⟨X, b⟩ := p
  simp only at hn
  have eto := laws_toModel_ev h w c l hs
  have em := laws_eqModel_self h w c (l.map conv) hs.conv
  have eq : Evp fun k => laws_eqByteS.f k X X = some true := evEq (laws_eqByteS_ev X X (by omega)) (by simp)
  have mk := laws_markByteS_ev X 1 (by omega) (by omega)
  have hd := laws_heldByteS_ev X.length 1 (by omega) (by omega)
  obtain ⟨m, hm, _, em2⟩ := laws_markModel_ok h w c (l.map conv) hs.conv
  have nb : (b != b) = false := by simp
  have j2 : Evp fun k => laws_FnExactEncodeModel.j2 k (marksByte 1 X.length) (1 + X.length) false = some true := evSuc (evMono hd fun k g2 => by
    simp only [laws_FnExactEncodeModel.j2]
    exact ite_no Bool.false_ne_true (bind_of g2 (ite_no (by omega) (ite_yes rfl rfl))))
  have j1 : Evp fun k => laws_FnExactEncodeModel.j1 k X b X false h w c l = some true := evSuc (evMono (evAnd mk (evAnd hd (evAnd eto (evAnd e2 (evAnd eq j2))))) fun k ⟨g1, g2, g3, g4, g5, g6⟩ => by
    simp only [laws_FnExactEncodeModel.j1]
    exact ite_no Bool.false_ne_true (bind_of g1 (bind_of g2 (ite_no (by omega) (ite_yes rfl (bind_of g3 (bind_of g4 (bind_of g5 (ite_yes rfl (by rw [nb]; exact g6))))))))))
  have j0 : Evp fun k => laws_FnExactEncodeModel.j0 k X b X b false h w c l h w c (l.map conv) = some true := evSuc (evMono (evAnd eto (evAnd em (evAnd eq j1))) fun k ⟨g1, g2, g3, g4⟩ => by
    simp only [laws_FnExactEncodeModel.j0]
    exact ite_no Bool.false_ne_true (bind_of g1 (bind_of g2 (ite_yes rfl (bind_of em2 (ite_no (by omega) (bind_of g3 (ite_yes rfl (by rw [nb]; exact g4)))))))))
  refine evEx (evMono (evAnd hr (evAnd eto (evAnd e1 (evAnd e2 (evAnd eq j0))))) fun k ⟨hr, g1, g2, g3, g4, g5⟩ => ?_)
  exact bind_of hr (ite_no h0 (bind_of g1 (bind_of g2 (bind_of g1 (bind_of g3 (bind_of g4 (ite_yes rfl (by rw [nb]; exact g5))))))))

end Go.Proofs.Ytljdcemdhmaahaa.Pure
