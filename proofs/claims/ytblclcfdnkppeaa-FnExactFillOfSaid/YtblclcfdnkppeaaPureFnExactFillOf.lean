/- For every shape and every int that the law lets in, the program's FillOf and the reference's return the same, in new memory (the law FnExactFillOf answers true). No condition. -/
import Derived.Test.YtblclcfdnkppeaaPFnExactFillOfx0
import Derived.Test.YtblclcfdnkppeaaPFnExactFillOfx1
import Derived.Test.YtblclcfdnkppeaaPFnExactFillOfx2
import Derived.Test.YtblclcfdnkppeaaPFnExactFillOfx3
namespace Go.Proofs.Ytblclcfdnkppeaa.Pure
open Go.RowKit Go.Proofs.Ytblclcfdnkppeaa.PFnExactFillOf Go.Proofs.YtblclcfdnkppeaaW.PrintWords Go.Proofs.YtblclcfdnkppeaaW.PrintLast Go.Proofs.YtblclcfdnkppeaaW.PrintMore
set_option linter.unusedVariables false
set_option linter.unusedSimpArgs false

/-! #### rounds -/
def Evp (p : Nat → Prop) : Prop := ∃ K, ∀ k, K ≤ k → p k
theorem evAnd {p q : Nat → Prop} (h : Evp p) (g : Evp q) : Evp (fun k => p k ∧ q k) := by
  obtain ⟨K, hK⟩ := h
  obtain ⟨L, hL⟩ := g
  exact ⟨max K L, fun k hk => ⟨hK k (by omega), hL k (by omega)⟩⟩
theorem evMono {p q : Nat → Prop} (h : Evp p) (g : ∀ k, p k → q k) : Evp q := by
  obtain ⟨K, hK⟩ := h
  exact ⟨K, fun k hk => g k (hK k hk)⟩
theorem evSuc {p : Nat → Prop} (h : Evp fun k => p (k + 1)) : Evp p := by
  obtain ⟨K, hK⟩ := h
  refine ⟨K + 1, fun k hk => ?_⟩
  obtain ⟨m, rfl⟩ : ∃ m, k = m + 1 := ⟨k - 1, by omega⟩
  exact hK m (by omega)
theorem evAll {p : Nat → Prop} (h : ∀ k, p k) : Evp p := ⟨0, fun k _ => h k⟩
theorem evEx {p : Nat → Prop} (h : Evp p) : ∃ k, p k := by
  obtain ⟨K, hK⟩ := h
  exact ⟨K, hK K (Nat.le_refl _)⟩
/-- One step of a chain. -/
theorem bind_of {α β : Type} {o : Option α} {f : α → Option β} {a : α} {r : Option β} (h : o = some a) (hf : f a = r) : o.bind f = r := by rw [h]; exact hf
theorem ite_yes {α : Type} {c : Prop} [Decidable c] {x y r : α} (h : c) (hx : x = r) : (if c then x else y) = r := by rw [if_pos h]; exact hx
theorem ite_no {α : Type} {c : Prop} [Decidable c] {x y r : α} (h : ¬ c) (hy : y = r) : (if c then x else y) = r := by rw [if_neg h]; exact hy

/-! #### whole numbers -/
def i64 (x : Int) : Prop := -9223372036854775808 ≤ x ∧ x ≤ 9223372036854775807
theorem w64 {x : Int} (h : i64 x) : wrap64 x = x := by
  unfold i64 at h
  unfold wrap64
  omega
theorem w64' {x : Int} (h0 : -9223372036854775808 ≤ x) (h1 : x ≤ 9223372036854775807) : wrap64 x = x := w64 ⟨h0, h1⟩
/-! #### lists -/
theorem rd_eq {l : List Int} {i : Nat} (h : i < l.length) : rd l (i : Int) = l[i] := by
  unfold rd
  simp [List.getD, h]
/-! #### arithmetic with rounding, in plain Lean -/
def clampTo (x lo hi : Int) : Int := if x < lo then lo else if lo > hi then lo else if x > hi then hi else x
def sat8 (x : Int) : Int := if x < -128 then -128 else if x > 127 then 127 else x
theorem clamp_sat8 (x : Int) : clampTo x (-128) 127 = sat8 x := by unfold clampTo sat8; rw [if_neg (show ¬ ((-128 : Int) > 127) by decide)]
theorem mxn_sat8 (x : Int) : mx (-128) (mn x 127) = sat8 x := by unfold mx mn sat8; repeat' split <;> omega
theorem spec_ClampTo_ev (x lo hi : Int) : Evp fun k => spec_ClampTo.f k x lo hi = some (clampTo x lo hi) := evSuc (evAll fun k => by
  unfold spec_ClampTo.f clampTo
  by_cases h1 : x < lo
  · simp [h1, spec_ClampTo.j0]
  · by_cases h2 : lo > hi
    · simp [h1, h2, spec_ClampTo.j0]
    · by_cases h3 : x > hi <;> simp [h1, h2, h3, spec_ClampTo.j0])


theorem spec_Sat8_ev (x : Int) : Evp fun k => spec_Sat8.f k x = some (sat8 x) := evMono (spec_ClampTo_ev x (-128) 127) fun k h => by
  unfold spec_Sat8.f
  rw [h, clamp_sat8]
  rfl


theorem impl_Sat8_eq (x : Int) : impl_Sat8.f x = some (sat8 x) := by
  unfold impl_Sat8.f impl_cut.f
  rw [mxn_sat8]
  rfl


theorem spec_l01In_eq (x lo hi : Int) : spec_l01In.f x lo hi = some (decide (lo ≤ x ∧ x ≤ hi)) := by
  unfold spec_l01In.f
  by_cases h : lo ≤ x
  · simp [h]
  · simp [h]


theorem impl_in_eq (x lo hi : Int) : impl_in.f x lo hi = some (decide (lo ≤ x ∧ x ≤ hi)) := by
  unfold impl_in.f
  by_cases h : lo ≤ x
  · simp [h]
  · simp [h]

theorem laws_eqIntS_l0 (a b : List Int) (hl : a.length = b.length) (hm : a.length ≤ 9223372036854775807) : ∀ (d i : Nat), i + d = a.length → a.take i = b.take i → Evp fun k => laws_eqIntS.l0 k a b (i : Int) = some (decide (a = b))
  | 0, i, hi, ht => evSuc (evAll fun k => by
    simp only [laws_eqIntS.l0]
    rw [if_neg (by omega)]
    obtain rfl : i = a.length := by omega
    have e : a = b := by
      rw [List.take_length, hl, List.take_length] at ht
      exact ht
    simp [e])
  | d + 1, i, hi, ht => by
    have ha : i < a.length := by omega
    have hb : i < b.length := by omega
    by_cases he : a[i] = b[i]
    · have ht' : a.take (i + 1) = b.take (i + 1) := by
        rw [List.take_succ_eq_append_getElem ha, List.take_succ_eq_append_getElem hb, ht, he]
      refine evSuc (evMono (laws_eqIntS_l0 a b hl hm d (i + 1) (by omega) ht') fun k ih => ?_)
      simp only [laws_eqIntS.l0]
      rw [if_pos (by omega), if_pos (by omega), if_pos (by omega), rd_eq ha, rd_eq hb, if_pos he, w64' (by omega) (by omega)]
      exact ih
    · refine evSuc (evAll fun k => ?_)
      simp only [laws_eqIntS.l0]
      rw [if_pos (by omega), if_pos (by omega), if_pos (by omega), rd_eq ha, rd_eq hb, if_neg he]
      have : a ≠ b := by
        rintro rfl
        exact he rfl
      simp [this]
theorem laws_eqIntS_ev (a b : List Int) (hm : a.length ≤ 9223372036854775807) : Evp fun k => laws_eqIntS.f k a b = some (decide (a = b)) := by
  unfold laws_eqIntS.f
  by_cases hl : a.length = b.length
  · refine evMono (laws_eqIntS_l0 a b hl hm a.length 0 (by omega) (by simp)) fun k h => ?_
    rw [if_pos (by omega)]
    exact h
  · refine evAll fun k => ?_
    rw [if_neg (by omega)]
    have : a ≠ b := by
      rintro rfl
      exact hl rfl
    simp [this]


def shapeOk (h w c : Int) : Bool := decide ((1 ≤ h ∧ h ≤ 8) ∧ (1 ≤ w ∧ w ≤ 8) ∧ (1 ≤ c ∧ c ≤ 8))
theorem shapeOk_iff {h w c : Int} : shapeOk h w c = true ↔ (1 ≤ h ∧ h ≤ 8) ∧ (1 ≤ w ∧ w ≤ 8) ∧ (1 ≤ c ∧ c ≤ 8) := by unfold shapeOk; simp
def sizeOf (h w c : Int) : Int := if shapeOk h w c = true then h * w * c else 0
theorem mul_b {a b A B : Int} (ha : 0 ≤ a) (ha' : a ≤ A) (hb : 0 ≤ b) (hb' : b ≤ B) : 0 ≤ a * b ∧ a * b ≤ A * B := by
  refine ⟨Int.mul_nonneg ha hb, Int.mul_le_mul ha' hb' hb (by omega)⟩
theorem mul_pos1 {a b : Int} (ha : 1 ≤ a) (hb : 1 ≤ b) : 1 ≤ a * b := by
  have := Int.mul_le_mul ha hb (by omega) (by omega)
  omega
theorem size_b {h w c : Int} (hs : shapeOk h w c = true) : 1 ≤ h * w ∧ h * w ≤ 64 ∧ 1 ≤ h * w * c ∧ h * w * c ≤ 512 := by
  obtain ⟨h1, h2, h3⟩ := shapeOk_iff.1 hs
  have a := mul_b (a := h) (b := w) (A := 8) (B := 8) (by omega) (by omega) (by omega) (by omega)
  have b := mul_b (a := h * w) (b := c) (A := 64) (B := 8) (by omega) (by omega) (by omega) (by omega)
  have c1 := mul_pos1 h1.1 h2.1
  have c2 := mul_pos1 c1 h3.1
  omega
theorem laws_toShape_eq (h w c : Int) : laws_toShape.f h w c = some (h, w, c) := rfl


theorem spec_ShapeOk_eq (h w c : Int) : spec_ShapeOk.f h w c = some (shapeOk h w c) := by
  unfold spec_ShapeOk.f shapeOk
  simp only [spec_l01In_eq, Option.bind_some, decide_eq_true_eq]
  by_cases h1 : 1 ≤ h ∧ h ≤ 8 <;> by_cases h2 : 1 ≤ w ∧ w ≤ 8 <;> simp [h1, h2]


theorem impl_ShapeOk_eq (h w c : Int) : impl_ShapeOk.f h w c = some (shapeOk h w c) := by
  unfold impl_ShapeOk.f shapeOk
  simp only [impl_in_eq, Option.bind_some, decide_eq_true_eq]
  by_cases h1 : 1 ≤ h ∧ h ≤ 8 <;> by_cases h2 : 1 ≤ w ∧ w ≤ 8 <;> simp [h1, h2]


theorem spec_SizeOf_eq (h w c : Int) : spec_SizeOf.f h w c = some (sizeOf h w c) := by
  unfold spec_SizeOf.f sizeOf
  rw [spec_ShapeOk_eq]
  simp only [Option.bind_some]
  by_cases hs : shapeOk h w c = true
  · have := size_b hs
    rw [if_pos hs, if_pos hs, w64' (x := h * w) (by omega) (by omega), w64' (by omega) (by omega)]
  · rw [if_neg hs, if_neg hs]


theorem impl_SizeOf_eq (h w c : Int) : impl_SizeOf.f h w c = some (sizeOf h w c) := by
  unfold impl_SizeOf.f sizeOf
  rw [impl_ShapeOk_eq]
  simp only [Option.bind_some]
  by_cases hs : shapeOk h w c = true
  · have := size_b hs
    rw [if_pos hs, if_pos hs, w64' (x := h * w) (by omega) (by omega), w64' (by omega) (by omega)]
  · rw [if_neg hs, if_neg hs]


def marksInt (k0 : Int) (n : Nat) : List Int := (List.range n).map fun (j : Nat) => k0 + (j : Int)
theorem marksInt_len (k0 : Int) (n : Nat) : (marksInt k0 n).length = n := by simp [marksInt]
theorem marksInt_succ (k0 : Int) (n : Nat) : marksInt k0 (n + 1) = k0 :: marksInt (k0 + 1) n := by
  unfold marksInt
  rw [List.range_succ_eq_map]
  simp only [List.map_cons, List.map_map, Function.comp_def, Int.natCast_zero, Int.add_zero, Nat.succ_eq_add_one, Int.natCast_add, Int.natCast_one]
  congr 1
  apply List.map_congr_left
  intro j _
  rw [show k0 + ((j : Int) + 1) = k0 + 1 + (j : Int) by omega]
theorem marksInt_get (k0 : Int) (n j : Nat) (h : j < n) : (marksInt k0 n)[j]'(by simpa [marksInt] using h) = k0 + (j : Int) := by simp [marksInt]


theorem laws_markIntS_l0 : ∀ (d i : Nat) (l : List Int) (x : Int), i + d = l.length → 0 ≤ x → x + d ≤ 1000000000000 → l.length ≤ 1000000000000 → Evp fun k => laws_markIntS.l0 k l x (i : Int) = some (x + d, l.take i ++ marksInt x d)
  | 0, i, l, x, hi, h0, h1, hl => evSuc (evAll fun k => by
    simp only [laws_markIntS.l0]
    rw [if_neg (by omega), List.take_of_length_le (by omega)]
    simp [marksInt])
  | d + 1, i, l, x, hi, h0, h1, hl => by
    have hlt : i < l.length := by omega
    refine evSuc (evMono (laws_markIntS_l0 d (i + 1) (l.set i (x)) (x + 1) (by simp; omega) (by omega) (by omega) (by simp; omega)) fun k ih => ?_)
    simp only [laws_markIntS.l0]
    rw [if_pos (by omega), if_pos (by omega), Int.toNat_natCast, w64' (x := x + 1) (by omega) (by omega), w64' (x := (i : Int) + 1) (by omega) (by omega)]
    have e : (l.set i (x)).take (i + 1) = l.take i ++ [x] := by
      rw [List.take_succ_eq_append_getElem (by simpa using hlt), List.take_set_of_le (Nat.le_refl i)]
      simp
    rw [e] at ih
    have ih' : laws_markIntS.l0 k (l.set i (x)) (x + 1) ((i : Int) + 1) = _ := ih
    rw [ih', marksInt_succ]
    simp
    omega
theorem laws_markIntS_ev (l : List Int) (x : Int) (h0 : 0 ≤ x) (h1 : x + l.length ≤ 1000000000000) : Evp fun k => laws_markIntS.f k l x = some (x + l.length, marksInt x l.length) := by
  have := laws_markIntS_l0 l.length 0 l x (by omega) h0 h1 (by omega)
  unfold laws_markIntS.f
  simpa using this


theorem laws_heldIntS_l0 (l : List Int) (hl : l.length ≤ 1000000000000) (x0 : Int) (h0 : 0 ≤ x0) (h1 : x0 + l.length ≤ 1000000000000) (hm : l = marksInt x0 l.length) : ∀ (d i : Nat), i + d = l.length → Evp fun k => laws_heldIntS.l0 k l (x0 + i) (i : Int) = some (x0 + l.length)
  | 0, i, hi => evSuc (evAll fun k => by
    simp only [laws_heldIntS.l0]
    rw [if_neg (by omega)]
    congr 1
    omega)
  | d + 1, i, hi => by
    have hlt : i < l.length := by omega
    refine evSuc (evMono (laws_heldIntS_l0 l hl x0 h0 h1 hm d (i + 1) (by omega)) fun k ih => ?_)
    have e : l[i] = x0 + (i : Int) := by
      have g := marksInt_get x0 l.length i hlt
      rw [← g]
      congr 1
    simp only [laws_heldIntS.l0]
    rw [if_pos (by omega), if_pos (by omega), rd_eq hlt, if_pos e, w64' (x := x0 + (i : Int) + 1) (by omega) (by omega), w64' (x := (i : Int) + 1) (by omega) (by omega), show x0 + (i : Int) + 1 = x0 + ((i + 1 : Nat) : Int) by omega]
    exact ih
theorem laws_heldIntS_ev (n : Nat) (x : Int) (h0 : 0 ≤ x) (h1 : x + n ≤ 1000000000000) : Evp fun k => laws_heldIntS.f k (marksInt x n) x = some (x + n) := by
  have := laws_heldIntS_l0 (marksInt x n) (by rw [marksInt_len]; omega) x h0 (by rw [marksInt_len]; omega) (by rw [marksInt_len]) n 0 (by rw [marksInt_len]; omega)
  rw [marksInt_len] at this
  unfold laws_heldIntS.f
  simpa using this


theorem laws_eqShape_self (h w c : Int) : laws_eqShape.f h w c h w c = some true := ite_yes rfl (ite_yes rfl (ite_yes rfl rfl))


theorem laws_eqTensor_self (h w c : Int) (l : List Int) (hl : (l.length : Int) ≤ 1048576) : Evp fun k => laws_eqTensor.f k h w c l h w c l = some true :=
  evMono (laws_eqIntS_ev l l (by omega)) fun k e => bind_of (laws_eqShape_self h w c) (ite_yes rfl (bind_of e (ite_yes (by simp) rfl)))


theorem laws_markTensor_ev (h w c : Int) (l : List Int) (x : Int) (h0 : 0 ≤ x) (h1 : x + l.length ≤ 1000000000000) : Evp fun k => laws_markTensor.f k h w c l x = some (x + l.length, marksInt x l.length) :=
  evMono (laws_markIntS_ev l x h0 h1) fun k e => bind_of e rfl


theorem laws_heldTensor_ev (h w c : Int) (n : Nat) (x : Int) (h0 : 0 ≤ x) (h1 : x + n ≤ 1000000000000) : Evp fun k => laws_heldTensor.f k h w c (marksInt x n) x = some (x + n) :=
  evMono (laws_heldIntS_ev n x h0 h1) fun k e => bind_of e (ite_no (by omega) rfl)


def fillOf (h w c x : Int) : Int × Int × Int × List Int × Bool := if shapeOk h w c = true then (h, w, c, List.replicate (h * w * c).toNat (sat8 x), true) else (0, 0, 0, [], false)
theorem fillOf_len (h w c x : Int) : (fillOf h w c x).2.2.2.1.length ≤ 512 := by
  unfold fillOf
  split
  · rename_i hs
    have := size_b hs
    simp
    omega
  · simp
theorem spec_FillOf_l0 (h w c x : Int) (N : Nat) (hN : sizeOf h w c = (N : Int)) (hb : N ≤ 512) : ∀ (d i : Nat), i + d = N → Evp fun k => spec_FillOf.l0 k x (i : Int) h w c h w c (List.replicate i (sat8 x)) = some (h, w, c, List.replicate N (sat8 x), true)
  | 0, i, hi => evSuc (evAll fun k => by
    simp only [spec_FillOf.l0]
    refine bind_of (spec_SizeOf_eq h w c) ?_
    rw [hN, if_neg (by omega)]
    obtain rfl : i = N := by omega
    rfl)
  | d + 1, i, hi => by
    refine evSuc (evMono (evAnd (spec_Sat8_ev x) (spec_FillOf_l0 h w c x N hN hb d (i + 1) (by omega))) fun k ⟨e, ih⟩ => ?_)
    simp only [spec_FillOf.l0]
    refine bind_of (spec_SizeOf_eq h w c) ?_
    rw [hN]
    refine ite_yes (by omega) (bind_of e (ite_yes (by simp; omega) ?_))
    rw [w64' (by omega) (by omega)]
    rw [List.replicate_succ'] at ih
    exact ih
theorem spec_FillOf_ev (h w c x : Int) : Evp fun k => spec_FillOf.f k h w c x = some (fillOf h w c x) := by
  unfold fillOf
  by_cases hs : shapeOk h w c = true
  · rw [if_pos hs]
    have hz := size_b hs
    have hN : sizeOf h w c = ((h * w * c).toNat : Int) := by
      unfold sizeOf
      rw [if_pos hs]
      omega
    exact evMono (spec_FillOf_l0 h w c x (h * w * c).toNat hN (by omega) (h * w * c).toNat 0 (by omega)) fun k e => bind_of (spec_ShapeOk_eq h w c) (ite_yes hs e)
  · rw [if_neg hs]
    exact evAll fun k => bind_of (spec_ShapeOk_eq h w c) (ite_no hs rfl)


theorem impl_FillOf_eq (h w c x : Int) : impl_FillOf.f h w c x = some (fillOf h w c x) := by
  unfold fillOf
  by_cases hs : shapeOk h w c = true
  · rw [if_pos hs]
    have hz := size_b hs
    have hN : sizeOf h w c = h * w * c := by
      unfold sizeOf
      rw [if_pos hs]
    refine bind_of (impl_ShapeOk_eq h w c) (ite_yes hs (bind_of (impl_Sat8_eq x) (bind_of (impl_SizeOf_eq h w c) (bind_of (a := List.replicate (h * w * c).toNat (sat8 x)) ?_ rfl))))
    rw [hN]
    unfold slices_Repeat_int_int.f
    rw [if_pos ⟨rfl, by omega, by omega⟩]
    rfl
  · rw [if_neg hs]
    exact bind_of (impl_ShapeOk_eq h w c) (ite_no hs rfl)


theorem FnExactFillOf (h w c x : Int) (_ : (Lit.int .i64 h).wf = true ∧ (Lit.int .i64 w).wf = true ∧ (Lit.int .i64 c).wf = true) (_ : (Lit.int .i64 x).wf = true) : ∃ k, laws_FnExactFillOf.f k h w c x = some true := by
  have hl := fillOf_len h w c x
  have e1 := spec_FillOf_ev h w c x
  have e2 := impl_FillOf_eq h w c x
  generalize fillOf h w c x = X at hl e1 e2
  obtain ⟨a, b, d, l, ok⟩ := X
  have hl' : l.length ≤ 512 := hl
  have hne : (ok != ok) = false := by simp
  have eq := laws_eqTensor_self a b d l (by omega)
  have hd := laws_heldTensor_ev a b d l.length 1 (by omega) (by omega)
  have j1 : Evp fun k => laws_FnExactFillOf.j1 k (1 + (l.length : Int)) false a b d (marksInt 1 l.length) = some true := evSuc (evMono hd fun k e => by
    simp only [laws_FnExactFillOf.j1]
    exact ite_no Bool.false_ne_true (bind_of e (ite_no (by omega) (ite_yes rfl rfl))))
  have j0 : Evp fun k => laws_FnExactFillOf.j0 k x ok false h w c a b d l a b d l = some true := evSuc (evMono (evAnd (laws_markTensor_ev a b d l 1 (by omega) (by omega)) (evAnd hd (evAnd eq j1))) fun k ⟨g1, g2, g3, g4⟩ => by
    simp only [laws_FnExactFillOf.j0]
    refine ite_no Bool.false_ne_true (bind_of g1 (bind_of g2 (ite_no (by omega) (ite_yes rfl (bind_of (laws_toShape_eq h w c) (bind_of e2 (bind_of g3 (ite_yes rfl ?_))))))))
    show laws_FnExactFillOf.j1 k (1 + (l.length : Int)) (ok != ok) a b d (marksInt 1 l.length) = some true
    rw [hne]
    exact g4)
  refine evEx (evMono (evAnd e1 (evAnd eq j0)) fun k ⟨g1, g2, g3⟩ => ?_)
  refine bind_of (laws_toShape_eq h w c) (bind_of g1 (bind_of (laws_toShape_eq h w c) (bind_of e2 (bind_of g2 (ite_yes rfl ?_)))))
  show laws_FnExactFillOf.j0 k x ok (ok != ok) h w c a b d l a b d l = some true
  rw [hne]
  exact g3

end Go.Proofs.Ytblclcfdnkppeaa.Pure
