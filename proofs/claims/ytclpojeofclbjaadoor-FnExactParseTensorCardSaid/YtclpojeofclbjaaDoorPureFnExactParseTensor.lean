/- For every text, the program's ParseTensor and the reference's return the same tensor and the same verdict, in memory that is shared with no other result (the law FnExactParseTensor answers true). Condition, tied by the card: the listed tables and error variables of the library stand in memory as the library's text lays them. -/
import Derived.Test.YtclpojeofclbjaaDoorPFnExactParseTensorx0
import Derived.Test.YtclpojeofclbjaaDoorPFnExactParseTensorx1
import Derived.Test.YtclpojeofclbjaaDoorPFnExactParseTensorx2
import Derived.Test.YtclpojeofclbjaaDoorPFnExactParseTensorx3
import Derived.Test.YtclpojeofclbjaaDoorPFnExactParseTensorx4
import Derived.Test.YtclpojeofclbjaaDoorPFnExactParseTensorx5
import Derived.Test.YtclpojeofclbjaaDoorPFnExactParseTensorx6
import Derived.Test.YtclpojeofclbjaaDoorPFnExactParseTensorx7
import Derived.Test.YtclpojeofclbjaaDoorPFnExactParseTensorx8
namespace Go.Proofs.YtclpojeofclbjaaDoor.Pure
open Go.RowKit Go.Proofs.YtclpojeofclbjaaDoor.PFnExactParseTensor Go.Proofs.YtclpojeofclbjaaDoorW.PrintWords Go.Proofs.YtclpojeofclbjaaDoorW.PrintLast Go.Proofs.YtclpojeofclbjaaDoorW.PrintMore
set_option linter.unusedVariables false
set_option linter.unusedSimpArgs false

/-! #### rounds -/
def Evp (p : Nat → Prop) : Prop := ∃ K, ∀ k, K ≤ k → p k
theorem evAnd {p q : Nat → Prop} (h : Evp p) (g : Evp q) : Evp (fun k => p k ∧ q k) := by
  obtain ⟨K, hK⟩ := h
  obtain ⟨L, hL⟩ := g
  exact ⟨max K L, fun k hk => ⟨hK k (by omega), hL k (by omega)⟩⟩
theorem evMono {p q : Nat → Prop} (h : Evp p) (g : ∀ k, p k → q k) : Evp q := by
  obtain ⟨K, hK⟩ := h
  exact ⟨K, fun k hk => g k (hK k hk)⟩
theorem evSuc {p : Nat → Prop} (h : Evp fun k => p (k + 1)) : Evp p := by
  obtain ⟨K, hK⟩ := h
  refine ⟨K + 1, fun k hk => ?_⟩
  obtain ⟨m, rfl⟩ : ∃ m, k = m + 1 := ⟨k - 1, by omega⟩
  exact hK m (by omega)
theorem evAll {p : Nat → Prop} (h : ∀ k, p k) : Evp p := ⟨0, fun k _ => h k⟩
theorem evEx {p : Nat → Prop} (h : Evp p) : ∃ k, p k := by
  obtain ⟨K, hK⟩ := h
  exact ⟨K, hK K (Nat.le_refl _)⟩
/-- One step of a chain. -/
theorem bind_of {α β : Type} {o : Option α} {f : α → Option β} {a : α} {r : Option β} (h : o = some a) (hf : f a = r) : o.bind f = r := by rw [h]; exact hf
theorem ite_yes {α : Type} {c : Prop} [Decidable c] {x y r : α} (h : c) (hx : x = r) : (if c then x else y) = r := by rw [if_pos h]; exact hx
theorem ite_no {α : Type} {c : Prop} [Decidable c] {x y r : α} (h : ¬ c) (hy : y = r) : (if c then x else y) = r := by rw [if_neg h]; exact hy

/-! #### whole numbers -/
def i64 (x : Int) : Prop := -9223372036854775808 ≤ x ∧ x ≤ 9223372036854775807
theorem w64 {x : Int} (h : i64 x) : wrap64 x = x := by
  unfold i64 at h
  unfold wrap64
  omega
theorem w64' {x : Int} (h0 : -9223372036854775808 ≤ x) (h1 : x ≤ 9223372036854775807) : wrap64 x = x := w64 ⟨h0, h1⟩
/-! #### lists -/
theorem rd_eq {l : List Int} {i : Nat} (h : i < l.length) : rd l (i : Int) = l[i] := by
  unfold rd
  simp [List.getD, h]
theorem spec_l01In_eq (x lo hi : Int) : spec_l01In.f x lo hi = some (decide (lo ≤ x ∧ x ≤ hi)) := by
  unfold spec_l01In.f
  by_cases h : lo ≤ x
  · simp [h]
  · simp [h]


theorem impl_in_eq (x lo hi : Int) : impl_in.f x lo hi = some (decide (lo ≤ x ∧ x ≤ hi)) := by
  unfold impl_in.f
  by_cases h : lo ≤ x
  · simp [h]
  · simp [h]

theorem laws_eqIntS_l0 (a b : List Int) (hl : a.length = b.length) (hm : a.length ≤ 9223372036854775807) : ∀ (d i : Nat), i + d = a.length → a.take i = b.take i → Evp fun k => laws_eqIntS.l0 k a b (i : Int) = some (decide (a = b))
  | 0, i, hi, ht => evSuc (evAll fun k => by
    simp only [laws_eqIntS.l0]
    rw [if_neg (by omega)]
    obtain rfl : i = a.length := by omega
    have e : a = b := by
      rw [List.take_length, hl, List.take_length] at ht
      exact ht
    simp [e])
  | d + 1, i, hi, ht => by
    have ha : i < a.length := by omega
    have hb : i < b.length := by omega
    by_cases he : a[i] = b[i]
    · have ht' : a.take (i + 1) = b.take (i + 1) := by
        rw [List.take_succ_eq_append_getElem ha, List.take_succ_eq_append_getElem hb, ht, he]
      refine evSuc (evMono (laws_eqIntS_l0 a b hl hm d (i + 1) (by omega) ht') fun k ih => ?_)
      simp only [laws_eqIntS.l0]
      rw [if_pos (by omega), if_pos (by omega), if_pos (by omega), rd_eq ha, rd_eq hb, if_pos he, w64' (by omega) (by omega)]
      exact ih
    · refine evSuc (evAll fun k => ?_)
      simp only [laws_eqIntS.l0]
      rw [if_pos (by omega), if_pos (by omega), if_pos (by omega), rd_eq ha, rd_eq hb, if_neg he]
      have : a ≠ b := by
        rintro rfl
        exact he rfl
      simp [this]
theorem laws_eqIntS_ev (a b : List Int) (hm : a.length ≤ 9223372036854775807) : Evp fun k => laws_eqIntS.f k a b = some (decide (a = b)) := by
  unfold laws_eqIntS.f
  by_cases hl : a.length = b.length
  · refine evMono (laws_eqIntS_l0 a b hl hm a.length 0 (by omega) (by simp)) fun k h => ?_
    rw [if_pos (by omega)]
    exact h
  · refine evAll fun k => ?_
    rw [if_neg (by omega)]
    have : a ≠ b := by
      rintro rfl
      exact hl rfl
    simp [this]


theorem drop_at {α : Type} {l : List α} {i : Nat} (h : i < l.length) : l.drop i = l[i] :: l.drop (i + 1) := by
  exact List.drop_eq_getElem_cons h
def shapeOk (h w c : Int) : Bool := decide ((1 ≤ h ∧ h ≤ 8) ∧ (1 ≤ w ∧ w ≤ 8) ∧ (1 ≤ c ∧ c ≤ 8))
theorem shapeOk_iff {h w c : Int} : shapeOk h w c = true ↔ (1 ≤ h ∧ h ≤ 8) ∧ (1 ≤ w ∧ w ≤ 8) ∧ (1 ≤ c ∧ c ≤ 8) := by unfold shapeOk; simp
def sizeOf (h w c : Int) : Int := if shapeOk h w c = true then h * w * c else 0
theorem mul_b {a b A B : Int} (ha : 0 ≤ a) (ha' : a ≤ A) (hb : 0 ≤ b) (hb' : b ≤ B) : 0 ≤ a * b ∧ a * b ≤ A * B := by
  refine ⟨Int.mul_nonneg ha hb, Int.mul_le_mul ha' hb' hb (by omega)⟩
theorem mul_pos1 {a b : Int} (ha : 1 ≤ a) (hb : 1 ≤ b) : 1 ≤ a * b := by
  have := Int.mul_le_mul ha hb (by omega) (by omega)
  omega
theorem size_b {h w c : Int} (hs : shapeOk h w c = true) : 1 ≤ h * w ∧ h * w ≤ 64 ∧ 1 ≤ h * w * c ∧ h * w * c ≤ 512 := by
  obtain ⟨h1, h2, h3⟩ := shapeOk_iff.1 hs
  have a := mul_b (a := h) (b := w) (A := 8) (B := 8) (by omega) (by omega) (by omega) (by omega)
  have b := mul_b (a := h * w) (b := c) (A := 64) (B := 8) (by omega) (by omega) (by omega) (by omega)
  have c1 := mul_pos1 h1.1 h2.1
  have c2 := mul_pos1 c1 h3.1
  omega
theorem spec_ShapeOk_eq (h w c : Int) : spec_ShapeOk.f h w c = some (shapeOk h w c) := by
  unfold spec_ShapeOk.f shapeOk
  simp only [spec_l01In_eq, Option.bind_some, decide_eq_true_eq]
  by_cases h1 : 1 ≤ h ∧ h ≤ 8 <;> by_cases h2 : 1 ≤ w ∧ w ≤ 8 <;> simp [h1, h2]


theorem impl_ShapeOk_eq (h w c : Int) : impl_ShapeOk.f h w c = some (shapeOk h w c) := by
  unfold impl_ShapeOk.f shapeOk
  simp only [impl_in_eq, Option.bind_some, decide_eq_true_eq]
  by_cases h1 : 1 ≤ h ∧ h ≤ 8 <;> by_cases h2 : 1 ≤ w ∧ w ≤ 8 <;> simp [h1, h2]


theorem spec_SizeOf_eq (h w c : Int) : spec_SizeOf.f h w c = some (sizeOf h w c) := by
  unfold spec_SizeOf.f sizeOf
  rw [spec_ShapeOk_eq]
  simp only [Option.bind_some]
  by_cases hs : shapeOk h w c = true
  · have := size_b hs
    rw [if_pos hs, if_pos hs, w64' (x := h * w) (by omega) (by omega), w64' (by omega) (by omega)]
  · rw [if_neg hs, if_neg hs]


theorem impl_SizeOf_eq (h w c : Int) : impl_SizeOf.f h w c = some (sizeOf h w c) := by
  unfold impl_SizeOf.f sizeOf
  rw [impl_ShapeOk_eq]
  simp only [Option.bind_some]
  by_cases hs : shapeOk h w c = true
  · have := size_b hs
    rw [if_pos hs, if_pos hs, w64' (x := h * w) (by omega) (by omega), w64' (by omega) (by omega)]
  · rw [if_neg hs, if_neg hs]


def marksInt (k0 : Int) (n : Nat) : List Int := (List.range n).map fun (j : Nat) => k0 + (j : Int)
theorem marksInt_len (k0 : Int) (n : Nat) : (marksInt k0 n).length = n := by simp [marksInt]
theorem marksInt_succ (k0 : Int) (n : Nat) : marksInt k0 (n + 1) = k0 :: marksInt (k0 + 1) n := by
  unfold marksInt
  rw [List.range_succ_eq_map]
  simp only [List.map_cons, List.map_map, Function.comp_def, Int.natCast_zero, Int.add_zero, Nat.succ_eq_add_one, Int.natCast_add, Int.natCast_one]
  congr 1
  apply List.map_congr_left
  intro j _
  rw [show k0 + ((j : Int) + 1) = k0 + 1 + (j : Int) by omega]
theorem marksInt_get (k0 : Int) (n j : Nat) (h : j < n) : (marksInt k0 n)[j]'(by simpa [marksInt] using h) = k0 + (j : Int) := by simp [marksInt]


theorem laws_markIntS_l0 : ∀ (d i : Nat) (l : List Int) (x : Int), i + d = l.length → 0 ≤ x → x + d ≤ 4000000000000 → l.length ≤ 4000000000000 → Evp fun k => laws_markIntS.l0 k l x (i : Int) = some (x + d, l.take i ++ marksInt x d)
  | 0, i, l, x, hi, h0, h1, hl => evSuc (evAll fun k => by
    simp only [laws_markIntS.l0]
    rw [if_neg (by omega), List.take_of_length_le (by omega)]
    simp [marksInt])
  | d + 1, i, l, x, hi, h0, h1, hl => by
    have hlt : i < l.length := by omega
    refine evSuc (evMono (laws_markIntS_l0 d (i + 1) (l.set i (x)) (x + 1) (by simp; omega) (by omega) (by omega) (by simp; omega)) fun k ih => ?_)
    simp only [laws_markIntS.l0]
    rw [if_pos (by omega), if_pos (by omega), Int.toNat_natCast, w64' (x := x + 1) (by omega) (by omega), w64' (x := (i : Int) + 1) (by omega) (by omega)]
    have e : (l.set i (x)).take (i + 1) = l.take i ++ [x] := by
      rw [List.take_succ_eq_append_getElem (by simpa using hlt), List.take_set_of_le (Nat.le_refl i)]
      simp
    rw [e] at ih
    have ih' : laws_markIntS.l0 k (l.set i (x)) (x + 1) ((i : Int) + 1) = _ := ih
    rw [ih', marksInt_succ]
    simp
    omega
theorem laws_markIntS_ev (l : List Int) (x : Int) (h0 : 0 ≤ x) (h1 : x + l.length ≤ 4000000000000) : Evp fun k => laws_markIntS.f k l x = some (x + l.length, marksInt x l.length) := by
  have := laws_markIntS_l0 l.length 0 l x (by omega) h0 h1 (by omega)
  unfold laws_markIntS.f
  simpa using this


theorem laws_heldIntS_l0 (l : List Int) (hl : l.length ≤ 4000000000000) (x0 : Int) (h0 : 0 ≤ x0) (h1 : x0 + l.length ≤ 4000000000000) (hm : l = marksInt x0 l.length) : ∀ (d i : Nat), i + d = l.length → Evp fun k => laws_heldIntS.l0 k l (x0 + i) (i : Int) = some (x0 + l.length)
  | 0, i, hi => evSuc (evAll fun k => by
    simp only [laws_heldIntS.l0]
    rw [if_neg (by omega)]
    congr 1
    omega)
  | d + 1, i, hi => by
    have hlt : i < l.length := by omega
    refine evSuc (evMono (laws_heldIntS_l0 l hl x0 h0 h1 hm d (i + 1) (by omega)) fun k ih => ?_)
    have e : l[i] = x0 + (i : Int) := by
      have g := marksInt_get x0 l.length i hlt
      rw [← g]
      congr 1
    simp only [laws_heldIntS.l0]
    rw [if_pos (by omega), if_pos (by omega), rd_eq hlt, if_pos e, w64' (x := x0 + (i : Int) + 1) (by omega) (by omega), w64' (x := (i : Int) + 1) (by omega) (by omega), show x0 + (i : Int) + 1 = x0 + ((i + 1 : Nat) : Int) by omega]
    exact ih
theorem laws_heldIntS_ev (n : Nat) (x : Int) (h0 : 0 ≤ x) (h1 : x + n ≤ 4000000000000) : Evp fun k => laws_heldIntS.f k (marksInt x n) x = some (x + n) := by
  have := laws_heldIntS_l0 (marksInt x n) (by rw [marksInt_len]; omega) x h0 (by rw [marksInt_len]; omega) (by rw [marksInt_len]) n 0 (by rw [marksInt_len]; omega)
  rw [marksInt_len] at this
  unfold laws_heldIntS.f
  simpa using this


def item8 (x : Int) : Bool := decide (-128 ≤ x ∧ x ≤ 127)
def itemsB (l : List Int) : Bool := l.all item8
theorem itemsB_iff {l : List Int} : itemsB l = true ↔ ∀ x ∈ l, -128 ≤ x ∧ x ≤ 127 := by
  unfold itemsB item8
  simp
theorem all_at {p : Int → Bool} {l : List Int} {i : Nat} (h : i < l.length) : (l.drop i).all p = (p l[i] && (l.drop (i + 1)).all p) := by
  rw [drop_at h, List.all_cons]
def tensorOk (h w c : Int) (l : List Int) : Bool := shapeOk h w c && (decide ((l.length : Int) = sizeOf h w c) && itemsB l)
theorem tensorOk_iff {h w c : Int} {l : List Int} : tensorOk h w c l = true ↔ shapeOk h w c = true ∧ (l.length : Int) = h * w * c ∧ ∀ x ∈ l, -128 ≤ x ∧ x ≤ 127 := by
  unfold tensorOk sizeOf
  by_cases hs : shapeOk h w c = true
  · simp [hs, itemsB_iff]
  · simp [hs]
theorem tensorOk_len {h w c : Int} {l : List Int} (ht : tensorOk h w c l = true) : 1 ≤ l.length ∧ l.length ≤ 512 := by
  obtain ⟨hs, hl, _⟩ := tensorOk_iff.1 ht
  have := size_b hs
  omega


theorem laws_eqShape_self (h w c : Int) : laws_eqShape.f h w c h w c = some true := ite_yes rfl (ite_yes rfl (ite_yes rfl rfl))


theorem laws_eqTensor_self (h w c : Int) (l : List Int) (hl : (l.length : Int) ≤ 1048576) : Evp fun k => laws_eqTensor.f k h w c l h w c l = some true :=
  evMono (laws_eqIntS_ev l l (by omega)) fun k e => bind_of (laws_eqShape_self h w c) (ite_yes rfl (bind_of e (ite_yes (by simp) rfl)))


theorem spec_l02Int8_eq (x : Int) : spec_l02Int8.f x = some (item8 x) := by
  unfold spec_l02Int8.f
  rw [spec_l01In_eq]
  rfl


theorem spec_TensorOk_l0 (h w c : Int) (l : List Int) (hl : l.length ≤ 9223372036854775807) : ∀ (d i : Nat), i + d = l.length → Evp fun k => spec_TensorOk.l0 k (i : Int) h w c l = some ((l.drop i).all item8)
  | 0, i, hi => evSuc (evAll fun k => by
    simp only [spec_TensorOk.l0]
    rw [if_neg (by omega), List.drop_eq_nil_of_le (by omega)]
    rfl)
  | d + 1, i, hi => by
    have hlt : i < l.length := by omega
    refine evSuc (evMono (spec_TensorOk_l0 h w c l hl d (i + 1) (by omega)) fun k ih => ?_)
    simp only [spec_TensorOk.l0]
    rw [if_pos (by omega), if_pos (by omega), rd_eq hlt, spec_l02Int8_eq, all_at hlt]
    simp only [Option.bind_some]
    cases hx : item8 l[i] with
    | true =>
      rw [if_pos rfl, w64' (by omega) (by omega)]
      simpa using ih
    | false => simp
theorem spec_TensorOk_ev (h w c : Int) (l : List Int) (hl : l.length ≤ 9223372036854775807) : Evp fun k => spec_TensorOk.f k h w c l = some (tensorOk h w c l) := by
  unfold tensorOk
  by_cases hs : shapeOk h w c = true
  · by_cases hz : (l.length : Int) = sizeOf h w c
    · refine evMono (evSuc (p := fun k => spec_TensorOk.j0 k false h w c l = some (l.all item8)) (evMono (spec_TensorOk_l0 h w c l hl l.length 0 (by omega)) fun k e => ?_)) fun k e => ?_
      · simp only [spec_TensorOk.j0]
        exact ite_no (by simp) e
      · refine bind_of (spec_ShapeOk_eq h w c) (ite_yes hs (bind_of (spec_SizeOf_eq h w c) ?_))
        rw [show ((l.length : Int) != sizeOf h w c) = false by simp [hz], hs, decide_eq_true hz]
        exact e
    · refine evSuc (evAll fun k => bind_of (spec_ShapeOk_eq h w c) (ite_yes hs (bind_of (spec_SizeOf_eq h w c) ?_)))
      rw [show ((l.length : Int) != sizeOf h w c) = true by simp [hz], decide_eq_false hz]
      simp [spec_TensorOk.j0]
  · refine evSuc (evAll fun k => bind_of (spec_ShapeOk_eq h w c) (ite_no hs ?_))
    simp [spec_TensorOk.j0, hs]


theorem impl_areItems_1_eq (x : Int) : impl_areItems_1.f x = some (!item8 x) := by
  unfold impl_areItems_1.f
  rw [impl_in_eq]
  rfl


theorem indexItems_l0 (l : List Int) (hl : l.length ≤ 9223372036854775807) : ∀ (d i : Nat), i + d = l.length → ∃ r, (Evp fun k => slices_IndexFunc_int_int_impl_areItems_1.l0 k l (l.length : Int) (i : Int) = some r) ∧ (decide (r ≥ 0) = !(l.drop i).all item8)
  | 0, i, hi => ⟨-1, evSuc (evAll fun k => by
    simp only [slices_IndexFunc_int_int_impl_areItems_1.l0]
    rw [if_neg (by omega)]), by rw [List.drop_eq_nil_of_le (by omega)]; rfl⟩
  | d + 1, i, hi => by
    have hlt : i < l.length := by omega
    rw [all_at hlt]
    cases hx : item8 l[i] with
    | true =>
      obtain ⟨r, h1, h2⟩ := indexItems_l0 l hl d (i + 1) (by omega)
      refine ⟨r, evSuc (evMono h1 fun k ih => ?_), by simpa using h2⟩
      simp only [slices_IndexFunc_int_int_impl_areItems_1.l0]
      rw [if_pos (by omega), if_pos (by omega), if_pos (by omega), rd_eq hlt, impl_areItems_1_eq, hx]
      simp only [Option.bind_some]
      rw [if_neg (by simp), w64' (by omega) (by omega)]
      exact ih
    | false =>
      refine ⟨(i : Int), evSuc (evAll fun k => ?_), by simp⟩
      simp only [slices_IndexFunc_int_int_impl_areItems_1.l0]
      rw [if_pos (by omega), if_pos (by omega), if_pos (by omega), rd_eq hlt, impl_areItems_1_eq, hx]
      simp


theorem impl_areItems_ev (l : List Int) (hl : l.length ≤ 9223372036854775807) : Evp fun k => impl_areItems.f k l = some (itemsB l) := by
  obtain ⟨r, h1, h2⟩ := indexItems_l0 l hl l.length 0 (by omega)
  refine evMono h1 fun k e => ?_
  have e1 : slices_ContainsFunc_int_int_impl_areItems_1.f k l = some (decide (r ≥ 0)) := bind_of (f := fun t => some (decide (t ≥ 0))) e rfl
  have e2 : impl_areItems.f k l = some (!decide (r ≥ 0)) := bind_of (f := fun t => some (!t)) e1 rfl
  rw [e2, h2]
  simp [itemsB]


theorem impl_TensorOk_ev (h w c : Int) (l : List Int) (hl : l.length ≤ 9223372036854775807) : Evp fun k => impl_TensorOk.f k h w c l = some (tensorOk h w c l) := by
  refine evMono (impl_areItems_ev l hl) fun k e => ?_
  unfold tensorOk
  by_cases hs : shapeOk h w c = true
  · refine bind_of (impl_ShapeOk_eq h w c) (ite_yes hs (bind_of (impl_SizeOf_eq h w c) ?_))
    by_cases hz : (l.length : Int) = sizeOf h w c
    · rw [if_pos hz, hs, decide_eq_true hz]
      exact bind_of e rfl
    · rw [if_neg hz, decide_eq_false hz]
      simp
  · refine bind_of (impl_ShapeOk_eq h w c) (ite_no hs ?_)
    simp [hs]


theorem laws_markTensor_ev (h w c : Int) (l : List Int) (x : Int) (h0 : 0 ≤ x) (h1 : x + l.length ≤ 4000000000000) : Evp fun k => laws_markTensor.f k h w c l x = some (x + l.length, marksInt x l.length) :=
  evMono (laws_markIntS_ev l x h0 h1) fun k e => bind_of e rfl


theorem laws_heldTensor_ev (h w c : Int) (n : Nat) (x : Int) (h0 : 0 ≤ x) (h1 : x + n ≤ 4000000000000) : Evp fun k => laws_heldTensor.f k h w c (marksInt x n) x = some (x + n) :=
  evMono (laws_heldIntS_ev n x h0 h1) fun k e => bind_of e (ite_no (by omega) rfl)


theorem ba_app (a b : List UInt8) : (⟨a.toArray⟩ : ByteArray) ++ ⟨b.toArray⟩ = ⟨(a ++ b).toArray⟩ := ByteArray.ext (by simp [ByteArray.data_append])
theorem ba_size (a : List UInt8) : (⟨a.toArray⟩ : ByteArray).size = a.length := by simp [ByteArray.size]
def dd (u : Nat) : List UInt8 := if u = 0 then [] else Lib.decDigits u
theorem dd_step {u : Nat} (h : 0 < u) : dd u = dd (u / 10) ++ [UInt8.ofNat (48 + u % 10)] := by
  unfold dd
  rw [if_neg (by omega)]
  by_cases h1 : u < 10
  · rw [if_pos (by omega), Lib.decDigits_one h1, show u % 10 = u by omega]
    rfl
  · rw [if_neg (by omega)]
    conv => lhs; rw [Lib.decDigits, dif_neg h1]
theorem num_byte {v : Int} {u : Nat} (h : v = 48 + ((u % 10 : Nat) : Int)) : strOfNums [v % 256] = ⟨[UInt8.ofNat (48 + u % 10)].toArray⟩ := by
  have e : (v % 256).toNat = 48 + u % 10 := by omega
  show (⟨[UInt8.ofNat (v % 256).toNat].toArray⟩ : ByteArray) = _
  rw [e]
theorem l01Num_l0 (neg : Bool) : ∀ (n u : Nat) (x : Int) (L : List UInt8), u < 10 ^ n → n ≤ 20 → L.length + n ≤ 1000 → x.natAbs = u → -9223372036854775808 ≤ x → x ≤ 9223372036854775807 → Evp fun k => spec_l01Num.l0 k x ⟨L.toArray⟩ neg = some ⟨((if neg then [45] else []) ++ (dd u ++ L)).toArray⟩
  | 0, u, x, L, hu, _, hL, hx, _, _ => by
    have hu0 : u = 0 := by simpa using hu
    subst hu0
    have hx0 : x = 0 := by omega
    subst hx0
    exact evSuc (evAll fun k => by
      simp only [spec_l01Num.l0]
      refine ite_yes trivial ?_
      cases neg with
      | true =>
        refine ite_yes rfl ?_
        rw [if_pos (by rw [ba_size]; omega)]
        exact congrArg some (ba_app [45] L)
      | false => exact ite_no Bool.false_ne_true rfl)
  | n + 1, u, x, L, hu, hn, hL, hx, h0, h1 => by
    by_cases hx0 : x = 0
    · subst hx0
      have hu0 : u = 0 := by simpa using hx.symm
      subst hu0
      exact evSuc (evAll fun k => by
        simp only [spec_l01Num.l0]
        refine ite_yes trivial ?_
        cases neg with
        | true =>
          refine ite_yes rfl ?_
          rw [if_pos (by rw [ba_size]; omega)]
          exact congrArg some (ba_app [45] L)
        | false => exact ite_no Bool.false_ne_true rfl)
    · have hd : (Int.tdiv x 10).natAbs = u / 10 := by rw [Int.natAbs_tdiv, hx]; rfl
      have hm : (Int.tmod x 10).natAbs = u % 10 := by rw [Int.natAbs_tmod, hx]; rfl
      have hq : -9223372036854775808 ≤ Int.tdiv x 10 ∧ Int.tdiv x 10 ≤ 9223372036854775807 := by omega
      have ih := l01Num_l0 neg n (u / 10) (Int.tdiv x 10) (UInt8.ofNat (48 + u % 10) :: L) (by rw [Nat.pow_succ] at hu; omega) (by omega) (by rw [List.length_cons]; omega) hd hq.1 hq.2
      rw [dd_step (u := u) (by omega), List.append_assoc, List.singleton_append]
      have hsz : ∀ v : Int, v = 48 + ((u % 10 : Nat) : Int) → (if (strOfNums [v % 256]).size + (⟨L.toArray⟩ : ByteArray).size ≤ 9223372036854775807 then True else False) := fun v hv => by
        rw [num_byte hv, ba_size, ba_size, if_pos (by simp only [List.length_singleton]; omega)]
        trivial
      refine evSuc (evMono ih fun k e => ?_)
      simp only [spec_l01Num.l0]
      refine ite_no hx0 ?_
      rw [w64' (x := Int.tdiv x 10) hq.1 hq.2]
      by_cases hneg : Int.tmod x 10 < 0
      · refine ite_yes hneg ?_
        have hv : wrap64 (48 + wrap64 (-(Int.tmod x 10))) = 48 + ((u % 10 : Nat) : Int) := by rw [w64' (x := -(Int.tmod x 10)) (by omega) (by omega), w64' (by omega) (by omega)]; omega
        show (if (strOfNums [(wrap64 (48 + wrap64 (-(Int.tmod x 10)))) % 256]).size + (⟨L.toArray⟩ : ByteArray).size ≤ 9223372036854775807 then spec_l01Num.l0 k (Int.tdiv x 10) (strOfNums [(wrap64 (48 + wrap64 (-(Int.tmod x 10)))) % 256] ++ ⟨L.toArray⟩) neg else none) = _
        rw [num_byte hv, ba_app, if_pos (by rw [ba_size, ba_size]; simp only [List.length_singleton]; omega)]
        exact e
      · refine ite_no hneg ?_
        have hv : wrap64 (48 + Int.tmod x 10) = 48 + ((u % 10 : Nat) : Int) := by rw [w64' (by omega) (by omega)]; omega
        show (if (strOfNums [(wrap64 (48 + Int.tmod x 10)) % 256]).size + (⟨L.toArray⟩ : ByteArray).size ≤ 9223372036854775807 then spec_l01Num.l0 k (Int.tdiv x 10) (strOfNums [(wrap64 (48 + Int.tmod x 10)) % 256] ++ ⟨L.toArray⟩) neg else none) = _
        rw [num_byte hv, ba_app, if_pos (by rw [ba_size, ba_size]; simp only [List.length_singleton]; omega)]
        exact e
theorem spec_l01Num_ev (x : Int) (h : i64 x) : Evp fun k => spec_l01Num.f k x = some ⟨(Lib.itoa x).toArray⟩ := by
  unfold i64 at h
  by_cases hx : x = 0
  · subst hx
    refine evAll fun k => ite_yes rfl ?_
    rw [show Lib.itoa 0 = [48] from by unfold Lib.itoa; rw [if_neg (by omega)]; exact Lib.decDigits_one (by omega)]
  · have h20 : x.natAbs < 10 ^ 20 := by
      have : (10 : Nat) ^ 20 = 100000000000000000000 := by decide
      omega
    refine evMono (l01Num_l0 (decide (x < 0)) 20 x.natAbs x [] h20 (by omega) (by simp) rfl h.1 h.2) fun k e => ite_no hx ?_
    rw [show (⟨#[]⟩ : ByteArray) = ⟨([] : List UInt8).toArray⟩ from rfl, e]
    congr 2
    have hz : ¬ x.natAbs = 0 := by omega
    rw [List.append_nil]
    unfold Lib.itoa dd
    rw [if_neg hz]
    by_cases hn : x < 0
    · rw [decide_eq_true hn, if_pos rfl, if_pos hn]; rfl
    · rw [decide_eq_false hn, if_neg Bool.false_ne_true, if_neg hn, show x.natAbs = x.toNat by omega]; rfl


theorem Itoa_eq {x : Int} (h : i64 x) : strconv_Itoa.f x = some ⟨(Lib.itoa x).toArray⟩ := ite_yes h.1 (ite_yes h.2 rfl)
theorem itoa_le {x : Int} (h : i64 x) : (Lib.itoa x).length ≤ 20 := by
  have key : ∀ (n x : Nat), x < 10 ^ (n + 1) → Lib.nDigits x ≤ n + 1 := by
    intro n
    induction n with
    | zero => intro x h; rw [Lib.nDigits_small (by omega)]; omega
    | succ n ih =>
      intro x h
      by_cases h1 : x < 10
      · rw [Lib.nDigits_small h1]; omega
      · rw [Lib.nDigits_big h1]
        have := ih (x / 10) (by rw [Nat.pow_succ] at h; omega)
        omega
  unfold i64 at h
  have h19 : (10 : Nat) ^ 19 = 10000000000000000000 := by decide
  unfold Lib.itoa
  split
  · have := key 18 x.natAbs (by omega)
    rw [List.length_cons, Lib.decDigits_length]
    omega
  · have := key 18 x.toNat (by omega)
    rw [Lib.decDigits_length]
    omega


def sidesL (h w c : Int) : List UInt8 := Lib.itoa h ++ [120] ++ Lib.itoa w ++ [120] ++ Lib.itoa c
theorem sidesL_len {h w c : Int} (a : i64 h) (b : i64 w) (d : i64 c) : (sidesL h w c).length ≤ 62 := by
  have := itoa_le a; have := itoa_le b; have := itoa_le d
  unfold sidesL
  simp only [List.length_append, List.length_singleton]
  omega
theorem ba_lit (a : List UInt8) (b : UInt8) : (⟨a.toArray⟩ : ByteArray) ++ (⟨#[b]⟩ : ByteArray) = ⟨(a ++ [b]).toArray⟩ := ba_app a [b]


theorem sides_eq {h w c : Int} (a : i64 h) (b : i64 w) (d : i64 c) : impl_Shape_sides.f h w c = some ⟨(sidesL h w c).toArray⟩ := by
  have := itoa_le a; have := itoa_le b; have := itoa_le d
  refine bind_of (Itoa_eq a) ?_
  rw [if_pos (by rw [ba_size]; omega)]
  refine bind_of (Itoa_eq b) ?_
  rw [ba_lit, ba_app, ba_lit, if_pos (by rw [ba_size, ba_size]; simp only [List.length_append, List.length_singleton]; omega), if_pos (by rw [ba_size]; simp only [List.length_append, List.length_singleton]; omega)]
  refine bind_of (Itoa_eq d) ?_
  rw [if_pos (by rw [ba_size, ba_size]; simp only [List.length_append, List.length_singleton]; omega), ba_app]
  rfl


def tensorTextL (h w c : Int) (l : List Int) : List UInt8 := if tensorOk h w c l = true then sidesL h w c ++ [58] ++ spacedL l else []
theorem shapeOk_i64 {h w c : Int} (hs : shapeOk h w c = true) : i64 h ∧ i64 w ∧ i64 c := by
  unfold shapeOk at hs
  unfold i64
  simp only [Bool.and_eq_true, decide_eq_true_iff] at hs
  omega
theorem impl_TensorText_ok (h w c : Int) (l : List Int) (hl : l.length ≤ 9223372036854775807) : Evp fun k => impl_TensorText.f k h w c l = some ⟨(tensorTextL h w c l).toArray⟩ := by
  have t2 := impl_TensorOk_ev h w c l hl
  unfold tensorTextL
  by_cases ht : tensorOk h w c l = true
  · rw [if_pos ht]
    have hlen := (tensorOk_len ht).2
    have hs := (tensorOk_iff.1 ht).1
    have hitems := (tensorOk_iff.1 ht).2.2
    have hi : ∀ x ∈ l, i64 x := fun x hx => by have := hitems x hx; unfold i64; omega
    obtain ⟨a, b, d⟩ := shapeOk_i64 hs
    have := itoa_le a; have := itoa_le b; have := itoa_le d
    have hsl := sidesL_len a b d
    have hsp : (spacedL l).length ≤ 21 * l.length := by
      clear hlen t2 ht hl
      induction l with
      | nil => simp [spacedL]
      | cons x l ih =>
        have h1 := itoa_le (hi x (by simp))
        have h2 := ih (fun y hy => hitems y (List.mem_cons_of_mem _ hy)) (fun y hy => hi y (List.mem_cons_of_mem _ hy))
        simp only [spacedL, List.length_cons, List.length_append]
        omega
    have hf : impl_spaced.f l = some ⟨(spacedL l).toArray⟩ := ite_yes ⟨by omega, fun x hx => hi x hx⟩ rfl
    refine evMono t2 fun k e0 => bind_of e0 (ite_yes ht (bind_of (sides_eq a b d) ?_))
    rw [if_pos (by rw [ba_size]; omega)]
    refine bind_of hf ?_
    rw [ba_lit, if_pos (by rw [ba_size, ba_size]; simp only [List.length_append, List.length_singleton]; omega), ba_app]
  · rw [if_neg ht]
    exact evMono t2 fun k e => bind_of e (ite_no ht rfl)


abbrev ba (l : List UInt8) : ByteArray := ⟨l.toArray⟩
theorem ba_data (l : List UInt8) : (ba l).data.toList = l := rfl
theorem ba_of (s : ByteArray) : ba s.data.toList = s := rfl
theorem ba_extract (l : List UInt8) (i j : Nat) : (ba l).extract i j = ba ((l.drop i).take (j - i)) := by
  have h := Lib.extract_data (ba l) i j
  rw [← ba_of ((ba l).extract i j), h]
theorem ba_toList (l : List UInt8) : (ba l).toList = l := Lib.toList_data (ba l)
theorem ba_len (l : List UInt8) : (ba l).size = l.length := ba_size l
theorem bt_ba {l : List UInt8} {i : Nat} (h : i < l.length) : bt (ba l) (i : Int) = (l[i].toNat : Int) := by
  unfold bt
  rw [dif_pos (by rw [Int.toNat_natCast, ba_len]; exact h)]
  rfl
theorem rdba {W : List (List UInt8)} {i : Nat} (h : i < W.length) : rdOf ByteArray.empty (W.map ba) (i : Int) = ba W[i] := by
  unfold rdOf
  rw [Int.toNat_natCast, List.getD_eq_getElem?_getD, List.getElem?_map, List.getElem?_eq_getElem h]
  rfl
/-- A text parted at each byte c. -/
def parts (c : UInt8) : List UInt8 → List (List UInt8)
  | [] => [[]]
  | b :: l => if b = c then [] :: parts c l else match parts c l with
    | [] => [[b]]
    | p :: ps => (b :: p) :: ps
def glue (p : List UInt8) : List (List UInt8) → List (List UInt8)
  | [] => [p]
  | q :: qs => (p ++ q) :: qs
theorem parts_ne (c : UInt8) : ∀ l, ∃ p ps, parts c l = p :: ps
  | [] => ⟨[], [], rfl⟩
  | b :: l => by
    unfold parts
    split
    · exact ⟨_, _, rfl⟩
    · split
      · exact ⟨_, _, rfl⟩
      · exact ⟨_, _, rfl⟩
theorem glue_nil (c : UInt8) (l : List UInt8) : glue [] (parts c l) = parts c l := by
  obtain ⟨p, ps, e⟩ := parts_ne c l
  rw [e]; rfl
theorem parts_hit (c : UInt8) (l : List UInt8) : parts c (c :: l) = [] :: parts c l := by
  conv => lhs; unfold parts
  rw [if_pos rfl]
theorem parts_miss {c b : UInt8} (h : b ≠ c) (l : List UInt8) : parts c (b :: l) = glue [b] (parts c l) := by
  conv => lhs; unfold parts
  rw [if_neg h]
  split
  · rename_i e; rw [e]; rfl
  · rename_i e; rw [e]; rfl
theorem glue_glue (p q : List UInt8) (X : List (List UInt8)) : glue p (glue q X) = glue (p ++ q) X := by
  cases X with
  | nil => rfl
  | cons a A => simp [glue]
theorem parts_clean {c : UInt8} : ∀ {p : List UInt8}, (∀ b ∈ p, b ≠ c) → parts c p = [p]
  | [], _ => rfl
  | b :: p, h => by
    rw [parts_miss (h b (by simp)), parts_clean (fun x hx => h x (by simp [hx]))]
    rfl
theorem parts_app {c : UInt8} : ∀ {p : List UInt8} (l : List UInt8), (∀ b ∈ p, b ≠ c) → parts c (p ++ c :: l) = p :: parts c l
  | [], l, _ => parts_hit c l
  | b :: p, l, h => by
    rw [List.cons_append, parts_miss (h b (by simp)), parts_app l (fun x hx => h x (by simp [hx]))]
    rfl
/-- The parts, joined again. -/
def joinC (c : UInt8) : List (List UInt8) → List UInt8
  | [] => []
  | [p] => p
  | p :: q :: qs => p ++ c :: joinC c (q :: qs)
theorem join_parts (c : UInt8) : ∀ l, joinC c (parts c l) = l
  | [] => rfl
  | b :: l => by
    have ih := join_parts c l
    obtain ⟨p, ps, e⟩ := parts_ne c l
    by_cases h : b = c
    · subst h
      rw [parts_hit]
      rw [e] at ih ⊢
      simp only [joinC, List.nil_append, ih]
    · rw [parts_miss h, e]
      rw [e] at ih
      cases ps with
      | nil => simp only [glue, joinC] at ih ⊢; rw [ih]; rfl
      | cons q qs => simp only [glue, joinC] at ih ⊢; rw [List.append_assoc, ih]; rfl
theorem parts_mem (c : UInt8) : ∀ l, ∀ p ∈ parts c l, p.length ≤ l.length
  | [], p, h => by simp [parts] at h; simp [h]
  | b :: l, p, h => by
    have ih := parts_mem c l
    by_cases hb : b = c
    · subst hb
      rw [parts_hit] at h
      rcases List.mem_cons.1 h with rfl | h
      · simp
      · have := ih p h; simp; omega
    · obtain ⟨q, qs, e⟩ := parts_ne c l
      rw [parts_miss hb, e] at h
      rw [e] at ih
      rcases List.mem_cons.1 h with rfl | h
      · have := ih q (by simp); simp; omega
      · have := ih p (by simp [h]); simp; omega
theorem l02Parts_l0 (L : List UInt8) (hL : L.length ≤ 1048576) (c : UInt8) : ∀ (d j a : Nat) (out : List ByteArray), j + d = L.length → a ≤ j → out.length ≤ j → Evp fun k => spec_l02Parts.l0 k (ba L) (c.toNat : Int) out (a : Int) (j : Int) = some (out ++ (glue ((L.take j).drop a) (parts c (L.drop j))).map ba)
  | 0, j, a, out, hj, ha, ho => by
    have e0 : glue ((L.take j).drop a) (parts c (L.drop j)) = [(L.drop a).take (j - a)] := by
      rw [show L.drop j = [] from List.drop_eq_nil_of_le (by omega), ← List.drop_take]
      simp only [parts, glue, List.append_nil]
    rw [e0]
    have last : Evp fun k => spec_l02Parts.l0 k (ba L) (c.toNat : Int) (out ++ [ba ((L.drop a).take (j - a))]) (wrap64 ((j : Int) + 1)) (wrap64 ((j : Int) + 1)) = some (out ++ [ba ((L.drop a).take (j - a))]) := by
      rw [w64' (x := (j : Int) + 1) (by omega) (by omega)]
      exact evSuc (evAll fun k => by
        simp only [spec_l02Parts.l0]
        exact ite_no (by rw [ba_len]; omega) rfl)
    refine evSuc (evMono last fun k e => ?_)
    simp only [spec_l02Parts.l0]
    refine ite_yes (by rw [ba_len]; omega) (ite_yes (by rw [ba_len]; omega) (ite_yes (by omega) (ite_yes (by omega) (ite_yes (by omega) ?_))))
    rw [Int.toNat_natCast, Int.toNat_natCast, ba_extract]
    exact e
  | d + 1, j, a, out, hj, ha, ho => by
    have hlt : j < L.length := by omega
    have hd : L.drop j = L[j] :: L.drop (j + 1) := List.drop_eq_getElem_cons hlt
    by_cases hc : L[j] = c
    · have ih := l02Parts_l0 L hL c d (j + 1) (j + 1) (out ++ [ba ((L.drop a).take (j - a))]) (by omega) (by omega) (by simp; omega)
      have e1 : out ++ (glue ((L.take j).drop a) (parts c (L.drop j))).map ba = out ++ [ba ((L.drop a).take (j - a))] ++ (glue ((L.take (j + 1)).drop (j + 1)) (parts c (L.drop (j + 1)))).map ba := by
        rw [hd, hc, parts_hit, show (L.take (j + 1)).drop (j + 1) = [] from List.drop_eq_nil_of_le (by simp; omega), glue_nil, List.append_assoc, ← List.drop_take]
        simp [glue]
      rw [e1]
      refine evSuc (evMono ih fun k e => ?_)
      simp only [spec_l02Parts.l0]
      refine ite_yes (by rw [ba_len]; omega) (ite_no (by rw [ba_len]; omega) (ite_yes (by omega) (ite_yes (by rw [ba_len]; omega) ?_)))
      rw [bt_ba hlt, hc]
      refine ite_yes rfl (ite_yes (by omega) (ite_yes (by omega) (ite_yes (by omega) ?_)))
      rw [Int.toNat_natCast, Int.toNat_natCast, ba_extract, w64' (x := (j : Int) + 1) (by omega) (by omega)]
      exact e
    · have ih := l02Parts_l0 L hL c d (j + 1) a out (by omega) (by omega) (by omega)
      have e1 : glue ((L.take j).drop a) (parts c (L.drop j)) = glue ((L.take (j + 1)).drop a) (parts c (L.drop (j + 1))) := by
        rw [hd, parts_miss hc, glue_glue, List.take_succ_eq_append_getElem hlt, List.drop_append_of_le_length (by simp; omega)]
      rw [e1]
      refine evSuc (evMono ih fun k e => ?_)
      simp only [spec_l02Parts.l0]
      refine ite_yes (by rw [ba_len]; omega) (ite_no (by rw [ba_len]; omega) (ite_yes (by omega) (ite_yes (by rw [ba_len]; omega) ?_)))
      rw [bt_ba hlt]
      refine ite_no (fun h => hc (UInt8.toNat_inj.1 (by omega))) ?_
      rw [w64' (x := (j : Int) + 1) (by omega) (by omega)]
      exact e
theorem spec_l02Parts_ev (L : List UInt8) (hL : L.length ≤ 1048576) (c : UInt8) : Evp fun k => spec_l02Parts.f k (ba L) (c.toNat : Int) = some ((parts c L).map ba) := by
  have h := l02Parts_l0 L hL c L.length 0 0 [] (by omega) (by omega) (by simp)
  simp only [List.take_zero, List.drop_zero, List.drop_nil, glue_nil, List.nil_append] at h
  exact h


/-- The number that digits spell. -/
def dig (acc : Int) : List UInt8 → Option Int
  | [] => some acc
  | b :: l => if b.toNat < 48 ∨ 57 < b.toNat then none else dig (10 * acc + b.toNat - 48) l
def readE (W D : List UInt8) (o : Option Int) : Int × Bool := match o with
  | none => (0, false)
  | some x => if D.length < W.length then (-x, Lib.itoa (-x) == W) else (x, Lib.itoa x == W)
def readR (W D : List UInt8) : Int × Bool := if 1 ≤ D.length ∧ D.length ≤ 9 then readE W D (dig 0 D) else (0, false)
def readL (W : List UInt8) : Int × Bool := match W with
  | [] => (0, false)
  | b :: l => if b = 45 then readR (b :: l) l else readR (b :: l) (b :: l)
theorem pow10_step {i : Nat} {acc : Int} {b : Nat} (h0 : 0 ≤ acc) (h1 : acc < 10 ^ i) (h2 : 48 ≤ b) (h3 : b ≤ 57) : 0 ≤ 10 * acc + b - 48 ∧ 10 * acc + b - 48 < 10 ^ (i + 1) := by
  rw [Int.pow_succ]
  omega
theorem l02Read_l0 (W D : List UInt8) (hD : D.length ≤ 9) (hW : W.length ≤ 100) : ∀ (d i : Nat) (acc : Int), i + d = D.length → 0 ≤ acc → acc < 10 ^ i → Evp fun k => spec_l02Read.l0 k (ba W) (ba D) acc (i : Int) = some (readE W D (dig acc (D.drop i)))
  | 0, i, acc, hi, h0, h1 => by
    have hb : acc < 10 ^ 9 := by
      have : (10 : Int) ^ i ≤ 10 ^ 9 := by
        have := Nat.pow_le_pow_right (n := 10) (by omega) (show i ≤ 9 by omega)
        exact_mod_cast this
      omega
    have h9 : (10 : Int) ^ 9 = 1000000000 := by decide
    rw [List.drop_eq_nil_of_le (by omega)]
    by_cases hl : D.length < W.length
    · refine evSuc (evMono (spec_l01Num_ev (-acc) (by unfold i64; omega)) fun k e => ?_)
      simp only [spec_l02Read.l0]
      refine ite_no (by rw [ba_len]; omega) (ite_yes (by rw [ba_len, ba_len]; omega) ?_)
      rw [w64' (x := -acc) (by omega) (by omega)]
      refine bind_of e ?_
      rw [show (⟨(Lib.itoa (-acc)).toArray⟩ : ByteArray).toList = Lib.itoa (-acc) from ba_toList _, ba_toList]
      simp only [dig, readE, if_pos hl]
    · refine evSuc (evMono (spec_l01Num_ev acc (by unfold i64; omega)) fun k e => ?_)
      simp only [spec_l02Read.l0]
      refine ite_no (by rw [ba_len]; omega) (ite_no (by rw [ba_len, ba_len]; omega) (bind_of e ?_))
      rw [show (⟨(Lib.itoa acc).toArray⟩ : ByteArray).toList = Lib.itoa acc from ba_toList _, ba_toList]
      simp only [dig, readE, if_neg hl]
  | d + 1, i, acc, hi, h0, h1 => by
    have hlt : i < D.length := by omega
    rw [List.drop_eq_getElem_cons hlt]
    have hb : acc < 10 ^ 9 := by
      have : (10 : Int) ^ i ≤ 10 ^ 9 := by
        have := Nat.pow_le_pow_right (n := 10) (by omega) (show i ≤ 9 by omega)
        exact_mod_cast this
      omega
    have h9 : (10 : Int) ^ 9 = 1000000000 := by decide
    by_cases c1 : D[i].toNat < 48
    · refine evSuc (evAll fun k => ?_)
      simp only [spec_l02Read.l0]
      refine ite_yes (by rw [ba_len]; omega) (ite_yes (by omega) ?_)
      rw [bt_ba hlt]
      refine ite_yes (by omega) ?_
      simp only [dig, if_pos (Or.inl c1), readE]
    · by_cases c2 : 57 < D[i].toNat
      · refine evSuc (evAll fun k => ?_)
        simp only [spec_l02Read.l0]
        refine ite_yes (by rw [ba_len]; omega) (ite_yes (by omega) ?_)
        rw [bt_ba hlt]
        refine ite_no (by omega) (ite_yes (by omega) ?_)
        simp only [dig, if_pos (Or.inr c2), readE]
      · have hs := pow10_step (b := D[i].toNat) h0 h1 (by omega) (by omega)
        have ih := l02Read_l0 W D hD hW d (i + 1) (10 * acc + D[i].toNat - 48) (by omega) hs.1 hs.2
        refine evSuc (evMono ih fun k e => ?_)
        simp only [spec_l02Read.l0]
        refine ite_yes (by rw [ba_len]; omega) (ite_yes (by omega) ?_)
        rw [bt_ba hlt]
        refine ite_no (by omega) (ite_no (by omega) ?_)
        rw [w64' (x := 10 * acc) (by omega) (by omega), w64' (x := ((D[i].toNat : Nat) : Int)) (by omega) (by omega), w64' (x := 10 * acc + ((D[i].toNat : Nat) : Int)) (by omega) (by omega), w64' (x := 10 * acc + ((D[i].toNat : Nat) : Int) - 48) (by omega) (by omega), w64' (x := (i : Int) + 1) (by omega) (by omega)]
        simp only [dig, if_neg (show ¬ (D[i].toNat < 48 ∨ 57 < D[i].toNat) by omega)]
        exact e
theorem l02Read_j1 (W D : List UInt8) (hW : W.length ≤ D.length + 1) : Evp fun k => spec_l02Read.j1 k (ba W) (ba D) = some (readR W D) := by
  by_cases h : 1 ≤ D.length ∧ D.length ≤ 9
  · have l0 := l02Read_l0 W D h.2 (by omega) D.length 0 0 (by omega) (by omega) (by simp)
    refine evSuc (evMono l0 fun k e => ?_)
    simp only [spec_l02Read.j1]
    refine bind_of (spec_l01In_eq _ _ _) (ite_yes (decide_eq_true (by rw [ba_len]; omega)) ?_)
    unfold readR
    rw [if_pos h]
    exact e
  · refine evSuc (evAll fun k => ?_)
    simp only [spec_l02Read.j1]
    refine bind_of (spec_l01In_eq _ _ _) (ite_no (by simp only [decide_eq_true_eq]; rw [ba_len]; omega) ?_)
    unfold readR
    rw [if_neg h]
theorem spec_l02Read_ev (W : List UInt8) (hl : W.length ≤ 4000000000) : Evp fun k => spec_l02Read.f k (ba W) = some (readL W) := by
  cases W with
  | nil =>
    have j1 : Evp fun k => spec_l02Read.j1 k (ba []) (ba []) = some (0, false) := l02Read_j1 [] [] (by simp)
    refine evMono (evSuc (p := fun k => spec_l02Read.j0 k (ba []) (ba []) false = some (0, false)) (evMono j1 fun k e => ?_)) fun k e => ite_no (by rw [ba_len]; simp) e
    simp only [spec_l02Read.j0]
    exact ite_no Bool.false_ne_true e
  | cons b l =>
    have hb : bt (ba (b :: l)) 0 = (b.toNat : Int) := bt_ba (l := b :: l) (i := 0) (by simp)
    by_cases h : b = 45
    · have j1 := l02Read_j1 (b :: l) l (by simp)
      have j0 : Evp fun k => spec_l02Read.j0 k (ba (b :: l)) (ba (b :: l)) true = some (readR (b :: l) l) := evSuc (evMono j1 fun k e => by
        simp only [spec_l02Read.j0]
        refine ite_yes trivial (ite_yes (by rw [ba_len]; simp only [List.length_cons]; omega) ?_)
        rw [ba_extract, ba_len]
        simpa using e)
      refine evMono j0 fun k e => ite_yes (by rw [ba_len]; simp only [List.length_cons]; omega) (ite_yes (by rw [ba_len]; simp only [List.length_cons]; omega) ?_)
      rw [hb, show ((b.toNat : Int) == 45) = true by rw [h]; rfl]
      simp only [readL, if_pos h]
      exact e
    · have j1 := l02Read_j1 (b :: l) (b :: l) (by simp)
      have j0 : Evp fun k => spec_l02Read.j0 k (ba (b :: l)) (ba (b :: l)) false = some (readR (b :: l) (b :: l)) := evSuc (evMono j1 fun k e => by
        simp only [spec_l02Read.j0]
        exact ite_no Bool.false_ne_true e)
      refine evMono j0 fun k e => ite_yes (by rw [ba_len]; simp only [List.length_cons]; omega) (ite_yes (by rw [ba_len]; simp only [List.length_cons]; omega) ?_)
      rw [hb, show ((b.toNat : Int) == 45) = false by rw [beq_eq_false_iff_ne]; intro hh; exact h (UInt8.toNat_inj.1 (by show b.toNat = 45; omega))]
      simp only [readL, if_neg h]
      exact e
theorem readR_sound {W D : List UInt8} (h : (readR W D).2 = true) : Lib.itoa (readR W D).1 = W := by
  unfold readR at h ⊢
  split at h
  · rename_i hc
    rw [if_pos hc]
    unfold readE at h ⊢
    split at h
    · cases h
    · split at h
      · rename_i hh; rw [if_pos hh]; exact beq_iff_eq.1 h
      · rename_i hh; rw [if_neg hh]; exact beq_iff_eq.1 h
  · cases h
theorem readL_sound {W : List UInt8} (h : (readL W).2 = true) : Lib.itoa (readL W).1 = W := by
  cases W with
  | nil => cases h
  | cons b l =>
    simp only [readL] at h ⊢
    split at h
    · rename_i hh; rw [if_pos hh]; exact readR_sound h
    · rename_i hh; rw [if_neg hh]; exact readR_sound h
/-! #### the digits of a number -/
theorem dec_mem : ∀ (u : Nat), ∀ b ∈ Lib.decDigits u, 48 ≤ b.toNat ∧ b.toNat ≤ 57 := by
  intro u
  induction u using Nat.strongRecOn with
  | _ u ih =>
    have hb : ∀ v : Nat, v < 10 → (UInt8.ofNat (48 + v)).toNat = 48 + v := fun v hv => by simp; omega
    intro b h
    by_cases h1 : u < 10
    · rw [Lib.decDigits_one h1, List.mem_singleton] at h
      rw [h, hb u h1]; omega
    · rw [Lib.decDigits, dif_neg h1] at h
      rcases List.mem_append.1 h with m | m
      · exact ih (u / 10) (by omega) b m
      · rw [List.mem_singleton] at m
        rw [m, hb _ (by omega)]; omega
theorem dig_app : ∀ (l : List UInt8) (acc : Int) (b : UInt8), 48 ≤ b.toNat → b.toNat ≤ 57 → dig acc (l ++ [b]) = (dig acc l).map fun x => 10 * x + (b.toNat : Int) - 48
  | [], acc, b, h0, h1 => by simp only [List.nil_append, dig, if_neg (show ¬ (b.toNat < 48 ∨ 57 < b.toNat) by omega), Option.map_some]
  | a :: l, acc, b, h0, h1 => by
    simp only [List.cons_append, dig]
    split
    · rfl
    · exact dig_app l _ b h0 h1
theorem dig_dec : ∀ (u : Nat), dig 0 (Lib.decDigits u) = some (u : Int) := by
  intro u
  induction u using Nat.strongRecOn with
  | _ u ih =>
    have hb : ∀ v : Nat, v < 10 → (UInt8.ofNat (48 + v)).toNat = 48 + v := fun v hv => by simp; omega
    by_cases h1 : u < 10
    · rw [Lib.decDigits_one h1]
      simp only [dig, hb u h1, if_neg (show ¬ (48 + u < 48 ∨ 57 < 48 + u) by omega)]
      congr 1
      omega
    · rw [Lib.decDigits, dif_neg h1, dig_app _ _ _ (by rw [hb _ (by omega)]; omega) (by rw [hb _ (by omega)]; omega), ih (u / 10) (by omega), hb _ (by omega)]
      simp only [Option.map_some]
      congr 1
      omega
theorem nDig_le : ∀ (n x : Nat), x < 10 ^ (n + 1) → Lib.nDigits x ≤ n + 1 := by
  intro n
  induction n with
  | zero => intro x h; rw [Lib.nDigits_small (by omega)]; omega
  | succ n ih =>
    intro x h
    by_cases h1 : x < 10
    · rw [Lib.nDigits_small h1]; omega
    · rw [Lib.nDigits_big h1]
      have := ih (x / 10) (by rw [Nat.pow_succ] at h; omega)
      omega
theorem dec_head (u : Nat) : ∃ b l, Lib.decDigits u = b :: l ∧ 48 ≤ b.toNat ∧ b.toNat ≤ 57 := by
  have hm := dec_mem u
  have hl : 0 < (Lib.decDigits u).length := by
    rw [Lib.decDigits_length]
    by_cases h : u < 10
    · rw [Lib.nDigits_small h]; omega
    · rw [Lib.nDigits_big h]; omega
  cases e : Lib.decDigits u with
  | nil => rw [e] at hl; cases hl
  | cons b l => exact ⟨b, l, rfl, hm b (by rw [e]; simp)⟩
theorem readL_itoa {x : Int} (h0 : -1000000000 < x) (h1 : x < 1000000000) : readL (Lib.itoa x) = (x, true) := by
  have p9 : (10 : Nat) ^ (8 + 1) = 1000000000 := by decide
  by_cases hn : x < 0
  · have hi : Lib.itoa x = 45 :: Lib.decDigits x.natAbs := by unfold Lib.itoa; rw [if_pos hn]
    obtain ⟨b, l, e, _, _⟩ := dec_head x.natAbs
    have hl : (Lib.decDigits x.natAbs).length ≤ 9 := by rw [Lib.decDigits_length]; exact nDig_le 8 _ (by omega)
    have hl1 : 1 ≤ (Lib.decDigits x.natAbs).length := by rw [e]; simp
    rw [hi]
    simp only [readL, if_pos]
    unfold readR
    rw [if_pos ⟨hl1, hl⟩, dig_dec]
    simp only [readE]
    rw [if_pos (by simp), show -((x.natAbs : Nat) : Int) = x by omega, hi]
    simp
  · have hi : Lib.itoa x = Lib.decDigits x.toNat := by unfold Lib.itoa; rw [if_neg hn]
    obtain ⟨b, l, e, h2, h3⟩ := dec_head x.toNat
    have hl : (Lib.decDigits x.toNat).length ≤ 9 := by rw [Lib.decDigits_length]; exact nDig_le 8 _ (by omega)
    have hl1 : 1 ≤ (Lib.decDigits x.toNat).length := by rw [e]; simp
    have hg : readL (Lib.decDigits x.toNat) = readR (Lib.decDigits x.toNat) (Lib.decDigits x.toNat) := by
      rw [e]
      simp only [readL]
      rw [if_neg (fun hb => by rw [hb] at h2; exact absurd h2 (by decide))]
    rw [hi, hg]
    unfold readR
    rw [if_pos ⟨hl1, hl⟩, dig_dec]
    simp only [readE]
    rw [if_neg (by omega), show ((x.toNat : Nat) : Int) = x by omega, hi]
    simp
theorem itoa_mem {x : Int} : ∀ b ∈ Lib.itoa x, b = 45 ∨ (48 ≤ b.toNat ∧ b.toNat ≤ 57) := by
  intro b h
  unfold Lib.itoa at h
  split at h
  · rcases List.mem_cons.1 h with m | m
    · exact Or.inl m
    · exact Or.inr (dec_mem _ b m)
  · exact Or.inr (dec_mem _ b h)
theorem itoa_clean {x : Int} {c : UInt8} (h : c.toNat ≠ 45) (h' : c.toNat < 48 ∨ 57 < c.toNat) : ∀ b ∈ Lib.itoa x, b ≠ c := by
  intro b hb e
  subst e
  rcases itoa_mem b hb with m | m
  · exact h (by rw [m]; rfl)
  · omega


def readAll : List (List UInt8) → Option (List Int)
  | [] => some []
  | w :: ws => if (readL w).2 = true then (readAll ws).map ((readL w).1 :: ·) else none
theorem readAll_sound : ∀ (W : List (List UInt8)) (D : List Int), readAll W = some D → W = D.map Lib.itoa
  | [], D, h => by
    obtain rfl := Option.some.inj h
    rfl
  | w :: ws, D, h => by
    simp only [readAll] at h
    split at h
    · rename_i hc
      obtain ⟨E, e1, rfl⟩ := Option.map_eq_some_iff.1 h
      rw [List.map_cons, readL_sound hc, ← readAll_sound ws E e1]
    · cases h
theorem readAll_itoa : ∀ D : List Int, (∀ x ∈ D, -1000000000 < x ∧ x < 1000000000) → readAll (D.map Lib.itoa) = some D
  | [], _ => rfl
  | x :: D, h => by
    have hx := h x (by simp)
    have e := readL_itoa hx.1 hx.2
    simp only [List.map_cons, readAll, e, if_pos]
    rw [readAll_itoa D (fun y hy => h y (by simp [hy]))]
    rfl
def failT : Int × Int × Int × List Int × Bool := (0, 0, 0, [], false)
def endT (a b c : Int) (acc : List Int) (o : Option (List Int)) : Int × Int × Int × List Int × Bool := match o with
  | none => failT
  | some D => if tensorOk a b c (acc ++ D) = true then (a, b, c, acc ++ D, true) else failT
def specParse (L : List UInt8) : Int × Int × Int × List Int × Bool := match parts 32 L with
  | [] => failT
  | w :: ws => if (w :: ws).length > 513 ∨ w = [] ∨ w.getLast? ≠ some 58 then failT else
    if (parts 120 w.dropLast).length = 3 then match readAll (parts 120 w.dropLast) with
    | none => failT
    | some X => endT (rd X 0) (rd X 1) (rd X 2) [] (readAll ws)
    else failT
theorem ParseTensor_l1 (W : List (List UInt8)) (hW : W.length ≤ 513) (hl : ∀ w ∈ W, w.length ≤ 1048576) (a b c : Int) : ∀ (d i : Nat) (acc : List Int), i + d = W.length → acc.length ≤ i → Evp fun k => spec_ParseTensor.l1 k (W.map ba) (i : Int) 0 0 0 a b c acc = some (endT a b c acc (readAll (W.drop i)))
  | 0, i, acc, hi, ha => by
    rw [List.drop_eq_nil_of_le (by omega)]
    have t := spec_TensorOk_ev a b c acc (by omega)
    refine evSuc (evMono t fun k e => ?_)
    simp only [spec_ParseTensor.l1]
    refine ite_no (by rw [List.length_map]; omega) (bind_of e ?_)
    simp only [readAll, endT, List.append_nil]
    split <;> rfl
  | d + 1, i, acc, hi, ha => by
    have hlt : i < W.length := by omega
    have hr := spec_l02Read_ev W[i] (by have := hl W[i] (List.getElem_mem hlt); omega)
    rw [List.drop_eq_getElem_cons hlt]
    by_cases hc : (readL W[i]).2 = true
    · have ih := ParseTensor_l1 W hW hl a b c d (i + 1) (acc ++ [(readL W[i]).1]) (by omega) (by simp; omega)
      refine evSuc (evMono (evAnd hr ih) fun k ⟨e, g⟩ => ?_)
      simp only [spec_ParseTensor.l1]
      refine ite_yes (by rw [List.length_map]; omega) (ite_yes (by omega) ?_)
      rw [rdba hlt]
      refine bind_of e (ite_yes hc (ite_yes (by omega) ?_))
      rw [w64' (x := (i : Int) + 1) (by omega) (by omega)]
      refine Eq.trans g (congrArg some ?_)
      simp only [readAll, if_pos hc]
      cases readAll (W.drop (i + 1)) with
      | none => rfl
      | some D => simp only [Option.map_some, endT, List.append_assoc, List.singleton_append]
    · refine evSuc (evMono hr fun k e => ?_)
      simp only [spec_ParseTensor.l1]
      refine ite_yes (by rw [List.length_map]; omega) (ite_yes (by omega) ?_)
      rw [rdba hlt]
      refine bind_of e (ite_no hc ?_)
      simp only [readAll, if_neg hc, endT, failT]
theorem ParseTensor_l0 (W X : List (List UInt8)) (hW : 1 ≤ W.length ∧ W.length ≤ 513) (hl : ∀ w ∈ W, w.length ≤ 1048576) (hx : ∀ w ∈ X, w.length ≤ 1048576) (h3 : X.length = 3) : ∀ (d i : Nat) (acc : List Int), i + d = 3 → acc.length = i → Evp fun k => spec_ParseTensor.l0 k (W.map ba) (X.map ba) acc (i : Int) 0 0 0 = some (match readAll (X.drop i) with
    | none => failT
    | some D => endT (rd (acc ++ D) 0) (rd (acc ++ D) 1) (rd (acc ++ D) 2) [] (readAll (W.drop 1)))
  | 0, i, acc, hi, ha => by
    have hi3 : i = 3 := by omega
    subst hi3
    rw [List.drop_eq_nil_of_le (by omega)]
    have l1 := ParseTensor_l1 W hW.2 hl (rd acc 0) (rd acc 1) (rd acc 2) (W.length - 1) 1 [] (by omega) (by simp)
    refine evSuc (evMono l1 fun k e => ?_)
    simp only [spec_ParseTensor.l0]
    refine ite_no (by omega) (ite_yes (by omega) (ite_yes (by omega) (ite_yes (by omega) ?_)))
    simp only [readAll, List.append_nil]
    exact e
  | d + 1, i, acc, hi, ha => by
    have hlt : i < X.length := by omega
    have hr := spec_l02Read_ev X[i] (by have := hx X[i] (List.getElem_mem hlt); omega)
    rw [List.drop_eq_getElem_cons hlt]
    by_cases hc : (readL X[i]).2 = true
    · have ih := ParseTensor_l0 W X hW hl hx h3 d (i + 1) (acc ++ [(readL X[i]).1]) (by omega) (by simp; omega)
      refine evSuc (evMono (evAnd hr ih) fun k ⟨e, g⟩ => ?_)
      simp only [spec_ParseTensor.l0]
      refine ite_yes (by omega) (ite_yes (by omega) (ite_yes (by rw [List.length_map]; omega) ?_))
      rw [rdba hlt]
      refine bind_of e (ite_yes hc (ite_yes (by omega) ?_))
      rw [w64' (x := (i : Int) + 1) (by omega) (by omega)]
      refine Eq.trans g (congrArg some ?_)
      simp only [readAll, if_pos hc]
      cases readAll (X.drop (i + 1)) with
      | none => rfl
      | some D => simp only [Option.map_some, List.append_assoc, List.singleton_append]
    · refine evSuc (evMono hr fun k e => ?_)
      simp only [spec_ParseTensor.l0]
      refine ite_yes (by omega) (ite_yes (by omega) (ite_yes (by rw [List.length_map]; omega) ?_))
      rw [rdba hlt]
      refine bind_of e (ite_no hc ?_)
      simp only [readAll, if_neg hc, failT]
theorem spec_ParseTensor_ev (L : List UInt8) (hL : L.length ≤ 1048576) : Evp fun k => spec_ParseTensor.f k (ba L) = some (specParse L) := by
  have hp : Evp fun k => spec_l02Parts.f k (ba L) 32 = some ((parts 32 L).map ba) := spec_l02Parts_ev L hL 32
  have hm := parts_mem 32 L
  unfold specParse
  cases e : parts 32 L with
  | nil => obtain ⟨p, ps, e'⟩ := parts_ne 32 L; rw [e] at e'; cases e'
  | cons w ws =>
    rw [e] at hp hm
    have hw := hm w (by simp)
    have jt : Evp fun k => spec_ParseTensor.j0 k ((w :: ws).map ba) true 0 0 0 = some failT := evSuc (evAll fun k => by
      simp only [spec_ParseTensor.j0]
      exact ite_yes trivial rfl)
    have h0 : rdOf ByteArray.empty ((w :: ws).map ba) 0 = ba w := rdba (W := w :: ws) (i := 0) (by simp)
    have hlen : ((w :: ws).map ba).length = (w :: ws).length := List.length_map _
    by_cases c1 : (w :: ws).length > 513
    · simp only [if_pos (Or.inl c1 : (w :: ws).length > 513 ∨ w = [] ∨ w.getLast? ≠ some 58)]
      exact evMono (evAnd hp jt) fun k ⟨e1, e2⟩ => bind_of e1 (ite_yes (by rw [hlen]; omega) e2)
    · by_cases c2 : w = []
      · simp only [if_pos (Or.inr (Or.inl c2) : (w :: ws).length > 513 ∨ w = [] ∨ w.getLast? ≠ some 58)]
        refine evMono (evAnd hp jt) fun k ⟨e1, e2⟩ => bind_of e1 (ite_no (by rw [hlen]; omega) (ite_yes (by rw [hlen]; simp only [List.length_cons]; omega) ?_))
        rw [h0]
        exact ite_yes (by rw [ba_len, c2]; rfl) e2
      · have hw1 : 1 ≤ w.length := by cases w with
          | nil => exact absurd rfl c2
          | cons _ _ => simp
        have hlast : w.getLast? = some w[w.length - 1] := by rw [List.getLast?_eq_getElem?, List.getElem?_eq_getElem (by omega)]
        have hz : wrap64 (((ba w).size : Int) - 1) = ((w.length - 1 : Nat) : Int) := by rw [ba_len, w64' (by omega) (by omega)]; omega
        have hb : bt (ba w) ((w.length - 1 : Nat) : Int) = (w[w.length - 1].toNat : Int) := bt_ba (by omega)
        have pre : ∀ k r, spec_l02Parts.f k (ba L) 32 = some ((w :: ws).map ba) → spec_ParseTensor.j0 k ((w :: ws).map ba) ((w[w.length - 1].toNat : Int) != 58) 0 0 0 = r → spec_ParseTensor.f k (ba L) = r := fun k r e1 e2 => by
          refine bind_of e1 (ite_no (by rw [hlen]; omega) (ite_yes (by rw [hlen]; simp only [List.length_cons]; omega) ?_))
          rw [h0]
          refine ite_no (by rw [ba_len]; omega) ?_
          rw [hz, hb]
          exact ite_yes (by omega) (ite_yes (by rw [ba_len]; omega) e2)
        by_cases c3 : w[w.length - 1] = 58
        · have hne : ¬ ((w :: ws).length > 513 ∨ w = [] ∨ w.getLast? ≠ some 58) := by
            rw [hlast, c3]; simp only [ne_eq, not_true_eq_false, or_false]; intro h; rcases h with h | h
            · exact c1 h
            · exact c2 h
          simp only [if_neg hne]
          have hd : (ba w).extract 0 (w.length - 1) = ba w.dropLast := by rw [ba_extract, List.drop_zero, Nat.sub_zero, List.dropLast_eq_take]
          have hp2 : Evp fun k => spec_l02Parts.f k (ba w.dropLast) 120 = some ((parts 120 w.dropLast).map ba) := spec_l02Parts_ev _ (by simp; omega) 120
          have hm2 := parts_mem 120 w.dropLast
          have hf : ((w[w.length - 1].toNat : Int) != 58) = false := by rw [c3]; rfl
          by_cases c4 : (parts 120 w.dropLast).length = 3
          · rw [if_pos c4]
            have l0 := ParseTensor_l0 (w :: ws) (parts 120 w.dropLast) ⟨by simp, by omega⟩ (fun x hx => by have := hm x hx; omega) (fun x hx => by have := hm2 x hx; simp at this; omega) c4 3 0 [] (by omega) (by simp)
            simp only [List.drop_zero, List.nil_append, List.drop_succ_cons] at l0
            have j0 : Evp fun k => spec_ParseTensor.j0 k ((w :: ws).map ba) false 0 0 0 = some (match readAll (parts 120 w.dropLast) with
                | none => failT
                | some D => endT (rd D 0) (rd D 1) (rd D 2) [] (readAll ws)) := evSuc (evMono (evAnd hp2 l0) fun k ⟨e1, e2⟩ => by
              simp only [spec_ParseTensor.j0]
              refine ite_no Bool.false_ne_true (ite_yes (by rw [hlen]; simp only [List.length_cons]; omega) ?_)
              rw [h0, hz, Int.toNat_natCast, hd]
              exact ite_yes (by omega) (ite_yes (by rw [ba_len]; omega) (bind_of e1 (ite_yes (by rw [List.length_map]; omega) e2))))
            refine evMono (evAnd hp j0) fun k ⟨e1, e2⟩ => pre k _ e1 ?_
            rw [hf]
            exact e2
          · rw [if_neg c4]
            have j0 : Evp fun k => spec_ParseTensor.j0 k ((w :: ws).map ba) false 0 0 0 = some failT := evSuc (evMono hp2 fun k e1 => by
              simp only [spec_ParseTensor.j0]
              refine ite_no Bool.false_ne_true (ite_yes (by rw [hlen]; simp only [List.length_cons]; omega) ?_)
              rw [h0, hz, Int.toNat_natCast, hd]
              exact ite_yes (by omega) (ite_yes (by rw [ba_len]; omega) (bind_of e1 (ite_no (by rw [List.length_map]; omega) rfl))))
            refine evMono (evAnd hp j0) fun k ⟨e1, e2⟩ => pre k _ e1 ?_
            rw [hf]
            exact e2
        · have hy : (w :: ws).length > 513 ∨ w = [] ∨ w.getLast? ≠ some 58 := Or.inr (Or.inr (by rw [hlast]; intro h; exact c3 (Option.some.inj h)))
          simp only [if_pos hy]
          have ht : ((w[w.length - 1].toNat : Int) != 58) = true := by
            rw [bne_iff_ne]; intro h; exact c3 (UInt8.toNat_inj.1 (by show w[w.length - 1].toNat = 58; omega))
          refine evMono (evAnd hp jt) fun k ⟨e1, e2⟩ => pre k _ e1 ?_
          rw [ht]
          exact e2
theorem join_itoa (D : List Int) : ∀ w : List UInt8, joinC 32 (w :: D.map Lib.itoa) = w ++ spacedL D := by
  induction D with
  | nil => intro w; simp [joinC, spacedL]
  | cons x D ih => intro w; simp only [List.map_cons, joinC, spacedL]; rw [ih]
theorem spaced_parts : ∀ (D : List Int) (w : List UInt8), (∀ b ∈ w, b ≠ 32) → parts 32 (w ++ spacedL D) = w :: D.map Lib.itoa
  | [], w, h => by simp only [spacedL, List.append_nil, List.map_nil]; exact parts_clean h
  | x :: D, w, h => by
    simp only [spacedL, List.map_cons]
    rw [parts_app _ h, spaced_parts D (Lib.itoa x) (itoa_clean (by decide) (by decide))]
theorem sides_parts (a b c : Int) : parts 120 (sidesL a b c) = [Lib.itoa a, Lib.itoa b, Lib.itoa c] := by
  have k : ∀ x : Int, ∀ y ∈ Lib.itoa x, y ≠ 120 := fun x => itoa_clean (by decide) (by decide)
  unfold sidesL
  rw [List.append_assoc, List.append_assoc, List.append_assoc]
  simp only [List.singleton_append]
  rw [parts_app _ (k a), parts_app _ (k b), parts_clean (k c)]
theorem sides_clean (a b c : Int) (x : UInt8) (h1 : x ≠ 120) (h : x.toNat ≠ 45) (h' : x.toNat < 48 ∨ 57 < x.toNat) : ∀ y ∈ sidesL a b c, y ≠ x := by
  intro y hy
  unfold sidesL at hy
  simp only [List.mem_append, List.mem_singleton] at hy
  rcases hy with (((m | m) | m) | m) | m
  · exact itoa_clean h h' y m
  · rw [m]; exact fun e => h1 e.symm
  · exact itoa_clean h h' y m
  · rw [m]; exact fun e => h1 e.symm
  · exact itoa_clean h h' y m
theorem tensor_items {a b c : Int} {D : List Int} (ht : tensorOk a b c D = true) : (∀ x ∈ D, -1000000000 < x ∧ x < 1000000000) ∧ (∀ x ∈ [a, b, c], -1000000000 < x ∧ x < 1000000000) ∧ D.length ≤ 512 := by
  obtain ⟨hs, hn, hv⟩ := tensorOk_iff.1 ht
  refine ⟨fun x hx => by have := hv x hx; omega, fun x hx => ?_, (tensorOk_len ht).2⟩
  unfold shapeOk at hs
  simp only [Bool.and_eq_true, decide_eq_true_iff] at hs
  simp only [List.mem_cons, List.not_mem_nil, or_false] at hx
  omega
theorem specParse_text {a b c : Int} {D : List Int} (ht : tensorOk a b c D = true) : specParse (tensorTextL a b c D) = (a, b, c, D, true) := by
  obtain ⟨i1, i2, i3⟩ := tensor_items ht
  have e : parts 32 (tensorTextL a b c D) = (sidesL a b c ++ [58]) :: D.map Lib.itoa := by
    unfold tensorTextL
    rw [if_pos ht]
    refine spaced_parts D _ fun y hy => ?_
    rcases List.mem_append.1 hy with m | m
    · exact sides_clean a b c 32 (by decide) (by decide) (by decide) y m
    · rw [List.mem_singleton] at m; rw [m]; decide
  unfold specParse
  rw [e]
  have hne : ¬ (((sidesL a b c ++ [58]) :: D.map Lib.itoa).length > 513 ∨ (sidesL a b c ++ [58]) = [] ∨ (sidesL a b c ++ [58]).getLast? ≠ some 58) := by
    simp; omega
  simp only [if_neg hne, List.dropLast_concat, sides_parts]
  have r3 := readAll_itoa [a, b, c] i2
  simp only [List.map_cons, List.map_nil] at r3
  rw [if_pos (by simp), r3, readAll_itoa D i1]
  show (if tensorOk a b c ([] ++ D) = true then (a, b, c, [] ++ D, true) else failT) = _
  rw [List.nil_append, if_pos ht]
theorem len3 {α : Type} {X : List α} (h : X.length = 3) : ∃ a b c, X = [a, b, c] := by
  match X, h with
  | [a, b, c], _ => exact ⟨a, b, c, rfl⟩
theorem specParse_sound (L : List UInt8) : specParse L = failT ∨ ∃ a b c D, specParse L = (a, b, c, D, true) ∧ tensorOk a b c D = true ∧ L = tensorTextL a b c D := by
  have hj := join_parts 32 L
  unfold specParse
  cases e : parts 32 L with
  | nil => exact Or.inl rfl
  | cons w ws =>
    rw [e] at hj
    simp only
    split
    · exact Or.inl rfl
    · rename_i hc
      split
      · rename_i h3
        have hx := readAll_sound (parts 120 w.dropLast)
        have hj2 := join_parts 120 w.dropLast
        cases e2 : readAll (parts 120 w.dropLast) with
        | none => exact Or.inl rfl
        | some X =>
          have e3 := hx X e2
          have hl : X.length = 3 := by rw [e3, List.length_map] at h3; exact h3
          obtain ⟨a, b, c, rfl⟩ := len3 hl
          simp only
          cases e4 : readAll ws with
          | none => exact Or.inl rfl
          | some D =>
            by_cases ht : tensorOk a b c D = true
            · refine Or.inr ⟨a, b, c, D, ?_, ht, ?_⟩
              · show (if tensorOk a b c ([] ++ D) = true then (a, b, c, [] ++ D, true) else failT) = _
                rw [List.nil_append, if_pos ht]
              · have e5 := readAll_sound ws D e4
                have hw : w = sidesL a b c ++ [58] := by
                  rw [e3] at hj2
                  simp only [List.map_cons, List.map_nil, joinC] at hj2
                  have hl2 : w.getLast? = some 58 := by
                    apply Classical.byContradiction
                    intro h
                    exact hc (Or.inr (Or.inr h))
                  have hne : w ≠ [] := fun e0 => hc (Or.inr (Or.inl e0))
                  have hg : w.getLast hne = 58 := by
                    rw [List.getLast?_eq_some_getLast hne] at hl2
                    exact Option.some.inj hl2
                  rw [← List.dropLast_concat_getLast hne, hg, ← hj2]
                  unfold sidesL
                  simp
                rw [← hj, e5, join_itoa, hw]
                unfold tensorTextL
                rw [if_pos ht]
            · refine Or.inl ?_
              show (if tensorOk a b c ([] ++ D) = true then (a, b, c, [] ++ D, true) else failT) = _
              rw [List.nil_append, if_neg ht]
      · exact Or.inl rfl


theorem parts_index (c : UInt8) : ∀ s : List UInt8, (Lib.index s [c] = -1 → parts c s = [s]) ∧ ∀ i : Nat, Lib.index s [c] = i → parts c s = s.take i :: parts c (s.drop (i + 1))
  | [] => ⟨fun _ => rfl, fun i h => by simp [Lib.index] at h⟩
  | b :: l => by
    obtain ⟨ih1, ih2⟩ := parts_index c l
    by_cases hb : b = c
    · subst hb
      have h0 : Lib.index (b :: l) [b] = 0 := by unfold Lib.index; rw [if_pos (by simp [List.isPrefixOf])]
      refine ⟨fun h => by omega, fun i h => ?_⟩
      have : i = 0 := by omega
      subst this
      rw [parts_hit]
      simp
    · have h0 : Lib.index (b :: l) [c] = if Lib.index l [c] == -1 then -1 else Lib.index l [c] + 1 := by
        conv => lhs; unfold Lib.index
        rw [if_neg (by simp [List.isPrefixOf]; exact fun e => hb e.symm)]
      have hge := Lib.index_ge l [c]
      rw [h0]
      constructor
      · intro h
        split at h
        · rename_i hh
          rw [parts_miss hb, ih1 (beq_iff_eq.1 hh)]
          rfl
        · omega
      · intro i h
        split at h
        · omega
        · obtain ⟨j, hj⟩ : ∃ j : Nat, Lib.index l [c] = j := ⟨(Lib.index l [c]).toNat, by rename_i hh; have := beq_eq_false_iff_ne.1 (Bool.eq_false_iff.2 hh); omega⟩
          have : i = j + 1 := by omega
          subst this
          rw [parts_miss hb, ih2 j hj]
          simp [glue]
theorem split_parts (c : UInt8) : ∀ (k : Nat) (s : List UInt8), Lib.count s [c] = k → Lib.splitK [c] 0 k s = parts c s
  | 0, s, h => by
    rcases Lib.index_spec s [c] with ⟨h1, _⟩ | ⟨i, h1, _⟩
    · rw [(parts_index c s).1 h1]; rfl
    · have := Lib.count_hit (s := s) (sub := [c]) (by simp) h1
      omega
  | k + 1, s, h => by
    rcases Lib.index_spec s [c] with ⟨h1, _⟩ | ⟨i, h1, _⟩
    · have := Lib.count_miss h1
      omega
    · have hc := Lib.count_hit (s := s) (sub := [c]) (by simp) h1
      rw [(parts_index c s).2 i h1]
      unfold Lib.splitK
      rw [if_neg (by rw [h1]; simp), h1]
      have hk : Lib.count (s.drop (i + 1)) [c] = k := by simp only [List.length_singleton] at hc; omega
      simp only [Int.toNat_natCast, Nat.add_zero, List.length_singleton]
      rw [split_parts c k _ hk]
theorem splitB_parts (s : ByteArray) (c : UInt8) : Lib.splitB ⟨#[c]⟩ 0 (Lib.countB s ⟨#[c]⟩) s = (parts c s.data.toList).map ba := by
  have h := Lib.splitB_data ⟨#[c]⟩ 0 (Lib.countB s ⟨#[c]⟩) s
  have h2 := split_parts c (Lib.countB s ⟨#[c]⟩) s.data.toList rfl
  have h3 : (Lib.splitB ⟨#[c]⟩ 0 (Lib.countB s ⟨#[c]⟩) s).map (·.data.toList) = parts c s.data.toList := h.trans h2
  rw [← h3, List.map_map]
  exact (List.map_id _).symm
def atoiL (w : List UInt8) : Int := atoiV (ba w)
def implParse (L : List UInt8) : Int × Int × Int × List Int × Bool :=
  let N := parts 120 (Lib.cut L [58]).1
  let W := parts 32 (Lib.cut L [58]).2.1
  if N.length = 3 ∧ W.length ≤ 513 then
    if L = [] then failT else
    if tensorTextL (atoiL (N.getD 0 [])) (atoiL (N.getD 1 [])) (atoiL (N.getD 2 [])) ((W.drop 1).map atoiL) = L then (atoiL (N.getD 0 []), atoiL (N.getD 1 []), atoiL (N.getD 2 []), (W.drop 1).map atoiL, true) else failT
  else failT
theorem impl_ParseTensor_l0 (L : List UInt8) (V : List (List UInt8)) (hV : V.length ≤ 513) (hl : ∀ w ∈ V, w.length ≤ 1048576) (a b c : Int) : ∀ (d i : Nat) (acc : List Int), i + d = V.length → acc.length = i → Evp fun k => impl_ParseTensor.l0 k (ba L) (V.map ba) (V.length : Int) (i : Int) a b c acc = some (if L = [] then failT else if tensorTextL a b c (acc ++ (V.drop i).map atoiL) = L then (a, b, c, acc ++ (V.drop i).map atoiL, true) else failT)
  | 0, i, acc, hi, ha => by
    rw [List.drop_eq_nil_of_le (by omega), List.map_nil, List.append_nil]
    have t := impl_TensorText_ok a b c acc (by omega)
    refine evSuc (evMono t fun k e => ?_)
    simp only [impl_ParseTensor.l0]
    refine ite_no (by omega) ?_
    rw [ba_toList]
    by_cases h0 : L = []
    · rw [if_pos h0, if_pos h0]; rfl
    · rw [if_neg h0, if_neg h0]
      refine bind_of e ?_
      rw [show (⟨(tensorTextL a b c acc).toArray⟩ : ByteArray).toList = tensorTextL a b c acc from ba_toList _]
      split <;> rfl
  | d + 1, i, acc, hi, ha => by
    have hlt : i < V.length := by omega
    have ih := impl_ParseTensor_l0 L V hV hl a b c d (i + 1) (acc ++ [atoiL V[i]]) (by omega) (by simp; omega)
    have e0 : acc ++ (V.drop i).map atoiL = acc ++ [atoiL V[i]] ++ (V.drop (i + 1)).map atoiL := by
      rw [List.drop_eq_getElem_cons hlt, List.map_cons, List.append_assoc, List.singleton_append]
    rw [e0]
    refine evSuc (evMono ih fun k e => ?_)
    simp only [impl_ParseTensor.l0]
    refine ite_yes (by omega) (ite_yes (by omega) (ite_yes (by rw [List.length_map]; omega) ?_))
    rw [rdba hlt]
    refine bind_of (a := atoiL V[i]) (ite_yes (by have := hl V[i] (List.getElem_mem hlt); rw [ba_len]; omega) rfl) (ite_yes (by omega) ?_)
    rw [w64' (x := (i : Int) + 1) (by omega) (by omega)]
    exact e
theorem cut_len (L s : List UInt8) : (Lib.cut L s).1.length ≤ L.length ∧ (Lib.cut L s).2.1.length ≤ L.length := by
  unfold Lib.cut
  split
  · simp; omega
  · simp
theorem impl_ParseTensor_ev (L : List UInt8) (hL : L.length ≤ 1048576) : Evp fun k => impl_ParseTensor.f k (ba L) = some (implParse L) := by
  have hcl := cut_len L [58]
  have e1 : strings_Cut.f (ba L) (⟨#[58]⟩ : ByteArray) = some (ba (Lib.cut L [58]).1, ba (Lib.cut L [58]).2.1, (Lib.cut L [58]).2.2) := ite_yes (by rw [ba_len]; omega) rfl
  have e2 : strings_Split.f (ba (Lib.cut L [58]).1) (⟨#[120]⟩ : ByteArray) = some ((parts 120 (Lib.cut L [58]).1).map ba) := ite_yes ⟨by rw [ba_len]; omega, by decide⟩ (congrArg some (splitB_parts _ 120))
  have e3 : strings_Split.f (ba (Lib.cut L [58]).2.1) (⟨#[32]⟩ : ByteArray) = some ((parts 32 (Lib.cut L [58]).2.1).map ba) := ite_yes ⟨by rw [ba_len]; omega, by decide⟩ (congrArg some (splitB_parts _ 32))
  have jt : ∀ N W : List ByteArray, Evp fun k => impl_ParseTensor.j0 k (ba L) N W true = some failT := fun N W => evSuc (evAll fun k => by
    simp only [impl_ParseTensor.j0]
    exact ite_yes trivial rfl)
  have hN := parts_mem 120 (Lib.cut L [58]).1
  have hW := parts_mem 32 (Lib.cut L [58]).2.1
  obtain ⟨w, ws, ew⟩ := parts_ne 32 (Lib.cut L [58]).2.1
  unfold implParse
  simp only
  generalize parts 120 (Lib.cut L [58]).1 = N at e2 hN ⊢
  rw [ew] at e3 hW ⊢
  by_cases c1 : N.length = 3
  · by_cases c2 : (w :: ws).length ≤ 513
    · rw [if_pos ⟨c1, c2⟩]
      obtain ⟨n0, n1, n2, rfl⟩ := len3 c1
      have l0 := impl_ParseTensor_l0 L ws (by simp only [List.length_cons] at c2; omega) (fun x hx => by have := hW x (by simp [hx]); omega) (atoiL n0) (atoiL n1) (atoiL n2) ws.length 0 [] (by omega) (by simp)
      simp only [List.drop_zero, List.nil_append] at l0
      have at_ : ∀ x ∈ [n0, n1, n2], strconv_Atoi.f (ba x) = some (atoiL x) := fun x hx => ite_yes (by have := hN x hx; rw [ba_len]; omega) rfl
      have j0 : Evp fun k => impl_ParseTensor.j0 k (ba L) ([n0, n1, n2].map ba) ((w :: ws).map ba) false = some (if L = [] then failT else if tensorTextL (atoiL n0) (atoiL n1) (atoiL n2) (ws.map atoiL) = L then (atoiL n0, atoiL n1, atoiL n2, ws.map atoiL, true) else failT) := evSuc (evMono l0 fun k e => by
        simp only [impl_ParseTensor.j0]
        refine ite_no Bool.false_ne_true (ite_yes (by simp) (bind_of (at_ n0 (by simp)) (ite_yes (by simp) (bind_of (at_ n1 (by simp)) (ite_yes (by simp) (bind_of (at_ n2 (by simp)) (ite_yes (by rw [List.length_map]; simp only [List.length_cons]; omega) (bind_of rfl ?_))))))))
        rw [show (((w :: ws).map ba).drop 1 : List ByteArray) = ws.map ba from rfl, List.length_map]
        exact e)
      refine evMono j0 fun k e => bind_of e1 (bind_of e2 (bind_of e3 (ite_yes (by simp) ?_)))
      rw [show (decide ((((w :: ws).map ba).length : Int) > 513)) = false from decide_eq_false (by rw [List.length_map]; omega)]
      exact e
    · rw [if_neg (fun h => c2 h.2)]
      refine evMono (jt (N.map ba) ((w :: ws).map ba)) fun k e => bind_of e1 (bind_of e2 (bind_of e3 (ite_yes (by rw [List.length_map]; omega) ?_)))
      rw [show (decide ((((w :: ws).map ba).length : Int) > 513)) = true from decide_eq_true (by rw [List.length_map]; omega)]
      exact e
  · rw [if_neg (fun h => c1 h.1)]
    exact evMono (jt (N.map ba) ((w :: ws).map ba)) fun k e => bind_of e1 (bind_of e2 (bind_of e3 (ite_no (by rw [List.length_map]; omega) e)))
theorem index_app (c : UInt8) : ∀ (p : List UInt8) (r : List UInt8), (∀ b ∈ p, b ≠ c) → Lib.index (p ++ c :: r) [c] = (p.length : Int)
  | [], r, _ => by show Lib.index (c :: r) [c] = 0; unfold Lib.index; rw [if_pos (by simp [List.isPrefixOf])]
  | b :: p, r, h => by
    have ih := index_app c p r (fun x hx => h x (by simp [hx]))
    rw [List.cons_append]
    unfold Lib.index
    rw [if_neg (by simp [List.isPrefixOf]; exact fun e => h b (by simp) e.symm), ih, if_neg (by simp)]
    simp
theorem dec_uint : ∀ (l : List UInt8) (acc : Nat) (x : Int), dig (acc : Int) l = some x → x < 1000000000 → Lib.parseUint10 acc l = .ok x.toNat ∧ (acc : Int) ≤ x
  | [], acc, x, h, _ => by
    obtain rfl := Option.some.inj h
    exact ⟨rfl, Int.le_refl _⟩
  | b :: l, acc, x, h, hx => by
    simp only [dig] at h
    split at h
    · cases h
    · rename_i hb
      have e : (10 * (acc : Int) + b.toNat - 48) = ((acc * 10 + (b.toNat - 48) : Nat) : Int) := by omega
      rw [e] at h
      obtain ⟨h1, h2⟩ := dec_uint l _ x h hx
      refine ⟨?_, by omega⟩
      unfold Lib.parseUint10
      rw [if_pos (by omega), if_neg (by omega), if_neg (by omega)]
      exact h1
theorem atoi_itoa {x : Int} (h0 : -1000000000 < x) (h1 : x < 1000000000) : atoiL (Lib.itoa x) = x := by
  have key : Lib.atoiAll (Lib.itoa x) = .ok x := by
    by_cases hn : x < 0
    · have hi : Lib.itoa x = 45 :: Lib.decDigits x.natAbs := by unfold Lib.itoa; rw [if_pos hn]
      obtain ⟨b, l, e, _, _⟩ := dec_head x.natAbs
      have hd := (dec_uint _ 0 _ (dig_dec x.natAbs) (by omega)).1
      have hm : Lib.parseMag (Lib.decDigits x.natAbs) = .ok x.natAbs := by
        unfold Lib.parseMag
        rw [if_neg (by rw [e]; simp), hd]
        simp
      rw [hi]
      unfold Lib.atoiAll
      simp only [show ((45 : UInt8).toNat = 43 ∨ (45 : UInt8).toNat = 45) from Or.inr rfl, if_true, hm]
      rw [if_neg (by simp), if_neg (by rw [not_and]; intro _; omega), if_pos (by rfl)]
      congr 1
      omega
    · have hi : Lib.itoa x = Lib.decDigits x.toNat := by unfold Lib.itoa; rw [if_neg hn]
      obtain ⟨b, l, e, h2, h3⟩ := dec_head x.toNat
      have hd := (dec_uint _ 0 _ (dig_dec x.toNat) (by omega)).1
      have hm : Lib.parseMag (b :: l) = .ok x.toNat := by
        unfold Lib.parseMag
        rw [if_neg (by simp), ← e, hd]
        rfl
      rw [hi, e]
      unfold Lib.atoiAll
      have hb1 : ¬ (b.toNat = 43 ∨ b.toNat = 45) := by omega
      have hb2 : ¬ b.toNat = 45 := by omega
      simp only [if_neg hb1, hm]
      rw [if_neg (by rw [not_and]; intro _; omega), if_neg (by rw [not_and]; intro h; exact absurd h hb2), if_neg hb2]
      congr 1
      omega
  show atoiV (ba (Lib.itoa x)) = x
  unfold atoiV
  rw [ba_data, key]
theorem implParse_text {a b c : Int} {D : List Int} (ht : tensorOk a b c D = true) : implParse (tensorTextL a b c D) = (a, b, c, D, true) := by
  obtain ⟨i1, i2, i3⟩ := tensor_items ht
  have et : tensorTextL a b c D = sidesL a b c ++ 58 :: spacedL D := by
    unfold tensorTextL
    rw [if_pos ht]
    simp
  have hx := index_app 58 (sidesL a b c) (spacedL D) (sides_clean a b c 58 (by decide) (by decide) (by decide))
  have hcut : Lib.cut (tensorTextL a b c D) [58] = (sidesL a b c, spacedL D, true) := by
    rw [et]
    unfold Lib.cut
    rw [hx, if_pos (by omega)]
    simp [List.take_append, List.drop_append]
  have hp : parts 32 (spacedL D) = [] :: D.map Lib.itoa := by
    have := spaced_parts D [] (by simp)
    simpa using this
  have hm : (D.map Lib.itoa).map atoiL = D := by
    rw [List.map_map]
    conv => rhs; rw [← List.map_id D]
    exact List.map_congr_left fun x hx => atoi_itoa (i1 x hx).1 (i1 x hx).2
  have ha := atoi_itoa (i2 a (by simp)).1 (i2 a (by simp)).2
  have hb := atoi_itoa (i2 b (by simp)).1 (i2 b (by simp)).2
  have hc := atoi_itoa (i2 c (by simp)).1 (i2 c (by simp)).2
  unfold implParse
  simp only [hcut, sides_parts, hp, List.getD_cons_zero, List.getD_cons_succ, List.drop_succ_cons, List.drop_zero, hm, ha, hb, hc]
  rw [if_pos ⟨by simp, by simp; omega⟩, if_neg (by rw [et]; simp)]
  simp
theorem implParse_sound (L : List UInt8) : implParse L = failT ∨ ∃ a b c D, implParse L = (a, b, c, D, true) ∧ tensorOk a b c D = true ∧ L = tensorTextL a b c D := by
  unfold implParse
  simp only
  split
  · split
    · exact Or.inl rfl
    · rename_i h0
      split
      · rename_i h1
        refine Or.inr ⟨_, _, _, _, rfl, ?_, h1.symm⟩
        apply Classical.byContradiction
        intro hn
        unfold tensorTextL at h1
        rw [if_neg hn] at h1
        exact h0 h1.symm
      · exact Or.inl rfl
  · exact Or.inl rfl
theorem parse_same (L : List UInt8) : specParse L = implParse L := by
  rcases specParse_sound L with h1 | ⟨a, b, c, D, h1, ht, hL⟩
  · rcases implParse_sound L with h2 | ⟨a, b, c, D, h2, ht, hL⟩
    · rw [h1, h2]
    · subst hL
      rw [h2, specParse_text ht]
  · subst hL
    rw [h1, implParse_text ht]
theorem specParse_len (L : List UInt8) : (specParse L).2.2.2.1.length ≤ 512 := by
  rcases specParse_sound L with h1 | ⟨a, b, c, D, h1, ht, hL⟩
  · rw [h1]; simp [failT]
  · rw [h1]; exact (tensorOk_len ht).2


theorem FnExactParseTensor (s : ByteArray) (hg : s.size ≤ maxLen) : ∃ k, laws_FnExactParseTensor.f k s = some true := by
  by_cases hbig : (s.size : Int) > 1048576
  · exact ⟨0, ite_yes hbig rfl⟩
  obtain ⟨L, rfl⟩ : ∃ L, s = ba L := ⟨s.data.toList, (ba_of s).symm⟩
  rw [ba_len] at hbig
  have e1 := spec_ParseTensor_ev L (by omega)
  have e2 := impl_ParseTensor_ev L (by omega)
  rw [← parse_same L] at e2
  have hl := specParse_len L
  generalize specParse L = R at e1 e2 hl
  obtain ⟨h, w, c, D, b⟩ := R
  have hD : D.length ≤ 512 := hl
  have hne : (b != b) = false := by simp
  have eq := laws_eqTensor_self h w c D (by omega)
  have hd := laws_heldTensor_ev h w c D.length 1 (by omega) (by omega)
  have j1 : Evp fun k => laws_FnExactParseTensor.j1 k (1 + (D.length : Int)) false h w c (marksInt 1 D.length) = some true := evSuc (evMono hd fun k e => by
    simp only [laws_FnExactParseTensor.j1]
    exact ite_no Bool.false_ne_true (bind_of e (ite_no (by omega) (ite_yes rfl rfl))))
  have j0 : Evp fun k => laws_FnExactParseTensor.j0 k (ba L) b false h w c D h w c D = some true := evSuc (evMono (evAnd (laws_markTensor_ev h w c D 1 (by omega) (by omega)) (evAnd hd (evAnd e2 (evAnd eq j1)))) fun k ⟨g1, g2, g3, g4, g5⟩ => by
    simp only [laws_FnExactParseTensor.j0]
    refine ite_no Bool.false_ne_true (bind_of g1 (bind_of g2 (ite_no (by omega) (ite_yes rfl (bind_of g3 (bind_of g4 (ite_yes rfl ?_)))))))
    show laws_FnExactParseTensor.j1 k (1 + (D.length : Int)) (b != b) h w c (marksInt 1 D.length) = some true
    rw [hne]
    exact g5)
  refine evEx (evMono (evAnd e1 (evAnd e2 (evAnd eq j0))) fun k ⟨g1, g2, g3, g4⟩ => ite_no (by rw [ba_len]; exact hbig) (bind_of g1 (bind_of g2 (bind_of g3 (ite_yes rfl ?_)))))
  show laws_FnExactParseTensor.j0 k (ba L) b (b != b) h w c D h w c D = some true
  rw [hne]
  exact g4

end Go.Proofs.YtclpojeofclbjaaDoor.Pure
