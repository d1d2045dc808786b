/- For every tensor that the law lets in, the program's TensorText and the reference's return the same, and the argument reads as it did (the law FnExactTensorText answers true). Condition, tied by the card: the listed tables of the library stand in memory as the library's text lays them. -/
import Derived.Test.YtjmejobelkllmaaDoorPFnExactTensorTextx0
import Derived.Test.YtjmejobelkllmaaDoorPFnExactTensorTextx1
import Derived.Test.YtjmejobelkllmaaDoorPFnExactTensorTextx2
import Derived.Test.YtjmejobelkllmaaDoorPFnExactTensorTextx3
import Derived.Test.YtjmejobelkllmaaDoorPFnExactTensorTextx4
namespace Go.Proofs.YtjmejobelkllmaaDoor.Pure
open Go.RowKit Go.Proofs.YtjmejobelkllmaaDoor.PFnExactTensorText Go.Proofs.YtjmejobelkllmaaDoorW.PrintWords Go.Proofs.YtjmejobelkllmaaDoorW.PrintLast Go.Proofs.YtjmejobelkllmaaDoorW.PrintMore
set_option linter.unusedVariables false
set_option linter.unusedSimpArgs false

/-! #### rounds -/
def Evp (p : Nat → Prop) : Prop := ∃ K, ∀ k, K ≤ k → p k
theorem evAnd {p q : Nat → Prop} (h : Evp p) (g : Evp q) : Evp (fun k => p k ∧ q k) := by
  obtain ⟨K, hK⟩ := h
  obtain ⟨L, hL⟩ := g
  exact ⟨max K L, fun k hk => ⟨hK k (by omega), hL k (by omega)⟩⟩
theorem evMono {p q : Nat → Prop} (h : Evp p) (g : ∀ k, p k → q k) : Evp q := by
  obtain ⟨K, hK⟩ := h
  exact ⟨K, fun k hk => g k (hK k hk)⟩
theorem evSuc {p : Nat → Prop} (h : Evp fun k => p (k + 1)) : Evp p := by
  obtain ⟨K, hK⟩ := h
  refine ⟨K + 1, fun k hk => ?_⟩
  obtain ⟨m, rfl⟩ : ∃ m, k = m + 1 := ⟨k - 1, by omega⟩
  exact hK m (by omega)
theorem evAll {p : Nat → Prop} (h : ∀ k, p k) : Evp p := ⟨0, fun k _ => h k⟩
theorem evEx {p : Nat → Prop} (h : Evp p) : ∃ k, p k := by
  obtain ⟨K, hK⟩ := h
  exact ⟨K, hK K (Nat.le_refl _)⟩
/-- One step of a chain. -/
theorem bind_of {α β : Type} {o : Option α} {f : α → Option β} {a : α} {r : Option β} (h : o = some a) (hf : f a = r) : o.bind f = r := by rw [h]; exact hf
theorem ite_yes {α : Type} {c : Prop} [Decidable c] {x y r : α} (h : c) (hx : x = r) : (if c then x else y) = r := by rw [if_pos h]; exact hx
theorem ite_no {α : Type} {c : Prop} [Decidable c] {x y r : α} (h : ¬ c) (hy : y = r) : (if c then x else y) = r := by rw [if_neg h]; exact hy

/-! #### whole numbers -/
def i64 (x : Int) : Prop := -9223372036854775808 ≤ x ∧ x ≤ 9223372036854775807
theorem w64 {x : Int} (h : i64 x) : wrap64 x = x := by
  unfold i64 at h
  unfold wrap64
  omega
theorem w64' {x : Int} (h0 : -9223372036854775808 ≤ x) (h1 : x ≤ 9223372036854775807) : wrap64 x = x := w64 ⟨h0, h1⟩
/-! #### lists -/
theorem rd_eq {l : List Int} {i : Nat} (h : i < l.length) : rd l (i : Int) = l[i] := by
  unfold rd
  simp [List.getD, h]
theorem spec_l01In_eq (x lo hi : Int) : spec_l01In.f x lo hi = some (decide (lo ≤ x ∧ x ≤ hi)) := by
  unfold spec_l01In.f
  by_cases h : lo ≤ x
  · simp [h]
  · simp [h]


theorem impl_in_eq (x lo hi : Int) : impl_in.f x lo hi = some (decide (lo ≤ x ∧ x ≤ hi)) := by
  unfold impl_in.f
  by_cases h : lo ≤ x
  · simp [h]
  · simp [h]

/-- A list that is filled from the left. -/
theorem fill_step {α : Type} {l o : List α} {i : Nat} (hi : i < l.length) (hl : o.length = l.length) (ht : o.take i = l.take i) : (o.set i l[i]).length = l.length ∧ (o.set i l[i]).take (i + 1) = l.take (i + 1) := by
  refine ⟨by simp [hl], ?_⟩
  apply List.ext_getElem?
  intro j
  rw [List.getElem?_take, List.getElem?_take]
  by_cases hj : j < i + 1
  · rw [if_pos hj, if_pos hj]
    by_cases e : j = i
    · subst e
      rw [List.getElem?_set_self (by omega), List.getElem?_eq_getElem hi]
    · rw [List.getElem?_set_ne (by omega)]
      have := congrArg (fun x => x[j]?) ht
      simp only [List.getElem?_take] at this
      rw [if_pos (by omega), if_pos (by omega)] at this
      exact this
  · rw [if_neg hj, if_neg hj]
theorem fill_end {α : Type} {l o : List α} (hl : o.length = l.length) (ht : o.take l.length = l.take l.length) : o = l := by
  rw [List.take_length] at ht
  rw [← hl, List.take_length] at ht
  exact ht


theorem laws_toIntS_l0 (l : List Int) (hl : l.length ≤ 9223372036854775807) : ∀ (d i : Nat) (o : List Int), i + d = l.length → o.length = l.length → o.take i = l.take i → Evp fun k => laws_toIntS.l0 k l o (i : Int) = some l
  | 0, i, o, hi, ho, ht => evSuc (evAll fun k => by
    simp only [laws_toIntS.l0]
    rw [if_neg (by omega)]
    obtain rfl : i = l.length := by omega
    rw [fill_end ho ht])
  | d + 1, i, o, hi, ho, ht => by
    have hlt : i < l.length := by omega
    have hs := fill_step hlt ho ht
    refine evSuc (evMono (laws_toIntS_l0 l hl d (i + 1) (o.set i l[i]) (by omega) hs.1 hs.2) fun k ih => ?_)
    simp only [laws_toIntS.l0]
    rw [if_pos (by omega), if_pos (by omega), if_pos (by omega), w64' (by omega) (by omega), rd_eq hlt, Int.toNat_natCast]
    exact ih
theorem laws_toIntS_ev (l : List Int) (hl : l.length ≤ 35184372088832) : Evp fun k => laws_toIntS.f k l = some l :=
  evMono (laws_toIntS_l0 l (by omega) l.length 0 (List.replicate l.length 0) (by omega) (by simp) (by simp)) fun k h => by
    unfold laws_toIntS.f
    rw [if_pos (by omega), if_pos (by omega), Int.toNat_natCast]
    exact h


theorem laws_eqIntS_l0 (a b : List Int) (hl : a.length = b.length) (hm : a.length ≤ 9223372036854775807) : ∀ (d i : Nat), i + d = a.length → a.take i = b.take i → Evp fun k => laws_eqIntS.l0 k a b (i : Int) = some (decide (a = b))
  | 0, i, hi, ht => evSuc (evAll fun k => by
    simp only [laws_eqIntS.l0]
    rw [if_neg (by omega)]
    obtain rfl : i = a.length := by omega
    have e : a = b := by
      rw [List.take_length, hl, List.take_length] at ht
      exact ht
    simp [e])
  | d + 1, i, hi, ht => by
    have ha : i < a.length := by omega
    have hb : i < b.length := by omega
    by_cases he : a[i] = b[i]
    · have ht' : a.take (i + 1) = b.take (i + 1) := by
        rw [List.take_succ_eq_append_getElem ha, List.take_succ_eq_append_getElem hb, ht, he]
      refine evSuc (evMono (laws_eqIntS_l0 a b hl hm d (i + 1) (by omega) ht') fun k ih => ?_)
      simp only [laws_eqIntS.l0]
      rw [if_pos (by omega), if_pos (by omega), if_pos (by omega), rd_eq ha, rd_eq hb, if_pos he, w64' (by omega) (by omega)]
      exact ih
    · refine evSuc (evAll fun k => ?_)
      simp only [laws_eqIntS.l0]
      rw [if_pos (by omega), if_pos (by omega), if_pos (by omega), rd_eq ha, rd_eq hb, if_neg he]
      have : a ≠ b := by
        rintro rfl
        exact he rfl
      simp [this]
theorem laws_eqIntS_ev (a b : List Int) (hm : a.length ≤ 9223372036854775807) : Evp fun k => laws_eqIntS.f k a b = some (decide (a = b)) := by
  unfold laws_eqIntS.f
  by_cases hl : a.length = b.length
  · refine evMono (laws_eqIntS_l0 a b hl hm a.length 0 (by omega) (by simp)) fun k h => ?_
    rw [if_pos (by omega)]
    exact h
  · refine evAll fun k => ?_
    rw [if_neg (by omega)]
    have : a ≠ b := by
      rintro rfl
      exact hl rfl
    simp [this]


/-- What is left of a bound, behind a list; -1 where nothing is. -/
def szL {α : Type} (l : List α) (left : Int) : Int := if left - l.length < 0 then -1 else left - l.length
theorem szL_b {α : Type} (l : List α) {left : Int} (h : 0 ≤ left) (h1 : left ≤ 1048576) : -1 ≤ szL l left ∧ szL l left ≤ 1048576 ∧ (0 ≤ szL l left → (l.length : Int) ≤ 1048576) := by
  unfold szL
  split <;> omega


theorem laws_szIntS_eq (l : List Int) (left : Int) (h : 0 ≤ left) (h1 : left ≤ 1048576) (hl : l.length ≤ 9223372036854775807) : laws_szIntS.f l left = some (szL l left) := by
  unfold laws_szIntS.f szL
  rw [w64' (by omega) (by omega)]
  split <;> rfl


theorem drop_at {α : Type} {l : List α} {i : Nat} (h : i < l.length) : l.drop i = l[i] :: l.drop (i + 1) := by
  exact List.drop_eq_getElem_cons h
def shapeOk (h w c : Int) : Bool := decide ((1 ≤ h ∧ h ≤ 8) ∧ (1 ≤ w ∧ w ≤ 8) ∧ (1 ≤ c ∧ c ≤ 8))
theorem shapeOk_iff {h w c : Int} : shapeOk h w c = true ↔ (1 ≤ h ∧ h ≤ 8) ∧ (1 ≤ w ∧ w ≤ 8) ∧ (1 ≤ c ∧ c ≤ 8) := by unfold shapeOk; simp
def sizeOf (h w c : Int) : Int := if shapeOk h w c = true then h * w * c else 0
theorem mul_b {a b A B : Int} (ha : 0 ≤ a) (ha' : a ≤ A) (hb : 0 ≤ b) (hb' : b ≤ B) : 0 ≤ a * b ∧ a * b ≤ A * B := by
  refine ⟨Int.mul_nonneg ha hb, Int.mul_le_mul ha' hb' hb (by omega)⟩
theorem mul_pos1 {a b : Int} (ha : 1 ≤ a) (hb : 1 ≤ b) : 1 ≤ a * b := by
  have := Int.mul_le_mul ha hb (by omega) (by omega)
  omega
theorem size_b {h w c : Int} (hs : shapeOk h w c = true) : 1 ≤ h * w ∧ h * w ≤ 64 ∧ 1 ≤ h * w * c ∧ h * w * c ≤ 512 := by
  obtain ⟨h1, h2, h3⟩ := shapeOk_iff.1 hs
  have a := mul_b (a := h) (b := w) (A := 8) (B := 8) (by omega) (by omega) (by omega) (by omega)
  have b := mul_b (a := h * w) (b := c) (A := 64) (B := 8) (by omega) (by omega) (by omega) (by omega)
  have c1 := mul_pos1 h1.1 h2.1
  have c2 := mul_pos1 c1 h3.1
  omega
theorem laws_toShape_eq (h w c : Int) : laws_toShape.f h w c = some (h, w, c) := rfl


theorem spec_ShapeOk_eq (h w c : Int) : spec_ShapeOk.f h w c = some (shapeOk h w c) := by
  unfold spec_ShapeOk.f shapeOk
  simp only [spec_l01In_eq, Option.bind_some, decide_eq_true_eq]
  by_cases h1 : 1 ≤ h ∧ h ≤ 8 <;> by_cases h2 : 1 ≤ w ∧ w ≤ 8 <;> simp [h1, h2]


theorem impl_ShapeOk_eq (h w c : Int) : impl_ShapeOk.f h w c = some (shapeOk h w c) := by
  unfold impl_ShapeOk.f shapeOk
  simp only [impl_in_eq, Option.bind_some, decide_eq_true_eq]
  by_cases h1 : 1 ≤ h ∧ h ≤ 8 <;> by_cases h2 : 1 ≤ w ∧ w ≤ 8 <;> simp [h1, h2]


theorem spec_SizeOf_eq (h w c : Int) : spec_SizeOf.f h w c = some (sizeOf h w c) := by
  unfold spec_SizeOf.f sizeOf
  rw [spec_ShapeOk_eq]
  simp only [Option.bind_some]
  by_cases hs : shapeOk h w c = true
  · have := size_b hs
    rw [if_pos hs, if_pos hs, w64' (x := h * w) (by omega) (by omega), w64' (by omega) (by omega)]
  · rw [if_neg hs, if_neg hs]


theorem impl_SizeOf_eq (h w c : Int) : impl_SizeOf.f h w c = some (sizeOf h w c) := by
  unfold impl_SizeOf.f sizeOf
  rw [impl_ShapeOk_eq]
  simp only [Option.bind_some]
  by_cases hs : shapeOk h w c = true
  · have := size_b hs
    rw [if_pos hs, if_pos hs, w64' (x := h * w) (by omega) (by omega), w64' (by omega) (by omega)]
  · rw [if_neg hs, if_neg hs]


def item8 (x : Int) : Bool := decide (-128 ≤ x ∧ x ≤ 127)
def itemsB (l : List Int) : Bool := l.all item8
theorem itemsB_iff {l : List Int} : itemsB l = true ↔ ∀ x ∈ l, -128 ≤ x ∧ x ≤ 127 := by
  unfold itemsB item8
  simp
theorem all_at {p : Int → Bool} {l : List Int} {i : Nat} (h : i < l.length) : (l.drop i).all p = (p l[i] && (l.drop (i + 1)).all p) := by
  rw [drop_at h, List.all_cons]
def tensorOk (h w c : Int) (l : List Int) : Bool := shapeOk h w c && (decide ((l.length : Int) = sizeOf h w c) && itemsB l)
theorem tensorOk_iff {h w c : Int} {l : List Int} : tensorOk h w c l = true ↔ shapeOk h w c = true ∧ (l.length : Int) = h * w * c ∧ ∀ x ∈ l, -128 ≤ x ∧ x ≤ 127 := by
  unfold tensorOk sizeOf
  by_cases hs : shapeOk h w c = true
  · simp [hs, itemsB_iff]
  · simp [hs]
theorem tensorOk_len {h w c : Int} {l : List Int} (ht : tensorOk h w c l = true) : 1 ≤ l.length ∧ l.length ≤ 512 := by
  obtain ⟨hs, hl, _⟩ := tensorOk_iff.1 ht
  have := size_b hs
  omega


theorem laws_szTensor_tells (h w c : Int) (l : List Int) (left : Int) (h0 : 0 ≤ left) (h1 : left ≤ 1048576) (hl : l.length ≤ 9223372036854775807) :
    ∃ r, laws_szTensor.f h w c l left = some r ∧ r ≤ 1048576 ∧ (0 ≤ r → (l.length : Int) ≤ 1048576) := by
  have b := szL_b l h0 h1
  by_cases hr : szL l left < 0
  · exact ⟨-1, bind_of (laws_szIntS_eq l left h0 h1 hl) (ite_yes hr rfl), by omega, fun z => by omega⟩
  · exact ⟨_, bind_of (laws_szIntS_eq l left h0 h1 hl) (ite_no hr rfl), by omega, b.2.2⟩


theorem laws_toTensor_ev (h w c : Int) (l : List Int) (hl : (l.length : Int) ≤ 1048576) : Evp fun k => laws_toTensor.f k h w c l = some (h, w, c, l) :=
  evMono (laws_toIntS_ev l (by omega)) fun k e => bind_of (laws_toShape_eq h w c) (bind_of e rfl)


theorem laws_eqShape_self (h w c : Int) : laws_eqShape.f h w c h w c = some true := ite_yes rfl (ite_yes rfl (ite_yes rfl rfl))


theorem laws_eqTensor_self (h w c : Int) (l : List Int) (hl : (l.length : Int) ≤ 1048576) : Evp fun k => laws_eqTensor.f k h w c l h w c l = some true :=
  evMono (laws_eqIntS_ev l l (by omega)) fun k e => bind_of (laws_eqShape_self h w c) (ite_yes rfl (bind_of e (ite_yes (by simp) rfl)))


theorem spec_l02Int8_eq (x : Int) : spec_l02Int8.f x = some (item8 x) := by
  unfold spec_l02Int8.f
  rw [spec_l01In_eq]
  rfl


theorem spec_TensorOk_l0 (h w c : Int) (l : List Int) (hl : l.length ≤ 9223372036854775807) : ∀ (d i : Nat), i + d = l.length → Evp fun k => spec_TensorOk.l0 k (i : Int) h w c l = some ((l.drop i).all item8)
  | 0, i, hi => evSuc (evAll fun k => by
    simp only [spec_TensorOk.l0]
    rw [if_neg (by omega), List.drop_eq_nil_of_le (by omega)]
    rfl)
  | d + 1, i, hi => by
    have hlt : i < l.length := by omega
    refine evSuc (evMono (spec_TensorOk_l0 h w c l hl d (i + 1) (by omega)) fun k ih => ?_)
    simp only [spec_TensorOk.l0]
    rw [if_pos (by omega), if_pos (by omega), rd_eq hlt, spec_l02Int8_eq, all_at hlt]
    simp only [Option.bind_some]
    cases hx : item8 l[i] with
    | true =>
      rw [if_pos rfl, w64' (by omega) (by omega)]
      simpa using ih
    | false => simp
theorem spec_TensorOk_ev (h w c : Int) (l : List Int) (hl : l.length ≤ 9223372036854775807) : Evp fun k => spec_TensorOk.f k h w c l = some (tensorOk h w c l) := by
  unfold tensorOk
  by_cases hs : shapeOk h w c = true
  · by_cases hz : (l.length : Int) = sizeOf h w c
    · refine evMono (evSuc (p := fun k => spec_TensorOk.j0 k false h w c l = some (l.all item8)) (evMono (spec_TensorOk_l0 h w c l hl l.length 0 (by omega)) fun k e => ?_)) fun k e => ?_
      · simp only [spec_TensorOk.j0]
        exact ite_no (by simp) e
      · refine bind_of (spec_ShapeOk_eq h w c) (ite_yes hs (bind_of (spec_SizeOf_eq h w c) ?_))
        rw [show ((l.length : Int) != sizeOf h w c) = false by simp [hz], hs, decide_eq_true hz]
        exact e
    · refine evSuc (evAll fun k => bind_of (spec_ShapeOk_eq h w c) (ite_yes hs (bind_of (spec_SizeOf_eq h w c) ?_)))
      rw [show ((l.length : Int) != sizeOf h w c) = true by simp [hz], decide_eq_false hz]
      simp [spec_TensorOk.j0]
  · refine evSuc (evAll fun k => bind_of (spec_ShapeOk_eq h w c) (ite_no hs ?_))
    simp [spec_TensorOk.j0, hs]


theorem impl_areItems_1_eq (x : Int) : impl_areItems_1.f x = some (!item8 x) := by
  unfold impl_areItems_1.f
  rw [impl_in_eq]
  rfl


theorem indexItems_l0 (l : List Int) (hl : l.length ≤ 9223372036854775807) : ∀ (d i : Nat), i + d = l.length → ∃ r, (Evp fun k => slices_IndexFunc_int_int_impl_areItems_1.l0 k l (l.length : Int) (i : Int) = some r) ∧ (decide (r ≥ 0) = !(l.drop i).all item8)
  | 0, i, hi => ⟨-1, evSuc (evAll fun k => by
    simp only [slices_IndexFunc_int_int_impl_areItems_1.l0]
    rw [if_neg (by omega)]), by rw [List.drop_eq_nil_of_le (by omega)]; rfl⟩
  | d + 1, i, hi => by
    have hlt : i < l.length := by omega
    rw [all_at hlt]
    cases hx : item8 l[i] with
    | true =>
      obtain ⟨r, h1, h2⟩ := indexItems_l0 l hl d (i + 1) (by omega)
      refine ⟨r, evSuc (evMono h1 fun k ih => ?_), by simpa using h2⟩
      simp only [slices_IndexFunc_int_int_impl_areItems_1.l0]
      rw [if_pos (by omega), if_pos (by omega), if_pos (by omega), rd_eq hlt, impl_areItems_1_eq, hx]
      simp only [Option.bind_some]
      rw [if_neg (by simp), w64' (by omega) (by omega)]
      exact ih
    | false =>
      refine ⟨(i : Int), evSuc (evAll fun k => ?_), by simp⟩
      simp only [slices_IndexFunc_int_int_impl_areItems_1.l0]
      rw [if_pos (by omega), if_pos (by omega), if_pos (by omega), rd_eq hlt, impl_areItems_1_eq, hx]
      simp


theorem impl_areItems_ev (l : List Int) (hl : l.length ≤ 9223372036854775807) : Evp fun k => impl_areItems.f k l = some (itemsB l) := by
  obtain ⟨r, h1, h2⟩ := indexItems_l0 l hl l.length 0 (by omega)
  refine evMono h1 fun k e => ?_
  have e1 : slices_ContainsFunc_int_int_impl_areItems_1.f k l = some (decide (r ≥ 0)) := bind_of (f := fun t => some (decide (t ≥ 0))) e rfl
  have e2 : impl_areItems.f k l = some (!decide (r ≥ 0)) := bind_of (f := fun t => some (!t)) e1 rfl
  rw [e2, h2]
  simp [itemsB]


theorem impl_TensorOk_ev (h w c : Int) (l : List Int) (hl : l.length ≤ 9223372036854775807) : Evp fun k => impl_TensorOk.f k h w c l = some (tensorOk h w c l) := by
  refine evMono (impl_areItems_ev l hl) fun k e => ?_
  unfold tensorOk
  by_cases hs : shapeOk h w c = true
  · refine bind_of (impl_ShapeOk_eq h w c) (ite_yes hs (bind_of (impl_SizeOf_eq h w c) ?_))
    by_cases hz : (l.length : Int) = sizeOf h w c
    · rw [if_pos hz, hs, decide_eq_true hz]
      exact bind_of e rfl
    · rw [if_neg hz, decide_eq_false hz]
      simp
  · refine bind_of (impl_ShapeOk_eq h w c) (ite_no hs ?_)
    simp [hs]


theorem ba_app (a b : List UInt8) : (⟨a.toArray⟩ : ByteArray) ++ ⟨b.toArray⟩ = ⟨(a ++ b).toArray⟩ := ByteArray.ext (by simp [ByteArray.data_append])
theorem ba_size (a : List UInt8) : (⟨a.toArray⟩ : ByteArray).size = a.length := by simp [ByteArray.size]
def dd (u : Nat) : List UInt8 := if u = 0 then [] else Lib.decDigits u
theorem dd_step {u : Nat} (h : 0 < u) : dd u = dd (u / 10) ++ [UInt8.ofNat (48 + u % 10)] := by
  unfold dd
  rw [if_neg (by omega)]
  by_cases h1 : u < 10
  · rw [if_pos (by omega), Lib.decDigits_one h1, show u % 10 = u by omega]
    rfl
  · rw [if_neg (by omega)]
    conv => lhs; rw [Lib.decDigits, dif_neg h1]
theorem num_byte {v : Int} {u : Nat} (h : v = 48 + ((u % 10 : Nat) : Int)) : strOfNums [v % 256] = ⟨[UInt8.ofNat (48 + u % 10)].toArray⟩ := by
  have e : (v % 256).toNat = 48 + u % 10 := by omega
  show (⟨[UInt8.ofNat (v % 256).toNat].toArray⟩ : ByteArray) = _
  rw [e]
theorem l01Num_l0 (neg : Bool) : ∀ (n u : Nat) (x : Int) (L : List UInt8), u < 10 ^ n → n ≤ 20 → L.length + n ≤ 1000 → x.natAbs = u → -9223372036854775808 ≤ x → x ≤ 9223372036854775807 → Evp fun k => spec_l01Num.l0 k x ⟨L.toArray⟩ neg = some ⟨((if neg then [45] else []) ++ (dd u ++ L)).toArray⟩
  | 0, u, x, L, hu, _, hL, hx, _, _ => by
    have hu0 : u = 0 := by simpa using hu
    subst hu0
    have hx0 : x = 0 := by omega
    subst hx0
    exact evSuc (evAll fun k => by
      simp only [spec_l01Num.l0]
      refine ite_yes trivial ?_
      cases neg with
      | true =>
        refine ite_yes rfl ?_
        rw [if_pos (by rw [ba_size]; omega)]
        exact congrArg some (ba_app [45] L)
      | false => exact ite_no Bool.false_ne_true rfl)
  | n + 1, u, x, L, hu, hn, hL, hx, h0, h1 => by
    by_cases hx0 : x = 0
    · subst hx0
      have hu0 : u = 0 := by simpa using hx.symm
      subst hu0
      exact evSuc (evAll fun k => by
        simp only [spec_l01Num.l0]
        refine ite_yes trivial ?_
        cases neg with
        | true =>
          refine ite_yes rfl ?_
          rw [if_pos (by rw [ba_size]; omega)]
          exact congrArg some (ba_app [45] L)
        | false => exact ite_no Bool.false_ne_true rfl)
    · have hd : (Int.tdiv x 10).natAbs = u / 10 := by rw [Int.natAbs_tdiv, hx]; rfl
      have hm : (Int.tmod x 10).natAbs = u % 10 := by rw [Int.natAbs_tmod, hx]; rfl
      have hq : -9223372036854775808 ≤ Int.tdiv x 10 ∧ Int.tdiv x 10 ≤ 9223372036854775807 := by omega
      have ih := l01Num_l0 neg n (u / 10) (Int.tdiv x 10) (UInt8.ofNat (48 + u % 10) :: L) (by rw [Nat.pow_succ] at hu; omega) (by omega) (by rw [List.length_cons]; omega) hd hq.1 hq.2
      rw [dd_step (u := u) (by omega), List.append_assoc, List.singleton_append]
      have hsz : ∀ v : Int, v = 48 + ((u % 10 : Nat) : Int) → (if (strOfNums [v % 256]).size + (⟨L.toArray⟩ : ByteArray).size ≤ 9223372036854775807 then True else False) := fun v hv => by
        rw [num_byte hv, ba_size, ba_size, if_pos (by simp only [List.length_singleton]; omega)]
        trivial
      refine evSuc (evMono ih fun k e => ?_)
      simp only [spec_l01Num.l0]
      refine ite_no hx0 ?_
      rw [w64' (x := Int.tdiv x 10) hq.1 hq.2]
      by_cases hneg : Int.tmod x 10 < 0
      · refine ite_yes hneg ?_
        have hv : wrap64 (48 + wrap64 (-(Int.tmod x 10))) = 48 + ((u % 10 : Nat) : Int) := by rw [w64' (x := -(Int.tmod x 10)) (by omega) (by omega), w64' (by omega) (by omega)]; omega
        show (if (strOfNums [(wrap64 (48 + wrap64 (-(Int.tmod x 10)))) % 256]).size + (⟨L.toArray⟩ : ByteArray).size ≤ 9223372036854775807 then spec_l01Num.l0 k (Int.tdiv x 10) (strOfNums [(wrap64 (48 + wrap64 (-(Int.tmod x 10)))) % 256] ++ ⟨L.toArray⟩) neg else none) = _
        rw [num_byte hv, ba_app, if_pos (by rw [ba_size, ba_size]; simp only [List.length_singleton]; omega)]
        exact e
      · refine ite_no hneg ?_
        have hv : wrap64 (48 + Int.tmod x 10) = 48 + ((u % 10 : Nat) : Int) := by rw [w64' (by omega) (by omega)]; omega
        show (if (strOfNums [(wrap64 (48 + Int.tmod x 10)) % 256]).size + (⟨L.toArray⟩ : ByteArray).size ≤ 9223372036854775807 then spec_l01Num.l0 k (Int.tdiv x 10) (strOfNums [(wrap64 (48 + Int.tmod x 10)) % 256] ++ ⟨L.toArray⟩) neg else none) = _
        rw [num_byte hv, ba_app, if_pos (by rw [ba_size, ba_size]; simp only [List.length_singleton]; omega)]
        exact e
theorem spec_l01Num_ev (x : Int) (h : i64 x) : Evp fun k => spec_l01Num.f k x = some ⟨(Lib.itoa x).toArray⟩ := by
  unfold i64 at h
  by_cases hx : x = 0
  · subst hx
    refine evAll fun k => ite_yes rfl ?_
    rw [show Lib.itoa 0 = [48] from by unfold Lib.itoa; rw [if_neg (by omega)]; exact Lib.decDigits_one (by omega)]
  · have h20 : x.natAbs < 10 ^ 20 := by
      have : (10 : Nat) ^ 20 = 100000000000000000000 := by decide
      omega
    refine evMono (l01Num_l0 (decide (x < 0)) 20 x.natAbs x [] h20 (by omega) (by simp) rfl h.1 h.2) fun k e => ite_no hx ?_
    rw [show (⟨#[]⟩ : ByteArray) = ⟨([] : List UInt8).toArray⟩ from rfl, e]
    congr 2
    have hz : ¬ x.natAbs = 0 := by omega
    rw [List.append_nil]
    unfold Lib.itoa dd
    rw [if_neg hz]
    by_cases hn : x < 0
    · rw [decide_eq_true hn, if_pos rfl, if_pos hn]; rfl
    · rw [decide_eq_false hn, if_neg Bool.false_ne_true, if_neg hn, show x.natAbs = x.toNat by omega]; rfl


theorem Itoa_eq {x : Int} (h : i64 x) : strconv_Itoa.f x = some ⟨(Lib.itoa x).toArray⟩ := ite_yes h.1 (ite_yes h.2 rfl)
theorem itoa_le {x : Int} (h : i64 x) : (Lib.itoa x).length ≤ 20 := by
  have key : ∀ (n x : Nat), x < 10 ^ (n + 1) → Lib.nDigits x ≤ n + 1 := by
    intro n
    induction n with
    | zero => intro x h; rw [Lib.nDigits_small (by omega)]; omega
    | succ n ih =>
      intro x h
      by_cases h1 : x < 10
      · rw [Lib.nDigits_small h1]; omega
      · rw [Lib.nDigits_big h1]
        have := ih (x / 10) (by rw [Nat.pow_succ] at h; omega)
        omega
  unfold i64 at h
  have h19 : (10 : Nat) ^ 19 = 10000000000000000000 := by decide
  unfold Lib.itoa
  split
  · have := key 18 x.natAbs (by omega)
    rw [List.length_cons, Lib.decDigits_length]
    omega
  · have := key 18 x.toNat (by omega)
    rw [Lib.decDigits_length]
    omega


def sidesL (h w c : Int) : List UInt8 := Lib.itoa h ++ [120] ++ Lib.itoa w ++ [120] ++ Lib.itoa c
theorem sidesL_len {h w c : Int} (a : i64 h) (b : i64 w) (d : i64 c) : (sidesL h w c).length ≤ 62 := by
  have := itoa_le a; have := itoa_le b; have := itoa_le d
  unfold sidesL
  simp only [List.length_append, List.length_singleton]
  omega
theorem ba_lit (a : List UInt8) (b : UInt8) : (⟨a.toArray⟩ : ByteArray) ++ (⟨#[b]⟩ : ByteArray) = ⟨(a ++ [b]).toArray⟩ := ba_app a [b]


theorem sides_eq {h w c : Int} (a : i64 h) (b : i64 w) (d : i64 c) : impl_Shape_sides.f h w c = some ⟨(sidesL h w c).toArray⟩ := by
  have := itoa_le a; have := itoa_le b; have := itoa_le d
  refine bind_of (Itoa_eq a) ?_
  rw [if_pos (by rw [ba_size]; omega)]
  refine bind_of (Itoa_eq b) ?_
  rw [ba_lit, ba_app, ba_lit, if_pos (by rw [ba_size, ba_size]; simp only [List.length_append, List.length_singleton]; omega), if_pos (by rw [ba_size]; simp only [List.length_append, List.length_singleton]; omega)]
  refine bind_of (Itoa_eq d) ?_
  rw [if_pos (by rw [ba_size, ba_size]; simp only [List.length_append, List.length_singleton]; omega), ba_app]
  rfl


theorem TensorText_l0 (h w c : Int) (l : List Int) (hl : l.length ≤ 512) (hi : ∀ x ∈ l, i64 x) : ∀ (d i : Nat) (L : List UInt8), i + d = l.length → L.length + 21 * d ≤ 100000 → Evp fun k => spec_TensorText.l0 k ⟨L.toArray⟩ (i : Int) h w c l = some ⟨(L ++ spacedL (l.drop i)).toArray⟩
  | 0, i, L, hid, hL => evSuc (evAll fun k => by
    simp only [spec_TensorText.l0]
    rw [if_neg (by omega), List.drop_eq_nil_of_le (by omega)]
    simp [spacedL])
  | d + 1, i, L, hid, hL => by
    have hlt : i < l.length := by omega
    have hx := hi l[i] (List.getElem_mem hlt)
    have hn := itoa_le hx
    have ih := TensorText_l0 h w c l hl hi d (i + 1) (L ++ [32] ++ Lib.itoa l[i]) (by omega) (by simp only [List.length_append, List.length_singleton]; omega)
    have e0 : L ++ [32] ++ Lib.itoa l[i] ++ spacedL (l.drop (i + 1)) = L ++ spacedL (l.drop i) := by
      rw [List.drop_eq_getElem_cons hlt]
      simp [spacedL]
    rw [e0] at ih
    refine evSuc (evMono (evAnd ih (spec_l01Num_ev l[i] hx)) fun k ⟨e, g⟩ => ?_)
    simp only [spec_TensorText.l0]
    refine ite_yes (by omega) ?_
    rw [if_pos (by rw [ba_size]; omega)]
    refine ite_yes (by omega) ?_
    rw [rd_eq hlt]
    refine bind_of g ?_
    rw [ba_lit, if_pos (by rw [ba_size, ba_size]; simp only [List.length_append, List.length_singleton]; omega), ba_app, w64' (x := (i : Int) + 1) (by omega) (by omega)]
    exact e
def tensorTextL (h w c : Int) (l : List Int) : List UInt8 := if tensorOk h w c l = true then sidesL h w c ++ [58] ++ spacedL l else []
theorem shapeOk_i64 {h w c : Int} (hs : shapeOk h w c = true) : i64 h ∧ i64 w ∧ i64 c := by
  unfold shapeOk at hs
  unfold i64
  simp only [Bool.and_eq_true, decide_eq_true_iff] at hs
  omega
theorem TensorText_ok (h w c : Int) (l : List Int) (hl : l.length ≤ 9223372036854775807) : (Evp fun k => spec_TensorText.f k h w c l = some ⟨(tensorTextL h w c l).toArray⟩) ∧ Evp fun k => impl_TensorText.f k h w c l = some ⟨(tensorTextL h w c l).toArray⟩ := by
  have t1 := spec_TensorOk_ev h w c l hl
  have t2 := impl_TensorOk_ev h w c l hl
  unfold tensorTextL
  by_cases ht : tensorOk h w c l = true
  · rw [if_pos ht]
    have hlen := (tensorOk_len ht).2
    have hs := (tensorOk_iff.1 ht).1
    have hitems := (tensorOk_iff.1 ht).2.2
    have hi : ∀ x ∈ l, i64 x := fun x hx => by have := hitems x hx; unfold i64; omega
    obtain ⟨a, b, d⟩ := shapeOk_i64 hs
    have := itoa_le a; have := itoa_le b; have := itoa_le d
    have hsl := sidesL_len a b d
    constructor
    · have lp := TensorText_l0 h w c l hlen hi l.length 0 (sidesL h w c ++ [58]) (by omega) (by simp only [List.length_append, List.length_singleton]; omega)
      rw [List.drop_zero] at lp
      refine evMono (evAnd t1 (evAnd (spec_l01Num_ev h a) (evAnd (spec_l01Num_ev w b) (evAnd (spec_l01Num_ev c d) lp)))) fun k ⟨e0, e1, e2, e3, e4⟩ => bind_of e0 (ite_yes ht (bind_of e1 ?_))
      rw [if_pos (by rw [ba_size]; omega)]
      refine bind_of e2 ?_
      rw [ba_lit, ba_app, ba_lit, if_pos (by rw [ba_size, ba_size]; simp only [List.length_append, List.length_singleton]; omega), if_pos (by rw [ba_size]; simp only [List.length_append, List.length_singleton]; omega)]
      refine bind_of e3 ?_
      rw [if_pos (by rw [ba_size, ba_size]; simp only [List.length_append, List.length_singleton]; omega), ba_app, if_pos (by rw [ba_size]; simp only [List.length_append, List.length_singleton]; omega), ba_lit]
      exact e4
    · have hsp : (spacedL l).length ≤ 21 * l.length := by
        clear hlen t1 t2 ht hl
        induction l with
        | nil => simp [spacedL]
        | cons x l ih =>
          have h1 := itoa_le (hi x (by simp))
          have h2 := ih (fun y hy => hitems y (List.mem_cons_of_mem _ hy)) (fun y hy => hi y (List.mem_cons_of_mem _ hy))
          simp only [spacedL, List.length_cons, List.length_append]
          omega
      have hf : impl_spaced.f l = some ⟨(spacedL l).toArray⟩ := ite_yes ⟨by omega, fun x hx => hi x hx⟩ rfl
      refine evMono t2 fun k e0 => bind_of e0 (ite_yes ht (bind_of (sides_eq a b d) ?_))
      rw [if_pos (by rw [ba_size]; omega)]
      refine bind_of hf ?_
      rw [ba_lit, if_pos (by rw [ba_size, ba_size]; simp only [List.length_append, List.length_singleton]; omega), ba_app]
  · rw [if_neg ht]
    exact ⟨evMono t1 fun k e => bind_of e (ite_no ht rfl), evMono t2 fun k e => bind_of e (ite_no ht rfl)⟩

theorem FnExactTensorText (h w c : Int) (l : List Int) (hg : ((Lit.int .i64 h).wf = true ∧ (Lit.int .i64 w).wf = true ∧ (Lit.int .i64 c).wf = true) ∧ (l.length ≤ maxLen ∧ ∀ x ∈ l, (Lit.int .i64 x).wf = true)) : ∃ k, laws_FnExactTensorText.f k h w c l = some true := by
  have hl := hg.2.1
  unfold maxLen at hl
  obtain ⟨r, hr, hr1, hr2⟩ := laws_szTensor_tells h w c l 1048576 (by omega) (by omega) (by omega)
  by_cases h0 : r < 0
  · exact ⟨0, bind_of hr (ite_yes h0 rfl)⟩
  have hb := hr2 (by omega)
  obtain ⟨e2, e3⟩ := TensorText_ok h w c l (by omega)
  exact evEx (evMono (evAnd (laws_toTensor_ev h w c l hb) (evAnd e2 (evAnd e3 (laws_eqTensor_self h w c l hb)))) fun k ⟨e1, e2, e3, e4⟩ => bind_of hr (ite_no h0 (bind_of e1 (bind_of e2 (bind_of e1 (bind_of e3 (ite_yes rfl (bind_of e1 (bind_of e4 (ite_yes rfl rfl))))))))))

end Go.Proofs.YtjmejobelkllmaaDoor.Pure
