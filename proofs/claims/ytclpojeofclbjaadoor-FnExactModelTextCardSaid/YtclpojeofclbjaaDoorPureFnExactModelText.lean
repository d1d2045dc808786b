/- For every model that the law lets in, the program's ModelText and the reference's return the same, and the argument reads as it did (the law FnExactModelText answers true). Condition, tied by the card: the listed tables of the library stand in memory as the library's text lays them. -/
import Derived.Test.YtclpojeofclbjaaDoorPFnExactModelTextx0
import Derived.Test.YtclpojeofclbjaaDoorPFnExactModelTextx1
import Derived.Test.YtclpojeofclbjaaDoorPFnExactModelTextx10
import Derived.Test.YtclpojeofclbjaaDoorPFnExactModelTextx11
import Derived.Test.YtclpojeofclbjaaDoorPFnExactModelTextx12
import Derived.Test.YtclpojeofclbjaaDoorPFnExactModelTextx13
import Derived.Test.YtclpojeofclbjaaDoorPFnExactModelTextx2
import Derived.Test.YtclpojeofclbjaaDoorPFnExactModelTextx3
import Derived.Test.YtclpojeofclbjaaDoorPFnExactModelTextx4
import Derived.Test.YtclpojeofclbjaaDoorPFnExactModelTextx5
import Derived.Test.YtclpojeofclbjaaDoorPFnExactModelTextx6
import Derived.Test.YtclpojeofclbjaaDoorPFnExactModelTextx7
import Derived.Test.YtclpojeofclbjaaDoorPFnExactModelTextx8
import Derived.Test.YtclpojeofclbjaaDoorPFnExactModelTextx9
namespace Go.Proofs.YtclpojeofclbjaaDoor.Pure
open Go.RowKit Go.Proofs.YtclpojeofclbjaaDoor.PFnExactModelText Go.Proofs.YtclpojeofclbjaaDoorW.PrintWords Go.Proofs.YtclpojeofclbjaaDoorW.PrintLast Go.Proofs.YtclpojeofclbjaaDoorW.PrintMore
set_option linter.unusedVariables false
set_option linter.unusedSimpArgs false

/-! #### rounds -/
def Evp (p : Nat → Prop) : Prop := ∃ K, ∀ k, K ≤ k → p k
theorem evAnd {p q : Nat → Prop} (h : Evp p) (g : Evp q) : Evp (fun k => p k ∧ q k) := by
  obtain ⟨K, hK⟩ := h
  obtain ⟨L, hL⟩ := g
  exact ⟨max K L, fun k hk => ⟨hK k (by omega), hL k (by omega)⟩⟩
theorem evMono {p q : Nat → Prop} (h : Evp p) (g : ∀ k, p k → q k) : Evp q := by
  obtain ⟨K, hK⟩ := h
  exact ⟨K, fun k hk => g k (hK k hk)⟩
theorem evSuc {p : Nat → Prop} (h : Evp fun k => p (k + 1)) : Evp p := by
  obtain ⟨K, hK⟩ := h
  refine ⟨K + 1, fun k hk => ?_⟩
  obtain ⟨m, rfl⟩ : ∃ m, k = m + 1 := ⟨k - 1, by omega⟩
  exact hK m (by omega)
theorem evAll {p : Nat → Prop} (h : ∀ k, p k) : Evp p := ⟨0, fun k _ => h k⟩
theorem evEx {p : Nat → Prop} (h : Evp p) : ∃ k, p k := by
  obtain ⟨K, hK⟩ := h
  exact ⟨K, hK K (Nat.le_refl _)⟩
/-- One step of a chain. -/
theorem bind_of {α β : Type} {o : Option α} {f : α → Option β} {a : α} {r : Option β} (h : o = some a) (hf : f a = r) : o.bind f = r := by rw [h]; exact hf
theorem ite_yes {α : Type} {c : Prop} [Decidable c] {x y r : α} (h : c) (hx : x = r) : (if c then x else y) = r := by rw [if_pos h]; exact hx
theorem ite_no {α : Type} {c : Prop} [Decidable c] {x y r : α} (h : ¬ c) (hy : y = r) : (if c then x else y) = r := by rw [if_neg h]; exact hy

/-! #### whole numbers -/
def i64 (x : Int) : Prop := -9223372036854775808 ≤ x ∧ x ≤ 9223372036854775807
theorem i64_of {x : Int} (h : (Lit.int .i64 x).wf = true) : i64 x := by
  simp only [Lit.wf, IntKind.min, IntKind.max, IntKind.signed, IntKind.bits, Bool.and_eq_true, decide_eq_true_eq, if_true] at h
  unfold i64
  omega
theorem w64 {x : Int} (h : i64 x) : wrap64 x = x := by
  unfold i64 at h
  unfold wrap64
  omega
theorem w64' {x : Int} (h0 : -9223372036854775808 ≤ x) (h1 : x ≤ 9223372036854775807) : wrap64 x = x := w64 ⟨h0, h1⟩
theorem tdiv_pos {a b : Int} (h : 0 ≤ a) : Int.tdiv a b = a / b := Int.tdiv_eq_ediv_of_nonneg h
theorem bnd_mul {a b A B : Int} (ha : -A ≤ a) (ha' : a ≤ A) (hb : -B ≤ b) (hb' : b ≤ B) : -(A * B) ≤ a * b ∧ a * b ≤ A * B := by
  have hA : 0 ≤ A := by omega
  have hB : 0 ≤ B := by omega
  have h1 : (a * b).natAbs ≤ (A * B).natAbs := by
    rw [Int.natAbs_mul, Int.natAbs_mul]
    exact Nat.mul_le_mul (by omega) (by omega)
  have h2 : 0 ≤ A * B := Int.mul_nonneg hA hB
  omega

/-! #### lists -/
theorem rd_eq {l : List Int} {i : Nat} (h : i < l.length) : rd l (i : Int) = l[i] := by
  unfold rd
  simp [List.getD, h]
theorem spec_l01In_eq (x lo hi : Int) : spec_l01In.f x lo hi = some (decide (lo ≤ x ∧ x ≤ hi)) := by
  unfold spec_l01In.f
  by_cases h : lo ≤ x
  · simp [h]
  · simp [h]


theorem impl_in_eq (x lo hi : Int) : impl_in.f x lo hi = some (decide (lo ≤ x ∧ x ≤ hi)) := by
  unfold impl_in.f
  by_cases h : lo ≤ x
  · simp [h]
  · simp [h]

/-- A list that is filled from the left. -/
theorem fill_step {α : Type} {l o : List α} {i : Nat} (hi : i < l.length) (hl : o.length = l.length) (ht : o.take i = l.take i) : (o.set i l[i]).length = l.length ∧ (o.set i l[i]).take (i + 1) = l.take (i + 1) := by
  refine ⟨by simp [hl], ?_⟩
  apply List.ext_getElem?
  intro j
  rw [List.getElem?_take, List.getElem?_take]
  by_cases hj : j < i + 1
  · rw [if_pos hj, if_pos hj]
    by_cases e : j = i
    · subst e
      rw [List.getElem?_set_self (by omega), List.getElem?_eq_getElem hi]
    · rw [List.getElem?_set_ne (by omega)]
      have := congrArg (fun x => x[j]?) ht
      simp only [List.getElem?_take] at this
      rw [if_pos (by omega), if_pos (by omega)] at this
      exact this
  · rw [if_neg hj, if_neg hj]
theorem fill_end {α : Type} {l o : List α} (hl : o.length = l.length) (ht : o.take l.length = l.take l.length) : o = l := by
  rw [List.take_length] at ht
  rw [← hl, List.take_length] at ht
  exact ht


theorem laws_toIntS_l0 (l : List Int) (hl : l.length ≤ 9223372036854775807) : ∀ (d i : Nat) (o : List Int), i + d = l.length → o.length = l.length → o.take i = l.take i → Evp fun k => laws_toIntS.l0 k l o (i : Int) = some l
  | 0, i, o, hi, ho, ht => evSuc (evAll fun k => by
    simp only [laws_toIntS.l0]
    rw [if_neg (by omega)]
    obtain rfl : i = l.length := by omega
    rw [fill_end ho ht])
  | d + 1, i, o, hi, ho, ht => by
    have hlt : i < l.length := by omega
    have hs := fill_step hlt ho ht
    refine evSuc (evMono (laws_toIntS_l0 l hl d (i + 1) (o.set i l[i]) (by omega) hs.1 hs.2) fun k ih => ?_)
    simp only [laws_toIntS.l0]
    rw [if_pos (by omega), if_pos (by omega), if_pos (by omega), w64' (by omega) (by omega), rd_eq hlt, Int.toNat_natCast]
    exact ih
theorem laws_toIntS_ev (l : List Int) (hl : l.length ≤ 35184372088832) : Evp fun k => laws_toIntS.f k l = some l :=
  evMono (laws_toIntS_l0 l (by omega) l.length 0 (List.replicate l.length 0) (by omega) (by simp) (by simp)) fun k h => by
    unfold laws_toIntS.f
    rw [if_pos (by omega), if_pos (by omega), Int.toNat_natCast]
    exact h


theorem laws_eqIntS_l0 (a b : List Int) (hl : a.length = b.length) (hm : a.length ≤ 9223372036854775807) : ∀ (d i : Nat), i + d = a.length → a.take i = b.take i → Evp fun k => laws_eqIntS.l0 k a b (i : Int) = some (decide (a = b))
  | 0, i, hi, ht => evSuc (evAll fun k => by
    simp only [laws_eqIntS.l0]
    rw [if_neg (by omega)]
    obtain rfl : i = a.length := by omega
    have e : a = b := by
      rw [List.take_length, hl, List.take_length] at ht
      exact ht
    simp [e])
  | d + 1, i, hi, ht => by
    have ha : i < a.length := by omega
    have hb : i < b.length := by omega
    by_cases he : a[i] = b[i]
    · have ht' : a.take (i + 1) = b.take (i + 1) := by
        rw [List.take_succ_eq_append_getElem ha, List.take_succ_eq_append_getElem hb, ht, he]
      refine evSuc (evMono (laws_eqIntS_l0 a b hl hm d (i + 1) (by omega) ht') fun k ih => ?_)
      simp only [laws_eqIntS.l0]
      rw [if_pos (by omega), if_pos (by omega), if_pos (by omega), rd_eq ha, rd_eq hb, if_pos he, w64' (by omega) (by omega)]
      exact ih
    · refine evSuc (evAll fun k => ?_)
      simp only [laws_eqIntS.l0]
      rw [if_pos (by omega), if_pos (by omega), if_pos (by omega), rd_eq ha, rd_eq hb, if_neg he]
      have : a ≠ b := by
        rintro rfl
        exact he rfl
      simp [this]
theorem laws_eqIntS_ev (a b : List Int) (hm : a.length ≤ 9223372036854775807) : Evp fun k => laws_eqIntS.f k a b = some (decide (a = b)) := by
  unfold laws_eqIntS.f
  by_cases hl : a.length = b.length
  · refine evMono (laws_eqIntS_l0 a b hl hm a.length 0 (by omega) (by simp)) fun k h => ?_
    rw [if_pos (by omega)]
    exact h
  · refine evAll fun k => ?_
    rw [if_neg (by omega)]
    have : a ≠ b := by
      rintro rfl
      exact hl rfl
    simp [this]


/-- What is left of a bound, behind a list; -1 where nothing is. -/
def szL {α : Type} (l : List α) (left : Int) : Int := if left - l.length < 0 then -1 else left - l.length
theorem szL_b {α : Type} (l : List α) {left : Int} (h : 0 ≤ left) (h1 : left ≤ 1048576) : -1 ≤ szL l left ∧ szL l left ≤ 1048576 ∧ (0 ≤ szL l left → (l.length : Int) ≤ 1048576) := by
  unfold szL
  split <;> omega


theorem laws_szIntS_eq (l : List Int) (left : Int) (h : 0 ≤ left) (h1 : left ≤ 1048576) (hl : l.length ≤ 9223372036854775807) : laws_szIntS.f l left = some (szL l left) := by
  unfold laws_szIntS.f szL
  rw [w64' (by omega) (by omega)]
  split <;> rfl


theorem drop_at {α : Type} {l : List α} {i : Nat} (h : i < l.length) : l.drop i = l[i] :: l.drop (i + 1) := by
  exact List.drop_eq_getElem_cons h
def shapeOk (h w c : Int) : Bool := decide ((1 ≤ h ∧ h ≤ 8) ∧ (1 ≤ w ∧ w ≤ 8) ∧ (1 ≤ c ∧ c ≤ 8))
theorem shapeOk_iff {h w c : Int} : shapeOk h w c = true ↔ (1 ≤ h ∧ h ≤ 8) ∧ (1 ≤ w ∧ w ≤ 8) ∧ (1 ≤ c ∧ c ≤ 8) := by unfold shapeOk; simp
def sizeOf (h w c : Int) : Int := if shapeOk h w c = true then h * w * c else 0
theorem mul_b {a b A B : Int} (ha : 0 ≤ a) (ha' : a ≤ A) (hb : 0 ≤ b) (hb' : b ≤ B) : 0 ≤ a * b ∧ a * b ≤ A * B := by
  refine ⟨Int.mul_nonneg ha hb, Int.mul_le_mul ha' hb' hb (by omega)⟩
theorem mul_pos1 {a b : Int} (ha : 1 ≤ a) (hb : 1 ≤ b) : 1 ≤ a * b := by
  have := Int.mul_le_mul ha hb (by omega) (by omega)
  omega
theorem size_b {h w c : Int} (hs : shapeOk h w c = true) : 1 ≤ h * w ∧ h * w ≤ 64 ∧ 1 ≤ h * w * c ∧ h * w * c ≤ 512 := by
  obtain ⟨h1, h2, h3⟩ := shapeOk_iff.1 hs
  have a := mul_b (a := h) (b := w) (A := 8) (B := 8) (by omega) (by omega) (by omega) (by omega)
  have b := mul_b (a := h * w) (b := c) (A := 64) (B := 8) (by omega) (by omega) (by omega) (by omega)
  have c1 := mul_pos1 h1.1 h2.1
  have c2 := mul_pos1 c1 h3.1
  omega
theorem laws_toShape_eq (h w c : Int) : laws_toShape.f h w c = some (h, w, c) := rfl


theorem spec_ShapeOk_eq (h w c : Int) : spec_ShapeOk.f h w c = some (shapeOk h w c) := by
  unfold spec_ShapeOk.f shapeOk
  simp only [spec_l01In_eq, Option.bind_some, decide_eq_true_eq]
  by_cases h1 : 1 ≤ h ∧ h ≤ 8 <;> by_cases h2 : 1 ≤ w ∧ w ≤ 8 <;> simp [h1, h2]


theorem impl_ShapeOk_eq (h w c : Int) : impl_ShapeOk.f h w c = some (shapeOk h w c) := by
  unfold impl_ShapeOk.f shapeOk
  simp only [impl_in_eq, Option.bind_some, decide_eq_true_eq]
  by_cases h1 : 1 ≤ h ∧ h ≤ 8 <;> by_cases h2 : 1 ≤ w ∧ w ≤ 8 <;> simp [h1, h2]


theorem spec_SizeOf_eq (h w c : Int) : spec_SizeOf.f h w c = some (sizeOf h w c) := by
  unfold spec_SizeOf.f sizeOf
  rw [spec_ShapeOk_eq]
  simp only [Option.bind_some]
  by_cases hs : shapeOk h w c = true
  · have := size_b hs
    rw [if_pos hs, if_pos hs, w64' (x := h * w) (by omega) (by omega), w64' (by omega) (by omega)]
  · rw [if_neg hs, if_neg hs]


theorem impl_SizeOf_eq (h w c : Int) : impl_SizeOf.f h w c = some (sizeOf h w c) := by
  unfold impl_SizeOf.f sizeOf
  rw [impl_ShapeOk_eq]
  simp only [Option.bind_some]
  by_cases hs : shapeOk h w c = true
  · have := size_b hs
    rw [if_pos hs, if_pos hs, w64' (x := h * w) (by omega) (by omega), w64' (by omega) (by omega)]
  · rw [if_neg hs, if_neg hs]


theorem laws_szLayer_tells (a b c d e f g : Int) (W B : List Int) (left : Int) (h : 0 ≤ left) (h1 : left ≤ 1048576) (hW : W.length ≤ 9223372036854775807) (hB : B.length ≤ 9223372036854775807) :
    ∃ r, laws_szLayer.f a b c d e f g W B left = some r ∧ r ≤ 1048576 ∧ (0 ≤ r → (W.length : Int) ≤ 1048576 ∧ (B.length : Int) ≤ 1048576) := by
  unfold laws_szLayer.f
  have b1 := szL_b W h h1
  rw [laws_szIntS_eq W left h h1 hW]
  simp only [Option.bind_some]
  by_cases hr : szL W left < 0
  · rw [if_pos hr]
    exact ⟨-1, rfl, by omega, fun z => by omega⟩
  · have b2 := szL_b B (left := szL W left) (by omega) (by omega)
    rw [if_neg hr, laws_szIntS_eq B _ (by omega) (by omega) hB]
    simp only [Option.bind_some]
    split
    · exact ⟨-1, rfl, by omega, fun z => by omega⟩
    · exact ⟨_, rfl, by omega, fun z => ⟨b1.2.2 (by omega), b2.2.2 (by omega)⟩⟩


theorem laws_toLayer_ev (a b c d e f g : Int) (W B : List Int) (hW : (W.length : Int) ≤ 1048576) (hB : (B.length : Int) ≤ 1048576) : Evp fun k => laws_toLayer.f k a b c d e f g W B = some (a, b, c, d, e, f, g, W, B) :=
  evMono (evAnd (laws_toIntS_ev W (by omega)) (laws_toIntS_ev B (by omega))) fun k ⟨h1, h2⟩ => by
    unfold laws_toLayer.f
    rw [h1, h2]
    rfl


theorem laws_eqLayer_self (a b c d e f g : Int) (W B : List Int) (hW : (W.length : Int) ≤ 1048576) (hB : (B.length : Int) ≤ 1048576) : Evp fun k => laws_eqLayer.f k a b c d e f g W B a b c d e f g W B = some true :=
  evMono (evAnd (laws_eqIntS_ev W W (by omega)) (laws_eqIntS_ev B B (by omega))) fun k ⟨h1, h2⟩ => by
    unfold laws_eqLayer.f
    simp [h1, h2]


def item8 (x : Int) : Bool := decide (-128 ≤ x ∧ x ≤ 127)
def itemsB (l : List Int) : Bool := l.all item8
theorem all_at {p : Int → Bool} {l : List Int} {i : Nat} (h : i < l.length) : (l.drop i).all p = (p l[i] && (l.drop (i + 1)).all p) := by
  rw [drop_at h, List.all_cons]
theorem laws_eqShape_self (h w c : Int) : laws_eqShape.f h w c h w c = some true := ite_yes rfl (ite_yes rfl (ite_yes rfl rfl))


theorem spec_l02Int8_eq (x : Int) : spec_l02Int8.f x = some (item8 x) := by
  unfold spec_l02Int8.f
  rw [spec_l01In_eq]
  rfl


theorem impl_areItems_1_eq (x : Int) : impl_areItems_1.f x = some (!item8 x) := by
  unfold impl_areItems_1.f
  rw [impl_in_eq]
  rfl


theorem indexItems_l0 (l : List Int) (hl : l.length ≤ 9223372036854775807) : ∀ (d i : Nat), i + d = l.length → ∃ r, (Evp fun k => slices_IndexFunc_int_int_impl_areItems_1.l0 k l (l.length : Int) (i : Int) = some r) ∧ (decide (r ≥ 0) = !(l.drop i).all item8)
  | 0, i, hi => ⟨-1, evSuc (evAll fun k => by
    simp only [slices_IndexFunc_int_int_impl_areItems_1.l0]
    rw [if_neg (by omega)]), by rw [List.drop_eq_nil_of_le (by omega)]; rfl⟩
  | d + 1, i, hi => by
    have hlt : i < l.length := by omega
    rw [all_at hlt]
    cases hx : item8 l[i] with
    | true =>
      obtain ⟨r, h1, h2⟩ := indexItems_l0 l hl d (i + 1) (by omega)
      refine ⟨r, evSuc (evMono h1 fun k ih => ?_), by simpa using h2⟩
      simp only [slices_IndexFunc_int_int_impl_areItems_1.l0]
      rw [if_pos (by omega), if_pos (by omega), if_pos (by omega), rd_eq hlt, impl_areItems_1_eq, hx]
      simp only [Option.bind_some]
      rw [if_neg (by simp), w64' (by omega) (by omega)]
      exact ih
    | false =>
      refine ⟨(i : Int), evSuc (evAll fun k => ?_), by simp⟩
      simp only [slices_IndexFunc_int_int_impl_areItems_1.l0]
      rw [if_pos (by omega), if_pos (by omega), if_pos (by omega), rd_eq hlt, impl_areItems_1_eq, hx]
      simp


theorem impl_areItems_ev (l : List Int) (hl : l.length ≤ 9223372036854775807) : Evp fun k => impl_areItems.f k l = some (itemsB l) := by
  obtain ⟨r, h1, h2⟩ := indexItems_l0 l hl l.length 0 (by omega)
  refine evMono h1 fun k e => ?_
  have e1 : slices_ContainsFunc_int_int_impl_areItems_1.f k l = some (decide (r ≥ 0)) := bind_of (f := fun t => some (decide (t ≥ 0))) e rfl
  have e2 : impl_areItems.f k l = some (!decide (r ≥ 0)) := bind_of (f := fun t => some (!t)) e1 rfl
  rw [e2, h2]
  simp [itemsB]


theorem rdLaw_eq {l : List S74} {i : Nat} (h : i < l.length) : rd_T74 l (i : Int) = l[i] := by
  unfold rd_T74
  simp [List.getD, h]
theorem rdImp_eq {l : List S49} {i : Nat} (h : i < l.length) : rd_T49 l (i : Int) = l[i] := by
  unfold rd_T49
  simp [List.getD, h]
def conv (x : S74) : S49 := ⟨x.f0, x.f1, x.f2, x.f3, x.f4, x.f5, x.f6, x.f7, x.f8⟩
/-- What the row tells of a layer's fields. -/
def wfLayer (x : S74) : Prop := (Lit.int .i64 x.f0).wf = true ∧ (Lit.int .i64 x.f1).wf = true ∧ (Lit.int .i64 x.f2).wf = true ∧ (Lit.int .i64 x.f3).wf = true ∧ (Lit.int .i64 x.f4).wf = true ∧ (Lit.int .i64 x.f5).wf = true ∧ (Lit.int .i64 x.f6).wf = true ∧ (x.f7.length ≤ maxLen ∧ ∀ y ∈ x.f7, (Lit.int .i64 y).wf = true) ∧ (x.f8.length ≤ maxLen ∧ ∀ y ∈ x.f8, (Lit.int .i64 y).wf = true)
theorem wfLayer.len {x : S74} (h : wfLayer x) : x.f7.length ≤ 9223372036854775807 ∧ x.f8.length ≤ 9223372036854775807 := by
  obtain ⟨-, -, -, -, -, -, -, h7, h8⟩ := h
  unfold maxLen at h7 h8
  exact ⟨h7.1, h8.1⟩
def wfLayers (l : List S74) : Prop := l.length ≤ maxLen ∧ ∀ x ∈ l, wfLayer x
/-- The lists of a layer, of layers: within the law's bound. -/
def smallL (x : S49) : Prop := (x.f7.length : Int) ≤ 1048576 ∧ (x.f8.length : Int) ≤ 1048576
def smallM (l : List S74) : Prop := (l.length : Int) ≤ 1048576 ∧ ∀ x ∈ l, smallL (conv x)
def smallI (l : List S49) : Prop := (l.length : Int) ≤ 1048576 ∧ ∀ x ∈ l, smallL x
theorem smallM.conv {l : List S74} (h : smallM l) : smallI (l.map Pure.conv) := by
  refine ⟨by simpa using h.1, fun x hx => ?_⟩
  obtain ⟨y, hy, rfl⟩ := List.mem_map.1 hx
  exact h.2 y hy
theorem laws_toLayerS_l0 (l : List S74) (h : smallM l) : ∀ (d i : Nat) (o : List S49), i + d = l.length → o.length = (l.map conv).length → o.take i = (l.map conv).take i → Evp fun k => laws_toLayerS.l0 k l o (i : Int) = some (l.map conv)
  | 0, i, o, hi, ho, ht => evSuc (evAll fun k => by
    simp only [laws_toLayerS.l0]
    rw [if_neg (by omega)]
    obtain rfl : i = (l.map conv).length := by simpa using hi
    rw [fill_end ho ht])
  | d + 1, i, o, hi, ho, ht => by
    have hlt : i < l.length := by omega
    have hlt' : i < (l.map conv).length := by simpa using hlt
    have hs := fill_step hlt' ho ht
    have hb := h.1
    have hx := h.2 l[i] (List.getElem_mem hlt)
    have hol : o.length = l.length := by simpa using ho
    refine evSuc (evMono (evAnd (laws_toLayer_ev l[i].f0 l[i].f1 l[i].f2 l[i].f3 l[i].f4 l[i].f5 l[i].f6 l[i].f7 l[i].f8 hx.1 hx.2) (laws_toLayerS_l0 l h d (i + 1) (o.set i (l.map conv)[i]) (by omega) hs.1 hs.2)) fun k ⟨e, ih⟩ => ?_)
    simp only [laws_toLayerS.l0]
    rw [if_pos (by omega), if_pos (by omega), rdLaw_eq hlt]
    refine bind_of e (ite_yes (by omega) ?_)
    rw [w64' (by omega) (by omega), Int.toNat_natCast]
    rw [List.getElem_map] at ih
    exact ih
theorem laws_toLayerS_ev (l : List S74) (h : smallM l) : Evp fun k => laws_toLayerS.f k l = some (l.map conv) :=
  evMono (laws_toLayerS_l0 l h l.length 0 (List.replicate l.length z49) (by omega) (by simp) (by simp)) fun k e => by
    have := h.1
    refine ite_yes (by omega) (ite_yes (by omega) ?_)
    rw [Int.toNat_natCast]
    exact e


theorem laws_toModel_ev (h w c : Int) (l : List S74) (hl : smallM l) : Evp fun k => laws_toModel.f k h w c l = some (h, w, c, l.map conv) :=
  evMono (laws_toLayerS_ev l hl) fun k e => bind_of (laws_toShape_eq h w c) (bind_of e rfl)


theorem laws_szLayerS_l0 (l : List S74) (hl : l.length ≤ 9223372036854775807) (hx : ∀ x ∈ l, x.f7.length ≤ 9223372036854775807 ∧ x.f8.length ≤ 9223372036854775807) : ∀ (d i : Nat) (left : Int), i + d = l.length → 0 ≤ left → left ≤ 1048576 → ∃ r, r ≤ 1048576 ∧ (0 ≤ r → ∀ x ∈ l.drop i, smallL (conv x)) ∧ Evp fun k => laws_szLayerS.l0 k l left (i : Int) = some r
  | 0, i, left, hi, h0, h1 => by
    refine ⟨left, h1, fun _ x hm => ?_, evSuc (evAll fun k => ?_)⟩
    · rw [List.drop_eq_nil_of_le (by omega)] at hm
      cases hm
    · simp only [laws_szLayerS.l0]
      rw [if_neg (by omega)]
  | d + 1, i, left, hi, h0, h1 => by
    have hlt : i < l.length := by omega
    have hb := hx l[i] (List.getElem_mem hlt)
    obtain ⟨r, hr, hr1, hr2⟩ := laws_szLayer_tells l[i].f0 l[i].f1 l[i].f2 l[i].f3 l[i].f4 l[i].f5 l[i].f6 l[i].f7 l[i].f8 left h0 h1 hb.1 hb.2
    by_cases hn : r < 0
    · refine ⟨-1, by omega, fun z => by omega, evSuc (evAll fun k => ?_)⟩
      simp only [laws_szLayerS.l0]
      rw [if_pos (by omega), if_pos (by omega), rdLaw_eq hlt]
      exact bind_of hr (ite_yes hn rfl)
    · obtain ⟨q, q1, q2, ih⟩ := laws_szLayerS_l0 l hl hx d (i + 1) r (by omega) (by omega) hr1
      refine ⟨q, q1, fun z x hm => ?_, evSuc (evMono ih fun k e => ?_)⟩
      · rw [List.drop_eq_getElem_cons hlt] at hm
        rcases List.mem_cons.1 hm with rfl | hm
        · exact hr2 (by omega)
        · exact q2 z x hm
      · simp only [laws_szLayerS.l0]
        rw [if_pos (by omega), if_pos (by omega), rdLaw_eq hlt]
        refine bind_of hr (ite_no hn ?_)
        rw [w64' (by omega) (by omega)]
        exact e
theorem laws_szLayerS_tells (l : List S74) (hl : l.length ≤ 9223372036854775807) (hx : ∀ x ∈ l, x.f7.length ≤ 9223372036854775807 ∧ x.f8.length ≤ 9223372036854775807) (left : Int) (h0 : 0 ≤ left) (h1 : left ≤ 1048576) : ∃ r, r ≤ 1048576 ∧ (0 ≤ r → smallM l) ∧ Evp fun k => laws_szLayerS.f k l left = some r := by
  by_cases hn : left - (l.length : Int) < 0
  · refine ⟨-1, by omega, fun z => by omega, evAll fun k => ?_⟩
    refine ite_yes ?_ rfl
    rw [w64' (by omega) (by omega)]
    exact hn
  · obtain ⟨r, r1, r2, e⟩ := laws_szLayerS_l0 l hl hx l.length 0 (left - l.length) (by omega) (by omega) (by omega)
    refine ⟨r, r1, fun z => ⟨by omega, by simpa using r2 z⟩, evMono e fun k e => ?_⟩
    have hw : wrap64 (left - (l.length : Int)) = left - l.length := w64' (by omega) (by omega)
    refine ite_no (by rw [hw]; exact hn) ?_
    rw [hw]
    exact e


theorem laws_szModel_tells (h w c : Int) (l : List S74) (left : Int) (h0 : 0 ≤ left) (h1 : left ≤ 1048576) (hl : l.length ≤ 9223372036854775807) (hx : ∀ x ∈ l, x.f7.length ≤ 9223372036854775807 ∧ x.f8.length ≤ 9223372036854775807) : ∃ r, r ≤ 1048576 ∧ (0 ≤ r → smallM l) ∧ Evp fun k => laws_szModel.f k h w c l left = some r := by
  obtain ⟨r, r1, r2, e⟩ := laws_szLayerS_tells l hl hx left h0 h1
  by_cases hn : r < 0
  · exact ⟨-1, by omega, fun z => by omega, evMono e fun k e => bind_of e (ite_yes hn rfl)⟩
  · exact ⟨r, r1, r2, evMono e fun k e => bind_of e (ite_no hn rfl)⟩


theorem laws_eqLayerS_l0 (l : List S49) (h : smallI l) : ∀ (d i : Nat), i + d = l.length → Evp fun k => laws_eqLayerS.l0 k l l (i : Int) = some true
  | 0, i, hi => evSuc (evAll fun k => by
    simp only [laws_eqLayerS.l0]
    rw [if_neg (by omega)])
  | d + 1, i, hi => by
    have hlt : i < l.length := by omega
    have hb := h.1
    have hx := h.2 l[i] (List.getElem_mem hlt)
    refine evSuc (evMono (evAnd (laws_eqLayer_self l[i].f0 l[i].f1 l[i].f2 l[i].f3 l[i].f4 l[i].f5 l[i].f6 l[i].f7 l[i].f8 hx.1 hx.2) (laws_eqLayerS_l0 l h d (i + 1) (by omega))) fun k ⟨e, ih⟩ => ?_)
    simp only [laws_eqLayerS.l0]
    rw [if_pos (by omega), if_pos (by omega), if_pos (by omega), rdImp_eq hlt]
    refine bind_of e (ite_yes rfl ?_)
    rw [w64' (by omega) (by omega)]
    exact ih
theorem laws_eqLayerS_self (l : List S49) (h : smallI l) : Evp fun k => laws_eqLayerS.f k l l = some true :=
  evMono (laws_eqLayerS_l0 l h l.length 0 (by omega)) fun k e => ite_yes rfl e


theorem laws_eqModel_self (h w c : Int) (l : List S49) (hl : smallI l) : Evp fun k => laws_eqModel.f k h w c l h w c l = some true :=
  evMono (laws_eqLayerS_self l hl) fun k e => bind_of (laws_eqShape_self h w c) (ite_yes rfl (bind_of e (ite_yes rfl rfl)))


theorem and_of {b c : Bool} {x y : Option Bool} (hx : b = true → x = some c) (hy : y = some false) : (if b = true then x else y) = some (b && c) := by
  cases b with
  | true => rw [if_pos rfl, hx rfl]; simp
  | false => rw [if_neg (by simp), hy]; simp
theorem and_ofP {P : Prop} [Decidable P] {c : Bool} {x y : Option Bool} (hx : P → x = some c) (hy : y = some false) : (if P then x else y) = some (decide P && c) := by
  by_cases h : P
  · rw [if_pos h, hx h]; simp [h]
  · rw [if_neg h, hy]; simp [h]
def rng (x lo hi : Int) : Bool := decide (lo ≤ x ∧ x ≤ hi)
theorem rng_iff {x lo hi : Int} : rng x lo hi = true ↔ lo ≤ x ∧ x ≤ hi := by simp [rng]
def biasB (l : List Int) : Bool := l.all fun x => rng x (-1000000) 1000000
def scaledB (ou mu sh ze : Int) (W B : List Int) (n : Int) : Bool :=
  rng ou 1 8 && (rng mu 0 2147483647 && (rng sh 0 31 && (rng ze (-128) 127 && (decide ((W.length : Int) = ou * n) && (itemsB W && (decide ((B.length : Int) = ou) && biasB B))))))
def bareB (ou mu sh : Int) (W B : List Int) : Bool := decide (ou = 0) && (decide (mu = 0) && (decide (sh = 0) && (decide ((W.length : Int) = 0) && decide ((B.length : Int) = 0))))
def noneB (sz st : Int) : Bool := decide (sz = 0) && decide (st = 0)
def windB (sz st h w : Int) : Bool := (rng sz 1 3 && (decide (sz ≤ h) && decide (sz ≤ w))) && rng st 1 2
def sh0 : Int × Int × Int × Bool := (0, 0, 0, false)
def outShape (h w c kd ou sz st mu sh ze : Int) (W B : List Int) : Int × Int × Int × Bool :=
  if shapeOk h w c = true then
    if kd = 0 then if h * w * c ≤ 64 ∧ noneB sz st = true ∧ scaledB ou mu sh ze W B (h * w * c) = true then (1, 1, ou, true) else sh0
    else if kd = 1 then if windB sz st h w = true ∧ (W.length : Int) ≤ 600 ∧ scaledB ou mu sh ze W B (sz * sz * c) = true then ((h - sz) / st + 1, (w - sz) / st + 1, ou, true) else sh0
    else if kd = 2 ∨ kd = 3 then if windB sz st h w = true ∧ bareB ou mu sh W B = true ∧ ze = 0 then ((h - sz) / st + 1, (w - sz) / st + 1, c, true) else sh0
    else if kd = 4 then if noneB sz st = true ∧ bareB ou mu sh W B = true ∧ rng ze (-128) 127 = true then (h, w, c, true) else sh0
    else if kd = 5 then if noneB sz st = true ∧ bareB ou mu sh W B = true ∧ ze = 0 ∧ h * w * c ≤ 8 then (1, 1, h * w * c, true) else sh0
    else sh0
  else sh0
theorem scaledB_iff {ou mu sh ze : Int} {W B : List Int} {n : Int} : scaledB ou mu sh ze W B n = true ↔ (1 ≤ ou ∧ ou ≤ 8) ∧ (0 ≤ mu ∧ mu ≤ 2147483647) ∧ (0 ≤ sh ∧ sh ≤ 31) ∧ (-128 ≤ ze ∧ ze ≤ 127) ∧ (W.length : Int) = ou * n ∧ itemsB W = true ∧ (B.length : Int) = ou ∧ biasB B = true := by
  simp only [scaledB, Bool.and_eq_true, rng_iff, decide_eq_true_eq]
theorem windB_iff {sz st h w : Int} : windB sz st h w = true ↔ ((1 ≤ sz ∧ sz ≤ 3) ∧ sz ≤ h ∧ sz ≤ w) ∧ 1 ≤ st ∧ st ≤ 2 := by
  simp only [windB, Bool.and_eq_true, rng_iff, decide_eq_true_eq]
theorem shape_dims {h w c : Int} (hs : shapeOk h w c = true) : (1 ≤ h ∧ h ≤ 8) ∧ (1 ≤ w ∧ w ≤ 8) ∧ (1 ≤ c ∧ c ≤ 8) := by
  simpa [shapeOk] using hs
theorem win_dims {h sz st : Int} (h1 : h ≤ 8) (h2 : 1 ≤ sz) (h3 : sz ≤ h) (h4 : 1 ≤ st) : wrap64 ((wrap64 (Int.tdiv (wrap64 (h - sz)) st)) + 1) = (h - sz) / st + 1 := by
  rw [w64' (x := h - sz) (by omega) (by omega), tdiv_pos (by omega)]
  have h5 : 0 ≤ (h - sz) / st := Int.ediv_nonneg (by omega) (by omega)
  have h6 := Int.ediv_le_self (a := h - sz) st (by omega)
  rw [w64' (x := (h - sz) / st) (by omega) (by omega), w64' (by omega) (by omega)]
theorem small_mul {a n : Int} (h1 : 1 ≤ a) (h2 : a ≤ 8) (h3 : 0 ≤ n) (h4 : n ≤ 4096) : wrap64 (a * n) = a * n := by
  have := bnd_mul (a := a) (b := n) (A := 8) (B := 4096) (by omega) (by omega) (by omega) (by omega)
  exact w64' (by omega) (by omega)
theorem area_b {sz c : Int} (h1 : 1 ≤ sz) (h2 : sz ≤ 3) (h3 : 1 ≤ c) (h4 : c ≤ 8) : 0 ≤ sz * sz * c ∧ sz * sz * c ≤ 72 ∧ 0 ≤ sz * sz ∧ sz * sz ≤ 9 := by
  have a1 := Int.mul_nonneg (show 0 ≤ sz by omega) (show 0 ≤ sz by omega)
  have a2 := bnd_mul (a := sz) (b := sz) (A := 3) (B := 3) (by omega) (by omega) (by omega) (by omega)
  have a3 := Int.mul_nonneg a1 (show 0 ≤ c by omega)
  have a4 := bnd_mul (a := sz * sz) (b := c) (A := 9) (B := 8) (by omega) (by omega) (by omega) (by omega)
  omega


def valB (kd ze : Int) : Bool := if kd = 4 then rng ze (-128) 127 else decide (ze = 0)
def plainB (kd ou sz st mu sh ze : Int) (W B : List Int) (win wei : Bool) : Bool :=
  (if win = true then rng sz 1 3 && rng st 1 2 else noneB sz st) &&
  (if wei = true then rng ou 1 8 && (rng mu 0 2147483647 && (rng sh 0 31 && (rng ze (-128) 127 && (decide ((B.length : Int) = ou) && (biasB B && itemsB W))))) else bareB ou mu sh W B && valB kd ze)
theorem spec_l03Plain_l1 (kd ou sz st mu sh ze : Int) (W B : List Int) (hW : (W.length : Int) ≤ 9223372036854775807) : ∀ (d i : Nat), i + d = W.length → Evp fun k => spec_l03Plain.l1 k (i : Int) kd ou sz st mu sh ze W B = some ((W.drop i).all item8)
  | 0, i, hi => evSuc (evAll fun k => by
    simp only [spec_l03Plain.l1]
    rw [if_neg (by omega), List.drop_eq_nil_of_le (by omega)]
    rfl)
  | d + 1, i, hi => by
    have hlt : i < W.length := by omega
    refine evSuc (evMono (spec_l03Plain_l1 kd ou sz st mu sh ze W B hW d (i + 1) (by omega)) fun k ih => ?_)
    simp only [spec_l03Plain.l1]
    rw [if_pos (by omega), if_pos (by omega), rd_eq hlt, all_at hlt]
    refine bind_of (spec_l02Int8_eq _) (and_of (fun _ => ?_) rfl)
    rw [w64' (by omega) (by omega)]
    exact ih
theorem spec_l03Plain_l0 (kd ou sz st mu sh ze : Int) (W B : List Int) (hW : (W.length : Int) ≤ 9223372036854775807) (hB : (B.length : Int) ≤ 9223372036854775807) : ∀ (d i : Nat), i + d = B.length → Evp fun k => spec_l03Plain.l0 k (i : Int) kd ou sz st mu sh ze W B = some ((B.drop i).all (fun x => rng x (-1000000) 1000000) && itemsB W)
  | 0, i, hi => evSuc (evMono (spec_l03Plain_l1 kd ou sz st mu sh ze W B hW W.length 0 (by omega)) fun k e => by
    simp only [spec_l03Plain.l0]
    rw [if_neg (by omega), List.drop_eq_nil_of_le (by omega)]
    simpa [itemsB] using e)
  | d + 1, i, hi => by
    have hlt : i < B.length := by omega
    refine evSuc (evMono (spec_l03Plain_l0 kd ou sz st mu sh ze W B hW hB d (i + 1) (by omega)) fun k ih => ?_)
    simp only [spec_l03Plain.l0]
    rw [if_pos (by omega), if_pos (by omega), rd_eq hlt, all_at hlt, Bool.and_assoc]
    refine bind_of (spec_l01In_eq _ _ _) (and_of (fun _ => ?_) rfl)
    rw [w64' (by omega) (by omega)]
    exact ih
theorem spec_l03Plain_ev (kd ou sz st mu sh ze : Int) (W B : List Int) (win wei : Bool) (hW : (W.length : Int) ≤ 9223372036854775807) (hB : (B.length : Int) ≤ 9223372036854775807) : Evp fun k => spec_l03Plain.f k kd ou sz st mu sh ze W B win wei = some (plainB kd ou sz st mu sh ze W B win wei) := by
  have j1t : Evp fun k => spec_l03Plain.j1 k true kd ou sz st mu sh ze W B = some false := evSuc (evAll fun k => by
    simp only [spec_l03Plain.j1]
    exact ite_yes trivial rfl)
  have j4t : Evp fun k => spec_l03Plain.j4 k true kd ou sz st mu sh ze W B = some false := evSuc (evAll fun k => by
    simp only [spec_l03Plain.j4]
    exact ite_yes trivial rfl)
  have j1f : Evp fun k => spec_l03Plain.j1 k false kd ou sz st mu sh ze W B = some (biasB B && itemsB W) := evSuc (evMono (spec_l03Plain_l0 kd ou sz st mu sh ze W B hW hB B.length 0 (by omega)) fun k e => by
    simp only [spec_l03Plain.j1]
    refine ite_no (by simp) ?_
    rw [List.drop_zero] at e
    exact e)
  have j4f : Evp fun k => spec_l03Plain.j4 k false kd ou sz st mu sh ze W B = some (valB kd ze) := evSuc (evAll fun k => by
    simp only [spec_l03Plain.j4]
    refine ite_no (by simp) ?_
    unfold valB
    by_cases h4 : kd = 4
    · rw [if_pos h4, if_pos h4]
      exact bind_of (spec_l02Int8_eq _) rfl
    · rw [if_neg h4, if_neg h4]
      by_cases hz : ze = 0 <;> simp [hz])
  have j0 : Evp fun k => spec_l03Plain.j0 k wei kd ou sz st mu sh ze W B = some (if wei = true then rng ou 1 8 && (rng mu 0 2147483647 && (rng sh 0 31 && (rng ze (-128) 127 && (decide ((B.length : Int) = ou) && (biasB B && itemsB W))))) else bareB ou mu sh W B && valB kd ze) := evSuc (evMono (evAnd j1t (evAnd j1f (evAnd j4t j4f))) fun k ⟨a1, a2, a3, a4⟩ => by
    simp only [spec_l03Plain.j0]
    cases wei with
    | true =>
      rw [if_pos rfl, if_pos rfl]
      refine bind_of (spec_l01In_eq _ _ _) (and_of (fun _ => bind_of (spec_l01In_eq _ _ _) (and_of (fun _ => bind_of (spec_l01In_eq _ _ _) (and_of (fun _ => bind_of (spec_l02Int8_eq _) (and_of (fun _ => ?_) a1)) a1)) a1)) a1)
      by_cases hb : (B.length : Int) = ou
      · rw [show ((B.length : Int) != ou) = false by simp [hb], a2, decide_eq_true hb]
        rfl
      · rw [show ((B.length : Int) != ou) = true by simp [hb], a1, decide_eq_false hb]
        rfl
    | false =>
      rw [if_neg Bool.false_ne_true, if_neg Bool.false_ne_true]
      unfold bareB
      rw [Bool.and_assoc, Bool.and_assoc, Bool.and_assoc]
      refine and_ofP (fun _ => and_ofP (fun _ => and_ofP (fun _ => ?_) a3) a3) a3
      by_cases hw : (W.length : Int) > 0
      · rw [if_pos hw, a3, decide_eq_false (show ¬ (W.length : Int) = 0 by omega)]
        rfl
      · rw [if_neg hw, decide_eq_true (show (W.length : Int) = 0 by omega)]
        by_cases hb : (B.length : Int) > 0
        · rw [decide_eq_true hb, a3, decide_eq_false (show ¬ (B.length : Int) = 0 by omega)]
          rfl
        · rw [decide_eq_false hb, a4, decide_eq_true (show (B.length : Int) = 0 by omega)]
          rfl)
  refine evMono j0 fun k e => ?_
  unfold plainB spec_l03Plain.f
  cases win with
  | true =>
    rw [if_pos rfl, if_pos rfl, Bool.and_assoc]
    exact bind_of (spec_l01In_eq _ _ _) (and_of (fun _ => bind_of (spec_l01In_eq _ _ _) (and_of (fun _ => e) rfl)) rfl)
  | false =>
    rw [if_neg Bool.false_ne_true, if_neg Bool.false_ne_true]
    unfold noneB
    rw [Bool.and_assoc]
    exact and_ofP (fun _ => and_ofP (fun _ => e) rfl) rfl


theorem spec_OutShape_ev (h w c kd ou sz st mu sh ze : Int) (W B : List Int) (hW : (W.length : Int) ≤ 9223372036854775807) (hB : (B.length : Int) ≤ 9223372036854775807) : Evp fun k => spec_OutShape.f k h w c kd ou sz st mu sh ze W B = some (outShape h w c kd ou sz st mu sh ze W B) := by
  have j0t : Evp fun k => spec_OutShape.j0 k true h w c kd ou sz st mu sh ze W B 0 0 0 = some sh0 := evSuc (evAll fun k => by
    simp only [spec_OutShape.j0]
    exact ite_yes trivial rfl)
  by_cases hs : shapeOk h w c = true
  case neg =>
    refine evMono j0t fun k e => ?_
    unfold outShape
    rw [if_neg hs]
    exact bind_of (spec_ShapeOk_eq h w c) (ite_no hs e)
  by_cases hk : 0 ≤ kd ∧ kd ≤ 5
  case neg =>
    refine evMono j0t fun k e => ?_
    unfold outShape
    rw [if_pos hs, if_neg (by omega), if_neg (by omega), if_neg (by omega), if_neg (by omega), if_neg (by omega)]
    refine bind_of (spec_ShapeOk_eq h w c) (ite_yes hs (bind_of (spec_l01In_eq _ _ _) ?_))
    rw [decide_eq_false hk]
    exact e
  obtain ⟨dh, dw, dc⟩ := shape_dims hs
  have hsz := size_b hs
  have eS : spec_SizeOf.f h w c = some (h * w * c) := by
    rw [spec_SizeOf_eq]
    unfold sizeOf
    rw [if_pos hs]
  have pl := spec_l03Plain_ev kd ou sz st mu sh ze W B (rng kd 1 3) (decide (kd ≤ 1)) hW hB
  refine evMono (evSuc (p := fun k => spec_OutShape.j0 k false h w c kd ou sz st mu sh ze W B 0 0 0 = some (outShape h w c kd ou sz st mu sh ze W B)) (evMono (evAnd pl (evSuc (p := fun k => ∀ x y z, spec_OutShape.j1 k h w c kd ou sz st mu sh ze W B 0 0 0 x y z = (if kd = 0 then (if h * w * c > 64 then some sh0 else if (W.length : Int) = wrap64 (ou * (h * w * c)) then some (1, 1, ou, true) else some sh0) else if kd = 1 then (if (W.length : Int) = wrap64 (wrap64 (wrap64 (ou * sz) * sz) * c) then (if (W.length : Int) > 600 then some sh0 else some (x, y, ou, true)) else some sh0) else if kd = 5 then (if h * w * c > 8 then some sh0 else some (1, 1, h * w * c, true)) else some (x, y, z, true))) (evAll fun k x y z => ?_))) fun k ⟨e, j1⟩ => ?_)) fun k e => ?_
  · simp only [spec_OutShape.j1]
    rw [eS]
    simp only [Option.bind_some]
    rfl
  · simp only [spec_OutShape.j0]
    refine ite_no (by simp) (bind_of (spec_l01In_eq _ _ _) (bind_of e ?_))
    unfold outShape
    rw [if_pos hs]
    show (if plainB kd ou sz st mu sh ze W B (rng kd 1 3) (decide (kd ≤ 1)) = true then (if rng kd 1 3 = true then _ else _) else _) = _
    rcases (by omega : kd = 0 ∨ kd = 1 ∨ (kd = 2 ∨ kd = 3) ∨ kd = 4 ∨ kd = 5) with rfl | rfl | k23 | rfl | rfl
    · rw [show rng 0 1 3 = false from rfl, show decide ((0 : Int) ≤ 1) = true from rfl, if_pos (rfl : (0 : Int) = 0)]
      by_cases hp : plainB 0 ou sz st mu sh ze W B false true = true
      · rw [if_pos hp, if_neg Bool.false_ne_true, j1, if_pos (rfl : (0 : Int) = 0)]
        simp only [plainB, Bool.and_eq_true, rng_iff, decide_eq_true_eq, if_true, Bool.false_eq_true, if_false] at hp
        obtain ⟨p1, p2, p3, p4, p5, p6, p7, p8⟩ := hp
        rw [small_mul (by omega) (by omega) (by omega) (by omega)]
        by_cases c1 : h * w * c > 64
        · rw [if_pos c1, if_neg (fun z => by omega)]
        · rw [if_neg c1]
          by_cases c2 : (W.length : Int) = ou * (h * w * c)
          · rw [if_pos c2, if_pos ⟨by omega, p1, scaledB_iff.2 ⟨p2, p3, p4, p5, c2, p8, p6, p7⟩⟩]
          · rw [if_neg c2, if_neg (fun z => c2 (scaledB_iff.1 z.2.2).2.2.2.2.1)]
      · rw [if_neg hp, if_neg (fun z => hp ?_)]
        · rfl
        · obtain ⟨q1, q2, q3, q4, q5, q6, q7, q8⟩ := scaledB_iff.1 z.2.2
          simp only [plainB, Bool.and_eq_true, rng_iff, decide_eq_true_eq, if_true, Bool.false_eq_true, if_false]
          exact ⟨z.2.1, q1, q2, q3, q4, q7, q8, q6⟩
    · rw [show rng 1 1 3 = true from rfl, show decide ((1 : Int) ≤ 1) = true from rfl, if_neg (show ¬ (1 : Int) = 0 by decide), if_pos (rfl : (1 : Int) = 1)]
      by_cases hp : plainB 1 ou sz st mu sh ze W B true true = true
      · rw [if_pos hp, if_pos rfl]
        simp only [plainB, Bool.and_eq_true, rng_iff, decide_eq_true_eq, if_true] at hp
        obtain ⟨⟨p0, p1⟩, p2, p3, p4, p5, p6, p7, p8⟩ := hp
        have ar := area_b p0.1 p0.2 dc.1 dc.2
        by_cases c1 : sz > h
        · rw [if_pos c1, if_neg (fun z => by have := windB_iff.1 z.1; omega)]
          rfl
        rw [if_neg c1]
        by_cases c2 : sz > w
        · rw [if_pos c2, if_neg (fun z => by have := windB_iff.1 z.1; omega)]
          rfl
        rw [if_neg c2, if_neg (show ¬ st = 0 by omega), j1, if_neg (show ¬ (1 : Int) = 0 by decide), if_pos (rfl : (1 : Int) = 1), win_dims (by omega) (by omega) (by omega) (by omega), win_dims (by omega) (by omega) (by omega) (by omega)]
        have e3 : wrap64 (wrap64 (wrap64 (ou * sz) * sz) * c) = ou * (sz * sz * c) := by
          have b1 := bnd_mul (a := ou) (b := sz) (A := 8) (B := 3) (by omega) (by omega) (by omega) (by omega)
          have b2 := bnd_mul (a := ou * sz) (b := sz) (A := 24) (B := 3) (by omega) (by omega) (by omega) (by omega)
          have b3 := bnd_mul (a := ou * sz * sz) (b := c) (A := 72) (B := 8) (by omega) (by omega) (by omega) (by omega)
          rw [w64' (x := ou * sz) (by omega) (by omega), w64' (x := ou * sz * sz) (by omega) (by omega), w64' (by omega) (by omega)]
          ac_rfl
        rw [e3]
        by_cases c3 : (W.length : Int) = ou * (sz * sz * c)
        · rw [if_pos c3]
          by_cases c4 : (W.length : Int) > 600
          · rw [if_pos c4, if_neg (fun z => by omega)]
          · rw [if_neg c4, if_pos ⟨windB_iff.2 ⟨⟨p0, by omega, by omega⟩, p1⟩, by omega, scaledB_iff.2 ⟨p2, p3, p4, p5, c3, p8, p6, p7⟩⟩]
        · rw [if_neg c3, if_neg (fun z => c3 (scaledB_iff.1 z.2.2).2.2.2.2.1)]
      · rw [if_neg hp, if_neg (fun z => hp ?_)]
        · rfl
        · obtain ⟨q1, q2, q3, q4, q5, q6, q7, q8⟩ := scaledB_iff.1 z.2.2
          obtain ⟨⟨w1, w2, w3⟩, w4⟩ := windB_iff.1 z.1
          simp only [plainB, Bool.and_eq_true, rng_iff, decide_eq_true_eq, if_true]
          exact ⟨⟨w1, w4⟩, q1, q2, q3, q4, q7, q8, q6⟩
    · have hr : rng kd 1 3 = true := rng_iff.2 (by omega)
      have hd : decide (kd ≤ 1) = false := decide_eq_false (by omega)
      have hv : valB kd ze = decide (ze = 0) := by unfold valB; rw [if_neg (by omega)]
      rw [hr, hd, if_neg (show ¬ kd = 0 by omega), if_neg (show ¬ kd = 1 by omega), if_pos k23]
      by_cases hp : plainB kd ou sz st mu sh ze W B true false = true
      · rw [if_pos hp, if_pos rfl]
        simp only [plainB, Bool.and_eq_true, rng_iff, decide_eq_true_eq, if_true, Bool.false_eq_true, if_false, hv] at hp
        obtain ⟨⟨p0, p1⟩, p2, p3⟩ := hp
        by_cases c1 : sz > h
        · rw [if_pos c1, if_neg (fun z => by have := windB_iff.1 z.1; omega)]
          rfl
        rw [if_neg c1]
        by_cases c2 : sz > w
        · rw [if_pos c2, if_neg (fun z => by have := windB_iff.1 z.1; omega)]
          rfl
        rw [if_neg c2, if_neg (show ¬ st = 0 by omega), j1, if_neg (show ¬ kd = 0 by omega), if_neg (show ¬ kd = 1 by omega), if_neg (show ¬ kd = 5 by omega), win_dims (by omega) (by omega) (by omega) (by omega), win_dims (by omega) (by omega) (by omega) (by omega), if_pos ⟨windB_iff.2 ⟨⟨p0, by omega, by omega⟩, p1⟩, p2, p3⟩]
      · rw [if_neg hp, if_neg (fun z => hp ?_)]
        · rfl
        · obtain ⟨⟨w1, w2, w3⟩, w4⟩ := windB_iff.1 z.1
          simp only [plainB, Bool.and_eq_true, rng_iff, decide_eq_true_eq, if_true, Bool.false_eq_true, if_false, hv]
          exact ⟨⟨w1, w4⟩, z.2.1, z.2.2⟩
    · rw [show rng 4 1 3 = false from rfl, show decide ((4 : Int) ≤ 1) = false from rfl, if_neg (show ¬ (4 : Int) = 0 by decide), if_neg (show ¬ (4 : Int) = 1 by decide), if_neg (show ¬ ((4 : Int) = 2 ∨ (4 : Int) = 3) by decide), if_pos (rfl : (4 : Int) = 4)]
      by_cases hp : plainB 4 ou sz st mu sh ze W B false false = true
      · rw [if_pos hp, if_neg Bool.false_ne_true, j1, if_neg (show ¬ (4 : Int) = 0 by decide), if_neg (show ¬ (4 : Int) = 1 by decide), if_neg (show ¬ (4 : Int) = 5 by decide)]
        simp only [plainB, Bool.and_eq_true, Bool.false_eq_true, if_false] at hp
        rw [if_pos ⟨hp.1, hp.2.1, hp.2.2⟩]
      · rw [if_neg hp, if_neg (fun z => hp ?_)]
        · rfl
        · simp only [plainB, Bool.and_eq_true, Bool.false_eq_true, if_false]
          exact ⟨z.1, z.2.1, z.2.2⟩
    · rw [show rng 5 1 3 = false from rfl, show decide ((5 : Int) ≤ 1) = false from rfl, if_neg (show ¬ (5 : Int) = 0 by decide), if_neg (show ¬ (5 : Int) = 1 by decide), if_neg (show ¬ ((5 : Int) = 2 ∨ (5 : Int) = 3) by decide), if_neg (show ¬ (5 : Int) = 4 by decide), if_pos (rfl : (5 : Int) = 5)]
      have hv : valB 5 ze = decide (ze = 0) := rfl
      by_cases hp : plainB 5 ou sz st mu sh ze W B false false = true
      · rw [if_pos hp, if_neg Bool.false_ne_true, j1, if_neg (show ¬ (5 : Int) = 0 by decide), if_neg (show ¬ (5 : Int) = 1 by decide), if_pos (rfl : (5 : Int) = 5)]
        simp only [plainB, Bool.and_eq_true, Bool.false_eq_true, if_false, hv, decide_eq_true_eq] at hp
        by_cases c1 : h * w * c > 8
        · rw [if_pos c1, if_neg (fun z => by omega)]
        · rw [if_neg c1, if_pos ⟨hp.1, hp.2.1, hp.2.2, by omega⟩]
      · rw [if_neg hp, if_neg (fun z => hp ?_)]
        · rfl
        · simp only [plainB, Bool.and_eq_true, Bool.false_eq_true, if_false, hv, decide_eq_true_eq]
          exact ⟨z.1, z.2.1, z.2.2.1⟩
  · refine bind_of (spec_ShapeOk_eq h w c) (ite_yes hs (bind_of (spec_l01In_eq _ _ _) ?_))
    rw [decide_eq_true hk]
    exact e


theorem impl_Layer_isScaled_1_eq (x : Int) : impl_Layer_isScaled_1.f x = some (!rng x (-1000000) 1000000) := by
  unfold impl_Layer_isScaled_1.f
  rw [impl_in_eq]
  rfl


theorem indexBias_l0 (l : List Int) (hl : l.length ≤ 9223372036854775807) : ∀ (d i : Nat), i + d = l.length → ∃ r, (Evp fun k => slices_IndexFunc_int_int_impl_Layer_isScaled_1.l0 k l (l.length : Int) (i : Int) = some r) ∧ (decide (r ≥ 0) = !(l.drop i).all fun x => rng x (-1000000) 1000000)
  | 0, i, hi => ⟨-1, evSuc (evAll fun k => by
    simp only [slices_IndexFunc_int_int_impl_Layer_isScaled_1.l0]
    rw [if_neg (by omega)]), by rw [List.drop_eq_nil_of_le (by omega)]; rfl⟩
  | d + 1, i, hi => by
    have hlt : i < l.length := by omega
    rw [all_at hlt]
    cases hx : rng l[i] (-1000000) 1000000 with
    | true =>
      obtain ⟨r, h1, h2⟩ := indexBias_l0 l hl d (i + 1) (by omega)
      refine ⟨r, evSuc (evMono h1 fun k ih => ?_), by simpa using h2⟩
      simp only [slices_IndexFunc_int_int_impl_Layer_isScaled_1.l0]
      rw [if_pos (by omega), if_pos (by omega), if_pos (by omega), rd_eq hlt, impl_Layer_isScaled_1_eq, hx]
      simp only [Option.bind_some]
      rw [if_neg (by simp), w64' (by omega) (by omega)]
      exact ih
    | false =>
      refine ⟨(i : Int), evSuc (evAll fun k => ?_), by simp⟩
      simp only [slices_IndexFunc_int_int_impl_Layer_isScaled_1.l0]
      rw [if_pos (by omega), if_pos (by omega), if_pos (by omega), rd_eq hlt, impl_Layer_isScaled_1_eq, hx]
      simp


theorem impl_Layer_isScaled_ev (kd ou sz st mu sh ze : Int) (W B : List Int) (n : Int) (hW : (W.length : Int) ≤ 9223372036854775807) (hB : (B.length : Int) ≤ 9223372036854775807) (hn : 0 ≤ n ∧ n ≤ 4096) : Evp fun k => impl_Layer_isScaled.f k kd ou sz st mu sh ze W B n = some (scaledB ou mu sh ze W B n) := by
  obtain ⟨r, h1, h2⟩ := indexBias_l0 B (by omega) B.length 0 (by omega)
  refine evMono (evAnd (impl_areItems_ev W (by omega)) h1) fun k ⟨e1, e2⟩ => ?_
  have e3 : slices_ContainsFunc_int_int_impl_Layer_isScaled_1.f k B = some (!biasB B) := bind_of (f := fun t => some (decide (t ≥ 0))) e2 (by rw [h2]; rfl)
  unfold scaledB
  refine bind_of (impl_in_eq _ _ _) (and_of (fun z => bind_of (impl_in_eq _ _ _) (and_of (fun _ => bind_of (impl_in_eq _ _ _) (and_of (fun _ => bind_of (impl_in_eq _ _ _) (and_of (fun _ => ?_) rfl)) rfl)) rfl)) rfl)
  have z' : 1 ≤ ou ∧ ou ≤ 8 := of_decide_eq_true z
  rw [small_mul z'.1 z'.2 hn.1 hn.2]
  exact and_ofP (fun _ => bind_of e1 (and_of (fun _ => and_ofP (fun _ => bind_of e3 (by simp)) rfl) rfl)) rfl


theorem impl_Layer_isWindow_eq (kd ou sz st mu sh ze : Int) (W B : List Int) (h w c : Int) : impl_Layer_isWindow.f kd ou sz st mu sh ze W B h w c = some (windB sz st h w) := by
  refine bind_of (impl_in_eq _ _ _) ?_
  have e : decide (1 ≤ sz ∧ sz ≤ mn (mn 3 h) w) = (rng sz 1 3 && (decide (sz ≤ h) && decide (sz ≤ w))) := by
    rw [Bool.eq_iff_iff]
    simp only [rng, Bool.and_eq_true, decide_eq_true_eq]
    unfold mn
    repeat' split
    all_goals omega
  rw [e]
  exact and_of (fun _ => bind_of (impl_in_eq _ _ _) rfl) rfl
theorem impl_Layer_isBare_eq (kd ou sz st mu sh ze : Int) (W B : List Int) : impl_Layer_isBare.f kd ou sz st mu sh ze W B = some (bareB ou mu sh W B) :=
  and_ofP (fun _ => and_ofP (fun _ => and_ofP (fun _ => and_ofP (fun _ => rfl) rfl) rfl) rfl) rfl
theorem impl_Layer_hasNone_eq (kd ou sz st mu sh ze : Int) (W B : List Int) : impl_Layer_hasNone.f kd ou sz st mu sh ze W B = some (noneB sz st) :=
  and_ofP (fun _ => rfl) rfl
theorem impl_Layer_windows_eq (kd ou sz st mu sh ze : Int) (W B : List Int) (h w c x : Int) (h1 : h ≤ 8) (w1 : w ≤ 8) (hw : windB sz st h w = true) : impl_Layer_windows.f kd ou sz st mu sh ze W B h w c x = some ((h - sz) / st + 1, (w - sz) / st + 1, x) := by
  obtain ⟨⟨z1, z2, z3⟩, z4⟩ := windB_iff.1 hw
  refine ite_no (by omega) ?_
  rw [win_dims (by omega) (by omega) (by omega) (by omega), win_dims (by omega) (by omega) (by omega) (by omega)]
theorem ite3 {α : Type} {A B C : Prop} [Decidable A] [Decidable B] [Decidable C] {x y : α} : (if A ∧ B ∧ C then x else y) = (if A then (if B then (if C then x else y) else y) else y) := by
  by_cases a : A <;> by_cases b : B <;> by_cases c : C <;> simp [a, b, c]
theorem ite2 {α : Type} {A B : Prop} [Decidable A] [Decidable B] {x y : α} : (if A ∧ B then x else y) = (if A then (if B then x else y) else y) := by
  by_cases a : A <;> by_cases b : B <;> simp [a, b]
theorem ite_some {β : Type} {P : Prop} [Decidable P] {x y : Option β} {a b : β} (hx : P → x = some a) (hy : ¬ P → y = some b) : (if P then x else y) = some (if P then a else b) := by
  by_cases h : P
  · rw [if_pos h, if_pos h, hx h]
  · rw [if_neg h, if_neg h, hy h]
theorem impl_OutShape_ev (h w c kd ou sz st mu sh ze : Int) (W B : List Int) (hW : (W.length : Int) ≤ 9223372036854775807) (hB : (B.length : Int) ≤ 9223372036854775807) : Evp fun k => impl_OutShape.f k h w c kd ou sz st mu sh ze W B = some (outShape h w c kd ou sz st mu sh ze W B) := by
  by_cases hs : shapeOk h w c = true
  case neg =>
    refine evAll fun k => ?_
    unfold outShape
    rw [if_neg hs]
    exact bind_of (impl_ShapeOk_eq h w c) (ite_no hs rfl)
  obtain ⟨dh, dw, dc⟩ := shape_dims hs
  have hsz := size_b hs
  have eS : impl_SizeOf.f h w c = some (h * w * c) := by
    rw [impl_SizeOf_eq]
    unfold sizeOf
    rw [if_pos hs]
  unfold outShape
  rw [if_pos hs]
  by_cases k0 : kd = 0
  · rw [if_pos k0, ite3]
    exact evMono (impl_Layer_isScaled_ev kd ou sz st mu sh ze W B (h * w * c) hW hB (by omega)) fun k e => bind_of (impl_ShapeOk_eq h w c) (ite_yes hs (bind_of eS (ite_yes k0 (ite_some (fun _ => bind_of (impl_Layer_hasNone_eq _ _ _ _ _ _ _ _ _) (ite_some (fun _ => bind_of e (ite_some (fun _ => rfl) fun _ => rfl)) fun _ => rfl)) fun _ => rfl))))
  rw [if_neg k0]
  by_cases k1 : kd = 1
  · rw [if_pos k1]
    by_cases c1 : windB sz st h w = true
    · obtain ⟨⟨z1, z2, z3⟩, z4⟩ := windB_iff.1 c1
      have ar := area_b z1.1 z1.2 dc.1 dc.2
      rw [ite3, if_pos c1]
      refine evMono (impl_Layer_isScaled_ev kd ou sz st mu sh ze W B (sz * sz * c) hW hB (by omega)) fun k e => bind_of (impl_ShapeOk_eq h w c) (ite_yes hs (bind_of eS (ite_no k0 (ite_yes k1 (bind_of (impl_Layer_isWindow_eq _ _ _ _ _ _ _ _ _ _ _ _) (ite_yes c1 (ite_some (fun c2 => ?_) fun _ => rfl)))))))
      rw [show wrap64 ((wrap64 (sz * sz)) * c) = sz * sz * c by rw [w64' (x := sz * sz) (by omega) (by omega), w64' (by omega) (by omega)]]
      exact bind_of e (ite_some (fun c3 => bind_of (impl_Layer_windows_eq kd ou sz st mu sh ze W B h w c ou (by omega) (by omega) c1) rfl) fun _ => rfl)
    · refine evAll fun k => bind_of (impl_ShapeOk_eq h w c) (ite_yes hs (bind_of eS (ite_no k0 (ite_yes k1 (bind_of (impl_Layer_isWindow_eq _ _ _ _ _ _ _ _ _ _ _ _) (ite_no c1 ?_))))))
      rw [if_neg (fun z => c1 z.1)]
      rfl
  rw [if_neg k1]
  have jt : Evp fun k => impl_OutShape.j0 k (h * w * c) kd true h w c kd ou sz st mu sh ze W B = some (if windB sz st h w = true ∧ bareB ou mu sh W B = true ∧ ze = 0 then ((h - sz) / st + 1, (w - sz) / st + 1, c, true) else sh0) := evSuc (evAll fun k => by
    rw [ite3]
    simp only [impl_OutShape.j0]
    exact ite_yes trivial (bind_of (impl_Layer_isWindow_eq _ _ _ _ _ _ _ _ _ _ _ _) (ite_some (fun c1 => bind_of (impl_Layer_isBare_eq _ _ _ _ _ _ _ _ _) (ite_some (fun c2 => ite_some (fun c3 => bind_of (impl_Layer_windows_eq kd ou sz st mu sh ze W B h w c c (by omega) (by omega) c1) rfl) fun _ => rfl) fun _ => rfl)) fun _ => rfl)))
  by_cases k2 : kd = 2
  · rw [if_pos (Or.inl k2)]
    refine evMono jt fun k e => bind_of (impl_ShapeOk_eq h w c) (ite_yes hs (bind_of eS (ite_no k0 (ite_no k1 (ite_yes k2 ?_)))))
    rw [show (kd == 2) = true by simp [k2]]
    exact e
  by_cases k3 : kd = 3
  · rw [if_pos (Or.inr k3)]
    refine evMono jt fun k e => bind_of (impl_ShapeOk_eq h w c) (ite_yes hs (bind_of eS (ite_no k0 (ite_no k1 (ite_no k2 ?_)))))
    rw [show (kd == 3) = true by simp [k3]]
    exact e
  rw [if_neg (show ¬ (kd = 2 ∨ kd = 3) by omega)]
  refine evMono (evSuc (p := fun k => impl_OutShape.j0 k (h * w * c) kd false h w c kd ou sz st mu sh ze W B = some (if kd = 4 then if noneB sz st = true ∧ bareB ou mu sh W B = true ∧ rng ze (-128) 127 = true then (h, w, c, true) else sh0
    else if kd = 5 then if noneB sz st = true ∧ bareB ou mu sh W B = true ∧ ze = 0 ∧ h * w * c ≤ 8 then (1, 1, h * w * c, true) else sh0
    else sh0)) (evAll fun k => ?_)) fun k e => bind_of (impl_ShapeOk_eq h w c) (ite_yes hs (bind_of eS (ite_no k0 (ite_no k1 (ite_no k2 ?_)))))
  · rw [ite3, ite3, ite2]
    simp only [impl_OutShape.j0]
    exact ite_no Bool.false_ne_true (ite_some (fun _ => bind_of (impl_Layer_hasNone_eq _ _ _ _ _ _ _ _ _) (ite_some (fun _ => bind_of (impl_Layer_isBare_eq _ _ _ _ _ _ _ _ _) (ite_some (fun _ => bind_of (impl_in_eq _ _ _) (ite_some (fun _ => rfl) fun _ => rfl)) fun _ => rfl)) fun _ => rfl)) fun _ =>
      ite_some (fun _ => bind_of (impl_Layer_hasNone_eq _ _ _ _ _ _ _ _ _) (ite_some (fun _ => bind_of (impl_Layer_isBare_eq _ _ _ _ _ _ _ _ _) (ite_some (fun _ => ite_some (fun _ => ite_some (fun _ => rfl) fun _ => rfl) fun _ => rfl) fun _ => rfl)) fun _ => rfl)) fun _ => rfl)
  · rw [show (kd == 3) = false by simp [k3]]
    exact e


theorem rdShape_eq {l : List S29} {i : Nat} (h : i < l.length) : rd_T29 l (i : Int) = l[i] := by
  unfold rd_T29
  simp [List.getD, h]
def outOf (s : S29) (x : S49) : Int × Int × Int × Bool := outShape s.f0 s.f1 s.f2 x.f0 x.f1 x.f2 x.f3 x.f4 x.f5 x.f6 x.f7 x.f8
def shapeOf (X : Int × Int × Int × Bool) : S29 := ⟨X.1, X.2.1, X.2.2.1⟩
def shapesOf (s : S29) : List S49 → Option (List S29)
  | [] => some []
  | x :: l => if (outOf s x).2.2.2 = true then (shapesOf (shapeOf (outOf s x)) l).map (shapeOf (outOf s x) :: ·) else none
def withAcc (acc : List S29) : Option (List S29) → List S29 × Bool
  | some o => (acc ++ o, true)
  | none => ([], false)
def modelShapes (s : S29) (l : List S49) : List S29 × Bool := if 1 ≤ (l.length : Int) ∧ (l.length : Int) ≤ 6 then withAcc [s] (shapesOf s l) else ([], false)
theorem withAcc_cons {acc : List S29} {t : S29} (o : Option (List S29)) : withAcc acc (o.map (t :: ·)) = withAcc (acc ++ [t]) o := by
  cases o <;> simp [withAcc]
theorem outOf_bad {s : S29} (x : S49) (h : ¬ shapeOk s.f0 s.f1 s.f2 = true) : (outOf s x).2.2.2 = false := by
  unfold outOf outShape
  rw [if_neg h]
  rfl
theorem spec_l04Shapes_l0 (h w c : Int) (l : List S49) (hl : smallI l) : ∀ (d i : Nat) (acc : List S29) (s : S29), i + d = l.length → acc.length = i → Evp fun k => spec_l04Shapes.l0 k (acc ++ [s]) (i : Int) h w c l = some (withAcc (acc ++ [s]) (shapesOf s (l.drop i)))
  | 0, i, acc, s, hi, ha => evSuc (evAll fun k => by
    simp only [spec_l04Shapes.l0]
    rw [if_neg (by omega), List.drop_eq_nil_of_le (by omega)]
    simp [shapesOf, withAcc])
  | d + 1, i, acc, s, hi, ha => by
    have hlt : i < l.length := by omega
    have hb := hl.1
    have hx := hl.2 l[i] (List.getElem_mem hlt)
    have hr : rd_T29 (acc ++ [s]) (i : Int) = s := by
      rw [rdShape_eq (by simp; omega)]
      subst ha
      simp
    rw [List.drop_eq_getElem_cons hlt]
    simp only [shapesOf]
    have e0 := spec_OutShape_ev s.f0 s.f1 s.f2 l[i].f0 l[i].f1 l[i].f2 l[i].f3 l[i].f4 l[i].f5 l[i].f6 l[i].f7 l[i].f8 (by have := hx.1; omega) (by have := hx.2; omega)
    by_cases hok : (outOf s l[i]).2.2.2 = true
    · rw [if_pos hok, withAcc_cons]
      refine evSuc (evMono (evAnd e0 (spec_l04Shapes_l0 h w c l hl d (i + 1) (acc ++ [s]) (shapeOf (outOf s l[i])) (by omega) (by simp; omega))) fun k ⟨e, ih⟩ => ?_)
      simp only [spec_l04Shapes.l0]
      rw [if_pos (by omega), if_pos (by omega), if_pos (by simp; omega), hr, rdImp_eq hlt]
      refine bind_of e (ite_yes hok (ite_yes (by simp; omega) ?_))
      rw [w64' (by omega) (by omega)]
      exact ih
    · rw [if_neg hok]
      refine evSuc (evMono e0 fun k e => ?_)
      simp only [spec_l04Shapes.l0]
      rw [if_pos (by omega), if_pos (by omega), if_pos (by simp; omega), hr, rdImp_eq hlt]
      exact bind_of e (ite_no hok rfl)
theorem spec_l04Shapes_ev (s : S29) (l : List S49) (hl : smallI l) : Evp fun k => spec_l04Shapes.f k s.f0 s.f1 s.f2 l = some (modelShapes s l) := by
  have jt : Evp fun k => spec_l04Shapes.j0 k [s] true s.f0 s.f1 s.f2 l = some ([], false) := evSuc (evAll fun k => by
    simp only [spec_l04Shapes.j0]
    exact ite_yes trivial rfl)
  have jf : Evp fun k => spec_l04Shapes.j0 k [s] false s.f0 s.f1 s.f2 l = some (withAcc [s] (shapesOf s l)) := evSuc (evMono (spec_l04Shapes_l0 s.f0 s.f1 s.f2 l hl l.length 0 [] s (by omega) rfl) fun k e => by
    simp only [spec_l04Shapes.j0]
    exact ite_no Bool.false_ne_true e)
  unfold modelShapes
  by_cases hn : 1 ≤ (l.length : Int) ∧ (l.length : Int) ≤ 6
  · rw [if_pos hn]
    by_cases hs : shapeOk s.f0 s.f1 s.f2 = true
    · refine evMono jf fun k e => bind_of (a := [s]) rfl (bind_of (spec_ShapeOk_eq _ _ _) (ite_yes hs (bind_of (spec_l01In_eq _ _ _) ?_)))
      rw [decide_eq_true hn]
      exact e
    · have e0 : shapesOf s l = none := by
        cases l with
        | nil => simp at hn
        | cons x l =>
          simp only [shapesOf]
          rw [if_neg (by rw [outOf_bad x hs]; exact Bool.false_ne_true)]
      rw [e0]
      exact evMono jt fun k e => bind_of (a := [s]) rfl (bind_of (spec_ShapeOk_eq _ _ _) (ite_no hs e))
  · rw [if_neg hn]
    by_cases hs : shapeOk s.f0 s.f1 s.f2 = true
    · refine evMono jt fun k e => bind_of (a := [s]) rfl (bind_of (spec_ShapeOk_eq _ _ _) (ite_yes hs (bind_of (spec_l01In_eq _ _ _) ?_)))
      rw [decide_eq_false hn]
      exact e
    · exact evMono jt fun k e => bind_of (a := [s]) rfl (bind_of (spec_ShapeOk_eq _ _ _) (ite_no hs e))


theorem impl_Model_shapes_l0 (l : List S49) (hl : smallI l) : ∀ (d i : Nat) (acc : List S29) (s : S29), i + d = l.length → acc.length = i + 1 → Evp fun k => impl_Model_shapes.l0 k acc l (l.length : Int) (i : Int) s.f0 s.f1 s.f2 = some (withAcc acc (shapesOf s (l.drop i)))
  | 0, i, acc, s, hi, ha => evSuc (evAll fun k => by
    simp only [impl_Model_shapes.l0]
    rw [if_neg (by omega), List.drop_eq_nil_of_le (by omega)]
    simp [shapesOf, withAcc])
  | d + 1, i, acc, s, hi, ha => by
    have hlt : i < l.length := by omega
    have hb := hl.1
    have hx := hl.2 l[i] (List.getElem_mem hlt)
    rw [List.drop_eq_getElem_cons hlt]
    simp only [shapesOf]
    have e0 := impl_OutShape_ev s.f0 s.f1 s.f2 l[i].f0 l[i].f1 l[i].f2 l[i].f3 l[i].f4 l[i].f5 l[i].f6 l[i].f7 l[i].f8 (by have := hx.1; omega) (by have := hx.2; omega)
    by_cases hok : (outOf s l[i]).2.2.2 = true
    · rw [if_pos hok, withAcc_cons]
      refine evSuc (evMono (evAnd e0 (impl_Model_shapes_l0 l hl d (i + 1) (acc ++ [shapeOf (outOf s l[i])]) (shapeOf (outOf s l[i])) (by omega) (by simp; omega))) fun k ⟨e, ih⟩ => ?_)
      simp only [impl_Model_shapes.l0]
      rw [if_pos (by omega), if_pos (by omega), if_pos (by omega), rdImp_eq hlt]
      refine bind_of e (ite_yes hok (ite_yes (by omega) ?_))
      rw [w64' (by omega) (by omega)]
      exact ih
    · rw [if_neg hok]
      refine evSuc (evMono e0 fun k e => ?_)
      simp only [impl_Model_shapes.l0]
      rw [if_pos (by omega), if_pos (by omega), if_pos (by omega), rdImp_eq hlt]
      exact bind_of e (ite_no hok rfl)
theorem impl_Model_shapes_ev (s : S29) (l : List S49) (hl : smallI l) : Evp fun k => impl_Model_shapes.f k s.f0 s.f1 s.f2 l = some (withAcc [s] (shapesOf s l)) :=
  evMono (impl_Model_shapes_l0 l hl l.length 0 [s] s (by omega) rfl) fun k e => e


theorem impl_ModelOk_ev (s : S29) (l : List S49) (hl : smallI l) : Evp fun k => impl_ModelOk.f k s.f0 s.f1 s.f2 l = some (modelShapes s l).2 := by
  unfold modelShapes
  by_cases hn : 1 ≤ (l.length : Int) ∧ (l.length : Int) ≤ 6
  · rw [if_pos hn]
    exact evMono (impl_Model_shapes_ev s l hl) fun k e => bind_of (impl_in_eq _ _ _) (ite_yes (decide_eq_true hn) (bind_of e rfl))
  · rw [if_neg hn]
    exact evAll fun k => bind_of (impl_in_eq _ _ _) (ite_no (fun z => hn (of_decide_eq_true z)) rfl)


theorem spec_ModelOk_ev (s : S29) (l : List S49) (hl : smallI l) : Evp fun k => spec_ModelOk.f k s.f0 s.f1 s.f2 l = some (modelShapes s l).2 :=
  evMono (spec_l04Shapes_ev s l hl) fun k e => bind_of e rfl


theorem ba_app (a b : List UInt8) : (⟨a.toArray⟩ : ByteArray) ++ ⟨b.toArray⟩ = ⟨(a ++ b).toArray⟩ := ByteArray.ext (by simp [ByteArray.data_append])
theorem ba_size (a : List UInt8) : (⟨a.toArray⟩ : ByteArray).size = a.length := by simp [ByteArray.size]
def dd (u : Nat) : List UInt8 := if u = 0 then [] else Lib.decDigits u
theorem dd_step {u : Nat} (h : 0 < u) : dd u = dd (u / 10) ++ [UInt8.ofNat (48 + u % 10)] := by
  unfold dd
  rw [if_neg (by omega)]
  by_cases h1 : u < 10
  · rw [if_pos (by omega), Lib.decDigits_one h1, show u % 10 = u by omega]
    rfl
  · rw [if_neg (by omega)]
    conv => lhs; rw [Lib.decDigits, dif_neg h1]
theorem num_byte {v : Int} {u : Nat} (h : v = 48 + ((u % 10 : Nat) : Int)) : strOfNums [v % 256] = ⟨[UInt8.ofNat (48 + u % 10)].toArray⟩ := by
  have e : (v % 256).toNat = 48 + u % 10 := by omega
  show (⟨[UInt8.ofNat (v % 256).toNat].toArray⟩ : ByteArray) = _
  rw [e]
theorem l01Num_l0 (neg : Bool) : ∀ (n u : Nat) (x : Int) (L : List UInt8), u < 10 ^ n → n ≤ 20 → L.length + n ≤ 1000 → x.natAbs = u → -9223372036854775808 ≤ x → x ≤ 9223372036854775807 → Evp fun k => spec_l01Num.l0 k x ⟨L.toArray⟩ neg = some ⟨((if neg then [45] else []) ++ (dd u ++ L)).toArray⟩
  | 0, u, x, L, hu, _, hL, hx, _, _ => by
    have hu0 : u = 0 := by simpa using hu
    subst hu0
    have hx0 : x = 0 := by omega
    subst hx0
    exact evSuc (evAll fun k => by
      simp only [spec_l01Num.l0]
      refine ite_yes trivial ?_
      cases neg with
      | true =>
        refine ite_yes rfl ?_
        rw [if_pos (by rw [ba_size]; omega)]
        exact congrArg some (ba_app [45] L)
      | false => exact ite_no Bool.false_ne_true rfl)
  | n + 1, u, x, L, hu, hn, hL, hx, h0, h1 => by
    by_cases hx0 : x = 0
    · subst hx0
      have hu0 : u = 0 := by simpa using hx.symm
      subst hu0
      exact evSuc (evAll fun k => by
        simp only [spec_l01Num.l0]
        refine ite_yes trivial ?_
        cases neg with
        | true =>
          refine ite_yes rfl ?_
          rw [if_pos (by rw [ba_size]; omega)]
          exact congrArg some (ba_app [45] L)
        | false => exact ite_no Bool.false_ne_true rfl)
    · have hd : (Int.tdiv x 10).natAbs = u / 10 := by rw [Int.natAbs_tdiv, hx]; rfl
      have hm : (Int.tmod x 10).natAbs = u % 10 := by rw [Int.natAbs_tmod, hx]; rfl
      have hq : -9223372036854775808 ≤ Int.tdiv x 10 ∧ Int.tdiv x 10 ≤ 9223372036854775807 := by omega
      have ih := l01Num_l0 neg n (u / 10) (Int.tdiv x 10) (UInt8.ofNat (48 + u % 10) :: L) (by rw [Nat.pow_succ] at hu; omega) (by omega) (by rw [List.length_cons]; omega) hd hq.1 hq.2
      rw [dd_step (u := u) (by omega), List.append_assoc, List.singleton_append]
      have hsz : ∀ v : Int, v = 48 + ((u % 10 : Nat) : Int) → (if (strOfNums [v % 256]).size + (⟨L.toArray⟩ : ByteArray).size ≤ 9223372036854775807 then True else False) := fun v hv => by
        rw [num_byte hv, ba_size, ba_size, if_pos (by simp only [List.length_singleton]; omega)]
        trivial
      refine evSuc (evMono ih fun k e => ?_)
      simp only [spec_l01Num.l0]
      refine ite_no hx0 ?_
      rw [w64' (x := Int.tdiv x 10) hq.1 hq.2]
      by_cases hneg : Int.tmod x 10 < 0
      · refine ite_yes hneg ?_
        have hv : wrap64 (48 + wrap64 (-(Int.tmod x 10))) = 48 + ((u % 10 : Nat) : Int) := by rw [w64' (x := -(Int.tmod x 10)) (by omega) (by omega), w64' (by omega) (by omega)]; omega
        show (if (strOfNums [(wrap64 (48 + wrap64 (-(Int.tmod x 10)))) % 256]).size + (⟨L.toArray⟩ : ByteArray).size ≤ 9223372036854775807 then spec_l01Num.l0 k (Int.tdiv x 10) (strOfNums [(wrap64 (48 + wrap64 (-(Int.tmod x 10)))) % 256] ++ ⟨L.toArray⟩) neg else none) = _
        rw [num_byte hv, ba_app, if_pos (by rw [ba_size, ba_size]; simp only [List.length_singleton]; omega)]
        exact e
      · refine ite_no hneg ?_
        have hv : wrap64 (48 + Int.tmod x 10) = 48 + ((u % 10 : Nat) : Int) := by rw [w64' (by omega) (by omega)]; omega
        show (if (strOfNums [(wrap64 (48 + Int.tmod x 10)) % 256]).size + (⟨L.toArray⟩ : ByteArray).size ≤ 9223372036854775807 then spec_l01Num.l0 k (Int.tdiv x 10) (strOfNums [(wrap64 (48 + Int.tmod x 10)) % 256] ++ ⟨L.toArray⟩) neg else none) = _
        rw [num_byte hv, ba_app, if_pos (by rw [ba_size, ba_size]; simp only [List.length_singleton]; omega)]
        exact e
theorem spec_l01Num_ev (x : Int) (h : i64 x) : Evp fun k => spec_l01Num.f k x = some ⟨(Lib.itoa x).toArray⟩ := by
  unfold i64 at h
  by_cases hx : x = 0
  · subst hx
    refine evAll fun k => ite_yes rfl ?_
    rw [show Lib.itoa 0 = [48] from by unfold Lib.itoa; rw [if_neg (by omega)]; exact Lib.decDigits_one (by omega)]
  · have h20 : x.natAbs < 10 ^ 20 := by
      have : (10 : Nat) ^ 20 = 100000000000000000000 := by decide
      omega
    refine evMono (l01Num_l0 (decide (x < 0)) 20 x.natAbs x [] h20 (by omega) (by simp) rfl h.1 h.2) fun k e => ite_no hx ?_
    rw [show (⟨#[]⟩ : ByteArray) = ⟨([] : List UInt8).toArray⟩ from rfl, e]
    congr 2
    have hz : ¬ x.natAbs = 0 := by omega
    rw [List.append_nil]
    unfold Lib.itoa dd
    rw [if_neg hz]
    by_cases hn : x < 0
    · rw [decide_eq_true hn, if_pos rfl, if_pos hn]; rfl
    · rw [decide_eq_false hn, if_neg Bool.false_ne_true, if_neg hn, show x.natAbs = x.toNat by omega]; rfl


theorem Itoa_eq {x : Int} (h : i64 x) : strconv_Itoa.f x = some ⟨(Lib.itoa x).toArray⟩ := ite_yes h.1 (ite_yes h.2 rfl)
theorem itoa_le {x : Int} (h : i64 x) : (Lib.itoa x).length ≤ 20 := by
  have key : ∀ (n x : Nat), x < 10 ^ (n + 1) → Lib.nDigits x ≤ n + 1 := by
    intro n
    induction n with
    | zero => intro x h; rw [Lib.nDigits_small (by omega)]; omega
    | succ n ih =>
      intro x h
      by_cases h1 : x < 10
      · rw [Lib.nDigits_small h1]; omega
      · rw [Lib.nDigits_big h1]
        have := ih (x / 10) (by rw [Nat.pow_succ] at h; omega)
        omega
  unfold i64 at h
  have h19 : (10 : Nat) ^ 19 = 10000000000000000000 := by decide
  unfold Lib.itoa
  split
  · have := key 18 x.natAbs (by omega)
    rw [List.length_cons, Lib.decDigits_length]
    omega
  · have := key 18 x.toNat (by omega)
    rw [Lib.decDigits_length]
    omega


def sidesL (h w c : Int) : List UInt8 := Lib.itoa h ++ [120] ++ Lib.itoa w ++ [120] ++ Lib.itoa c
theorem sidesL_len {h w c : Int} (a : i64 h) (b : i64 w) (d : i64 c) : (sidesL h w c).length ≤ 62 := by
  have := itoa_le a; have := itoa_le b; have := itoa_le d
  unfold sidesL
  simp only [List.length_append, List.length_singleton]
  omega
theorem ba_lit (a : List UInt8) (b : UInt8) : (⟨a.toArray⟩ : ByteArray) ++ (⟨#[b]⟩ : ByteArray) = ⟨(a ++ [b]).toArray⟩ := ba_app a [b]


theorem sides_eq {h w c : Int} (a : i64 h) (b : i64 w) (d : i64 c) : impl_Shape_sides.f h w c = some ⟨(sidesL h w c).toArray⟩ := by
  have := itoa_le a; have := itoa_le b; have := itoa_le d
  refine bind_of (Itoa_eq a) ?_
  rw [if_pos (by rw [ba_size]; omega)]
  refine bind_of (Itoa_eq b) ?_
  rw [ba_lit, ba_app, ba_lit, if_pos (by rw [ba_size, ba_size]; simp only [List.length_append, List.length_singleton]; omega), if_pos (by rw [ba_size]; simp only [List.length_append, List.length_singleton]; omega)]
  refine bind_of (Itoa_eq d) ?_
  rw [if_pos (by rw [ba_size, ba_size]; simp only [List.length_append, List.length_singleton]; omega), ba_app]
  rfl


theorem LayerText_l0 (l : List Int) (hl : l.length ≤ 512) (hi : ∀ x ∈ l, i64 x) : ∀ (d i : Nat) (L : List UInt8), i + d = l.length → L.length + 21 * d ≤ 100000 → Evp fun k => spec_LayerText.l0 k l ⟨L.toArray⟩ (i : Int) = some ⟨(L ++ spacedL (l.drop i)).toArray⟩
  | 0, i, L, hid, hL => evSuc (evAll fun k => by
    simp only [spec_LayerText.l0]
    rw [if_neg (by omega), List.drop_eq_nil_of_le (by omega)]
    simp [spacedL])
  | d + 1, i, L, hid, hL => by
    have hlt : i < l.length := by omega
    have hx := hi l[i] (List.getElem_mem hlt)
    have hn := itoa_le hx
    have ih := LayerText_l0 l hl hi d (i + 1) (L ++ [32] ++ Lib.itoa l[i]) (by omega) (by simp only [List.length_append, List.length_singleton]; omega)
    have e0 : L ++ [32] ++ Lib.itoa l[i] ++ spacedL (l.drop (i + 1)) = L ++ spacedL (l.drop i) := by
      rw [List.drop_eq_getElem_cons hlt]
      simp [spacedL]
    rw [e0] at ih
    refine evSuc (evMono (evAnd ih (spec_l01Num_ev l[i] hx)) fun k ⟨e, g⟩ => ?_)
    simp only [spec_LayerText.l0]
    refine ite_yes (by omega) ?_
    rw [if_pos (by rw [ba_size]; omega)]
    refine ite_yes (by omega) ?_
    rw [rd_eq hlt]
    refine bind_of g ?_
    rw [ba_lit, if_pos (by rw [ba_size, ba_size]; simp only [List.length_append, List.length_singleton]; omega), ba_app, w64' (x := (i : Int) + 1) (by omega) (by omega)]
    exact e
def layerNames : List ByteArray := [⟨#[100, 101, 110, 115, 101]⟩, ⟨#[99, 111, 110, 118]⟩, ⟨#[109, 97, 120]⟩, ⟨#[97, 118, 103]⟩, ⟨#[114, 101, 108, 117]⟩, ⟨#[102, 108, 97, 116]⟩]
def layerNameL (k : Int) : List UInt8 := (rdOf ByteArray.empty layerNames k).data.toList
theorem layerName_eq (k : Int) : rdOf ByteArray.empty layerNames k = ⟨(layerNameL k).toArray⟩ := ByteArray.ext (by simp [layerNameL])
theorem layerName_len {k : Int} (h0 : 0 ≤ k) (h1 : k ≤ 5) : (layerNameL k).length ≤ 5 := by
  have : k = 0 ∨ k = 1 ∨ k = 2 ∨ k = 3 ∨ k = 4 ∨ k = 5 := by omega
  rcases this with rfl | rfl | rfl | rfl | rfl | rfl <;> decide
def layerTextL (kd ou sz st mu sh ze : Int) (W B : List Int) : List UInt8 := if 0 ≤ kd ∧ kd ≤ 5 then layerNameL kd ++ spacedL [ou, sz, st, mu, sh, ze, (W.length : Int), (B.length : Int)] else []
theorem spaced_le : ∀ l : List Int, (∀ x ∈ l, i64 x) → (spacedL l).length ≤ 21 * l.length
  | [], _ => by simp [spacedL]
  | x :: l, h => by
    have h1 := itoa_le (h x (by simp))
    have h2 := spaced_le l (fun y hy => h y (List.mem_cons_of_mem _ hy))
    simp only [spacedL, List.length_cons, List.length_append]
    omega
theorem layerTextL_len {kd ou sz st mu sh ze : Int} {W B : List Int} (hi : ∀ x ∈ [ou, sz, st, mu, sh, ze, (W.length : Int), (B.length : Int)], i64 x) : (layerTextL kd ou sz st mu sh ze W B).length ≤ 173 := by
  unfold layerTextL
  split
  · have h1 := spaced_le _ hi
    have h2 := layerName_len (k := kd) (by omega) (by omega)
    simp only [List.length_append, List.length_cons, List.length_nil] at h1 ⊢
    omega
  · simp
theorem LayerText_ok (kd ou sz st mu sh ze : Int) (W B : List Int) (hi : ∀ x ∈ [ou, sz, st, mu, sh, ze, (W.length : Int), (B.length : Int)], i64 x) : (Evp fun k => spec_LayerText.f k kd ou sz st mu sh ze W B = some ⟨(layerTextL kd ou sz st mu sh ze W B).toArray⟩) ∧ impl_LayerText.f kd ou sz st mu sh ze W B = some ⟨(layerTextL kd ou sz st mu sh ze W B).toArray⟩ := by
  have hs := spec_l01In_eq kd 0 5
  have hin : impl_in.f kd 0 5 = some (decide (0 ≤ kd ∧ kd ≤ 5)) := by
    unfold impl_in.f
    by_cases h0 : 0 ≤ kd
    · rw [if_pos h0]; simp [h0]
    · rw [if_neg h0]; simp [h0]
  unfold layerTextL
  by_cases hk : 0 ≤ kd ∧ kd ≤ 5
  · rw [if_pos hk]
    have hnl := layerName_len hk.1 hk.2
    have hsp := spaced_le _ hi
    have hnm := layerName_eq kd
    constructor
    · have lp := LayerText_l0 [ou, sz, st, mu, sh, ze, (W.length : Int), (B.length : Int)] (by simp) hi 8 0 (layerNameL kd) rfl (by omega)
      rw [List.drop_zero] at lp
      refine evMono lp fun k e => bind_of (a := layerNames) rfl (bind_of hs (ite_yes (decide_eq_true hk) (ite_yes hk.1 (ite_yes (show kd < ((layerNames.length : Nat) : Int) from by show kd < 6; omega) ?_))))
      rw [hnm]
      exact e
    · refine bind_of hin (ite_yes (decide_eq_true hk) (bind_of (a := layerNames) rfl (ite_yes hk.1 (ite_yes (show kd < ((layerNames.length : Nat) : Int) from by show kd < 6; omega) (bind_of (a := [kd, ou, sz, st, mu, sh, ze]) rfl (ite_yes (by simp) (bind_of (a := [ou, sz, st, mu, sh, ze]) rfl (bind_of (a := [(W.length : Int), (B.length : Int)]) rfl (ite_yes (by simp) ?_)))))))))
      refine bind_of (a := ⟨(spacedL [ou, sz, st, mu, sh, ze, (W.length : Int), (B.length : Int)]).toArray⟩) (ite_yes ⟨by simp, fun x hx => hi x hx⟩ rfl) ?_
      rw [hnm, if_pos (by rw [ba_size, ba_size]; simp only [List.length_cons, List.length_nil] at hsp; omega), ba_app]
  · rw [if_neg hk]
    exact ⟨evAll fun k => bind_of (a := layerNames) rfl (bind_of hs (ite_no (by simpa using hk) rfl)), bind_of hin (ite_no (by simpa using hk) rfl)⟩


def layL (x : S49) : List UInt8 := layerTextL x.f0 x.f1 x.f2 x.f3 x.f4 x.f5 x.f6 x.f7 x.f8
def intL (x : S49) : Prop := ∀ y ∈ [x.f1, x.f2, x.f3, x.f4, x.f5, x.f6, (x.f7.length : Int), (x.f8.length : Int)], i64 y
def tailL : List S49 → List UInt8
  | [] => []
  | x :: l => [32, 62, 32] ++ layL x ++ tailL l
theorem layL_len {x : S49} (h : intL x) : (layL x).length ≤ 173 := layerTextL_len h
theorem tailL_len : ∀ l : List S49, (∀ x ∈ l, intL x) → (tailL l).length ≤ 176 * l.length
  | [], _ => by simp [tailL]
  | x :: l, h => by
    have h1 := layL_len (h x (by simp))
    have h2 := tailL_len l (fun y hy => h y (List.mem_cons_of_mem _ hy))
    simp only [tailL, List.length_cons, List.length_append, List.length_nil]
    omega
theorem ModelText_l0 (h w c : Int) (l : List S49) (hl : l.length ≤ 6) (hi : ∀ x ∈ l, intL x) : ∀ (d i : Nat) (L : List UInt8), i + d = l.length → L.length + 176 * d ≤ 100000 → Evp fun k => spec_ModelText.l0 k ⟨L.toArray⟩ (i : Int) h w c l = some ⟨(L ++ tailL (l.drop i)).toArray⟩
  | 0, i, L, hid, hL => evSuc (evAll fun k => by
    simp only [spec_ModelText.l0]
    rw [if_neg (by omega), List.drop_eq_nil_of_le (by omega)]
    simp [tailL])
  | d + 1, i, L, hid, hL => by
    have hlt : i < l.length := by omega
    have hx := hi l[i] (List.getElem_mem hlt)
    have hn := layL_len hx
    have e2 := (LayerText_ok l[i].f0 l[i].f1 l[i].f2 l[i].f3 l[i].f4 l[i].f5 l[i].f6 l[i].f7 l[i].f8 hx).1
    have ih := ModelText_l0 h w c l hl hi d (i + 1) (L ++ [32, 62, 32] ++ layL l[i]) (by omega) (by simp only [List.length_append, List.length_cons, List.length_nil]; omega)
    have e0 : L ++ [32, 62, 32] ++ layL l[i] ++ tailL (l.drop (i + 1)) = L ++ tailL (l.drop i) := by
      rw [List.drop_eq_getElem_cons hlt]
      simp [tailL]
    rw [e0] at ih
    refine evSuc (evMono (evAnd ih e2) fun k ⟨e, g⟩ => ?_)
    simp only [spec_ModelText.l0]
    refine ite_yes (by omega) ?_
    rw [if_pos (by rw [ba_size]; omega)]
    refine ite_yes (by omega) ?_
    rw [rdImp_eq hlt]
    refine bind_of g ?_
    show (if ((⟨L.toArray⟩ : ByteArray) ++ (⟨#[32, 62, 32]⟩ : ByteArray)).size + (⟨(layL l[i]).toArray⟩ : ByteArray).size ≤ 9223372036854775807 then spec_ModelText.l0 k ((⟨L.toArray⟩ : ByteArray) ++ (⟨#[32, 62, 32]⟩ : ByteArray) ++ (⟨(layL l[i]).toArray⟩ : ByteArray)) (wrap64 ((i : Int) + 1)) h w c l else none) = _
    rw [show (⟨L.toArray⟩ : ByteArray) ++ (⟨#[32, 62, 32]⟩ : ByteArray) = ⟨(L ++ [32, 62, 32]).toArray⟩ from ba_app L [32, 62, 32], if_pos (by rw [ba_size, ba_size]; simp only [List.length_append, List.length_cons, List.length_nil]; omega), ba_app, w64' (x := (i : Int) + 1) (by omega) (by omega)]
    exact e
def layB (x : S49) : ByteArray := ⟨(layL x).toArray⟩
theorem impl_ModelText_l0 (l : List S49) (hl : l.length ≤ 6) (hi : ∀ x ∈ l, intL x) : ∀ (d i : Nat) (X : List ByteArray), i + d = l.length → X.length = i + 1 → Evp fun k => impl_ModelText.l0 k X l (l.length : Int) (i : Int) = strings_Join.f (X ++ (l.drop i).map layB) (⟨#[32, 62, 32]⟩ : ByteArray)
  | 0, i, X, hid, hX => evSuc (evAll fun k => by
    simp only [impl_ModelText.l0]
    rw [if_neg (by omega), List.drop_eq_nil_of_le (by omega), List.map_nil, List.append_nil]
    cases strings_Join.f X (⟨#[32, 62, 32]⟩ : ByteArray) <;> rfl)
  | d + 1, i, X, hid, hX => by
    have hlt : i < l.length := by omega
    have hx := hi l[i] (List.getElem_mem hlt)
    have e2 := (LayerText_ok l[i].f0 l[i].f1 l[i].f2 l[i].f3 l[i].f4 l[i].f5 l[i].f6 l[i].f7 l[i].f8 hx).2
    have ih := impl_ModelText_l0 l hl hi d (i + 1) (X ++ [layB l[i]]) (by omega) (by simp only [List.length_append, List.length_singleton]; omega)
    have e0 : X ++ [layB l[i]] ++ (l.drop (i + 1)).map layB = X ++ (l.drop i).map layB := by
      rw [List.drop_eq_getElem_cons hlt, List.map_cons, List.append_assoc, List.singleton_append]
    rw [e0] at ih
    refine evSuc (evMono ih fun k e => ?_)
    simp only [impl_ModelText.l0]
    refine ite_yes (by omega) (ite_yes (by omega) (ite_yes (by omega) ?_))
    rw [rdImp_eq hlt]
    refine bind_of e2 (ite_yes (by omega) ?_)
    rw [w64' (x := (i : Int) + 1) (by omega) (by omega)]
    exact e
theorem joinTail_layB : ∀ l : List S49, Lib.joinTail [32, 62, 32] ((l.map layB).map (·.data.toList)) = tailL l
  | [] => rfl
  | x :: l => by
    have ih := joinTail_layB l
    unfold Lib.joinTail at ih ⊢
    simp only [List.map_cons, List.flatten_cons, tailL]
    rw [ih]
    simp [layB]
theorem joinL_lay (S : List UInt8) (l : List S49) : joinL (⟨S.toArray⟩ :: l.map layB) (⟨#[32, 62, 32]⟩ : ByteArray) = ⟨(S ++ tailL l).toArray⟩ := by
  unfold joinL
  rw [List.map_cons, Lib.join_cons, show (⟨#[32, 62, 32]⟩ : ByteArray).data.toList = [32, 62, 32] from rfl, joinTail_layB]
def modelTextL (s : S29) (l : List S49) : List UInt8 := if (modelShapes s l).2 = true then sidesL s.f0 s.f1 s.f2 ++ tailL l else []
theorem ModelText_ok (s : S29) (l : List S49) (hs : smallI l) (hi : ∀ x ∈ l, intL x) (a : i64 s.f0) (b : i64 s.f1) (d : i64 s.f2) : (Evp fun k => spec_ModelText.f k s.f0 s.f1 s.f2 l = some ⟨(modelTextL s l).toArray⟩) ∧ Evp fun k => impl_ModelText.f k s.f0 s.f1 s.f2 l = some ⟨(modelTextL s l).toArray⟩ := by
  have t1 := spec_ModelOk_ev s l hs
  have t2 := impl_ModelOk_ev s l hs
  unfold modelTextL
  by_cases ht : (modelShapes s l).2 = true
  · rw [if_pos ht]
    have hlen : l.length ≤ 6 := by
      unfold modelShapes at ht
      split at ht
      · omega
      · cases ht
    have := itoa_le a; have := itoa_le b; have := itoa_le d
    have hsl := sidesL_len a b d
    have htl := tailL_len l hi
    constructor
    · have lp := ModelText_l0 s.f0 s.f1 s.f2 l hlen hi l.length 0 (sidesL s.f0 s.f1 s.f2) (by omega) (by omega)
      rw [List.drop_zero] at lp
      refine evMono (evAnd t1 (evAnd (spec_l01Num_ev s.f0 a) (evAnd (spec_l01Num_ev s.f1 b) (evAnd (spec_l01Num_ev s.f2 d) lp)))) fun k ⟨e0, e1, e2, e3, e4⟩ => bind_of e0 (ite_yes ht (bind_of e1 ?_))
      rw [if_pos (by rw [ba_size]; omega)]
      refine bind_of e2 ?_
      rw [ba_lit, ba_app, ba_lit, if_pos (by rw [ba_size, ba_size]; simp only [List.length_append, List.length_singleton]; omega), if_pos (by rw [ba_size]; simp only [List.length_append, List.length_singleton]; omega)]
      refine bind_of e3 ?_
      rw [if_pos (by rw [ba_size, ba_size]; simp only [List.length_append, List.length_singleton]; omega), ba_app]
      exact e4
    · have lp := impl_ModelText_l0 l hlen hi l.length 0 [⟨(sidesL s.f0 s.f1 s.f2).toArray⟩] (by omega) rfl
      rw [List.drop_zero, List.singleton_append] at lp
      refine evMono (evAnd t2 lp) fun k ⟨e0, e1⟩ => bind_of e0 (ite_yes ht (bind_of (sides_eq a b d) ?_))
      refine e1.trans (ite_yes ⟨by simp only [List.length_cons, List.length_map]; omega, ?_⟩ ?_)
      · rw [joinL_lay, ba_size, List.length_append]
        omega
      · rw [joinL_lay]
  · rw [if_neg ht]
    exact ⟨evMono t1 fun k e => bind_of e (ite_no ht rfl), evMono t2 fun k e => bind_of e (ite_no ht rfl)⟩

theorem FnExactModelText (h w c : Int) (l : List S74) (hg : ((Lit.int .i64 h).wf = true ∧ (Lit.int .i64 w).wf = true ∧ (Lit.int .i64 c).wf = true) ∧ wfLayers l) : ∃ k, laws_FnExactModelText.f k h w c l = some true := by
  have hl := hg.2.1
  unfold maxLen at hl
  obtain ⟨r, hr1, hr2, hr⟩ := laws_szModel_tells h w c l 1048576 (by omega) (by omega) hl (fun x hx => (hg.2.2 x hx).len)
  by_cases h0 : r < 0
  · exact evEx (evMono hr fun k hr => bind_of hr (ite_yes h0 rfl))
  have hs := hr2 (by omega)
  have hi : ∀ x ∈ l.map conv, intL x := by
    intro y hy
    obtain ⟨x, hx, rfl⟩ := List.mem_map.1 hy
    obtain ⟨-, hb, hc, hd, he, hf, hg', hW, hB⟩ := hg.2.2 x hx
    unfold maxLen at hW hB
    intro z hz
    simp only [conv, List.mem_cons, List.not_mem_nil, or_false] at hz
    rcases hz with rfl | rfl | rfl | rfl | rfl | rfl | rfl | rfl
    · exact i64_of hb
    · exact i64_of hc
    · exact i64_of hd
    · exact i64_of he
    · exact i64_of hf
    · exact i64_of hg'
    · unfold i64; omega
    · unfold i64; omega
  obtain ⟨e2, e3⟩ := ModelText_ok ⟨h, w, c⟩ (l.map conv) hs.conv hi (i64_of hg.1.1) (i64_of hg.1.2.1) (i64_of hg.1.2.2)
  refine evEx (evMono (evAnd hr (evAnd (laws_toModel_ev h w c l hs) (evAnd e2 (evAnd e3 (laws_eqModel_self h w c (l.map conv) hs.conv))))) fun k ⟨hr, e1, e2, e3, e4⟩ => ?_)
  exact bind_of hr (ite_no h0 (bind_of e1 (bind_of e2 (bind_of e1 (bind_of e3 (ite_yes rfl (bind_of e1 (bind_of e4 (ite_yes rfl rfl)))))))))

end Go.Proofs.YtclpojeofclbjaaDoor.Pure
