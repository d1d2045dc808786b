/- For every layer that the law lets in, the program's LayerText and the reference's return the same, and the argument reads as it did (the law FnExactLayerText answers true). Condition, tied by the card: the listed tables of the library stand in memory as the library's text lays them. -/
import Derived.Test.YtjmejobelkllmaaDoorPFnExactLayerTextx0
import Derived.Test.YtjmejobelkllmaaDoorPFnExactLayerTextx1
import Derived.Test.YtjmejobelkllmaaDoorPFnExactLayerTextx2
import Derived.Test.YtjmejobelkllmaaDoorPFnExactLayerTextx3
namespace Go.Proofs.YtjmejobelkllmaaDoor.Pure
open Go.RowKit Go.Proofs.YtjmejobelkllmaaDoor.PFnExactLayerText Go.Proofs.YtjmejobelkllmaaDoorW.PrintWords Go.Proofs.YtjmejobelkllmaaDoorW.PrintLast Go.Proofs.YtjmejobelkllmaaDoorW.PrintMore
set_option linter.unusedVariables false
set_option linter.unusedSimpArgs false

/-! #### rounds -/
def Evp (p : Nat → Prop) : Prop := ∃ K, ∀ k, K ≤ k → p k
theorem evAnd {p q : Nat → Prop} (h : Evp p) (g : Evp q) : Evp (fun k => p k ∧ q k) := by
  obtain ⟨K, hK⟩ := h
  obtain ⟨L, hL⟩ := g
  exact ⟨max K L, fun k hk => ⟨hK k (by omega), hL k (by omega)⟩⟩
theorem evMono {p q : Nat → Prop} (h : Evp p) (g : ∀ k, p k → q k) : Evp q := by
  obtain ⟨K, hK⟩ := h
  exact ⟨K, fun k hk => g k (hK k hk)⟩
theorem evSuc {p : Nat → Prop} (h : Evp fun k => p (k + 1)) : Evp p := by
  obtain ⟨K, hK⟩ := h
  refine ⟨K + 1, fun k hk => ?_⟩
  obtain ⟨m, rfl⟩ : ∃ m, k = m + 1 := ⟨k - 1, by omega⟩
  exact hK m (by omega)
theorem evAll {p : Nat → Prop} (h : ∀ k, p k) : Evp p := ⟨0, fun k _ => h k⟩
theorem evEx {p : Nat → Prop} (h : Evp p) : ∃ k, p k := by
  obtain ⟨K, hK⟩ := h
  exact ⟨K, hK K (Nat.le_refl _)⟩
/-- One step of a chain. -/
theorem bind_of {α β : Type} {o : Option α} {f : α → Option β} {a : α} {r : Option β} (h : o = some a) (hf : f a = r) : o.bind f = r := by rw [h]; exact hf
theorem ite_yes {α : Type} {c : Prop} [Decidable c] {x y r : α} (h : c) (hx : x = r) : (if c then x else y) = r := by rw [if_pos h]; exact hx
theorem ite_no {α : Type} {c : Prop} [Decidable c] {x y r : α} (h : ¬ c) (hy : y = r) : (if c then x else y) = r := by rw [if_neg h]; exact hy

/-! #### whole numbers -/
def i64 (x : Int) : Prop := -9223372036854775808 ≤ x ∧ x ≤ 9223372036854775807
theorem i64_of {x : Int} (h : (Lit.int .i64 x).wf = true) : i64 x := by
  simp only [Lit.wf, IntKind.min, IntKind.max, IntKind.signed, IntKind.bits, Bool.and_eq_true, decide_eq_true_eq, if_true] at h
  unfold i64
  omega
theorem w64 {x : Int} (h : i64 x) : wrap64 x = x := by
  unfold i64 at h
  unfold wrap64
  omega
theorem w64' {x : Int} (h0 : -9223372036854775808 ≤ x) (h1 : x ≤ 9223372036854775807) : wrap64 x = x := w64 ⟨h0, h1⟩
/-! #### lists -/
theorem rd_eq {l : List Int} {i : Nat} (h : i < l.length) : rd l (i : Int) = l[i] := by
  unfold rd
  simp [List.getD, h]
theorem spec_l01In_eq (x lo hi : Int) : spec_l01In.f x lo hi = some (decide (lo ≤ x ∧ x ≤ hi)) := by
  unfold spec_l01In.f
  by_cases h : lo ≤ x
  · simp [h]
  · simp [h]


/-- A list that is filled from the left. -/
theorem fill_step {α : Type} {l o : List α} {i : Nat} (hi : i < l.length) (hl : o.length = l.length) (ht : o.take i = l.take i) : (o.set i l[i]).length = l.length ∧ (o.set i l[i]).take (i + 1) = l.take (i + 1) := by
  refine ⟨by simp [hl], ?_⟩
  apply List.ext_getElem?
  intro j
  rw [List.getElem?_take, List.getElem?_take]
  by_cases hj : j < i + 1
  · rw [if_pos hj, if_pos hj]
    by_cases e : j = i
    · subst e
      rw [List.getElem?_set_self (by omega), List.getElem?_eq_getElem hi]
    · rw [List.getElem?_set_ne (by omega)]
      have := congrArg (fun x => x[j]?) ht
      simp only [List.getElem?_take] at this
      rw [if_pos (by omega), if_pos (by omega)] at this
      exact this
  · rw [if_neg hj, if_neg hj]
theorem fill_end {α : Type} {l o : List α} (hl : o.length = l.length) (ht : o.take l.length = l.take l.length) : o = l := by
  rw [List.take_length] at ht
  rw [← hl, List.take_length] at ht
  exact ht


theorem laws_toIntS_l0 (l : List Int) (hl : l.length ≤ 9223372036854775807) : ∀ (d i : Nat) (o : List Int), i + d = l.length → o.length = l.length → o.take i = l.take i → Evp fun k => laws_toIntS.l0 k l o (i : Int) = some l
  | 0, i, o, hi, ho, ht => evSuc (evAll fun k => by
    simp only [laws_toIntS.l0]
    rw [if_neg (by omega)]
    obtain rfl : i = l.length := by omega
    rw [fill_end ho ht])
  | d + 1, i, o, hi, ho, ht => by
    have hlt : i < l.length := by omega
    have hs := fill_step hlt ho ht
    refine evSuc (evMono (laws_toIntS_l0 l hl d (i + 1) (o.set i l[i]) (by omega) hs.1 hs.2) fun k ih => ?_)
    simp only [laws_toIntS.l0]
    rw [if_pos (by omega), if_pos (by omega), if_pos (by omega), w64' (by omega) (by omega), rd_eq hlt, Int.toNat_natCast]
    exact ih
theorem laws_toIntS_ev (l : List Int) (hl : l.length ≤ 35184372088832) : Evp fun k => laws_toIntS.f k l = some l :=
  evMono (laws_toIntS_l0 l (by omega) l.length 0 (List.replicate l.length 0) (by omega) (by simp) (by simp)) fun k h => by
    unfold laws_toIntS.f
    rw [if_pos (by omega), if_pos (by omega), Int.toNat_natCast]
    exact h


theorem laws_eqIntS_l0 (a b : List Int) (hl : a.length = b.length) (hm : a.length ≤ 9223372036854775807) : ∀ (d i : Nat), i + d = a.length → a.take i = b.take i → Evp fun k => laws_eqIntS.l0 k a b (i : Int) = some (decide (a = b))
  | 0, i, hi, ht => evSuc (evAll fun k => by
    simp only [laws_eqIntS.l0]
    rw [if_neg (by omega)]
    obtain rfl : i = a.length := by omega
    have e : a = b := by
      rw [List.take_length, hl, List.take_length] at ht
      exact ht
    simp [e])
  | d + 1, i, hi, ht => by
    have ha : i < a.length := by omega
    have hb : i < b.length := by omega
    by_cases he : a[i] = b[i]
    · have ht' : a.take (i + 1) = b.take (i + 1) := by
        rw [List.take_succ_eq_append_getElem ha, List.take_succ_eq_append_getElem hb, ht, he]
      refine evSuc (evMono (laws_eqIntS_l0 a b hl hm d (i + 1) (by omega) ht') fun k ih => ?_)
      simp only [laws_eqIntS.l0]
      rw [if_pos (by omega), if_pos (by omega), if_pos (by omega), rd_eq ha, rd_eq hb, if_pos he, w64' (by omega) (by omega)]
      exact ih
    · refine evSuc (evAll fun k => ?_)
      simp only [laws_eqIntS.l0]
      rw [if_pos (by omega), if_pos (by omega), if_pos (by omega), rd_eq ha, rd_eq hb, if_neg he]
      have : a ≠ b := by
        rintro rfl
        exact he rfl
      simp [this]
theorem laws_eqIntS_ev (a b : List Int) (hm : a.length ≤ 9223372036854775807) : Evp fun k => laws_eqIntS.f k a b = some (decide (a = b)) := by
  unfold laws_eqIntS.f
  by_cases hl : a.length = b.length
  · refine evMono (laws_eqIntS_l0 a b hl hm a.length 0 (by omega) (by simp)) fun k h => ?_
    rw [if_pos (by omega)]
    exact h
  · refine evAll fun k => ?_
    rw [if_neg (by omega)]
    have : a ≠ b := by
      rintro rfl
      exact hl rfl
    simp [this]


/-- What is left of a bound, behind a list; -1 where nothing is. -/
def szL {α : Type} (l : List α) (left : Int) : Int := if left - l.length < 0 then -1 else left - l.length
theorem szL_b {α : Type} (l : List α) {left : Int} (h : 0 ≤ left) (h1 : left ≤ 1048576) : -1 ≤ szL l left ∧ szL l left ≤ 1048576 ∧ (0 ≤ szL l left → (l.length : Int) ≤ 1048576) := by
  unfold szL
  split <;> omega


theorem laws_szIntS_eq (l : List Int) (left : Int) (h : 0 ≤ left) (h1 : left ≤ 1048576) (hl : l.length ≤ 9223372036854775807) : laws_szIntS.f l left = some (szL l left) := by
  unfold laws_szIntS.f szL
  rw [w64' (by omega) (by omega)]
  split <;> rfl


theorem laws_szLayer_tells (a b c d e f g : Int) (W B : List Int) (left : Int) (h : 0 ≤ left) (h1 : left ≤ 1048576) (hW : W.length ≤ 9223372036854775807) (hB : B.length ≤ 9223372036854775807) :
    ∃ r, laws_szLayer.f a b c d e f g W B left = some r ∧ r ≤ 1048576 ∧ (0 ≤ r → (W.length : Int) ≤ 1048576 ∧ (B.length : Int) ≤ 1048576) := by
  unfold laws_szLayer.f
  have b1 := szL_b W h h1
  rw [laws_szIntS_eq W left h h1 hW]
  simp only [Option.bind_some]
  by_cases hr : szL W left < 0
  · rw [if_pos hr]
    exact ⟨-1, rfl, by omega, fun z => by omega⟩
  · have b2 := szL_b B (left := szL W left) (by omega) (by omega)
    rw [if_neg hr, laws_szIntS_eq B _ (by omega) (by omega) hB]
    simp only [Option.bind_some]
    split
    · exact ⟨-1, rfl, by omega, fun z => by omega⟩
    · exact ⟨_, rfl, by omega, fun z => ⟨b1.2.2 (by omega), b2.2.2 (by omega)⟩⟩


theorem laws_toLayer_ev (a b c d e f g : Int) (W B : List Int) (hW : (W.length : Int) ≤ 1048576) (hB : (B.length : Int) ≤ 1048576) : Evp fun k => laws_toLayer.f k a b c d e f g W B = some (a, b, c, d, e, f, g, W, B) :=
  evMono (evAnd (laws_toIntS_ev W (by omega)) (laws_toIntS_ev B (by omega))) fun k ⟨h1, h2⟩ => by
    unfold laws_toLayer.f
    rw [h1, h2]
    rfl


theorem laws_eqLayer_self (a b c d e f g : Int) (W B : List Int) (hW : (W.length : Int) ≤ 1048576) (hB : (B.length : Int) ≤ 1048576) : Evp fun k => laws_eqLayer.f k a b c d e f g W B a b c d e f g W B = some true :=
  evMono (evAnd (laws_eqIntS_ev W W (by omega)) (laws_eqIntS_ev B B (by omega))) fun k ⟨h1, h2⟩ => by
    unfold laws_eqLayer.f
    simp [h1, h2]


theorem ba_app (a b : List UInt8) : (⟨a.toArray⟩ : ByteArray) ++ ⟨b.toArray⟩ = ⟨(a ++ b).toArray⟩ := ByteArray.ext (by simp [ByteArray.data_append])
theorem ba_size (a : List UInt8) : (⟨a.toArray⟩ : ByteArray).size = a.length := by simp [ByteArray.size]
def dd (u : Nat) : List UInt8 := if u = 0 then [] else Lib.decDigits u
theorem dd_step {u : Nat} (h : 0 < u) : dd u = dd (u / 10) ++ [UInt8.ofNat (48 + u % 10)] := by
  unfold dd
  rw [if_neg (by omega)]
  by_cases h1 : u < 10
  · rw [if_pos (by omega), Lib.decDigits_one h1, show u % 10 = u by omega]
    rfl
  · rw [if_neg (by omega)]
    conv => lhs; rw [Lib.decDigits, dif_neg h1]
theorem num_byte {v : Int} {u : Nat} (h : v = 48 + ((u % 10 : Nat) : Int)) : strOfNums [v % 256] = ⟨[UInt8.ofNat (48 + u % 10)].toArray⟩ := by
  have e : (v % 256).toNat = 48 + u % 10 := by omega
  show (⟨[UInt8.ofNat (v % 256).toNat].toArray⟩ : ByteArray) = _
  rw [e]
theorem l01Num_l0 (neg : Bool) : ∀ (n u : Nat) (x : Int) (L : List UInt8), u < 10 ^ n → n ≤ 20 → L.length + n ≤ 1000 → x.natAbs = u → -9223372036854775808 ≤ x → x ≤ 9223372036854775807 → Evp fun k => spec_l01Num.l0 k x ⟨L.toArray⟩ neg = some ⟨((if neg then [45] else []) ++ (dd u ++ L)).toArray⟩
  | 0, u, x, L, hu, _, hL, hx, _, _ => by
    have hu0 : u = 0 := by simpa using hu
    subst hu0
    have hx0 : x = 0 := by omega
    subst hx0
    exact evSuc (evAll fun k => by
      simp only [spec_l01Num.l0]
      refine ite_yes trivial ?_
      cases neg with
      | true =>
        refine ite_yes rfl ?_
        rw [if_pos (by rw [ba_size]; omega)]
        exact congrArg some (ba_app [45] L)
      | false => exact ite_no Bool.false_ne_true rfl)
  | n + 1, u, x, L, hu, hn, hL, hx, h0, h1 => by
    by_cases hx0 : x = 0
    · subst hx0
      have hu0 : u = 0 := by simpa using hx.symm
      subst hu0
      exact evSuc (evAll fun k => by
        simp only [spec_l01Num.l0]
        refine ite_yes trivial ?_
        cases neg with
        | true =>
          refine ite_yes rfl ?_
          rw [if_pos (by rw [ba_size]; omega)]
          exact congrArg some (ba_app [45] L)
        | false => exact ite_no Bool.false_ne_true rfl)
    · have hd : (Int.tdiv x 10).natAbs = u / 10 := by rw [Int.natAbs_tdiv, hx]; rfl
      have hm : (Int.tmod x 10).natAbs = u % 10 := by rw [Int.natAbs_tmod, hx]; rfl
      have hq : -9223372036854775808 ≤ Int.tdiv x 10 ∧ Int.tdiv x 10 ≤ 9223372036854775807 := by omega
      have ih := l01Num_l0 neg n (u / 10) (Int.tdiv x 10) (UInt8.ofNat (48 + u % 10) :: L) (by rw [Nat.pow_succ] at hu; omega) (by omega) (by rw [List.length_cons]; omega) hd hq.1 hq.2
      rw [dd_step (u := u) (by omega), List.append_assoc, List.singleton_append]
      have hsz : ∀ v : Int, v = 48 + ((u % 10 : Nat) : Int) → (if (strOfNums [v % 256]).size + (⟨L.toArray⟩ : ByteArray).size ≤ 9223372036854775807 then True else False) := fun v hv => by
        rw [num_byte hv, ba_size, ba_size, if_pos (by simp only [List.length_singleton]; omega)]
        trivial
      refine evSuc (evMono ih fun k e => ?_)
      simp only [spec_l01Num.l0]
      refine ite_no hx0 ?_
      rw [w64' (x := Int.tdiv x 10) hq.1 hq.2]
      by_cases hneg : Int.tmod x 10 < 0
      · refine ite_yes hneg ?_
        have hv : wrap64 (48 + wrap64 (-(Int.tmod x 10))) = 48 + ((u % 10 : Nat) : Int) := by rw [w64' (x := -(Int.tmod x 10)) (by omega) (by omega), w64' (by omega) (by omega)]; omega
        show (if (strOfNums [(wrap64 (48 + wrap64 (-(Int.tmod x 10)))) % 256]).size + (⟨L.toArray⟩ : ByteArray).size ≤ 9223372036854775807 then spec_l01Num.l0 k (Int.tdiv x 10) (strOfNums [(wrap64 (48 + wrap64 (-(Int.tmod x 10)))) % 256] ++ ⟨L.toArray⟩) neg else none) = _
        rw [num_byte hv, ba_app, if_pos (by rw [ba_size, ba_size]; simp only [List.length_singleton]; omega)]
        exact e
      · refine ite_no hneg ?_
        have hv : wrap64 (48 + Int.tmod x 10) = 48 + ((u % 10 : Nat) : Int) := by rw [w64' (by omega) (by omega)]; omega
        show (if (strOfNums [(wrap64 (48 + Int.tmod x 10)) % 256]).size + (⟨L.toArray⟩ : ByteArray).size ≤ 9223372036854775807 then spec_l01Num.l0 k (Int.tdiv x 10) (strOfNums [(wrap64 (48 + Int.tmod x 10)) % 256] ++ ⟨L.toArray⟩) neg else none) = _
        rw [num_byte hv, ba_app, if_pos (by rw [ba_size, ba_size]; simp only [List.length_singleton]; omega)]
        exact e
theorem spec_l01Num_ev (x : Int) (h : i64 x) : Evp fun k => spec_l01Num.f k x = some ⟨(Lib.itoa x).toArray⟩ := by
  unfold i64 at h
  by_cases hx : x = 0
  · subst hx
    refine evAll fun k => ite_yes rfl ?_
    rw [show Lib.itoa 0 = [48] from by unfold Lib.itoa; rw [if_neg (by omega)]; exact Lib.decDigits_one (by omega)]
  · have h20 : x.natAbs < 10 ^ 20 := by
      have : (10 : Nat) ^ 20 = 100000000000000000000 := by decide
      omega
    refine evMono (l01Num_l0 (decide (x < 0)) 20 x.natAbs x [] h20 (by omega) (by simp) rfl h.1 h.2) fun k e => ite_no hx ?_
    rw [show (⟨#[]⟩ : ByteArray) = ⟨([] : List UInt8).toArray⟩ from rfl, e]
    congr 2
    have hz : ¬ x.natAbs = 0 := by omega
    rw [List.append_nil]
    unfold Lib.itoa dd
    rw [if_neg hz]
    by_cases hn : x < 0
    · rw [decide_eq_true hn, if_pos rfl, if_pos hn]; rfl
    · rw [decide_eq_false hn, if_neg Bool.false_ne_true, if_neg hn, show x.natAbs = x.toNat by omega]; rfl


theorem itoa_le {x : Int} (h : i64 x) : (Lib.itoa x).length ≤ 20 := by
  have key : ∀ (n x : Nat), x < 10 ^ (n + 1) → Lib.nDigits x ≤ n + 1 := by
    intro n
    induction n with
    | zero => intro x h; rw [Lib.nDigits_small (by omega)]; omega
    | succ n ih =>
      intro x h
      by_cases h1 : x < 10
      · rw [Lib.nDigits_small h1]; omega
      · rw [Lib.nDigits_big h1]
        have := ih (x / 10) (by rw [Nat.pow_succ] at h; omega)
        omega
  unfold i64 at h
  have h19 : (10 : Nat) ^ 19 = 10000000000000000000 := by decide
  unfold Lib.itoa
  split
  · have := key 18 x.natAbs (by omega)
    rw [List.length_cons, Lib.decDigits_length]
    omega
  · have := key 18 x.toNat (by omega)
    rw [Lib.decDigits_length]
    omega


theorem ba_lit (a : List UInt8) (b : UInt8) : (⟨a.toArray⟩ : ByteArray) ++ (⟨#[b]⟩ : ByteArray) = ⟨(a ++ [b]).toArray⟩ := ba_app a [b]


theorem LayerText_l0 (l : List Int) (hl : l.length ≤ 512) (hi : ∀ x ∈ l, i64 x) : ∀ (d i : Nat) (L : List UInt8), i + d = l.length → L.length + 21 * d ≤ 100000 → Evp fun k => spec_LayerText.l0 k l ⟨L.toArray⟩ (i : Int) = some ⟨(L ++ spacedL (l.drop i)).toArray⟩
  | 0, i, L, hid, hL => evSuc (evAll fun k => by
    simp only [spec_LayerText.l0]
    rw [if_neg (by omega), List.drop_eq_nil_of_le (by omega)]
    simp [spacedL])
  | d + 1, i, L, hid, hL => by
    have hlt : i < l.length := by omega
    have hx := hi l[i] (List.getElem_mem hlt)
    have hn := itoa_le hx
    have ih := LayerText_l0 l hl hi d (i + 1) (L ++ [32] ++ Lib.itoa l[i]) (by omega) (by simp only [List.length_append, List.length_singleton]; omega)
    have e0 : L ++ [32] ++ Lib.itoa l[i] ++ spacedL (l.drop (i + 1)) = L ++ spacedL (l.drop i) := by
      rw [List.drop_eq_getElem_cons hlt]
      simp [spacedL]
    rw [e0] at ih
    refine evSuc (evMono (evAnd ih (spec_l01Num_ev l[i] hx)) fun k ⟨e, g⟩ => ?_)
    simp only [spec_LayerText.l0]
    refine ite_yes (by omega) ?_
    rw [if_pos (by rw [ba_size]; omega)]
    refine ite_yes (by omega) ?_
    rw [rd_eq hlt]
    refine bind_of g ?_
    rw [ba_lit, if_pos (by rw [ba_size, ba_size]; simp only [List.length_append, List.length_singleton]; omega), ba_app, w64' (x := (i : Int) + 1) (by omega) (by omega)]
    exact e
def layerNames : List ByteArray := [⟨#[100, 101, 110, 115, 101]⟩, ⟨#[99, 111, 110, 118]⟩, ⟨#[109, 97, 120]⟩, ⟨#[97, 118, 103]⟩, ⟨#[114, 101, 108, 117]⟩, ⟨#[102, 108, 97, 116]⟩]
def layerNameL (k : Int) : List UInt8 := (rdOf ByteArray.empty layerNames k).data.toList
theorem layerName_eq (k : Int) : rdOf ByteArray.empty layerNames k = ⟨(layerNameL k).toArray⟩ := ByteArray.ext (by simp [layerNameL])
theorem layerName_len {k : Int} (h0 : 0 ≤ k) (h1 : k ≤ 5) : (layerNameL k).length ≤ 5 := by
  have : k = 0 ∨ k = 1 ∨ k = 2 ∨ k = 3 ∨ k = 4 ∨ k = 5 := by omega
  rcases this with rfl | rfl | rfl | rfl | rfl | rfl <;> decide
def layerTextL (kd ou sz st mu sh ze : Int) (W B : List Int) : List UInt8 := if 0 ≤ kd ∧ kd ≤ 5 then layerNameL kd ++ spacedL [ou, sz, st, mu, sh, ze, (W.length : Int), (B.length : Int)] else []
theorem spaced_le : ∀ l : List Int, (∀ x ∈ l, i64 x) → (spacedL l).length ≤ 21 * l.length
  | [], _ => by simp [spacedL]
  | x :: l, h => by
    have h1 := itoa_le (h x (by simp))
    have h2 := spaced_le l (fun y hy => h y (List.mem_cons_of_mem _ hy))
    simp only [spacedL, List.length_cons, List.length_append]
    omega
theorem LayerText_ok (kd ou sz st mu sh ze : Int) (W B : List Int) (hi : ∀ x ∈ [ou, sz, st, mu, sh, ze, (W.length : Int), (B.length : Int)], i64 x) : (Evp fun k => spec_LayerText.f k kd ou sz st mu sh ze W B = some ⟨(layerTextL kd ou sz st mu sh ze W B).toArray⟩) ∧ impl_LayerText.f kd ou sz st mu sh ze W B = some ⟨(layerTextL kd ou sz st mu sh ze W B).toArray⟩ := by
  have hs := spec_l01In_eq kd 0 5
  have hin : impl_in.f kd 0 5 = some (decide (0 ≤ kd ∧ kd ≤ 5)) := by
    unfold impl_in.f
    by_cases h0 : 0 ≤ kd
    · rw [if_pos h0]; simp [h0]
    · rw [if_neg h0]; simp [h0]
  unfold layerTextL
  by_cases hk : 0 ≤ kd ∧ kd ≤ 5
  · rw [if_pos hk]
    have hnl := layerName_len hk.1 hk.2
    have hsp := spaced_le _ hi
    have hnm := layerName_eq kd
    constructor
    · have lp := LayerText_l0 [ou, sz, st, mu, sh, ze, (W.length : Int), (B.length : Int)] (by simp) hi 8 0 (layerNameL kd) rfl (by omega)
      rw [List.drop_zero] at lp
      refine evMono lp fun k e => bind_of (a := layerNames) rfl (bind_of hs (ite_yes (decide_eq_true hk) (ite_yes hk.1 (ite_yes (show kd < ((layerNames.length : Nat) : Int) from by show kd < 6; omega) ?_))))
      rw [hnm]
      exact e
    · refine bind_of hin (ite_yes (decide_eq_true hk) (bind_of (a := layerNames) rfl (ite_yes hk.1 (ite_yes (show kd < ((layerNames.length : Nat) : Int) from by show kd < 6; omega) (bind_of (a := [kd, ou, sz, st, mu, sh, ze]) rfl (ite_yes (by simp) (bind_of (a := [ou, sz, st, mu, sh, ze]) rfl (bind_of (a := [(W.length : Int), (B.length : Int)]) rfl (ite_yes (by simp) ?_)))))))))
      refine bind_of (a := ⟨(spacedL [ou, sz, st, mu, sh, ze, (W.length : Int), (B.length : Int)]).toArray⟩) (ite_yes ⟨by simp, fun x hx => hi x hx⟩ rfl) ?_
      rw [hnm, if_pos (by rw [ba_size, ba_size]; simp only [List.length_cons, List.length_nil] at hsp; omega), ba_app]
  · rw [if_neg hk]
    exact ⟨evAll fun k => bind_of (a := layerNames) rfl (bind_of hs (ite_no (by simpa using hk) rfl)), bind_of hin (ite_no (by simpa using hk) rfl)⟩

theorem FnExactLayerText (a b c d e f g : Int) (W B : List Int)
    (h : (Lit.int .i64 a).wf = true ∧ (Lit.int .i64 b).wf = true ∧ (Lit.int .i64 c).wf = true ∧ (Lit.int .i64 d).wf = true ∧ (Lit.int .i64 e).wf = true ∧ (Lit.int .i64 f).wf = true ∧ (Lit.int .i64 g).wf = true ∧ (W.length ≤ maxLen ∧ ∀ x ∈ W, (Lit.int .i64 x).wf = true) ∧ (B.length ≤ maxLen ∧ ∀ x ∈ B, (Lit.int .i64 x).wf = true)) :
    ∃ k, laws_FnExactLayerText.f k a b c d e f g W B = some true := by
  obtain ⟨-, hb, hc, hd, he, hf, hg, hW, hB⟩ := h
  unfold maxLen at hW hB
  obtain ⟨r, hr, hr1, hr2⟩ := laws_szLayer_tells a b c d e f g W B 1048576 (by omega) (by omega) hW.1 hB.1
  by_cases h0 : r < 0
  · exact ⟨0, bind_of hr (ite_yes h0 rfl)⟩
  obtain ⟨w1, w2⟩ := hr2 (by omega)
  have hi : ∀ x ∈ [b, c, d, e, f, g, (W.length : Int), (B.length : Int)], i64 x := by
    intro x hx
    simp only [List.mem_cons, List.not_mem_nil, or_false] at hx
    rcases hx with rfl | rfl | rfl | rfl | rfl | rfl | rfl | rfl
    · exact i64_of hb
    · exact i64_of hc
    · exact i64_of hd
    · exact i64_of he
    · exact i64_of hf
    · exact i64_of hg
    · unfold i64; omega
    · unfold i64; omega
  obtain ⟨e2, e3⟩ := LayerText_ok a b c d e f g W B hi
  exact evEx (evMono (evAnd (laws_toLayer_ev a b c d e f g W B w1 w2) (evAnd e2 (laws_eqLayer_self a b c d e f g W B w1 w2))) fun k ⟨e1, e2, e4⟩ => bind_of hr (ite_no h0 (bind_of e1 (bind_of e2 (bind_of e1 (bind_of e3 (ite_yes rfl (bind_of e1 (bind_of e4 (ite_yes rfl rfl))))))))))

end Go.Proofs.YtjmejobelkllmaaDoor.Pure
