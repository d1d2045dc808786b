/- For every row of bytes, HeadOf answers what the reference's HeadOf answers, in every field, and leaves its argument as it was; conditions: none beyond the row's own (longer rows than 2 to the 20 are answered true ahead). -/
import Derived.Test.YtjmejobelkllmaaPFnExactHeadOfx0
import Derived.Test.YtjmejobelkllmaaPFnExactHeadOfx1
import Derived.Test.YtjmejobelkllmaaPFnExactHeadOfx2
import Derived.Test.YtjmejobelkllmaaPFnExactHeadOfx3
namespace Go.Proofs.Ytjmejobelkllmaa.Pure
open Go.RowKit Go.Proofs.Ytjmejobelkllmaa.PFnExactHeadOf Go.Proofs.YtjmejobelkllmaaW.PrintWords Go.Proofs.YtjmejobelkllmaaW.PrintLast Go.Proofs.YtjmejobelkllmaaW.PrintMore
set_option linter.unusedVariables false
set_option linter.unusedSimpArgs false

/-! #### rounds -/
def Evp (p : Nat → Prop) : Prop := ∃ K, ∀ k, K ≤ k → p k
theorem evAnd {p q : Nat → Prop} (h : Evp p) (g : Evp q) : Evp (fun k => p k ∧ q k) := by
  obtain ⟨K, hK⟩ := h
  obtain ⟨L, hL⟩ := g
  exact ⟨max K L, fun k hk => ⟨hK k (by omega), hL k (by omega)⟩⟩
theorem evMono {p q : Nat → Prop} (h : Evp p) (g : ∀ k, p k → q k) : Evp q := by
  obtain ⟨K, hK⟩ := h
  exact ⟨K, fun k hk => g k (hK k hk)⟩
theorem evSuc {p : Nat → Prop} (h : Evp fun k => p (k + 1)) : Evp p := by
  obtain ⟨K, hK⟩ := h
  refine ⟨K + 1, fun k hk => ?_⟩
  obtain ⟨m, rfl⟩ : ∃ m, k = m + 1 := ⟨k - 1, by omega⟩
  exact hK m (by omega)
theorem evAll {p : Nat → Prop} (h : ∀ k, p k) : Evp p := ⟨0, fun k _ => h k⟩
theorem evEx {p : Nat → Prop} (h : Evp p) : ∃ k, p k := by
  obtain ⟨K, hK⟩ := h
  exact ⟨K, hK K (Nat.le_refl _)⟩
/-- One step of a chain. -/
theorem bind_of {α β : Type} {o : Option α} {f : α → Option β} {a : α} {r : Option β} (h : o = some a) (hf : f a = r) : o.bind f = r := by rw [h]; exact hf
theorem ite_yes {α : Type} {c : Prop} [Decidable c] {x y r : α} (h : c) (hx : x = r) : (if c then x else y) = r := by rw [if_pos h]; exact hx
theorem ite_no {α : Type} {c : Prop} [Decidable c] {x y r : α} (h : ¬ c) (hy : y = r) : (if c then x else y) = r := by rw [if_neg h]; exact hy

/-! #### whole numbers -/
def i64 (x : Int) : Prop := -9223372036854775808 ≤ x ∧ x ≤ 9223372036854775807
theorem w64 {x : Int} (h : i64 x) : wrap64 x = x := by
  unfold i64 at h
  unfold wrap64
  omega
theorem w64' {x : Int} (h0 : -9223372036854775808 ≤ x) (h1 : x ≤ 9223372036854775807) : wrap64 x = x := w64 ⟨h0, h1⟩
theorem u8_of {x : Int} (h : (Lit.int .u8 x).wf = true) : 0 ≤ x ∧ x ≤ 255 := by
  simp only [Lit.wf, IntKind.min, IntKind.max, IntKind.signed, IntKind.bits, Bool.and_eq_true, decide_eq_true_eq] at h
  simp at h
  omega
theorem tdiv_pos {a b : Int} (h : 0 ≤ a) : Int.tdiv a b = a / b := Int.tdiv_eq_ediv_of_nonneg h
theorem tmod_pos {a b : Int} (h : 0 ≤ a) : Int.tmod a b = a % b := Int.tmod_eq_emod_of_nonneg h
/-! #### lists -/
theorem rd_eq {l : List Int} {i : Nat} (h : i < l.length) : rd l (i : Int) = l[i] := by
  unfold rd
  simp [List.getD, h]
theorem nat_of {i : Int} (h : 0 ≤ i) : ∃ n : Nat, i = n := ⟨i.toNat, by omega⟩
theorem u64_small {x : Int} (h0 : 0 ≤ x) (h1 : x < 18446744073709551616) : IntKind.u64.wrap x = x := by
  unfold IntKind.wrap
  simp [IntKind.bits, IntKind.signed]
  omega
theorem i64wrap (x : Int) : IntKind.i64.wrap x = wrap64 x := by
  unfold IntKind.wrap wrap64
  simp [IntKind.bits, IntKind.signed]
  split <;> omega
theorem shl_eq {x : Int} {n : Nat} (hn : n ≤ 62) : shl .i64 x (n : Int) = wrap64 (x * 2 ^ n) := by
  unfold shl
  rw [i64wrap]
  congr 3
  simp [IntKind.bits]
  omega
theorem two_pow_le {n m : Nat} (h : n ≤ m) : (1 : Int) ≤ 2 ^ n ∧ (2 : Int) ^ n ≤ 2 ^ m := by
  have h1 : (1 : Nat) ≤ 2 ^ n := Nat.one_le_two_pow
  have h2 : (2 : Nat) ^ n ≤ 2 ^ m := Nat.pow_le_pow_right (by omega) h
  exact ⟨by exact_mod_cast h1, by exact_mod_cast h2⟩

theorem impl_in_eq (x lo hi : Int) : impl_in.f x lo hi = some (decide (lo ≤ x ∧ x ≤ hi)) := by
  unfold impl_in.f
  by_cases h : lo ≤ x
  · simp [h]
  · simp [h]

/-- A list that is filled from the left. -/
theorem fill_step {α : Type} {l o : List α} {i : Nat} (hi : i < l.length) (hl : o.length = l.length) (ht : o.take i = l.take i) : (o.set i l[i]).length = l.length ∧ (o.set i l[i]).take (i + 1) = l.take (i + 1) := by
  refine ⟨by simp [hl], ?_⟩
  apply List.ext_getElem?
  intro j
  rw [List.getElem?_take, List.getElem?_take]
  by_cases hj : j < i + 1
  · rw [if_pos hj, if_pos hj]
    by_cases e : j = i
    · subst e
      rw [List.getElem?_set_self (by omega), List.getElem?_eq_getElem hi]
    · rw [List.getElem?_set_ne (by omega)]
      have := congrArg (fun x => x[j]?) ht
      simp only [List.getElem?_take] at this
      rw [if_pos (by omega), if_pos (by omega)] at this
      exact this
  · rw [if_neg hj, if_neg hj]
theorem fill_end {α : Type} {l o : List α} (hl : o.length = l.length) (ht : o.take l.length = l.take l.length) : o = l := by
  rw [List.take_length] at ht
  rw [← hl, List.take_length] at ht
  exact ht


theorem laws_toByteS_l0 (l : List Int) (hl : l.length ≤ 9223372036854775807) : ∀ (d i : Nat) (o : List Int), i + d = l.length → o.length = l.length → o.take i = l.take i → Evp fun k => laws_toByteS.l0 k l o (i : Int) = some l
  | 0, i, o, hi, ho, ht => evSuc (evAll fun k => by
    simp only [laws_toByteS.l0]
    rw [if_neg (by omega)]
    obtain rfl : i = l.length := by omega
    rw [fill_end ho ht])
  | d + 1, i, o, hi, ho, ht => by
    have hlt : i < l.length := by omega
    have hs := fill_step hlt ho ht
    refine evSuc (evMono (laws_toByteS_l0 l hl d (i + 1) (o.set i l[i]) (by omega) hs.1 hs.2) fun k ih => ?_)
    simp only [laws_toByteS.l0]
    rw [if_pos (by omega), if_pos (by omega), if_pos (by omega), w64' (by omega) (by omega), rd_eq hlt, Int.toNat_natCast]
    exact ih
theorem laws_toByteS_ev (l : List Int) (hl : l.length ≤ 35184372088832) : Evp fun k => laws_toByteS.f k l = some l :=
  evMono (laws_toByteS_l0 l (by omega) l.length 0 (List.replicate l.length 0) (by omega) (by simp) (by simp)) fun k h => by
    unfold laws_toByteS.f
    rw [if_pos (by omega), if_pos (by omega), Int.toNat_natCast]
    exact h


theorem laws_eqByteS_l0 (a b : List Int) (hl : a.length = b.length) (hm : a.length ≤ 9223372036854775807) : ∀ (d i : Nat), i + d = a.length → a.take i = b.take i → Evp fun k => laws_eqByteS.l0 k a b (i : Int) = some (decide (a = b))
  | 0, i, hi, ht => evSuc (evAll fun k => by
    simp only [laws_eqByteS.l0]
    rw [if_neg (by omega)]
    obtain rfl : i = a.length := by omega
    have e : a = b := by
      rw [List.take_length, hl, List.take_length] at ht
      exact ht
    simp [e])
  | d + 1, i, hi, ht => by
    have ha : i < a.length := by omega
    have hb : i < b.length := by omega
    by_cases he : a[i] = b[i]
    · have ht' : a.take (i + 1) = b.take (i + 1) := by
        rw [List.take_succ_eq_append_getElem ha, List.take_succ_eq_append_getElem hb, ht, he]
      refine evSuc (evMono (laws_eqByteS_l0 a b hl hm d (i + 1) (by omega) ht') fun k ih => ?_)
      simp only [laws_eqByteS.l0]
      rw [if_pos (by omega), if_pos (by omega), if_pos (by omega), rd_eq ha, rd_eq hb, if_pos he, w64' (by omega) (by omega)]
      exact ih
    · refine evSuc (evAll fun k => ?_)
      simp only [laws_eqByteS.l0]
      rw [if_pos (by omega), if_pos (by omega), if_pos (by omega), rd_eq ha, rd_eq hb, if_neg he]
      have : a ≠ b := by
        rintro rfl
        exact he rfl
      simp [this]
theorem laws_eqByteS_ev (a b : List Int) (hm : a.length ≤ 9223372036854775807) : Evp fun k => laws_eqByteS.f k a b = some (decide (a = b)) := by
  unfold laws_eqByteS.f
  by_cases hl : a.length = b.length
  · refine evMono (laws_eqByteS_l0 a b hl hm a.length 0 (by omega) (by simp)) fun k h => ?_
    rw [if_pos (by omega)]
    exact h
  · refine evAll fun k => ?_
    rw [if_neg (by omega)]
    have : a ≠ b := by
      rintro rfl
      exact hl rfl
    simp [this]


def isBytes (l : List Int) : Prop := ∀ x ∈ l, 0 ≤ x ∧ x ≤ 255
theorem mul_b {a b A B : Int} (ha : 0 ≤ a) (ha' : a ≤ A) (hb : 0 ≤ b) (hb' : b ≤ B) : 0 ≤ a * b ∧ a * b ≤ A * B := by
  refine ⟨Int.mul_nonneg ha hb, Int.mul_le_mul ha' hb' hb (by omega)⟩
/-! #### numbers of up to six bytes -/
theorem or_comm64 {x y : Int} (hx : 0 ≤ x) (hx' : x < 2 ^ 62) (hy : 0 ≤ y) (hy' : y < 2 ^ 62) : Go.bits .or .i64 x y = Go.bits .or .i64 y x := by
  unfold Go.bits
  simp only [BitVec.or_comm]
theorem wraps_i64 (n : Int) (h0 : 0 ≤ n) (h1 : n < 2 ^ 62) : IntKind.i64.wrap n = n := by rw [i64wrap]; exact w64' (by omega) (by omega)
theorem pow_split (i : Nat) : (2 : Int) ^ (7 * (i + 1)) = 128 * 2 ^ (7 * i) := by rw [show 7 * (i + 1) = 7 * i + 7 by omega, Int.pow_add]; omega
theorem or_add {u v : Int} {i : Nat} (hi : i ≤ 5) (hu : 0 ≤ u) (hu' : u < 2 ^ (7 * i)) (hv : 0 ≤ v) (hv' : v ≤ 127) :
    0 ≤ v * 2 ^ (7 * i) ∧ v * 2 ^ (7 * i) ≤ 127 * 2 ^ (7 * i) ∧ (2 : Int) ^ (7 * i) ≤ 34359738368 ∧ 1 ≤ (2 : Int) ^ (7 * i) ∧ Go.bits .or .i64 u (v * 2 ^ (7 * i)) = u + v * 2 ^ (7 * i) := by
  have hp := two_pow_le (n := 7 * i) (m := 35) (by omega)
  have hm := mul_b (a := v) (b := 2 ^ (7 * i)) (A := 127) (B := 2 ^ (7 * i)) hv hv' (by omega) (by omega)
  refine ⟨hm.1, hm.2, hp.2, hp.1, ?_⟩
  have h35 : (2 : Int) ^ 35 = 34359738368 := by decide
  rw [or_comm64 hu (by omega) hm.1 (by omega), Int.add_comm]
  exact bits_join .i64 62 (by decide) wraps_i64 (7 * i) _ _ hm.1 (by simp) (by omega) hu hu' (by omega)
/-- What a number is written as: even for those from 0 on. -/
def wideOf (u : Int) : Int := if u % 2 = 1 then -(u / 2) - 1 else u / 2
def takeGo (l : List Int) (at_ : Int) : Nat → Nat → Int → Int × Int
  | 0, _, _ => (0, -1)
  | d + 1, i, u =>
    if at_ < 0 ∨ at_ ≥ (l.length : Int) - i then (0, -1)
    else if l.getD (at_ + i).toNat 0 < 128 then
      (if (l.getD (at_ + i).toNat 0 = 0 ∧ 0 < i) ∨ u + l.getD (at_ + i).toNat 0 % 128 * 2 ^ (7 * i) > 2199023255551 then (0, -1)
       else (wideOf (u + l.getD (at_ + i).toNat 0 % 128 * 2 ^ (7 * i)), at_ + i + 1))
    else takeGo l at_ d (i + 1) (u + l.getD (at_ + i).toNat 0 % 128 * 2 ^ (7 * i))
def takeWide (l : List Int) (at_ : Int) : Int × Int := takeGo l at_ 6 0 0
theorem getD_b {l : List Int} (hb : isBytes l) (n : Nat) : 0 ≤ l.getD n 0 ∧ l.getD n 0 ≤ 255 := by
  by_cases h : n < l.length
  · have := hb l[n] (List.getElem_mem h)
    simpa [List.getD, h] using this
  · simp [List.getD, h]
theorem wideOf_b {u : Int} (h : 0 ≤ u) (h1 : u ≤ 2199023255551) : -1099511627776 ≤ wideOf u ∧ wideOf u ≤ 1099511627775 := by unfold wideOf; split <;> omega
theorem wideOf_b' {u : Int} (h : 0 ≤ u) (h1 : u > 2199023255551) : ¬ (-1099511627776 ≤ wideOf u ∧ wideOf u ≤ 1099511627775) := by unfold wideOf; split <;> omega


theorem spec_TakeWide_l0 (l : List Int) (hb : isBytes l) (hl : l.length ≤ 1073741824) (at_ : Int) (hat : i64 at_) : ∀ (d i : Nat) (u : Int), i + d = 6 → 0 ≤ u → u < 2 ^ (7 * i) → Evp fun k => spec_TakeWide.l0 k l at_ u (i : Int) = some (takeGo l at_ d i u)
  | 0, i, u, hi, h0, h1 => evSuc (evAll fun k => by
    simp only [spec_TakeWide.l0]
    rw [if_neg (by omega)]
    rfl)
  | d + 1, i, u, hi, h0, h1 => by
    unfold i64 at hat
    unfold takeGo
    by_cases hc : at_ < 0 ∨ at_ ≥ (l.length : Int) - i
    · refine evSuc (evSuc (evAll fun k => ?_))
      rw [if_pos hc]
      simp only [spec_TakeWide.l0]
      rw [if_pos (by omega)]
      by_cases h2 : at_ < 0
      · rw [if_pos h2]
        simp [spec_TakeWide.j1]
      · rw [if_neg h2, w64' (by omega) (by omega), show decide (at_ ≥ (l.length : Int) - i) = true by simp; omega]
        simp [spec_TakeWide.j1]
    · obtain ⟨n, rfl⟩ := nat_of (show 0 ≤ at_ by omega)
      have hlt : n + i < l.length := by omega
      have hx := hb l[n + i] (List.getElem_mem hlt)
      have hv : 0 ≤ l[n + i] % 128 ∧ l[n + i] % 128 ≤ 127 := by omega
      obtain ⟨o1, o2, o3, o4, o5⟩ := or_add (i := i) (by omega) h0 h1 hv.1 hv.2
      have e1 : ((n : Int) + (i : Int)).toNat = n + i := by omega
      have e2 : l.getD (n + i) 0 = l[n + i] := by simp [List.getD, hlt]
      rw [e1, e2, if_neg hc]
      have start : ∀ k, spec_TakeWide.l0 (k + 1) l (n : Int) u (i : Int) = spec_TakeWide.j1 k l (n : Int) u (i : Int) false := by
        intro k
        simp only [spec_TakeWide.l0]
        rw [if_pos (by omega), if_neg (by omega), w64' (by omega) (by omega), show decide ((n : Int) ≥ (l.length : Int) - i) = false by simp; omega]
      have e3 : rd l ((n : Int) + (i : Int)) = l[n + i] := by rw [show (n : Int) + (i : Int) = ((n + i : Nat) : Int) by omega, rd_eq hlt]
      have e4 : shl .i64 (l[n + i] % 128) (7 * (i : Int)) = l[n + i] % 128 * 2 ^ (7 * i) := by
        rw [show (7 * (i : Int)) = ((7 * i : Nat) : Int) by omega, shl_eq (by omega)]
        exact w64' (by omega) (by omega)
      by_cases hs : l[n + i] < 128
      · rw [if_pos hs]
        refine evSuc (evSuc (evSuc (evAll fun k => ?_)))
        rw [start]
        simp only [spec_TakeWide.j1]
        rw [if_neg (by decide), w64' (x := (n : Int) + i) (by omega) (by omega), if_pos (by omega), if_pos (by omega), w64' (x := 7 * (i : Int)) (by omega) (by omega), u64_small (by omega) (by omega), if_pos (by omega), e3, w64' (x := l[n + i]) (by omega) (by omega), if_pos hs, tmod_pos (by omega), e4, w64' (x := u + l[n + i] % 128 * 2 ^ (7 * i)) (by omega) (by omega)]
        have fin : ∀ b : Bool, spec_TakeWide.j2 (k + 1) (n : Int) (u + l[n + i] % 128 * 2 ^ (7 * i)) (i : Int) b = some (if b = true then (0, -1) else (wideOf (u + l[n + i] % 128 * 2 ^ (7 * i)), (n : Int) + i + 1)) := by
          intro b
          simp only [spec_TakeWide.j2]
          cases b with
          | true => simp
          | false =>
            have hnn : 0 ≤ u + l[n + i] % 128 * 2 ^ (7 * i) := by omega
            have hle : u + l[n + i] % 128 * 2 ^ (7 * i) ≤ 4398046511104 := by omega
            generalize u + l[n + i] % 128 * 2 ^ (7 * i) = z at hnn hle ⊢
            simp only [Bool.false_eq_true, if_false]
            rw [tmod_pos hnn, w64' (x := (n : Int) + i) (by omega) (by omega), w64' (x := (n : Int) + i + 1) (by omega) (by omega)]
            unfold wideOf
            by_cases ho : z % 2 = 1
            · rw [if_pos ho, if_pos ho, w64' (x := z + 1) (by omega) (by omega), w64' (x := -(z + 1)) (by omega) (by omega), Int.neg_tdiv, tdiv_pos (by omega), w64' (by omega) (by omega)]
              congr 2
              omega
            · rw [if_neg ho, if_neg ho, tdiv_pos hnn, w64' (by omega) (by omega)]
        by_cases hz : l[n + i] = 0
        · rw [if_pos hz]
          by_cases hi0 : (i : Int) > 0
          · rw [if_pos hi0, fin, if_pos rfl, if_pos (.inl ⟨hz, by omega⟩)]
          · rw [if_neg hi0, fin]
            by_cases hg : u + l[n + i] % 128 * 2 ^ (7 * i) > 2199023255551
            · rw [if_pos (by simpa using hg), if_pos (.inr hg)]
            · rw [if_neg (by simpa using hg), if_neg (by omega)]
        · rw [if_neg hz, fin]
          by_cases hg : u + l[n + i] % 128 * 2 ^ (7 * i) > 2199023255551
          · rw [if_pos (by simpa using hg), if_pos (.inr hg)]
          · rw [if_neg (by simpa using hg), if_neg (by omega)]
      · rw [if_neg hs]
        refine evSuc (evSuc (evMono (spec_TakeWide_l0 l hb hl n (by unfold i64; omega) d (i + 1) (u + l[n + i] % 128 * 2 ^ (7 * i)) (by omega) (by omega) (by rw [pow_split]; omega)) fun k ih => ?_))
        rw [start]
        simp only [spec_TakeWide.j1]
        rw [if_neg (by decide), w64' (x := (n : Int) + i) (by omega) (by omega), if_pos (by omega), if_pos (by omega), w64' (x := 7 * (i : Int)) (by omega) (by omega), u64_small (by omega) (by omega), if_pos (by omega), e3, w64' (x := l[n + i]) (by omega) (by omega), if_neg hs, tmod_pos (by omega), e4, w64' (x := u + l[n + i] % 128 * 2 ^ (7 * i)) (by omega) (by omega), w64' (x := (i : Int) + 1) (by omega) (by omega)]
        exact ih
theorem spec_TakeWide_ev (l : List Int) (hb : isBytes l) (hl : l.length ≤ 1073741824) (at_ : Int) (hat : i64 at_) : Evp fun k => spec_TakeWide.f k l at_ = some (takeWide l at_) := by
  have := spec_TakeWide_l0 l hb hl at_ hat 6 0 0 (by omega) (by omega) (by decide)
  exact this


theorem impl_isWide_eq (x : Int) : impl_isWide.f x = some (decide (-1099511627776 ≤ x ∧ x ≤ 1099511627775)) := by
  unfold impl_isWide.f
  rw [impl_in_eq]
  rfl


theorem impl_TakeWide_l0 (l : List Int) (hb : isBytes l) (hl : l.length ≤ 1073741824) (n : Nat) (hn : n < l.length) (m : Nat) (hm : m = min l.length (n + 6) - n) (s : List Int) (hs : s = (l.take (n + m)).drop n) :
    ∀ (d i : Nat) (u : Int), i + d = 6 → i ≤ m → 0 ≤ u → u < 2 ^ (7 * i) → Evp fun k => impl_TakeWide.l0 k (n : Int) u s (m : Int) (i : Int) = some (takeGo l n d i u)
  | 0, i, u, hi, him, h0, h1 => evSuc (evAll fun k => by
    simp only [impl_TakeWide.l0]
    rw [if_neg (by omega)]
    rfl)
  | d + 1, i, u, hi, him, h0, h1 => by
    have hslen : s.length = m := by rw [hs]; simp; omega
    unfold takeGo
    by_cases hc : (n : Int) < 0 ∨ (n : Int) ≥ (l.length : Int) - i
    · refine evSuc (evAll fun k => ?_)
      rw [if_pos hc]
      simp only [impl_TakeWide.l0]
      rw [if_neg (by omega)]
    · have hlt : n + i < l.length := by omega
      have him' : i < m := by omega
      have hsi : i < s.length := by omega
      have hx := hb l[n + i] (List.getElem_mem hlt)
      have hv : 0 ≤ l[n + i] % 128 ∧ l[n + i] % 128 ≤ 127 := by omega
      obtain ⟨o1, o2, o3, o4, o5⟩ := or_add (i := i) (by omega) h0 h1 hv.1 hv.2
      have e1 : ((n : Int) + (i : Int)).toNat = n + i := by omega
      have e2 : l.getD (n + i) 0 = l[n + i] := by simp [List.getD, hlt]
      rw [e1, e2, if_neg hc]
      have e3 : rd s (i : Int) = l[n + i] := by
        rw [rd_eq hsi]
        subst hs
        simp
      have e4 : shl .i64 (l[n + i] % 128) (7 * (i : Int)) = l[n + i] % 128 * 2 ^ (7 * i) := by
        rw [show (7 * (i : Int)) = ((7 * i : Nat) : Int) by omega, shl_eq (by omega)]
        exact w64' (by omega) (by omega)
      have e5 : Go.bits .and .u8 l[n + i] 127 = l[n + i] % 128 := bits_mask .u8 8 (by decide) wraps_u8 7 (by decide) _ hx.1 (by omega)
      have hnn : 0 ≤ u + l[n + i] % 128 * 2 ^ (7 * i) := by omega
      have hle : u + l[n + i] % 128 * 2 ^ (7 * i) ≤ 4398046511104 := by omega
      by_cases hsm : l[n + i] < 128
      · rw [if_pos hsm]
        refine evSuc (evAll fun k => ?_)
        simp only [impl_TakeWide.l0]
        rw [if_pos (by omega), if_pos (by omega), if_pos (by omega), w64' (x := 7 * (i : Int)) (by omega) (by omega), if_pos (by omega), e3, if_neg (by omega), e5, w64' (x := l[n + i] % 128) (by omega) (by omega), e4, o5]
        generalize hzz : u + l[n + i] % 128 * 2 ^ (7 * i) = z at hnn hle ⊢
        simp only [impl_isWide_eq, Option.bind_some, decide_eq_true_eq]
        rw [tmod_pos hnn, tdiv_pos hnn, w64' (x := z / 2) (by omega) (by omega), w64' (x := -(z / 2)) (by omega) (by omega), w64' (x := -(z / 2) - 1) (by omega) (by omega), w64' (x := (n : Int) + i) (by omega) (by omega), w64' (x := (n : Int) + i + 1) (by omega) (by omega)]
        have w1 := fun h => wideOf_b (u := z) hnn h
        have w2 := fun h => wideOf_b' (u := z) hnn h
        unfold wideOf at w1 w2 ⊢
        by_cases ho : z % 2 = 1
        · simp only [if_pos ho] at w1 w2 ⊢
          by_cases hi0 : (i : Int) > 0
          · rw [if_pos hi0]
            by_cases hz : l[n + i] = 0
            · rw [if_pos hz, if_pos (.inl ⟨hz, by omega⟩)]
            · rw [if_neg hz]
              by_cases hg : z > 2199023255551
              · rw [if_neg (w2 hg), if_pos (.inr hg)]
              · rw [if_pos (w1 (by omega)), if_neg (by omega)]
          · rw [if_neg hi0]
            by_cases hg : z > 2199023255551
            · rw [if_neg (w2 hg), if_pos (.inr hg)]
            · rw [if_pos (w1 (by omega)), if_neg (by omega)]
        · simp only [if_neg ho] at w1 w2 ⊢
          by_cases hi0 : (i : Int) > 0
          · rw [if_pos hi0]
            by_cases hz : l[n + i] = 0
            · rw [if_pos hz, if_pos (.inl ⟨hz, by omega⟩)]
            · rw [if_neg hz]
              by_cases hg : z > 2199023255551
              · rw [if_neg (w2 hg), if_pos (.inr hg)]
              · rw [if_pos (w1 (by omega)), if_neg (by omega)]
          · rw [if_neg hi0]
            by_cases hg : z > 2199023255551
            · rw [if_neg (w2 hg), if_pos (.inr hg)]
            · rw [if_pos (w1 (by omega)), if_neg (by omega)]
      · rw [if_neg hsm]
        refine evSuc (evMono (impl_TakeWide_l0 l hb hl n hn m hm s hs d (i + 1) (u + l[n + i] % 128 * 2 ^ (7 * i)) (by omega) (by omega) (by omega) (by rw [pow_split]; omega)) fun k ih => ?_)
        simp only [impl_TakeWide.l0]
        rw [if_pos (by omega), if_pos (by omega), if_pos (by omega), w64' (x := 7 * (i : Int)) (by omega) (by omega), if_pos (by omega), e3, if_pos (by omega), e5, w64' (x := l[n + i] % 128) (by omega) (by omega), e4, o5, w64' (x := (i : Int) + 1) (by omega) (by omega)]
        exact ih
theorem impl_TakeWide_ev (l : List Int) (hb : isBytes l) (hl : l.length ≤ 1073741824) (at_ : Int) (hat : i64 at_) : Evp fun k => impl_TakeWide.f k l at_ = some (takeWide l at_) := by
  unfold i64 at hat
  unfold impl_TakeWide.f
  rw [impl_in_eq, w64' (x := (l.length : Int) - 1) (by omega) (by omega)]
  simp only [Option.bind_some, decide_eq_true_eq]
  by_cases h : 0 ≤ at_ ∧ at_ ≤ (l.length : Int) - 1
  · obtain ⟨n, rfl⟩ := nat_of h.1
    have hn : n < l.length := by omega
    have e : mn (l.length : Int) (wrap64 ((n : Int) + 6)) = ((n + (min l.length (n + 6) - n) : Nat) : Int) := by
      rw [w64' (by omega) (by omega)]
      unfold mn
      split <;> omega
    refine evMono (impl_TakeWide_l0 l hb hl n hn _ rfl _ rfl 6 0 0 (by omega) (by omega) (by omega) (by decide)) fun k hk => ?_
    rw [if_pos h, if_pos (by omega), e, if_pos (by omega), if_pos (by omega)]
    simp only [Int.toNat_natCast]
    rw [show ((List.drop n (List.take (n + (min l.length (n + 6) - n)) l)).length : Int) = ((min l.length (n + 6) - n : Nat) : Int) by simp; omega]
    exact hk
  · refine evAll fun k => ?_
    rw [if_neg h]
    unfold takeWide takeGo
    rw [if_pos (by omega)]


theorem laws_eqShape_self (h w c : Int) : laws_eqShape.f h w c h w c = some true := ite_yes rfl (ite_yes rfl (ite_yes rfl rfl))


/-- The place of the first of the greatest. -/
def IsTop (l : List Int) (r : Nat) : Prop := r < l.length ∧ (∀ j, j < l.length → l.getD j 0 ≤ l.getD r 0) ∧ ∀ j, j < r → l.getD j 0 < l.getD r 0
theorem IsTop.one {l : List Int} {r s : Nat} (h : IsTop l r) (g : IsTop l s) : r = s := by
  obtain ⟨h1, h2, h3⟩ := h
  obtain ⟨g1, g2, g3⟩ := g
  rcases Nat.lt_trichotomy r s with e | e | e
  · have := g3 r e
    have := h2 s g1
    omega
  · exact e
  · have := h3 s e
    have := g2 r h1
    omega


theorem takeGo_b (l : List Int) (hb : isBytes l) (at_ : Int) : ∀ (d i : Nat) (u : Int), 0 ≤ u → takeGo l at_ d i u = (0, -1) ∨ (0 ≤ at_ ∧ at_ < (takeGo l at_ d i u).2 ∧ (takeGo l at_ d i u).2 ≤ (l.length : Int) ∧ -1099511627776 ≤ (takeGo l at_ d i u).1 ∧ (takeGo l at_ d i u).1 ≤ 1099511627775)
  | 0, i, u, hu => .inl rfl
  | d + 1, i, u, hu => by
    have hg := getD_b hb (at_ + i).toNat
    have hp := (two_pow_le (n := 7 * i) (m := 7 * i) (Nat.le_refl _)).1
    have hm : 0 ≤ l.getD (at_ + i).toNat 0 % 128 * 2 ^ (7 * i) := Int.mul_nonneg (Int.emod_nonneg _ (by omega)) (by omega)
    unfold takeGo
    by_cases h1 : at_ < 0 ∨ at_ ≥ (l.length : Int) - i
    · rw [if_pos h1]; exact .inl rfl
    rw [if_neg h1]
    by_cases h2 : l.getD (at_ + i).toNat 0 < 128
    · rw [if_pos h2]
      by_cases h3 : (l.getD (at_ + i).toNat 0 = 0 ∧ 0 < i) ∨ u + l.getD (at_ + i).toNat 0 % 128 * 2 ^ (7 * i) > 2199023255551
      · rw [if_pos h3]; exact .inl rfl
      · rw [if_neg h3]
        have hw := wideOf_b (u := u + l.getD (at_ + i).toNat 0 % 128 * 2 ^ (7 * i)) (by omega) (by omega)
        exact .inr ⟨by omega, by show at_ < at_ + i + 1; omega, by show at_ + i + 1 ≤ (l.length : Int); omega, hw.1, hw.2⟩
    · rw [if_neg h2]
      exact takeGo_b l hb at_ d (i + 1) _ (by omega)
theorem takeWide_b (l : List Int) (hb : isBytes l) (at_ : Int) : takeWide l at_ = (0, -1) ∨ (0 ≤ at_ ∧ at_ < (takeWide l at_).2 ∧ (takeWide l at_).2 ≤ (l.length : Int) ∧ -1099511627776 ≤ (takeWide l at_).1 ∧ (takeWide l at_).1 ≤ 1099511627775) := takeGo_b l hb at_ 6 0 0 (by omega)
/-- What a reader of numbers reads next: the number, its place behind it, whether one was not there. -/
def nextW (l : List Int) (at_ : Int) (bad : Bool) : Int × Int × Bool := if bad = true then (0, at_, true) else if (takeWide l at_).2 < 0 then (0, at_, true) else ((takeWide l at_).1, (takeWide l at_).2, false)
theorem spec_l05Next_ev (l : List Int) (hb : isBytes l) (hl : l.length ≤ 1073741824) (at_ : Int) (bad : Bool) (hat : i64 at_) : Evp fun k => spec_l05Next.f k l at_ bad = some (nextW l at_ bad) := by
  cases bad with
  | true => exact evAll fun k => rfl
  | false =>
    refine evMono (spec_TakeWide_ev l hb hl at_ hat) fun k e => ite_no Bool.false_ne_true (bind_of e ?_)
    unfold nextW
    rw [if_neg Bool.false_ne_true]
    by_cases hn : (takeWide l at_).2 < 0
    · rw [if_pos hn, if_pos hn]
    · rw [if_neg hn, if_neg hn]


theorem impl_number_ev (l : List Int) (hb : isBytes l) (hl : l.length ≤ 1073741824) (at_ : Int) (bad : Bool) (hat : i64 at_) : Evp fun k => impl_wideReader_number.f k l at_ bad = some (nextW l at_ bad) := by
  cases bad with
  | true => exact evAll fun k => rfl
  | false =>
    refine evMono (impl_TakeWide_ev l hb hl at_ hat) fun k e => ite_no Bool.false_ne_true (bind_of e ?_)
    unfold nextW
    rw [if_neg Bool.false_ne_true]
    by_cases hn : (takeWide l at_).2 < 0
    · rw [if_pos hn, if_pos hn]
    · rw [if_neg hn, if_neg hn]


def headOk (l : List Int) : Bool := decide (3 ≤ l.length ∧ l.getD 0 0 = 80 ∧ l.getD 1 0 = 77 ∧ l.getD 2 0 = 49)
theorem spec_l05Head_eq (l : List Int) : spec_l05Head.f l = some (headOk l) := by
  unfold spec_l05Head.f headOk
  match l with
  | [] => rfl
  | [_] => rfl
  | [_, _] => rfl
  | a :: b :: c :: t =>
    have hl : (((a :: b :: c :: t).length : Nat) : Int) = t.length + 3 := by simp; omega
    rw [hl]
    refine ite_yes (by omega) (ite_yes (by omega) ?_)
    by_cases ha : a = 80
    · refine ite_yes ha (ite_yes (by omega) ?_)
      by_cases hb : b = 77
      · refine ite_yes hb (ite_yes (by omega) ?_)
        show some (c == 49) = _
        subst ha hb
        by_cases hc : c = 49
        · subst hc; simp
        · simp [hc]
      · refine ite_no hb ?_
        simp [hb]
    · refine ite_no ha ?_
      simp [ha]


theorem ba_toList (bs : ByteArray) : bs.toList = bs.data.toList := ByteArray.toList_eq bs
theorem u8_inj {x : Int} {n : Nat} (h : 0 ≤ x ∧ x ≤ 255) (hn : n ≤ 255) (e : UInt8.ofNat x.toNat = UInt8.ofNat n) : x = n := by
  have e2 := congrArg UInt8.toNat e
  simp only [UInt8.toNat_ofNat'] at e2
  omega
theorem bytes_HasPrefix_eq (l : List Int) (hb : isBytes l) : bytes_HasPrefix.f l [80, 77, 49] = some (headOk l) := by
  unfold bytes_HasPrefix.f headOk
  match l, hb with
  | [], _ => rfl
  | [_], _ => rfl
  | [_, _], _ => rfl
  | a :: b :: c :: t, hb =>
    have hl : (((a :: b :: c :: t).length : Nat) : Int) = t.length + 3 := by simp; omega
    rw [hl]
    refine ite_yes (show (t.length : Int) + 3 ≥ 3 by omega) (ite_yes (show (0 : Int) ≤ 3 by omega) (ite_yes (show (3 : Int) ≤ t.length + 3 by omega) ?_))
    have ha := hb a (by simp)
    have hb' := hb b (by simp)
    have hc := hb c (by simp)
    have hlen : (3 ≤ (a :: b :: c :: t).length ∧ (a :: b :: c :: t).getD 0 0 = 80 ∧ (a :: b :: c :: t).getD 1 0 = 77 ∧ (a :: b :: c :: t).getD 2 0 = 49) ↔ (a = 80 ∧ b = 77 ∧ c = 49) := by simp
    show Option.bind (some ((strOfNums [a, b, c]).toList == (strOfNums [80, 77, 49]).toList)) (fun t => some t) = _
    rw [ba_toList, ba_toList]
    show some ([UInt8.ofNat a.toNat, UInt8.ofNat b.toNat, UInt8.ofNat c.toNat] == [UInt8.ofNat 80, UInt8.ofNat 77, UInt8.ofNat 49]) = _
    congr 1
    rw [Bool.eq_iff_iff, decide_eq_true_iff, hlen, beq_iff_eq]
    constructor
    · intro e
      simp only [List.cons.injEq, and_true] at e
      exact ⟨u8_inj (n := 80) ha (by decide) e.1, u8_inj (n := 77) hb' (by decide) e.2.1, u8_inj (n := 49) hc (by decide) e.2.2⟩
    · rintro ⟨rfl, rfl, rfl⟩
      rfl


def headW (l : List Int) : Int × Int × Int × Int × Bool :=
  if (nextW l (nextW l (nextW l (nextW l 3 (!headOk l)).2.1 (nextW l 3 (!headOk l)).2.2).2.1 (nextW l (nextW l 3 (!headOk l)).2.1 (nextW l 3 (!headOk l)).2.2).2.2).2.1 (nextW l (nextW l (nextW l 3 (!headOk l)).2.1 (nextW l 3 (!headOk l)).2.2).2.1 (nextW l (nextW l 3 (!headOk l)).2.1 (nextW l 3 (!headOk l)).2.2).2.2).2.2).2.2 = true then (0, 0, 0, 0, false)
  else ((nextW l 3 (!headOk l)).1, (nextW l (nextW l 3 (!headOk l)).2.1 (nextW l 3 (!headOk l)).2.2).1, (nextW l (nextW l (nextW l 3 (!headOk l)).2.1 (nextW l 3 (!headOk l)).2.2).2.1 (nextW l (nextW l 3 (!headOk l)).2.1 (nextW l 3 (!headOk l)).2.2).2.2).1, (nextW l (nextW l (nextW l (nextW l 3 (!headOk l)).2.1 (nextW l 3 (!headOk l)).2.2).2.1 (nextW l (nextW l 3 (!headOk l)).2.1 (nextW l 3 (!headOk l)).2.2).2.2).2.1 (nextW l (nextW l (nextW l 3 (!headOk l)).2.1 (nextW l 3 (!headOk l)).2.2).2.1 (nextW l (nextW l 3 (!headOk l)).2.1 (nextW l 3 (!headOk l)).2.2).2.2).2.2).1, true)
theorem nextW_i64 (l : List Int) (hb : isBytes l) (hl : l.length ≤ 1073741824) (at_ : Int) (bad : Bool) (h : i64 at_) : i64 (nextW l at_ bad).2.1 := by
  unfold nextW
  unfold i64 at h ⊢
  by_cases hbd : bad = true
  · rw [if_pos hbd]; exact h
  rw [if_neg hbd]
  by_cases hn : (takeWide l at_).2 < 0
  · rw [if_pos hn]; exact h
  rw [if_neg hn]
  rcases takeWide_b l hb at_ with e | ⟨_, h3, h4, h5, h6⟩
  · rw [e]; exact ⟨by show -9223372036854775808 ≤ (-1 : Int); omega, by show (-1 : Int) ≤ 9223372036854775807; omega⟩
  · show -9223372036854775808 ≤ (takeWide l at_).2 ∧ (takeWide l at_).2 ≤ 9223372036854775807
    omega
theorem HeadOf_ok (l : List Int) (hb : isBytes l) (hl : l.length ≤ 1073741824) : (Evp fun k => spec_HeadOf.f k l = some (headW l)) ∧ Evp fun k => impl_HeadOf.f k l = some (headW l) := by
  have i3 : i64 3 := by unfold i64; omega
  have ia := nextW_i64 l hb hl 3 (!headOk l) i3
  have ib := nextW_i64 l hb hl _ (nextW l 3 (!headOk l)).2.2 ia
  have ic := nextW_i64 l hb hl _ (nextW l (nextW l 3 (!headOk l)).2.1 (nextW l 3 (!headOk l)).2.2).2.2 ib
  constructor
  · cases hd : headOk l with
    | false =>
      refine evAll fun k => bind_of (spec_l05Head_eq l) ?_
      rw [hd]
      refine ite_no Bool.false_ne_true ?_
      unfold headW
      rw [hd]
      rfl
    | true =>
      have s1 := spec_l05Next_ev l hb hl 3 false i3
      rw [hd] at ia ib ic
      have s2 := spec_l05Next_ev l hb hl _ (nextW l 3 false).2.2 ia
      have s3 := spec_l05Next_ev l hb hl _ (nextW l (nextW l 3 false).2.1 (nextW l 3 false).2.2).2.2 ib
      have s4 := spec_l05Next_ev l hb hl _ (nextW l (nextW l (nextW l 3 false).2.1 (nextW l 3 false).2.2).2.1 (nextW l (nextW l 3 false).2.1 (nextW l 3 false).2.2).2.2).2.2 ic
      refine evMono (evAnd s1 (evAnd s2 (evAnd s3 s4))) fun k ⟨e1, e2, e3, e4⟩ => bind_of (spec_l05Head_eq l) ?_
      rw [hd]
      refine ite_yes rfl (bind_of e1 (bind_of e2 (bind_of e3 (bind_of e4 ?_))))
      unfold headW
      rw [hd]
      exact (apply_ite some _ _ _).symm
  · have p1 := impl_number_ev l hb hl 3 (!headOk l) i3
    have p2 := impl_number_ev l hb hl _ (nextW l 3 (!headOk l)).2.2 ia
    have p3 := impl_number_ev l hb hl _ (nextW l (nextW l 3 (!headOk l)).2.1 (nextW l 3 (!headOk l)).2.2).2.2 ib
    have p4 := impl_number_ev l hb hl _ (nextW l (nextW l (nextW l 3 (!headOk l)).2.1 (nextW l 3 (!headOk l)).2.2).2.1 (nextW l (nextW l 3 (!headOk l)).2.1 (nextW l 3 (!headOk l)).2.2).2.2).2.2 ic
    exact evMono (evAnd p1 (evAnd p2 (evAnd p3 p4))) fun k ⟨e1, e2, e3, e4⟩ => bind_of (bytes_HasPrefix_eq l hb) (bind_of (bind_of e1 (bind_of e2 (bind_of e3 rfl))) (bind_of e4 (apply_ite some _ _ _).symm))

theorem FnExactHeadOf (l : List Int) (hg : l.length ≤ maxLen ∧ ∀ x ∈ l, (Lit.int .u8 x).wf = true) : ∃ k, laws_FnExactHeadOf.f k l = some true := by
  by_cases h1 : (l.length : Int) > 1048576
  · exact ⟨0, ite_yes h1 rfl⟩
  have hb : isBytes l := fun x hx => u8_of (hg.2 x hx)
  obtain ⟨e2, e3⟩ := HeadOf_ok l hb (by omega)
  generalize headW l = R at e2 e3
  obtain ⟨a, b, c, n, ok⟩ := R
  have hne : (ok != ok) = false := by simp
  have hj : Evp fun k => laws_FnExactHeadOf.j0 k l l (ok != ok) = some true := evSuc (evMono (evAnd (laws_toByteS_ev l (by omega)) (laws_eqByteS_ev l l (by omega))) fun k ⟨e1, e2⟩ => by
    simp only [laws_FnExactHeadOf.j0]
    refine ite_no (by rw [hne]; exact Bool.false_ne_true) (bind_of e1 (bind_of e2 (ite_yes (by simp) rfl))))
  exact evEx (evMono (evAnd (laws_toByteS_ev l (by omega)) (evAnd e2 (evAnd e3 hj))) fun k ⟨e1, e2, e3, e4⟩ => ite_no h1 (bind_of e1 (bind_of e2 (bind_of e1 (bind_of e3 (bind_of (laws_eqShape_self a b c) (ite_yes rfl (ite_yes rfl e4))))))))

end Go.Proofs.Ytjmejobelkllmaa.Pure
