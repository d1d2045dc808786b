/- For every two ints the program's ScaleOf and the reference's return the same (the law FnExactScaleOf answers true). Condition, tied by the card: the listed tables of the library stand in memory as the library's text lays them. -/
import Derived.Test.YtjmejobelkllmaaDoorPFnExactScaleOfx0
import Derived.Test.YtjmejobelkllmaaDoorPFnExactScaleOfx1
namespace Go.Proofs.YtjmejobelkllmaaDoor.Pure
open Go.RowKit Go.Proofs.YtjmejobelkllmaaDoor.PFnExactScaleOf Go.Proofs.YtjmejobelkllmaaDoorW.PrintWords Go.Proofs.YtjmejobelkllmaaDoorW.PrintLast Go.Proofs.YtjmejobelkllmaaDoorW.PrintMore
set_option linter.unusedVariables false
set_option linter.unusedSimpArgs false

/-! #### rounds -/
def Evp (p : Nat → Prop) : Prop := ∃ K, ∀ k, K ≤ k → p k
theorem evAnd {p q : Nat → Prop} (h : Evp p) (g : Evp q) : Evp (fun k => p k ∧ q k) := by
  obtain ⟨K, hK⟩ := h
  obtain ⟨L, hL⟩ := g
  exact ⟨max K L, fun k hk => ⟨hK k (by omega), hL k (by omega)⟩⟩
theorem evMono {p q : Nat → Prop} (h : Evp p) (g : ∀ k, p k → q k) : Evp q := by
  obtain ⟨K, hK⟩ := h
  exact ⟨K, fun k hk => g k (hK k hk)⟩
theorem evSuc {p : Nat → Prop} (h : Evp fun k => p (k + 1)) : Evp p := by
  obtain ⟨K, hK⟩ := h
  refine ⟨K + 1, fun k hk => ?_⟩
  obtain ⟨m, rfl⟩ : ∃ m, k = m + 1 := ⟨k - 1, by omega⟩
  exact hK m (by omega)
theorem evAll {p : Nat → Prop} (h : ∀ k, p k) : Evp p := ⟨0, fun k _ => h k⟩
theorem evEx {p : Nat → Prop} (h : Evp p) : ∃ k, p k := by
  obtain ⟨K, hK⟩ := h
  exact ⟨K, hK K (Nat.le_refl _)⟩
/-- One step of a chain. -/
theorem bind_of {α β : Type} {o : Option α} {f : α → Option β} {a : α} {r : Option β} (h : o = some a) (hf : f a = r) : o.bind f = r := by rw [h]; exact hf
theorem ite_yes {α : Type} {c : Prop} [Decidable c] {x y r : α} (h : c) (hx : x = r) : (if c then x else y) = r := by rw [if_pos h]; exact hx
theorem ite_no {α : Type} {c : Prop} [Decidable c] {x y r : α} (h : ¬ c) (hy : y = r) : (if c then x else y) = r := by rw [if_neg h]; exact hy

/-! #### whole numbers -/
def i64 (x : Int) : Prop := -9223372036854775808 ≤ x ∧ x ≤ 9223372036854775807
theorem w64 {x : Int} (h : i64 x) : wrap64 x = x := by
  unfold i64 at h
  unfold wrap64
  omega
theorem w64' {x : Int} (h0 : -9223372036854775808 ≤ x) (h1 : x ≤ 9223372036854775807) : wrap64 x = x := w64 ⟨h0, h1⟩
theorem tdiv_pos {a b : Int} (h : 0 ≤ a) : Int.tdiv a b = a / b := Int.tdiv_eq_ediv_of_nonneg h
theorem nat_of {i : Int} (h : 0 ≤ i) : ∃ n : Nat, i = n := ⟨i.toNat, by omega⟩
theorem u64_small {x : Int} (h0 : 0 ≤ x) (h1 : x < 18446744073709551616) : IntKind.u64.wrap x = x := by
  unfold IntKind.wrap
  simp [IntKind.bits, IntKind.signed]
  omega
/-! #### arithmetic with rounding, in plain Lean -/
def clampTo (x lo hi : Int) : Int := if x < lo then lo else if lo > hi then lo else if x > hi then hi else x
theorem spec_ClampTo_ev (x lo hi : Int) : Evp fun k => spec_ClampTo.f k x lo hi = some (clampTo x lo hi) := evSuc (evAll fun k => by
  unfold spec_ClampTo.f clampTo
  by_cases h1 : x < lo
  · simp [h1, spec_ClampTo.j0]
  · by_cases h2 : lo > hi
    · simp [h1, h2, spec_ClampTo.j0]
    · by_cases h3 : x > hi <;> simp [h1, h2, h3, spec_ClampTo.j0])


def digs (x : Nat) : Nat := if x = 0 then 0 else Lib.nDigits x
theorem digs_step {x : Nat} (h : 0 < x) : digs x = digs (x / 10) + 1 := by
  unfold digs
  rw [if_neg (by omega)]
  by_cases h1 : x < 10
  · rw [Lib.nDigits_small h1, if_pos (by omega)]
  · rw [Lib.nDigits_big h1, if_neg (by omega)]
theorem ScaleOf_l0 (d : Int) : ∀ (n x : Nat) (z : Int), x < 10 ^ n → n ≤ 18 → -1000 + n ≤ z → z ≤ 1000 → Evp fun k => spec_ScaleOf.l0 k d z (x : Int) = some (d, z - (digs x : Int))
  | 0, x, z, hx, _, _, _ => by
    obtain rfl : x = 0 := by simpa using hx
    exact evSuc (evAll fun k => by
      simp only [spec_ScaleOf.l0]
      exact ite_no (by omega) (by simp [digs]))
  | n + 1, x, z, hx, hn, h0, h1 => by
    by_cases hz : x = 0
    · subst hz
      exact evSuc (evAll fun k => by
        simp only [spec_ScaleOf.l0]
        exact ite_no (by omega) (by simp [digs]))
    · have ih := ScaleOf_l0 d n (x / 10) (z - 1) (by rw [Nat.pow_succ] at hx; omega) (by omega) (by omega) (by omega)
      have hp : (10 : Nat) ^ (n + 1) ≤ 10 ^ 18 := Nat.pow_le_pow_right (by decide) hn
      refine evSuc (evMono ih fun k e => ?_)
      simp only [spec_ScaleOf.l0]
      refine ite_yes (by omega) ?_
      rw [w64' (x := z - 1) (by omega) (by omega), tdiv_pos (by omega), w64' (x := (x : Int) / 10) (by omega) (by omega)]
      rw [digs_step (by omega)]
      rw [show z - ((digs (x / 10) + 1 : Nat) : Int) = z - 1 - (digs (x / 10) : Int) by omega]
      exact e
theorem nDigits_le : ∀ (n x : Nat), x < 10 ^ (n + 1) → Lib.nDigits x ≤ n + 1
  | 0, x, h => by rw [Lib.nDigits_small (by omega)]; omega
  | n + 1, x, h => by
    by_cases h1 : x < 10
    · rw [Lib.nDigits_small h1]; omega
    · rw [Lib.nDigits_big h1]
      have := nDigits_le n (x / 10) (by rw [Nat.pow_succ] at h; omega)
      omega
theorem cut_mn (x lo hi : Int) (h : lo ≤ hi) : mx lo (mn x hi) = clampTo x lo hi := by
  unfold mx mn clampTo
  repeat' split <;> omega
theorem ScaleOf_ok (a b : Int) : ∃ r s, (Evp fun k => spec_ScaleOf.f k a b = some (r, s)) ∧ impl_ScaleOf.f a b = some (r, s) := by
  have hc : 0 ≤ clampTo a 0 2147483647 ∧ clampTo a 0 2147483647 ≤ 2147483647 := by unfold clampTo; repeat' split <;> omega
  have hs : 0 ≤ clampTo b 0 31 ∧ clampTo b 0 31 ≤ 31 := by unfold clampTo; repeat' split <;> omega
  have ec := spec_ClampTo_ev a 0 2147483647
  have es := spec_ClampTo_ev b 0 31
  have fc : impl_cut.f a 0 2147483647 = some (clampTo a 0 2147483647) := congrArg some (cut_mn a 0 2147483647 (by omega))
  have fs : impl_cut.f b 0 31 = some (clampTo b 0 31) := congrArg some (cut_mn b 0 31 (by omega))
  generalize clampTo a 0 2147483647 = c at hc ec fc
  generalize clampTo b 0 31 = s at hs es fs
  have w1 : wrap64 (c * 1000000000) = c * 1000000000 := w64' (by omega) (by omega)
  have hq : 0 ≤ c * 1000000000 / 2147483648 ∧ c * 1000000000 / 2147483648 ≤ 999999999 := by omega
  have w2 : wrap64 (Int.tdiv (c * 1000000000) 2147483648) = c * 1000000000 / 2147483648 := by rw [tdiv_pos (by omega), w64' (by omega) (by omega)]
  have w3 : IntKind.u64.wrap s = s := u64_small hs.1 (by omega)
  obtain ⟨D, hD⟩ : ∃ D : Nat, shr .i64 (c * 1000000000 / 2147483648) s = (D : Int) := nat_of (by
    unfold shr
    exact Int.ediv_nonneg hq.1 (Int.pow_nonneg (by omega)))
  have hD9 : D < 10 ^ 9 := by
    have : (D : Int) ≤ c * 1000000000 / 2147483648 := by
      rw [← hD]
      unfold shr
      exact Int.ediv_le_self _ hq.1
    omega
  refine ⟨(D : Int), 9 - (digs D : Int), ?_, ?_⟩
  · refine evMono (evAnd (ScaleOf_l0 (D : Int) 9 D 9 hD9 (by omega) (by omega) (by omega)) (evAnd ec es)) fun k ⟨e, e1, e2⟩ => bind_of e1 (bind_of e2 ?_)
    rw [w1, w2, w3, hD]
    exact ite_yes hs.1 e
  · refine bind_of fc (bind_of fs ?_)
    rw [w1, hD]
    refine ite_yes hs.1 ?_
    by_cases h0 : (D : Int) = 0
    · obtain rfl : D = 0 := by omega
      exact ite_yes rfl rfl
    · refine ite_no h0 (bind_of (a := ⟨(Lib.itoa (D : Int)).toArray⟩) (ite_yes (by omega) (ite_yes (by omega) rfl)) ?_)
      have hl : ((⟨(Lib.itoa (D : Int)).toArray⟩ : ByteArray).size : Int) = (digs D : Int) := by
        have e : Lib.itoa (D : Int) = Lib.decDigits D := by unfold Lib.itoa; rw [if_neg (by omega)]; simp
        show (((Lib.itoa (D : Int)).toArray.size : Nat) : Int) = _
        rw [e, List.size_toArray, Lib.decDigits_length]
        unfold digs
        rw [if_neg (by omega)]
      have hb : digs D ≤ 9 := by
        unfold digs
        rw [if_neg (by omega)]
        exact nDigits_le 8 D (by omega)
      rw [hl, w64' (by omega) (by omega)]

theorem FnExactScaleOf (a b : Int) (_ : (Lit.int .i64 a).wf = true) (_ : (Lit.int .i64 b).wf = true) : ∃ k, laws_FnExactScaleOf.f k a b = some true := by
  obtain ⟨r, s, e1, e2⟩ := ScaleOf_ok a b
  exact evEx (evMono e1 fun k e => bind_of e (bind_of e2 (ite_yes rfl (ite_yes rfl rfl))))

end Go.Proofs.YtjmejobelkllmaaDoor.Pure
