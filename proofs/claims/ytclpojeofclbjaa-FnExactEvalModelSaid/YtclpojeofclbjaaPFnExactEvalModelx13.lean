import Derived.Test.YtclpojeofclbjaaPFnExactEvalModelx0
import Derived.Test.YtclpojeofclbjaaPFnExactEvalModelx12
namespace Go.Proofs.Ytclpojeofclbjaa.PFnExactEvalModel
open Go.RowKit Go.Proofs.YtclpojeofclbjaaW.PrintWords Go.Proofs.YtclpojeofclbjaaW.PrintLast Go.Proofs.YtclpojeofclbjaaW.PrintMore
attribute [local go_sem] max2_int min2_int max_two min_two max_three min_three max_four min_four
set_option maxHeartbeats 8000000
set_option maxRecDepth 100000
set_option linter.unusedVariables false
set_option linter.unusedSimpArgs false

def impl_areItems_1.f (a0 : Int) : Option (Bool) := (impl_in.f a0 (-128) 127).bind fun t342 => (some (!t342))
theorem impl_areItems_1.calls (a0 : Int) (r : Bool) (w : World) (h : impl_areItems_1.f a0 = some r) :
   Calls Try.prog 131 #[.int .i64 a0] w fun e w' => e = .returned (.bool r) ∧ Drawn0 w w' := by
  have H : ((impl_in.f a0 (-128) 127).bind fun t342 => (some (!t342))) = some r := h;clear h;obtain ⟨t342, A2, H⟩ := bnd H;(try dsimp only at H);obtain rfl := Option.some.inj H
  go_enter Try.func131, Try.ntmps131
  go_wp2_with (first | ((with_reducible refine gate_callee (f := 70) rfl ?_); refine gM 4 Try.func70 #[.int .i64 a0, .int .i64 (-128), .int .i64 127] rfl ?_; (with_reducible refine (impl_in.calls a0 (-128) 127 t342 _ A2.out).mono ?_); rintro e w' ⟨rfl, ⟨nd, rfl⟩⟩; refine ⟨_, rfl, ?_⟩))
  go_ret
  exact ⟨by first | rfl | (simp; done) | (simp [*]; done), by repeat (first | exact Drawn0.refl _ | apply Drawn0.step)⟩

def slices_IndexFunc_int_int_impl_areItems_1.l0 : Nat → List Int → Int → Int → Option (Int)
  | 0, _, _, _ => none
  | k + 1, x0, x7, x8 => if x8 < x7 then (if 0 ≤ x8 then (if x8 < (x0.length : Int) then ((impl_areItems_1.f (rd x0 x8)).bind fun t344 => (if t344 = true then (some x8) else (slices_IndexFunc_int_int_impl_areItems_1.l0 k x0 x7 (wrap64 (x8 + 1))))) else (none)) else (none)) else (some (-1))
def slices_IndexFunc_int_int_impl_areItems_1.f (k : Nat) (l0 : List Int) : Option (Int) := slices_IndexFunc_int_int_impl_areItems_1.l0 k l0 (l0.length : Int) 0
theorem slices_IndexFunc_int_int_impl_areItems_1.calls (k : Nat) (A0 : Option Addr) (c0 : Nat) (l0 : List Int) (r : Int) (w : World) (hr0 : Kd.C (Kd.int .i64) w A0 l0.length l0) (hc0 : l0.length ≤ c0) (h : slices_IndexFunc_int_int_impl_areItems_1.f k l0 = some r) :
   Calls Try.prog 136 #[.slice A0 l0.length c0, .func (.func 131) #[] #[]] w fun e w' => e = .returned (.int .i64 r) ∧ Drawn0 w w' := by
  have HR0 := am hr0;have HC0 := am hc0;clear hr0 hc0;have H : (slices_IndexFunc_int_int_impl_areItems_1.l0 k l0 (l0.length : Int) 0) = some r := h;clear h;have H' := am H;clear H
  go_enter Try.func136, Try.ntmps136
  go_wp2
  go_loopg [8] k (fun kq v8 w' => ∃ (x8_1 : Int), v8 = .int .i64 x8_1 ∧ Aside0 (slices_IndexFunc_int_int_impl_areItems_1.l0 kq l0 (l0.length : Int) x8_1 = some r) ∧ Aside0 (kq ≤ k) ∧ Drawn0 w w')
  case atStart => exact ⟨(0), pv, H', ⟨Nat.le_refl _⟩, by repeat (first | exact Drawn0.refl _ | apply Drawn0.step)⟩
  case round =>
   clear H';obtain ⟨x8_1, rfl, HA, HK1, ⟨m1, rfl⟩⟩ := hrel
   cases gk with
   | zero => exact absurd HA.out (by simp [slices_IndexFunc_int_int_impl_areItems_1.l0])
   | succ k1 =>
    have H := HA.out;clear HA;simp only [slices_IndexFunc_int_int_impl_areItems_1.l0] at H;by_cases c2 : x8_1 < (l0.length : Int);rotate_left
    ·rw [if_neg c2] at H;have c2b0 : decide (x8_1 < (l0.length : Int)) = false := decide_eq_false c2;clear c2;obtain rfl := Option.some.inj H
     go_wp2
     go_ret
     exact ⟨by first | rfl | (simp; done) | (simp [*]; done), by repeat (first | exact Drawn0.refl _ | apply Drawn0.step)⟩
    rw [if_pos c2] at H;have c2b0 : decide (x8_1 < (l0.length : Int)) = true := decide_eq_true c2;clear c2;obtain ⟨c3, H⟩ := gd H;have c3b0 : decide (0 ≤ x8_1) = true := decide_eq_true c3;clear c3;obtain ⟨c4, H⟩ := gd H;have c4b0 : decide (x8_1 < (l0.length : Int)) = true := decide_eq_true c4;clear c4;obtain ⟨t344, A5, H⟩ := bnd H;(try dsimp only at H);by_cases c6 : t344 = true
    ·subst c6;rw [if_pos rfl] at H;obtain rfl := Option.some.inj H;have p343 : 0 ≤ (x8_1 : Int) := of_decide_eq_true (by first | (with_reducible assumption) | assumption);have q343 : x8_1 < (l0.length : Int) := of_decide_eq_true (by first | (with_reducible assumption) | assumption);obtain ⟨ad343, e343, hx343_0⟩ := Kd.at_int HR0.out x8_1 p343 q343;cases e343;replace p343 := eq_true p343;replace q343 := eq_true q343
     go_wp2_with (first | (go_at_call 131; (with_reducible refine (impl_areItems_1.calls (rd l0 x8_1) true _ A5.out).mono ?_); rintro e w' ⟨rfl, ⟨nd, rfl⟩⟩))
     go_ret
     exact ⟨by first | rfl | (simp; done) | (simp [*]; done), by repeat (first | exact Drawn0.refl _ | apply Drawn0.step)⟩
    replace c6 := Bool.eq_false_iff.mpr c6;subst c6
    rw [if_neg (show ¬ (false = true) by decide)] at H
    have H' := am H;clear H;have p343 : 0 ≤ (x8_1 : Int) := of_decide_eq_true (by first | (with_reducible assumption) | assumption);have q343 : x8_1 < (l0.length : Int) := of_decide_eq_true (by first | (with_reducible assumption) | assumption);obtain ⟨ad343, e343, hx343_0⟩ := Kd.at_int HR0.out x8_1 p343 q343;cases e343;replace p343 := eq_true p343;replace q343 := eq_true q343
    go_wp2_with (first | (go_at_call 131; (with_reducible refine (impl_areItems_1.calls (rd l0 x8_1) false _ A5.out).mono ?_); rintro e w' ⟨rfl, ⟨nd, rfl⟩⟩))
    go_roundg k1
    case measure => have := HK1.out; omega
    case rel => exact ⟨(wrap64 (x8_1 + 1)), pv, H', ⟨by have := HK1.out; omega⟩, by repeat (first | exact Drawn0.refl _ | apply Drawn0.step)⟩

def slices_ContainsFunc_int_int_impl_areItems_1.f (k : Nat) (l0 : List Int) : Option (Bool) := (slices_IndexFunc_int_int_impl_areItems_1.f k l0).bind fun t345 => (some (decide (t345 ≥ 0)))
theorem slices_ContainsFunc_int_int_impl_areItems_1.calls (k : Nat) (A0 : Option Addr) (c0 : Nat) (l0 : List Int) (r : Bool) (w : World) (hr0 : Kd.C (Kd.int .i64) w A0 l0.length l0) (hc0 : l0.length ≤ c0) (h : slices_ContainsFunc_int_int_impl_areItems_1.f k l0 = some r) :
   Calls Try.prog 117 #[.slice A0 l0.length c0, .func (.func 131) #[] #[]] w fun e w' => e = .returned (.bool r) ∧ Drawn0 w w' := by
  have HR0 := am hr0;have HC0 := am hc0;clear hr0 hc0;have H : ((slices_IndexFunc_int_int_impl_areItems_1.f k l0).bind fun t345 => (some (decide (t345 ≥ 0)))) = some r := h;clear h;obtain ⟨t345, A2, H⟩ := bnd H;(try dsimp only at H);obtain rfl := Option.some.inj H
  go_enter Try.func117, Try.ntmps117
  go_wp2_with (first | (go_at_call 136; (with_reducible refine (slices_IndexFunc_int_int_impl_areItems_1.calls k _ _ l0 t345 _ ?side1 HC0.out A2.out).mono ?_); (case side1 => repeat (first | exact HR0.out | (with_reducible refine Kd.C_alloc ?_ _) | (with_reducible refine Kd.C_drewN ?_ _) | (with_reducible refine Kd.C_drew ?_))); rintro e w' ⟨rfl, ⟨nd, rfl⟩⟩))
  go_ret
  exact ⟨by first | rfl | (simp; done) | (simp [*]; done), by repeat (first | exact Drawn0.refl _ | apply Drawn0.step)⟩

def impl_areItems.f (k : Nat) (l0 : List Int) : Option (Bool) := (slices_ContainsFunc_int_int_impl_areItems_1.f k l0).bind fun t346 => (some (!t346))
theorem impl_areItems.calls (k : Nat) (A0 : Option Addr) (c0 : Nat) (l0 : List Int) (r : Bool) (w : World) (hr0 : Kd.C (Kd.int .i64) w A0 l0.length l0) (hc0 : l0.length ≤ c0) (h : impl_areItems.f k l0 = some r) :
   Calls Try.prog 101 #[.slice A0 l0.length c0] w fun e w' => e = .returned (.bool r) ∧ Drawn0 w w' := by
  have HR0 := am hr0;have HC0 := am hc0;clear hr0 hc0;have H : ((slices_ContainsFunc_int_int_impl_areItems_1.f k l0).bind fun t346 => (some (!t346))) = some r := h;clear h;obtain ⟨t346, A2, H⟩ := bnd H;(try dsimp only at H);obtain rfl := Option.some.inj H
  go_enter Try.func101, Try.ntmps101
  go_wp2_with (first | (go_at_call 117; (with_reducible refine (slices_ContainsFunc_int_int_impl_areItems_1.calls k _ _ l0 t346 _ ?side1 HC0.out A2.out).mono ?_); (case side1 => repeat (first | exact HR0.out | (with_reducible refine Kd.C_alloc ?_ _) | (with_reducible refine Kd.C_drewN ?_ _) | (with_reducible refine Kd.C_drew ?_))); rintro e w' ⟨rfl, ⟨nd, rfl⟩⟩))
  go_ret
  exact ⟨by first | rfl | (simp; done) | (simp [*]; done), by repeat (first | exact Drawn0.refl _ | apply Drawn0.step)⟩

def impl_Layer_isScaled_1.f (a0 : Int) : Option (Bool) := (impl_in.f a0 (-1000000) 1000000).bind fun t347 => (some (!t347))
theorem impl_Layer_isScaled_1.calls (a0 : Int) (r : Bool) (w : World) (h : impl_Layer_isScaled_1.f a0 = some r) :
   Calls Try.prog 118 #[.int .i64 a0] w fun e w' => e = .returned (.bool r) ∧ Drawn0 w w' := by
  have H : ((impl_in.f a0 (-1000000) 1000000).bind fun t347 => (some (!t347))) = some r := h;clear h;obtain ⟨t347, A2, H⟩ := bnd H;(try dsimp only at H);obtain rfl := Option.some.inj H
  go_enter Try.func118, Try.ntmps118
  go_wp2_with (first | ((with_reducible refine gate_callee (f := 70) rfl ?_); refine gM 4 Try.func70 #[.int .i64 a0, .int .i64 (-1000000), .int .i64 1000000] rfl ?_; (with_reducible refine (impl_in.calls a0 (-1000000) 1000000 t347 _ A2.out).mono ?_); rintro e w' ⟨rfl, ⟨nd, rfl⟩⟩; refine ⟨_, rfl, ?_⟩))
  go_ret
  exact ⟨by first | rfl | (simp; done) | (simp [*]; done), by repeat (first | exact Drawn0.refl _ | apply Drawn0.step)⟩

def slices_IndexFunc_int_int_impl_Layer_isScaled_1.l0 : Nat → List Int → Int → Int → Option (Int)
  | 0, _, _, _ => none
  | k + 1, x0, x7, x8 => if x8 < x7 then (if 0 ≤ x8 then (if x8 < (x0.length : Int) then ((impl_Layer_isScaled_1.f (rd x0 x8)).bind fun t349 => (if t349 = true then (some x8) else (slices_IndexFunc_int_int_impl_Layer_isScaled_1.l0 k x0 x7 (wrap64 (x8 + 1))))) else (none)) else (none)) else (some (-1))
def slices_IndexFunc_int_int_impl_Layer_isScaled_1.f (k : Nat) (l0 : List Int) : Option (Int) := slices_IndexFunc_int_int_impl_Layer_isScaled_1.l0 k l0 (l0.length : Int) 0
theorem slices_IndexFunc_int_int_impl_Layer_isScaled_1.calls (k : Nat) (A0 : Option Addr) (c0 : Nat) (l0 : List Int) (r : Int) (w : World) (hr0 : Kd.C (Kd.int .i64) w A0 l0.length l0) (hc0 : l0.length ≤ c0) (h : slices_IndexFunc_int_int_impl_Layer_isScaled_1.f k l0 = some r) :
   Calls Try.prog 136 #[.slice A0 l0.length c0, .func (.func 118) #[] #[]] w fun e w' => e = .returned (.int .i64 r) ∧ Drawn0 w w' := by
  have HR0 := am hr0;have HC0 := am hc0;clear hr0 hc0;have H : (slices_IndexFunc_int_int_impl_Layer_isScaled_1.l0 k l0 (l0.length : Int) 0) = some r := h;clear h;have H' := am H;clear H
  go_enter Try.func136, Try.ntmps136
  go_wp2
  go_loopg [8] k (fun kq v8 w' => ∃ (x8_1 : Int), v8 = .int .i64 x8_1 ∧ Aside0 (slices_IndexFunc_int_int_impl_Layer_isScaled_1.l0 kq l0 (l0.length : Int) x8_1 = some r) ∧ Aside0 (kq ≤ k) ∧ Drawn0 w w')
  case atStart => exact ⟨(0), pv, H', ⟨Nat.le_refl _⟩, by repeat (first | exact Drawn0.refl _ | apply Drawn0.step)⟩
  case round =>
   clear H';obtain ⟨x8_1, rfl, HA, HK1, ⟨m1, rfl⟩⟩ := hrel
   cases gk with
   | zero => exact absurd HA.out (by simp [slices_IndexFunc_int_int_impl_Layer_isScaled_1.l0])
   | succ k1 =>
    have H := HA.out;clear HA;simp only [slices_IndexFunc_int_int_impl_Layer_isScaled_1.l0] at H;by_cases c2 : x8_1 < (l0.length : Int);rotate_left
    ·rw [if_neg c2] at H;have c2b0 : decide (x8_1 < (l0.length : Int)) = false := decide_eq_false c2;clear c2;obtain rfl := Option.some.inj H
     go_wp2
     go_ret
     exact ⟨by first | rfl | (simp; done) | (simp [*]; done), by repeat (first | exact Drawn0.refl _ | apply Drawn0.step)⟩
    rw [if_pos c2] at H;have c2b0 : decide (x8_1 < (l0.length : Int)) = true := decide_eq_true c2;clear c2;obtain ⟨c3, H⟩ := gd H;have c3b0 : decide (0 ≤ x8_1) = true := decide_eq_true c3;clear c3;obtain ⟨c4, H⟩ := gd H;have c4b0 : decide (x8_1 < (l0.length : Int)) = true := decide_eq_true c4;clear c4;obtain ⟨t349, A5, H⟩ := bnd H;(try dsimp only at H);by_cases c6 : t349 = true
    ·subst c6;rw [if_pos rfl] at H;obtain rfl := Option.some.inj H;have p348 : 0 ≤ (x8_1 : Int) := of_decide_eq_true (by first | (with_reducible assumption) | assumption);have q348 : x8_1 < (l0.length : Int) := of_decide_eq_true (by first | (with_reducible assumption) | assumption);obtain ⟨ad348, e348, hx348_0⟩ := Kd.at_int HR0.out x8_1 p348 q348;cases e348;replace p348 := eq_true p348;replace q348 := eq_true q348
     go_wp2_with (first | (go_at_call 118; (with_reducible refine (impl_Layer_isScaled_1.calls (rd l0 x8_1) true _ A5.out).mono ?_); rintro e w' ⟨rfl, ⟨nd, rfl⟩⟩))
     go_ret
     exact ⟨by first | rfl | (simp; done) | (simp [*]; done), by repeat (first | exact Drawn0.refl _ | apply Drawn0.step)⟩
    replace c6 := Bool.eq_false_iff.mpr c6;subst c6
    rw [if_neg (show ¬ (false = true) by decide)] at H
    have H' := am H;clear H;have p348 : 0 ≤ (x8_1 : Int) := of_decide_eq_true (by first | (with_reducible assumption) | assumption);have q348 : x8_1 < (l0.length : Int) := of_decide_eq_true (by first | (with_reducible assumption) | assumption);obtain ⟨ad348, e348, hx348_0⟩ := Kd.at_int HR0.out x8_1 p348 q348;cases e348;replace p348 := eq_true p348;replace q348 := eq_true q348
    go_wp2_with (first | (go_at_call 118; (with_reducible refine (impl_Layer_isScaled_1.calls (rd l0 x8_1) false _ A5.out).mono ?_); rintro e w' ⟨rfl, ⟨nd, rfl⟩⟩))
    go_roundg k1
    case measure => have := HK1.out; omega
    case rel => exact ⟨(wrap64 (x8_1 + 1)), pv, H', ⟨by have := HK1.out; omega⟩, by repeat (first | exact Drawn0.refl _ | apply Drawn0.step)⟩

def slices_ContainsFunc_int_int_impl_Layer_isScaled_1.f (k : Nat) (l0 : List Int) : Option (Bool) := (slices_IndexFunc_int_int_impl_Layer_isScaled_1.f k l0).bind fun t350 => (some (decide (t350 ≥ 0)))
theorem slices_ContainsFunc_int_int_impl_Layer_isScaled_1.calls (k : Nat) (A0 : Option Addr) (c0 : Nat) (l0 : List Int) (r : Bool) (w : World) (hr0 : Kd.C (Kd.int .i64) w A0 l0.length l0) (hc0 : l0.length ≤ c0) (h : slices_ContainsFunc_int_int_impl_Layer_isScaled_1.f k l0 = some r) :
   Calls Try.prog 117 #[.slice A0 l0.length c0, .func (.func 118) #[] #[]] w fun e w' => e = .returned (.bool r) ∧ Drawn0 w w' := by
  have HR0 := am hr0;have HC0 := am hc0;clear hr0 hc0;have H : ((slices_IndexFunc_int_int_impl_Layer_isScaled_1.f k l0).bind fun t350 => (some (decide (t350 ≥ 0)))) = some r := h;clear h;obtain ⟨t350, A2, H⟩ := bnd H;(try dsimp only at H);obtain rfl := Option.some.inj H
  go_enter Try.func117, Try.ntmps117
  go_wp2_with (first | (go_at_call 136; (with_reducible refine (slices_IndexFunc_int_int_impl_Layer_isScaled_1.calls k _ _ l0 t350 _ ?side1 HC0.out A2.out).mono ?_); (case side1 => repeat (first | exact HR0.out | (with_reducible refine Kd.C_alloc ?_ _) | (with_reducible refine Kd.C_drewN ?_ _) | (with_reducible refine Kd.C_drew ?_))); rintro e w' ⟨rfl, ⟨nd, rfl⟩⟩))
  go_ret
  exact ⟨by first | rfl | (simp; done) | (simp [*]; done), by repeat (first | exact Drawn0.refl _ | apply Drawn0.step)⟩

def impl_Layer_isScaled.f (k : Nat) (a0_0 : Int) (a0_1 : Int) (a0_2 : Int) (a0_3 : Int) (a0_4 : Int) (a0_5 : Int) (a0_6 : Int) (l0_7 : List Int) (l0_8 : List Int) (a1 : Int) : Option (Bool) := (impl_in.f a0_1 1 8).bind fun t352 => (if t352 = true then ((impl_in.f a0_4 0 2147483647).bind fun t353 => (if t353 = true then ((impl_in.f a0_5 0 31).bind fun t354 => (if t354 = true then ((impl_in.f a0_6 (-128) 127).bind fun t355 => (if t355 = true then (if (l0_7.length : Int) = (wrap64 (a0_1 * a1)) then ((impl_areItems.f k l0_7).bind fun t356 => (if t356 = true then (if (l0_8.length : Int) = a0_1 then ((slices_ContainsFunc_int_int_impl_Layer_isScaled_1.f k l0_8).bind fun t357 => (some (!t357))) else (some false)) else (some false))) else (some false)) else (some false))) else (some false))) else (some false))) else (some false))
theorem impl_Layer_isScaled.calls (k : Nat) (a0_0 : Int) (a0_1 : Int) (a0_2 : Int) (a0_3 : Int) (a0_4 : Int) (a0_5 : Int) (a0_6 : Int) (A0_7 : Option Addr) (c0_7 : Nat) (l0_7 : List Int) (A0_8 : Option Addr) (c0_8 : Nat) (l0_8 : List Int) (a1 : Int) (r : Bool) (w : World) (hr0_7 : Kd.C (Kd.int .i64) w A0_7 l0_7.length l0_7) (hc0_7 : l0_7.length ≤ c0_7) (hr0_8 : Kd.C (Kd.int .i64) w A0_8 l0_8.length l0_8) (hc0_8 : l0_8.length ≤ c0_8) (h : impl_Layer_isScaled.f k a0_0 a0_1 a0_2 a0_3 a0_4 a0_5 a0_6 l0_7 l0_8 a1 = some r) :
   Calls Try.prog 66 #[.agg #[.int .i64 a0_0, .int .i64 a0_1, .int .i64 a0_2, .int .i64 a0_3, .int .i64 a0_4, .int .i64 a0_5, .int .i64 a0_6, .slice A0_7 l0_7.length c0_7, .slice A0_8 l0_8.length c0_8], .int .i64 a1] w fun e w' => e = .returned (.bool r) ∧ Below w.heap.size w w' := by
  have hu37 := Try.underlying37;have HR0_7 := am hr0_7;have HC0_7 := am hc0_7;clear hr0_7 hc0_7;have HR0_8 := am hr0_8;have HC0_8 := am hc0_8;clear hr0_8 hc0_8;have HB := am (Below.refl w.heap.size w);have H : ((impl_in.f a0_1 1 8).bind fun t352 => (if t352 = true then ((impl_in.f a0_4 0 2147483647).bind fun t353 => (if t353 = true then ((impl_in.f a0_5 0 31).bind fun t354 => (if t354 = true then ((impl_in.f a0_6 (-128) 127).bind fun t355 => (if t355 = true then (if (l0_7.length : Int) = (wrap64 (a0_1 * a1)) then ((impl_areItems.f k l0_7).bind fun t356 => (if t356 = true then (if (l0_8.length : Int) = a0_1 then ((slices_ContainsFunc_int_int_impl_Layer_isScaled_1.f k l0_8).bind fun t357 => (some (!t357))) else (some false)) else (some false))) else (some false)) else (some false))) else (some false))) else (some false))) else (some false))) = some r := h;clear h;obtain ⟨t352, A3, H⟩ := bnd H;(try dsimp only at H);by_cases c4 : t352 = true
  case' neg => skip
  replace c4 := Bool.eq_false_iff.mpr c4;subst c4
  rw [if_neg (show ¬ (false = true) by decide)] at H
  obtain rfl := Option.some.inj H;rotate_left;subst c4;rw [if_pos rfl] at H;obtain ⟨t353, A5, H⟩ := bnd H;(try dsimp only at H);by_cases c6 : t353 = true
  case' neg => skip
  replace c6 := Bool.eq_false_iff.mpr c6;subst c6
  rw [if_neg (show ¬ (false = true) by decide)] at H
  obtain rfl := Option.some.inj H;rotate_left;subst c6;rw [if_pos rfl] at H;obtain ⟨t354, A7, H⟩ := bnd H;(try dsimp only at H);by_cases c8 : t354 = true
  case' neg => skip
  replace c8 := Bool.eq_false_iff.mpr c8;subst c8
  rw [if_neg (show ¬ (false = true) by decide)] at H
  obtain rfl := Option.some.inj H;rotate_left;subst c8;rw [if_pos rfl] at H;obtain ⟨t355, A9, H⟩ := bnd H;(try dsimp only at H);by_cases c10 : t355 = true
  case' neg => skip
  replace c10 := Bool.eq_false_iff.mpr c10;subst c10
  rw [if_neg (show ¬ (false = true) by decide)] at H
  obtain rfl := Option.some.inj H;rotate_left;subst c10;rw [if_pos rfl] at H;by_cases c11 : (l0_7.length : Int) = (wrap64 (a0_1 * a1))
  case' neg => skip
  rw [if_neg c11] at H;have c11b0 : ((l0_7.length : Int) == (wrap64 (a0_1 * a1))) = false := beq_eq_false_iff_ne.mpr c11;have c11b1 : ((l0_7.length : Int) != (wrap64 (a0_1 * a1))) = true := bne_iff_ne.mpr c11;obtain rfl := Option.some.inj H;rotate_left;rw [if_pos c11] at H;have c11b0 : ((l0_7.length : Int) == (wrap64 (a0_1 * a1))) = true := beq_iff_eq.mpr c11;have c11b1 : ((l0_7.length : Int) != (wrap64 (a0_1 * a1))) = false := bne_eq_false_iff_eq.mpr c11;clear c11;obtain ⟨t356, A12, H⟩ := bnd H;(try dsimp only at H);by_cases c13 : t356 = true
  case' neg => skip
  replace c13 := Bool.eq_false_iff.mpr c13;subst c13
  rw [if_neg (show ¬ (false = true) by decide)] at H
  obtain rfl := Option.some.inj H;rotate_left;subst c13;rw [if_pos rfl] at H;by_cases c14 : (l0_8.length : Int) = a0_1
  case' neg => skip
  rw [if_neg c14] at H;have c14b0 : ((l0_8.length : Int) == a0_1) = false := beq_eq_false_iff_ne.mpr c14;have c14b1 : ((l0_8.length : Int) != a0_1) = true := bne_iff_ne.mpr c14;obtain rfl := Option.some.inj H;rotate_left;rw [if_pos c14] at H;have c14b0 : ((l0_8.length : Int) == a0_1) = true := beq_iff_eq.mpr c14;have c14b1 : ((l0_8.length : Int) != a0_1) = false := bne_eq_false_iff_eq.mpr c14;clear c14;obtain ⟨t357, A15, H⟩ := bnd H;(try dsimp only at H);obtain rfl := Option.some.inj H;rotate_left
  all_goals (go_enter Try.func66, Try.ntmps66; go_wp2_with (first | ((with_reducible refine gate_dst (N := 2) rfl ?_); (try (refine gate_guard (by rfl) ?_; dsimp only)); refine boxM 2 #[.int .i64 a0_0, .int .i64 a0_1, .int .i64 a0_2, .int .i64 a0_3, .int .i64 a0_4, .int .i64 a0_5, .int .i64 a0_6, .slice A0_7 l0_7.length c0_7, .slice A0_8 l0_8.length c0_8] 37 ?_; intro gb351 hg w_ BK351 hb; obtain ⟨HB, GW351, GE351⟩ := box_at w hb hg; clear hb hg; have hcz_ := cells9 BK351.out) | ((with_reducible refine gate_callee (f := 70) rfl ?_); refine gM 7 Try.func70 #[.int .i64 a0_1, .int .i64 1, .int .i64 8] rfl ?_; (with_reducible refine (impl_in.calls a0_1 1 8 false _ A3.out).mono ?_); rintro e w' ⟨rfl, ⟨nd, rfl⟩⟩; refine ⟨_, rfl, ?_⟩) | ((with_reducible refine gate_callee (f := 70) rfl ?_); refine gM 7 Try.func70 #[.int .i64 a0_1, .int .i64 1, .int .i64 8] rfl ?_; (with_reducible refine (impl_in.calls a0_1 1 8 true _ A3.out).mono ?_); rintro e w' ⟨rfl, ⟨nd, rfl⟩⟩; refine ⟨_, rfl, ?_⟩) | (go_at_call 70; (with_reducible refine (impl_in.calls a0_4 0 2147483647 false _ A5.out).mono ?_); rintro e w' ⟨rfl, ⟨nd, rfl⟩⟩) | (go_at_call 70; (with_reducible refine (impl_in.calls a0_4 0 2147483647 true _ A5.out).mono ?_); rintro e w' ⟨rfl, ⟨nd, rfl⟩⟩) | (go_at_call 70; (with_reducible refine (impl_in.calls a0_5 0 31 false _ A7.out).mono ?_); rintro e w' ⟨rfl, ⟨nd, rfl⟩⟩) | (go_at_call 70; (with_reducible refine (impl_in.calls a0_5 0 31 true _ A7.out).mono ?_); rintro e w' ⟨rfl, ⟨nd, rfl⟩⟩) | (go_at_call 70; (with_reducible refine (impl_in.calls a0_6 (-128) 127 false _ A9.out).mono ?_); rintro e w' ⟨rfl, ⟨nd, rfl⟩⟩) | (go_at_call 70; (with_reducible refine (impl_in.calls a0_6 (-128) 127 true _ A9.out).mono ?_); rintro e w' ⟨rfl, ⟨nd, rfl⟩⟩) | (go_at_call 101; (with_reducible refine (impl_areItems.calls k _ _ l0_7 false _ ?side1 HC0_7.out A12.out).mono ?_); (case side1 => exact C_now HR0_7.out); rintro e w' ⟨rfl, ⟨nd, rfl⟩⟩) | (go_at_call 101; (with_reducible refine (impl_areItems.calls k _ _ l0_7 true _ ?side1 HC0_7.out A12.out).mono ?_); (case side1 => exact C_now HR0_7.out); rintro e w' ⟨rfl, ⟨nd, rfl⟩⟩) | (go_at_call 117; (with_reducible refine (slices_ContainsFunc_int_int_impl_Layer_isScaled_1.calls k _ _ l0_8 t357 _ ?side1 HC0_8.out A15.out).mono ?_); (case side1 => exact C_now HR0_8.out); rintro e w' ⟨rfl, ⟨nd, rfl⟩⟩)))
  ·go_ret
   exact ⟨eqN, bel_now⟩
  ·go_ret
   exact ⟨eqN, bel_now⟩
  ·go_ret
   exact ⟨eqN, bel_now⟩
  ·go_ret
   exact ⟨eqN, bel_now⟩
  ·go_ret
   exact ⟨eqN, bel_now⟩
  ·go_ret
   exact ⟨eqN, bel_now⟩
  ·go_ret
   exact ⟨eqN, bel_now⟩
  ·go_ret
   exact ⟨eqN, bel_now⟩

def impl_Layer_isWindow.f (a0_0 : Int) (a0_1 : Int) (a0_2 : Int) (a0_3 : Int) (a0_4 : Int) (a0_5 : Int) (a0_6 : Int) (l0_7 : List Int) (l0_8 : List Int) (a1_0 : Int) (a1_1 : Int) (a1_2 : Int) : Option (Bool) := (impl_in.f a0_2 1 (mn (mn 3 a1_0) a1_1)).bind fun t360 => (if t360 = true then ((impl_in.f a0_3 1 2).bind fun t361 => (some t361)) else (some false))
theorem impl_Layer_isWindow.calls (a0_0 : Int) (a0_1 : Int) (a0_2 : Int) (a0_3 : Int) (a0_4 : Int) (a0_5 : Int) (a0_6 : Int) (A0_7 : Option Addr) (c0_7 : Nat) (l0_7 : List Int) (A0_8 : Option Addr) (c0_8 : Nat) (l0_8 : List Int) (a1_0 : Int) (a1_1 : Int) (a1_2 : Int) (r : Bool) (w : World) (hr0_7 : Kd.C (Kd.int .i64) w A0_7 l0_7.length l0_7) (hc0_7 : l0_7.length ≤ c0_7) (hr0_8 : Kd.C (Kd.int .i64) w A0_8 l0_8.length l0_8) (hc0_8 : l0_8.length ≤ c0_8) (h : impl_Layer_isWindow.f a0_0 a0_1 a0_2 a0_3 a0_4 a0_5 a0_6 l0_7 l0_8 a1_0 a1_1 a1_2 = some r) :
   Calls Try.prog 67 #[.agg #[.int .i64 a0_0, .int .i64 a0_1, .int .i64 a0_2, .int .i64 a0_3, .int .i64 a0_4, .int .i64 a0_5, .int .i64 a0_6, .slice A0_7 l0_7.length c0_7, .slice A0_8 l0_8.length c0_8], .agg #[.int .i64 a1_0, .int .i64 a1_1, .int .i64 a1_2]] w fun e w' => e = .returned (.bool r) ∧ Below w.heap.size w w' := by
  have hu37 := Try.underlying37;have hu31 := Try.underlying31;have HR0_7 := am hr0_7;have HC0_7 := am hc0_7;clear hr0_7 hc0_7;have HR0_8 := am hr0_8;have HC0_8 := am hc0_8;clear hr0_8 hc0_8;have HB := am (Below.refl w.heap.size w);have H : ((impl_in.f a0_2 1 (mn (mn 3 a1_0) a1_1)).bind fun t360 => (if t360 = true then ((impl_in.f a0_3 1 2).bind fun t361 => (some t361)) else (some false))) = some r := h;clear h;obtain ⟨ji3, hji3⟩ : ∃ j_ : Int, (mn 3 a1_0) = j_ := ⟨_, rfl⟩;replace H : ((impl_in.f a0_2 1 (mn (ji3) a1_1)).bind fun t360 => (if t360 = true then ((impl_in.f a0_3 1 2).bind fun t361 => (some t361)) else (some false))) = some r := by first | (rw [hji3] at H; exact H) | (simp only [hji3] at H ⊢; exact H)
  (try (have hji3h : ji3 ≤ 3 := by (rw [← hji3]; unfold mn; (repeat' split) <;> omega)));(try (have hji3g : ji3 ≤ 64 := by omega));have hji3_ : (if a1_0 < 3 then a1_0 else 3) = ji3 := hji3;obtain ⟨ji4, hji4⟩ : ∃ j_ : Int, (mn (ji3) a1_1) = j_ := ⟨_, rfl⟩;replace H : ((impl_in.f a0_2 1 (ji4)).bind fun t360 => (if t360 = true then ((impl_in.f a0_3 1 2).bind fun t361 => (some t361)) else (some false))) = some r := by first | (rw [hji4] at H; exact H) | (simp only [hji4] at H ⊢; exact H)
  have hji4_ : (if a1_1 < (ji3) then a1_1 else (ji3)) = ji4 := hji4;obtain ⟨t360, A5, H⟩ := bnd H;(try dsimp only at H);by_cases c6 : t360 = true
  case' neg => skip
  replace c6 := Bool.eq_false_iff.mpr c6;subst c6
  rw [if_neg (show ¬ (false = true) by decide)] at H
  obtain rfl := Option.some.inj H;rotate_left;subst c6;rw [if_pos rfl] at H;obtain ⟨t361, A7, H⟩ := bnd H;(try dsimp only at H);obtain rfl := Option.some.inj H;rotate_left
  all_goals (go_enter Try.func67, Try.ntmps67; go_wp2_with (first | ((with_reducible refine gate_dst (N := 2) rfl ?_); refine boxM 2 #[.int .i64 a0_0, .int .i64 a0_1, .int .i64 a0_2, .int .i64 a0_3, .int .i64 a0_4, .int .i64 a0_5, .int .i64 a0_6, .slice A0_7 l0_7.length c0_7, .slice A0_8 l0_8.length c0_8] 37 ?_; intro gb358 hg w_ BK358 hb; obtain ⟨HB, GW358, GE358⟩ := box_at w hb hg; clear hb hg) | ((with_reducible refine gate_dst (N := 3) rfl ?_); refine boxM 3 #[.int .i64 a1_0, .int .i64 a1_1, .int .i64 a1_2] 31 ?_; intro gb359 hg w_ BK359 hb; obtain ⟨HB, GW359, GE359⟩ := box_at w hb hg; obtain ⟨BK358, NB358_359, NB359_358⟩ := box_on gb358 hb hg; clear hb hg; have hn_ := ne2 NB358_359; have hcz_ := cells9 BK358.out; have hcz_ := cells3 BK359.out) | ((with_reducible refine gate_callee (f := 70) rfl ?_); refine goesL_ (some 12) rfl rfl Try.func70 (by kernel_rfl) rfl #[.int .i64 a0_2, .int .i64 1, .int .i64 ji4] rfl (by (try simp only [List.map_toArray, List.map_cons, List.map_nil]); first | done | (simp only [hji4]; rfl) | rfl | (simp only [List.length_drop, List.length_take]; rfl)) ?_; (with_reducible refine (impl_in.calls a0_2 1 ji4 false _ A5.out).mono ?_); rintro e w' ⟨rfl, ⟨nd, rfl⟩⟩; refine ⟨_, rfl, ?_⟩) | ((with_reducible refine gate_callee (f := 70) rfl ?_); refine goesL_ (some 12) rfl rfl Try.func70 (by kernel_rfl) rfl #[.int .i64 a0_2, .int .i64 1, .int .i64 ji4] rfl (by (try simp only [List.map_toArray, List.map_cons, List.map_nil]); first | done | (simp only [hji4]; rfl) | rfl | (simp only [List.length_drop, List.length_take]; rfl)) ?_; (with_reducible refine (impl_in.calls a0_2 1 ji4 true _ A5.out).mono ?_); rintro e w' ⟨rfl, ⟨nd, rfl⟩⟩; refine ⟨_, rfl, ?_⟩) | (go_at_call 70; (with_reducible refine (impl_in.calls a0_3 1 2 t361 _ A7.out).mono ?_); rintro e w' ⟨rfl, ⟨nd, rfl⟩⟩)))
  ·go_ret
   exact ⟨by first | rfl | (simp [errW_none, errW_some] <;> rfl) | (simp only [← hji3, ← hji4]; first | rfl | (simp [errW_none, errW_some] <;> rfl)) | (simp [*, errW_none, errW_some] <;> rfl), bel_now⟩
  ·go_ret
   exact ⟨by first | rfl | (simp [errW_none, errW_some] <;> rfl) | (simp only [← hji3, ← hji4]; first | rfl | (simp [errW_none, errW_some] <;> rfl)) | (simp [*, errW_none, errW_some] <;> rfl), bel_now⟩

def impl_Layer_windows.f (a0_0 : Int) (a0_1 : Int) (a0_2 : Int) (a0_3 : Int) (a0_4 : Int) (a0_5 : Int) (a0_6 : Int) (l0_7 : List Int) (l0_8 : List Int) (a1_0 : Int) (a1_1 : Int) (a1_2 : Int) (a2 : Int) : Option (Int × Int × Int) := if a0_3 = 0 then (none) else (some (wrap64 ((wrap64 (Int.tdiv (wrap64 (a1_0 - a0_2)) a0_3)) + 1), wrap64 ((wrap64 (Int.tdiv (wrap64 (a1_1 - a0_2)) a0_3)) + 1), a2))
def impl_Layer_windows.T1 : Bool × List (List Nat × List Nat) := (true, [([], []), ([0], [0]), ([], []), ([2], [2]), ([1, 3], [1, 3]), ([], []), ([5], [5]), ([4, 6], [4, 6]), ([7], [7]), ([], []), ([9], [9]), ([], []), ([11], [11]), ([10, 12], [10, 12]), ([], []), ([14], [14]), ([13, 15], [13, 15]), ([16], [16]), ([], []), ([8, 17, 18], [8, 17, 18]), ([19, 0, 1, 2, 3, 4, 5, 6, 7, 8, 9, 10, 11, 12, 13, 14, 15, 16, 17, 18, 19], [19])])
def impl_Layer_windows.B1 : List Nat := [0, 1, 0, 4, 15, 0, 32, 127, 255, 0, 512, 0, 2048, 7680, 0, 16384, 65024, 130560, 0, 524287, 1048575]
theorem impl_Layer_windows.tab1 : rtab .any (opsOf Try.f68 1) = impl_Layer_windows.T1 := by kernel_rfl
theorem impl_Layer_windows.bits1 : waitsOk impl_Layer_windows.T1.2 impl_Layer_windows.B1 = true := by kernel_rfl
theorem impl_Layer_windows.calls (a0_0 : Int) (a0_1 : Int) (a0_2 : Int) (a0_3 : Int) (a0_4 : Int) (a0_5 : Int) (a0_6 : Int) (A0_7 : Option Addr) (c0_7 : Nat) (l0_7 : List Int) (A0_8 : Option Addr) (c0_8 : Nat) (l0_8 : List Int) (a1_0 : Int) (a1_1 : Int) (a1_2 : Int) (a2 : Int) (r1 : Int) (r2 : Int) (r3 : Int) (w : World) (hr0_7 : Kd.C (Kd.int .i64) w A0_7 l0_7.length l0_7) (hc0_7 : l0_7.length ≤ c0_7) (hr0_8 : Kd.C (Kd.int .i64) w A0_8 l0_8.length l0_8) (hc0_8 : l0_8.length ≤ c0_8) (h : impl_Layer_windows.f a0_0 a0_1 a0_2 a0_3 a0_4 a0_5 a0_6 l0_7 l0_8 a1_0 a1_1 a1_2 a2 = some (r1, r2, r3)) :
   Calls Try.prog 68 #[.agg #[.int .i64 a0_0, .int .i64 a0_1, .int .i64 a0_2, .int .i64 a0_3, .int .i64 a0_4, .int .i64 a0_5, .int .i64 a0_6, .slice A0_7 l0_7.length c0_7, .slice A0_8 l0_8.length c0_8], .agg #[.int .i64 a1_0, .int .i64 a1_1, .int .i64 a1_2], .int .i64 a2] w fun e w' => e = .returned (.agg #[.int .i64 r1, .int .i64 r2, .int .i64 r3]) ∧ Below w.heap.size w w' := by
  have hu37 := Try.underlying37;have hu31 := Try.underlying31;have HR0_7 := am hr0_7;have HC0_7 := am hc0_7;clear hr0_7 hc0_7;have HR0_8 := am hr0_8;have HC0_8 := am hc0_8;clear hr0_8 hc0_8;have HB := am (Below.refl w.heap.size w);have H : (if a0_3 = 0 then (none) else (some (wrap64 ((wrap64 (Int.tdiv (wrap64 (a1_0 - a0_2)) a0_3)) + 1), wrap64 ((wrap64 (Int.tdiv (wrap64 (a1_1 - a0_2)) a0_3)) + 1), a2))) = some (r1, r2, r3) := h;clear h;by_cases c4 : a0_3 = 0
  ·rw [if_pos c4] at H;exact absurd H (by simp)
  rw [if_neg c4] at H;have c4b0 : (a0_3 == 0) = false := beq_eq_false_iff_ne.mpr c4;have c4b1 : (a0_3 != 0) = true := bne_iff_ne.mpr c4;simp only [Option.some.injEq, Prod.mk.injEq] at H;obtain ⟨rfl, rfl, rfl⟩ := H
  go_enter Try.func68, Try.ntmps68
  try go_wp2_with (first | ((with_reducible refine gate_dst (N := 3) rfl ?_); refine boxM 3 #[.int .i64 a0_0, .int .i64 a0_1, .int .i64 a0_2, .int .i64 a0_3, .int .i64 a0_4, .int .i64 a0_5, .int .i64 a0_6, .slice A0_7 l0_7.length c0_7, .slice A0_8 l0_8.length c0_8] 37 ?_; intro gb362 hg w5 BK362 hb; obtain ⟨HB, GW362, GE362⟩ := box_at w hb hg; clear hb hg) | ((with_reducible refine gate_dst (N := 4) rfl ?_); refine boxM 4 #[.int .i64 a1_0, .int .i64 a1_1, .int .i64 a1_2] 31 ?_; intro gb363 hg w6 BK363 hb; obtain ⟨HB, GW363, GE363⟩ := box_at w hb hg; obtain ⟨BK362, NB362_363, NB363_362⟩ := box_on gb362 hb hg; clear hb hg) | ((with_reducible refine gate_dst (N := 6) rfl ?_); refine boxM 6 #[.int .i64 0, .int .i64 0, .int .i64 0] 31 ?_; intro gb364 hg w7 BK364 hb; obtain ⟨HB, GW364, GE364⟩ := box_at w hb hg; obtain ⟨BK362, NB362_364, NB364_362⟩ := box_on gb362 hb hg; obtain ⟨BK363, NB363_364, NB364_363⟩ := box_on gb363 hb hg; clear hb hg))
  replace BK362 := am (blk_drew BK362.out);replace BK363 := am (blk_drew BK363.out);replace BK364 := am (blk_drew BK364.out);replace HB := am (below_drew1 HB.out)
  refine start_ (n := 21) (S := fun w' => w'.cell? ⟨gb363, 0, none⟩ = some (.int .i64 a1_0) ∧ w'.cell? ⟨gb363, 1, none⟩ = some (.int .i64 a1_1) ∧ w'.cell? ⟨gb363, 2, none⟩ = some (.int .i64 a1_2) ∧ w'.cell? ⟨gb362, 0, none⟩ = some (.int .i64 a0_0) ∧ w'.cell? ⟨gb362, 1, none⟩ = some (.int .i64 a0_1) ∧ w'.cell? ⟨gb362, 2, none⟩ = some (.int .i64 a0_2) ∧ w'.cell? ⟨gb362, 3, none⟩ = some (.int .i64 a0_3) ∧ w'.cell? ⟨gb362, 4, none⟩ = some (.int .i64 a0_4) ∧ w'.cell? ⟨gb362, 5, none⟩ = some (.int .i64 a0_5) ∧ w'.cell? ⟨gb362, 6, none⟩ = some (.int .i64 a0_6) ∧ w'.cell? ⟨gb362, 7, none⟩ = some (.slice A0_7 l0_7.length c0_7) ∧ w'.cell? ⟨gb362, 8, none⟩ = some (.slice A0_8 l0_8.length c0_8)) (ds := []) #[O, O, O, O, O, O, O, O, O, O, O, O, O, O, O, O, O, O, O, O, O] (by kernel_rfl) rfl rfl ⟨bc BK363 0, bc BK363 1, bc BK363 2, bc BK362 0, bc BK362 1, bc BK362 2, bc BK362 3, bc BK362 4, bc BK362 5, bc BK362 6, bc BK362 7, bc BK362 8⟩ (fun hHeld => ?_); refine with_tabW impl_Layer_windows.tab1 impl_Layer_windows.bits1 (fun HT_ HW_ => ?_)
  generalize w7.drew = w8 at BK362 BK363 BK364 HB hHeld ⊢
  refine stepP 0 (some 7) (tk 21 1) (any_of HT_.out (by kernel_rfl)) ?_
  refine stepP 2 (some 9) (tk 21 5) (any_of HT_.out (by kernel_rfl)) ?_
  refine stepP 5 (some 12) (tk 21 37) (any_of HT_.out (by kernel_rfl)) ?_
  refine stepP 9 (some 16) (tk 21 549) (any_of HT_.out (by kernel_rfl)) ?_
  refine stepP 11 (some 18) (tk 21 2597) (any_of HT_.out (by kernel_rfl)) ?_
  refine stepP 14 (some 21) (tk 21 18981) (any_of HT_.out (by kernel_rfl)) ?_
  refine stepP 18 (some 25) (tk 21 281125) (any_of HT_.out (by kernel_rfl)) ?_
  refine stepT 1 (some 8) (tk 21 281127) (take_ofW HT_.out HW_.out (by kernel_rfl)) hHeld ?_
  refine stepT 3 (some 10) (tk 21 281135) (take_ofW HT_.out HW_.out (by kernel_rfl)) hHeld ?_
  refine stepP 4 (some 11) (tk 21 281151) (any_of HT_.out (by kernel_rfl)) ?_
  refine stepT 6 (some 13) (tk 21 281215) (take_ofW HT_.out HW_.out (by kernel_rfl)) hHeld ?_
  refine stepP 7 (some 14) (tk 21 281343) (any_of HT_.out (by kernel_rfl)) ?_
  refine stepP 8 (some 15) (tk 21 281599) (any_of HT_.out (by kernel_rfl)) ?_
  refine stepT 10 (some 17) (tk 21 282623) (take_ofW HT_.out HW_.out (by kernel_rfl)) hHeld ?_
  refine stepT 12 (some 19) (tk 21 286719) (take_ofW HT_.out HW_.out (by kernel_rfl)) hHeld ?_
  refine stepP 13 (some 20) (tk 21 294911) (any_of HT_.out (by kernel_rfl)) ?_
  refine stepT 15 (some 22) (tk 21 327679) (take_ofW HT_.out HW_.out (by kernel_rfl)) hHeld ?_
  refine stepP 16 (some 23) (tk 21 393215) (any_of HT_.out (by kernel_rfl)) ?_
  refine stepP 17 (some 24) (tk 21 524287) (any_of HT_.out (by kernel_rfl)) ?_
  refine stepP 19 (some 26) (tk 21 1048575) (any_of HT_.out (by kernel_rfl)) ?_
  refine one_ (i := 20) (N := none) #[I, I, I, I, I, I, I, I, I, I, I, I, I, I, I, I, I, I, I, I, I] rfl rfl (one_of HT_.out (by kernel_rfl)) (by decide) (fun K hK => ?_)
  have hs9 : w8.cell? ⟨gb364, 0, none⟩ = some (.int .i64 0) := (blk_cell BK364.out 0).trans rfl;have hfs9 := blk_frozen BK364.out 0;have hns9_0 := NB362_364.out;have hns9_1 := NB363_364.out;have hms9_0 := NB364_362.out;have hms9_1 := NB364_363.out;have hs10 : w8.cell? ⟨gb364, 1, none⟩ = some (.int .i64 0) := (blk_cell BK364.out 1).trans rfl;have hfs10 := blk_frozen BK364.out 1;have hns10_0 := NB362_364.out;have hns10_1 := NB363_364.out;have hms10_0 := NB364_362.out;have hms10_1 := NB364_363.out;have hs11 : w8.cell? ⟨gb364, 2, none⟩ = some (.int .i64 0) := (blk_cell BK364.out 2).trans rfl;have hfs11 := blk_frozen BK364.out 2;have hns11_0 := NB362_364.out;have hns11_1 := NB363_364.out;have hms11_0 := NB364_362.out;have hms11_1 := NB364_363.out
  refine skip_ (w1 := ?_) (by rfl) rfl ?_ ?_
  rotate_left
  ·go_simp
   rfl
  refine hK.out _ _ ⟨(far3 NB363_364.out (hHeld.1)), (far3 NB363_364.out (hHeld.2.1)), (far3 NB363_364.out (hHeld.2.2.1)), (far3 NB362_364.out (hHeld.2.2.2.1)), (far3 NB362_364.out (hHeld.2.2.2.2.1)), (far3 NB362_364.out (hHeld.2.2.2.2.2.1)), (far3 NB362_364.out (hHeld.2.2.2.2.2.2.1)), (far3 NB362_364.out (hHeld.2.2.2.2.2.2.2.1)), (far3 NB362_364.out (hHeld.2.2.2.2.2.2.2.2.1)), (far3 NB362_364.out (hHeld.2.2.2.2.2.2.2.2.2.1)), (far3 NB362_364.out (hHeld.2.2.2.2.2.2.2.2.2.2.1)), (far3 NB362_364.out (hHeld.2.2.2.2.2.2.2.2.2.2.2))⟩ (fun hHeld => ?_)
  clear hK K
  refine done_ (done_of HT_.out (by kernel_rfl)) ?_
  try go_wp2
  refine bodyPost_ret (results_cell_row rfl _ _ gb364 31 #[.int .i64 (wrap64 ((wrap64 (Int.tdiv (wrap64 (a1_0 - a0_2)) a0_3)) + 1)), .int .i64 (wrap64 ((wrap64 (Int.tdiv (wrap64 (a1_1 - a0_2)) a0_3)) + 1)), .int .i64 a2] (0, 0) _ rfl (blk_fars (puts3 BK364.out)) Try.underlying31 rfl (by kernel_rfl)) rfl ?_
  exact ⟨eqN, bel_now⟩

end Go.Proofs.Ytclpojeofclbjaa.PFnExactEvalModel
