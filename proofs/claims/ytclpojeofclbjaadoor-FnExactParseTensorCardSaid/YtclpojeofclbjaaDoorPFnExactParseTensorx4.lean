import Derived.Test.YtclpojeofclbjaaDoorPFnExactParseTensorx0
namespace Go.Proofs.YtclpojeofclbjaaDoor.PFnExactParseTensor
open Go.RowKit Go.Proofs.YtclpojeofclbjaaDoorW.PrintWords Go.Proofs.YtclpojeofclbjaaDoorW.PrintLast Go.Proofs.YtclpojeofclbjaaDoorW.PrintMore
attribute [local go_sem] max2_int min2_int max_two min_two max_three min_three max_four min_four
set_option maxHeartbeats 8000000
set_option maxRecDepth 100000
set_option linter.unusedVariables false
set_option linter.unusedSimpArgs false

def strings_Cut.f (a0 a1 : ByteArray) : Option (ByteArray × ByteArray × Bool) := if a0.size < 4294967281 then (some (⟨(Lib.cut a0.data.toList a1.data.toList).1.toArray⟩, ⟨(Lib.cut a0.data.toList a1.data.toList).2.1.toArray⟩, (Lib.cut a0.data.toList a1.data.toList).2.2)) else (none)
theorem strings_Cut.calls (a0 : ByteArray) (a1 : ByteArray) (r1 : ByteArray) (r2 : ByteArray) (r3 : Bool) (w : World) (htab : TabT w) (h : strings_Cut.f a0 a1 = some (r1, r2, r3)) :
   Calls Tryd.prog 30 #[.string a0, .string a1] w fun e w' => e = .returned (.tuple #[.string r1, .string r2, .bool r3]) ∧ Below w.heap.size w w' := by
  unfold strings_Cut.f at h
  split at h
  case isFalse => cases h
  rename_i hs;obtain ⟨m, hm⟩ := htab.2.1;have e := Option.some.inj h;simp only [Prod.mk.injEq] at e;obtain ⟨rfl, rfl, rfl⟩ := e;exact (Tryd.strings_Cut a0 a1 m w hs hm).mono fun e w' ⟨he, n, hw⟩ => ⟨he, by rw [hw]; exact pw_below_drewN (Below.refl _ _) n⟩

def strings_Split.f (a0 a1 : ByteArray) : Option (List ByteArray) := if a0.size < 4294967281 ∧ 1 ≤ a1.size then (some (Lib.splitB a1 0 (Lib.countB a0 a1) a0)) else (none)
theorem strings_Split.calls (a0 : ByteArray) (a1 : ByteArray) (r : List ByteArray) (w : World) (htab : TabT w) (h : strings_Split.f a0 a1 = some r) :
   Calls Tryd.prog 31 #[.string a0, .string a1] w fun e w' => ∃ v0_ : Value, e = .returned (v0_) ∧ Kd.R Kd.string 9 w' w.heap.size (fun _ => True) v0_ r ∧ Below w.heap.size w w' := by
  unfold strings_Split.f at h
  split at h
  case isFalse => cases h
  rename_i hs;obtain ⟨m, hm⟩ := htab.2.1;obtain rfl := Option.some.inj h;have hl := Lib.splitB_all a1 hs.2 0 (Lib.countB a0 a1) a0 rfl;have hc : Lib.countB a0 a1 < 9223372036854775807 := by
   have := Lib.countB_mul_le a1 hs.2 a0.size a0 (Nat.le_refl _);have h1 := Nat.le_mul_of_pos_right (Lib.countB a0 a1) hs.2
   omega
  refine (Tryd.strings_Split a0 a1 m w hs.1 hm hs.2).mono fun e w' ⟨he, hw⟩ => ⟨_, he, ?_, by rw [hw]; exact below_alloc (Below.refl _ _) _⟩
  rw [hw, ← hl]
  refine ⟨fun _ _ => trivial, encs Value.string (Lib.splitB a1 0 (Lib.countB a0 a1) a0), ?_, ?_⟩
  rotate_left
  ·exact Kd.reps_scalar _
  have h2 := World.ownsRow_lit (base := w.heap.size) (e := 9) (size := 1) w ((Lib.splitB a1 0 (Lib.countB a0 a1) a0).map Value.string).toArray (Lib.splitB a1 0 (Lib.countB a0 a1) a0).length (Nat.le_refl _) (by rw [hl]; simp [maxLen]; omega) (by simp)
  (rw [List.toList_toArray] at h2; exact h2)

def atoiV (s : ByteArray) : Int := match Lib.atoiAll s.data.toList with
  | .ok v => v
  | .range => Lib.atoiSat s.data.toList
  | _ => 0
def strconv_Atoi.f (a0 : ByteArray) : Option (Int) := if a0.size ≤ 281474976710656 then (some (atoiV a0)) else (none)
theorem strconv_Atoi.calls (a0 : ByteArray) (r : Int) (w : World) (htab : TabT w) (h : strconv_Atoi.f a0 = some r) :
   Calls Tryd.prog 32 #[.string a0] w fun e w' => ∃ ev : Value, e = .returned (.tuple #[.int .i64 r, ev]) ∧ Below w.heap.size w w' := by
  unfold strconv_Atoi.f at h
  split at h
  case isFalse => cases h
  rename_i hs;obtain rfl := Option.some.inj h;obtain ⟨t1, p1, h1⟩ := htab.2.2.1;obtain ⟨t2, p2, h2⟩ := htab.2.2.2
  unfold atoiV
  cases hc : Lib.atoiAll a0.data.toList with
  | ok v => exact (Tryd.strconv_Atoi_ok a0 (by omega) v hc w).mono fun e w' ⟨he, hw⟩ => ⟨_, he, by
    rcases hw with rfl | ⟨t, rfl⟩
    ·exact Below.refl _ _
    ·exact Lib.bytesWorld_below _ _ _⟩
  | range => exact (Tryd.strconv_Atoi_range a0 hs hc _ w h2 (Or.inr ⟨_, _, rfl⟩)).mono fun e w' ⟨N, he, _, _, hb⟩ => ⟨_, he, hb⟩
  | _ => exact (Any.strconv_Atoi_syntax Tryd.laysC172 a0 hs hc _ w h1 (Or.inr ⟨_, _, rfl⟩)).mono fun e w' ⟨N, he, _, _, hb⟩ => ⟨_, he, hb⟩

def impl_in.f (a0 : Int) (a1 : Int) (a2 : Int) : Option (Bool) := if a1 ≤ a0 then (some (decide (a0 ≤ a2))) else (some false)
theorem impl_in.calls (a0 : Int) (a1 : Int) (a2 : Int) (r : Bool) (w : World) (h : impl_in.f a0 a1 a2 = some r) :
   Calls Tryd.prog 41 #[.int .i64 a0, .int .i64 a1, .int .i64 a2] w fun e w' => e = .returned (.bool r) ∧ Drawn0 w w' := by
  have H : (if a1 ≤ a0 then (some (decide (a0 ≤ a2))) else (some false)) = some r := h;clear h;by_cases c4 : a1 ≤ a0
  ·rw [if_pos c4] at H;have c4b0 : decide (a1 ≤ a0) = true := decide_eq_true c4;clear c4;obtain rfl := Option.some.inj H
   go_enter Tryd.func41, Tryd.ntmps41
   go_wp2
   go_ret
   exact ⟨by first | rfl | (simp; done) | (simp [*]; done), by repeat (first | exact Drawn0.refl _ | apply Drawn0.step)⟩
  rw [if_neg c4] at H;have c4b0 : decide (a1 ≤ a0) = false := decide_eq_false c4;clear c4;obtain rfl := Option.some.inj H
  go_enter Tryd.func41, Tryd.ntmps41
  go_wp2
  go_ret
  exact ⟨by first | rfl | (simp; done) | (simp [*]; done), by repeat (first | exact Drawn0.refl _ | apply Drawn0.step)⟩

def impl_ShapeOk.f (a0_0 : Int) (a0_1 : Int) (a0_2 : Int) : Option (Bool) := (impl_in.f a0_0 1 8).bind fun t165 => (if t165 = true then ((impl_in.f a0_1 1 8).bind fun t166 => (if t166 = true then ((impl_in.f a0_2 1 8).bind fun t167 => (some t167)) else (some false))) else (some false))
theorem impl_ShapeOk.calls (a0_0 : Int) (a0_1 : Int) (a0_2 : Int) (r : Bool) (w : World) (h : impl_ShapeOk.f a0_0 a0_1 a0_2 = some r) :
   Calls Tryd.prog 74 #[.agg #[.int .i64 a0_0, .int .i64 a0_1, .int .i64 a0_2]] w fun e w' => e = .returned (.bool r) ∧ Below w.heap.size w w' := by
  have hu29 := Tryd.underlying29;have HB := am (Below.refl w.heap.size w);have H : ((impl_in.f a0_0 1 8).bind fun t165 => (if t165 = true then ((impl_in.f a0_1 1 8).bind fun t166 => (if t166 = true then ((impl_in.f a0_2 1 8).bind fun t167 => (some t167)) else (some false))) else (some false))) = some r := h;clear h;obtain ⟨t165, A2, H⟩ := bnd H;(try dsimp only at H);by_cases c3 : t165 = true
  case' neg => skip
  replace c3 := Bool.eq_false_iff.mpr c3;subst c3
  rw [if_neg (show ¬ (false = true) by decide)] at H
  obtain rfl := Option.some.inj H;rotate_left;subst c3;rw [if_pos rfl] at H;obtain ⟨t166, A4, H⟩ := bnd H;(try dsimp only at H);by_cases c5 : t166 = true
  case' neg => skip
  replace c5 := Bool.eq_false_iff.mpr c5;subst c5
  rw [if_neg (show ¬ (false = true) by decide)] at H
  obtain rfl := Option.some.inj H;rotate_left;subst c5;rw [if_pos rfl] at H;obtain ⟨t167, A6, H⟩ := bnd H;(try dsimp only at H);obtain rfl := Option.some.inj H;rotate_left
  all_goals (go_enter Tryd.func74, Tryd.ntmps74; go_wp2_with (first | ((with_reducible refine gate_dst (N := 1) rfl ?_); refine boxM 1 #[.int .i64 a0_0, .int .i64 a0_1, .int .i64 a0_2] 29 ?_; intro gb164 hg w_ BK164 hb; obtain ⟨HB, GW164, GE164⟩ := box_at w hb hg; clear hb hg; have hcz_ := cells3 BK164.out) | ((with_reducible refine gate_callee (f := 41) rfl ?_); refine gM 5 Tryd.func41 #[.int .i64 a0_0, .int .i64 1, .int .i64 8] rfl ?_; (with_reducible refine (impl_in.calls a0_0 1 8 false _ A2.out).mono ?_); rintro e w' ⟨rfl, ⟨nd, rfl⟩⟩; refine ⟨_, rfl, ?_⟩) | ((with_reducible refine gate_callee (f := 41) rfl ?_); refine gM 5 Tryd.func41 #[.int .i64 a0_0, .int .i64 1, .int .i64 8] rfl ?_; (with_reducible refine (impl_in.calls a0_0 1 8 true _ A2.out).mono ?_); rintro e w' ⟨rfl, ⟨nd, rfl⟩⟩; refine ⟨_, rfl, ?_⟩) | (go_at_call 41; (with_reducible refine (impl_in.calls a0_1 1 8 false _ A4.out).mono ?_); rintro e w' ⟨rfl, ⟨nd, rfl⟩⟩) | (go_at_call 41; (with_reducible refine (impl_in.calls a0_1 1 8 true _ A4.out).mono ?_); rintro e w' ⟨rfl, ⟨nd, rfl⟩⟩) | (go_at_call 41; (with_reducible refine (impl_in.calls a0_2 1 8 t167 _ A6.out).mono ?_); rintro e w' ⟨rfl, ⟨nd, rfl⟩⟩)))
  ·go_ret
   exact ⟨eqN, bel_now⟩
  ·go_ret
   exact ⟨eqN, bel_now⟩
  ·go_ret
   exact ⟨eqN, bel_now⟩

def impl_SizeOf.f (a0_0 : Int) (a0_1 : Int) (a0_2 : Int) : Option (Int) := (impl_ShapeOk.f a0_0 a0_1 a0_2).bind fun t169 => (if t169 = true then (some (wrap64 ((wrap64 (a0_0 * a0_1)) * a0_2))) else (some 0))
theorem impl_SizeOf.calls (a0_0 : Int) (a0_1 : Int) (a0_2 : Int) (r : Int) (w : World) (h : impl_SizeOf.f a0_0 a0_1 a0_2 = some r) :
   Calls Tryd.prog 75 #[.agg #[.int .i64 a0_0, .int .i64 a0_1, .int .i64 a0_2]] w fun e w' => e = .returned (.int .i64 r) ∧ Below w.heap.size w w' := by
  have hu29 := Tryd.underlying29;have HB := am (Below.refl w.heap.size w);have H : ((impl_ShapeOk.f a0_0 a0_1 a0_2).bind fun t169 => (if t169 = true then (some (wrap64 ((wrap64 (a0_0 * a0_1)) * a0_2))) else (some 0))) = some r := h;clear h;obtain ⟨t169, A2, H⟩ := bnd H;(try dsimp only at H);by_cases c3 : t169 = true;subst c3;rw [if_pos rfl] at H;obtain rfl := Option.some.inj H;rotate_left;replace c3 := Bool.eq_false_iff.mpr c3;subst c3
  rw [if_neg (show ¬ (false = true) by decide)] at H
  obtain rfl := Option.some.inj H;rotate_left
  all_goals (go_enter Tryd.func75, Tryd.ntmps75; go_wp2_with (first | ((with_reducible refine gate_dst (N := 1) rfl ?_); refine boxM 1 #[.int .i64 a0_0, .int .i64 a0_1, .int .i64 a0_2] 29 ?_; intro gb168 hg w_ BK168 hb; obtain ⟨HB, GW168, GE168⟩ := box_at w hb hg; clear hb hg; have hcz_ := cells3 BK168.out) | ((with_reducible refine gate_callee (f := 74) rfl ?_); refine gM 4 Tryd.func74 #[.agg #[.int .i64 a0_0, .int .i64 a0_1, .int .i64 a0_2]] rfl ?_; (with_reducible refine (impl_ShapeOk.calls a0_0 a0_1 a0_2 true _ A2.out).mono ?_); rintro e w_ ⟨rfl, hb⟩; refine ⟨_, rfl, ?_⟩; replace HB := bel_on w hb; replace BK168 := blk_on gb168 hb; (try clear hb); (try clear hb2); (try clear hb3); (try clear hk); (try clear hi); have hcz_ := cells3 BK168.out) | ((with_reducible refine gate_callee (f := 74) rfl ?_); refine gM 4 Tryd.func74 #[.agg #[.int .i64 a0_0, .int .i64 a0_1, .int .i64 a0_2]] rfl ?_; (with_reducible refine (impl_ShapeOk.calls a0_0 a0_1 a0_2 false _ A2.out).mono ?_); rintro e w_ ⟨rfl, hb⟩; refine ⟨_, rfl, ?_⟩; replace HB := bel_on w hb; replace BK168 := blk_on gb168 hb; (try clear hb); (try clear hb2); (try clear hb3); (try clear hk); (try clear hi))))
  ·go_ret
   exact ⟨eqN, bel_now⟩
  ·go_ret
   exact ⟨eqN, bel_now⟩

def impl_areItems_1.f (a0 : Int) : Option (Bool) := (impl_in.f a0 (-128) 127).bind fun t170 => (some (!t170))
theorem impl_areItems_1.calls (a0 : Int) (r : Bool) (w : World) (h : impl_areItems_1.f a0 = some r) :
   Calls Tryd.prog 97 #[.int .i64 a0] w fun e w' => e = .returned (.bool r) ∧ Drawn0 w w' := by
  have H : ((impl_in.f a0 (-128) 127).bind fun t170 => (some (!t170))) = some r := h;clear h;obtain ⟨t170, A2, H⟩ := bnd H;(try dsimp only at H);obtain rfl := Option.some.inj H
  go_enter Tryd.func97, Tryd.ntmps97
  go_wp2_with (first | ((with_reducible refine gate_callee (f := 41) rfl ?_); refine gM 4 Tryd.func41 #[.int .i64 a0, .int .i64 (-128), .int .i64 127] rfl ?_; (with_reducible refine (impl_in.calls a0 (-128) 127 t170 _ A2.out).mono ?_); rintro e w' ⟨rfl, ⟨nd, rfl⟩⟩; refine ⟨_, rfl, ?_⟩))
  go_ret
  exact ⟨by first | rfl | (simp; done) | (simp [*]; done), by repeat (first | exact Drawn0.refl _ | apply Drawn0.step)⟩

def slices_IndexFunc_int_int_impl_areItems_1.l0 : Nat → List Int → Int → Int → Option (Int)
  | 0, _, _, _ => none
  | k + 1, x0, x7, x8 => if x8 < x7 then (if 0 ≤ x8 then (if x8 < (x0.length : Int) then ((impl_areItems_1.f (rd x0 x8)).bind fun t172 => (if t172 = true then (some x8) else (slices_IndexFunc_int_int_impl_areItems_1.l0 k x0 x7 (wrap64 (x8 + 1))))) else (none)) else (none)) else (some (-1))
def slices_IndexFunc_int_int_impl_areItems_1.f (k : Nat) (l0 : List Int) : Option (Int) := slices_IndexFunc_int_int_impl_areItems_1.l0 k l0 (l0.length : Int) 0
theorem slices_IndexFunc_int_int_impl_areItems_1.calls (k : Nat) (A0 : Option Addr) (c0 : Nat) (l0 : List Int) (r : Int) (w : World) (hr0 : Kd.C (Kd.int .i64) w A0 l0.length l0) (hc0 : l0.length ≤ c0) (h : slices_IndexFunc_int_int_impl_areItems_1.f k l0 = some r) :
   Calls Tryd.prog 108 #[.slice A0 l0.length c0, .func (.func 97) #[] #[]] w fun e w' => e = .returned (.int .i64 r) ∧ Drawn0 w w' := by
  have HR0 := am hr0;have HC0 := am hc0;clear hr0 hc0;have H : (slices_IndexFunc_int_int_impl_areItems_1.l0 k l0 (l0.length : Int) 0) = some r := h;clear h;have H' := am H;clear H
  go_enter Tryd.func108, Tryd.ntmps108
  go_wp2
  go_loopg [8] k (fun kq v8 w' => ∃ (x8_1 : Int), v8 = .int .i64 x8_1 ∧ Aside0 (slices_IndexFunc_int_int_impl_areItems_1.l0 kq l0 (l0.length : Int) x8_1 = some r) ∧ Aside0 (kq ≤ k) ∧ Drawn0 w w')
  case atStart => exact ⟨(0), pv, H', ⟨Nat.le_refl _⟩, by repeat (first | exact Drawn0.refl _ | apply Drawn0.step)⟩
  case round =>
   clear H';obtain ⟨x8_1, rfl, HA, HK1, ⟨m1, rfl⟩⟩ := hrel
   cases gk with
   | zero => exact absurd HA.out (by simp [slices_IndexFunc_int_int_impl_areItems_1.l0])
   | succ k1 =>
    have H := HA.out;clear HA;simp only [slices_IndexFunc_int_int_impl_areItems_1.l0] at H;by_cases c2 : x8_1 < (l0.length : Int);rotate_left
    ·rw [if_neg c2] at H;have c2b0 : decide (x8_1 < (l0.length : Int)) = false := decide_eq_false c2;clear c2;obtain rfl := Option.some.inj H
     go_wp2
     go_ret
     exact ⟨by first | rfl | (simp; done) | (simp [*]; done), by repeat (first | exact Drawn0.refl _ | apply Drawn0.step)⟩
    rw [if_pos c2] at H;have c2b0 : decide (x8_1 < (l0.length : Int)) = true := decide_eq_true c2;clear c2;obtain ⟨c3, H⟩ := gd H;have c3b0 : decide (0 ≤ x8_1) = true := decide_eq_true c3;clear c3;obtain ⟨c4, H⟩ := gd H;have c4b0 : decide (x8_1 < (l0.length : Int)) = true := decide_eq_true c4;clear c4;obtain ⟨t172, A5, H⟩ := bnd H;(try dsimp only at H);by_cases c6 : t172 = true
    ·subst c6;rw [if_pos rfl] at H;obtain rfl := Option.some.inj H;have p171 : 0 ≤ (x8_1 : Int) := of_decide_eq_true (by first | (with_reducible assumption) | assumption);have q171 : x8_1 < (l0.length : Int) := of_decide_eq_true (by first | (with_reducible assumption) | assumption);obtain ⟨ad171, e171, hx171_0⟩ := Kd.at_int HR0.out x8_1 p171 q171;cases e171;replace p171 := eq_true p171;replace q171 := eq_true q171
     go_wp2_with (first | (go_at_call 97; (with_reducible refine (impl_areItems_1.calls (rd l0 x8_1) true _ A5.out).mono ?_); rintro e w' ⟨rfl, ⟨nd, rfl⟩⟩))
     go_ret
     exact ⟨by first | rfl | (simp; done) | (simp [*]; done), by repeat (first | exact Drawn0.refl _ | apply Drawn0.step)⟩
    replace c6 := Bool.eq_false_iff.mpr c6;subst c6
    rw [if_neg (show ¬ (false = true) by decide)] at H
    have H' := am H;clear H;have p171 : 0 ≤ (x8_1 : Int) := of_decide_eq_true (by first | (with_reducible assumption) | assumption);have q171 : x8_1 < (l0.length : Int) := of_decide_eq_true (by first | (with_reducible assumption) | assumption);obtain ⟨ad171, e171, hx171_0⟩ := Kd.at_int HR0.out x8_1 p171 q171;cases e171;replace p171 := eq_true p171;replace q171 := eq_true q171
    go_wp2_with (first | (go_at_call 97; (with_reducible refine (impl_areItems_1.calls (rd l0 x8_1) false _ A5.out).mono ?_); rintro e w' ⟨rfl, ⟨nd, rfl⟩⟩))
    go_roundg k1
    case measure => have := HK1.out; omega
    case rel => exact ⟨(wrap64 (x8_1 + 1)), pv, H', ⟨by have := HK1.out; omega⟩, by repeat (first | exact Drawn0.refl _ | apply Drawn0.step)⟩

def slices_ContainsFunc_int_int_impl_areItems_1.f (k : Nat) (l0 : List Int) : Option (Bool) := (slices_IndexFunc_int_int_impl_areItems_1.f k l0).bind fun t173 => (some (decide (t173 ≥ 0)))
theorem slices_ContainsFunc_int_int_impl_areItems_1.calls (k : Nat) (A0 : Option Addr) (c0 : Nat) (l0 : List Int) (r : Bool) (w : World) (hr0 : Kd.C (Kd.int .i64) w A0 l0.length l0) (hc0 : l0.length ≤ c0) (h : slices_ContainsFunc_int_int_impl_areItems_1.f k l0 = some r) :
   Calls Tryd.prog 96 #[.slice A0 l0.length c0, .func (.func 97) #[] #[]] w fun e w' => e = .returned (.bool r) ∧ Drawn0 w w' := by
  have HR0 := am hr0;have HC0 := am hc0;clear hr0 hc0;have H : ((slices_IndexFunc_int_int_impl_areItems_1.f k l0).bind fun t173 => (some (decide (t173 ≥ 0)))) = some r := h;clear h;obtain ⟨t173, A2, H⟩ := bnd H;(try dsimp only at H);obtain rfl := Option.some.inj H
  go_enter Tryd.func96, Tryd.ntmps96
  go_wp2_with (first | (go_at_call 108; (with_reducible refine (slices_IndexFunc_int_int_impl_areItems_1.calls k _ _ l0 t173 _ ?side1 HC0.out A2.out).mono ?_); (case side1 => repeat (first | exact HR0.out | (with_reducible refine Kd.C_alloc ?_ _) | (with_reducible refine Kd.C_drewN ?_ _) | (with_reducible refine Kd.C_drew ?_))); rintro e w' ⟨rfl, ⟨nd, rfl⟩⟩))
  go_ret
  exact ⟨by first | rfl | (simp; done) | (simp [*]; done), by repeat (first | exact Drawn0.refl _ | apply Drawn0.step)⟩

def impl_areItems.f (k : Nat) (l0 : List Int) : Option (Bool) := (slices_ContainsFunc_int_int_impl_areItems_1.f k l0).bind fun t174 => (some (!t174))
theorem impl_areItems.calls (k : Nat) (A0 : Option Addr) (c0 : Nat) (l0 : List Int) (r : Bool) (w : World) (hr0 : Kd.C (Kd.int .i64) w A0 l0.length l0) (hc0 : l0.length ≤ c0) (h : impl_areItems.f k l0 = some r) :
   Calls Tryd.prog 76 #[.slice A0 l0.length c0] w fun e w' => e = .returned (.bool r) ∧ Drawn0 w w' := by
  have HR0 := am hr0;have HC0 := am hc0;clear hr0 hc0;have H : ((slices_ContainsFunc_int_int_impl_areItems_1.f k l0).bind fun t174 => (some (!t174))) = some r := h;clear h;obtain ⟨t174, A2, H⟩ := bnd H;(try dsimp only at H);obtain rfl := Option.some.inj H
  go_enter Tryd.func76, Tryd.ntmps76
  go_wp2_with (first | (go_at_call 96; (with_reducible refine (slices_ContainsFunc_int_int_impl_areItems_1.calls k _ _ l0 t174 _ ?side1 HC0.out A2.out).mono ?_); (case side1 => repeat (first | exact HR0.out | (with_reducible refine Kd.C_alloc ?_ _) | (with_reducible refine Kd.C_drewN ?_ _) | (with_reducible refine Kd.C_drew ?_))); rintro e w' ⟨rfl, ⟨nd, rfl⟩⟩))
  go_ret
  exact ⟨by first | rfl | (simp; done) | (simp [*]; done), by repeat (first | exact Drawn0.refl _ | apply Drawn0.step)⟩

end Go.Proofs.YtclpojeofclbjaaDoor.PFnExactParseTensor
