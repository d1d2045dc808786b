import Derived.Test.YtclpojeofclbjaaPFnExactEvalModelx0
import Derived.Test.YtclpojeofclbjaaPFnExactEvalModelx2
import Derived.Test.YtclpojeofclbjaaPFnExactEvalModelx7
namespace Go.Proofs.Ytclpojeofclbjaa.PFnExactEvalModel
open Go.RowKit Go.Proofs.YtclpojeofclbjaaW.PrintWords Go.Proofs.YtclpojeofclbjaaW.PrintLast Go.Proofs.YtclpojeofclbjaaW.PrintMore
attribute [local go_sem] max2_int min2_int max_two min_two max_three min_three max_four min_four
set_option maxHeartbeats 8000000
set_option maxRecDepth 100000
set_option linter.unusedVariables false
set_option linter.unusedSimpArgs false

def spec_Sat8.f (k : Nat) (a0 : Int) : Option (Int) := (spec_ClampTo.f k a0 (-128) 127).bind fun t233 => (some t233)
theorem spec_Sat8.calls (k : Nat) (a0 : Int) (r : Int) (w : World) (h : spec_Sat8.f k a0 = some r) :
   Calls Try.prog 126 #[.int .i64 a0] w fun e w' => e = .returned (.int .i64 r) ∧ Drawn0 w w' := by
  have H : ((spec_ClampTo.f k a0 (-128) 127).bind fun t233 => (some t233)) = some r := h;clear h;obtain ⟨t233, A2, H⟩ := bnd H;(try dsimp only at H);obtain rfl := Option.some.inj H
  go_enter Try.func126, Try.ntmps126
  go_wp2_with (first | ((with_reducible refine gate_callee (f := 138) rfl ?_); refine gM 4 Try.func138 #[.int .i64 a0, .int .i64 (-128), .int .i64 127] rfl ?_; (with_reducible refine (spec_ClampTo.calls k a0 (-128) 127 t233 _ A2.out).mono ?_); rintro e w' ⟨rfl, ⟨nd, rfl⟩⟩; refine ⟨_, rfl, ?_⟩))
  go_ret
  exact ⟨by first | rfl | (simp; done) | (simp [*]; done), by repeat (first | exact Drawn0.refl _ | apply Drawn0.step)⟩

def spec_Sat32.f (k : Nat) (a0 : Int) : Option (Int) := (spec_ClampTo.f k a0 (-2147483648) 2147483647).bind fun t234 => (some t234)
theorem spec_Sat32.calls (k : Nat) (a0 : Int) (r : Int) (w : World) (h : spec_Sat32.f k a0 = some r) :
   Calls Try.prog 129 #[.int .i64 a0] w fun e w' => e = .returned (.int .i64 r) ∧ Drawn0 w w' := by
  have H : ((spec_ClampTo.f k a0 (-2147483648) 2147483647).bind fun t234 => (some t234)) = some r := h;clear h;obtain ⟨t234, A2, H⟩ := bnd H;(try dsimp only at H);obtain rfl := Option.some.inj H
  go_enter Try.func129, Try.ntmps129
  go_wp2_with (first | ((with_reducible refine gate_callee (f := 138) rfl ?_); refine gM 4 Try.func138 #[.int .i64 a0, .int .i64 (-2147483648), .int .i64 2147483647] rfl ?_; (with_reducible refine (spec_ClampTo.calls k a0 (-2147483648) 2147483647 t234 _ A2.out).mono ?_); rintro e w' ⟨rfl, ⟨nd, rfl⟩⟩; refine ⟨_, rfl, ?_⟩))
  go_ret
  exact ⟨by first | rfl | (simp; done) | (simp [*]; done), by repeat (first | exact Drawn0.refl _ | apply Drawn0.step)⟩

def spec_AddSat.f (k : Nat) (a0 : Int) (a1 : Int) : Option (Int) := (spec_Sat32.f k a0).bind fun t235 => ((spec_Sat32.f k a1).bind fun t236 => ((spec_Sat32.f k (wrap64 (t235 + t236))).bind fun t237 => (some t237)))
theorem spec_AddSat.calls (k : Nat) (a0 : Int) (a1 : Int) (r : Int) (w : World) (h : spec_AddSat.f k a0 a1 = some r) :
   Calls Try.prog 97 #[.int .i64 a0, .int .i64 a1] w fun e w' => e = .returned (.int .i64 r) ∧ Drawn0 w w' := by
  have H : ((spec_Sat32.f k a0).bind fun t235 => ((spec_Sat32.f k a1).bind fun t236 => ((spec_Sat32.f k (wrap64 (t235 + t236))).bind fun t237 => (some t237)))) = some r := h;clear h;obtain ⟨t235, A3, H⟩ := bnd H;(try dsimp only at H);obtain ⟨t236, A4, H⟩ := bnd H;(try dsimp only at H);obtain ⟨t237, A5, H⟩ := bnd H;(try dsimp only at H);obtain rfl := Option.some.inj H
  go_enter Try.func97, Try.ntmps97
  go_wp2_with (first | ((with_reducible refine gate_callee (f := 129) rfl ?_); refine gM 6 Try.func129 #[.int .i64 a0] rfl ?_; (with_reducible refine (spec_Sat32.calls k a0 t235 _ A3.out).mono ?_); rintro e w' ⟨rfl, ⟨nd, rfl⟩⟩; refine ⟨_, rfl, ?_⟩) | ((with_reducible refine gate_callee (f := 129) rfl ?_); refine gM 8 Try.func129 #[.int .i64 a1] rfl ?_; (with_reducible refine (spec_Sat32.calls k a1 t236 _ A4.out).mono ?_); rintro e w' ⟨rfl, ⟨nd, rfl⟩⟩; refine ⟨_, rfl, ?_⟩) | ((with_reducible refine gate_callee (f := 129) rfl ?_); refine gM 10 Try.func129 #[.int .i64 (wrap64 (t235 + t236))] rfl ?_; (with_reducible refine (spec_Sat32.calls k (wrap64 (t235 + t236)) t237 _ A5.out).mono ?_); rintro e w' ⟨rfl, ⟨nd, rfl⟩⟩; refine ⟨_, rfl, ?_⟩))
  go_ret
  exact ⟨by first | rfl | (simp; done) | (simp [*]; done), by repeat (first | exact Drawn0.refl _ | apply Drawn0.step)⟩

mutual
def spec_DotOf.l0 : Nat → List Int → List Int → Int → Int → Option (Int)
  | 0, _, _, _, _ => none
  | k + 1, x0, x1, x5, x6 => if x6 < (x0.length : Int) then (spec_DotOf.j1 k x0 x1 x5 x6 (decide (x6 < (x1.length : Int)))) else (spec_DotOf.j1 k x0 x1 x5 x6 false)
def spec_DotOf.j1 : Nat → List Int → List Int → Int → Int → Bool → Option (Int)
  | 0, _, _, _, _, _ => none
  | k + 1, x0, x1, x5, x6, x16 => if x16 = true then (if 0 ≤ x6 then (if x6 < (x0.length : Int) then ((spec_Sat8.f k (rd x0 x6)).bind fun t239 => (if x6 < (x1.length : Int) then ((spec_Sat8.f k (rd x1 x6)).bind fun t241 => ((spec_AddSat.f k x5 (wrap64 (t239 * t241))).bind fun t242 => (spec_DotOf.l0 k x0 x1 t242 (wrap64 (x6 + 1))))) else (none))) else (none)) else (none)) else (some x5)
end
def spec_DotOf.f (k : Nat) (l0 : List Int) (l1 : List Int) : Option (Int) := spec_DotOf.l0 k l0 l1 0 0
theorem spec_DotOf.calls (k : Nat) (A0 : Option Addr) (c0 : Nat) (l0 : List Int) (A1 : Option Addr) (c1 : Nat) (l1 : List Int) (r : Int) (w : World) (hr0 : Kd.C (Kd.int .i64) w A0 l0.length l0) (hc0 : l0.length ≤ c0) (hr1 : Kd.C (Kd.int .i64) w A1 l1.length l1) (hc1 : l1.length ≤ c1) (h : spec_DotOf.f k l0 l1 = some r) :
   Calls Try.prog 98 #[.slice A0 l0.length c0, .slice A1 l1.length c1] w fun e w' => e = .returned (.int .i64 r) ∧ Drawn0 w w' := by
  have HR0 := am hr0;have HC0 := am hc0;clear hr0 hc0;have HR1 := am hr1;have HC1 := am hc1;clear hr1 hc1;have H : (spec_DotOf.l0 k l0 l1 0 0) = some r := h;clear h;have H' := am H;clear H
  go_enter Try.func98, Try.ntmps98
  go_wp2
  repeat (go_quiet (fail); try go_wp2)
  go_loopg [5, 6] k (fun kq v5 v6 w' => ∃ (x5_1 : Int) (x6_1 : Int), v5 = .int .i64 x5_1 ∧ v6 = .int .i64 x6_1 ∧ Aside0 (spec_DotOf.l0 kq l0 l1 x5_1 x6_1 = some r) ∧ Aside0 (kq ≤ k) ∧ Drawn0 w w')
  case atStart => exact ⟨(0), (0), pv, pv, H', ⟨Nat.le_refl _⟩, by repeat (first | exact Drawn0.refl _ | apply Drawn0.step)⟩
  case round =>
   clear H';try clear c1
   obtain ⟨x5_1, x6_1, rfl, rfl, HA, HK1, ⟨m1, rfl⟩⟩ := hrel
   cases gk with
   | zero => exact absurd HA.out (by simp [spec_DotOf.l0])
   | succ k1 =>
    have H := HA.out;clear HA;simp only [spec_DotOf.l0] at H;have HC3 := am H;clear H
    go_upto_region 3 with (fail)
    repeat (go_quiet (fail); go_upto_region 3 with (fail))
    go_cut [16] (fun v16 wc => ∃ (kq : Nat) (x16_2 : Bool), v16 = .bool x16_2 ∧ Aside0 (spec_DotOf.j1 kq l0 l1 x5_1 x6_1 x16_2 = some r) ∧ Aside0 (kq ≤ k1) ∧ Drawn0 w wc)
    case first =>
     have H := HC3.out;clear HC3;by_cases c4 : x6_1 < (l0.length : Int)
     ·rw [if_pos c4] at H;have c4b0 : decide (x6_1 < (l0.length : Int)) = true := decide_eq_true c4;clear c4
      (first | rw [c4b0] | (simp only [i64_w, i32_w]; rw [c4b0]) | skip)
      have H' := am H;clear H
      go_wp2
      repeat (go_quiet (fail); try go_wp2)
      go_meet
      case rel => exact ⟨_, (decide (x6_1 < (l1.length : Int))), pv, H', ⟨by have := HK1.out; first | omega | exact Nat.le_refl _⟩, by repeat (first | exact Drawn0.refl _ | apply Drawn0.step)⟩
     rw [if_neg c4] at H;have c4b0 : decide (x6_1 < (l0.length : Int)) = false := decide_eq_false c4;clear c4
     (first | rw [c4b0] | (simp only [i64_w, i32_w]; rw [c4b0]) | skip)
     have H' := am H;clear H
     go_wp2
     repeat (go_quiet (fail); try go_wp2)
     go_meet
     case rel => exact ⟨_, (false), pv, H', ⟨by have := HK1.out; first | omega | exact Nat.le_refl _⟩, by repeat (first | exact Drawn0.refl _ | apply Drawn0.step)⟩
    case rest =>
     clear HC3;try clear c1
     obtain ⟨kq, x16_2, rfl, HA, HJ2, ⟨mc2, rfl⟩⟩ := hcut
     cases kq with
     | zero => exact absurd HA.out (by simp [spec_DotOf.j1])
     | succ kj2 =>
      have H := HA.out;clear HA;simp only [spec_DotOf.j1] at H;by_cases c5 : x16_2 = true;rotate_left
      ·replace c5 := Bool.eq_false_iff.mpr c5;subst c5
       rw [if_neg (show ¬ (false = true) by decide)] at H
       obtain rfl := Option.some.inj H
       go_wp2
       repeat (go_quiet (fail); try go_wp2)
       go_ret
       exact ⟨by first | rfl | (simp; done) | (simp [*]; done), by repeat (first | exact Drawn0.refl _ | apply Drawn0.step)⟩
      subst c5;rw [if_pos rfl] at H;obtain ⟨c6, H⟩ := gd H;have c6b0 : decide (0 ≤ x6_1) = true := decide_eq_true c6;clear c6;obtain ⟨c7, H⟩ := gd H;have c7b0 : decide (x6_1 < (l0.length : Int)) = true := decide_eq_true c7;clear c7;obtain ⟨t239, A8, H⟩ := bnd H;(try dsimp only at H);obtain ⟨c9, H⟩ := gd H;have c9b0 : decide (x6_1 < (l1.length : Int)) = true := decide_eq_true c9;clear c9;obtain ⟨t241, A10, H⟩ := bnd H;(try dsimp only at H);obtain ⟨t242, A11, H⟩ := bnd H;(try dsimp only at H);have H' := am H;clear H;have p238 : 0 ≤ (x6_1 : Int) := of_decide_eq_true (by first | (with_reducible assumption) | assumption);have q238 : x6_1 < (l0.length : Int) := of_decide_eq_true (by first | (with_reducible assumption) | assumption);obtain ⟨ad238, e238, hx238_0⟩ := Kd.at_int HR0.out x6_1 p238 q238;cases e238;replace p238 := eq_true p238;replace q238 := eq_true q238;have p240 : 0 ≤ (x6_1 : Int) := of_decide_eq_true (by first | (with_reducible assumption) | assumption);have q240 : x6_1 < (l1.length : Int) := of_decide_eq_true (by first | (with_reducible assumption) | assumption);obtain ⟨ad240, e240, hx240_0⟩ := Kd.at_int HR1.out x6_1 p240 q240;cases e240;replace p240 := eq_true p240;replace q240 := eq_true q240
      go_wp2_with (first | (go_at_call 126; (with_reducible refine (spec_Sat8.calls kj2 (rd l0 x6_1) t239 _ A8.out).mono ?_); rintro e w' ⟨rfl, ⟨nd, rfl⟩⟩; (try first | exact ⟨rfl, _, World.drewN_drewN _ _ _⟩ | exact ⟨rfl, _, Eq.trans (World.drewN_drewN _ _ _) (congrArg (World.drewN _) (Nat.add_assoc _ _ _))⟩)) | (go_at_call 126; (with_reducible refine (spec_Sat8.calls kj2 (rd l1 x6_1) t241 _ A10.out).mono ?_); rintro e w' ⟨rfl, ⟨nd, rfl⟩⟩; (try first | exact ⟨rfl, _, World.drewN_drewN _ _ _⟩ | exact ⟨rfl, _, Eq.trans (World.drewN_drewN _ _ _) (congrArg (World.drewN _) (Nat.add_assoc _ _ _))⟩)) | (go_at_call 97; (with_reducible refine (spec_AddSat.calls kj2 x5_1 (wrap64 (t239 * t241)) t242 _ A11.out).mono ?_); rintro e w' ⟨rfl, ⟨nd, rfl⟩⟩; (try first | exact ⟨rfl, _, World.drewN_drewN _ _ _⟩ | exact ⟨rfl, _, Eq.trans (World.drewN_drewN _ _ _) (congrArg (World.drewN _) (Nat.add_assoc _ _ _))⟩)))
      repeat (go_quiet (first | (go_at_call 126; (with_reducible refine (spec_Sat8.calls kj2 (rd l0 x6_1) t239 _ A8.out).mono ?_); rintro e w' ⟨rfl, ⟨nd, rfl⟩⟩; (try first | exact ⟨rfl, _, World.drewN_drewN _ _ _⟩ | exact ⟨rfl, _, Eq.trans (World.drewN_drewN _ _ _) (congrArg (World.drewN _) (Nat.add_assoc _ _ _))⟩)) | (go_at_call 126; (with_reducible refine (spec_Sat8.calls kj2 (rd l1 x6_1) t241 _ A10.out).mono ?_); rintro e w' ⟨rfl, ⟨nd, rfl⟩⟩; (try first | exact ⟨rfl, _, World.drewN_drewN _ _ _⟩ | exact ⟨rfl, _, Eq.trans (World.drewN_drewN _ _ _) (congrArg (World.drewN _) (Nat.add_assoc _ _ _))⟩)) | (go_at_call 97; (with_reducible refine (spec_AddSat.calls kj2 x5_1 (wrap64 (t239 * t241)) t242 _ A11.out).mono ?_); rintro e w' ⟨rfl, ⟨nd, rfl⟩⟩; (try first | exact ⟨rfl, _, World.drewN_drewN _ _ _⟩ | exact ⟨rfl, _, Eq.trans (World.drewN_drewN _ _ _) (congrArg (World.drewN _) (Nat.add_assoc _ _ _))⟩))); try go_wp2_with (first | (go_at_call 126; (with_reducible refine (spec_Sat8.calls kj2 (rd l0 x6_1) t239 _ A8.out).mono ?_); rintro e w' ⟨rfl, ⟨nd, rfl⟩⟩; (try first | exact ⟨rfl, _, World.drewN_drewN _ _ _⟩ | exact ⟨rfl, _, Eq.trans (World.drewN_drewN _ _ _) (congrArg (World.drewN _) (Nat.add_assoc _ _ _))⟩)) | (go_at_call 126; (with_reducible refine (spec_Sat8.calls kj2 (rd l1 x6_1) t241 _ A10.out).mono ?_); rintro e w' ⟨rfl, ⟨nd, rfl⟩⟩; (try first | exact ⟨rfl, _, World.drewN_drewN _ _ _⟩ | exact ⟨rfl, _, Eq.trans (World.drewN_drewN _ _ _) (congrArg (World.drewN _) (Nat.add_assoc _ _ _))⟩)) | (go_at_call 97; (with_reducible refine (spec_AddSat.calls kj2 x5_1 (wrap64 (t239 * t241)) t242 _ A11.out).mono ?_); rintro e w' ⟨rfl, ⟨nd, rfl⟩⟩; (try first | exact ⟨rfl, _, World.drewN_drewN _ _ _⟩ | exact ⟨rfl, _, Eq.trans (World.drewN_drewN _ _ _) (congrArg (World.drewN _) (Nat.add_assoc _ _ _))⟩))))
      go_roundg kj2
      case measure => have := HK1.out; have := HJ2.out; omega
      case rel => exact ⟨(t242), (wrap64 (x6_1 + 1)), pv, pv, H', ⟨by have := HK1.out; have := HJ2.out; omega⟩, by repeat (first | exact Drawn0.refl _ | apply Drawn0.step)⟩

def spec_l01Down.f (a0 : Int) (a1 : Int) : Option (Int) := if a1 = 0 then (none) else (if (Int.tmod a0 a1) < 0 then (some (wrap64 ((wrap64 (Int.tdiv a0 a1)) - 1))) else (some (wrap64 (Int.tdiv a0 a1))))
theorem spec_l01Down.calls (a0 : Int) (a1 : Int) (r : Int) (w : World) (h : spec_l01Down.f a0 a1 = some r) :
   Calls Try.prog 139 #[.int .i64 a0, .int .i64 a1] w fun e w' => e = .returned (.int .i64 r) ∧ Drawn0 w w' := by
  have H : (if a1 = 0 then (none) else (if (Int.tmod a0 a1) < 0 then (some (wrap64 ((wrap64 (Int.tdiv a0 a1)) - 1))) else (some (wrap64 (Int.tdiv a0 a1))))) = some r := h;clear h;by_cases c3 : a1 = 0
  ·rw [if_pos c3] at H;exact absurd H (by simp)
  rw [if_neg c3] at H;have c3b0 : (a1 == 0) = false := beq_eq_false_iff_ne.mpr c3;have c3b1 : (a1 != 0) = true := bne_iff_ne.mpr c3;by_cases c4 : (Int.tmod a0 a1) < 0
  ·rw [if_pos c4] at H;have c4b0 : decide ((Int.tmod a0 a1) < 0) = true := decide_eq_true c4;clear c4;obtain rfl := Option.some.inj H
   go_enter Try.func139, Try.ntmps139
   go_wp2
   go_ret
   exact ⟨by first | rfl | (simp; done) | (simp [*]; done), by repeat (first | exact Drawn0.refl _ | apply Drawn0.step)⟩
  rw [if_neg c4] at H;have c4b0 : decide ((Int.tmod a0 a1) < 0) = false := decide_eq_false c4;clear c4;obtain rfl := Option.some.inj H
  go_enter Try.func139, Try.ntmps139
  go_wp2
  go_ret
  exact ⟨by first | rfl | (simp; done) | (simp [*]; done), by repeat (first | exact Drawn0.refl _ | apply Drawn0.step)⟩

def spec_MulHigh.f (k : Nat) (a0 : Int) (a1 : Int) : Option (Int) := (spec_Sat32.f k a0).bind fun t243 => ((spec_Sat32.f k a1).bind fun t244 => ((spec_l01Down.f (wrap64 ((wrap64 (t243 * t244)) + 1073741824)) 2147483648).bind fun t245 => ((spec_Sat32.f k t245).bind fun t246 => (some t246))))
theorem spec_MulHigh.calls (k : Nat) (a0 : Int) (a1 : Int) (r : Int) (w : World) (h : spec_MulHigh.f k a0 a1 = some r) :
   Calls Try.prog 128 #[.int .i64 a0, .int .i64 a1] w fun e w' => e = .returned (.int .i64 r) ∧ Drawn0 w w' := by
  have H : ((spec_Sat32.f k a0).bind fun t243 => ((spec_Sat32.f k a1).bind fun t244 => ((spec_l01Down.f (wrap64 ((wrap64 (t243 * t244)) + 1073741824)) 2147483648).bind fun t245 => ((spec_Sat32.f k t245).bind fun t246 => (some t246))))) = some r := h;clear h;obtain ⟨t243, A3, H⟩ := bnd H;(try dsimp only at H);obtain ⟨t244, A4, H⟩ := bnd H;(try dsimp only at H);obtain ⟨t245, A5, H⟩ := bnd H;(try dsimp only at H);obtain ⟨t246, A6, H⟩ := bnd H;(try dsimp only at H);obtain rfl := Option.some.inj H
  go_enter Try.func128, Try.ntmps128
  go_wp2_with (first | ((with_reducible refine gate_callee (f := 129) rfl ?_); refine gM 6 Try.func129 #[.int .i64 a0] rfl ?_; (with_reducible refine (spec_Sat32.calls k a0 t243 _ A3.out).mono ?_); rintro e w' ⟨rfl, ⟨nd, rfl⟩⟩; refine ⟨_, rfl, ?_⟩) | ((with_reducible refine gate_callee (f := 129) rfl ?_); refine gM 8 Try.func129 #[.int .i64 a1] rfl ?_; (with_reducible refine (spec_Sat32.calls k a1 t244 _ A4.out).mono ?_); rintro e w' ⟨rfl, ⟨nd, rfl⟩⟩; refine ⟨_, rfl, ?_⟩) | ((with_reducible refine gate_callee (f := 139) rfl ?_); refine gM 11 Try.func139 #[.int .i64 (wrap64 ((wrap64 (t243 * t244)) + 1073741824)), .int .i64 2147483648] rfl ?_; (with_reducible refine (spec_l01Down.calls (wrap64 ((wrap64 (t243 * t244)) + 1073741824)) 2147483648 t245 _ A5.out).mono ?_); rintro e w' ⟨rfl, ⟨nd, rfl⟩⟩; refine ⟨_, rfl, ?_⟩) | ((with_reducible refine gate_callee (f := 129) rfl ?_); refine gM 12 Try.func129 #[.int .i64 t245] rfl ?_; (with_reducible refine (spec_Sat32.calls k t245 t246 _ A6.out).mono ?_); rintro e w' ⟨rfl, ⟨nd, rfl⟩⟩; refine ⟨_, rfl, ?_⟩))
  go_ret
  exact ⟨by first | rfl | (simp; done) | (simp [*]; done), by repeat (first | exact Drawn0.refl _ | apply Drawn0.step)⟩

def spec_RoundShift.f (k : Nat) (a0 : Int) (a1 : Int) : Option (Int) := (spec_Sat32.f k a0).bind fun t247 => ((spec_ClampTo.f k a1 0 31).bind fun t248 => (if 0 ≤ (IntKind.u64.wrap (t248)) then (if t247 < 0 then (if (shl .i64 1 (IntKind.u64.wrap (t248))) = 0 then (none) else (some (wrap64 (-(wrap64 (Int.tdiv (wrap64 ((wrap64 (-t247)) + (wrap64 (Int.tdiv (shl .i64 1 (IntKind.u64.wrap (t248))) 2)))) (shl .i64 1 (IntKind.u64.wrap (t248))))))))) else (if (shl .i64 1 (IntKind.u64.wrap (t248))) = 0 then (none) else (some (wrap64 (Int.tdiv (wrap64 (t247 + (wrap64 (Int.tdiv (shl .i64 1 (IntKind.u64.wrap (t248))) 2)))) (shl .i64 1 (IntKind.u64.wrap (t248)))))))) else (none)))
theorem spec_RoundShift.calls (k : Nat) (a0 : Int) (a1 : Int) (r : Int) (w : World) (h : spec_RoundShift.f k a0 a1 = some r) :
   Calls Try.prog 127 #[.int .i64 a0, .int .i64 a1] w fun e w' => e = .returned (.int .i64 r) ∧ Drawn0 w w' := by
  have H : ((spec_Sat32.f k a0).bind fun t247 => ((spec_ClampTo.f k a1 0 31).bind fun t248 => (if 0 ≤ (IntKind.u64.wrap (t248)) then (if t247 < 0 then (if (shl .i64 1 (IntKind.u64.wrap (t248))) = 0 then (none) else (some (wrap64 (-(wrap64 (Int.tdiv (wrap64 ((wrap64 (-t247)) + (wrap64 (Int.tdiv (shl .i64 1 (IntKind.u64.wrap (t248))) 2)))) (shl .i64 1 (IntKind.u64.wrap (t248))))))))) else (if (shl .i64 1 (IntKind.u64.wrap (t248))) = 0 then (none) else (some (wrap64 (Int.tdiv (wrap64 (t247 + (wrap64 (Int.tdiv (shl .i64 1 (IntKind.u64.wrap (t248))) 2)))) (shl .i64 1 (IntKind.u64.wrap (t248)))))))) else (none)))) = some r := h;clear h;obtain ⟨t247, A3, H⟩ := bnd H;(try dsimp only at H);obtain ⟨t248, A4, H⟩ := bnd H;(try dsimp only at H);obtain ⟨ji5, hji5⟩ : ∃ j_ : Int, (IntKind.u64.wrap (t248)) = j_ := ⟨_, rfl⟩;replace H : (if 0 ≤ (ji5) then (if t247 < 0 then (if (shl .i64 1 (ji5)) = 0 then (none) else (some (wrap64 (-(wrap64 (Int.tdiv (wrap64 ((wrap64 (-t247)) + (wrap64 (Int.tdiv (shl .i64 1 (ji5)) 2)))) (shl .i64 1 (ji5)))))))) else (if (shl .i64 1 (ji5)) = 0 then (none) else (some (wrap64 (Int.tdiv (wrap64 (t247 + (wrap64 (Int.tdiv (shl .i64 1 (ji5)) 2)))) (shl .i64 1 (ji5))))))) else (none)) = some r := by first | (rw [hji5] at H; exact H) | (simp only [hji5] at H ⊢; exact H)
  (try rw [hji5] at A3);(try rw [hji5] at A4);obtain ⟨c6, H⟩ := gd H;have c6b0 := eq_true c6;have c6b1 : decide (0 ≤ (ji5)) = true := decide_eq_true c6;clear c6;obtain ⟨ji7, hji7⟩ : ∃ j_ : Int, (shl .i64 1 (ji5)) = j_ := ⟨_, rfl⟩;replace H : (if t247 < 0 then (if (ji7) = 0 then (none) else (some (wrap64 (-(wrap64 (Int.tdiv (wrap64 ((wrap64 (-t247)) + (wrap64 (Int.tdiv (ji7) 2)))) (ji7))))))) else (if (ji7) = 0 then (none) else (some (wrap64 (Int.tdiv (wrap64 (t247 + (wrap64 (Int.tdiv (ji7) 2)))) (ji7)))))) = some r := by first | (rw [hji7] at H; exact H) | (simp only [hji7] at H ⊢; exact H)
  (try rw [hji7] at A3);(try rw [hji7] at A4);have hji7_ : (IntKind.i64.wrap (1 * 2 ^ min (ji5).toNat 64)) = ji7 := hji7;have hji7z : (ji5) ≤ 64 → (IntKind.i64.wrap (1 * 2 ^ (ji5).toNat)) = ji7 := shl_small hji7;have hji7u : (IntKind.i64.wrap (2 ^ min (ji5).toNat 64)) = ji7 := by have h_ := hji7_; rw [Int.one_mul] at h_; exact h_
  have hji7v : (ji5) ≤ 64 → (IntKind.i64.wrap (2 ^ (ji5).toNat)) = ji7 := fun hle_ => by have h_ := hji7z hle_; rw [Int.one_mul] at h_; exact h_
  have hji7y : (wrap64 (1 * 2 ^ min (ji5).toNat 64)) = ji7 := (i64_w _).symm.trans hji7_;have hji7x : (ji5) ≤ 64 → (wrap64 (1 * 2 ^ (ji5).toNat)) = ji7 := fun h_ => (i64_w _).symm.trans (hji7z h_);by_cases c8 : t247 < 0;rw [if_pos c8] at H;have c8b0 : decide (t247 < 0) = true := decide_eq_true c8;clear c8;by_cases c9 : (ji7) = 0
  ·rw [if_pos c9] at H;exact absurd H (by simp)
  rw [if_neg c9] at H;have c9b0 : ((ji7) == 0) = false := beq_eq_false_iff_ne.mpr c9;have c9b1 : ((ji7) != 0) = true := bne_iff_ne.mpr c9;obtain rfl := Option.some.inj H;rotate_left;rw [if_neg c8] at H;have c8b0 : decide (t247 < 0) = false := decide_eq_false c8;clear c8;by_cases c10 : (ji7) = 0
  ·rw [if_pos c10] at H;exact absurd H (by simp)
  rw [if_neg c10] at H;have c10b0 : ((ji7) == 0) = false := beq_eq_false_iff_ne.mpr c10;have c10b1 : ((ji7) != 0) = true := bne_iff_ne.mpr c10;obtain rfl := Option.some.inj H;rotate_left
  all_goals (go_enter Try.func127, Try.ntmps127; go_wp2_with (first | ((with_reducible refine gate_callee (f := 129) rfl ?_); refine gM 9 Try.func129 #[.int .i64 a0] rfl ?_; (with_reducible refine (spec_Sat32.calls k a0 t247 _ A3.out).mono ?_); rintro e w' ⟨rfl, ⟨nd, rfl⟩⟩; refine ⟨_, rfl, ?_⟩) | ((with_reducible refine gate_callee (f := 138) rfl ?_); refine gM 11 Try.func138 #[.int .i64 a1, .int .i64 0, .int .i64 31] rfl ?_; (with_reducible refine (spec_ClampTo.calls k a1 0 31 t248 _ A4.out).mono ?_); rintro e w' ⟨rfl, ⟨nd, rfl⟩⟩; refine ⟨_, rfl, ?_⟩)))
  ·go_ret
   exact ⟨by first | rfl | (simp; done) | (simp only [← hji5, ← hji7] <;> (first | rfl | simp)) | (simp [*]; done), by repeat (first | exact Drawn0.refl _ | apply Drawn0.step)⟩
  ·go_ret
   exact ⟨by first | rfl | (simp; done) | (simp only [← hji5, ← hji7] <;> (first | rfl | simp)) | (simp [*]; done), by repeat (first | exact Drawn0.refl _ | apply Drawn0.step)⟩

def spec_Requant.f (k : Nat) (a0 : Int) (a1 : Int) (a2 : Int) (a3 : Int) : Option (Int) := (spec_MulHigh.f k a0 a1).bind fun t249 => ((spec_RoundShift.f k t249 a2).bind fun t250 => ((spec_Sat8.f k a3).bind fun t251 => ((spec_Sat8.f k (wrap64 (t250 + t251))).bind fun t252 => (some t252))))
theorem spec_Requant.calls (k : Nat) (a0 : Int) (a1 : Int) (a2 : Int) (a3 : Int) (r : Int) (w : World) (h : spec_Requant.f k a0 a1 a2 a3 = some r) :
   Calls Try.prog 96 #[.int .i64 a0, .int .i64 a1, .int .i64 a2, .int .i64 a3] w fun e w' => e = .returned (.int .i64 r) ∧ Drawn0 w w' := by
  have H : ((spec_MulHigh.f k a0 a1).bind fun t249 => ((spec_RoundShift.f k t249 a2).bind fun t250 => ((spec_Sat8.f k a3).bind fun t251 => ((spec_Sat8.f k (wrap64 (t250 + t251))).bind fun t252 => (some t252))))) = some r := h;clear h;obtain ⟨t249, A5, H⟩ := bnd H;(try dsimp only at H);obtain ⟨t250, A6, H⟩ := bnd H;(try dsimp only at H);obtain ⟨t251, A7, H⟩ := bnd H;(try dsimp only at H);obtain ⟨t252, A8, H⟩ := bnd H;(try dsimp only at H);obtain rfl := Option.some.inj H
  go_enter Try.func96, Try.ntmps96
  go_wp2_with (first | ((with_reducible refine gate_callee (f := 128) rfl ?_); refine gM 11 Try.func128 #[.int .i64 a0, .int .i64 a1] rfl ?_; (with_reducible refine (spec_MulHigh.calls k a0 a1 t249 _ A5.out).mono ?_); rintro e w' ⟨rfl, ⟨nd, rfl⟩⟩; refine ⟨_, rfl, ?_⟩) | ((with_reducible refine gate_callee (f := 127) rfl ?_); refine gM 13 Try.func127 #[.int .i64 t249, .int .i64 a2] rfl ?_; (with_reducible refine (spec_RoundShift.calls k t249 a2 t250 _ A6.out).mono ?_); rintro e w' ⟨rfl, ⟨nd, rfl⟩⟩; refine ⟨_, rfl, ?_⟩) | ((with_reducible refine gate_callee (f := 126) rfl ?_); refine gM 15 Try.func126 #[.int .i64 a3] rfl ?_; (with_reducible refine (spec_Sat8.calls k a3 t251 _ A7.out).mono ?_); rintro e w' ⟨rfl, ⟨nd, rfl⟩⟩; refine ⟨_, rfl, ?_⟩) | ((with_reducible refine gate_callee (f := 126) rfl ?_); refine gM 17 Try.func126 #[.int .i64 (wrap64 (t250 + t251))] rfl ?_; (with_reducible refine (spec_Sat8.calls k (wrap64 (t250 + t251)) t252 _ A8.out).mono ?_); rintro e w' ⟨rfl, ⟨nd, rfl⟩⟩; refine ⟨_, rfl, ?_⟩))
  go_ret
  exact ⟨by first | rfl | (simp; done) | (simp [*]; done), by repeat (first | exact Drawn0.refl _ | apply Drawn0.step)⟩

def spec_PlaceOf.f (a0_0 : Int) (a0_1 : Int) (a0_2 : Int) (a1 : Int) (a2 : Int) (a3 : Int) : Option (Int) := (spec_ShapeOk.f a0_0 a0_1 a0_2).bind fun t254 => (if t254 = true then ((spec_l01In.f a1 0 (wrap64 (a0_0 - 1))).bind fun t255 => (if t255 = true then ((spec_l01In.f a2 0 (wrap64 (a0_1 - 1))).bind fun t256 => (if t256 = true then ((spec_l01In.f a3 0 (wrap64 (a0_2 - 1))).bind fun t257 => (if t257 = true then (some (wrap64 ((wrap64 ((wrap64 ((wrap64 (a1 * a0_1)) + a2)) * a0_2)) + a3))) else (some (-1)))) else (some (-1)))) else (some (-1)))) else (some (-1)))
theorem spec_PlaceOf.calls (a0_0 : Int) (a0_1 : Int) (a0_2 : Int) (a1 : Int) (a2 : Int) (a3 : Int) (r : Int) (w : World) (h : spec_PlaceOf.f a0_0 a0_1 a0_2 a1 a2 a3 = some r) :
   Calls Try.prog 130 #[.agg #[.int .i64 a0_0, .int .i64 a0_1, .int .i64 a0_2], .int .i64 a1, .int .i64 a2, .int .i64 a3] w fun e w' => e = .returned (.int .i64 r) ∧ Below w.heap.size w w' := by
  have hu31 := Try.underlying31;have HB := am (Below.refl w.heap.size w);have H : ((spec_ShapeOk.f a0_0 a0_1 a0_2).bind fun t254 => (if t254 = true then ((spec_l01In.f a1 0 (wrap64 (a0_0 - 1))).bind fun t255 => (if t255 = true then ((spec_l01In.f a2 0 (wrap64 (a0_1 - 1))).bind fun t256 => (if t256 = true then ((spec_l01In.f a3 0 (wrap64 (a0_2 - 1))).bind fun t257 => (if t257 = true then (some (wrap64 ((wrap64 ((wrap64 ((wrap64 (a1 * a0_1)) + a2)) * a0_2)) + a3))) else (some (-1)))) else (some (-1)))) else (some (-1)))) else (some (-1)))) = some r := h;clear h;obtain ⟨t254, A5, H⟩ := bnd H;(try dsimp only at H);by_cases c6 : t254 = true
  case' neg => skip
  replace c6 := Bool.eq_false_iff.mpr c6;subst c6
  rw [if_neg (show ¬ (false = true) by decide)] at H
  obtain rfl := Option.some.inj H;rotate_left;subst c6;rw [if_pos rfl] at H;obtain ⟨t255, A7, H⟩ := bnd H;(try dsimp only at H);by_cases c8 : t255 = true
  case' neg => skip
  replace c8 := Bool.eq_false_iff.mpr c8;subst c8
  rw [if_neg (show ¬ (false = true) by decide)] at H
  obtain rfl := Option.some.inj H;rotate_left;subst c8;rw [if_pos rfl] at H;obtain ⟨t256, A9, H⟩ := bnd H;(try dsimp only at H);by_cases c10 : t256 = true
  case' neg => skip
  replace c10 := Bool.eq_false_iff.mpr c10;subst c10
  rw [if_neg (show ¬ (false = true) by decide)] at H
  obtain rfl := Option.some.inj H;rotate_left;subst c10;rw [if_pos rfl] at H;obtain ⟨t257, A11, H⟩ := bnd H;(try dsimp only at H);by_cases c12 : t257 = true;subst c12;rw [if_pos rfl] at H;obtain rfl := Option.some.inj H;rotate_left;replace c12 := Bool.eq_false_iff.mpr c12;subst c12
  rw [if_neg (show ¬ (false = true) by decide)] at H
  obtain rfl := Option.some.inj H;rotate_left
  all_goals (go_enter Try.func130, Try.ntmps130; go_wp2_with (first | ((with_reducible refine gate_dst (N := 4) rfl ?_); refine boxM 4 #[.int .i64 a0_0, .int .i64 a0_1, .int .i64 a0_2] 31 ?_; intro gb253 hg w_ BK253 hb; obtain ⟨HB, GW253, GE253⟩ := box_at w hb hg; clear hb hg; have hcz_ := cells3 BK253.out) | ((with_reducible refine gate_callee (f := 72) rfl ?_); refine gM 10 Try.func72 #[.agg #[.int .i64 a0_0, .int .i64 a0_1, .int .i64 a0_2]] rfl ?_; (with_reducible refine (spec_ShapeOk.calls a0_0 a0_1 a0_2 false _ A5.out).mono ?_); rintro e w_ ⟨rfl, hb⟩; refine ⟨_, rfl, ?_⟩; replace HB := bel_on w hb; replace BK253 := blk_on gb253 hb; (try clear hb)) | ((with_reducible refine gate_callee (f := 72) rfl ?_); refine gM 10 Try.func72 #[.agg #[.int .i64 a0_0, .int .i64 a0_1, .int .i64 a0_2]] rfl ?_; (with_reducible refine (spec_ShapeOk.calls a0_0 a0_1 a0_2 true _ A5.out).mono ?_); rintro e w_ ⟨rfl, hb⟩; refine ⟨_, rfl, ?_⟩; replace HB := bel_on w hb; replace BK253 := blk_on gb253 hb; (try clear hb); have hcz_ := cells3 BK253.out) | (go_at_call 94; (with_reducible refine (spec_l01In.calls a1 0 (wrap64 (a0_0 - 1)) false _ A7.out).mono ?_); rintro e w' ⟨rfl, ⟨nd, rfl⟩⟩) | (go_at_call 94; (with_reducible refine (spec_l01In.calls a1 0 (wrap64 (a0_0 - 1)) true _ A7.out).mono ?_); rintro e w' ⟨rfl, ⟨nd, rfl⟩⟩) | (go_at_call 94; (with_reducible refine (spec_l01In.calls a2 0 (wrap64 (a0_1 - 1)) false _ A9.out).mono ?_); rintro e w' ⟨rfl, ⟨nd, rfl⟩⟩) | (go_at_call 94; (with_reducible refine (spec_l01In.calls a2 0 (wrap64 (a0_1 - 1)) true _ A9.out).mono ?_); rintro e w' ⟨rfl, ⟨nd, rfl⟩⟩) | (go_at_call 94; (with_reducible refine (spec_l01In.calls a3 0 (wrap64 (a0_2 - 1)) true _ A11.out).mono ?_); rintro e w' ⟨rfl, ⟨nd, rfl⟩⟩) | (go_at_call 94; (with_reducible refine (spec_l01In.calls a3 0 (wrap64 (a0_2 - 1)) false _ A11.out).mono ?_); rintro e w' ⟨rfl, ⟨nd, rfl⟩⟩)))
  ·go_ret
   exact ⟨eqN, bel_now⟩
  ·go_ret
   exact ⟨eqN, bel_now⟩
  ·go_ret
   exact ⟨eqN, bel_now⟩
  ·go_ret
   exact ⟨eqN, bel_now⟩
  ·go_ret
   exact ⟨eqN, bel_now⟩

def spec_ItemAt.f (k : Nat) (a0_0 : Int) (a0_1 : Int) (a0_2 : Int) (l0_3 : List Int) (a1 : Int) (a2 : Int) (a3 : Int) : Option (Int × Bool) := (spec_PlaceOf.f a0_0 a0_1 a0_2 a1 a2 a3).bind fun t259 => ((spec_TensorOk.f k a0_0 a0_1 a0_2 l0_3).bind fun t260 => (if t260 = true then (if t259 < 0 then (some (0, false)) else (if 0 ≤ t259 then (if t259 < (l0_3.length : Int) then (some (rd l0_3 t259, true)) else (none)) else (none))) else (some (0, false))))
theorem spec_ItemAt.calls (k : Nat) (a0_0 : Int) (a0_1 : Int) (a0_2 : Int) (A0_3 : Option Addr) (c0_3 : Nat) (l0_3 : List Int) (a1 : Int) (a2 : Int) (a3 : Int) (r1 : Int) (r2 : Bool) (w : World) (hr0_3 : Kd.C (Kd.int .i64) w A0_3 l0_3.length l0_3) (hc0_3 : l0_3.length ≤ c0_3) (h : spec_ItemAt.f k a0_0 a0_1 a0_2 l0_3 a1 a2 a3 = some (r1, r2)) :
   Calls Try.prog 99 #[.agg #[.int .i64 a0_0, .int .i64 a0_1, .int .i64 a0_2, .slice A0_3 l0_3.length c0_3], .int .i64 a1, .int .i64 a2, .int .i64 a3] w fun e w' => e = .returned (.tuple #[.int .i64 r1, .bool r2]) ∧ Below w.heap.size w w' := by
  have hu33 := Try.underlying33;have hu31 := Try.underlying31;have HR0_3 := am hr0_3;have HC0_3 := am hc0_3;clear hr0_3 hc0_3;have HB := am (Below.refl w.heap.size w);have H : ((spec_PlaceOf.f a0_0 a0_1 a0_2 a1 a2 a3).bind fun t259 => ((spec_TensorOk.f k a0_0 a0_1 a0_2 l0_3).bind fun t260 => (if t260 = true then (if t259 < 0 then (some (0, false)) else (if 0 ≤ t259 then (if t259 < (l0_3.length : Int) then (some (rd l0_3 t259, true)) else (none)) else (none))) else (some (0, false))))) = some (r1, r2) := h;clear h;obtain ⟨t259, A5, H⟩ := bnd H;(try dsimp only at H);obtain ⟨t260, A6, H⟩ := bnd H;(try dsimp only at H);by_cases c7 : t260 = true
  case' neg => skip
  replace c7 := Bool.eq_false_iff.mpr c7;subst c7
  rw [if_neg (show ¬ (false = true) by decide)] at H
  simp only [Option.some.injEq, Prod.mk.injEq] at H;obtain ⟨rfl, rfl⟩ := H;rotate_left;subst c7;rw [if_pos rfl] at H;by_cases c8 : t259 < 0;rw [if_pos c8] at H;have c8b0 : decide (t259 < 0) = true := decide_eq_true c8;clear c8;simp only [Option.some.injEq, Prod.mk.injEq] at H;obtain ⟨rfl, rfl⟩ := H;rotate_left;rw [if_neg c8] at H;have c8b0 : decide (t259 < 0) = false := decide_eq_false c8;clear c8;obtain ⟨c14, H⟩ := gd H;have c14b0 : decide (0 ≤ t259) = true := decide_eq_true c14;clear c14;obtain ⟨c15, H⟩ := gd H;have c15b0 : decide (t259 < (l0_3.length : Int)) = true := decide_eq_true c15;clear c15;simp only [Option.some.injEq, Prod.mk.injEq] at H;obtain ⟨rfl, rfl⟩ := H;rotate_left
  all_goals (go_enter Try.func99, Try.ntmps99; go_wp2_with (first | ((with_reducible refine gate_dst (N := 4) rfl ?_); refine boxM 4 #[.int .i64 a0_0, .int .i64 a0_1, .int .i64 a0_2, .slice A0_3 l0_3.length c0_3] 33 ?_; intro gb258 hg w_ BK258 hb; obtain ⟨HB, GW258, GE258⟩ := box_at w hb hg; clear hb hg; have hcz_ := cells4 BK258.out) | ((with_reducible refine gate_callee (f := 130) rfl ?_); refine gM 16 Try.func130 #[.agg #[.int .i64 a0_0, .int .i64 a0_1, .int .i64 a0_2], .int .i64 a1, .int .i64 a2, .int .i64 a3] rfl ?_; (with_reducible refine (spec_PlaceOf.calls a0_0 a0_1 a0_2 a1 a2 a3 t259 _ A5.out).mono ?_); rintro e w_ ⟨rfl, hb⟩; refine ⟨_, rfl, ?_⟩; replace HB := bel_on w hb; replace BK258 := blk_on gb258 hb; (try clear hb); have hcz_ := cells4 BK258.out) | ((with_reducible refine gate_callee (f := 32) rfl ?_); refine gM 18 Try.func32 #[.agg #[.int .i64 a0_0, .int .i64 a0_1, .int .i64 a0_2, .slice A0_3 l0_3.length c0_3]] rfl ?_; (with_reducible refine (spec_TensorOk.calls k a0_0 a0_1 a0_2 _ _ l0_3 false _ ?side1 HC0_3.out A6.out).mono ?_); (case side1 => exact C_now HR0_3.out); rintro e w_ ⟨rfl, hb⟩; refine ⟨_, rfl, ?_⟩; replace HB := bel_on w hb; replace BK258 := blk_on gb258 hb; (try clear hb)) | ((with_reducible refine gate_callee (f := 32) rfl ?_); refine gM 18 Try.func32 #[.agg #[.int .i64 a0_0, .int .i64 a0_1, .int .i64 a0_2, .slice A0_3 l0_3.length c0_3]] rfl ?_; (with_reducible refine (spec_TensorOk.calls k a0_0 a0_1 a0_2 _ _ l0_3 true _ ?side1 HC0_3.out A6.out).mono ?_); (case side1 => exact C_now HR0_3.out); rintro e w_ ⟨rfl, hb⟩; refine ⟨_, rfl, ?_⟩; replace HB := bel_on w hb; replace BK258 := blk_on gb258 hb; (try clear hb); (try (have p261 : 0 ≤ (t259 : Int) := of_decide_eq_true (by first | (with_reducible assumption) | assumption); have q261 : t259 < (l0_3.length : Int) := of_decide_eq_true (by first | (with_reducible assumption) | assumption); obtain ⟨ad261, e261, hx261_0⟩ := Kd.at_int HR0_3.out t259 p261 q261; cases e261; replace hx261_0 := (HB.out.cell (World.block_lt_of_cell? w _ hx261_0)).trans hx261_0; replace p261 := eq_true p261; replace q261 := eq_true q261)); have hcz_ := cells4 BK258.out)))
  ·go_ret2
   exact ⟨eqN, bel_now⟩
  ·go_ret2
   exact ⟨eqN, bel_now⟩
  ·go_ret2
   exact ⟨eqN, bel_now⟩

end Go.Proofs.Ytclpojeofclbjaa.PFnExactEvalModel
