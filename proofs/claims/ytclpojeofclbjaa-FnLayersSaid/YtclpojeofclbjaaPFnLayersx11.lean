import Derived.Test.YtclpojeofclbjaaPFnLayersx0
import Derived.Test.YtclpojeofclbjaaPFnLayersx2
import Derived.Test.YtclpojeofclbjaaPFnLayersx8
namespace Go.Proofs.Ytclpojeofclbjaa.PFnLayers
open Go.RowKit Go.Proofs.YtclpojeofclbjaaW.PrintWords Go.Proofs.YtclpojeofclbjaaW.PrintLast Go.Proofs.YtclpojeofclbjaaW.PrintMore
attribute [local go_sem] max2_int min2_int max_two min_two max_three min_three max_four min_four
set_option maxHeartbeats 8000000
set_option maxRecDepth 100000
set_option linter.unusedVariables false
set_option linter.unusedSimpArgs false

def spec_ClampTo.j0 : Nat → Int → Int → Int → Bool → Option (Int)
  | 0, _, _, _, _ => none
  | k + 1, x0, x1, x2, x14 => if x14 = true then (some x1) else (if x0 > x2 then (some x2) else (some x0))
def spec_ClampTo.f (k : Nat) (a0 : Int) (a1 : Int) (a2 : Int) : Option (Int) := if a0 < a1 then (spec_ClampTo.j0 k a0 a1 a2 true) else (spec_ClampTo.j0 k a0 a1 a2 (decide (a1 > a2)))
theorem spec_ClampTo.calls (k : Nat) (a0 : Int) (a1 : Int) (a2 : Int) (r : Int) (w : World) (h : spec_ClampTo.f k a0 a1 a2 = some r) :
   Calls Try.prog 138 #[.int .i64 a0, .int .i64 a1, .int .i64 a2] w fun e w' => e = .returned (.int .i64 r) ∧ Drawn0 w w' := by
  have H : (if a0 < a1 then (spec_ClampTo.j0 k a0 a1 a2 true) else (spec_ClampTo.j0 k a0 a1 a2 (decide (a1 > a2)))) = some r := h;clear h;have HC4 := am H;clear H
  go_enter Try.func138, Try.ntmps138
  go_upto_region 1 with (fail)
  go_cut [14] (fun v14 wc => ∃ (kq : Nat) (x14_3 : Bool), v14 = .bool x14_3 ∧ Aside0 (spec_ClampTo.j0 kq a0 a1 a2 x14_3 = some r) ∧ Aside0 (kq ≤ k) ∧ Drawn0 w wc)
  case first =>
   have H := HC4.out;clear HC4;by_cases c5 : a0 < a1
   ·rw [if_pos c5] at H;have c5b0 : decide (a0 < a1) = true := decide_eq_true c5;clear c5
    (first | rw [c5b0] | (simp only [i64_w, i32_w]; rw [c5b0]) | skip)
    have H' := am H;clear H
    go_wp2
    go_meet
    case rel => exact ⟨_, (true), pv, H', ⟨by first | omega | exact Nat.le_refl _⟩, by repeat (first | exact Drawn0.refl _ | apply Drawn0.step)⟩
   rw [if_neg c5] at H;have c5b0 : decide (a0 < a1) = false := decide_eq_false c5;clear c5
   (first | rw [c5b0] | (simp only [i64_w, i32_w]; rw [c5b0]) | skip)
   have H' := am H;clear H
   go_wp2
   go_meet
   case rel => exact ⟨_, (decide (a1 > a2)), pv, H', ⟨by first | omega | exact Nat.le_refl _⟩, by repeat (first | exact Drawn0.refl _ | apply Drawn0.step)⟩
  case rest =>
   clear HC4;obtain ⟨kq, x14_3, rfl, HA, HJ3, ⟨mc3, rfl⟩⟩ := hcut
   cases kq with
   | zero => exact absurd HA.out (by simp [spec_ClampTo.j0])
   | succ kj3 =>
    have H := HA.out;clear HA;simp only [spec_ClampTo.j0] at H;by_cases c6 : x14_3 = true
    ·subst c6;rw [if_pos rfl] at H;obtain rfl := Option.some.inj H
     go_wp2
     go_ret
     exact ⟨by first | rfl | (simp; done) | (simp [*]; done), by repeat (first | exact Drawn0.refl _ | apply Drawn0.step)⟩
    replace c6 := Bool.eq_false_iff.mpr c6;subst c6
    rw [if_neg (show ¬ (false = true) by decide)] at H
    by_cases c7 : a0 > a2
    ·rw [if_pos c7] at H;have c7b0 : decide (a2 < a0) = true := decide_eq_true c7;clear c7;obtain rfl := Option.some.inj H
     go_wp2
     go_ret
     exact ⟨by first | rfl | (simp; done) | (simp [*]; done), by repeat (first | exact Drawn0.refl _ | apply Drawn0.step)⟩
    rw [if_neg c7] at H;have c7b0 : decide (a2 < a0) = false := decide_eq_false c7;clear c7;obtain rfl := Option.some.inj H
    go_wp2
    go_ret
    exact ⟨by first | rfl | (simp; done) | (simp [*]; done), by repeat (first | exact Drawn0.refl _ | apply Drawn0.step)⟩

def spec_Sat8.f (k : Nat) (a0 : Int) : Option (Int) := (spec_ClampTo.f k a0 (-128) 127).bind fun t461 => (some t461)
theorem spec_Sat8.calls (k : Nat) (a0 : Int) (r : Int) (w : World) (h : spec_Sat8.f k a0 = some r) :
   Calls Try.prog 126 #[.int .i64 a0] w fun e w' => e = .returned (.int .i64 r) ∧ Drawn0 w w' := by
  have H : ((spec_ClampTo.f k a0 (-128) 127).bind fun t461 => (some t461)) = some r := h;clear h;obtain ⟨t461, A2, H⟩ := bnd H;(try dsimp only at H);obtain rfl := Option.some.inj H
  go_enter Try.func126, Try.ntmps126
  go_wp2_with (first | ((with_reducible refine gate_callee (f := 138) rfl ?_); refine gM 4 Try.func138 #[.int .i64 a0, .int .i64 (-128), .int .i64 127] rfl ?_; (with_reducible refine (spec_ClampTo.calls k a0 (-128) 127 t461 _ A2.out).mono ?_); rintro e w' ⟨rfl, ⟨nd, rfl⟩⟩; refine ⟨_, rfl, ?_⟩))
  go_ret
  exact ⟨by first | rfl | (simp; done) | (simp [*]; done), by repeat (first | exact Drawn0.refl _ | apply Drawn0.step)⟩

def spec_Sat32.f (k : Nat) (a0 : Int) : Option (Int) := (spec_ClampTo.f k a0 (-2147483648) 2147483647).bind fun t462 => (some t462)
theorem spec_Sat32.calls (k : Nat) (a0 : Int) (r : Int) (w : World) (h : spec_Sat32.f k a0 = some r) :
   Calls Try.prog 129 #[.int .i64 a0] w fun e w' => e = .returned (.int .i64 r) ∧ Drawn0 w w' := by
  have H : ((spec_ClampTo.f k a0 (-2147483648) 2147483647).bind fun t462 => (some t462)) = some r := h;clear h;obtain ⟨t462, A2, H⟩ := bnd H;(try dsimp only at H);obtain rfl := Option.some.inj H
  go_enter Try.func129, Try.ntmps129
  go_wp2_with (first | ((with_reducible refine gate_callee (f := 138) rfl ?_); refine gM 4 Try.func138 #[.int .i64 a0, .int .i64 (-2147483648), .int .i64 2147483647] rfl ?_; (with_reducible refine (spec_ClampTo.calls k a0 (-2147483648) 2147483647 t462 _ A2.out).mono ?_); rintro e w' ⟨rfl, ⟨nd, rfl⟩⟩; refine ⟨_, rfl, ?_⟩))
  go_ret
  exact ⟨by first | rfl | (simp; done) | (simp [*]; done), by repeat (first | exact Drawn0.refl _ | apply Drawn0.step)⟩

def spec_AddSat.f (k : Nat) (a0 : Int) (a1 : Int) : Option (Int) := (spec_Sat32.f k a0).bind fun t463 => ((spec_Sat32.f k a1).bind fun t464 => ((spec_Sat32.f k (wrap64 (t463 + t464))).bind fun t465 => (some t465)))
theorem spec_AddSat.calls (k : Nat) (a0 : Int) (a1 : Int) (r : Int) (w : World) (h : spec_AddSat.f k a0 a1 = some r) :
   Calls Try.prog 97 #[.int .i64 a0, .int .i64 a1] w fun e w' => e = .returned (.int .i64 r) ∧ Drawn0 w w' := by
  have H : ((spec_Sat32.f k a0).bind fun t463 => ((spec_Sat32.f k a1).bind fun t464 => ((spec_Sat32.f k (wrap64 (t463 + t464))).bind fun t465 => (some t465)))) = some r := h;clear h;obtain ⟨t463, A3, H⟩ := bnd H;(try dsimp only at H);obtain ⟨t464, A4, H⟩ := bnd H;(try dsimp only at H);obtain ⟨t465, A5, H⟩ := bnd H;(try dsimp only at H);obtain rfl := Option.some.inj H
  go_enter Try.func97, Try.ntmps97
  go_wp2_with (first | ((with_reducible refine gate_callee (f := 129) rfl ?_); refine gM 6 Try.func129 #[.int .i64 a0] rfl ?_; (with_reducible refine (spec_Sat32.calls k a0 t463 _ A3.out).mono ?_); rintro e w' ⟨rfl, ⟨nd, rfl⟩⟩; refine ⟨_, rfl, ?_⟩) | ((with_reducible refine gate_callee (f := 129) rfl ?_); refine gM 8 Try.func129 #[.int .i64 a1] rfl ?_; (with_reducible refine (spec_Sat32.calls k a1 t464 _ A4.out).mono ?_); rintro e w' ⟨rfl, ⟨nd, rfl⟩⟩; refine ⟨_, rfl, ?_⟩) | ((with_reducible refine gate_callee (f := 129) rfl ?_); refine gM 10 Try.func129 #[.int .i64 (wrap64 (t463 + t464))] rfl ?_; (with_reducible refine (spec_Sat32.calls k (wrap64 (t463 + t464)) t465 _ A5.out).mono ?_); rintro e w' ⟨rfl, ⟨nd, rfl⟩⟩; refine ⟨_, rfl, ?_⟩))
  go_ret
  exact ⟨by first | rfl | (simp; done) | (simp [*]; done), by repeat (first | exact Drawn0.refl _ | apply Drawn0.step)⟩

mutual
def spec_DotOf.l0 : Nat → List Int → List Int → Int → Int → Option (Int)
  | 0, _, _, _, _ => none
  | k + 1, x0, x1, x5, x6 => if x6 < (x0.length : Int) then (spec_DotOf.j1 k x0 x1 x5 x6 (decide (x6 < (x1.length : Int)))) else (spec_DotOf.j1 k x0 x1 x5 x6 false)
def spec_DotOf.j1 : Nat → List Int → List Int → Int → Int → Bool → Option (Int)
  | 0, _, _, _, _, _ => none
  | k + 1, x0, x1, x5, x6, x16 => if x16 = true then (if 0 ≤ x6 then (if x6 < (x0.length : Int) then ((spec_Sat8.f k (rd x0 x6)).bind fun t467 => (if x6 < (x1.length : Int) then ((spec_Sat8.f k (rd x1 x6)).bind fun t469 => ((spec_AddSat.f k x5 (wrap64 (t467 * t469))).bind fun t470 => (spec_DotOf.l0 k x0 x1 t470 (wrap64 (x6 + 1))))) else (none))) else (none)) else (none)) else (some x5)
end
def spec_DotOf.f (k : Nat) (l0 : List Int) (l1 : List Int) : Option (Int) := spec_DotOf.l0 k l0 l1 0 0
theorem spec_DotOf.calls (k : Nat) (A0 : Option Addr) (c0 : Nat) (l0 : List Int) (A1 : Option Addr) (c1 : Nat) (l1 : List Int) (r : Int) (w : World) (hr0 : Kd.C (Kd.int .i64) w A0 l0.length l0) (hc0 : l0.length ≤ c0) (hr1 : Kd.C (Kd.int .i64) w A1 l1.length l1) (hc1 : l1.length ≤ c1) (h : spec_DotOf.f k l0 l1 = some r) :
   Calls Try.prog 98 #[.slice A0 l0.length c0, .slice A1 l1.length c1] w fun e w' => e = .returned (.int .i64 r) ∧ Drawn0 w w' := by
  have HR0 := am hr0;have HC0 := am hc0;clear hr0 hc0;have HR1 := am hr1;have HC1 := am hc1;clear hr1 hc1;have H : (spec_DotOf.l0 k l0 l1 0 0) = some r := h;clear h;have H' := am H;clear H
  go_enter Try.func98, Try.ntmps98
  go_wp2
  repeat (go_quiet (fail); try go_wp2)
  go_loopg [5, 6] k (fun kq v5 v6 w' => ∃ (x5_1 : Int) (x6_1 : Int), v5 = .int .i64 x5_1 ∧ v6 = .int .i64 x6_1 ∧ Aside0 (spec_DotOf.l0 kq l0 l1 x5_1 x6_1 = some r) ∧ Aside0 (kq ≤ k) ∧ Drawn0 w w')
  case atStart => exact ⟨(0), (0), pv, pv, H', ⟨Nat.le_refl _⟩, by repeat (first | exact Drawn0.refl _ | apply Drawn0.step)⟩
  case round =>
   clear H';try clear c1
   obtain ⟨x5_1, x6_1, rfl, rfl, HA, HK1, ⟨m1, rfl⟩⟩ := hrel
   cases gk with
   | zero => exact absurd HA.out (by simp [spec_DotOf.l0])
   | succ k1 =>
    have H := HA.out;clear HA;simp only [spec_DotOf.l0] at H;have HC3 := am H;clear H
    go_upto_region 3 with (fail)
    repeat (go_quiet (fail); go_upto_region 3 with (fail))
    go_cut [16] (fun v16 wc => ∃ (kq : Nat) (x16_2 : Bool), v16 = .bool x16_2 ∧ Aside0 (spec_DotOf.j1 kq l0 l1 x5_1 x6_1 x16_2 = some r) ∧ Aside0 (kq ≤ k1) ∧ Drawn0 w wc)
    case first =>
     have H := HC3.out;clear HC3;by_cases c4 : x6_1 < (l0.length : Int)
     ·rw [if_pos c4] at H;have c4b0 : decide (x6_1 < (l0.length : Int)) = true := decide_eq_true c4;clear c4
      (first | rw [c4b0] | (simp only [i64_w, i32_w]; rw [c4b0]) | skip)
      have H' := am H;clear H
      go_wp2
      repeat (go_quiet (fail); try go_wp2)
      go_meet
      case rel => exact ⟨_, (decide (x6_1 < (l1.length : Int))), pv, H', ⟨by have := HK1.out; first | omega | exact Nat.le_refl _⟩, by repeat (first | exact Drawn0.refl _ | apply Drawn0.step)⟩
     rw [if_neg c4] at H;have c4b0 : decide (x6_1 < (l0.length : Int)) = false := decide_eq_false c4;clear c4
     (first | rw [c4b0] | (simp only [i64_w, i32_w]; rw [c4b0]) | skip)
     have H' := am H;clear H
     go_wp2
     repeat (go_quiet (fail); try go_wp2)
     go_meet
     case rel => exact ⟨_, (false), pv, H', ⟨by have := HK1.out; first | omega | exact Nat.le_refl _⟩, by repeat (first | exact Drawn0.refl _ | apply Drawn0.step)⟩
    case rest =>
     clear HC3;try clear c1
     obtain ⟨kq, x16_2, rfl, HA, HJ2, ⟨mc2, rfl⟩⟩ := hcut
     cases kq with
     | zero => exact absurd HA.out (by simp [spec_DotOf.j1])
     | succ kj2 =>
      have H := HA.out;clear HA;simp only [spec_DotOf.j1] at H;by_cases c5 : x16_2 = true;rotate_left
      ·replace c5 := Bool.eq_false_iff.mpr c5;subst c5
       rw [if_neg (show ¬ (false = true) by decide)] at H
       obtain rfl := Option.some.inj H
       go_wp2
       repeat (go_quiet (fail); try go_wp2)
       go_ret
       exact ⟨by first | rfl | (simp; done) | (simp [*]; done), by repeat (first | exact Drawn0.refl _ | apply Drawn0.step)⟩
      subst c5;rw [if_pos rfl] at H;obtain ⟨c6, H⟩ := gd H;have c6b0 : decide (0 ≤ x6_1) = true := decide_eq_true c6;clear c6;obtain ⟨c7, H⟩ := gd H;have c7b0 : decide (x6_1 < (l0.length : Int)) = true := decide_eq_true c7;clear c7;obtain ⟨t467, A8, H⟩ := bnd H;(try dsimp only at H);obtain ⟨c9, H⟩ := gd H;have c9b0 : decide (x6_1 < (l1.length : Int)) = true := decide_eq_true c9;clear c9;obtain ⟨t469, A10, H⟩ := bnd H;(try dsimp only at H);obtain ⟨t470, A11, H⟩ := bnd H;(try dsimp only at H);have H' := am H;clear H;have p466 : 0 ≤ (x6_1 : Int) := of_decide_eq_true (by first | (with_reducible assumption) | assumption);have q466 : x6_1 < (l0.length : Int) := of_decide_eq_true (by first | (with_reducible assumption) | assumption);obtain ⟨ad466, e466, hx466_0⟩ := Kd.at_int HR0.out x6_1 p466 q466;cases e466;replace p466 := eq_true p466;replace q466 := eq_true q466;have p468 : 0 ≤ (x6_1 : Int) := of_decide_eq_true (by first | (with_reducible assumption) | assumption);have q468 : x6_1 < (l1.length : Int) := of_decide_eq_true (by first | (with_reducible assumption) | assumption);obtain ⟨ad468, e468, hx468_0⟩ := Kd.at_int HR1.out x6_1 p468 q468;cases e468;replace p468 := eq_true p468;replace q468 := eq_true q468
      go_wp2_with (first | (go_at_call 126; (with_reducible refine (spec_Sat8.calls kj2 (rd l0 x6_1) t467 _ A8.out).mono ?_); rintro e w' ⟨rfl, ⟨nd, rfl⟩⟩; (try first | exact ⟨rfl, _, World.drewN_drewN _ _ _⟩ | exact ⟨rfl, _, Eq.trans (World.drewN_drewN _ _ _) (congrArg (World.drewN _) (Nat.add_assoc _ _ _))⟩)) | (go_at_call 126; (with_reducible refine (spec_Sat8.calls kj2 (rd l1 x6_1) t469 _ A10.out).mono ?_); rintro e w' ⟨rfl, ⟨nd, rfl⟩⟩; (try first | exact ⟨rfl, _, World.drewN_drewN _ _ _⟩ | exact ⟨rfl, _, Eq.trans (World.drewN_drewN _ _ _) (congrArg (World.drewN _) (Nat.add_assoc _ _ _))⟩)) | (go_at_call 97; (with_reducible refine (spec_AddSat.calls kj2 x5_1 (wrap64 (t467 * t469)) t470 _ A11.out).mono ?_); rintro e w' ⟨rfl, ⟨nd, rfl⟩⟩; (try first | exact ⟨rfl, _, World.drewN_drewN _ _ _⟩ | exact ⟨rfl, _, Eq.trans (World.drewN_drewN _ _ _) (congrArg (World.drewN _) (Nat.add_assoc _ _ _))⟩)))
      repeat (go_quiet (first | (go_at_call 126; (with_reducible refine (spec_Sat8.calls kj2 (rd l0 x6_1) t467 _ A8.out).mono ?_); rintro e w' ⟨rfl, ⟨nd, rfl⟩⟩; (try first | exact ⟨rfl, _, World.drewN_drewN _ _ _⟩ | exact ⟨rfl, _, Eq.trans (World.drewN_drewN _ _ _) (congrArg (World.drewN _) (Nat.add_assoc _ _ _))⟩)) | (go_at_call 126; (with_reducible refine (spec_Sat8.calls kj2 (rd l1 x6_1) t469 _ A10.out).mono ?_); rintro e w' ⟨rfl, ⟨nd, rfl⟩⟩; (try first | exact ⟨rfl, _, World.drewN_drewN _ _ _⟩ | exact ⟨rfl, _, Eq.trans (World.drewN_drewN _ _ _) (congrArg (World.drewN _) (Nat.add_assoc _ _ _))⟩)) | (go_at_call 97; (with_reducible refine (spec_AddSat.calls kj2 x5_1 (wrap64 (t467 * t469)) t470 _ A11.out).mono ?_); rintro e w' ⟨rfl, ⟨nd, rfl⟩⟩; (try first | exact ⟨rfl, _, World.drewN_drewN _ _ _⟩ | exact ⟨rfl, _, Eq.trans (World.drewN_drewN _ _ _) (congrArg (World.drewN _) (Nat.add_assoc _ _ _))⟩))); try go_wp2_with (first | (go_at_call 126; (with_reducible refine (spec_Sat8.calls kj2 (rd l0 x6_1) t467 _ A8.out).mono ?_); rintro e w' ⟨rfl, ⟨nd, rfl⟩⟩; (try first | exact ⟨rfl, _, World.drewN_drewN _ _ _⟩ | exact ⟨rfl, _, Eq.trans (World.drewN_drewN _ _ _) (congrArg (World.drewN _) (Nat.add_assoc _ _ _))⟩)) | (go_at_call 126; (with_reducible refine (spec_Sat8.calls kj2 (rd l1 x6_1) t469 _ A10.out).mono ?_); rintro e w' ⟨rfl, ⟨nd, rfl⟩⟩; (try first | exact ⟨rfl, _, World.drewN_drewN _ _ _⟩ | exact ⟨rfl, _, Eq.trans (World.drewN_drewN _ _ _) (congrArg (World.drewN _) (Nat.add_assoc _ _ _))⟩)) | (go_at_call 97; (with_reducible refine (spec_AddSat.calls kj2 x5_1 (wrap64 (t467 * t469)) t470 _ A11.out).mono ?_); rintro e w' ⟨rfl, ⟨nd, rfl⟩⟩; (try first | exact ⟨rfl, _, World.drewN_drewN _ _ _⟩ | exact ⟨rfl, _, Eq.trans (World.drewN_drewN _ _ _) (congrArg (World.drewN _) (Nat.add_assoc _ _ _))⟩))))
      go_roundg kj2
      case measure => have := HK1.out; have := HJ2.out; omega
      case rel => exact ⟨(t470), (wrap64 (x6_1 + 1)), pv, pv, H', ⟨by have := HK1.out; have := HJ2.out; omega⟩, by repeat (first | exact Drawn0.refl _ | apply Drawn0.step)⟩

def spec_l01Down.f (a0 : Int) (a1 : Int) : Option (Int) := if a1 = 0 then (none) else (if (Int.tmod a0 a1) < 0 then (some (wrap64 ((wrap64 (Int.tdiv a0 a1)) - 1))) else (some (wrap64 (Int.tdiv a0 a1))))
theorem spec_l01Down.calls (a0 : Int) (a1 : Int) (r : Int) (w : World) (h : spec_l01Down.f a0 a1 = some r) :
   Calls Try.prog 139 #[.int .i64 a0, .int .i64 a1] w fun e w' => e = .returned (.int .i64 r) ∧ Drawn0 w w' := by
  have H : (if a1 = 0 then (none) else (if (Int.tmod a0 a1) < 0 then (some (wrap64 ((wrap64 (Int.tdiv a0 a1)) - 1))) else (some (wrap64 (Int.tdiv a0 a1))))) = some r := h;clear h;by_cases c3 : a1 = 0
  ·rw [if_pos c3] at H;exact absurd H (by simp)
  rw [if_neg c3] at H;have c3b0 : (a1 == 0) = false := beq_eq_false_iff_ne.mpr c3;have c3b1 : (a1 != 0) = true := bne_iff_ne.mpr c3;by_cases c4 : (Int.tmod a0 a1) < 0
  ·rw [if_pos c4] at H;have c4b0 : decide ((Int.tmod a0 a1) < 0) = true := decide_eq_true c4;clear c4;obtain rfl := Option.some.inj H
   go_enter Try.func139, Try.ntmps139
   go_wp2
   go_ret
   exact ⟨by first | rfl | (simp; done) | (simp [*]; done), by repeat (first | exact Drawn0.refl _ | apply Drawn0.step)⟩
  rw [if_neg c4] at H;have c4b0 : decide ((Int.tmod a0 a1) < 0) = false := decide_eq_false c4;clear c4;obtain rfl := Option.some.inj H
  go_enter Try.func139, Try.ntmps139
  go_wp2
  go_ret
  exact ⟨by first | rfl | (simp; done) | (simp [*]; done), by repeat (first | exact Drawn0.refl _ | apply Drawn0.step)⟩

def spec_MulHigh.f (k : Nat) (a0 : Int) (a1 : Int) : Option (Int) := (spec_Sat32.f k a0).bind fun t471 => ((spec_Sat32.f k a1).bind fun t472 => ((spec_l01Down.f (wrap64 ((wrap64 (t471 * t472)) + 1073741824)) 2147483648).bind fun t473 => ((spec_Sat32.f k t473).bind fun t474 => (some t474))))
theorem spec_MulHigh.calls (k : Nat) (a0 : Int) (a1 : Int) (r : Int) (w : World) (h : spec_MulHigh.f k a0 a1 = some r) :
   Calls Try.prog 128 #[.int .i64 a0, .int .i64 a1] w fun e w' => e = .returned (.int .i64 r) ∧ Drawn0 w w' := by
  have H : ((spec_Sat32.f k a0).bind fun t471 => ((spec_Sat32.f k a1).bind fun t472 => ((spec_l01Down.f (wrap64 ((wrap64 (t471 * t472)) + 1073741824)) 2147483648).bind fun t473 => ((spec_Sat32.f k t473).bind fun t474 => (some t474))))) = some r := h;clear h;obtain ⟨t471, A3, H⟩ := bnd H;(try dsimp only at H);obtain ⟨t472, A4, H⟩ := bnd H;(try dsimp only at H);obtain ⟨t473, A5, H⟩ := bnd H;(try dsimp only at H);obtain ⟨t474, A6, H⟩ := bnd H;(try dsimp only at H);obtain rfl := Option.some.inj H
  go_enter Try.func128, Try.ntmps128
  go_wp2_with (first | ((with_reducible refine gate_callee (f := 129) rfl ?_); refine gM 6 Try.func129 #[.int .i64 a0] rfl ?_; (with_reducible refine (spec_Sat32.calls k a0 t471 _ A3.out).mono ?_); rintro e w' ⟨rfl, ⟨nd, rfl⟩⟩; refine ⟨_, rfl, ?_⟩) | ((with_reducible refine gate_callee (f := 129) rfl ?_); refine gM 8 Try.func129 #[.int .i64 a1] rfl ?_; (with_reducible refine (spec_Sat32.calls k a1 t472 _ A4.out).mono ?_); rintro e w' ⟨rfl, ⟨nd, rfl⟩⟩; refine ⟨_, rfl, ?_⟩) | ((with_reducible refine gate_callee (f := 139) rfl ?_); refine gM 11 Try.func139 #[.int .i64 (wrap64 ((wrap64 (t471 * t472)) + 1073741824)), .int .i64 2147483648] rfl ?_; (with_reducible refine (spec_l01Down.calls (wrap64 ((wrap64 (t471 * t472)) + 1073741824)) 2147483648 t473 _ A5.out).mono ?_); rintro e w' ⟨rfl, ⟨nd, rfl⟩⟩; refine ⟨_, rfl, ?_⟩) | ((with_reducible refine gate_callee (f := 129) rfl ?_); refine gM 12 Try.func129 #[.int .i64 t473] rfl ?_; (with_reducible refine (spec_Sat32.calls k t473 t474 _ A6.out).mono ?_); rintro e w' ⟨rfl, ⟨nd, rfl⟩⟩; refine ⟨_, rfl, ?_⟩))
  go_ret
  exact ⟨by first | rfl | (simp; done) | (simp [*]; done), by repeat (first | exact Drawn0.refl _ | apply Drawn0.step)⟩

def spec_RoundShift.f (k : Nat) (a0 : Int) (a1 : Int) : Option (Int) := (spec_Sat32.f k a0).bind fun t475 => ((spec_ClampTo.f k a1 0 31).bind fun t476 => (if 0 ≤ (IntKind.u64.wrap (t476)) then (if t475 < 0 then (if (shl .i64 1 (IntKind.u64.wrap (t476))) = 0 then (none) else (some (wrap64 (-(wrap64 (Int.tdiv (wrap64 ((wrap64 (-t475)) + (wrap64 (Int.tdiv (shl .i64 1 (IntKind.u64.wrap (t476))) 2)))) (shl .i64 1 (IntKind.u64.wrap (t476))))))))) else (if (shl .i64 1 (IntKind.u64.wrap (t476))) = 0 then (none) else (some (wrap64 (Int.tdiv (wrap64 (t475 + (wrap64 (Int.tdiv (shl .i64 1 (IntKind.u64.wrap (t476))) 2)))) (shl .i64 1 (IntKind.u64.wrap (t476)))))))) else (none)))
theorem spec_RoundShift.calls (k : Nat) (a0 : Int) (a1 : Int) (r : Int) (w : World) (h : spec_RoundShift.f k a0 a1 = some r) :
   Calls Try.prog 127 #[.int .i64 a0, .int .i64 a1] w fun e w' => e = .returned (.int .i64 r) ∧ Drawn0 w w' := by
  have H : ((spec_Sat32.f k a0).bind fun t475 => ((spec_ClampTo.f k a1 0 31).bind fun t476 => (if 0 ≤ (IntKind.u64.wrap (t476)) then (if t475 < 0 then (if (shl .i64 1 (IntKind.u64.wrap (t476))) = 0 then (none) else (some (wrap64 (-(wrap64 (Int.tdiv (wrap64 ((wrap64 (-t475)) + (wrap64 (Int.tdiv (shl .i64 1 (IntKind.u64.wrap (t476))) 2)))) (shl .i64 1 (IntKind.u64.wrap (t476))))))))) else (if (shl .i64 1 (IntKind.u64.wrap (t476))) = 0 then (none) else (some (wrap64 (Int.tdiv (wrap64 (t475 + (wrap64 (Int.tdiv (shl .i64 1 (IntKind.u64.wrap (t476))) 2)))) (shl .i64 1 (IntKind.u64.wrap (t476)))))))) else (none)))) = some r := h;clear h;obtain ⟨t475, A3, H⟩ := bnd H;(try dsimp only at H);obtain ⟨t476, A4, H⟩ := bnd H;(try dsimp only at H);obtain ⟨ji5, hji5⟩ : ∃ j_ : Int, (IntKind.u64.wrap (t476)) = j_ := ⟨_, rfl⟩;replace H : (if 0 ≤ (ji5) then (if t475 < 0 then (if (shl .i64 1 (ji5)) = 0 then (none) else (some (wrap64 (-(wrap64 (Int.tdiv (wrap64 ((wrap64 (-t475)) + (wrap64 (Int.tdiv (shl .i64 1 (ji5)) 2)))) (shl .i64 1 (ji5)))))))) else (if (shl .i64 1 (ji5)) = 0 then (none) else (some (wrap64 (Int.tdiv (wrap64 (t475 + (wrap64 (Int.tdiv (shl .i64 1 (ji5)) 2)))) (shl .i64 1 (ji5))))))) else (none)) = some r := by first | (rw [hji5] at H; exact H) | (simp only [hji5] at H ⊢; exact H)
  (try rw [hji5] at A3);(try rw [hji5] at A4);obtain ⟨c6, H⟩ := gd H;have c6b0 := eq_true c6;have c6b1 : decide (0 ≤ (ji5)) = true := decide_eq_true c6;clear c6;obtain ⟨ji7, hji7⟩ : ∃ j_ : Int, (shl .i64 1 (ji5)) = j_ := ⟨_, rfl⟩;replace H : (if t475 < 0 then (if (ji7) = 0 then (none) else (some (wrap64 (-(wrap64 (Int.tdiv (wrap64 ((wrap64 (-t475)) + (wrap64 (Int.tdiv (ji7) 2)))) (ji7))))))) else (if (ji7) = 0 then (none) else (some (wrap64 (Int.tdiv (wrap64 (t475 + (wrap64 (Int.tdiv (ji7) 2)))) (ji7)))))) = some r := by first | (rw [hji7] at H; exact H) | (simp only [hji7] at H ⊢; exact H)
  (try rw [hji7] at A3);(try rw [hji7] at A4);have hji7_ : (IntKind.i64.wrap (1 * 2 ^ min (ji5).toNat 64)) = ji7 := hji7;have hji7z : (ji5) ≤ 64 → (IntKind.i64.wrap (1 * 2 ^ (ji5).toNat)) = ji7 := shl_small hji7;have hji7u : (IntKind.i64.wrap (2 ^ min (ji5).toNat 64)) = ji7 := by have h_ := hji7_; rw [Int.one_mul] at h_; exact h_
  have hji7v : (ji5) ≤ 64 → (IntKind.i64.wrap (2 ^ (ji5).toNat)) = ji7 := fun hle_ => by have h_ := hji7z hle_; rw [Int.one_mul] at h_; exact h_
  have hji7y : (wrap64 (1 * 2 ^ min (ji5).toNat 64)) = ji7 := (i64_w _).symm.trans hji7_;have hji7x : (ji5) ≤ 64 → (wrap64 (1 * 2 ^ (ji5).toNat)) = ji7 := fun h_ => (i64_w _).symm.trans (hji7z h_);by_cases c8 : t475 < 0;rw [if_pos c8] at H;have c8b0 : decide (t475 < 0) = true := decide_eq_true c8;clear c8;by_cases c9 : (ji7) = 0
  ·rw [if_pos c9] at H;exact absurd H (by simp)
  rw [if_neg c9] at H;have c9b0 : ((ji7) == 0) = false := beq_eq_false_iff_ne.mpr c9;have c9b1 : ((ji7) != 0) = true := bne_iff_ne.mpr c9;obtain rfl := Option.some.inj H;rotate_left;rw [if_neg c8] at H;have c8b0 : decide (t475 < 0) = false := decide_eq_false c8;clear c8;by_cases c10 : (ji7) = 0
  ·rw [if_pos c10] at H;exact absurd H (by simp)
  rw [if_neg c10] at H;have c10b0 : ((ji7) == 0) = false := beq_eq_false_iff_ne.mpr c10;have c10b1 : ((ji7) != 0) = true := bne_iff_ne.mpr c10;obtain rfl := Option.some.inj H;rotate_left
  all_goals (go_enter Try.func127, Try.ntmps127; go_wp2_with (first | ((with_reducible refine gate_callee (f := 129) rfl ?_); refine gM 9 Try.func129 #[.int .i64 a0] rfl ?_; (with_reducible refine (spec_Sat32.calls k a0 t475 _ A3.out).mono ?_); rintro e w' ⟨rfl, ⟨nd, rfl⟩⟩; refine ⟨_, rfl, ?_⟩) | ((with_reducible refine gate_callee (f := 138) rfl ?_); refine gM 11 Try.func138 #[.int .i64 a1, .int .i64 0, .int .i64 31] rfl ?_; (with_reducible refine (spec_ClampTo.calls k a1 0 31 t476 _ A4.out).mono ?_); rintro e w' ⟨rfl, ⟨nd, rfl⟩⟩; refine ⟨_, rfl, ?_⟩)))
  ·go_ret
   exact ⟨by first | rfl | (simp; done) | (simp only [← hji5, ← hji7] <;> (first | rfl | simp)) | (simp [*]; done), by repeat (first | exact Drawn0.refl _ | apply Drawn0.step)⟩
  ·go_ret
   exact ⟨by first | rfl | (simp; done) | (simp only [← hji5, ← hji7] <;> (first | rfl | simp)) | (simp [*]; done), by repeat (first | exact Drawn0.refl _ | apply Drawn0.step)⟩

def spec_Requant.f (k : Nat) (a0 : Int) (a1 : Int) (a2 : Int) (a3 : Int) : Option (Int) := (spec_MulHigh.f k a0 a1).bind fun t477 => ((spec_RoundShift.f k t477 a2).bind fun t478 => ((spec_Sat8.f k a3).bind fun t479 => ((spec_Sat8.f k (wrap64 (t478 + t479))).bind fun t480 => (some t480))))
theorem spec_Requant.calls (k : Nat) (a0 : Int) (a1 : Int) (a2 : Int) (a3 : Int) (r : Int) (w : World) (h : spec_Requant.f k a0 a1 a2 a3 = some r) :
   Calls Try.prog 96 #[.int .i64 a0, .int .i64 a1, .int .i64 a2, .int .i64 a3] w fun e w' => e = .returned (.int .i64 r) ∧ Drawn0 w w' := by
  have H : ((spec_MulHigh.f k a0 a1).bind fun t477 => ((spec_RoundShift.f k t477 a2).bind fun t478 => ((spec_Sat8.f k a3).bind fun t479 => ((spec_Sat8.f k (wrap64 (t478 + t479))).bind fun t480 => (some t480))))) = some r := h;clear h;obtain ⟨t477, A5, H⟩ := bnd H;(try dsimp only at H);obtain ⟨t478, A6, H⟩ := bnd H;(try dsimp only at H);obtain ⟨t479, A7, H⟩ := bnd H;(try dsimp only at H);obtain ⟨t480, A8, H⟩ := bnd H;(try dsimp only at H);obtain rfl := Option.some.inj H
  go_enter Try.func96, Try.ntmps96
  go_wp2_with (first | ((with_reducible refine gate_callee (f := 128) rfl ?_); refine gM 11 Try.func128 #[.int .i64 a0, .int .i64 a1] rfl ?_; (with_reducible refine (spec_MulHigh.calls k a0 a1 t477 _ A5.out).mono ?_); rintro e w' ⟨rfl, ⟨nd, rfl⟩⟩; refine ⟨_, rfl, ?_⟩) | ((with_reducible refine gate_callee (f := 127) rfl ?_); refine gM 13 Try.func127 #[.int .i64 t477, .int .i64 a2] rfl ?_; (with_reducible refine (spec_RoundShift.calls k t477 a2 t478 _ A6.out).mono ?_); rintro e w' ⟨rfl, ⟨nd, rfl⟩⟩; refine ⟨_, rfl, ?_⟩) | ((with_reducible refine gate_callee (f := 126) rfl ?_); refine gM 15 Try.func126 #[.int .i64 a3] rfl ?_; (with_reducible refine (spec_Sat8.calls k a3 t479 _ A7.out).mono ?_); rintro e w' ⟨rfl, ⟨nd, rfl⟩⟩; refine ⟨_, rfl, ?_⟩) | ((with_reducible refine gate_callee (f := 126) rfl ?_); refine gM 17 Try.func126 #[.int .i64 (wrap64 (t478 + t479))] rfl ?_; (with_reducible refine (spec_Sat8.calls k (wrap64 (t478 + t479)) t480 _ A8.out).mono ?_); rintro e w' ⟨rfl, ⟨nd, rfl⟩⟩; refine ⟨_, rfl, ?_⟩))
  go_ret
  exact ⟨by first | rfl | (simp; done) | (simp [*]; done), by repeat (first | exact Drawn0.refl _ | apply Drawn0.step)⟩

def spec_PlaceOf.f (a0_0 : Int) (a0_1 : Int) (a0_2 : Int) (a1 : Int) (a2 : Int) (a3 : Int) : Option (Int) := (spec_ShapeOk.f a0_0 a0_1 a0_2).bind fun t482 => (if t482 = true then ((spec_l01In.f a1 0 (wrap64 (a0_0 - 1))).bind fun t483 => (if t483 = true then ((spec_l01In.f a2 0 (wrap64 (a0_1 - 1))).bind fun t484 => (if t484 = true then ((spec_l01In.f a3 0 (wrap64 (a0_2 - 1))).bind fun t485 => (if t485 = true then (some (wrap64 ((wrap64 ((wrap64 ((wrap64 (a1 * a0_1)) + a2)) * a0_2)) + a3))) else (some (-1)))) else (some (-1)))) else (some (-1)))) else (some (-1)))
theorem spec_PlaceOf.calls (a0_0 : Int) (a0_1 : Int) (a0_2 : Int) (a1 : Int) (a2 : Int) (a3 : Int) (r : Int) (w : World) (h : spec_PlaceOf.f a0_0 a0_1 a0_2 a1 a2 a3 = some r) :
   Calls Try.prog 130 #[.agg #[.int .i64 a0_0, .int .i64 a0_1, .int .i64 a0_2], .int .i64 a1, .int .i64 a2, .int .i64 a3] w fun e w' => e = .returned (.int .i64 r) ∧ Below w.heap.size w w' := by
  have hu31 := Try.underlying31;have HB := am (Below.refl w.heap.size w);have H : ((spec_ShapeOk.f a0_0 a0_1 a0_2).bind fun t482 => (if t482 = true then ((spec_l01In.f a1 0 (wrap64 (a0_0 - 1))).bind fun t483 => (if t483 = true then ((spec_l01In.f a2 0 (wrap64 (a0_1 - 1))).bind fun t484 => (if t484 = true then ((spec_l01In.f a3 0 (wrap64 (a0_2 - 1))).bind fun t485 => (if t485 = true then (some (wrap64 ((wrap64 ((wrap64 ((wrap64 (a1 * a0_1)) + a2)) * a0_2)) + a3))) else (some (-1)))) else (some (-1)))) else (some (-1)))) else (some (-1)))) = some r := h;clear h;obtain ⟨t482, A5, H⟩ := bnd H;(try dsimp only at H);by_cases c6 : t482 = true
  case' neg => skip
  replace c6 := Bool.eq_false_iff.mpr c6;subst c6
  rw [if_neg (show ¬ (false = true) by decide)] at H
  obtain rfl := Option.some.inj H;rotate_left;subst c6;rw [if_pos rfl] at H;obtain ⟨t483, A7, H⟩ := bnd H;(try dsimp only at H);by_cases c8 : t483 = true
  case' neg => skip
  replace c8 := Bool.eq_false_iff.mpr c8;subst c8
  rw [if_neg (show ¬ (false = true) by decide)] at H
  obtain rfl := Option.some.inj H;rotate_left;subst c8;rw [if_pos rfl] at H;obtain ⟨t484, A9, H⟩ := bnd H;(try dsimp only at H);by_cases c10 : t484 = true
  case' neg => skip
  replace c10 := Bool.eq_false_iff.mpr c10;subst c10
  rw [if_neg (show ¬ (false = true) by decide)] at H
  obtain rfl := Option.some.inj H;rotate_left;subst c10;rw [if_pos rfl] at H;obtain ⟨t485, A11, H⟩ := bnd H;(try dsimp only at H);by_cases c12 : t485 = true;subst c12;rw [if_pos rfl] at H;obtain rfl := Option.some.inj H;rotate_left;replace c12 := Bool.eq_false_iff.mpr c12;subst c12
  rw [if_neg (show ¬ (false = true) by decide)] at H
  obtain rfl := Option.some.inj H;rotate_left
  all_goals (go_enter Try.func130, Try.ntmps130; go_wp2_with (first | ((with_reducible refine gate_dst (N := 4) rfl ?_); refine boxM 4 #[.int .i64 a0_0, .int .i64 a0_1, .int .i64 a0_2] 31 ?_; intro gb481 hg w_ BK481 hb; obtain ⟨HB, GW481, GE481⟩ := box_at w hb hg; clear hb hg; have hcz_ := cells3 BK481.out) | ((with_reducible refine gate_callee (f := 72) rfl ?_); refine gM 10 Try.func72 #[.agg #[.int .i64 a0_0, .int .i64 a0_1, .int .i64 a0_2]] rfl ?_; (with_reducible refine (spec_ShapeOk.calls a0_0 a0_1 a0_2 false _ A5.out).mono ?_); rintro e w_ ⟨rfl, hb⟩; refine ⟨_, rfl, ?_⟩; replace HB := bel_on w hb; replace BK481 := blk_on gb481 hb; (try clear hb)) | ((with_reducible refine gate_callee (f := 72) rfl ?_); refine gM 10 Try.func72 #[.agg #[.int .i64 a0_0, .int .i64 a0_1, .int .i64 a0_2]] rfl ?_; (with_reducible refine (spec_ShapeOk.calls a0_0 a0_1 a0_2 true _ A5.out).mono ?_); rintro e w_ ⟨rfl, hb⟩; refine ⟨_, rfl, ?_⟩; replace HB := bel_on w hb; replace BK481 := blk_on gb481 hb; (try clear hb); have hcz_ := cells3 BK481.out) | (go_at_call 94; (with_reducible refine (spec_l01In.calls a1 0 (wrap64 (a0_0 - 1)) false _ A7.out).mono ?_); rintro e w' ⟨rfl, ⟨nd, rfl⟩⟩) | (go_at_call 94; (with_reducible refine (spec_l01In.calls a1 0 (wrap64 (a0_0 - 1)) true _ A7.out).mono ?_); rintro e w' ⟨rfl, ⟨nd, rfl⟩⟩) | (go_at_call 94; (with_reducible refine (spec_l01In.calls a2 0 (wrap64 (a0_1 - 1)) false _ A9.out).mono ?_); rintro e w' ⟨rfl, ⟨nd, rfl⟩⟩) | (go_at_call 94; (with_reducible refine (spec_l01In.calls a2 0 (wrap64 (a0_1 - 1)) true _ A9.out).mono ?_); rintro e w' ⟨rfl, ⟨nd, rfl⟩⟩) | (go_at_call 94; (with_reducible refine (spec_l01In.calls a3 0 (wrap64 (a0_2 - 1)) true _ A11.out).mono ?_); rintro e w' ⟨rfl, ⟨nd, rfl⟩⟩) | (go_at_call 94; (with_reducible refine (spec_l01In.calls a3 0 (wrap64 (a0_2 - 1)) false _ A11.out).mono ?_); rintro e w' ⟨rfl, ⟨nd, rfl⟩⟩)))
  ·go_ret
   exact ⟨eqN, bel_now⟩
  ·go_ret
   exact ⟨eqN, bel_now⟩
  ·go_ret
   exact ⟨eqN, bel_now⟩
  ·go_ret
   exact ⟨eqN, bel_now⟩
  ·go_ret
   exact ⟨eqN, bel_now⟩

def spec_ItemAt.f (k : Nat) (a0_0 : Int) (a0_1 : Int) (a0_2 : Int) (l0_3 : List Int) (a1 : Int) (a2 : Int) (a3 : Int) : Option (Int × Bool) := (spec_PlaceOf.f a0_0 a0_1 a0_2 a1 a2 a3).bind fun t487 => ((spec_TensorOk.f k a0_0 a0_1 a0_2 l0_3).bind fun t488 => (if t488 = true then (if t487 < 0 then (some (0, false)) else (if 0 ≤ t487 then (if t487 < (l0_3.length : Int) then (some (rd l0_3 t487, true)) else (none)) else (none))) else (some (0, false))))
theorem spec_ItemAt.calls (k : Nat) (a0_0 : Int) (a0_1 : Int) (a0_2 : Int) (A0_3 : Option Addr) (c0_3 : Nat) (l0_3 : List Int) (a1 : Int) (a2 : Int) (a3 : Int) (r1 : Int) (r2 : Bool) (w : World) (hr0_3 : Kd.C (Kd.int .i64) w A0_3 l0_3.length l0_3) (hc0_3 : l0_3.length ≤ c0_3) (h : spec_ItemAt.f k a0_0 a0_1 a0_2 l0_3 a1 a2 a3 = some (r1, r2)) :
   Calls Try.prog 99 #[.agg #[.int .i64 a0_0, .int .i64 a0_1, .int .i64 a0_2, .slice A0_3 l0_3.length c0_3], .int .i64 a1, .int .i64 a2, .int .i64 a3] w fun e w' => e = .returned (.tuple #[.int .i64 r1, .bool r2]) ∧ Below w.heap.size w w' := by
  have hu33 := Try.underlying33;have hu31 := Try.underlying31;have HR0_3 := am hr0_3;have HC0_3 := am hc0_3;clear hr0_3 hc0_3;have HB := am (Below.refl w.heap.size w);have H : ((spec_PlaceOf.f a0_0 a0_1 a0_2 a1 a2 a3).bind fun t487 => ((spec_TensorOk.f k a0_0 a0_1 a0_2 l0_3).bind fun t488 => (if t488 = true then (if t487 < 0 then (some (0, false)) else (if 0 ≤ t487 then (if t487 < (l0_3.length : Int) then (some (rd l0_3 t487, true)) else (none)) else (none))) else (some (0, false))))) = some (r1, r2) := h;clear h;obtain ⟨t487, A5, H⟩ := bnd H;(try dsimp only at H);obtain ⟨t488, A6, H⟩ := bnd H;(try dsimp only at H);by_cases c7 : t488 = true
  case' neg => skip
  replace c7 := Bool.eq_false_iff.mpr c7;subst c7
  rw [if_neg (show ¬ (false = true) by decide)] at H
  simp only [Option.some.injEq, Prod.mk.injEq] at H;obtain ⟨rfl, rfl⟩ := H;rotate_left;subst c7;rw [if_pos rfl] at H;by_cases c8 : t487 < 0;rw [if_pos c8] at H;have c8b0 : decide (t487 < 0) = true := decide_eq_true c8;clear c8;simp only [Option.some.injEq, Prod.mk.injEq] at H;obtain ⟨rfl, rfl⟩ := H;rotate_left;rw [if_neg c8] at H;have c8b0 : decide (t487 < 0) = false := decide_eq_false c8;clear c8;obtain ⟨c14, H⟩ := gd H;have c14b0 : decide (0 ≤ t487) = true := decide_eq_true c14;clear c14;obtain ⟨c15, H⟩ := gd H;have c15b0 : decide (t487 < (l0_3.length : Int)) = true := decide_eq_true c15;clear c15;simp only [Option.some.injEq, Prod.mk.injEq] at H;obtain ⟨rfl, rfl⟩ := H;rotate_left
  all_goals (go_enter Try.func99, Try.ntmps99; go_wp2_with (first | ((with_reducible refine gate_dst (N := 4) rfl ?_); refine boxM 4 #[.int .i64 a0_0, .int .i64 a0_1, .int .i64 a0_2, .slice A0_3 l0_3.length c0_3] 33 ?_; intro gb486 hg w_ BK486 hb; obtain ⟨HB, GW486, GE486⟩ := box_at w hb hg; clear hb hg; have hcz_ := cells4 BK486.out) | ((with_reducible refine gate_callee (f := 130) rfl ?_); refine gM 16 Try.func130 #[.agg #[.int .i64 a0_0, .int .i64 a0_1, .int .i64 a0_2], .int .i64 a1, .int .i64 a2, .int .i64 a3] rfl ?_; (with_reducible refine (spec_PlaceOf.calls a0_0 a0_1 a0_2 a1 a2 a3 t487 _ A5.out).mono ?_); rintro e w_ ⟨rfl, hb⟩; refine ⟨_, rfl, ?_⟩; replace HB := bel_on w hb; replace BK486 := blk_on gb486 hb; (try clear hb); have hcz_ := cells4 BK486.out) | ((with_reducible refine gate_callee (f := 32) rfl ?_); refine gM 18 Try.func32 #[.agg #[.int .i64 a0_0, .int .i64 a0_1, .int .i64 a0_2, .slice A0_3 l0_3.length c0_3]] rfl ?_; (with_reducible refine (spec_TensorOk.calls k a0_0 a0_1 a0_2 _ _ l0_3 false _ ?side1 HC0_3.out A6.out).mono ?_); (case side1 => exact C_now HR0_3.out); rintro e w_ ⟨rfl, hb⟩; refine ⟨_, rfl, ?_⟩; replace HB := bel_on w hb; replace BK486 := blk_on gb486 hb; (try clear hb)) | ((with_reducible refine gate_callee (f := 32) rfl ?_); refine gM 18 Try.func32 #[.agg #[.int .i64 a0_0, .int .i64 a0_1, .int .i64 a0_2, .slice A0_3 l0_3.length c0_3]] rfl ?_; (with_reducible refine (spec_TensorOk.calls k a0_0 a0_1 a0_2 _ _ l0_3 true _ ?side1 HC0_3.out A6.out).mono ?_); (case side1 => exact C_now HR0_3.out); rintro e w_ ⟨rfl, hb⟩; refine ⟨_, rfl, ?_⟩; replace HB := bel_on w hb; replace BK486 := blk_on gb486 hb; (try clear hb); (try (have p489 : 0 ≤ (t487 : Int) := of_decide_eq_true (by first | (with_reducible assumption) | assumption); have q489 : t487 < (l0_3.length : Int) := of_decide_eq_true (by first | (with_reducible assumption) | assumption); obtain ⟨ad489, e489, hx489_0⟩ := Kd.at_int HR0_3.out t487 p489 q489; cases e489; replace hx489_0 := (HB.out.cell (World.block_lt_of_cell? w _ hx489_0)).trans hx489_0; replace p489 := eq_true p489; replace q489 := eq_true q489)); have hcz_ := cells4 BK486.out)))
  ·go_ret2
   exact ⟨eqN, bel_now⟩
  ·go_ret2
   exact ⟨eqN, bel_now⟩
  ·go_ret2
   exact ⟨eqN, bel_now⟩

end Go.Proofs.Ytclpojeofclbjaa.PFnLayers
