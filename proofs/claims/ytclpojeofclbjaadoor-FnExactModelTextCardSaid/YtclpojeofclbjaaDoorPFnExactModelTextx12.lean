-- Printed by the session's own program (wip/myprint.py) for this claim out of the translation. Not trusted: Lean checks it.
import Derived.Test.YtclpojeofclbjaaDoorPFnExactModelTextx0
namespace Go.Proofs.YtclpojeofclbjaaDoor.PFnExactModelText
open Go.RowKit Go.Proofs.YtclpojeofclbjaaDoorW.PrintWords Go.Proofs.YtclpojeofclbjaaDoorW.PrintLast Go.Proofs.YtclpojeofclbjaaDoorW.PrintMore
attribute [local go_sem] max2_int min2_int max_two min_two max_three min_three max_four min_four   -- for this text's walks alone
set_option linter.unusedVariables false
set_option linter.unusedSimpArgs false

/-! ### laws_eqShape: function 25 -/
def laws_eqShape.f (a0_0 : Int) (a0_1 : Int) (a0_2 : Int) (a1_0 : Int) (a1_1 : Int) (a1_2 : Int) : Option (Bool) := if a0_0 = a1_0 then (if a0_1 = a1_1 then (if a0_2 = a1_2 then (some true) else (some false)) else (some false)) else (some false)
set_option maxHeartbeats 8000000 in
set_option maxRecDepth 100000 in
theorem laws_eqShape.calls (a0_0 : Int) (a0_1 : Int) (a0_2 : Int) (a1_0 : Int) (a1_1 : Int) (a1_2 : Int) (r : Bool) (w : World) (h : laws_eqShape.f a0_0 a0_1 a0_2 a1_0 a1_1 a1_2 = some r) :
   Calls Tryd.prog 25 #[.agg #[.int .i64 a0_0, .int .i64 a0_1, .int .i64 a0_2], .agg #[.int .i64 a1_0, .int .i64 a1_1, .int .i64 a1_2]] w fun e w' => e = .returned (.bool r) ∧ Below w.heap.size w w' := by
  have hu29 := Tryd.underlying29
  have HB := Aside0.mk (Below.refl w.heap.size w)
  have H : (if a0_0 = a1_0 then (if a0_1 = a1_1 then (if a0_2 = a1_2 then (some true) else (some false)) else (some false)) else (some false)) = some r := h
  clear h
  by_cases c3 : a0_0 = a1_0
  rotate_left
  ·rw [if_neg c3] at H
   have c3b0 : (a0_0 == a1_0) = false := beq_eq_false_iff_ne.mpr c3
   have c3b1 : (a0_0 != a1_0) = true := bne_iff_ne.mpr c3
   obtain rfl := Option.some.inj H
   go_enter Tryd.func25, Tryd.ntmps25
   go_wp2_with (first | ((with_reducible refine gate_dst (N := 2) rfl ?_); refine boxM 2 #[.int .i64 a0_0, .int .i64 a0_1, .int .i64 a0_2] 29 ?_; intro gb343 hg w21 BK343 hb; replace HB := box_at w hb hg; obtain ⟨HB, GW343, GE343⟩ := HB; clear hb hg) | ((with_reducible refine gate_dst (N := 3) rfl ?_); refine boxM 3 #[.int .i64 a1_0, .int .i64 a1_1, .int .i64 a1_2] 29 ?_; intro gb344 hg w22 BK344 hb; replace HB := box_at w hb hg; obtain ⟨HB, GW344, GE344⟩ := HB; replace BK343 := box_on gb343 hb hg; obtain ⟨BK343, NB343_344, NB344_343⟩ := BK343; clear hb hg; have hn23 := ne2 NB343_344; have hcz24 := cells3 BK343.out; have hcz25 := cells3 BK344.out))
   go_ret
   exact ⟨eqN, bel_now⟩
  rw [if_pos c3] at H
  have c3b0 : (a0_0 == a1_0) = true := beq_iff_eq.mpr c3
  have c3b1 : (a0_0 != a1_0) = false := bne_eq_false_iff_eq.mpr c3
  clear c3
  by_cases c4 : a0_1 = a1_1
  rotate_left
  ·rw [if_neg c4] at H
   have c4b0 : (a0_1 == a1_1) = false := beq_eq_false_iff_ne.mpr c4
   have c4b1 : (a0_1 != a1_1) = true := bne_iff_ne.mpr c4
   obtain rfl := Option.some.inj H
   go_enter Tryd.func25, Tryd.ntmps25
   go_wp2_with (first | ((with_reducible refine gate_dst (N := 2) rfl ?_); refine boxM 2 #[.int .i64 a0_0, .int .i64 a0_1, .int .i64 a0_2] 29 ?_; intro gb343 hg w16 BK343 hb; replace HB := box_at w hb hg; obtain ⟨HB, GW343, GE343⟩ := HB; clear hb hg) | ((with_reducible refine gate_dst (N := 3) rfl ?_); refine boxM 3 #[.int .i64 a1_0, .int .i64 a1_1, .int .i64 a1_2] 29 ?_; intro gb344 hg w17 BK344 hb; replace HB := box_at w hb hg; obtain ⟨HB, GW344, GE344⟩ := HB; replace BK343 := box_on gb343 hb hg; obtain ⟨BK343, NB343_344, NB344_343⟩ := BK343; clear hb hg; have hn18 := ne2 NB343_344; have hcz19 := cells3 BK343.out; have hcz20 := cells3 BK344.out))
   go_ret
   exact ⟨eqN, bel_now⟩
  rw [if_pos c4] at H
  have c4b0 : (a0_1 == a1_1) = true := beq_iff_eq.mpr c4
  have c4b1 : (a0_1 != a1_1) = false := bne_eq_false_iff_eq.mpr c4
  clear c4
  by_cases c5 : a0_2 = a1_2
  ·rw [if_pos c5] at H
   have c5b0 : (a0_2 == a1_2) = true := beq_iff_eq.mpr c5
   have c5b1 : (a0_2 != a1_2) = false := bne_eq_false_iff_eq.mpr c5
   clear c5
   obtain rfl := Option.some.inj H
   go_enter Tryd.func25, Tryd.ntmps25
   go_wp2_with (first | ((with_reducible refine gate_dst (N := 2) rfl ?_); refine boxM 2 #[.int .i64 a0_0, .int .i64 a0_1, .int .i64 a0_2] 29 ?_; intro gb343 hg w6 BK343 hb; replace HB := box_at w hb hg; obtain ⟨HB, GW343, GE343⟩ := HB; clear hb hg) | ((with_reducible refine gate_dst (N := 3) rfl ?_); refine boxM 3 #[.int .i64 a1_0, .int .i64 a1_1, .int .i64 a1_2] 29 ?_; intro gb344 hg w7 BK344 hb; replace HB := box_at w hb hg; obtain ⟨HB, GW344, GE344⟩ := HB; replace BK343 := box_on gb343 hb hg; obtain ⟨BK343, NB343_344, NB344_343⟩ := BK343; clear hb hg; have hn8 := ne2 NB343_344; have hcz9 := cells3 BK343.out; have hcz10 := cells3 BK344.out))
   go_ret
   exact ⟨eqN, bel_now⟩
  rw [if_neg c5] at H
  have c5b0 : (a0_2 == a1_2) = false := beq_eq_false_iff_ne.mpr c5
  have c5b1 : (a0_2 != a1_2) = true := bne_iff_ne.mpr c5
  obtain rfl := Option.some.inj H
  go_enter Tryd.func25, Tryd.ntmps25
  go_wp2_with (first | ((with_reducible refine gate_dst (N := 2) rfl ?_); refine boxM 2 #[.int .i64 a0_0, .int .i64 a0_1, .int .i64 a0_2] 29 ?_; intro gb343 hg w11 BK343 hb; replace HB := box_at w hb hg; obtain ⟨HB, GW343, GE343⟩ := HB; clear hb hg) | ((with_reducible refine gate_dst (N := 3) rfl ?_); refine boxM 3 #[.int .i64 a1_0, .int .i64 a1_1, .int .i64 a1_2] 29 ?_; intro gb344 hg w12 BK344 hb; replace HB := box_at w hb hg; obtain ⟨HB, GW344, GE344⟩ := HB; replace BK343 := box_on gb343 hb hg; obtain ⟨BK343, NB343_344, NB344_343⟩ := BK343; clear hb hg; have hn13 := ne2 NB343_344; have hcz14 := cells3 BK343.out; have hcz15 := cells3 BK344.out))
  go_ret
  exact ⟨eqN, bel_now⟩

/-! ### laws_eqIntS: function 34 -/
def laws_eqIntS.l0 : Nat → List Int → List Int → Int → Option (Bool)
  | 0, _, _, _ => none
  | k + 1, x0, x1, x5 => if x5 < (x0.length : Int) then (if 0 ≤ x5 then (if x5 < (x1.length : Int) then (if (rd x0 x5) = (rd x1 x5) then (laws_eqIntS.l0 k x0 x1 (wrap64 (x5 + 1))) else (some false)) else (none)) else (none)) else (some true)
def laws_eqIntS.f (k : Nat) (l0 : List Int) (l1 : List Int) : Option (Bool) := if (l0.length : Int) = (l1.length : Int) then (laws_eqIntS.l0 k l0 l1 0) else (some false)
set_option maxHeartbeats 8000000 in
set_option maxRecDepth 100000 in
theorem laws_eqIntS.calls (k : Nat) (A0 : Option Addr) (c0 : Nat) (l0 : List Int) (A1 : Option Addr) (c1 : Nat) (l1 : List Int) (r : Bool) (w : World) (hr0 : Kd.C (Kd.int .i64) w A0 l0.length l0) (hc0 : l0.length ≤ c0) (hr1 : Kd.C (Kd.int .i64) w A1 l1.length l1) (hc1 : l1.length ≤ c1) (h : laws_eqIntS.f k l0 l1 = some r) :
   Calls Tryd.prog 34 #[.slice A0 l0.length c0, .slice A1 l1.length c1] w fun e w' => e = .returned (.bool r) ∧ Drawn0 w w' := by
  have HR0 := Aside0.mk hr0
  have HC0 := Aside0.mk hc0
  clear hr0 hc0
  have HR1 := Aside0.mk hr1
  have HC1 := Aside0.mk hc1
  clear hr1 hc1
  have H : (if (l0.length : Int) = (l1.length : Int) then (laws_eqIntS.l0 k l0 l1 0) else (some false)) = some r := h
  clear h
  by_cases c3 : (l0.length : Int) = (l1.length : Int)
  rotate_left
  ·rw [if_neg c3] at H
   have c3b0 : ((l0.length : Int) == (l1.length : Int)) = false := beq_eq_false_iff_ne.mpr c3
   have c3b1 : ((l0.length : Int) != (l1.length : Int)) = true := bne_iff_ne.mpr c3
   have c3b2 : (l0.length == l1.length) = false := by first | simpa using c3 | (simp at c3 ⊢; omega)
   obtain rfl := Option.some.inj H
   go_enter Tryd.func34, Tryd.ntmps34
   go_wp2
   repeat (go_quiet (fail); try go_wp2)
   go_ret
   exact ⟨by first | rfl | (simp; done) | (simp [*]; done), by repeat (first | exact Drawn0.refl _ | apply Drawn0.step)⟩
  rw [if_pos c3] at H
  have c3b0 : ((l0.length : Int) == (l1.length : Int)) = true := beq_iff_eq.mpr c3
  have c3b1 : ((l0.length : Int) != (l1.length : Int)) = false := bne_eq_false_iff_eq.mpr c3
  have c3b2 : (l0.length == l1.length) = true := by first | simpa using c3 | (simp at c3 ⊢; omega)
  clear c3
  have H' := Aside0.mk H
  clear H
  go_enter Tryd.func34, Tryd.ntmps34
  go_wp2
  repeat (go_quiet (fail); try go_wp2)
  go_loopg [5] k (fun kq v5 w' => ∃ (x5_1 : Int), v5 = .int .i64 x5_1 ∧ Aside0 (laws_eqIntS.l0 kq l0 l1 x5_1 = some r) ∧ Aside0 (kq ≤ k) ∧ Drawn0 w w')
  case atStart => exact ⟨(0), (by first | rfl | (simp; done) | (simp [*]; done)), H', ⟨Nat.le_refl _⟩, by repeat (first | exact Drawn0.refl _ | apply Drawn0.step)⟩
  case round =>
   clear H'
   try clear c1
   try clear p2
   try clear c3
   try clear c3b0
   try clear c3b1
   try clear c3b2
   obtain ⟨x5_1, rfl, HA, HK1, ⟨m1, rfl⟩⟩ := hrel
   cases gk with
   | zero => exact absurd HA.out (by simp [laws_eqIntS.l0])
   | succ k1 =>
    have H := HA.out
    clear HA
    simp only [laws_eqIntS.l0] at H
    by_cases c4 : x5_1 < (l0.length : Int)
    rotate_left
    ·rw [if_neg c4] at H
     have c4b0 : decide (x5_1 < (l0.length : Int)) = false := decide_eq_false c4
     clear c4
     obtain rfl := Option.some.inj H
     go_wp2
     repeat (go_quiet (fail); try go_wp2)
     go_ret
     exact ⟨by first | rfl | (simp; done) | (simp [*]; done), by repeat (first | exact Drawn0.refl _ | apply Drawn0.step)⟩
    rw [if_pos c4] at H
    have c4b0 : decide (x5_1 < (l0.length : Int)) = true := decide_eq_true c4
    clear c4
    by_cases c5 : 0 ≤ x5_1
    rotate_left
    ·rw [if_neg c5] at H
     exact absurd H (by simp)
    rw [if_pos c5] at H
    have c5b0 : decide (0 ≤ x5_1) = true := decide_eq_true c5
    clear c5
    by_cases c6 : x5_1 < (l1.length : Int)
    rotate_left
    ·rw [if_neg c6] at H
     exact absurd H (by simp)
    rw [if_pos c6] at H
    have c6b0 : decide (x5_1 < (l1.length : Int)) = true := decide_eq_true c6
    clear c6
    by_cases c7 : (rd l0 x5_1) = (rd l1 x5_1)
    rotate_left
    ·rw [if_neg c7] at H
     have c7b0 : ((rd l0 x5_1) == (rd l1 x5_1)) = false := beq_eq_false_iff_ne.mpr c7
     have c7b1 : ((rd l0 x5_1) != (rd l1 x5_1)) = true := bne_iff_ne.mpr c7
     obtain rfl := Option.some.inj H
     have p345 : 0 ≤ (x5_1 : Int) := of_decide_eq_true (by first | (with_reducible assumption) | assumption)
     have q345 : x5_1 < (l0.length : Int) := of_decide_eq_true (by first | (with_reducible assumption) | assumption)
     obtain ⟨ad345, e345, hx345_0⟩ := Kd.at_int HR0.out x5_1 p345 q345
     cases e345
     replace p345 := eq_true p345
     replace q345 := eq_true q345
     have p346 : 0 ≤ (x5_1 : Int) := of_decide_eq_true (by first | (with_reducible assumption) | assumption)
     have q346 : x5_1 < (l1.length : Int) := of_decide_eq_true (by first | (with_reducible assumption) | assumption)
     obtain ⟨ad346, e346, hx346_0⟩ := Kd.at_int HR1.out x5_1 p346 q346
     cases e346
     replace p346 := eq_true p346
     replace q346 := eq_true q346
     go_wp2
     repeat (go_quiet (fail); try go_wp2)
     go_ret
     exact ⟨by first | rfl | (simp; done) | (simp [*]; done), by repeat (first | exact Drawn0.refl _ | apply Drawn0.step)⟩
    rw [if_pos c7] at H
    have c7b0 : ((rd l0 x5_1) == (rd l1 x5_1)) = true := beq_iff_eq.mpr c7
    have c7b1 : ((rd l0 x5_1) != (rd l1 x5_1)) = false := bne_eq_false_iff_eq.mpr c7
    clear c7
    have H' := Aside0.mk H
    clear H
    have p345 : 0 ≤ (x5_1 : Int) := of_decide_eq_true (by first | (with_reducible assumption) | assumption)
    have q345 : x5_1 < (l0.length : Int) := of_decide_eq_true (by first | (with_reducible assumption) | assumption)
    obtain ⟨ad345, e345, hx345_0⟩ := Kd.at_int HR0.out x5_1 p345 q345
    cases e345
    replace p345 := eq_true p345
    replace q345 := eq_true q345
    have p346 : 0 ≤ (x5_1 : Int) := of_decide_eq_true (by first | (with_reducible assumption) | assumption)
    have q346 : x5_1 < (l1.length : Int) := of_decide_eq_true (by first | (with_reducible assumption) | assumption)
    obtain ⟨ad346, e346, hx346_0⟩ := Kd.at_int HR1.out x5_1 p346 q346
    cases e346
    replace p346 := eq_true p346
    replace q346 := eq_true q346
    go_wp2
    repeat (go_quiet (fail); try go_wp2)
    go_roundg k1
    case measure => have := HK1.out; omega
    case rel => exact ⟨(wrap64 (x5_1 + 1)), (by first | rfl | (simp; done) | (simp [*]; done)), H', ⟨by have := HK1.out; omega⟩, by repeat (first | exact Drawn0.refl _ | apply Drawn0.step)⟩

/-! ### laws_eqLayer: function 49 -/
def laws_eqLayer.f (k : Nat) (a0_0 : Int) (a0_1 : Int) (a0_2 : Int) (a0_3 : Int) (a0_4 : Int) (a0_5 : Int) (a0_6 : Int) (l0_7 : List Int) (l0_8 : List Int) (a1_0 : Int) (a1_1 : Int) (a1_2 : Int) (a1_3 : Int) (a1_4 : Int) (a1_5 : Int) (a1_6 : Int) (l1_7 : List Int) (l1_8 : List Int) : Option (Bool) := if a0_0 = a1_0 then (if a0_1 = a1_1 then (if a0_2 = a1_2 then (if a0_3 = a1_3 then (if a0_4 = a1_4 then (if a0_5 = a1_5 then (if a0_6 = a1_6 then ((laws_eqIntS.f k l0_7 l1_7).bind fun t349 => (if t349 = true then ((laws_eqIntS.f k l0_8 l1_8).bind fun t350 => (if t350 = true then (some true) else (some false))) else (some false))) else (some false)) else (some false)) else (some false)) else (some false)) else (some false)) else (some false)) else (some false)
set_option maxHeartbeats 8000000 in
set_option maxRecDepth 100000 in
theorem laws_eqLayer.calls (k : Nat) (a0_0 : Int) (a0_1 : Int) (a0_2 : Int) (a0_3 : Int) (a0_4 : Int) (a0_5 : Int) (a0_6 : Int) (A0_7 : Option Addr) (c0_7 : Nat) (l0_7 : List Int) (A0_8 : Option Addr) (c0_8 : Nat) (l0_8 : List Int) (a1_0 : Int) (a1_1 : Int) (a1_2 : Int) (a1_3 : Int) (a1_4 : Int) (a1_5 : Int) (a1_6 : Int) (A1_7 : Option Addr) (c1_7 : Nat) (l1_7 : List Int) (A1_8 : Option Addr) (c1_8 : Nat) (l1_8 : List Int) (r : Bool) (w : World) (hr0_7 : Kd.C (Kd.int .i64) w A0_7 l0_7.length l0_7) (hc0_7 : l0_7.length ≤ c0_7) (hr0_8 : Kd.C (Kd.int .i64) w A0_8 l0_8.length l0_8) (hc0_8 : l0_8.length ≤ c0_8) (hr1_7 : Kd.C (Kd.int .i64) w A1_7 l1_7.length l1_7) (hc1_7 : l1_7.length ≤ c1_7) (hr1_8 : Kd.C (Kd.int .i64) w A1_8 l1_8.length l1_8) (hc1_8 : l1_8.length ≤ c1_8) (h : laws_eqLayer.f k a0_0 a0_1 a0_2 a0_3 a0_4 a0_5 a0_6 l0_7 l0_8 a1_0 a1_1 a1_2 a1_3 a1_4 a1_5 a1_6 l1_7 l1_8 = some r) :
   Calls Tryd.prog 49 #[.agg #[.int .i64 a0_0, .int .i64 a0_1, .int .i64 a0_2, .int .i64 a0_3, .int .i64 a0_4, .int .i64 a0_5, .int .i64 a0_6, .slice A0_7 l0_7.length c0_7, .slice A0_8 l0_8.length c0_8], .agg #[.int .i64 a1_0, .int .i64 a1_1, .int .i64 a1_2, .int .i64 a1_3, .int .i64 a1_4, .int .i64 a1_5, .int .i64 a1_6, .slice A1_7 l1_7.length c1_7, .slice A1_8 l1_8.length c1_8]] w fun e w' => e = .returned (.bool r) ∧ Below w.heap.size w w' := by
  have hu49 := Tryd.underlying49
  have HR0_7 := Aside0.mk hr0_7
  have HC0_7 := Aside0.mk hc0_7
  clear hr0_7 hc0_7
  have HR0_8 := Aside0.mk hr0_8
  have HC0_8 := Aside0.mk hc0_8
  clear hr0_8 hc0_8
  have HR1_7 := Aside0.mk hr1_7
  have HC1_7 := Aside0.mk hc1_7
  clear hr1_7 hc1_7
  have HR1_8 := Aside0.mk hr1_8
  have HC1_8 := Aside0.mk hc1_8
  clear hr1_8 hc1_8
  have HB := Aside0.mk (Below.refl w.heap.size w)
  have H : (if a0_0 = a1_0 then (if a0_1 = a1_1 then (if a0_2 = a1_2 then (if a0_3 = a1_3 then (if a0_4 = a1_4 then (if a0_5 = a1_5 then (if a0_6 = a1_6 then ((laws_eqIntS.f k l0_7 l1_7).bind fun t349 => (if t349 = true then ((laws_eqIntS.f k l0_8 l1_8).bind fun t350 => (if t350 = true then (some true) else (some false))) else (some false))) else (some false)) else (some false)) else (some false)) else (some false)) else (some false)) else (some false)) else (some false)) = some r := h
  clear h
  by_cases c3 : a0_0 = a1_0
  rotate_left
  ·rw [if_neg c3] at H
   have c3b0 : (a0_0 == a1_0) = false := beq_eq_false_iff_ne.mpr c3
   have c3b1 : (a0_0 != a1_0) = true := bne_iff_ne.mpr c3
   obtain rfl := Option.some.inj H
   go_enter Tryd.func49, Tryd.ntmps49
   go_wp2_with (first | ((with_reducible refine gate_dst (N := 2) rfl ?_); refine boxM 2 #[.int .i64 a0_0, .int .i64 a0_1, .int .i64 a0_2, .int .i64 a0_3, .int .i64 a0_4, .int .i64 a0_5, .int .i64 a0_6, .slice A0_7 l0_7.length c0_7, .slice A0_8 l0_8.length c0_8] 49 ?_; intro gb347 hg w59 BK347 hb; replace HB := box_at w hb hg; obtain ⟨HB, GW347, GE347⟩ := HB; clear hb hg) | ((with_reducible refine gate_dst (N := 3) rfl ?_); refine boxM 3 #[.int .i64 a1_0, .int .i64 a1_1, .int .i64 a1_2, .int .i64 a1_3, .int .i64 a1_4, .int .i64 a1_5, .int .i64 a1_6, .slice A1_7 l1_7.length c1_7, .slice A1_8 l1_8.length c1_8] 49 ?_; intro gb348 hg w60 BK348 hb; replace HB := box_at w hb hg; obtain ⟨HB, GW348, GE348⟩ := HB; replace BK347 := box_on gb347 hb hg; obtain ⟨BK347, NB347_348, NB348_347⟩ := BK347; clear hb hg; have hn61 := ne2 NB347_348; have hcz62 := cells9 BK347.out; have hcz63 := cells9 BK348.out))
   go_ret
   exact ⟨eqN, bel_now⟩
  rw [if_pos c3] at H
  have c3b0 : (a0_0 == a1_0) = true := beq_iff_eq.mpr c3
  have c3b1 : (a0_0 != a1_0) = false := bne_eq_false_iff_eq.mpr c3
  clear c3
  by_cases c4 : a0_1 = a1_1
  rotate_left
  ·rw [if_neg c4] at H
   have c4b0 : (a0_1 == a1_1) = false := beq_eq_false_iff_ne.mpr c4
   have c4b1 : (a0_1 != a1_1) = true := bne_iff_ne.mpr c4
   obtain rfl := Option.some.inj H
   go_enter Tryd.func49, Tryd.ntmps49
   go_wp2_with (first | ((with_reducible refine gate_dst (N := 2) rfl ?_); refine boxM 2 #[.int .i64 a0_0, .int .i64 a0_1, .int .i64 a0_2, .int .i64 a0_3, .int .i64 a0_4, .int .i64 a0_5, .int .i64 a0_6, .slice A0_7 l0_7.length c0_7, .slice A0_8 l0_8.length c0_8] 49 ?_; intro gb347 hg w54 BK347 hb; replace HB := box_at w hb hg; obtain ⟨HB, GW347, GE347⟩ := HB; clear hb hg) | ((with_reducible refine gate_dst (N := 3) rfl ?_); refine boxM 3 #[.int .i64 a1_0, .int .i64 a1_1, .int .i64 a1_2, .int .i64 a1_3, .int .i64 a1_4, .int .i64 a1_5, .int .i64 a1_6, .slice A1_7 l1_7.length c1_7, .slice A1_8 l1_8.length c1_8] 49 ?_; intro gb348 hg w55 BK348 hb; replace HB := box_at w hb hg; obtain ⟨HB, GW348, GE348⟩ := HB; replace BK347 := box_on gb347 hb hg; obtain ⟨BK347, NB347_348, NB348_347⟩ := BK347; clear hb hg; have hn56 := ne2 NB347_348; have hcz57 := cells9 BK347.out; have hcz58 := cells9 BK348.out))
   go_ret
   exact ⟨eqN, bel_now⟩
  rw [if_pos c4] at H
  have c4b0 : (a0_1 == a1_1) = true := beq_iff_eq.mpr c4
  have c4b1 : (a0_1 != a1_1) = false := bne_eq_false_iff_eq.mpr c4
  clear c4
  by_cases c5 : a0_2 = a1_2
  rotate_left
  ·rw [if_neg c5] at H
   have c5b0 : (a0_2 == a1_2) = false := beq_eq_false_iff_ne.mpr c5
   have c5b1 : (a0_2 != a1_2) = true := bne_iff_ne.mpr c5
   obtain rfl := Option.some.inj H
   go_enter Tryd.func49, Tryd.ntmps49
   go_wp2_with (first | ((with_reducible refine gate_dst (N := 2) rfl ?_); refine boxM 2 #[.int .i64 a0_0, .int .i64 a0_1, .int .i64 a0_2, .int .i64 a0_3, .int .i64 a0_4, .int .i64 a0_5, .int .i64 a0_6, .slice A0_7 l0_7.length c0_7, .slice A0_8 l0_8.length c0_8] 49 ?_; intro gb347 hg w49 BK347 hb; replace HB := box_at w hb hg; obtain ⟨HB, GW347, GE347⟩ := HB; clear hb hg) | ((with_reducible refine gate_dst (N := 3) rfl ?_); refine boxM 3 #[.int .i64 a1_0, .int .i64 a1_1, .int .i64 a1_2, .int .i64 a1_3, .int .i64 a1_4, .int .i64 a1_5, .int .i64 a1_6, .slice A1_7 l1_7.length c1_7, .slice A1_8 l1_8.length c1_8] 49 ?_; intro gb348 hg w50 BK348 hb; replace HB := box_at w hb hg; obtain ⟨HB, GW348, GE348⟩ := HB; replace BK347 := box_on gb347 hb hg; obtain ⟨BK347, NB347_348, NB348_347⟩ := BK347; clear hb hg; have hn51 := ne2 NB347_348; have hcz52 := cells9 BK347.out; have hcz53 := cells9 BK348.out))
   go_ret
   exact ⟨eqN, bel_now⟩
  rw [if_pos c5] at H
  have c5b0 : (a0_2 == a1_2) = true := beq_iff_eq.mpr c5
  have c5b1 : (a0_2 != a1_2) = false := bne_eq_false_iff_eq.mpr c5
  clear c5
  by_cases c6 : a0_3 = a1_3
  rotate_left
  ·rw [if_neg c6] at H
   have c6b0 : (a0_3 == a1_3) = false := beq_eq_false_iff_ne.mpr c6
   have c6b1 : (a0_3 != a1_3) = true := bne_iff_ne.mpr c6
   obtain rfl := Option.some.inj H
   go_enter Tryd.func49, Tryd.ntmps49
   go_wp2_with (first | ((with_reducible refine gate_dst (N := 2) rfl ?_); refine boxM 2 #[.int .i64 a0_0, .int .i64 a0_1, .int .i64 a0_2, .int .i64 a0_3, .int .i64 a0_4, .int .i64 a0_5, .int .i64 a0_6, .slice A0_7 l0_7.length c0_7, .slice A0_8 l0_8.length c0_8] 49 ?_; intro gb347 hg w44 BK347 hb; replace HB := box_at w hb hg; obtain ⟨HB, GW347, GE347⟩ := HB; clear hb hg) | ((with_reducible refine gate_dst (N := 3) rfl ?_); refine boxM 3 #[.int .i64 a1_0, .int .i64 a1_1, .int .i64 a1_2, .int .i64 a1_3, .int .i64 a1_4, .int .i64 a1_5, .int .i64 a1_6, .slice A1_7 l1_7.length c1_7, .slice A1_8 l1_8.length c1_8] 49 ?_; intro gb348 hg w45 BK348 hb; replace HB := box_at w hb hg; obtain ⟨HB, GW348, GE348⟩ := HB; replace BK347 := box_on gb347 hb hg; obtain ⟨BK347, NB347_348, NB348_347⟩ := BK347; clear hb hg; have hn46 := ne2 NB347_348; have hcz47 := cells9 BK347.out; have hcz48 := cells9 BK348.out))
   go_ret
   exact ⟨eqN, bel_now⟩
  rw [if_pos c6] at H
  have c6b0 : (a0_3 == a1_3) = true := beq_iff_eq.mpr c6
  have c6b1 : (a0_3 != a1_3) = false := bne_eq_false_iff_eq.mpr c6
  clear c6
  by_cases c7 : a0_4 = a1_4
  rotate_left
  ·rw [if_neg c7] at H
   have c7b0 : (a0_4 == a1_4) = false := beq_eq_false_iff_ne.mpr c7
   have c7b1 : (a0_4 != a1_4) = true := bne_iff_ne.mpr c7
   obtain rfl := Option.some.inj H
   go_enter Tryd.func49, Tryd.ntmps49
   go_wp2_with (first | ((with_reducible refine gate_dst (N := 2) rfl ?_); refine boxM 2 #[.int .i64 a0_0, .int .i64 a0_1, .int .i64 a0_2, .int .i64 a0_3, .int .i64 a0_4, .int .i64 a0_5, .int .i64 a0_6, .slice A0_7 l0_7.length c0_7, .slice A0_8 l0_8.length c0_8] 49 ?_; intro gb347 hg w39 BK347 hb; replace HB := box_at w hb hg; obtain ⟨HB, GW347, GE347⟩ := HB; clear hb hg) | ((with_reducible refine gate_dst (N := 3) rfl ?_); refine boxM 3 #[.int .i64 a1_0, .int .i64 a1_1, .int .i64 a1_2, .int .i64 a1_3, .int .i64 a1_4, .int .i64 a1_5, .int .i64 a1_6, .slice A1_7 l1_7.length c1_7, .slice A1_8 l1_8.length c1_8] 49 ?_; intro gb348 hg w40 BK348 hb; replace HB := box_at w hb hg; obtain ⟨HB, GW348, GE348⟩ := HB; replace BK347 := box_on gb347 hb hg; obtain ⟨BK347, NB347_348, NB348_347⟩ := BK347; clear hb hg; have hn41 := ne2 NB347_348; have hcz42 := cells9 BK347.out; have hcz43 := cells9 BK348.out))
   go_ret
   exact ⟨eqN, bel_now⟩
  rw [if_pos c7] at H
  have c7b0 : (a0_4 == a1_4) = true := beq_iff_eq.mpr c7
  have c7b1 : (a0_4 != a1_4) = false := bne_eq_false_iff_eq.mpr c7
  clear c7
  by_cases c8 : a0_5 = a1_5
  rotate_left
  ·rw [if_neg c8] at H
   have c8b0 : (a0_5 == a1_5) = false := beq_eq_false_iff_ne.mpr c8
   have c8b1 : (a0_5 != a1_5) = true := bne_iff_ne.mpr c8
   obtain rfl := Option.some.inj H
   go_enter Tryd.func49, Tryd.ntmps49
   go_wp2_with (first | ((with_reducible refine gate_dst (N := 2) rfl ?_); refine boxM 2 #[.int .i64 a0_0, .int .i64 a0_1, .int .i64 a0_2, .int .i64 a0_3, .int .i64 a0_4, .int .i64 a0_5, .int .i64 a0_6, .slice A0_7 l0_7.length c0_7, .slice A0_8 l0_8.length c0_8] 49 ?_; intro gb347 hg w34 BK347 hb; replace HB := box_at w hb hg; obtain ⟨HB, GW347, GE347⟩ := HB; clear hb hg) | ((with_reducible refine gate_dst (N := 3) rfl ?_); refine boxM 3 #[.int .i64 a1_0, .int .i64 a1_1, .int .i64 a1_2, .int .i64 a1_3, .int .i64 a1_4, .int .i64 a1_5, .int .i64 a1_6, .slice A1_7 l1_7.length c1_7, .slice A1_8 l1_8.length c1_8] 49 ?_; intro gb348 hg w35 BK348 hb; replace HB := box_at w hb hg; obtain ⟨HB, GW348, GE348⟩ := HB; replace BK347 := box_on gb347 hb hg; obtain ⟨BK347, NB347_348, NB348_347⟩ := BK347; clear hb hg; have hn36 := ne2 NB347_348; have hcz37 := cells9 BK347.out; have hcz38 := cells9 BK348.out))
   go_ret
   exact ⟨eqN, bel_now⟩
  rw [if_pos c8] at H
  have c8b0 : (a0_5 == a1_5) = true := beq_iff_eq.mpr c8
  have c8b1 : (a0_5 != a1_5) = false := bne_eq_false_iff_eq.mpr c8
  clear c8
  by_cases c9 : a0_6 = a1_6
  rotate_left
  ·rw [if_neg c9] at H
   have c9b0 : (a0_6 == a1_6) = false := beq_eq_false_iff_ne.mpr c9
   have c9b1 : (a0_6 != a1_6) = true := bne_iff_ne.mpr c9
   obtain rfl := Option.some.inj H
   go_enter Tryd.func49, Tryd.ntmps49
   go_wp2_with (first | ((with_reducible refine gate_dst (N := 2) rfl ?_); refine boxM 2 #[.int .i64 a0_0, .int .i64 a0_1, .int .i64 a0_2, .int .i64 a0_3, .int .i64 a0_4, .int .i64 a0_5, .int .i64 a0_6, .slice A0_7 l0_7.length c0_7, .slice A0_8 l0_8.length c0_8] 49 ?_; intro gb347 hg w29 BK347 hb; replace HB := box_at w hb hg; obtain ⟨HB, GW347, GE347⟩ := HB; clear hb hg) | ((with_reducible refine gate_dst (N := 3) rfl ?_); refine boxM 3 #[.int .i64 a1_0, .int .i64 a1_1, .int .i64 a1_2, .int .i64 a1_3, .int .i64 a1_4, .int .i64 a1_5, .int .i64 a1_6, .slice A1_7 l1_7.length c1_7, .slice A1_8 l1_8.length c1_8] 49 ?_; intro gb348 hg w30 BK348 hb; replace HB := box_at w hb hg; obtain ⟨HB, GW348, GE348⟩ := HB; replace BK347 := box_on gb347 hb hg; obtain ⟨BK347, NB347_348, NB348_347⟩ := BK347; clear hb hg; have hn31 := ne2 NB347_348; have hcz32 := cells9 BK347.out; have hcz33 := cells9 BK348.out))
   go_ret
   exact ⟨eqN, bel_now⟩
  rw [if_pos c9] at H
  have c9b0 : (a0_6 == a1_6) = true := beq_iff_eq.mpr c9
  have c9b1 : (a0_6 != a1_6) = false := bne_eq_false_iff_eq.mpr c9
  clear c9
  replace H := Option.bind_eq_some_iff.mp H
  obtain ⟨t349, A100, H⟩ := H
  (try dsimp only at H)
  have A10 := Aside0.mk A100
  clear A100
  by_cases c11 : t349 = true
  rotate_left
  ·replace c11 := Bool.eq_false_iff.mpr c11
   subst c11
   rw [if_neg (show ¬ (false = true) by decide)] at H
   obtain rfl := Option.some.inj H
   go_enter Tryd.func49, Tryd.ntmps49
   go_wp2_with (first | ((with_reducible refine gate_dst (N := 2) rfl ?_); refine boxM 2 #[.int .i64 a0_0, .int .i64 a0_1, .int .i64 a0_2, .int .i64 a0_3, .int .i64 a0_4, .int .i64 a0_5, .int .i64 a0_6, .slice A0_7 l0_7.length c0_7, .slice A0_8 l0_8.length c0_8] 49 ?_; intro gb347 hg w24 BK347 hb; replace HB := box_at w hb hg; obtain ⟨HB, GW347, GE347⟩ := HB; clear hb hg) | ((with_reducible refine gate_dst (N := 3) rfl ?_); refine boxM 3 #[.int .i64 a1_0, .int .i64 a1_1, .int .i64 a1_2, .int .i64 a1_3, .int .i64 a1_4, .int .i64 a1_5, .int .i64 a1_6, .slice A1_7 l1_7.length c1_7, .slice A1_8 l1_8.length c1_8] 49 ?_; intro gb348 hg w25 BK348 hb; replace HB := box_at w hb hg; obtain ⟨HB, GW348, GE348⟩ := HB; replace BK347 := box_on gb347 hb hg; obtain ⟨BK347, NB347_348, NB348_347⟩ := BK347; clear hb hg; have hn26 := ne2 NB347_348; have hcz27 := cells9 BK347.out; have hcz28 := cells9 BK348.out) | ((with_reducible refine gate_callee (f := 34) rfl ?_); refine goesM (some 44) rfl rfl Tryd.func34 (by kernel_rfl) rfl #[.slice A0_7 l0_7.length c0_7, .slice A1_7 l1_7.length c1_7] rfl ?_; (with_reducible refine (laws_eqIntS.calls k _ _ l0_7 _ _ l1_7 false _ ?side1 ?side2 ?side3 ?side4 A10.out).mono ?_); (case side1 => exact C_now HR0_7.out); (case side2 => exact HC0_7.out); (case side3 => exact C_now HR1_7.out); (case side4 => exact HC1_7.out); rintro e w' ⟨rfl, ⟨nd, rfl⟩⟩; refine ⟨_, rfl, ?_⟩))
   go_ret
   exact ⟨eqN, bel_now⟩
  subst c11
  rw [if_pos rfl] at H
  replace H := Option.bind_eq_some_iff.mp H
  obtain ⟨t350, A120, H⟩ := H
  (try dsimp only at H)
  have A12 := Aside0.mk A120
  clear A120
  by_cases c13 : t350 = true
  ·subst c13
   rw [if_pos rfl] at H
   obtain rfl := Option.some.inj H
   go_enter Tryd.func49, Tryd.ntmps49
   go_wp2_with (first | ((with_reducible refine gate_dst (N := 2) rfl ?_); refine boxM 2 #[.int .i64 a0_0, .int .i64 a0_1, .int .i64 a0_2, .int .i64 a0_3, .int .i64 a0_4, .int .i64 a0_5, .int .i64 a0_6, .slice A0_7 l0_7.length c0_7, .slice A0_8 l0_8.length c0_8] 49 ?_; intro gb347 hg w14 BK347 hb; replace HB := box_at w hb hg; obtain ⟨HB, GW347, GE347⟩ := HB; clear hb hg) | ((with_reducible refine gate_dst (N := 3) rfl ?_); refine boxM 3 #[.int .i64 a1_0, .int .i64 a1_1, .int .i64 a1_2, .int .i64 a1_3, .int .i64 a1_4, .int .i64 a1_5, .int .i64 a1_6, .slice A1_7 l1_7.length c1_7, .slice A1_8 l1_8.length c1_8] 49 ?_; intro gb348 hg w15 BK348 hb; replace HB := box_at w hb hg; obtain ⟨HB, GW348, GE348⟩ := HB; replace BK347 := box_on gb347 hb hg; obtain ⟨BK347, NB347_348, NB348_347⟩ := BK347; clear hb hg; have hn16 := ne2 NB347_348; have hcz17 := cells9 BK347.out; have hcz18 := cells9 BK348.out) | ((with_reducible refine gate_callee (f := 34) rfl ?_); refine goesM (some 44) rfl rfl Tryd.func34 (by kernel_rfl) rfl #[.slice A0_7 l0_7.length c0_7, .slice A1_7 l1_7.length c1_7] rfl ?_; (with_reducible refine (laws_eqIntS.calls k _ _ l0_7 _ _ l1_7 true _ ?side1 ?side2 ?side3 ?side4 A10.out).mono ?_); (case side1 => exact C_now HR0_7.out); (case side2 => exact HC0_7.out); (case side3 => exact C_now HR1_7.out); (case side4 => exact HC1_7.out); rintro e w' ⟨rfl, ⟨nd, rfl⟩⟩; refine ⟨_, rfl, ?_⟩) | ((with_reducible refine gate_callee (f := 34) rfl ?_); refine goesM (some 50) rfl rfl Tryd.func34 (by kernel_rfl) rfl #[.slice A0_8 l0_8.length c0_8, .slice A1_8 l1_8.length c1_8] rfl ?_; (with_reducible refine (laws_eqIntS.calls k _ _ l0_8 _ _ l1_8 true _ ?side1 ?side2 ?side3 ?side4 A12.out).mono ?_); (case side1 => exact C_now HR0_8.out); (case side2 => exact HC0_8.out); (case side3 => exact C_now HR1_8.out); (case side4 => exact HC1_8.out); rintro e w' ⟨rfl, ⟨nd, rfl⟩⟩; refine ⟨_, rfl, ?_⟩))
   go_ret
   exact ⟨eqN, bel_now⟩
  replace c13 := Bool.eq_false_iff.mpr c13
  subst c13
  rw [if_neg (show ¬ (false = true) by decide)] at H
  obtain rfl := Option.some.inj H
  go_enter Tryd.func49, Tryd.ntmps49
  go_wp2_with (first | ((with_reducible refine gate_dst (N := 2) rfl ?_); refine boxM 2 #[.int .i64 a0_0, .int .i64 a0_1, .int .i64 a0_2, .int .i64 a0_3, .int .i64 a0_4, .int .i64 a0_5, .int .i64 a0_6, .slice A0_7 l0_7.length c0_7, .slice A0_8 l0_8.length c0_8] 49 ?_; intro gb347 hg w19 BK347 hb; replace HB := box_at w hb hg; obtain ⟨HB, GW347, GE347⟩ := HB; clear hb hg) | ((with_reducible refine gate_dst (N := 3) rfl ?_); refine boxM 3 #[.int .i64 a1_0, .int .i64 a1_1, .int .i64 a1_2, .int .i64 a1_3, .int .i64 a1_4, .int .i64 a1_5, .int .i64 a1_6, .slice A1_7 l1_7.length c1_7, .slice A1_8 l1_8.length c1_8] 49 ?_; intro gb348 hg w20 BK348 hb; replace HB := box_at w hb hg; obtain ⟨HB, GW348, GE348⟩ := HB; replace BK347 := box_on gb347 hb hg; obtain ⟨BK347, NB347_348, NB348_347⟩ := BK347; clear hb hg; have hn21 := ne2 NB347_348; have hcz22 := cells9 BK347.out; have hcz23 := cells9 BK348.out) | ((with_reducible refine gate_callee (f := 34) rfl ?_); refine goesM (some 44) rfl rfl Tryd.func34 (by kernel_rfl) rfl #[.slice A0_7 l0_7.length c0_7, .slice A1_7 l1_7.length c1_7] rfl ?_; (with_reducible refine (laws_eqIntS.calls k _ _ l0_7 _ _ l1_7 true _ ?side1 ?side2 ?side3 ?side4 A10.out).mono ?_); (case side1 => exact C_now HR0_7.out); (case side2 => exact HC0_7.out); (case side3 => exact C_now HR1_7.out); (case side4 => exact HC1_7.out); rintro e w' ⟨rfl, ⟨nd, rfl⟩⟩; refine ⟨_, rfl, ?_⟩) | ((with_reducible refine gate_callee (f := 34) rfl ?_); refine goesM (some 50) rfl rfl Tryd.func34 (by kernel_rfl) rfl #[.slice A0_8 l0_8.length c0_8, .slice A1_8 l1_8.length c1_8] rfl ?_; (with_reducible refine (laws_eqIntS.calls k _ _ l0_8 _ _ l1_8 false _ ?side1 ?side2 ?side3 ?side4 A12.out).mono ?_); (case side1 => exact C_now HR0_8.out); (case side2 => exact HC0_8.out); (case side3 => exact C_now HR1_8.out); (case side4 => exact HC1_8.out); rintro e w' ⟨rfl, ⟨nd, rfl⟩⟩; refine ⟨_, rfl, ?_⟩))
  go_ret
  exact ⟨eqN, bel_now⟩

/-! ### laws_eqLayerS: function 26 -/
def laws_eqLayerS.l0 : Nat → List (S49) → List (S49) → Int → Option (Bool)
  | 0, _, _, _ => none
  | k + 1, x0, x1, x5 => if x5 < (x0.length : Int) then (if 0 ≤ x5 then (if x5 < (x1.length : Int) then ((laws_eqLayer.f k ((rd_T49 x0 x5).f0) ((rd_T49 x0 x5).f1) ((rd_T49 x0 x5).f2) ((rd_T49 x0 x5).f3) ((rd_T49 x0 x5).f4) ((rd_T49 x0 x5).f5) ((rd_T49 x0 x5).f6) ((rd_T49 x0 x5).f7) ((rd_T49 x0 x5).f8) ((rd_T49 x1 x5).f0) ((rd_T49 x1 x5).f1) ((rd_T49 x1 x5).f2) ((rd_T49 x1 x5).f3) ((rd_T49 x1 x5).f4) ((rd_T49 x1 x5).f5) ((rd_T49 x1 x5).f6) ((rd_T49 x1 x5).f7) ((rd_T49 x1 x5).f8)).bind fun t353 => (if t353 = true then (laws_eqLayerS.l0 k x0 x1 (wrap64 (x5 + 1))) else (some false))) else (none)) else (none)) else (some true)
def laws_eqLayerS.f (k : Nat) (l0 : List (S49)) (l1 : List (S49)) : Option (Bool) := if (l0.length : Int) = (l1.length : Int) then (laws_eqLayerS.l0 k l0 l1 0) else (some false)
def laws_eqLayerS.T6 : Bool × List (List Nat × List Nat) := (true, [([], []), ([], []), ([0, 1], [0, 1]), ([2], [2]), ([], []), ([], []), ([4, 5], [4, 5]), ([6], [6]), ([3, 7], [3, 7]), ([8], [8])])
def laws_eqLayerS.B6 : List Nat := [0, 0, 3, 7, 0, 0, 48, 112, 255, 511]
theorem laws_eqLayerS.tab6 : rtab .any (opsOf Tryd.f26 6) = laws_eqLayerS.T6 := by kernel_rfl
theorem laws_eqLayerS.bits6 : waitsOk laws_eqLayerS.T6.2 laws_eqLayerS.B6 = true := by kernel_rfl
set_option maxHeartbeats 8000000 in
set_option maxRecDepth 100000 in
theorem laws_eqLayerS.calls (k : Nat) (A0 : Option Addr) (c0 : Nat) (l0 : List (S49)) (A1 : Option Addr) (c1 : Nat) (l1 : List (S49)) (r : Bool) (w : World) (hr0 : Kd.C k49 w A0 l0.length l0) (hc0 : l0.length ≤ c0) (hr1 : Kd.C k49 w A1 l1.length l1) (hc1 : l1.length ≤ c1) (h : laws_eqLayerS.f k l0 l1 = some r) :
   Calls Tryd.prog 26 #[.slice A0 l0.length c0, .slice A1 l1.length c1] w fun e w' => e = .returned (.bool r) ∧ Below w.heap.size w w' := by
  have hu49 := Tryd.underlying49
  have HR0 := Aside0.mk hr0
  have HC0 := Aside0.mk hc0
  clear hr0 hc0
  have HR1 := Aside0.mk hr1
  have HC1 := Aside0.mk hc1
  clear hr1 hc1
  have HB := Aside0.mk (Below.refl w.heap.size w)
  have H : (if (l0.length : Int) = (l1.length : Int) then (laws_eqLayerS.l0 k l0 l1 0) else (some false)) = some r := h
  clear h
  by_cases c3 : (l0.length : Int) = (l1.length : Int)
  rotate_left
  ·rw [if_neg c3] at H
   have c3b0 : ((l0.length : Int) == (l1.length : Int)) = false := beq_eq_false_iff_ne.mpr c3
   have c3b1 : ((l0.length : Int) != (l1.length : Int)) = true := bne_iff_ne.mpr c3
   have c3b2 : (l0.length == l1.length) = false := by first | simpa using c3 | (simp at c3 ⊢; omega)
   obtain rfl := Option.some.inj H
   go_enter Tryd.func26, Tryd.ntmps26
   go_wp2
   go_ret
   exact ⟨eqN, bel_now⟩
  rw [if_pos c3] at H
  have c3b0 : ((l0.length : Int) == (l1.length : Int)) = true := beq_iff_eq.mpr c3
  have c3b1 : ((l0.length : Int) != (l1.length : Int)) = false := bne_eq_false_iff_eq.mpr c3
  have c3b2 : (l0.length == l1.length) = true := by first | simpa using c3 | (simp at c3 ⊢; omega)
  clear c3
  have H' := Aside0.mk H
  clear H
  go_enter Tryd.func26, Tryd.ntmps26
  go_wp2
  go_loopg [5] k (fun kq v5 w' => ∃ (x5_1 : Int), v5 = .int .i64 x5_1 ∧ Aside0 (laws_eqLayerS.l0 kq l0 l1 x5_1 = some r) ∧ Aside0 (kq ≤ k) ∧ Aside0 (Below w.heap.size w w'))
  case atStart => exact ⟨(0), (by first | rfl | (simp; done) | (simp [*]; done)), H', ⟨Nat.le_refl _⟩, ⟨bel_now⟩⟩
  case round =>
   clear H'
   try clear c1
   try clear c2
   try clear p2
   try clear c3
   try clear c3b0
   try clear c3b1
   try clear c3b2
   obtain ⟨x5_1, rfl, HA, HK1, HB⟩ := hrel
   cases gk with
   | zero => exact absurd HA.out (by simp [laws_eqLayerS.l0])
   | succ k1 =>
    have H := HA.out
    clear HA
    simp only [laws_eqLayerS.l0] at H
    by_cases c4 : x5_1 < (l0.length : Int)
    rotate_left
    ·rw [if_neg c4] at H
     have c4b0 : decide (x5_1 < (l0.length : Int)) = false := decide_eq_false c4
     clear c4
     obtain rfl := Option.some.inj H
     go_wp2
     go_ret
     exact ⟨eqN, bel_now⟩
    rw [if_pos c4] at H
    have c4b0 : decide (x5_1 < (l0.length : Int)) = true := decide_eq_true c4
    clear c4
    by_cases c5 : 0 ≤ x5_1
    rotate_left
    ·rw [if_neg c5] at H
     exact absurd H (by simp)
    rw [if_pos c5] at H
    have c5b0 : decide (0 ≤ x5_1) = true := decide_eq_true c5
    clear c5
    by_cases c6 : x5_1 < (l1.length : Int)
    rotate_left
    ·rw [if_neg c6] at H
     exact absurd H (by simp)
    rw [if_pos c6] at H
    have c6b0 : decide (x5_1 < (l1.length : Int)) = true := decide_eq_true c6
    clear c6
    replace H := Option.bind_eq_some_iff.mp H
    obtain ⟨t353, A70, H⟩ := H
    (try dsimp only at H)
    have A7 := Aside0.mk A70
    clear A70
    by_cases c8 : t353 = true
    rotate_left
    ·replace c8 := Bool.eq_false_iff.mpr c8
     subst c8
     rw [if_neg (show ¬ (false = true) by decide)] at H
     obtain rfl := Option.some.inj H
     try go_wp2
     replace HB := Aside0.mk (below_drew1 HB.out)
     have p351 : 0 ≤ (x5_1 : Int) := of_decide_eq_true (by first | (with_reducible assumption) | assumption)
     have q351 : x5_1 < (l0.length : Int) := of_decide_eq_true (by first | (with_reducible assumption) | assumption)
     obtain ⟨ad351, A351_7, c351_7, A351_8, c351_8, e351, hx351_0, hx351_1, hx351_2, hx351_3, hx351_4, hx351_5, hx351_6, hx351_7, hx351_8, hl351_7, hi351_7, hl351_8, hi351_8⟩ := at_T49 HR0.out x5_1 p351 q351
     have hw351_8 := hx351_8
     have hw351_7 := hx351_7
     have hw351_6 := hx351_6
     have hw351_5 := hx351_5
     have hw351_4 := hx351_4
     have hw351_3 := hx351_3
     have hw351_2 := hx351_2
     have hw351_1 := hx351_1
     have hw351_0 := hx351_0
     cases e351
     replace hx351_0 := (HB.out.cell (World.block_lt_of_cell? w _ hx351_0)).trans hx351_0
     replace hx351_1 := (HB.out.cell (World.block_lt_of_cell? w _ hx351_1)).trans hx351_1
     replace hx351_2 := (HB.out.cell (World.block_lt_of_cell? w _ hx351_2)).trans hx351_2
     replace hx351_3 := (HB.out.cell (World.block_lt_of_cell? w _ hx351_3)).trans hx351_3
     replace hx351_4 := (HB.out.cell (World.block_lt_of_cell? w _ hx351_4)).trans hx351_4
     replace hx351_5 := (HB.out.cell (World.block_lt_of_cell? w _ hx351_5)).trans hx351_5
     replace hx351_6 := (HB.out.cell (World.block_lt_of_cell? w _ hx351_6)).trans hx351_6
     replace hx351_7 := (HB.out.cell (World.block_lt_of_cell? w _ hx351_7)).trans hx351_7
     replace hx351_8 := (HB.out.cell (World.block_lt_of_cell? w _ hx351_8)).trans hx351_8
     have HR351_7 := Aside0.mk hi351_7
     have HC351_7 := Aside0.mk hl351_7
     clear hi351_7 hl351_7
     have HR351_8 := Aside0.mk hi351_8
     have HC351_8 := Aside0.mk hl351_8
     clear hi351_8 hl351_8
     replace p351 := eq_true p351
     replace q351 := eq_true q351
     have p352 : 0 ≤ (x5_1 : Int) := of_decide_eq_true (by first | (with_reducible assumption) | assumption)
     have q352 : x5_1 < (l1.length : Int) := of_decide_eq_true (by first | (with_reducible assumption) | assumption)
     obtain ⟨ad352, A352_7, c352_7, A352_8, c352_8, e352, hx352_0, hx352_1, hx352_2, hx352_3, hx352_4, hx352_5, hx352_6, hx352_7, hx352_8, hl352_7, hi352_7, hl352_8, hi352_8⟩ := at_T49 HR1.out x5_1 p352 q352
     have hw352_8 := hx352_8
     have hw352_7 := hx352_7
     have hw352_6 := hx352_6
     have hw352_5 := hx352_5
     have hw352_4 := hx352_4
     have hw352_3 := hx352_3
     have hw352_2 := hx352_2
     have hw352_1 := hx352_1
     have hw352_0 := hx352_0
     cases e352
     replace hx352_0 := (HB.out.cell (World.block_lt_of_cell? w _ hx352_0)).trans hx352_0
     replace hx352_1 := (HB.out.cell (World.block_lt_of_cell? w _ hx352_1)).trans hx352_1
     replace hx352_2 := (HB.out.cell (World.block_lt_of_cell? w _ hx352_2)).trans hx352_2
     replace hx352_3 := (HB.out.cell (World.block_lt_of_cell? w _ hx352_3)).trans hx352_3
     replace hx352_4 := (HB.out.cell (World.block_lt_of_cell? w _ hx352_4)).trans hx352_4
     replace hx352_5 := (HB.out.cell (World.block_lt_of_cell? w _ hx352_5)).trans hx352_5
     replace hx352_6 := (HB.out.cell (World.block_lt_of_cell? w _ hx352_6)).trans hx352_6
     replace hx352_7 := (HB.out.cell (World.block_lt_of_cell? w _ hx352_7)).trans hx352_7
     replace hx352_8 := (HB.out.cell (World.block_lt_of_cell? w _ hx352_8)).trans hx352_8
     have HR352_7 := Aside0.mk hi352_7
     have HC352_7 := Aside0.mk hl352_7
     clear hi352_7 hl352_7
     have HR352_8 := Aside0.mk hi352_8
     have HC352_8 := Aside0.mk hl352_8
     clear hi352_8 hl352_8
     replace p352 := eq_true p352
     replace q352 := eq_true q352
     refine start_ (n := 10) (S := fun w' => w'.cell? (ad351.add ((x5_1).toNat * 9)) = some (.int .i64 ((rd_T49 l0 x5_1).f0)) ∧ w'.cell? ⟨(ad351.add ((x5_1).toNat * 9)).block, (ad351.add ((x5_1).toNat * 9)).off + 1, none⟩ = some (.int .i64 ((rd_T49 l0 x5_1).f1)) ∧ w'.cell? ⟨(ad351.add ((x5_1).toNat * 9)).block, (ad351.add ((x5_1).toNat * 9)).off + 2, none⟩ = some (.int .i64 ((rd_T49 l0 x5_1).f2)) ∧ w'.cell? ⟨(ad351.add ((x5_1).toNat * 9)).block, (ad351.add ((x5_1).toNat * 9)).off + 3, none⟩ = some (.int .i64 ((rd_T49 l0 x5_1).f3)) ∧ w'.cell? ⟨(ad351.add ((x5_1).toNat * 9)).block, (ad351.add ((x5_1).toNat * 9)).off + 4, none⟩ = some (.int .i64 ((rd_T49 l0 x5_1).f4)) ∧ w'.cell? ⟨(ad351.add ((x5_1).toNat * 9)).block, (ad351.add ((x5_1).toNat * 9)).off + 5, none⟩ = some (.int .i64 ((rd_T49 l0 x5_1).f5)) ∧ w'.cell? ⟨(ad351.add ((x5_1).toNat * 9)).block, (ad351.add ((x5_1).toNat * 9)).off + 6, none⟩ = some (.int .i64 ((rd_T49 l0 x5_1).f6)) ∧ w'.cell? ⟨(ad351.add ((x5_1).toNat * 9)).block, (ad351.add ((x5_1).toNat * 9)).off + 7, none⟩ = some (.slice A351_7 ((rd_T49 l0 x5_1).f7).length c351_7) ∧ w'.cell? ⟨(ad351.add ((x5_1).toNat * 9)).block, (ad351.add ((x5_1).toNat * 9)).off + 8, none⟩ = some (.slice A351_8 ((rd_T49 l0 x5_1).f8).length c351_8) ∧ w'.cell? (ad352.add ((x5_1).toNat * 9)) = some (.int .i64 ((rd_T49 l1 x5_1).f0)) ∧ w'.cell? ⟨(ad352.add ((x5_1).toNat * 9)).block, (ad352.add ((x5_1).toNat * 9)).off + 1, none⟩ = some (.int .i64 ((rd_T49 l1 x5_1).f1)) ∧ w'.cell? ⟨(ad352.add ((x5_1).toNat * 9)).block, (ad352.add ((x5_1).toNat * 9)).off + 2, none⟩ = some (.int .i64 ((rd_T49 l1 x5_1).f2)) ∧ w'.cell? ⟨(ad352.add ((x5_1).toNat * 9)).block, (ad352.add ((x5_1).toNat * 9)).off + 3, none⟩ = some (.int .i64 ((rd_T49 l1 x5_1).f3)) ∧ w'.cell? ⟨(ad352.add ((x5_1).toNat * 9)).block, (ad352.add ((x5_1).toNat * 9)).off + 4, none⟩ = some (.int .i64 ((rd_T49 l1 x5_1).f4)) ∧ w'.cell? ⟨(ad352.add ((x5_1).toNat * 9)).block, (ad352.add ((x5_1).toNat * 9)).off + 5, none⟩ = some (.int .i64 ((rd_T49 l1 x5_1).f5)) ∧ w'.cell? ⟨(ad352.add ((x5_1).toNat * 9)).block, (ad352.add ((x5_1).toNat * 9)).off + 6, none⟩ = some (.int .i64 ((rd_T49 l1 x5_1).f6)) ∧ w'.cell? ⟨(ad352.add ((x5_1).toNat * 9)).block, (ad352.add ((x5_1).toNat * 9)).off + 7, none⟩ = some (.slice A352_7 ((rd_T49 l1 x5_1).f7).length c352_7) ∧ w'.cell? ⟨(ad352.add ((x5_1).toNat * 9)).block, (ad352.add ((x5_1).toNat * 9)).off + 8, none⟩ = some (.slice A352_8 ((rd_T49 l1 x5_1).f8).length c352_8)) (ds := []) #[O, O, O, O, O, O, O, O, O, O] (by kernel_rfl) rfl rfl ⟨((HB.out.cell (World.block_lt_of_cell? w _ hw351_0)).trans hw351_0), ((HB.out.cell (World.block_lt_of_cell? w _ hw351_1)).trans hw351_1), ((HB.out.cell (World.block_lt_of_cell? w _ hw351_2)).trans hw351_2), ((HB.out.cell (World.block_lt_of_cell? w _ hw351_3)).trans hw351_3), ((HB.out.cell (World.block_lt_of_cell? w _ hw351_4)).trans hw351_4), ((HB.out.cell (World.block_lt_of_cell? w _ hw351_5)).trans hw351_5), ((HB.out.cell (World.block_lt_of_cell? w _ hw351_6)).trans hw351_6), ((HB.out.cell (World.block_lt_of_cell? w _ hw351_7)).trans hw351_7), ((HB.out.cell (World.block_lt_of_cell? w _ hw351_8)).trans hw351_8), ((HB.out.cell (World.block_lt_of_cell? w _ hw352_0)).trans hw352_0), ((HB.out.cell (World.block_lt_of_cell? w _ hw352_1)).trans hw352_1), ((HB.out.cell (World.block_lt_of_cell? w _ hw352_2)).trans hw352_2), ((HB.out.cell (World.block_lt_of_cell? w _ hw352_3)).trans hw352_3), ((HB.out.cell (World.block_lt_of_cell? w _ hw352_4)).trans hw352_4), ((HB.out.cell (World.block_lt_of_cell? w _ hw352_5)).trans hw352_5), ((HB.out.cell (World.block_lt_of_cell? w _ hw352_6)).trans hw352_6), ((HB.out.cell (World.block_lt_of_cell? w _ hw352_7)).trans hw352_7), ((HB.out.cell (World.block_lt_of_cell? w _ hw352_8)).trans hw352_8)⟩ (fun hHeld => ?_); refine with_tabW laws_eqLayerS.tab6 laws_eqLayerS.bits6 (fun HT_ HW_ => ?_)
     generalize wr.drew = w11 at HB HR351_7 HR351_8 HR352_7 HR352_8 hx351_0 hx351_1 hx351_2 hx351_3 hx351_4 hx351_5 hx351_6 hx351_7 hx351_8 hx352_0 hx352_1 hx352_2 hx352_3 hx352_4 hx352_5 hx352_6 hx352_7 hx352_8 hHeld ⊢
     refine stepP 0 (some 17) (tk 10 1) (any_of HT_.out (by kernel_rfl)) ?_
     refine stepP 1 (some 18) (tk 10 3) (any_of HT_.out (by kernel_rfl)) ?_
     refine stepP 2 (some 19) (tk 10 7) (any_of HT_.out (by kernel_rfl)) ?_
     refine stepP 4 (some 21) (tk 10 23) (any_of HT_.out (by kernel_rfl)) ?_
     refine stepP 5 (some 22) (tk 10 55) (any_of HT_.out (by kernel_rfl)) ?_
     refine stepP 6 (some 23) (tk 10 119) (any_of HT_.out (by kernel_rfl)) ?_
     refine stepT 3 (some 20) (tk 10 127) (take_ofW HT_.out HW_.out (by kernel_rfl)) hHeld ?_
     refine stepT 7 (some 24) (tk 10 255) (take_ofW HT_.out HW_.out (by kernel_rfl)) hHeld ?_
     refine one_ (i := 8) (N := some 25) #[I, I, I, I, I, I, I, I, I, O] rfl rfl (one_of HT_.out (by kernel_rfl)) (by decide) (fun K hK => ?_)
     refine goes_ Tryd.func49 (by kernel_rfl) rfl #[.agg #[.int .i64 ((rd_T49 l0 x5_1).f0), .int .i64 ((rd_T49 l0 x5_1).f1), .int .i64 ((rd_T49 l0 x5_1).f2), .int .i64 ((rd_T49 l0 x5_1).f3), .int .i64 ((rd_T49 l0 x5_1).f4), .int .i64 ((rd_T49 l0 x5_1).f5), .int .i64 ((rd_T49 l0 x5_1).f6), .slice A351_7 ((rd_T49 l0 x5_1).f7).length c351_7, .slice A351_8 ((rd_T49 l0 x5_1).f8).length c351_8], .agg #[.int .i64 ((rd_T49 l1 x5_1).f0), .int .i64 ((rd_T49 l1 x5_1).f1), .int .i64 ((rd_T49 l1 x5_1).f2), .int .i64 ((rd_T49 l1 x5_1).f3), .int .i64 ((rd_T49 l1 x5_1).f4), .int .i64 ((rd_T49 l1 x5_1).f5), .int .i64 ((rd_T49 l1 x5_1).f6), .slice A352_7 ((rd_T49 l1 x5_1).f7).length c352_7, .slice A352_8 ((rd_T49 l1 x5_1).f8).length c352_8]] (by rfl) rfl rfl (by (try simp only [List.map_toArray, List.map_cons, List.map_nil]); first | done | rfl | (simp only [List.length_drop, List.length_take]; rfl)) ?_
     with_reducible refine (laws_eqLayer.calls k1 ((rd_T49 l0 x5_1).f0) ((rd_T49 l0 x5_1).f1) ((rd_T49 l0 x5_1).f2) ((rd_T49 l0 x5_1).f3) ((rd_T49 l0 x5_1).f4) ((rd_T49 l0 x5_1).f5) ((rd_T49 l0 x5_1).f6) _ _ ((rd_T49 l0 x5_1).f7) _ _ ((rd_T49 l0 x5_1).f8) ((rd_T49 l1 x5_1).f0) ((rd_T49 l1 x5_1).f1) ((rd_T49 l1 x5_1).f2) ((rd_T49 l1 x5_1).f3) ((rd_T49 l1 x5_1).f4) ((rd_T49 l1 x5_1).f5) ((rd_T49 l1 x5_1).f6) _ _ ((rd_T49 l1 x5_1).f7) _ _ ((rd_T49 l1 x5_1).f8) false _ ?side1 ?side2 ?side3 ?side4 ?side5 ?side6 ?side7 ?side8 A7.out).mono ?_
     (case side1 => exact C_now HR351_7.out)
     (case side2 => exact HC351_7.out)
     (case side3 => exact C_now HR351_8.out)
     (case side4 => exact HC351_8.out)
     (case side5 => exact C_now HR352_7.out)
     (case side6 => exact HC352_7.out)
     (case side7 => exact C_now HR352_8.out)
     (case side8 => exact HC352_8.out)
     rintro e w12 ⟨rfl, hb⟩
     refine ⟨_, rfl, ?_⟩
     replace HB := bel_on w hb
     (try clear hb)
     refine hK.out _ _ ⟨((HB.out.cell (World.block_lt_of_cell? w _ hw351_0)).trans hw351_0), ((HB.out.cell (World.block_lt_of_cell? w _ hw351_1)).trans hw351_1), ((HB.out.cell (World.block_lt_of_cell? w _ hw351_2)).trans hw351_2), ((HB.out.cell (World.block_lt_of_cell? w _ hw351_3)).trans hw351_3), ((HB.out.cell (World.block_lt_of_cell? w _ hw351_4)).trans hw351_4), ((HB.out.cell (World.block_lt_of_cell? w _ hw351_5)).trans hw351_5), ((HB.out.cell (World.block_lt_of_cell? w _ hw351_6)).trans hw351_6), ((HB.out.cell (World.block_lt_of_cell? w _ hw351_7)).trans hw351_7), ((HB.out.cell (World.block_lt_of_cell? w _ hw351_8)).trans hw351_8), ((HB.out.cell (World.block_lt_of_cell? w _ hw352_0)).trans hw352_0), ((HB.out.cell (World.block_lt_of_cell? w _ hw352_1)).trans hw352_1), ((HB.out.cell (World.block_lt_of_cell? w _ hw352_2)).trans hw352_2), ((HB.out.cell (World.block_lt_of_cell? w _ hw352_3)).trans hw352_3), ((HB.out.cell (World.block_lt_of_cell? w _ hw352_4)).trans hw352_4), ((HB.out.cell (World.block_lt_of_cell? w _ hw352_5)).trans hw352_5), ((HB.out.cell (World.block_lt_of_cell? w _ hw352_6)).trans hw352_6), ((HB.out.cell (World.block_lt_of_cell? w _ hw352_7)).trans hw352_7), ((HB.out.cell (World.block_lt_of_cell? w _ hw352_8)).trans hw352_8)⟩ (fun hHeld => ?_)
     clear hK K
     refine normP 25 ?_
     refine stepP 9 (some 26) (tk 10 1023) (any_of HT_.out (by kernel_rfl)) ?_
     refine done_ (done_of HT_.out (by kernel_rfl)) ?_
     try go_wp2
     go_ret
     exact ⟨eqN, bel_now⟩
    subst c8
    rw [if_pos rfl] at H
    have H' := Aside0.mk H
    clear H
    try go_wp2
    replace HB := Aside0.mk (below_drew1 HB.out)
    have p351 : 0 ≤ (x5_1 : Int) := of_decide_eq_true (by first | (with_reducible assumption) | assumption)
    have q351 : x5_1 < (l0.length : Int) := of_decide_eq_true (by first | (with_reducible assumption) | assumption)
    obtain ⟨ad351, A351_7, c351_7, A351_8, c351_8, e351, hx351_0, hx351_1, hx351_2, hx351_3, hx351_4, hx351_5, hx351_6, hx351_7, hx351_8, hl351_7, hi351_7, hl351_8, hi351_8⟩ := at_T49 HR0.out x5_1 p351 q351
    have hw351_8 := hx351_8
    have hw351_7 := hx351_7
    have hw351_6 := hx351_6
    have hw351_5 := hx351_5
    have hw351_4 := hx351_4
    have hw351_3 := hx351_3
    have hw351_2 := hx351_2
    have hw351_1 := hx351_1
    have hw351_0 := hx351_0
    cases e351
    replace hx351_0 := (HB.out.cell (World.block_lt_of_cell? w _ hx351_0)).trans hx351_0
    replace hx351_1 := (HB.out.cell (World.block_lt_of_cell? w _ hx351_1)).trans hx351_1
    replace hx351_2 := (HB.out.cell (World.block_lt_of_cell? w _ hx351_2)).trans hx351_2
    replace hx351_3 := (HB.out.cell (World.block_lt_of_cell? w _ hx351_3)).trans hx351_3
    replace hx351_4 := (HB.out.cell (World.block_lt_of_cell? w _ hx351_4)).trans hx351_4
    replace hx351_5 := (HB.out.cell (World.block_lt_of_cell? w _ hx351_5)).trans hx351_5
    replace hx351_6 := (HB.out.cell (World.block_lt_of_cell? w _ hx351_6)).trans hx351_6
    replace hx351_7 := (HB.out.cell (World.block_lt_of_cell? w _ hx351_7)).trans hx351_7
    replace hx351_8 := (HB.out.cell (World.block_lt_of_cell? w _ hx351_8)).trans hx351_8
    have HR351_7 := Aside0.mk hi351_7
    have HC351_7 := Aside0.mk hl351_7
    clear hi351_7 hl351_7
    have HR351_8 := Aside0.mk hi351_8
    have HC351_8 := Aside0.mk hl351_8
    clear hi351_8 hl351_8
    replace p351 := eq_true p351
    replace q351 := eq_true q351
    have p352 : 0 ≤ (x5_1 : Int) := of_decide_eq_true (by first | (with_reducible assumption) | assumption)
    have q352 : x5_1 < (l1.length : Int) := of_decide_eq_true (by first | (with_reducible assumption) | assumption)
    obtain ⟨ad352, A352_7, c352_7, A352_8, c352_8, e352, hx352_0, hx352_1, hx352_2, hx352_3, hx352_4, hx352_5, hx352_6, hx352_7, hx352_8, hl352_7, hi352_7, hl352_8, hi352_8⟩ := at_T49 HR1.out x5_1 p352 q352
    have hw352_8 := hx352_8
    have hw352_7 := hx352_7
    have hw352_6 := hx352_6
    have hw352_5 := hx352_5
    have hw352_4 := hx352_4
    have hw352_3 := hx352_3
    have hw352_2 := hx352_2
    have hw352_1 := hx352_1
    have hw352_0 := hx352_0
    cases e352
    replace hx352_0 := (HB.out.cell (World.block_lt_of_cell? w _ hx352_0)).trans hx352_0
    replace hx352_1 := (HB.out.cell (World.block_lt_of_cell? w _ hx352_1)).trans hx352_1
    replace hx352_2 := (HB.out.cell (World.block_lt_of_cell? w _ hx352_2)).trans hx352_2
    replace hx352_3 := (HB.out.cell (World.block_lt_of_cell? w _ hx352_3)).trans hx352_3
    replace hx352_4 := (HB.out.cell (World.block_lt_of_cell? w _ hx352_4)).trans hx352_4
    replace hx352_5 := (HB.out.cell (World.block_lt_of_cell? w _ hx352_5)).trans hx352_5
    replace hx352_6 := (HB.out.cell (World.block_lt_of_cell? w _ hx352_6)).trans hx352_6
    replace hx352_7 := (HB.out.cell (World.block_lt_of_cell? w _ hx352_7)).trans hx352_7
    replace hx352_8 := (HB.out.cell (World.block_lt_of_cell? w _ hx352_8)).trans hx352_8
    have HR352_7 := Aside0.mk hi352_7
    have HC352_7 := Aside0.mk hl352_7
    clear hi352_7 hl352_7
    have HR352_8 := Aside0.mk hi352_8
    have HC352_8 := Aside0.mk hl352_8
    clear hi352_8 hl352_8
    replace p352 := eq_true p352
    replace q352 := eq_true q352
    refine start_ (n := 10) (S := fun w' => w'.cell? (ad351.add ((x5_1).toNat * 9)) = some (.int .i64 ((rd_T49 l0 x5_1).f0)) ∧ w'.cell? ⟨(ad351.add ((x5_1).toNat * 9)).block, (ad351.add ((x5_1).toNat * 9)).off + 1, none⟩ = some (.int .i64 ((rd_T49 l0 x5_1).f1)) ∧ w'.cell? ⟨(ad351.add ((x5_1).toNat * 9)).block, (ad351.add ((x5_1).toNat * 9)).off + 2, none⟩ = some (.int .i64 ((rd_T49 l0 x5_1).f2)) ∧ w'.cell? ⟨(ad351.add ((x5_1).toNat * 9)).block, (ad351.add ((x5_1).toNat * 9)).off + 3, none⟩ = some (.int .i64 ((rd_T49 l0 x5_1).f3)) ∧ w'.cell? ⟨(ad351.add ((x5_1).toNat * 9)).block, (ad351.add ((x5_1).toNat * 9)).off + 4, none⟩ = some (.int .i64 ((rd_T49 l0 x5_1).f4)) ∧ w'.cell? ⟨(ad351.add ((x5_1).toNat * 9)).block, (ad351.add ((x5_1).toNat * 9)).off + 5, none⟩ = some (.int .i64 ((rd_T49 l0 x5_1).f5)) ∧ w'.cell? ⟨(ad351.add ((x5_1).toNat * 9)).block, (ad351.add ((x5_1).toNat * 9)).off + 6, none⟩ = some (.int .i64 ((rd_T49 l0 x5_1).f6)) ∧ w'.cell? ⟨(ad351.add ((x5_1).toNat * 9)).block, (ad351.add ((x5_1).toNat * 9)).off + 7, none⟩ = some (.slice A351_7 ((rd_T49 l0 x5_1).f7).length c351_7) ∧ w'.cell? ⟨(ad351.add ((x5_1).toNat * 9)).block, (ad351.add ((x5_1).toNat * 9)).off + 8, none⟩ = some (.slice A351_8 ((rd_T49 l0 x5_1).f8).length c351_8) ∧ w'.cell? (ad352.add ((x5_1).toNat * 9)) = some (.int .i64 ((rd_T49 l1 x5_1).f0)) ∧ w'.cell? ⟨(ad352.add ((x5_1).toNat * 9)).block, (ad352.add ((x5_1).toNat * 9)).off + 1, none⟩ = some (.int .i64 ((rd_T49 l1 x5_1).f1)) ∧ w'.cell? ⟨(ad352.add ((x5_1).toNat * 9)).block, (ad352.add ((x5_1).toNat * 9)).off + 2, none⟩ = some (.int .i64 ((rd_T49 l1 x5_1).f2)) ∧ w'.cell? ⟨(ad352.add ((x5_1).toNat * 9)).block, (ad352.add ((x5_1).toNat * 9)).off + 3, none⟩ = some (.int .i64 ((rd_T49 l1 x5_1).f3)) ∧ w'.cell? ⟨(ad352.add ((x5_1).toNat * 9)).block, (ad352.add ((x5_1).toNat * 9)).off + 4, none⟩ = some (.int .i64 ((rd_T49 l1 x5_1).f4)) ∧ w'.cell? ⟨(ad352.add ((x5_1).toNat * 9)).block, (ad352.add ((x5_1).toNat * 9)).off + 5, none⟩ = some (.int .i64 ((rd_T49 l1 x5_1).f5)) ∧ w'.cell? ⟨(ad352.add ((x5_1).toNat * 9)).block, (ad352.add ((x5_1).toNat * 9)).off + 6, none⟩ = some (.int .i64 ((rd_T49 l1 x5_1).f6)) ∧ w'.cell? ⟨(ad352.add ((x5_1).toNat * 9)).block, (ad352.add ((x5_1).toNat * 9)).off + 7, none⟩ = some (.slice A352_7 ((rd_T49 l1 x5_1).f7).length c352_7) ∧ w'.cell? ⟨(ad352.add ((x5_1).toNat * 9)).block, (ad352.add ((x5_1).toNat * 9)).off + 8, none⟩ = some (.slice A352_8 ((rd_T49 l1 x5_1).f8).length c352_8)) (ds := []) #[O, O, O, O, O, O, O, O, O, O] (by kernel_rfl) rfl rfl ⟨((HB.out.cell (World.block_lt_of_cell? w _ hw351_0)).trans hw351_0), ((HB.out.cell (World.block_lt_of_cell? w _ hw351_1)).trans hw351_1), ((HB.out.cell (World.block_lt_of_cell? w _ hw351_2)).trans hw351_2), ((HB.out.cell (World.block_lt_of_cell? w _ hw351_3)).trans hw351_3), ((HB.out.cell (World.block_lt_of_cell? w _ hw351_4)).trans hw351_4), ((HB.out.cell (World.block_lt_of_cell? w _ hw351_5)).trans hw351_5), ((HB.out.cell (World.block_lt_of_cell? w _ hw351_6)).trans hw351_6), ((HB.out.cell (World.block_lt_of_cell? w _ hw351_7)).trans hw351_7), ((HB.out.cell (World.block_lt_of_cell? w _ hw351_8)).trans hw351_8), ((HB.out.cell (World.block_lt_of_cell? w _ hw352_0)).trans hw352_0), ((HB.out.cell (World.block_lt_of_cell? w _ hw352_1)).trans hw352_1), ((HB.out.cell (World.block_lt_of_cell? w _ hw352_2)).trans hw352_2), ((HB.out.cell (World.block_lt_of_cell? w _ hw352_3)).trans hw352_3), ((HB.out.cell (World.block_lt_of_cell? w _ hw352_4)).trans hw352_4), ((HB.out.cell (World.block_lt_of_cell? w _ hw352_5)).trans hw352_5), ((HB.out.cell (World.block_lt_of_cell? w _ hw352_6)).trans hw352_6), ((HB.out.cell (World.block_lt_of_cell? w _ hw352_7)).trans hw352_7), ((HB.out.cell (World.block_lt_of_cell? w _ hw352_8)).trans hw352_8)⟩ (fun hHeld => ?_); refine with_tabW laws_eqLayerS.tab6 laws_eqLayerS.bits6 (fun HT_ HW_ => ?_)
    generalize wr.drew = w9 at HB HR351_7 HR351_8 HR352_7 HR352_8 hx351_0 hx351_1 hx351_2 hx351_3 hx351_4 hx351_5 hx351_6 hx351_7 hx351_8 hx352_0 hx352_1 hx352_2 hx352_3 hx352_4 hx352_5 hx352_6 hx352_7 hx352_8 hHeld ⊢
    refine stepP 0 (some 17) (tk 10 1) (any_of HT_.out (by kernel_rfl)) ?_
    refine stepP 1 (some 18) (tk 10 3) (any_of HT_.out (by kernel_rfl)) ?_
    refine stepP 2 (some 19) (tk 10 7) (any_of HT_.out (by kernel_rfl)) ?_
    refine stepP 4 (some 21) (tk 10 23) (any_of HT_.out (by kernel_rfl)) ?_
    refine stepP 5 (some 22) (tk 10 55) (any_of HT_.out (by kernel_rfl)) ?_
    refine stepP 6 (some 23) (tk 10 119) (any_of HT_.out (by kernel_rfl)) ?_
    refine stepT 3 (some 20) (tk 10 127) (take_ofW HT_.out HW_.out (by kernel_rfl)) hHeld ?_
    refine stepT 7 (some 24) (tk 10 255) (take_ofW HT_.out HW_.out (by kernel_rfl)) hHeld ?_
    refine one_ (i := 8) (N := some 25) #[I, I, I, I, I, I, I, I, I, O] rfl rfl (one_of HT_.out (by kernel_rfl)) (by decide) (fun K hK => ?_)
    refine goes_ Tryd.func49 (by kernel_rfl) rfl #[.agg #[.int .i64 ((rd_T49 l0 x5_1).f0), .int .i64 ((rd_T49 l0 x5_1).f1), .int .i64 ((rd_T49 l0 x5_1).f2), .int .i64 ((rd_T49 l0 x5_1).f3), .int .i64 ((rd_T49 l0 x5_1).f4), .int .i64 ((rd_T49 l0 x5_1).f5), .int .i64 ((rd_T49 l0 x5_1).f6), .slice A351_7 ((rd_T49 l0 x5_1).f7).length c351_7, .slice A351_8 ((rd_T49 l0 x5_1).f8).length c351_8], .agg #[.int .i64 ((rd_T49 l1 x5_1).f0), .int .i64 ((rd_T49 l1 x5_1).f1), .int .i64 ((rd_T49 l1 x5_1).f2), .int .i64 ((rd_T49 l1 x5_1).f3), .int .i64 ((rd_T49 l1 x5_1).f4), .int .i64 ((rd_T49 l1 x5_1).f5), .int .i64 ((rd_T49 l1 x5_1).f6), .slice A352_7 ((rd_T49 l1 x5_1).f7).length c352_7, .slice A352_8 ((rd_T49 l1 x5_1).f8).length c352_8]] (by rfl) rfl rfl (by (try simp only [List.map_toArray, List.map_cons, List.map_nil]); first | done | rfl | (simp only [List.length_drop, List.length_take]; rfl)) ?_
    with_reducible refine (laws_eqLayer.calls k1 ((rd_T49 l0 x5_1).f0) ((rd_T49 l0 x5_1).f1) ((rd_T49 l0 x5_1).f2) ((rd_T49 l0 x5_1).f3) ((rd_T49 l0 x5_1).f4) ((rd_T49 l0 x5_1).f5) ((rd_T49 l0 x5_1).f6) _ _ ((rd_T49 l0 x5_1).f7) _ _ ((rd_T49 l0 x5_1).f8) ((rd_T49 l1 x5_1).f0) ((rd_T49 l1 x5_1).f1) ((rd_T49 l1 x5_1).f2) ((rd_T49 l1 x5_1).f3) ((rd_T49 l1 x5_1).f4) ((rd_T49 l1 x5_1).f5) ((rd_T49 l1 x5_1).f6) _ _ ((rd_T49 l1 x5_1).f7) _ _ ((rd_T49 l1 x5_1).f8) true _ ?side1 ?side2 ?side3 ?side4 ?side5 ?side6 ?side7 ?side8 A7.out).mono ?_
    (case side1 => exact C_now HR351_7.out)
    (case side2 => exact HC351_7.out)
    (case side3 => exact C_now HR351_8.out)
    (case side4 => exact HC351_8.out)
    (case side5 => exact C_now HR352_7.out)
    (case side6 => exact HC352_7.out)
    (case side7 => exact C_now HR352_8.out)
    (case side8 => exact HC352_8.out)
    rintro e w10 ⟨rfl, hb⟩
    refine ⟨_, rfl, ?_⟩
    replace HB := bel_on w hb
    (try clear hb)
    refine hK.out _ _ ⟨((HB.out.cell (World.block_lt_of_cell? w _ hw351_0)).trans hw351_0), ((HB.out.cell (World.block_lt_of_cell? w _ hw351_1)).trans hw351_1), ((HB.out.cell (World.block_lt_of_cell? w _ hw351_2)).trans hw351_2), ((HB.out.cell (World.block_lt_of_cell? w _ hw351_3)).trans hw351_3), ((HB.out.cell (World.block_lt_of_cell? w _ hw351_4)).trans hw351_4), ((HB.out.cell (World.block_lt_of_cell? w _ hw351_5)).trans hw351_5), ((HB.out.cell (World.block_lt_of_cell? w _ hw351_6)).trans hw351_6), ((HB.out.cell (World.block_lt_of_cell? w _ hw351_7)).trans hw351_7), ((HB.out.cell (World.block_lt_of_cell? w _ hw351_8)).trans hw351_8), ((HB.out.cell (World.block_lt_of_cell? w _ hw352_0)).trans hw352_0), ((HB.out.cell (World.block_lt_of_cell? w _ hw352_1)).trans hw352_1), ((HB.out.cell (World.block_lt_of_cell? w _ hw352_2)).trans hw352_2), ((HB.out.cell (World.block_lt_of_cell? w _ hw352_3)).trans hw352_3), ((HB.out.cell (World.block_lt_of_cell? w _ hw352_4)).trans hw352_4), ((HB.out.cell (World.block_lt_of_cell? w _ hw352_5)).trans hw352_5), ((HB.out.cell (World.block_lt_of_cell? w _ hw352_6)).trans hw352_6), ((HB.out.cell (World.block_lt_of_cell? w _ hw352_7)).trans hw352_7), ((HB.out.cell (World.block_lt_of_cell? w _ hw352_8)).trans hw352_8)⟩ (fun hHeld => ?_)
    clear hK K
    refine normP 25 ?_
    refine stepP 9 (some 26) (tk 10 1023) (any_of HT_.out (by kernel_rfl)) ?_
    refine done_ (done_of HT_.out (by kernel_rfl)) ?_
    try go_wp2
    go_roundg k1
    case measure => have := HK1.out; omega
    case rel => exact ⟨(wrap64 (x5_1 + 1)), (by first | rfl | (simp; done) | (simp [*]; done)), H', ⟨by have := HK1.out; omega⟩, ⟨bel_now⟩⟩

end Go.Proofs.YtclpojeofclbjaaDoor.PFnExactModelText
