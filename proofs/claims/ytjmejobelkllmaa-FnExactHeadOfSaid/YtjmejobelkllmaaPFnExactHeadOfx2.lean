-- Printed by the session's own program (wip/myprint.py) for this claim out of the translation. Not trusted: Lean checks it.
import Derived.Test.YtjmejobelkllmaaPFnExactHeadOfx0
import Derived.Test.YtjmejobelkllmaaPFnExactHeadOfx1
namespace Go.Proofs.Ytjmejobelkllmaa.PFnExactHeadOf
open Go.RowKit Go.Proofs.YtjmejobelkllmaaW.PrintWords Go.Proofs.YtjmejobelkllmaaW.PrintLast Go.Proofs.YtjmejobelkllmaaW.PrintMore
attribute [local go_sem] max2_int min2_int max_two min_two max_three min_three max_four min_four   -- for this text's walks alone
set_option linter.unusedVariables false
set_option linter.unusedSimpArgs false

/-! ### bytes_HasPrefix: function 25 -/
def bytes_HasPrefix.f (l0 : List Int) (l1 : List Int) : Option (Bool) := if (l0.length : Int) ≥ (l1.length : Int) then (if 0 ≤ (l1.length : Int) then (if (l1.length : Int) ≤ (l0.length : Int) then ((bytes_Equal.f (l0.take ((l1.length : Int) : Int).toNat) l1).bind fun t129 => (some t129)) else (none)) else (none)) else (some false)
set_option maxHeartbeats 8000000 in
set_option maxRecDepth 100000 in
theorem bytes_HasPrefix.calls (A0 : Option Addr) (c0 : Nat) (l0 : List Int) (A1 : Option Addr) (c1 : Nat) (l1 : List Int) (r : Bool) (w : World) (hr0 : Kd.C (Kd.int .u8) w A0 l0.length l0) (hc0 : l0.length ≤ c0) (hr1 : Kd.C (Kd.int .u8) w A1 l1.length l1) (hc1 : l1.length ≤ c1) (h : bytes_HasPrefix.f l0 l1 = some r) :
   Calls Try.prog 25 #[.slice A0 l0.length c0, .slice A1 l1.length c1] w fun e w' => e = .returned (.bool r) ∧ Drawn0 w w' := by
  have HR0 := Aside0.mk hr0
  have HC0 := Aside0.mk hc0
  clear hr0 hc0
  have HR1 := Aside0.mk hr1
  have HC1 := Aside0.mk hc1
  clear hr1 hc1
  have H : (if (l0.length : Int) ≥ (l1.length : Int) then (if 0 ≤ (l1.length : Int) then (if (l1.length : Int) ≤ (l0.length : Int) then ((bytes_Equal.f (l0.take ((l1.length : Int) : Int).toNat) l1).bind fun t129 => (some t129)) else (none)) else (none)) else (some false)) = some r := h
  clear h
  by_cases c3 : (l0.length : Int) ≥ (l1.length : Int)
  rotate_left
  ·rw [if_neg c3] at H
   have c3b0 : decide ((l1.length : Int) ≤ (l0.length : Int)) = false := decide_eq_false c3
   have c3b1 : decide (l1.length ≤ l0.length) = false := decide_eq_false (fun h => c3 (Int.ofNat_le.mpr h))
   clear c3
   obtain rfl := Option.some.inj H
   go_enter Try.func25, Try.ntmps25
   go_wp2
   go_ret
   exact ⟨by first | rfl | (simp; done) | (simp [*]; done), by repeat (first | exact Drawn0.refl _ | apply Drawn0.step)⟩
  rw [if_pos c3] at H
  have c3b0 : decide ((l1.length : Int) ≤ (l0.length : Int)) = true := decide_eq_true c3
  have c3b1 : decide (l1.length ≤ l0.length) = true := decide_eq_true (Int.ofNat_le.mp c3)
  clear c3
  by_cases c4 : 0 ≤ (l1.length : Int)
  rotate_left
  ·rw [if_neg c4] at H
   exact absurd H (by simp)
  rw [if_pos c4] at H
  have c4b0 := eq_true c4
  have c4b1 : decide (0 ≤ (l1.length : Int)) = true := decide_eq_true c4
  clear c4
  by_cases c5 : (l1.length : Int) ≤ (l0.length : Int)
  rotate_left
  ·rw [if_neg c5] at H
   exact absurd H (by simp)
  rw [if_pos c5] at H
  have c5b0 := eq_true c5
  have c5b1 : decide ((l1.length : Int) ≤ (l0.length : Int)) = true := decide_eq_true c5
  clear c5
  replace H := Option.bind_eq_some_iff.mp H
  obtain ⟨t129, A60, H⟩ := H
  (try dsimp only at H)
  have A6 := Aside0.mk A60
  clear A60
  obtain rfl := Option.some.inj H
  obtain ⟨i07, hi07, _, hsz7, _⟩ := info_parts info5
  obtain ⟨hcut7, hA7, hC7⟩ := print_take_of (P := Try.prog) (Value.int .u8) 0 22 5 .i64 Try.underlying22 hi07 hsz7 A0 c0 l0 (l1.length : Int) (of_decide_eq_true (by first | (with_reducible assumption) | assumption)) (of_decide_eq_true (by first | (with_reducible assumption) | assumption)) HC0.out
  have HR128 := Aside0.mk (Kd.C_of_reads (h1 := fun _ => rfl) (hA7 _ (Kd.reads_of_C HR0.out)))
  have HC128 := Aside0.mk hC7
  clear hA7 hC7 hi07 hsz7
  have HLP := Aside0.mk (show (l0.take ((l1.length : Int) : Int).toNat).length = l1.length by rw [List.length_take]; have h_ := of_decide_eq_true c3b1; rw [Int.toNat_natCast]; omega)
  go_enter Try.func25, Try.ntmps25
  go_wp2_with (first | (go_at_call 52; refine calls_of_args (args' := #[.slice A0 (l0.take ((l1.length : Int) : Int).toNat).length c0, .slice A1 l1.length c1]) (by have h_ := of_decide_eq_true c3b1; first | (rw [List.length_take, Int.toNat_natCast]; done) | (rw [HLP.out]; done) | (simp; done) | (simp; omega)) ?_; (with_reducible refine (bytes_Equal.calls _ _ (l0.take ((l1.length : Int) : Int).toNat) _ _ l1 t129 _ ?side1 ?side2 ?side3 ?side4 A6.out).mono ?_); (case side1 => repeat (first | exact HR128.out | (with_reducible refine Kd.C_alloc ?_ _) | (with_reducible refine Kd.C_drewN ?_ _) | (with_reducible refine Kd.C_drew ?_))); (case side2 => exact HC128.out); (case side3 => repeat (first | exact HR1.out | (with_reducible refine Kd.C_alloc ?_ _) | (with_reducible refine Kd.C_drewN ?_ _) | (with_reducible refine Kd.C_drew ?_))); (case side4 => exact HC1.out); rintro e w' ⟨rfl, ⟨nd, rfl⟩⟩))
  go_ret
  exact ⟨by first | rfl | (simp; done) | (simp [*]; done), by repeat (first | exact Drawn0.refl _ | apply Drawn0.step)⟩

/-! ### impl_in: function 56 -/
def impl_in.f (a0 : Int) (a1 : Int) (a2 : Int) : Option (Bool) := if a1 ≤ a0 then (some (decide (a0 ≤ a2))) else (some false)
set_option maxHeartbeats 8000000 in
set_option maxRecDepth 100000 in
theorem impl_in.calls (a0 : Int) (a1 : Int) (a2 : Int) (r : Bool) (w : World) (h : impl_in.f a0 a1 a2 = some r) :
   Calls Try.prog 56 #[.int .i64 a0, .int .i64 a1, .int .i64 a2] w fun e w' => e = .returned (.bool r) ∧ Drawn0 w w' := by
  have H : (if a1 ≤ a0 then (some (decide (a0 ≤ a2))) else (some false)) = some r := h
  clear h
  by_cases c4 : a1 ≤ a0
  ·rw [if_pos c4] at H
   have c4b0 : decide (a1 ≤ a0) = true := decide_eq_true c4
   clear c4
   obtain rfl := Option.some.inj H
   go_enter Try.func56, Try.ntmps56
   go_wp2
   go_ret
   exact ⟨by first | rfl | (simp; done) | (simp [*]; done), by repeat (first | exact Drawn0.refl _ | apply Drawn0.step)⟩
  rw [if_neg c4] at H
  have c4b0 : decide (a1 ≤ a0) = false := decide_eq_false c4
  clear c4
  obtain rfl := Option.some.inj H
  go_enter Try.func56, Try.ntmps56
  go_wp2
  go_ret
  exact ⟨by first | rfl | (simp; done) | (simp [*]; done), by repeat (first | exact Drawn0.refl _ | apply Drawn0.step)⟩

/-! ### impl_isWide: function 82 -/
def impl_isWide.f (a0 : Int) : Option (Bool) := (impl_in.f a0 (-1099511627776) 1099511627775).bind fun t130 => (some t130)
set_option maxHeartbeats 8000000 in
set_option maxRecDepth 100000 in
theorem impl_isWide.calls (a0 : Int) (r : Bool) (w : World) (h : impl_isWide.f a0 = some r) :
   Calls Try.prog 82 #[.int .i64 a0] w fun e w' => e = .returned (.bool r) ∧ Drawn0 w w' := by
  have H : ((impl_in.f a0 (-1099511627776) 1099511627775).bind fun t130 => (some t130)) = some r := h
  clear h
  replace H := Option.bind_eq_some_iff.mp H
  obtain ⟨t130, A20, H⟩ := H
  (try dsimp only at H)
  have A2 := Aside0.mk A20
  clear A20
  obtain rfl := Option.some.inj H
  go_enter Try.func82, Try.ntmps82
  go_wp2_with (first | ((with_reducible refine gate_callee (f := 56) rfl ?_); refine goesM (some 4) rfl rfl Try.func56 (by kernel_rfl) rfl #[.int .i64 a0, .int .i64 (-1099511627776), .int .i64 1099511627775] rfl ?_; (with_reducible refine (impl_in.calls a0 (-1099511627776) 1099511627775 t130 _ A2.out).mono ?_); rintro e w' ⟨rfl, ⟨nd, rfl⟩⟩; refine ⟨_, rfl, ?_⟩))
  go_ret
  exact ⟨by first | rfl | (simp; done) | (simp [*]; done), by repeat (first | exact Drawn0.refl _ | apply Drawn0.step)⟩

/-! ### impl_TakeWide: function 53 -/
def impl_TakeWide.l0 : Nat → Int → Int → List Int → Int → Int → Option (Int × Int)
  | 0, _, _, _, _, _ => none
  | k + 1, x1, x6, x23, x24, x25 => if x25 < x24 then (if 0 ≤ x25 then (if x25 < (x23.length : Int) then (if 0 ≤ (wrap64 (7 * x25)) then (if (rd x23 x25) ≥ 128 then (impl_TakeWide.l0 k x1 (Go.bits .or .i64 x6 (shl .i64 (wrap64 (Go.bits .and .u8 (rd x23 x25) 127)) (wrap64 (7 * x25)))) x23 x24 (wrap64 (x25 + 1))) else (if (Int.tmod (Go.bits .or .i64 x6 (shl .i64 (wrap64 (Go.bits .and .u8 (rd x23 x25) 127)) (wrap64 (7 * x25)))) 2) = 1 then (if x25 > 0 then (if (rd x23 x25) = 0 then (some (0, (-1))) else ((impl_isWide.f (wrap64 ((wrap64 (-(wrap64 (Int.tdiv (Go.bits .or .i64 x6 (shl .i64 (wrap64 (Go.bits .and .u8 (rd x23 x25) 127)) (wrap64 (7 * x25)))) 2)))) - 1))).bind fun t134 => (if t134 = true then (some (wrap64 ((wrap64 (-(wrap64 (Int.tdiv (Go.bits .or .i64 x6 (shl .i64 (wrap64 (Go.bits .and .u8 (rd x23 x25) 127)) (wrap64 (7 * x25)))) 2)))) - 1), wrap64 ((wrap64 (x1 + x25)) + 1))) else (some (0, (-1)))))) else ((impl_isWide.f (wrap64 ((wrap64 (-(wrap64 (Int.tdiv (Go.bits .or .i64 x6 (shl .i64 (wrap64 (Go.bits .and .u8 (rd x23 x25) 127)) (wrap64 (7 * x25)))) 2)))) - 1))).bind fun t135 => (if t135 = true then (some (wrap64 ((wrap64 (-(wrap64 (Int.tdiv (Go.bits .or .i64 x6 (shl .i64 (wrap64 (Go.bits .and .u8 (rd x23 x25) 127)) (wrap64 (7 * x25)))) 2)))) - 1), wrap64 ((wrap64 (x1 + x25)) + 1))) else (some (0, (-1)))))) else (if x25 > 0 then (if (rd x23 x25) = 0 then (some (0, (-1))) else ((impl_isWide.f (wrap64 (Int.tdiv (Go.bits .or .i64 x6 (shl .i64 (wrap64 (Go.bits .and .u8 (rd x23 x25) 127)) (wrap64 (7 * x25)))) 2))).bind fun t136 => (if t136 = true then (some (wrap64 (Int.tdiv (Go.bits .or .i64 x6 (shl .i64 (wrap64 (Go.bits .and .u8 (rd x23 x25) 127)) (wrap64 (7 * x25)))) 2), wrap64 ((wrap64 (x1 + x25)) + 1))) else (some (0, (-1)))))) else ((impl_isWide.f (wrap64 (Int.tdiv (Go.bits .or .i64 x6 (shl .i64 (wrap64 (Go.bits .and .u8 (rd x23 x25) 127)) (wrap64 (7 * x25)))) 2))).bind fun t137 => (if t137 = true then (some (wrap64 (Int.tdiv (Go.bits .or .i64 x6 (shl .i64 (wrap64 (Go.bits .and .u8 (rd x23 x25) 127)) (wrap64 (7 * x25)))) 2), wrap64 ((wrap64 (x1 + x25)) + 1))) else (some (0, (-1)))))))) else (none)) else (none)) else (none)) else (some (0, (-1)))
def impl_TakeWide.f (k : Nat) (l0 : List Int) (a1 : Int) : Option (Int × Int) := (impl_in.f a1 0 (wrap64 ((l0.length : Int) - 1))).bind fun t131 => (if t131 = true then (if 0 ≤ a1 then (if a1 ≤ (mn (l0.length : Int) (wrap64 (a1 + 6))) then (if (mn (l0.length : Int) (wrap64 (a1 + 6))) ≤ (l0.length : Int) then (impl_TakeWide.l0 k a1 0 ((l0.take ((mn (l0.length : Int) (wrap64 (a1 + 6))) : Int).toNat).drop (a1 : Int).toNat) (((l0.take ((mn (l0.length : Int) (wrap64 (a1 + 6))) : Int).toNat).drop (a1 : Int).toNat).length : Int) 0) else (none)) else (none)) else (none)) else (some (0, (-1))))
set_option maxHeartbeats 8000000 in
set_option maxRecDepth 100000 in
theorem impl_TakeWide.calls (k : Nat) (A0 : Option Addr) (c0 : Nat) (l0 : List Int) (a1 : Int) (r1 : Int) (r2 : Int) (w : World) (hr0 : Kd.C (Kd.int .u8) w A0 l0.length l0) (hc0 : l0.length ≤ c0) (h : impl_TakeWide.f k l0 a1 = some (r1, r2)) :
   Calls Try.prog 53 #[.slice A0 l0.length c0, .int .i64 a1] w fun e w' => e = .returned (.tuple #[.int .i64 r1, .int .i64 r2]) ∧ Drawn0 w w' := by
  have HR0 := Aside0.mk hr0
  have HC0 := Aside0.mk hc0
  clear hr0 hc0
  have H : ((impl_in.f a1 0 (wrap64 ((l0.length : Int) - 1))).bind fun t131 => (if t131 = true then (if 0 ≤ a1 then (if a1 ≤ (mn (l0.length : Int) (wrap64 (a1 + 6))) then (if (mn (l0.length : Int) (wrap64 (a1 + 6))) ≤ (l0.length : Int) then (impl_TakeWide.l0 k a1 0 ((l0.take ((mn (l0.length : Int) (wrap64 (a1 + 6))) : Int).toNat).drop (a1 : Int).toNat) (((l0.take ((mn (l0.length : Int) (wrap64 (a1 + 6))) : Int).toNat).drop (a1 : Int).toNat).length : Int) 0) else (none)) else (none)) else (none)) else (some (0, (-1))))) = some (r1, r2) := h
  clear h
  replace H := Option.bind_eq_some_iff.mp H
  obtain ⟨t131, A30, H⟩ := H
  (try dsimp only at H)
  have A3 := Aside0.mk A30
  clear A30
  by_cases c4 : t131 = true
  ·subst c4
   rw [if_pos rfl] at H
   obtain ⟨ji5, hji5⟩ : ∃ j_ : Int, (mn (l0.length : Int) (wrap64 (a1 + 6))) = j_ := ⟨_, rfl⟩
   replace H : (if 0 ≤ a1 then (if a1 ≤ (ji5) then (if (ji5) ≤ (l0.length : Int) then (impl_TakeWide.l0 k a1 0 ((l0.take ((ji5) : Int).toNat).drop (a1 : Int).toNat) (((l0.take ((ji5) : Int).toNat).drop (a1 : Int).toNat).length : Int) 0) else (none)) else (none)) else (none)) = some (r1, r2) := by first | (rw [hji5] at H; exact H) | (simp only [hji5] at H ⊢; exact H)
   (try rw [hji5] at A3)
   have hji5_ : (if (wrap64 (a1 + 6)) < (l0.length : Int) then (wrap64 (a1 + 6)) else (l0.length : Int)) = ji5 := hji5
   by_cases c6 : 0 ≤ a1
   ·rw [if_pos c6] at H
    have c6b0 := eq_true c6
    have c6b1 : decide (0 ≤ a1) = true := decide_eq_true c6
    clear c6
    by_cases c7 : a1 ≤ (ji5)
    ·rw [if_pos c7] at H
     have c7b0 := eq_true c7
     have c7b1 : decide (a1 ≤ (ji5)) = true := decide_eq_true c7
     clear c7
     by_cases c8 : (ji5) ≤ (l0.length : Int)
     ·rw [if_pos c8] at H
      have c8b0 := eq_true c8
      have c8b1 : decide ((ji5) ≤ (l0.length : Int)) = true := decide_eq_true c8
      have HLEN := Aside0.mk (show ((l0.take ((ji5) : Int).toNat).drop (a1 : Int).toNat).length = (ji5).toNat - (a1).toNat by rw [List.length_drop, List.length_take]; have z3 := of_decide_eq_true c8b1; omega)
      clear c8
      have H' := Aside0.mk H
      clear H
      go_enter Try.func53, Try.ntmps53
      go_wp2_with (first | ((with_reducible refine gate_callee (f := 56) rfl ?_); refine goesM (some 14) rfl rfl Try.func56 (by kernel_rfl) rfl #[.int .i64 a1, .int .i64 0, .int .i64 (wrap64 ((l0.length : Int) - 1))] rfl ?_; (with_reducible refine (impl_in.calls a1 0 (wrap64 ((l0.length : Int) - 1)) true _ A3.out).mono ?_); rintro e w' ⟨rfl, ⟨nd, rfl⟩⟩; refine ⟨_, rfl, ?_⟩; obtain ⟨i09, hi09, _, hsz9, _⟩ := info_parts info5; obtain ⟨A9, hcut9, hA9, hC9⟩ := print_mid_of (P := Try.prog) (Value.int .u8) 0 22 5 .i64 .i64 Try.underlying22 hi09 hsz9 A0 c0 l0 a1 (ji5) (of_decide_eq_true (by first | (with_reducible assumption) | assumption)) (by first | omega | exact of_decide_eq_true (by first | (with_reducible assumption) | assumption)) (of_decide_eq_true (by first | (with_reducible assumption) | assumption)) HC0.out; have HR132 := Aside0.mk (Kd.C_of_reads (h1 := fun _ => rfl) (hA9 _ (Kd.reads_of_C HR0.out))); have HC132 := Aside0.mk hC9; clear hA9 hC9 hi09 hsz9))
      go_loopg [6, 25] k (fun kq v6 v25 w' => ∃ (x6_1 : Int) (x25_1 : Int), v6 = .int .i64 x6_1 ∧ v25 = .int .i64 x25_1 ∧ Aside0 (impl_TakeWide.l0 kq a1 x6_1 ((l0.take ((ji5) : Int).toNat).drop (a1 : Int).toNat) (((l0.take ((ji5) : Int).toNat).drop (a1 : Int).toNat).length : Int) x25_1 = some (r1, r2)) ∧ Aside0 (kq ≤ k) ∧ Drawn0 w w')
      case atStart => exact ⟨(0), (0), (by first | rfl | (simp; done) | (simp [*]; done)), (by first | rfl | (simp; done) | (simp [*]; done)), H', ⟨Nat.le_refl _⟩, by repeat (first | exact Drawn0.refl _ | apply Drawn0.step)⟩
      case round =>
       clear H'
       try clear p2
       try clear c4
       try clear c5
       try clear c6
       try clear c6b0
       try clear c6b1
       try clear p6
       try clear c7
       try clear c7b0
       try clear c7b1
       try clear c8
       try clear c8b0
       try clear c8b1
       obtain ⟨x6_1, x25_1, rfl, rfl, HA, HK1, ⟨m1, rfl⟩⟩ := hrel
       cases gk with
       | zero => exact absurd HA.out (by simp [impl_TakeWide.l0])
       | succ k1 =>
        have H := HA.out
        clear HA
        simp only [impl_TakeWide.l0] at H
        by_cases c10 : x25_1 < (((l0.take ((ji5) : Int).toNat).drop (a1 : Int).toNat).length : Int)
        ·rw [if_pos c10] at H
         have c10b0 : decide (x25_1 < (((l0.take ((ji5) : Int).toNat).drop (a1 : Int).toNat).length : Int)) = true := decide_eq_true c10
         have c10bL := c10b0
         rw [HLEN.out] at c10bL
         have c10bT := eq_true (of_decide_eq_true c10bL)
         clear c10
         by_cases c11 : 0 ≤ x25_1
         ·rw [if_pos c11] at H
          have c11b0 : decide (0 ≤ x25_1) = true := decide_eq_true c11
          clear c11
          by_cases c12 : x25_1 < (((l0.take ((ji5) : Int).toNat).drop (a1 : Int).toNat).length : Int)
          ·rw [if_pos c12] at H
           have c12b0 : decide (x25_1 < (((l0.take ((ji5) : Int).toNat).drop (a1 : Int).toNat).length : Int)) = true := decide_eq_true c12
           have c12bL := c12b0
           rw [HLEN.out] at c12bL
           have c12bT := eq_true (of_decide_eq_true c12bL)
           clear c12
           obtain ⟨ji13, hji13⟩ : ∃ j_ : Int, (wrap64 (7 * x25_1)) = j_ := ⟨_, rfl⟩
           replace H : (if 0 ≤ (ji13) then (if (rd ((l0.take ((ji5) : Int).toNat).drop (a1 : Int).toNat) x25_1) ≥ 128 then (impl_TakeWide.l0 k1 a1 (Go.bits .or .i64 x6_1 (shl .i64 (wrap64 (Go.bits .and .u8 (rd ((l0.take ((ji5) : Int).toNat).drop (a1 : Int).toNat) x25_1) 127)) (ji13))) ((l0.take ((ji5) : Int).toNat).drop (a1 : Int).toNat) (((l0.take ((ji5) : Int).toNat).drop (a1 : Int).toNat).length : Int) (wrap64 (x25_1 + 1))) else (if (Int.tmod (Go.bits .or .i64 x6_1 (shl .i64 (wrap64 (Go.bits .and .u8 (rd ((l0.take ((ji5) : Int).toNat).drop (a1 : Int).toNat) x25_1) 127)) (ji13))) 2) = 1 then (if x25_1 > 0 then (if (rd ((l0.take ((ji5) : Int).toNat).drop (a1 : Int).toNat) x25_1) = 0 then (some (0, (-1))) else ((impl_isWide.f (wrap64 ((wrap64 (-(wrap64 (Int.tdiv (Go.bits .or .i64 x6_1 (shl .i64 (wrap64 (Go.bits .and .u8 (rd ((l0.take ((ji5) : Int).toNat).drop (a1 : Int).toNat) x25_1) 127)) (ji13))) 2)))) - 1))).bind fun t134 => (if t134 = true then (some (wrap64 ((wrap64 (-(wrap64 (Int.tdiv (Go.bits .or .i64 x6_1 (shl .i64 (wrap64 (Go.bits .and .u8 (rd ((l0.take ((ji5) : Int).toNat).drop (a1 : Int).toNat) x25_1) 127)) (ji13))) 2)))) - 1), wrap64 ((wrap64 (a1 + x25_1)) + 1))) else (some (0, (-1)))))) else ((impl_isWide.f (wrap64 ((wrap64 (-(wrap64 (Int.tdiv (Go.bits .or .i64 x6_1 (shl .i64 (wrap64 (Go.bits .and .u8 (rd ((l0.take ((ji5) : Int).toNat).drop (a1 : Int).toNat) x25_1) 127)) (ji13))) 2)))) - 1))).bind fun t135 => (if t135 = true then (some (wrap64 ((wrap64 (-(wrap64 (Int.tdiv (Go.bits .or .i64 x6_1 (shl .i64 (wrap64 (Go.bits .and .u8 (rd ((l0.take ((ji5) : Int).toNat).drop (a1 : Int).toNat) x25_1) 127)) (ji13))) 2)))) - 1), wrap64 ((wrap64 (a1 + x25_1)) + 1))) else (some (0, (-1)))))) else (if x25_1 > 0 then (if (rd ((l0.take ((ji5) : Int).toNat).drop (a1 : Int).toNat) x25_1) = 0 then (some (0, (-1))) else ((impl_isWide.f (wrap64 (Int.tdiv (Go.bits .or .i64 x6_1 (shl .i64 (wrap64 (Go.bits .and .u8 (rd ((l0.take ((ji5) : Int).toNat).drop (a1 : Int).toNat) x25_1) 127)) (ji13))) 2))).bind fun t136 => (if t136 = true then (some (wrap64 (Int.tdiv (Go.bits .or .i64 x6_1 (shl .i64 (wrap64 (Go.bits .and .u8 (rd ((l0.take ((ji5) : Int).toNat).drop (a1 : Int).toNat) x25_1) 127)) (ji13))) 2), wrap64 ((wrap64 (a1 + x25_1)) + 1))) else (some (0, (-1)))))) else ((impl_isWide.f (wrap64 (Int.tdiv (Go.bits .or .i64 x6_1 (shl .i64 (wrap64 (Go.bits .and .u8 (rd ((l0.take ((ji5) : Int).toNat).drop (a1 : Int).toNat) x25_1) 127)) (ji13))) 2))).bind fun t137 => (if t137 = true then (some (wrap64 (Int.tdiv (Go.bits .or .i64 x6_1 (shl .i64 (wrap64 (Go.bits .and .u8 (rd ((l0.take ((ji5) : Int).toNat).drop (a1 : Int).toNat) x25_1) 127)) (ji13))) 2), wrap64 ((wrap64 (a1 + x25_1)) + 1))) else (some (0, (-1)))))))) else (none)) = some (r1, r2) := by first | (rw [hji13] at H; exact H) | (simp only [hji13] at H ⊢; exact H)
           have hji13w : (IntKind.i64.wrap (7 * x25_1)) = ji13 := (i64_w _).trans hji13
           by_cases c14 : 0 ≤ (ji13)
           ·rw [if_pos c14] at H
            have c14b0 := eq_true c14
            have c14b1 : decide (0 ≤ (ji13)) = true := decide_eq_true c14
            clear c14
            obtain ⟨ji15, hji15⟩ : ∃ j_ : Int, (shl .i64 (wrap64 (Go.bits .and .u8 (rd ((l0.take ((ji5) : Int).toNat).drop (a1 : Int).toNat) x25_1) 127)) (ji13)) = j_ := ⟨_, rfl⟩
            replace H : (if (rd ((l0.take ((ji5) : Int).toNat).drop (a1 : Int).toNat) x25_1) ≥ 128 then (impl_TakeWide.l0 k1 a1 (Go.bits .or .i64 x6_1 (ji15)) ((l0.take ((ji5) : Int).toNat).drop (a1 : Int).toNat) (((l0.take ((ji5) : Int).toNat).drop (a1 : Int).toNat).length : Int) (wrap64 (x25_1 + 1))) else (if (Int.tmod (Go.bits .or .i64 x6_1 (ji15)) 2) = 1 then (if x25_1 > 0 then (if (rd ((l0.take ((ji5) : Int).toNat).drop (a1 : Int).toNat) x25_1) = 0 then (some (0, (-1))) else ((impl_isWide.f (wrap64 ((wrap64 (-(wrap64 (Int.tdiv (Go.bits .or .i64 x6_1 (ji15)) 2)))) - 1))).bind fun t134 => (if t134 = true then (some (wrap64 ((wrap64 (-(wrap64 (Int.tdiv (Go.bits .or .i64 x6_1 (ji15)) 2)))) - 1), wrap64 ((wrap64 (a1 + x25_1)) + 1))) else (some (0, (-1)))))) else ((impl_isWide.f (wrap64 ((wrap64 (-(wrap64 (Int.tdiv (Go.bits .or .i64 x6_1 (ji15)) 2)))) - 1))).bind fun t135 => (if t135 = true then (some (wrap64 ((wrap64 (-(wrap64 (Int.tdiv (Go.bits .or .i64 x6_1 (ji15)) 2)))) - 1), wrap64 ((wrap64 (a1 + x25_1)) + 1))) else (some (0, (-1)))))) else (if x25_1 > 0 then (if (rd ((l0.take ((ji5) : Int).toNat).drop (a1 : Int).toNat) x25_1) = 0 then (some (0, (-1))) else ((impl_isWide.f (wrap64 (Int.tdiv (Go.bits .or .i64 x6_1 (ji15)) 2))).bind fun t136 => (if t136 = true then (some (wrap64 (Int.tdiv (Go.bits .or .i64 x6_1 (ji15)) 2), wrap64 ((wrap64 (a1 + x25_1)) + 1))) else (some (0, (-1)))))) else ((impl_isWide.f (wrap64 (Int.tdiv (Go.bits .or .i64 x6_1 (ji15)) 2))).bind fun t137 => (if t137 = true then (some (wrap64 (Int.tdiv (Go.bits .or .i64 x6_1 (ji15)) 2), wrap64 ((wrap64 (a1 + x25_1)) + 1))) else (some (0, (-1)))))))) = some (r1, r2) := by first | (rw [hji15] at H; exact H) | (simp only [hji15] at H ⊢; exact H)
            have hji15_ : (IntKind.i64.wrap ((wrap64 (Go.bits .and .u8 (rd ((l0.take ((ji5) : Int).toNat).drop (a1 : Int).toNat) x25_1) 127)) * 2 ^ min (ji13).toNat 64)) = ji15 := hji15
            have hji15z : (ji13) ≤ 64 → (IntKind.i64.wrap ((wrap64 (Go.bits .and .u8 (rd ((l0.take ((ji5) : Int).toNat).drop (a1 : Int).toNat) x25_1) 127)) * 2 ^ (ji13).toNat)) = ji15 := shl_small hji15
            have hji15y : (wrap64 ((wrap64 (Go.bits .and .u8 (rd ((l0.take ((ji5) : Int).toNat).drop (a1 : Int).toNat) x25_1) 127)) * 2 ^ min (ji13).toNat 64)) = ji15 := (i64_w _).symm.trans hji15_
            have hji15x : (ji13) ≤ 64 → (wrap64 ((wrap64 (Go.bits .and .u8 (rd ((l0.take ((ji5) : Int).toNat).drop (a1 : Int).toNat) x25_1) 127)) * 2 ^ (ji13).toNat)) = ji15 := fun h_ => (i64_w _).symm.trans (hji15z h_)
            by_cases c16 : (rd ((l0.take ((ji5) : Int).toNat).drop (a1 : Int).toNat) x25_1) ≥ 128
            ·rw [if_pos c16] at H
             have c16b0 : decide (128 ≤ (rd ((l0.take ((ji5) : Int).toNat).drop (a1 : Int).toNat) x25_1)) = true := decide_eq_true c16
             clear c16
             have H' := Aside0.mk H
             clear H
             have p133 : 0 ≤ (x25_1 : Int) := of_decide_eq_true (by first | (with_reducible assumption) | assumption)
             have q133 : x25_1 < (((l0.take ((ji5) : Int).toNat).drop (a1 : Int).toNat).length : Int) := of_decide_eq_true (by first | (with_reducible assumption) | assumption)
             obtain ⟨ad133, e133, hx133_0⟩ := Kd.at_int HR132.out x25_1 p133 q133
             cases e133
             replace p133 := eq_true p133
             replace q133 := eq_true q133
             go_wp2
             go_roundg k1
             case measure => have := HK1.out; omega
             case rel => exact ⟨(Go.bits .or .i64 x6_1 (ji15)), (wrap64 (x25_1 + 1)), (by first | rfl | (simp; done) | (simp only [← hji15] <;> (first | rfl | simp)) | (simp [*]; done)), (by first | rfl | (simp; done) | (simp [*]; done)), H', ⟨by have := HK1.out; omega⟩, by repeat (first | exact Drawn0.refl _ | apply Drawn0.step)⟩
            ·rw [if_neg c16] at H
             have c16b0 : decide (128 ≤ (rd ((l0.take ((ji5) : Int).toNat).drop (a1 : Int).toNat) x25_1)) = false := decide_eq_false c16
             clear c16
             by_cases c17 : (Int.tmod (Go.bits .or .i64 x6_1 (ji15)) 2) = 1
             ·rw [if_pos c17] at H
              have c17b0 : ((Int.tmod (Go.bits .or .i64 x6_1 (ji15)) 2) == 1) = true := beq_iff_eq.mpr c17
              have c17b1 : ((Int.tmod (Go.bits .or .i64 x6_1 (ji15)) 2) != 1) = false := bne_eq_false_iff_eq.mpr c17
              clear c17
              by_cases c18 : x25_1 > 0
              ·rw [if_pos c18] at H
               have c18b0 : decide (0 < x25_1) = true := decide_eq_true c18
               clear c18
               by_cases c19 : (rd ((l0.take ((ji5) : Int).toNat).drop (a1 : Int).toNat) x25_1) = 0
               ·rw [if_pos c19] at H
                have c19b0 : ((rd ((l0.take ((ji5) : Int).toNat).drop (a1 : Int).toNat) x25_1) == 0) = true := beq_iff_eq.mpr c19
                have c19b1 : ((rd ((l0.take ((ji5) : Int).toNat).drop (a1 : Int).toNat) x25_1) != 0) = false := bne_eq_false_iff_eq.mpr c19
                clear c19
                simp only [Option.some.injEq, Prod.mk.injEq] at H
                obtain ⟨rfl, rfl⟩ := H
                have p133 : 0 ≤ (x25_1 : Int) := of_decide_eq_true (by first | (with_reducible assumption) | assumption)
                have q133 : x25_1 < (((l0.take ((ji5) : Int).toNat).drop (a1 : Int).toNat).length : Int) := of_decide_eq_true (by first | (with_reducible assumption) | assumption)
                obtain ⟨ad133, e133, hx133_0⟩ := Kd.at_int HR132.out x25_1 p133 q133
                cases e133
                replace p133 := eq_true p133
                replace q133 := eq_true q133
                go_wp2
                go_ret2
                exact ⟨by first | rfl | (simp; done) | (simp only [← hji5, ← hji13, ← hji15] <;> (first | rfl | simp)) | (simp [*]; done), by repeat (first | exact Drawn0.refl _ | apply Drawn0.step)⟩
               ·rw [if_neg c19] at H
                have c19b0 : ((rd ((l0.take ((ji5) : Int).toNat).drop (a1 : Int).toNat) x25_1) == 0) = false := beq_eq_false_iff_ne.mpr c19
                have c19b1 : ((rd ((l0.take ((ji5) : Int).toNat).drop (a1 : Int).toNat) x25_1) != 0) = true := bne_iff_ne.mpr c19
                replace H := Option.bind_eq_some_iff.mp H
                obtain ⟨t134, A200, H⟩ := H
                (try dsimp only at H)
                have A20 := Aside0.mk A200
                clear A200
                by_cases c21 : t134 = true
                ·subst c21
                 rw [if_pos rfl] at H
                 simp only [Option.some.injEq, Prod.mk.injEq] at H
                 obtain ⟨rfl, rfl⟩ := H
                 have p133 : 0 ≤ (x25_1 : Int) := of_decide_eq_true (by first | (with_reducible assumption) | assumption)
                 have q133 : x25_1 < (((l0.take ((ji5) : Int).toNat).drop (a1 : Int).toNat).length : Int) := of_decide_eq_true (by first | (with_reducible assumption) | assumption)
                 obtain ⟨ad133, e133, hx133_0⟩ := Kd.at_int HR132.out x25_1 p133 q133
                 cases e133
                 replace p133 := eq_true p133
                 replace q133 := eq_true q133
                 go_wp2_with (first | (go_at_call 82; (with_reducible refine (impl_isWide.calls (wrap64 ((wrap64 (-(wrap64 (Int.tdiv (Go.bits .or .i64 x6_1 (ji15)) 2)))) - 1)) true _ A20.out).mono ?_); rintro e w' ⟨rfl, ⟨nd, rfl⟩⟩))
                 go_ret2
                 exact ⟨by first | rfl | (simp; done) | (simp only [← hji5, ← hji13, ← hji15] <;> (first | rfl | simp)) | (simp [*]; done), by repeat (first | exact Drawn0.refl _ | apply Drawn0.step)⟩
                ·replace c21 := Bool.eq_false_iff.mpr c21
                 subst c21
                 rw [if_neg (show ¬ (false = true) by decide)] at H
                 simp only [Option.some.injEq, Prod.mk.injEq] at H
                 obtain ⟨rfl, rfl⟩ := H
                 have p133 : 0 ≤ (x25_1 : Int) := of_decide_eq_true (by first | (with_reducible assumption) | assumption)
                 have q133 : x25_1 < (((l0.take ((ji5) : Int).toNat).drop (a1 : Int).toNat).length : Int) := of_decide_eq_true (by first | (with_reducible assumption) | assumption)
                 obtain ⟨ad133, e133, hx133_0⟩ := Kd.at_int HR132.out x25_1 p133 q133
                 cases e133
                 replace p133 := eq_true p133
                 replace q133 := eq_true q133
                 go_wp2_with (first | (go_at_call 82; (with_reducible refine (impl_isWide.calls (wrap64 ((wrap64 (-(wrap64 (Int.tdiv (Go.bits .or .i64 x6_1 (ji15)) 2)))) - 1)) false _ A20.out).mono ?_); rintro e w' ⟨rfl, ⟨nd, rfl⟩⟩))
                 go_ret2
                 exact ⟨by first | rfl | (simp; done) | (simp only [← hji5, ← hji13, ← hji15] <;> (first | rfl | simp)) | (simp [*]; done), by repeat (first | exact Drawn0.refl _ | apply Drawn0.step)⟩
              ·rw [if_neg c18] at H
               have c18b0 : decide (0 < x25_1) = false := decide_eq_false c18
               clear c18
               replace H := Option.bind_eq_some_iff.mp H
               obtain ⟨t135, A220, H⟩ := H
               (try dsimp only at H)
               have A22 := Aside0.mk A220
               clear A220
               by_cases c23 : t135 = true
               ·subst c23
                rw [if_pos rfl] at H
                simp only [Option.some.injEq, Prod.mk.injEq] at H
                obtain ⟨rfl, rfl⟩ := H
                have p133 : 0 ≤ (x25_1 : Int) := of_decide_eq_true (by first | (with_reducible assumption) | assumption)
                have q133 : x25_1 < (((l0.take ((ji5) : Int).toNat).drop (a1 : Int).toNat).length : Int) := of_decide_eq_true (by first | (with_reducible assumption) | assumption)
                obtain ⟨ad133, e133, hx133_0⟩ := Kd.at_int HR132.out x25_1 p133 q133
                cases e133
                replace p133 := eq_true p133
                replace q133 := eq_true q133
                go_wp2_with (first | (go_at_call 82; (with_reducible refine (impl_isWide.calls (wrap64 ((wrap64 (-(wrap64 (Int.tdiv (Go.bits .or .i64 x6_1 (ji15)) 2)))) - 1)) true _ A22.out).mono ?_); rintro e w' ⟨rfl, ⟨nd, rfl⟩⟩))
                go_ret2
                exact ⟨by first | rfl | (simp; done) | (simp only [← hji5, ← hji13, ← hji15] <;> (first | rfl | simp)) | (simp [*]; done), by repeat (first | exact Drawn0.refl _ | apply Drawn0.step)⟩
               ·replace c23 := Bool.eq_false_iff.mpr c23
                subst c23
                rw [if_neg (show ¬ (false = true) by decide)] at H
                simp only [Option.some.injEq, Prod.mk.injEq] at H
                obtain ⟨rfl, rfl⟩ := H
                have p133 : 0 ≤ (x25_1 : Int) := of_decide_eq_true (by first | (with_reducible assumption) | assumption)
                have q133 : x25_1 < (((l0.take ((ji5) : Int).toNat).drop (a1 : Int).toNat).length : Int) := of_decide_eq_true (by first | (with_reducible assumption) | assumption)
                obtain ⟨ad133, e133, hx133_0⟩ := Kd.at_int HR132.out x25_1 p133 q133
                cases e133
                replace p133 := eq_true p133
                replace q133 := eq_true q133
                go_wp2_with (first | (go_at_call 82; (with_reducible refine (impl_isWide.calls (wrap64 ((wrap64 (-(wrap64 (Int.tdiv (Go.bits .or .i64 x6_1 (ji15)) 2)))) - 1)) false _ A22.out).mono ?_); rintro e w' ⟨rfl, ⟨nd, rfl⟩⟩))
                go_ret2
                exact ⟨by first | rfl | (simp; done) | (simp only [← hji5, ← hji13, ← hji15] <;> (first | rfl | simp)) | (simp [*]; done), by repeat (first | exact Drawn0.refl _ | apply Drawn0.step)⟩
             ·rw [if_neg c17] at H
              have c17b0 : ((Int.tmod (Go.bits .or .i64 x6_1 (ji15)) 2) == 1) = false := beq_eq_false_iff_ne.mpr c17
              have c17b1 : ((Int.tmod (Go.bits .or .i64 x6_1 (ji15)) 2) != 1) = true := bne_iff_ne.mpr c17
              by_cases c24 : x25_1 > 0
              ·rw [if_pos c24] at H
               have c24b0 : decide (0 < x25_1) = true := decide_eq_true c24
               clear c24
               by_cases c25 : (rd ((l0.take ((ji5) : Int).toNat).drop (a1 : Int).toNat) x25_1) = 0
               ·rw [if_pos c25] at H
                have c25b0 : ((rd ((l0.take ((ji5) : Int).toNat).drop (a1 : Int).toNat) x25_1) == 0) = true := beq_iff_eq.mpr c25
                have c25b1 : ((rd ((l0.take ((ji5) : Int).toNat).drop (a1 : Int).toNat) x25_1) != 0) = false := bne_eq_false_iff_eq.mpr c25
                clear c25
                simp only [Option.some.injEq, Prod.mk.injEq] at H
                obtain ⟨rfl, rfl⟩ := H
                have p133 : 0 ≤ (x25_1 : Int) := of_decide_eq_true (by first | (with_reducible assumption) | assumption)
                have q133 : x25_1 < (((l0.take ((ji5) : Int).toNat).drop (a1 : Int).toNat).length : Int) := of_decide_eq_true (by first | (with_reducible assumption) | assumption)
                obtain ⟨ad133, e133, hx133_0⟩ := Kd.at_int HR132.out x25_1 p133 q133
                cases e133
                replace p133 := eq_true p133
                replace q133 := eq_true q133
                go_wp2
                go_ret2
                exact ⟨by first | rfl | (simp; done) | (simp only [← hji5, ← hji13, ← hji15] <;> (first | rfl | simp)) | (simp [*]; done), by repeat (first | exact Drawn0.refl _ | apply Drawn0.step)⟩
               ·rw [if_neg c25] at H
                have c25b0 : ((rd ((l0.take ((ji5) : Int).toNat).drop (a1 : Int).toNat) x25_1) == 0) = false := beq_eq_false_iff_ne.mpr c25
                have c25b1 : ((rd ((l0.take ((ji5) : Int).toNat).drop (a1 : Int).toNat) x25_1) != 0) = true := bne_iff_ne.mpr c25
                replace H := Option.bind_eq_some_iff.mp H
                obtain ⟨t136, A260, H⟩ := H
                (try dsimp only at H)
                have A26 := Aside0.mk A260
                clear A260
                by_cases c27 : t136 = true
                ·subst c27
                 rw [if_pos rfl] at H
                 simp only [Option.some.injEq, Prod.mk.injEq] at H
                 obtain ⟨rfl, rfl⟩ := H
                 have p133 : 0 ≤ (x25_1 : Int) := of_decide_eq_true (by first | (with_reducible assumption) | assumption)
                 have q133 : x25_1 < (((l0.take ((ji5) : Int).toNat).drop (a1 : Int).toNat).length : Int) := of_decide_eq_true (by first | (with_reducible assumption) | assumption)
                 obtain ⟨ad133, e133, hx133_0⟩ := Kd.at_int HR132.out x25_1 p133 q133
                 cases e133
                 replace p133 := eq_true p133
                 replace q133 := eq_true q133
                 go_wp2_with (first | (go_at_call 82; (with_reducible refine (impl_isWide.calls (wrap64 (Int.tdiv (Go.bits .or .i64 x6_1 (ji15)) 2)) true _ A26.out).mono ?_); rintro e w' ⟨rfl, ⟨nd, rfl⟩⟩))
                 go_ret2
                 exact ⟨by first | rfl | (simp; done) | (simp only [← hji5, ← hji13, ← hji15] <;> (first | rfl | simp)) | (simp [*]; done), by repeat (first | exact Drawn0.refl _ | apply Drawn0.step)⟩
                ·replace c27 := Bool.eq_false_iff.mpr c27
                 subst c27
                 rw [if_neg (show ¬ (false = true) by decide)] at H
                 simp only [Option.some.injEq, Prod.mk.injEq] at H
                 obtain ⟨rfl, rfl⟩ := H
                 have p133 : 0 ≤ (x25_1 : Int) := of_decide_eq_true (by first | (with_reducible assumption) | assumption)
                 have q133 : x25_1 < (((l0.take ((ji5) : Int).toNat).drop (a1 : Int).toNat).length : Int) := of_decide_eq_true (by first | (with_reducible assumption) | assumption)
                 obtain ⟨ad133, e133, hx133_0⟩ := Kd.at_int HR132.out x25_1 p133 q133
                 cases e133
                 replace p133 := eq_true p133
                 replace q133 := eq_true q133
                 go_wp2_with (first | (go_at_call 82; (with_reducible refine (impl_isWide.calls (wrap64 (Int.tdiv (Go.bits .or .i64 x6_1 (ji15)) 2)) false _ A26.out).mono ?_); rintro e w' ⟨rfl, ⟨nd, rfl⟩⟩))
                 go_ret2
                 exact ⟨by first | rfl | (simp; done) | (simp only [← hji5, ← hji13, ← hji15] <;> (first | rfl | simp)) | (simp [*]; done), by repeat (first | exact Drawn0.refl _ | apply Drawn0.step)⟩
              ·rw [if_neg c24] at H
               have c24b0 : decide (0 < x25_1) = false := decide_eq_false c24
               clear c24
               replace H := Option.bind_eq_some_iff.mp H
               obtain ⟨t137, A280, H⟩ := H
               (try dsimp only at H)
               have A28 := Aside0.mk A280
               clear A280
               by_cases c29 : t137 = true
               ·subst c29
                rw [if_pos rfl] at H
                simp only [Option.some.injEq, Prod.mk.injEq] at H
                obtain ⟨rfl, rfl⟩ := H
                have p133 : 0 ≤ (x25_1 : Int) := of_decide_eq_true (by first | (with_reducible assumption) | assumption)
                have q133 : x25_1 < (((l0.take ((ji5) : Int).toNat).drop (a1 : Int).toNat).length : Int) := of_decide_eq_true (by first | (with_reducible assumption) | assumption)
                obtain ⟨ad133, e133, hx133_0⟩ := Kd.at_int HR132.out x25_1 p133 q133
                cases e133
                replace p133 := eq_true p133
                replace q133 := eq_true q133
                go_wp2_with (first | (go_at_call 82; (with_reducible refine (impl_isWide.calls (wrap64 (Int.tdiv (Go.bits .or .i64 x6_1 (ji15)) 2)) true _ A28.out).mono ?_); rintro e w' ⟨rfl, ⟨nd, rfl⟩⟩))
                go_ret2
                exact ⟨by first | rfl | (simp; done) | (simp only [← hji5, ← hji13, ← hji15] <;> (first | rfl | simp)) | (simp [*]; done), by repeat (first | exact Drawn0.refl _ | apply Drawn0.step)⟩
               ·replace c29 := Bool.eq_false_iff.mpr c29
                subst c29
                rw [if_neg (show ¬ (false = true) by decide)] at H
                simp only [Option.some.injEq, Prod.mk.injEq] at H
                obtain ⟨rfl, rfl⟩ := H
                have p133 : 0 ≤ (x25_1 : Int) := of_decide_eq_true (by first | (with_reducible assumption) | assumption)
                have q133 : x25_1 < (((l0.take ((ji5) : Int).toNat).drop (a1 : Int).toNat).length : Int) := of_decide_eq_true (by first | (with_reducible assumption) | assumption)
                obtain ⟨ad133, e133, hx133_0⟩ := Kd.at_int HR132.out x25_1 p133 q133
                cases e133
                replace p133 := eq_true p133
                replace q133 := eq_true q133
                go_wp2_with (first | (go_at_call 82; (with_reducible refine (impl_isWide.calls (wrap64 (Int.tdiv (Go.bits .or .i64 x6_1 (ji15)) 2)) false _ A28.out).mono ?_); rintro e w' ⟨rfl, ⟨nd, rfl⟩⟩))
                go_ret2
                exact ⟨by first | rfl | (simp; done) | (simp only [← hji5, ← hji13, ← hji15] <;> (first | rfl | simp)) | (simp [*]; done), by repeat (first | exact Drawn0.refl _ | apply Drawn0.step)⟩
           ·rw [if_neg c14] at H
            exact absurd H (by simp)
          ·rw [if_neg c12] at H
           exact absurd H (by simp)
         ·rw [if_neg c11] at H
          exact absurd H (by simp)
        ·rw [if_neg c10] at H
         have c10b0 : decide (x25_1 < (((l0.take ((ji5) : Int).toNat).drop (a1 : Int).toNat).length : Int)) = false := decide_eq_false c10
         have c10bL := c10b0
         rw [HLEN.out] at c10bL
         clear c10
         simp only [Option.some.injEq, Prod.mk.injEq] at H
         obtain ⟨rfl, rfl⟩ := H
         go_wp2
         go_ret2
         exact ⟨by first | rfl | (simp; done) | (simp only [← hji5] <;> (first | rfl | simp)) | (simp [*]; done), by repeat (first | exact Drawn0.refl _ | apply Drawn0.step)⟩
     ·rw [if_neg c8] at H
      exact absurd H (by simp)
    ·rw [if_neg c7] at H
     exact absurd H (by simp)
   ·rw [if_neg c6] at H
    exact absurd H (by simp)
  ·replace c4 := Bool.eq_false_iff.mpr c4
   subst c4
   rw [if_neg (show ¬ (false = true) by decide)] at H
   simp only [Option.some.injEq, Prod.mk.injEq] at H
   obtain ⟨rfl, rfl⟩ := H
   go_enter Try.func53, Try.ntmps53
   go_wp2_with (first | ((with_reducible refine gate_callee (f := 56) rfl ?_); refine goesM (some 14) rfl rfl Try.func56 (by kernel_rfl) rfl #[.int .i64 a1, .int .i64 0, .int .i64 (wrap64 ((l0.length : Int) - 1))] rfl ?_; (with_reducible refine (impl_in.calls a1 0 (wrap64 ((l0.length : Int) - 1)) false _ A3.out).mono ?_); rintro e w' ⟨rfl, ⟨nd, rfl⟩⟩; refine ⟨_, rfl, ?_⟩))
   go_ret2
   exact ⟨by first | rfl | (simp; done) | (simp [*]; done), by repeat (first | exact Drawn0.refl _ | apply Drawn0.step)⟩

/-- A state of type 58 at block g of W; what its slices lead to came in by w0. -/
def IsS58 (w0 W : World) (g : Nat) (f0 : List Int) (f1 : Int) (f2 : Bool) : Prop := ∃ A0 c0, W.heap[g]? = some (.cells #[.slice A0 f0.length c0, .int .i64 f1, .bool f2] 58 (0, 0)) ∧ w0.heap.size ≤ g ∧ (Kd.C (Kd.int .u8) w0 A0 f0.length f0 ∧ f0.length ≤ c0)
theorem IsS58.grown {w0 W : World} {g : Nat} {f0 : List Int} {f1 : Int} {f2 : Bool} {W1 : World} {row : Option Nat} (h : IsS58 w0 W g f0 f1 f2) (hw : W.grownBy W1 row) (hne : some g ≠ row) : IsS58 w0 W1 g f0 f1 f2 := by
  obtain ⟨A0, c0, hb, hg, hr0⟩ := h
  exact ⟨A0, c0, blk_grown hb hw hne, hg, hr0⟩
theorem IsS58.own_neN {w0 W : World} {g : Nat} {f0 : List Int} {f1 : Int} {f2 : Bool} {α : Type} {d : Kd α} {e : Nat} {base : Nat} {ok : Nat → Prop} {v : Value} {xs : List α} (h : IsS58 w0 W g f0 f1 f2) (ho : Kd.N d e W base ok v xs) (ht : e ≠ 58) : some g ≠ v.ownBlock := by
  obtain ⟨A0, c0, hb, hg, hr0⟩ := h
  exact Kd.N_ne ho hb ht
theorem IsS58.fresh {w0 W : World} {g : Nat} {f0 : List Int} {f1 : Int} {f2 : Bool} (h : IsS58 w0 W g f0 f1 f2) : ∀ k, W.heap.size ≤ k → k ≠ g := by
  obtain ⟨A0, c0, hb, hg, hr0⟩ := h
  exact Kd.freshB hb
theorem IsS58.kept {w0 W : World} {g : Nat} {f0 : List Int} {f1 : Int} {f2 : Bool} {W1 : World} {S : Nat → Prop} (h : IsS58 w0 W g f0 f1 f2) (hk : Kept W W1 S) (hne : ¬ S g) : IsS58 w0 W1 g f0 f1 f2 := by
  obtain ⟨A0, c0, hb, hg, hr0⟩ := h
  exact ⟨A0, c0, blk_kept hb hk hne, hg, hr0⟩
theorem IsS58.below {w0 W : World} {g : Nat} {f0 : List Int} {f1 : Int} {f2 : Bool} {W1 : World} (h : IsS58 w0 W g f0 f1 f2) (hw : Below W.heap.size W W1) : IsS58 w0 W1 g f0 f1 f2 := h.grown (grown_of_below hw none) (by simp)
theorem IsS58.alloc {w0 W : World} {g : Nat} {f0 : List Int} {f1 : Int} {f2 : Bool} (h : IsS58 w0 W g f0 f1 f2) (o : Obj) : IsS58 w0 (W.alloc o) g f0 f1 f2 := h.below (below_alloc (Below.refl _ _) o)
theorem IsS58.drewN {w0 W : World} {g : Nat} {f0 : List Int} {f1 : Int} {f2 : Bool} (h : IsS58 w0 W g f0 f1 f2) (m : Nat) : IsS58 w0 (W.drewN m) g f0 f1 f2 := h
theorem IsS58.drew {w0 W : World} {g : Nat} {f0 : List Int} {f1 : Int} {f2 : Bool} (h : IsS58 w0 W g f0 f1 f2) : IsS58 w0 W.drew g f0 f1 f2 := h
theorem IsS58.at_ {w0 W : World} {g : Nat} {f0 : List Int} {f1 : Int} {f2 : Bool} {w' : World} {m : Nat} (hq : W.drewN m = w') (h : IsS58 w0 W g f0 f1 f2) : IsS58 w0 w' g f0 f1 f2 := by subst hq; exact IsS58.drewN h m
theorem IsS58.apart {w0 W : World} {g : Nat} {f0 : List Int} {f1 : Int} {f2 : Bool} {α : Type} {d : Kd α} {e : Nat} {base : Nat} {ok : Nat → Prop} {v : Value} {xs : List α} (h : IsS58 w0 W g f0 f1 f2) (ho : d.R e W base ok v xs) (ht : ∀ q, q ∈ e :: d.E → q ≠ 58) : d.R e W base (fun k => ok k ∧ k ≠ g) v xs := by
  obtain ⟨A0, c0, hb, hg, hr0⟩ := h
  exact Kd.R_types ho hb ht
theorem IsS58.own_ne {w0 W : World} {g : Nat} {f0 : List Int} {f1 : Int} {f2 : Bool} {α : Type} {d : Kd α} {e : Nat} {base : Nat} {ok : Nat → Prop} {v : Value} {xs : List α} (h : IsS58 w0 W g f0 f1 f2) (ho : d.R e W base ok v xs) (ht : e ≠ 58) : some g ≠ v.ownBlock := by
  obtain ⟨A0, c0, hb, hg, hr0⟩ := h
  exact Kd.R_ne ho hb ht
theorem IsS58.apartQ {w0 W : World} {g : Nat} {f0 : List Int} {f1 : Int} {f2 : Bool} {α : Type} {d : Kd α} {e : Nat} {base : Nat} {ok : Nat → Prop} {v : Value} {xs : List α} (h : IsS58 w0 W g f0 f1 f2) (ho : d.Q e W base ok v xs) (ht : ∀ q, q ∈ e :: d.E → q ≠ 58) : d.Q e W base (fun k => ok k ∧ k ≠ g) v xs := by
  obtain ⟨A0, c0, hb, hg, hr0⟩ := h
  exact Kd.Q_types ho hb ht
theorem IsS58.own_neQ {w0 W : World} {g : Nat} {f0 : List Int} {f1 : Int} {f2 : Bool} {α : Type} {d : Kd α} {e : Nat} {base : Nat} {ok : Nat → Prop} {v : Value} {xs : List α} (h : IsS58 w0 W g f0 f1 f2) (ho : d.Q e W base ok v xs) (ht : e ≠ 58) : some g ≠ v.ownBlock := by
  obtain ⟨A0, c0, hb, hg, hr0⟩ := h
  exact Kd.Q_ne ho hb ht
theorem IsS58.apartS {w0 W : World} {g : Nat} {f0 : List Int} {f1 : Int} {f2 : Bool} {α : Type} {d : Kd α} {e : Nat} {base : Nat} {ok : Nat → Prop} {v : Value} {xs : List α} (h : IsS58 w0 W g f0 f1 f2) (ho : d.S e W base ok v xs) (ht : ∀ q, q ∈ e :: d.E → q ≠ 58) : d.S e W base (fun k => ok k ∧ k ≠ g) v xs := by
  obtain ⟨A0, c0, hb, hg, hr0⟩ := h
  exact Kd.S_types ho hb ht
theorem IsS58.own_neS {w0 W : World} {g : Nat} {f0 : List Int} {f1 : Int} {f2 : Bool} {α : Type} {d : Kd α} {e : Nat} {base : Nat} {ok : Nat → Prop} {v : Value} {xs : List α} (h : IsS58 w0 W g f0 f1 f2) (ho : d.S e W base ok v xs) (ht : e ≠ 58) : some g ≠ v.ownBlock := by
  obtain ⟨A0, c0, hb, hg, hr0⟩ := h
  exact Kd.S_ne ho hb ht
theorem IsS58.lt {w0 W : World} {g : Nat} {f0 : List Int} {f1 : Int} {f2 : Bool} (h : IsS58 w0 W g f0 f1 f2) : g < W.heap.size := by
  obtain ⟨A0, c0, hb, hg, hr0⟩ := h
  exact blk_lt hb
theorem IsS58.ge {w0 W : World} {g : Nat} {f0 : List Int} {f1 : Int} {f2 : Bool} (h : IsS58 w0 W g f0 f1 f2) : w0.heap.size ≤ g := by
  obtain ⟨A0, c0, hb, hg, hr0⟩ := h
  exact hg
theorem IsS58.ne_blk {w0 W : World} {g : Nat} {f0 : List Int} {f1 : Int} {f2 : Bool} {a : Nat} {cs : Array Value} {t : TypeId} {fr : Nat × Nat} (h : IsS58 w0 W g f0 f1 f2) (hb2 : W.heap[a]? = some (.cells cs t fr)) (ht : t ≠ 58) : g ≠ a := by
  obtain ⟨A0, c0, hb, hg, hr0⟩ := h
  rintro rfl
  rw [hb] at hb2
  injection hb2 with hb2
  injection hb2 with _ ht2
  exact ht ht2.symm
theorem IsS58.far {w0 W : World} {g : Nat} {f0 : List Int} {f1 : Int} {f2 : Bool} {p : Addr} (h : IsS58 w0 W g f0 f1 f2) (hne : g ≠ p.block) (u : Value) : IsS58 w0 (W.setCell p u) g f0 f1 f2 := by
  obtain ⟨A0, c0, hb, hg, hr0⟩ := h
  exact ⟨A0, c0, blk_far hb hne u, hg, hr0⟩
theorem cellS58_0 {W : World} {g : Nat} {A0 : Option Addr} {c0 : Nat} {f0 : List Int} {f1 : Int} {f2 : Bool} (h : W.heap[g]? = some (.cells #[.slice A0 f0.length c0, .int .i64 f1, .bool f2] 58 (0, 0))) : W.cell? ⟨g, 0, none⟩ = some (.slice A0 f0.length c0) := (blk_cell h 0).trans rfl
theorem cellS58_1 {W : World} {g : Nat} {A0 : Option Addr} {c0 : Nat} {f0 : List Int} {f1 : Int} {f2 : Bool} (h : W.heap[g]? = some (.cells #[.slice A0 f0.length c0, .int .i64 f1, .bool f2] 58 (0, 0))) : W.cell? ⟨g, 1, none⟩ = some (.int .i64 f1) := (blk_cell h 1).trans rfl
theorem IsS58.set_1 {w0 W : World} {g : Nat} {f0 : List Int} {f1 : Int} {f2 : Bool} (h : IsS58 w0 W g f0 f1 f2) (x : Int) : IsS58 w0 (W.setCell ⟨g, 1, none⟩ (.int .i64 x)) g f0 x f2 := by
  obtain ⟨A0, c0, hb, hg, hr0⟩ := h
  exact ⟨A0, c0, by simpa using blk_set hb 1 (.int .i64 x), hg, hr0⟩
theorem cellS58_2 {W : World} {g : Nat} {A0 : Option Addr} {c0 : Nat} {f0 : List Int} {f1 : Int} {f2 : Bool} (h : W.heap[g]? = some (.cells #[.slice A0 f0.length c0, .int .i64 f1, .bool f2] 58 (0, 0))) : W.cell? ⟨g, 2, none⟩ = some (.bool f2) := (blk_cell h 2).trans rfl
theorem IsS58.set_2 {w0 W : World} {g : Nat} {f0 : List Int} {f1 : Int} {f2 : Bool} (h : IsS58 w0 W g f0 f1 f2) (x : Bool) : IsS58 w0 (W.setCell ⟨g, 2, none⟩ (.bool x)) g f0 f1 x := by
  obtain ⟨A0, c0, hb, hg, hr0⟩ := h
  exact ⟨A0, c0, by simpa using blk_set hb 2 (.bool x), hg, hr0⟩
theorem IsS58.new (w0 W : World) (A0 : Option Addr) (c0 : Nat) (f0 : List Int) (f1 : Int) (f2 : Bool) (hB : Below w0.heap.size w0 W) (hr0 : (Kd.C (Kd.int .u8) w0 A0 f0.length f0 ∧ f0.length ≤ c0)) : IsS58 w0 (W.alloc (.cells #[.slice A0 f0.length c0, .int .i64 f1, .bool f2] 58)) W.heap.size f0 f1 f2 := ⟨A0, c0, by simpa using heap_alloc_new W _, hB.size, hr0⟩

/-! ### impl_wideReader_number: function 27 -/
def impl_wideReader_number.f (k : Nat) (s0_0 : List Int) (s0_1 : Int) (s0_2 : Bool) : Option (Int × Int × Bool) := if s0_2 = true then (some (0, s0_1, s0_2)) else ((impl_TakeWide.f k s0_0 s0_1).bind fun bt138 => (if bt138.2 < 0 then (some (0, s0_1, true)) else (some (bt138.1, bt138.2, s0_2))))
set_option maxHeartbeats 8000000 in
set_option maxRecDepth 100000 in
theorem impl_wideReader_number.calls (k : Nat) (g : Nat) (s0_0 : List Int) (s0_1 : Int) (s0_2 : Bool) (r1 : Int) (r2 : Int) (r3 : Bool) (w0 w : World) (hI : IsS58 w0 w g s0_0 s0_1 s0_2) (hB : Below w0.heap.size w0 w) (h : impl_wideReader_number.f k s0_0 s0_1 s0_2 = some (r1, r2, r3)) :
   Calls Try.prog 27 #[.pointer (some ⟨g, 0, none⟩)] w fun e w' => e = .returned (.int .i64 r1) ∧ IsS58 w0 w' g s0_0 r2 r3 ∧ Below w0.heap.size w0 w' ∧ KeepBut w w' g none := by
  have HI0 := Aside0.mk hI
  have HK := Aside0.mk (KeepBut.refl w g none)
  have HL := Aside0.mk hB.size
  clear hI
  have HW0 := Aside0.mk hB.size
  have HB := Aside0.mk hB
  clear hB
  have H : (if s0_2 = true then (some (0, s0_1, s0_2)) else ((impl_TakeWide.f k s0_0 s0_1).bind fun bt138 => (if bt138.2 < 0 then (some (0, s0_1, true)) else (some (bt138.1, bt138.2, s0_2))))) = some (r1, r2, r3) := h
  clear h
  by_cases c2 : s0_2 = true
  ·subst c2
   rw [if_pos rfl] at H
   simp only [Option.some.injEq, Prod.mk.injEq] at H
   obtain ⟨rfl, rfl, rfl⟩ := H
   obtain ⟨ASz3_0, cSz3_0, HGz3, hgz3, ⟨HSz3_0, HLz3_0⟩⟩ := HI0.out
   have hcz3_0 := cellS58_0 HGz3
   have hcz3_1 := cellS58_1 HGz3
   have hcz3_2 := cellS58_2 HGz3
   have hfz3_1 := blk_frozen HGz3 1
   have hfz3_2 := blk_frozen HGz3 2
   clear HGz3 hgz3
   go_enter Try.func27, Try.ntmps27
   go_wp2
   repeat (go_quiet (fail); try go_wp2)
   go_ret
   exact ⟨eqN, by repeat (first | (with_reducible first | exact HI0.out | apply IsS58.alloc | apply IsS58.drewN | apply IsS58.drew | apply IsS58.set_1 | apply IsS58.set_2) | exact HI0.out), by repeat (first | (with_reducible first | exact HB.out | apply below_alloc | apply pw_below_drewN | apply below_drew1 | refine below_set ?_ (IsS58.ge HI0.out)) | exact HB.out), by repeat (first | (with_reducible first | exact HK.out | apply KeepBut.set_ | apply keep_drewN | apply keep_drew | apply keep_alloc) | exact HK.out)⟩
  replace c2 := Bool.eq_false_iff.mpr c2
  subst c2
  rw [if_neg (show ¬ (false = true) by decide)] at H
  replace H := Option.bind_eq_some_iff.mp H
  obtain ⟨⟨t138, t139⟩, A40, H⟩ := H
  (try dsimp only at H)
  have A4 := Aside0.mk A40
  clear A40
  by_cases c5 : t139 < 0
  ·rw [if_pos c5] at H
   have c5b0 : decide (t139 < 0) = true := decide_eq_true c5
   clear c5
   simp only [Option.some.injEq, Prod.mk.injEq] at H
   obtain ⟨rfl, rfl, rfl⟩ := H
   obtain ⟨ASz6_0, cSz6_0, HGz6, hgz6, ⟨HSz6_0, HLz6_0⟩⟩ := HI0.out
   have hcz6_0 := cellS58_0 HGz6
   have hcz6_1 := cellS58_1 HGz6
   have hcz6_2 := cellS58_2 HGz6
   have hfz6_1 := blk_frozen HGz6 1
   have hfz6_2 := blk_frozen HGz6 2
   clear HGz6 hgz6
   go_enter Try.func27, Try.ntmps27
   go_wp2_with (first | (go_at_call 53; (with_reducible refine (impl_TakeWide.calls k _ _ s0_0 s0_1 t138 t139 _ ?side1 ?side2 A4.out).mono ?_); (case side1 => exact Kd.C_below HSz6_0 (by repeat (first | (with_reducible first | exact HB.out | apply below_alloc | apply pw_below_drewN | apply below_drew1 | refine below_set ?_ (IsS58.ge HI0.out)) | exact HB.out))); (case side2 => exact HLz6_0); rintro e w' ⟨rfl, ⟨nd, rfl⟩⟩; (try first | exact ⟨rfl, _, World.drewN_drewN _ _ _⟩ | exact ⟨rfl, _, Eq.trans (World.drewN_drewN _ _ _) (congrArg (World.drewN _) (Nat.add_assoc _ _ _))⟩)))
   repeat (go_quiet (first | (go_at_call 53; (with_reducible refine (impl_TakeWide.calls k _ _ s0_0 s0_1 t138 t139 _ ?side1 ?side2 A4.out).mono ?_); (case side1 => exact Kd.C_below HSz6_0 (by repeat (first | (with_reducible first | exact HB.out | apply below_alloc | apply pw_below_drewN | apply below_drew1 | refine below_set ?_ (IsS58.ge HI0.out)) | exact HB.out))); (case side2 => exact HLz6_0); rintro e w' ⟨rfl, ⟨nd, rfl⟩⟩; (try first | exact ⟨rfl, _, World.drewN_drewN _ _ _⟩ | exact ⟨rfl, _, Eq.trans (World.drewN_drewN _ _ _) (congrArg (World.drewN _) (Nat.add_assoc _ _ _))⟩))); try go_wp2_with (first | (go_at_call 53; (with_reducible refine (impl_TakeWide.calls k _ _ s0_0 s0_1 t138 t139 _ ?side1 ?side2 A4.out).mono ?_); (case side1 => exact Kd.C_below HSz6_0 (by repeat (first | (with_reducible first | exact HB.out | apply below_alloc | apply pw_below_drewN | apply below_drew1 | refine below_set ?_ (IsS58.ge HI0.out)) | exact HB.out))); (case side2 => exact HLz6_0); rintro e w' ⟨rfl, ⟨nd, rfl⟩⟩; (try first | exact ⟨rfl, _, World.drewN_drewN _ _ _⟩ | exact ⟨rfl, _, Eq.trans (World.drewN_drewN _ _ _) (congrArg (World.drewN _) (Nat.add_assoc _ _ _))⟩))))
   go_ret
   exact ⟨eqN, by repeat (first | (with_reducible first | exact HI0.out | apply IsS58.alloc | apply IsS58.drewN | apply IsS58.drew | apply IsS58.set_1 | apply IsS58.set_2) | exact HI0.out), by repeat (first | (with_reducible first | exact HB.out | apply below_alloc | apply pw_below_drewN | apply below_drew1 | refine below_set ?_ (IsS58.ge HI0.out)) | exact HB.out), by repeat (first | (with_reducible first | exact HK.out | apply KeepBut.set_ | apply keep_drewN | apply keep_drew | apply keep_alloc) | exact HK.out)⟩
  rw [if_neg c5] at H
  have c5b0 : decide (t139 < 0) = false := decide_eq_false c5
  clear c5
  simp only [Option.some.injEq, Prod.mk.injEq] at H
  obtain ⟨rfl, rfl, rfl⟩ := H
  obtain ⟨ASz7_0, cSz7_0, HGz7, hgz7, ⟨HSz7_0, HLz7_0⟩⟩ := HI0.out
  have hcz7_0 := cellS58_0 HGz7
  have hcz7_1 := cellS58_1 HGz7
  have hcz7_2 := cellS58_2 HGz7
  have hfz7_1 := blk_frozen HGz7 1
  have hfz7_2 := blk_frozen HGz7 2
  clear HGz7 hgz7
  go_enter Try.func27, Try.ntmps27
  go_wp2_with (first | (go_at_call 53; (with_reducible refine (impl_TakeWide.calls k _ _ s0_0 s0_1 t138 t139 _ ?side1 ?side2 A4.out).mono ?_); (case side1 => exact Kd.C_below HSz7_0 (by repeat (first | (with_reducible first | exact HB.out | apply below_alloc | apply pw_below_drewN | apply below_drew1 | refine below_set ?_ (IsS58.ge HI0.out)) | exact HB.out))); (case side2 => exact HLz7_0); rintro e w' ⟨rfl, ⟨nd, rfl⟩⟩; (try first | exact ⟨rfl, _, World.drewN_drewN _ _ _⟩ | exact ⟨rfl, _, Eq.trans (World.drewN_drewN _ _ _) (congrArg (World.drewN _) (Nat.add_assoc _ _ _))⟩)))
  repeat (go_quiet (first | (go_at_call 53; (with_reducible refine (impl_TakeWide.calls k _ _ s0_0 s0_1 t138 t139 _ ?side1 ?side2 A4.out).mono ?_); (case side1 => exact Kd.C_below HSz7_0 (by repeat (first | (with_reducible first | exact HB.out | apply below_alloc | apply pw_below_drewN | apply below_drew1 | refine below_set ?_ (IsS58.ge HI0.out)) | exact HB.out))); (case side2 => exact HLz7_0); rintro e w' ⟨rfl, ⟨nd, rfl⟩⟩; (try first | exact ⟨rfl, _, World.drewN_drewN _ _ _⟩ | exact ⟨rfl, _, Eq.trans (World.drewN_drewN _ _ _) (congrArg (World.drewN _) (Nat.add_assoc _ _ _))⟩))); try go_wp2_with (first | (go_at_call 53; (with_reducible refine (impl_TakeWide.calls k _ _ s0_0 s0_1 t138 t139 _ ?side1 ?side2 A4.out).mono ?_); (case side1 => exact Kd.C_below HSz7_0 (by repeat (first | (with_reducible first | exact HB.out | apply below_alloc | apply pw_below_drewN | apply below_drew1 | refine below_set ?_ (IsS58.ge HI0.out)) | exact HB.out))); (case side2 => exact HLz7_0); rintro e w' ⟨rfl, ⟨nd, rfl⟩⟩; (try first | exact ⟨rfl, _, World.drewN_drewN _ _ _⟩ | exact ⟨rfl, _, Eq.trans (World.drewN_drewN _ _ _) (congrArg (World.drewN _) (Nat.add_assoc _ _ _))⟩))))
  go_ret
  exact ⟨eqN, by repeat (first | (with_reducible first | exact HI0.out | apply IsS58.alloc | apply IsS58.drewN | apply IsS58.drew | apply IsS58.set_1 | apply IsS58.set_2) | exact HI0.out), by repeat (first | (with_reducible first | exact HB.out | apply below_alloc | apply pw_below_drewN | apply below_drew1 | refine below_set ?_ (IsS58.ge HI0.out)) | exact HB.out), by repeat (first | (with_reducible first | exact HK.out | apply KeepBut.set_ | apply keep_drewN | apply keep_drew | apply keep_alloc) | exact HK.out)⟩

/-! ### impl_wideReader_shape: function 26 -/
def impl_wideReader_shape.f (k : Nat) (s0_0 : List Int) (s0_1 : Int) (s0_2 : Bool) : Option (Int × Int × Int × Int × Bool) := (impl_wideReader_number.f k s0_0 s0_1 s0_2).bind fun bt141 => ((impl_wideReader_number.f k s0_0 bt141.2.1 bt141.2.2).bind fun bt144 => ((impl_wideReader_number.f k s0_0 bt144.2.1 bt144.2.2).bind fun bt147 => (some (bt141.1, bt144.1, bt147.1, bt147.2.1, bt147.2.2))))
set_option maxHeartbeats 8000000 in
set_option maxRecDepth 100000 in
theorem impl_wideReader_shape.calls (k : Nat) (g : Nat) (s0_0 : List Int) (s0_1 : Int) (s0_2 : Bool) (r1 : Int) (r2 : Int) (r3 : Int) (r4 : Int) (r5 : Bool) (w0 w : World) (hI : IsS58 w0 w g s0_0 s0_1 s0_2) (hB : Below w0.heap.size w0 w) (h : impl_wideReader_shape.f k s0_0 s0_1 s0_2 = some (r1, r2, r3, r4, r5)) :
   Calls Try.prog 26 #[.pointer (some ⟨g, 0, none⟩)] w fun e w' => e = .returned (.agg #[.int .i64 r1, .int .i64 r2, .int .i64 r3]) ∧ IsS58 w0 w' g s0_0 r4 r5 ∧ Below w0.heap.size w0 w' ∧ KeepBut w w' g none := by
  have hu24 := Try.underlying24
  have HI0 := Aside0.mk hI
  have HK := Aside0.mk (KeepBut.refl w g none)
  have HL := Aside0.mk hB.size
  clear hI
  have HW0 := Aside0.mk hB.size
  have HB := Aside0.mk hB
  clear hB
  have H : ((impl_wideReader_number.f k s0_0 s0_1 s0_2).bind fun bt141 => ((impl_wideReader_number.f k s0_0 bt141.2.1 bt141.2.2).bind fun bt144 => ((impl_wideReader_number.f k s0_0 bt144.2.1 bt144.2.2).bind fun bt147 => (some (bt141.1, bt144.1, bt147.1, bt147.2.1, bt147.2.2))))) = some (r1, r2, r3, r4, r5) := h
  clear h
  replace H := Option.bind_eq_some_iff.mp H
  obtain ⟨⟨t141, t142, t143⟩, A20, H⟩ := H
  (try dsimp only at H)
  have A2 := Aside0.mk A20
  clear A20
  replace H := Option.bind_eq_some_iff.mp H
  obtain ⟨⟨t144, t145, t146⟩, A30, H⟩ := H
  (try dsimp only at H)
  have A3 := Aside0.mk A30
  clear A30
  replace H := Option.bind_eq_some_iff.mp H
  obtain ⟨⟨t147, t148, t149⟩, A40, H⟩ := H
  (try dsimp only at H)
  have A4 := Aside0.mk A40
  clear A40
  simp only [Option.some.injEq, Prod.mk.injEq] at H
  obtain ⟨rfl, rfl, rfl, rfl, rfl⟩ := H
  go_enter Try.func26, Try.ntmps26
  go_wp2_with (first | ((with_reducible refine gate_dst (N := 2) rfl ?_); refine box_event ?hg (N := 2) ?hd (cs := #[.int .i64 0, .int .i64 0, .int .i64 0]) (t := 24) ?hr ?_; (case hd => rfl); (case hg => rfl); (case hr => first | (go_simp; done) | (go_simp; rfl)); intro gb140 hg w5 hbox hb; have n0_ := Aside0.mk (IsS58.below (by repeat (first | (with_reducible first | exact HI0.out | apply IsS58.alloc | apply IsS58.drewN | apply IsS58.drew | apply IsS58.set_1 | apply IsS58.set_2) | exact HI0.out)) hb); have n1_ := Aside0.mk (KeepBut.trans (by repeat (first | (with_reducible first | exact HK.out | apply KeepBut.set_ | apply keep_drewN | apply keep_drew | apply keep_alloc) | exact HK.out)) (KeepBut.of_below hb g none) (.inl rfl)); have n3_ := Aside0.mk (hbox); have n4_ := Aside0.mk ((by rw [hg]; exact (keep_size (w := w) (g := g) (row := none) (by repeat (first | (with_reducible first | exact HK.out | apply KeepBut.set_ | apply keep_drewN | apply keep_drew | apply keep_alloc) | exact HK.out))) : w.heap.size ≤ gb140)); have n5_ := Aside0.mk ((Nat.le_trans HW0.out (by rw [hg]; exact (keep_size (w := w) (g := g) (row := none) (by repeat (first | (with_reducible first | exact HK.out | apply KeepBut.set_ | apply keep_drewN | apply keep_drew | apply keep_alloc) | exact HK.out))) : w.heap.size ≤ gb140) : w0.heap.size ≤ gb140)); have n6_ := Aside0.mk ((by rw [hg]; exact Nat.ne_of_lt (IsS58.lt (show IsS58 w0 _ g s0_0 s0_1 s0_2 from by repeat (first | (with_reducible first | exact HI0.out | apply IsS58.alloc | apply IsS58.drewN | apply IsS58.drew | apply IsS58.set_1 | apply IsS58.set_2) | exact HI0.out))) : g ≠ gb140)); have n7_ := Aside0.mk ((by rw [hg]; exact Nat.ne_of_gt (IsS58.lt (show IsS58 w0 _ g s0_0 s0_1 s0_2 from by repeat (first | (with_reducible first | exact HI0.out | apply IsS58.alloc | apply IsS58.drewN | apply IsS58.drew | apply IsS58.set_1 | apply IsS58.set_2) | exact HI0.out))) : gb140 ≠ g)); have n2_ := Aside0.mk (below_step (by repeat (first | (with_reducible first | exact HB.out | apply below_alloc | apply pw_below_drewN | apply below_drew1 | refine below_set ?_ (IsS58.ge HI0.out)) | exact HB.out)) hb); clear HI0; clear HK; clear HB; have HI0 := n0_; have HK := n1_; have HB := n2_; have BK140 := n3_; have GW140 := n4_; have GE140 := n5_; have NB0_140 := n6_; have NB140_0 := n7_; clear n0_ n1_ n2_ n3_ n4_ n5_ n6_ n7_; clear hb hbox hg) | ((with_reducible refine gate_callee (f := 27) rfl ?_); refine goesM (some 6) rfl rfl Try.func27 (by kernel_rfl) rfl #[.pointer (some ⟨g, 0, none⟩)] rfl ?_; (with_reducible refine (impl_wideReader_number.calls k g s0_0 s0_1 s0_2 t141 t142 t143 w0 _ ?side1 ?side2 A2.out).mono ?_); (case side1 => repeat (first | (with_reducible first | exact HI0.out | apply IsS58.alloc | apply IsS58.drewN | apply IsS58.drew | apply IsS58.set_1 | apply IsS58.set_2 | refine IsS58.far ?_ NB0_140.out _) | exact HI0.out)); (case side2 => repeat (first | (with_reducible first | exact HB.out | apply below_alloc | apply pw_below_drewN | apply below_drew1 | refine below_set ?_ (IsS58.ge HI0.out) | refine below_set ?_ GE140.out) | exact HB.out)); rintro e w6 ⟨rfl, hi, hb, hk⟩; refine ⟨_, rfl, ?_⟩; have n0_ := Aside0.mk (KeepBut.blk hk (g' := gb140) (o := .cells #[.int .i64 0, .int .i64 0, .int .i64 0] 24 (0, 0)) blk_now NB140_0.out (by simp)); have n1_ := Aside0.mk (KeepBut.trans (by repeat (first | (with_reducible first | exact HK.out | apply KeepBut.set_ | apply keep_drewN | apply keep_drew | apply keep_alloc | refine keep_far ?_ GW140.out _) | exact HK.out)) hk (.inl rfl)); have n2_ := Aside0.mk (hb); have n3_ := Aside0.mk (hi); clear BK140; clear HK; clear HB; clear HI0; have BK140 := n0_; have HK := n1_; have HB := n2_; have HI0 := n3_; clear n0_ n1_ n2_ n3_; (try clear hb); (try clear hk); (try clear hi)) | ((with_reducible refine gate_callee (f := 27) rfl ?_); refine goesM (some 8) rfl rfl Try.func27 (by kernel_rfl) rfl #[.pointer (some ⟨g, 0, none⟩)] rfl ?_; (with_reducible refine (impl_wideReader_number.calls k g s0_0 t142 t143 t144 t145 t146 w0 _ ?side1 ?side2 A3.out).mono ?_); (case side1 => repeat (first | (with_reducible first | exact HI0.out | apply IsS58.alloc | apply IsS58.drewN | apply IsS58.drew | apply IsS58.set_1 | apply IsS58.set_2 | refine IsS58.far ?_ NB0_140.out _) | exact HI0.out)); (case side2 => repeat (first | (with_reducible first | exact HB.out | apply below_alloc | apply pw_below_drewN | apply below_drew1 | refine below_set ?_ (IsS58.ge HI0.out) | refine below_set ?_ GE140.out) | exact HB.out)); rintro e w7 ⟨rfl, hi, hb, hk⟩; refine ⟨_, rfl, ?_⟩; have n0_ := Aside0.mk (KeepBut.blk hk (g' := gb140) (o := .cells #[.int .i64 0, .int .i64 0, .int .i64 0] 24 (0, 0)) blk_now NB140_0.out (by simp)); have n1_ := Aside0.mk (KeepBut.trans (by repeat (first | (with_reducible first | exact HK.out | apply KeepBut.set_ | apply keep_drewN | apply keep_drew | apply keep_alloc | refine keep_far ?_ GW140.out _) | exact HK.out)) hk (.inl rfl)); have n2_ := Aside0.mk (hb); have n3_ := Aside0.mk (hi); clear BK140; clear HK; clear HB; clear HI0; have BK140 := n0_; have HK := n1_; have HB := n2_; have HI0 := n3_; clear n0_ n1_ n2_ n3_; (try clear hb); (try clear hk); (try clear hi)) | ((with_reducible refine gate_callee (f := 27) rfl ?_); refine goesM (some 12) rfl rfl Try.func27 (by kernel_rfl) rfl #[.pointer (some ⟨g, 0, none⟩)] rfl ?_; (with_reducible refine (impl_wideReader_number.calls k g s0_0 t145 t146 t147 t148 t149 w0 _ ?side1 ?side2 A4.out).mono ?_); (case side1 => repeat (first | (with_reducible first | exact HI0.out | apply IsS58.alloc | apply IsS58.drewN | apply IsS58.drew | apply IsS58.set_1 | apply IsS58.set_2 | refine IsS58.far ?_ NB0_140.out _) | exact HI0.out)); (case side2 => repeat (first | (with_reducible first | exact HB.out | apply below_alloc | apply pw_below_drewN | apply below_drew1 | refine below_set ?_ (IsS58.ge HI0.out) | refine below_set ?_ GE140.out) | exact HB.out)); rintro e w8 ⟨rfl, hi, hb, hk⟩; refine ⟨_, rfl, ?_⟩; have n0_ := Aside0.mk (KeepBut.blk hk (g' := gb140) (o := .cells #[.int .i64 0, .int .i64 0, .int .i64 0] 24 (0, 0)) blk_now NB140_0.out (by simp)); have n1_ := Aside0.mk (KeepBut.trans (by repeat (first | (with_reducible first | exact HK.out | apply KeepBut.set_ | apply keep_drewN | apply keep_drew | apply keep_alloc | refine keep_far ?_ GW140.out _) | exact HK.out)) hk (.inl rfl)); have n2_ := Aside0.mk (hb); have n3_ := Aside0.mk (hi); clear BK140; clear HK; clear HB; clear HI0; have BK140 := n0_; have HK := n1_; have HB := n2_; have HI0 := n3_; clear n0_ n1_ n2_ n3_; (try clear hb); (try clear hk); (try clear hi); have hn9 := ne2 NB140_0; have hcz10 := cells3 BK140.out))
  refine bodyPost_ret (results_cell_row rfl _ _ gb140 24 #[.int .i64 t141, .int .i64 t144, .int .i64 t147] (0, 0) _ rfl (blk_fars (puts3 BK140.out)) Try.underlying24 rfl (by kernel_rfl)) rfl ?_
  exact ⟨eqN, by repeat (first | (with_reducible first | exact HI0.out | apply IsS58.alloc | apply IsS58.drewN | apply IsS58.drew | apply IsS58.set_1 | apply IsS58.set_2 | refine IsS58.far ?_ NB0_140.out _) | exact HI0.out), by repeat (first | (with_reducible first | exact HB.out | apply below_alloc | apply pw_below_drewN | apply below_drew1 | refine below_set ?_ (IsS58.ge HI0.out) | refine below_set ?_ GE140.out) | exact HB.out), by repeat (first | (with_reducible first | exact HK.out | apply KeepBut.set_ | apply keep_drewN | apply keep_drew | apply keep_alloc | refine keep_far ?_ GW140.out _) | exact HK.out)⟩

/-! ### impl_HeadOf: function 8 -/
def impl_HeadOf.f (k : Nat) (l0 : List Int) : Option (Int × Int × Int × Int × Bool) := (bytes_HasPrefix.f l0 (([80, 77, 49] : List Int))).bind fun t154 => ((impl_wideReader_shape.f k l0 3 (!t154)).bind fun bt156 => ((impl_wideReader_number.f k l0 bt156.2.2.2.1 bt156.2.2.2.2).bind fun bt162 => (if bt162.2.2 = true then (some (0, 0, 0, 0, false)) else (some (bt156.1, bt156.2.1, bt156.2.2.1, bt162.1, true)))))
set_option maxHeartbeats 8000000 in
set_option maxRecDepth 100000 in
theorem impl_HeadOf.calls (k : Nat) (A0 : Option Addr) (c0 : Nat) (l0 : List Int) (r1 : Int) (r2 : Int) (r3 : Int) (r4 : Int) (r5 : Bool) (w : World) (hr0 : Kd.C (Kd.int .u8) w A0 l0.length l0) (hc0 : l0.length ≤ c0) (h : impl_HeadOf.f k l0 = some (r1, r2, r3, r4, r5)) :
   Calls Try.prog 8 #[.slice A0 l0.length c0] w fun e w' => e = .returned (.tuple #[.agg #[.int .i64 r1, .int .i64 r2, .int .i64 r3], .int .i64 r4, .bool r5]) ∧ Below w.heap.size w w' := by
  have hu24 := Try.underlying24
  have hu58 := Try.underlying58
  have HR0 := Aside0.mk hr0
  have HC0 := Aside0.mk hc0
  clear hr0 hc0
  have HB := Aside0.mk (Below.refl w.heap.size w)
  have H : ((bytes_HasPrefix.f l0 (([80, 77, 49] : List Int))).bind fun t154 => ((impl_wideReader_shape.f k l0 3 (!t154)).bind fun bt156 => ((impl_wideReader_number.f k l0 bt156.2.2.2.1 bt156.2.2.2.2).bind fun bt162 => (if bt162.2.2 = true then (some (0, 0, 0, 0, false)) else (some (bt156.1, bt156.2.1, bt156.2.2.1, bt162.1, true)))))) = some (r1, r2, r3, r4, r5) := h
  clear h
  obtain ⟨y151, hy151⟩ : ∃ y_ : List Int, y_ = (([80, 77, 49] : List Int)) := ⟨_, rfl⟩
  replace H : ((bytes_HasPrefix.f l0 y151).bind fun t154 => ((impl_wideReader_shape.f k l0 3 (!t154)).bind fun bt156 => ((impl_wideReader_number.f k l0 bt156.2.2.2.1 bt156.2.2.2.2).bind fun bt162 => (if bt162.2.2 = true then (some (0, 0, 0, 0, false)) else (some (bt156.1, bt156.2.1, bt156.2.2.1, bt162.1, true)))))) = some (r1, r2, r3, r4, r5) := by first | (rw [hy151]; with_reducible exact H) | (have H2_ := (Option.bind_some _ _).symm.trans H; rw [hy151]; with_reducible exact H2_) | (have H2_ := (Option.bind_some _ _).symm.trans H; with_reducible exact H2_) | with_reducible exact H | (rw [hy151]; exact H) | exact H
  have Ny151 := Aside0.mk hy151
  clear hy151
  replace H := Option.bind_eq_some_iff.mp H
  obtain ⟨t154, A20, H⟩ := H
  (try dsimp only at H)
  have A2 := Aside0.mk A20
  clear A20
  replace H := Option.bind_eq_some_iff.mp H
  obtain ⟨⟨t156, t157, t158, t159, t160⟩, A30, H⟩ := H
  (try dsimp only at H)
  have A3 := Aside0.mk A30
  clear A30
  replace H := Option.bind_eq_some_iff.mp H
  obtain ⟨⟨t162, t163, t164⟩, A40, H⟩ := H
  (try dsimp only at H)
  have A4 := Aside0.mk A40
  clear A40
  by_cases c5 : t164 = true
  ·subst c5
   rw [if_pos rfl] at H
   simp only [Option.some.injEq, Prod.mk.injEq] at H
   obtain ⟨rfl, rfl, rfl, rfl, rfl⟩ := H
   have kc := fun (w : World) (C : Array Value) (n c : Nat) => Lib.run_convert_bytes_const (P := Try.prog) w 22 5 C n c Try.underlying22 Try.underlying5
   go_enter Try.func8, Try.ntmps8
   go_wp2_with (first | ((with_reducible refine gate_dst (N := 2) rfl ?_); refine boxM 2 #[.int .i64 0, .int .i64 0, .int .i64 0] 24 ?_; intro gb150 hg w6 BK150 hb; replace HB := box_at w hb hg; obtain ⟨HB, GW150, GE150⟩ := HB; clear hb hg) | ((with_reducible refine gate_callee (f := 25) rfl ?_); refine goesM (some 12) rfl rfl Try.func25 (by kernel_rfl) rfl #[.slice A0 l0.length c0, .slice (some ⟨w6.heap.size, 0, none⟩) 3 3] rfl ?_; refine (bytes_HasPrefix.calls _ _ l0 (some ⟨w6.heap.size, 0, none⟩) 3 [80, 77, 49] t154 _ ?side1 ?side2 ?side3 ?side4 (by have h_ := A2.out; rw [Ny151.out] at h_; exact h_)).mono ?_; (case side1 => exact C_now HR0.out); (case side2 => exact HC0.out); (case side3 => repeat (first | exact lit_C (heap_alloc_new _ _) | (with_reducible refine Kd.C_drewN ?_ _) | (with_reducible refine Kd.C_drew ?_))); (case side4 => exact Nat.le_refl _); rintro e w' ⟨rfl, ⟨nd, rfl⟩⟩; refine ⟨_, rfl, ?_⟩; generalize hq_ : World.drewN _ _ = w7; have n0_ : Aside0 (w7.heap[gb150]? = some (.cells #[.int .i64 0, .int .i64 0, .int .i64 0] 24 (0, 0))) := ⟨by rw [← hq_]; exact blk_now⟩; have n1_ : Aside0 (Below w.heap.size w w7) := ⟨by rw [← hq_]; exact bel_now⟩; clear BK150 HB hq_; have BK150 := n0_; have HB := n1_; clear n0_ n1_) | ((with_reducible refine gate_dst (N := 15) rfl ?_); refine boxM 15 #[.slice A0 l0.length c0, .int .i64 3, .bool (!t154)] 58 ?_; intro gb155 hg w10 BK155 hb; replace HB := box_at w hb hg; obtain ⟨HB, GW155, GE155⟩ := HB; replace BK150 := box_on gb150 hb hg; obtain ⟨BK150, NB150_155, NB155_150⟩ := BK150; clear hb hg) | ((with_reducible refine gate_callee (f := 26) rfl ?_); refine goesM (some 17) rfl rfl Try.func26 (by kernel_rfl) rfl #[.pointer (some ⟨gb155, 0, none⟩)] rfl ?_; (with_reducible refine (impl_wideReader_shape.calls k gb155 l0 3 (!t154) t156 t157 t158 t159 t160 w _ ?side1 ?side2 A3.out).mono ?_); (case side1 => exact ⟨_, _, blk_now, GE155.out, ⟨HR0.out, HC0.out⟩⟩); (case side2 => exact bel_now); rintro e w11 ⟨rfl, hi, hb, hk⟩; refine ⟨_, rfl, ?_⟩; have n0_ := Aside0.mk (KeepBut.blk hk (g' := gb150) (o := .cells #[.int .i64 0, .int .i64 0, .int .i64 0] 24 (0, 0)) blk_now NB150_155.out (by simp)); have n2_ := Aside0.mk (hb); have n3_ := Aside0.mk (hi); clear BK150; clear HB; have BK150 := n0_; have HB := n2_; have HI155 := n3_; clear n0_ n2_ n3_; (try clear hb); (try clear hk); (try clear hi); (try clear BK155)) | ((with_reducible refine gate_dst (N := 6) rfl ?_); refine box_event ?hg (N := 6) ?hd (cs := #[.int .i64 0, .int .i64 0, .int .i64 0]) (t := 24) ?hr ?_; (case hd => rfl); (case hg => rfl); (case hr => first | (go_simp; done) | (go_simp; rfl)); intro gb161 hg w12 hbox hb; obtain ⟨n3_, n5_, n6_⟩ := box_sizes (by repeat (first | (with_reducible first | exact HB.out | apply below_alloc | apply pw_below_drewN | apply below_drew1 | refine below_set ?_ (IsS58.ge HI155.out) | refine below_set ?_ GE150.out) | exact HB.out)) hb hg; obtain ⟨n1_, n7_, n8_⟩ := box_blk (g := gb150) blk_now hb hg; have n2_ := Aside0.mk (IsS58.below (by repeat (first | (with_reducible first | exact HI155.out | apply IsS58.alloc | apply IsS58.drewN | apply IsS58.drew | apply IsS58.set_1 | apply IsS58.set_2 | refine IsS58.far ?_ NB155_150.out _) | exact HI155.out)) hb); have n4_ := Aside0.mk (hbox); have n9_ := Aside0.mk ((by rw [hg]; exact Nat.ne_of_lt (IsS58.lt (show IsS58 w _ gb155 l0 t159 t160 from by repeat (first | (with_reducible first | exact HI155.out | apply IsS58.alloc | apply IsS58.drewN | apply IsS58.drew | apply IsS58.set_1 | apply IsS58.set_2 | refine IsS58.far ?_ NB155_150.out _) | exact HI155.out))) : gb155 ≠ gb161)); have n10_ := Aside0.mk ((by rw [hg]; exact Nat.ne_of_gt (IsS58.lt (show IsS58 w _ gb155 l0 t159 t160 from by repeat (first | (with_reducible first | exact HI155.out | apply IsS58.alloc | apply IsS58.drewN | apply IsS58.drew | apply IsS58.set_1 | apply IsS58.set_2 | refine IsS58.far ?_ NB155_150.out _) | exact HI155.out))) : gb161 ≠ gb155)); clear BK150; clear HI155; clear HB; have BK150 := n1_; have HI155 := n2_; have HB := n3_; have BK161 := n4_; have GW161 := n5_; have GE161 := n6_; have NB150_161 := n7_; have NB161_150 := n8_; have NB155_161 := n9_; have NB161_155 := n10_; clear n1_ n2_ n3_ n4_ n5_ n6_ n7_ n8_ n9_ n10_; clear hb hbox hg; have hn13 := ne2 NB161_150; have hn14 := ne2 NB161_155; have hcz15 := cells3 BK161.out) | ((with_reducible refine gate_callee (f := 27) rfl ?_); refine goesM (some 19) rfl rfl Try.func27 (by kernel_rfl) rfl #[.pointer (some ⟨gb155, 0, none⟩)] rfl ?_; (with_reducible refine (impl_wideReader_number.calls k gb155 l0 t159 t160 t162 t163 true w _ ?side1 ?side2 A4.out).mono ?_); (case side1 => repeat (first | (with_reducible first | exact HI155.out | apply IsS58.alloc | apply IsS58.drewN | apply IsS58.drew | apply IsS58.set_1 | apply IsS58.set_2 | refine IsS58.far ?_ NB155_150.out _ | refine IsS58.far ?_ NB155_161.out _) | exact HI155.out)); (case side2 => repeat (first | (with_reducible first | exact HB.out | apply below_alloc | apply pw_below_drewN | apply below_drew1 | refine below_set ?_ (IsS58.ge HI155.out) | refine below_set ?_ GE150.out | refine below_set ?_ GE161.out) | exact HB.out)); rintro e w16 ⟨rfl, hi, hb, hk⟩; refine ⟨_, rfl, ?_⟩; have n0_ := Aside0.mk (KeepBut.blk hk (g' := gb150) (o := .cells #[.int .i64 0, .int .i64 0, .int .i64 0] 24 (0, 0)) (blk_fars BK150.out) NB150_155.out (by simp)); have n2_ := Aside0.mk (KeepBut.blk hk (g' := gb161) (o := .cells #[.int .i64 t156, .int .i64 t157, .int .i64 t158] 24 (0, 0)) (blk_fars (puts3 BK161.out)) NB161_155.out (by simp)); have n3_ := Aside0.mk (hb); have n4_ := Aside0.mk (hi); clear BK150; clear BK161; clear HB; clear HI155; have BK150 := n0_; have BK161 := n2_; have HB := n3_; have HI155 := n4_; clear n0_ n2_ n3_ n4_; (try clear hb); (try clear hk); (try clear hi); obtain ⟨ASz17_0, cSz17_0, HGz17, hgz17, ⟨HSz17_0, HLz17_0⟩⟩ := HI155.out; have hcz17_0 := cellS58_0 HGz17; have hcz17_1 := cellS58_1 HGz17; have hcz17_2 := cellS58_2 HGz17; have hfz17_1 := blk_frozen HGz17 1; have hfz17_2 := blk_frozen HGz17 2; clear HGz17 hgz17; have hn18 := ne2 NB150_155; have hcz19 := cells3 BK150.out))
   refine bodyPost_ret (results_ctt rfl _ _ gb150 24 #[.int .i64 0, .int .i64 0, .int .i64 0] (0, 0) _ rfl (blk_fars (puts3 BK150.out)) Try.underlying24 rfl (by kernel_rfl)) rfl ?_
   exact ⟨eqN, by repeat (first | (with_reducible first | exact HB.out | apply below_alloc | apply pw_below_drewN | apply below_drew1 | refine below_set ?_ (IsS58.ge HI155.out) | refine below_set ?_ GE150.out | refine below_set ?_ GE161.out) | exact HB.out)⟩
  replace c5 := Bool.eq_false_iff.mpr c5
  subst c5
  rw [if_neg (show ¬ (false = true) by decide)] at H
  simp only [Option.some.injEq, Prod.mk.injEq] at H
  obtain ⟨rfl, rfl, rfl, rfl, rfl⟩ := H
  have kc := fun (w : World) (C : Array Value) (n c : Nat) => Lib.run_convert_bytes_const (P := Try.prog) w 22 5 C n c Try.underlying22 Try.underlying5
  go_enter Try.func8, Try.ntmps8
  go_wp2_with (first | ((with_reducible refine gate_dst (N := 2) rfl ?_); refine boxM 2 #[.int .i64 0, .int .i64 0, .int .i64 0] 24 ?_; intro gb150 hg w20 BK150 hb; replace HB := box_at w hb hg; obtain ⟨HB, GW150, GE150⟩ := HB; clear hb hg) | ((with_reducible refine gate_callee (f := 25) rfl ?_); refine goesM (some 12) rfl rfl Try.func25 (by kernel_rfl) rfl #[.slice A0 l0.length c0, .slice (some ⟨w20.heap.size, 0, none⟩) 3 3] rfl ?_; refine (bytes_HasPrefix.calls _ _ l0 (some ⟨w20.heap.size, 0, none⟩) 3 [80, 77, 49] t154 _ ?side1 ?side2 ?side3 ?side4 (by have h_ := A2.out; rw [Ny151.out] at h_; exact h_)).mono ?_; (case side1 => exact C_now HR0.out); (case side2 => exact HC0.out); (case side3 => repeat (first | exact lit_C (heap_alloc_new _ _) | (with_reducible refine Kd.C_drewN ?_ _) | (with_reducible refine Kd.C_drew ?_))); (case side4 => exact Nat.le_refl _); rintro e w' ⟨rfl, ⟨nd, rfl⟩⟩; refine ⟨_, rfl, ?_⟩; generalize hq_ : World.drewN _ _ = w21; have n0_ : Aside0 (w21.heap[gb150]? = some (.cells #[.int .i64 0, .int .i64 0, .int .i64 0] 24 (0, 0))) := ⟨by rw [← hq_]; exact blk_now⟩; have n1_ : Aside0 (Below w.heap.size w w21) := ⟨by rw [← hq_]; exact bel_now⟩; clear BK150 HB hq_; have BK150 := n0_; have HB := n1_; clear n0_ n1_) | ((with_reducible refine gate_dst (N := 15) rfl ?_); refine boxM 15 #[.slice A0 l0.length c0, .int .i64 3, .bool (!t154)] 58 ?_; intro gb155 hg w24 BK155 hb; replace HB := box_at w hb hg; obtain ⟨HB, GW155, GE155⟩ := HB; replace BK150 := box_on gb150 hb hg; obtain ⟨BK150, NB150_155, NB155_150⟩ := BK150; clear hb hg) | ((with_reducible refine gate_callee (f := 26) rfl ?_); refine goesM (some 17) rfl rfl Try.func26 (by kernel_rfl) rfl #[.pointer (some ⟨gb155, 0, none⟩)] rfl ?_; (with_reducible refine (impl_wideReader_shape.calls k gb155 l0 3 (!t154) t156 t157 t158 t159 t160 w _ ?side1 ?side2 A3.out).mono ?_); (case side1 => exact ⟨_, _, blk_now, GE155.out, ⟨HR0.out, HC0.out⟩⟩); (case side2 => exact bel_now); rintro e w25 ⟨rfl, hi, hb, hk⟩; refine ⟨_, rfl, ?_⟩; have n0_ := Aside0.mk (KeepBut.blk hk (g' := gb150) (o := .cells #[.int .i64 0, .int .i64 0, .int .i64 0] 24 (0, 0)) blk_now NB150_155.out (by simp)); have n2_ := Aside0.mk (hb); have n3_ := Aside0.mk (hi); clear BK150; clear HB; have BK150 := n0_; have HB := n2_; have HI155 := n3_; clear n0_ n2_ n3_; (try clear hb); (try clear hk); (try clear hi); (try clear BK155)) | ((with_reducible refine gate_dst (N := 6) rfl ?_); refine box_event ?hg (N := 6) ?hd (cs := #[.int .i64 0, .int .i64 0, .int .i64 0]) (t := 24) ?hr ?_; (case hd => rfl); (case hg => rfl); (case hr => first | (go_simp; done) | (go_simp; rfl)); intro gb161 hg w26 hbox hb; obtain ⟨n3_, n5_, n6_⟩ := box_sizes (by repeat (first | (with_reducible first | exact HB.out | apply below_alloc | apply pw_below_drewN | apply below_drew1 | refine below_set ?_ (IsS58.ge HI155.out) | refine below_set ?_ GE150.out) | exact HB.out)) hb hg; obtain ⟨n1_, n7_, n8_⟩ := box_blk (g := gb150) blk_now hb hg; have n2_ := Aside0.mk (IsS58.below (by repeat (first | (with_reducible first | exact HI155.out | apply IsS58.alloc | apply IsS58.drewN | apply IsS58.drew | apply IsS58.set_1 | apply IsS58.set_2 | refine IsS58.far ?_ NB155_150.out _) | exact HI155.out)) hb); have n4_ := Aside0.mk (hbox); have n9_ := Aside0.mk ((by rw [hg]; exact Nat.ne_of_lt (IsS58.lt (show IsS58 w _ gb155 l0 t159 t160 from by repeat (first | (with_reducible first | exact HI155.out | apply IsS58.alloc | apply IsS58.drewN | apply IsS58.drew | apply IsS58.set_1 | apply IsS58.set_2 | refine IsS58.far ?_ NB155_150.out _) | exact HI155.out))) : gb155 ≠ gb161)); have n10_ := Aside0.mk ((by rw [hg]; exact Nat.ne_of_gt (IsS58.lt (show IsS58 w _ gb155 l0 t159 t160 from by repeat (first | (with_reducible first | exact HI155.out | apply IsS58.alloc | apply IsS58.drewN | apply IsS58.drew | apply IsS58.set_1 | apply IsS58.set_2 | refine IsS58.far ?_ NB155_150.out _) | exact HI155.out))) : gb161 ≠ gb155)); clear BK150; clear HI155; clear HB; have BK150 := n1_; have HI155 := n2_; have HB := n3_; have BK161 := n4_; have GW161 := n5_; have GE161 := n6_; have NB150_161 := n7_; have NB161_150 := n8_; have NB155_161 := n9_; have NB161_155 := n10_; clear n1_ n2_ n3_ n4_ n5_ n6_ n7_ n8_ n9_ n10_; clear hb hbox hg; have hn27 := ne2 NB161_150; have hn28 := ne2 NB161_155; have hcz29 := cells3 BK161.out) | ((with_reducible refine gate_callee (f := 27) rfl ?_); refine goesM (some 19) rfl rfl Try.func27 (by kernel_rfl) rfl #[.pointer (some ⟨gb155, 0, none⟩)] rfl ?_; (with_reducible refine (impl_wideReader_number.calls k gb155 l0 t159 t160 t162 t163 false w _ ?side1 ?side2 A4.out).mono ?_); (case side1 => repeat (first | (with_reducible first | exact HI155.out | apply IsS58.alloc | apply IsS58.drewN | apply IsS58.drew | apply IsS58.set_1 | apply IsS58.set_2 | refine IsS58.far ?_ NB155_150.out _ | refine IsS58.far ?_ NB155_161.out _) | exact HI155.out)); (case side2 => repeat (first | (with_reducible first | exact HB.out | apply below_alloc | apply pw_below_drewN | apply below_drew1 | refine below_set ?_ (IsS58.ge HI155.out) | refine below_set ?_ GE150.out | refine below_set ?_ GE161.out) | exact HB.out)); rintro e w30 ⟨rfl, hi, hb, hk⟩; refine ⟨_, rfl, ?_⟩; have n0_ := Aside0.mk (KeepBut.blk hk (g' := gb150) (o := .cells #[.int .i64 0, .int .i64 0, .int .i64 0] 24 (0, 0)) (blk_fars BK150.out) NB150_155.out (by simp)); have n2_ := Aside0.mk (KeepBut.blk hk (g' := gb161) (o := .cells #[.int .i64 t156, .int .i64 t157, .int .i64 t158] 24 (0, 0)) (blk_fars (puts3 BK161.out)) NB161_155.out (by simp)); have n3_ := Aside0.mk (hb); have n4_ := Aside0.mk (hi); clear BK150; clear BK161; clear HB; clear HI155; have BK150 := n0_; have BK161 := n2_; have HB := n3_; have HI155 := n4_; clear n0_ n2_ n3_ n4_; (try clear hb); (try clear hk); (try clear hi); obtain ⟨ASz31_0, cSz31_0, HGz31, hgz31, ⟨HSz31_0, HLz31_0⟩⟩ := HI155.out; have hcz31_0 := cellS58_0 HGz31; have hcz31_1 := cellS58_1 HGz31; have hcz31_2 := cellS58_2 HGz31; have hfz31_1 := blk_frozen HGz31 1; have hfz31_2 := blk_frozen HGz31 2; clear HGz31 hgz31; have hcz32 := cells3 BK161.out; have hn33 := ne2 NB150_155; have hcz34 := cells3 BK150.out))
  refine bodyPost_ret (results_ctt rfl _ _ gb150 24 #[.int .i64 t156, .int .i64 t157, .int .i64 t158] (0, 0) _ rfl (blk_fars (puts3 BK150.out)) Try.underlying24 rfl (by kernel_rfl)) rfl ?_
  exact ⟨eqN, by repeat (first | (with_reducible first | exact HB.out | apply below_alloc | apply pw_below_drewN | apply below_drew1 | refine below_set ?_ (IsS58.ge HI155.out) | refine below_set ?_ GE150.out | refine below_set ?_ GE161.out) | exact HB.out)⟩

/-! ### laws_eqShape: function 9 -/
def laws_eqShape.f (a0_0 : Int) (a0_1 : Int) (a0_2 : Int) (a1_0 : Int) (a1_1 : Int) (a1_2 : Int) : Option (Bool) := if a0_0 = a1_0 then (if a0_1 = a1_1 then (if a0_2 = a1_2 then (some true) else (some false)) else (some false)) else (some false)
set_option maxHeartbeats 8000000 in
set_option maxRecDepth 100000 in
theorem laws_eqShape.calls (a0_0 : Int) (a0_1 : Int) (a0_2 : Int) (a1_0 : Int) (a1_1 : Int) (a1_2 : Int) (r : Bool) (w : World) (h : laws_eqShape.f a0_0 a0_1 a0_2 a1_0 a1_1 a1_2 = some r) :
   Calls Try.prog 9 #[.agg #[.int .i64 a0_0, .int .i64 a0_1, .int .i64 a0_2], .agg #[.int .i64 a1_0, .int .i64 a1_1, .int .i64 a1_2]] w fun e w' => e = .returned (.bool r) ∧ Below w.heap.size w w' := by
  have hu24 := Try.underlying24
  have HB := Aside0.mk (Below.refl w.heap.size w)
  have H : (if a0_0 = a1_0 then (if a0_1 = a1_1 then (if a0_2 = a1_2 then (some true) else (some false)) else (some false)) else (some false)) = some r := h
  clear h
  by_cases c3 : a0_0 = a1_0
  rotate_left
  ·rw [if_neg c3] at H
   have c3b0 : (a0_0 == a1_0) = false := beq_eq_false_iff_ne.mpr c3
   have c3b1 : (a0_0 != a1_0) = true := bne_iff_ne.mpr c3
   obtain rfl := Option.some.inj H
   go_enter Try.func9, Try.ntmps9
   go_wp2_with (first | ((with_reducible refine gate_dst (N := 2) rfl ?_); refine boxM 2 #[.int .i64 a0_0, .int .i64 a0_1, .int .i64 a0_2] 24 ?_; intro gb165 hg w21 BK165 hb; replace HB := box_at w hb hg; obtain ⟨HB, GW165, GE165⟩ := HB; clear hb hg) | ((with_reducible refine gate_dst (N := 3) rfl ?_); refine boxM 3 #[.int .i64 a1_0, .int .i64 a1_1, .int .i64 a1_2] 24 ?_; intro gb166 hg w22 BK166 hb; replace HB := box_at w hb hg; obtain ⟨HB, GW166, GE166⟩ := HB; replace BK165 := box_on gb165 hb hg; obtain ⟨BK165, NB165_166, NB166_165⟩ := BK165; clear hb hg; have hn23 := ne2 NB165_166; have hcz24 := cells3 BK165.out; have hcz25 := cells3 BK166.out))
   go_ret
   exact ⟨eqN, bel_now⟩
  rw [if_pos c3] at H
  have c3b0 : (a0_0 == a1_0) = true := beq_iff_eq.mpr c3
  have c3b1 : (a0_0 != a1_0) = false := bne_eq_false_iff_eq.mpr c3
  clear c3
  by_cases c4 : a0_1 = a1_1
  rotate_left
  ·rw [if_neg c4] at H
   have c4b0 : (a0_1 == a1_1) = false := beq_eq_false_iff_ne.mpr c4
   have c4b1 : (a0_1 != a1_1) = true := bne_iff_ne.mpr c4
   obtain rfl := Option.some.inj H
   go_enter Try.func9, Try.ntmps9
   go_wp2_with (first | ((with_reducible refine gate_dst (N := 2) rfl ?_); refine boxM 2 #[.int .i64 a0_0, .int .i64 a0_1, .int .i64 a0_2] 24 ?_; intro gb165 hg w16 BK165 hb; replace HB := box_at w hb hg; obtain ⟨HB, GW165, GE165⟩ := HB; clear hb hg) | ((with_reducible refine gate_dst (N := 3) rfl ?_); refine boxM 3 #[.int .i64 a1_0, .int .i64 a1_1, .int .i64 a1_2] 24 ?_; intro gb166 hg w17 BK166 hb; replace HB := box_at w hb hg; obtain ⟨HB, GW166, GE166⟩ := HB; replace BK165 := box_on gb165 hb hg; obtain ⟨BK165, NB165_166, NB166_165⟩ := BK165; clear hb hg; have hn18 := ne2 NB165_166; have hcz19 := cells3 BK165.out; have hcz20 := cells3 BK166.out))
   go_ret
   exact ⟨eqN, bel_now⟩
  rw [if_pos c4] at H
  have c4b0 : (a0_1 == a1_1) = true := beq_iff_eq.mpr c4
  have c4b1 : (a0_1 != a1_1) = false := bne_eq_false_iff_eq.mpr c4
  clear c4
  by_cases c5 : a0_2 = a1_2
  ·rw [if_pos c5] at H
   have c5b0 : (a0_2 == a1_2) = true := beq_iff_eq.mpr c5
   have c5b1 : (a0_2 != a1_2) = false := bne_eq_false_iff_eq.mpr c5
   clear c5
   obtain rfl := Option.some.inj H
   go_enter Try.func9, Try.ntmps9
   go_wp2_with (first | ((with_reducible refine gate_dst (N := 2) rfl ?_); refine boxM 2 #[.int .i64 a0_0, .int .i64 a0_1, .int .i64 a0_2] 24 ?_; intro gb165 hg w6 BK165 hb; replace HB := box_at w hb hg; obtain ⟨HB, GW165, GE165⟩ := HB; clear hb hg) | ((with_reducible refine gate_dst (N := 3) rfl ?_); refine boxM 3 #[.int .i64 a1_0, .int .i64 a1_1, .int .i64 a1_2] 24 ?_; intro gb166 hg w7 BK166 hb; replace HB := box_at w hb hg; obtain ⟨HB, GW166, GE166⟩ := HB; replace BK165 := box_on gb165 hb hg; obtain ⟨BK165, NB165_166, NB166_165⟩ := BK165; clear hb hg; have hn8 := ne2 NB165_166; have hcz9 := cells3 BK165.out; have hcz10 := cells3 BK166.out))
   go_ret
   exact ⟨eqN, bel_now⟩
  rw [if_neg c5] at H
  have c5b0 : (a0_2 == a1_2) = false := beq_eq_false_iff_ne.mpr c5
  have c5b1 : (a0_2 != a1_2) = true := bne_iff_ne.mpr c5
  obtain rfl := Option.some.inj H
  go_enter Try.func9, Try.ntmps9
  go_wp2_with (first | ((with_reducible refine gate_dst (N := 2) rfl ?_); refine boxM 2 #[.int .i64 a0_0, .int .i64 a0_1, .int .i64 a0_2] 24 ?_; intro gb165 hg w11 BK165 hb; replace HB := box_at w hb hg; obtain ⟨HB, GW165, GE165⟩ := HB; clear hb hg) | ((with_reducible refine gate_dst (N := 3) rfl ?_); refine boxM 3 #[.int .i64 a1_0, .int .i64 a1_1, .int .i64 a1_2] 24 ?_; intro gb166 hg w12 BK166 hb; replace HB := box_at w hb hg; obtain ⟨HB, GW166, GE166⟩ := HB; replace BK165 := box_on gb165 hb hg; obtain ⟨BK165, NB165_166, NB166_165⟩ := BK165; clear hb hg; have hn13 := ne2 NB165_166; have hcz14 := cells3 BK165.out; have hcz15 := cells3 BK166.out))
  go_ret
  exact ⟨eqN, bel_now⟩

end Go.Proofs.Ytjmejobelkllmaa.PFnExactHeadOf
