-- Printed by the session's own program (wip/myprint.py) for this claim out of the translation. Not trusted: Lean checks it.
import Derived.Test.YtenajdbekdfnjaaPFnExactTakeWidex0
import Derived.Test.YtenajdbekdfnjaaPFnExactTakeWidex1
namespace Go.Proofs.Ytenajdbekdfnjaa.PFnExactTakeWide
open Go.RowKit Go.Proofs.YtenajdbekdfnjaaW.PrintWords Go.Proofs.YtenajdbekdfnjaaW.PrintLast Go.Proofs.YtenajdbekdfnjaaW.PrintMore
attribute [local go_sem] max2_int min2_int max_two min_two max_three min_three max_four min_four   -- for this text's walks alone
set_option linter.unusedVariables false
set_option linter.unusedSimpArgs false

/-! ### impl_TakeWide: function 23 -/
def impl_TakeWide.l0 : Nat → Int → Int → List Int → Int → Int → Option (Int × Int)
  | 0, _, _, _, _, _ => none
  | k + 1, x1, x6, x23, x24, x25 => if x25 < x24 then (if 0 ≤ x25 then (if x25 < (x23.length : Int) then (if 0 ≤ (wrap64 (7 * x25)) then (if (rd x23 x25) ≥ 128 then (impl_TakeWide.l0 k x1 (Go.bits .or .i64 x6 (shl .i64 (wrap64 (Go.bits .and .u8 (rd x23 x25) 127)) (wrap64 (7 * x25)))) x23 x24 (wrap64 (x25 + 1))) else (if (Int.tmod (Go.bits .or .i64 x6 (shl .i64 (wrap64 (Go.bits .and .u8 (rd x23 x25) 127)) (wrap64 (7 * x25)))) 2) = 1 then (if x25 > 0 then (if (rd x23 x25) = 0 then (some (0, (-1))) else ((impl_isWide.f (wrap64 ((wrap64 (-(wrap64 (Int.tdiv (Go.bits .or .i64 x6 (shl .i64 (wrap64 (Go.bits .and .u8 (rd x23 x25) 127)) (wrap64 (7 * x25)))) 2)))) - 1))).bind fun t111 => (if t111 = true then (some (wrap64 ((wrap64 (-(wrap64 (Int.tdiv (Go.bits .or .i64 x6 (shl .i64 (wrap64 (Go.bits .and .u8 (rd x23 x25) 127)) (wrap64 (7 * x25)))) 2)))) - 1), wrap64 ((wrap64 (x1 + x25)) + 1))) else (some (0, (-1)))))) else ((impl_isWide.f (wrap64 ((wrap64 (-(wrap64 (Int.tdiv (Go.bits .or .i64 x6 (shl .i64 (wrap64 (Go.bits .and .u8 (rd x23 x25) 127)) (wrap64 (7 * x25)))) 2)))) - 1))).bind fun t112 => (if t112 = true then (some (wrap64 ((wrap64 (-(wrap64 (Int.tdiv (Go.bits .or .i64 x6 (shl .i64 (wrap64 (Go.bits .and .u8 (rd x23 x25) 127)) (wrap64 (7 * x25)))) 2)))) - 1), wrap64 ((wrap64 (x1 + x25)) + 1))) else (some (0, (-1)))))) else (if x25 > 0 then (if (rd x23 x25) = 0 then (some (0, (-1))) else ((impl_isWide.f (wrap64 (Int.tdiv (Go.bits .or .i64 x6 (shl .i64 (wrap64 (Go.bits .and .u8 (rd x23 x25) 127)) (wrap64 (7 * x25)))) 2))).bind fun t113 => (if t113 = true then (some (wrap64 (Int.tdiv (Go.bits .or .i64 x6 (shl .i64 (wrap64 (Go.bits .and .u8 (rd x23 x25) 127)) (wrap64 (7 * x25)))) 2), wrap64 ((wrap64 (x1 + x25)) + 1))) else (some (0, (-1)))))) else ((impl_isWide.f (wrap64 (Int.tdiv (Go.bits .or .i64 x6 (shl .i64 (wrap64 (Go.bits .and .u8 (rd x23 x25) 127)) (wrap64 (7 * x25)))) 2))).bind fun t114 => (if t114 = true then (some (wrap64 (Int.tdiv (Go.bits .or .i64 x6 (shl .i64 (wrap64 (Go.bits .and .u8 (rd x23 x25) 127)) (wrap64 (7 * x25)))) 2), wrap64 ((wrap64 (x1 + x25)) + 1))) else (some (0, (-1)))))))) else (none)) else (none)) else (none)) else (some (0, (-1)))
def impl_TakeWide.f (k : Nat) (l0 : List Int) (a1 : Int) : Option (Int × Int) := (impl_in.f a1 0 (wrap64 ((l0.length : Int) - 1))).bind fun t108 => (if t108 = true then (if 0 ≤ a1 then (if a1 ≤ (mn (l0.length : Int) (wrap64 (a1 + 6))) then (if (mn (l0.length : Int) (wrap64 (a1 + 6))) ≤ (l0.length : Int) then (impl_TakeWide.l0 k a1 0 ((l0.take ((mn (l0.length : Int) (wrap64 (a1 + 6))) : Int).toNat).drop (a1 : Int).toNat) (((l0.take ((mn (l0.length : Int) (wrap64 (a1 + 6))) : Int).toNat).drop (a1 : Int).toNat).length : Int) 0) else (none)) else (none)) else (none)) else (some (0, (-1))))
theorem impl_TakeWide.mono_l : ∀ k, (∀ y0 y1 y2 y3 y4, LeO (impl_TakeWide.l0 k y0 y1 y2 y3 y4) (impl_TakeWide.l0 (k + 1) y0 y1 y2 y3 y4))
  | 0 => fun _ _ _ _ _ r h => by simp [impl_TakeWide.l0] at h
  | k + 1 => by
    have ih0 := impl_TakeWide.mono_l k
    · intro y0 y1 y2 y3 y4
      unfold impl_TakeWide.l0
      repeat' first
      | (with_reducible exact ih0 _ _ _ _ _)
      | (with_reducible exact LeO.refl _)
      | (with_reducible exact LeO.none _)
      | (with_reducible refine LeO.ite ?_ ?_)
      | (with_reducible refine LeO.bind ?_ (fun _ => ?_))
      | exact ih0 _ _ _ _ _
      | exact LeO.none _
      | refine LeO.ite ?_ ?_
      | refine LeO.bind ?_ (fun _ => ?_)
theorem impl_TakeWide.mono : ∀ a0 a1 k, LeO (impl_TakeWide.f k a0 a1) (impl_TakeWide.f (k + 1) a0 a1) := by
  intro a0 a1 k
  have ih0 := impl_TakeWide.mono_l k
  unfold impl_TakeWide.f
  repeat' first
      | (with_reducible exact ih0 _ _ _ _ _)
      | (with_reducible exact LeO.refl _)
      | (with_reducible exact LeO.none _)
      | (with_reducible refine LeO.ite ?_ ?_)
      | (with_reducible refine LeO.bind ?_ (fun _ => ?_))
      | exact ih0 _ _ _ _ _
      | exact LeO.none _
      | refine LeO.ite ?_ ?_
      | refine LeO.bind ?_ (fun _ => ?_)
set_option maxHeartbeats 8000000 in
set_option maxRecDepth 100000 in
theorem impl_TakeWide.calls (k : Nat) (A0 : Option Addr) (c0 : Nat) (l0 : List Int) (a1 : Int) (r1 : Int) (r2 : Int) (w : World) (hr0 : Kd.C (Kd.int .u8) w A0 l0.length l0) (hc0 : l0.length ≤ c0) (h : impl_TakeWide.f k l0 a1 = some (r1, r2)) :
    Calls Try.prog 23 #[.slice A0 l0.length c0, .int .i64 a1] w fun e w' => e = .returned (.tuple #[.int .i64 r1, .int .i64 r2]) ∧ Below w.heap.size w w' := by
  have HR0 := Aside0.mk hr0
  have HC0 := Aside0.mk hc0
  clear hr0 hc0
  have HB := Aside0.mk (Below.refl w.heap.size w)
  have H : ((impl_in.f a1 0 (wrap64 ((l0.length : Int) - 1))).bind fun t108 => (if t108 = true then (if 0 ≤ a1 then (if a1 ≤ (mn (l0.length : Int) (wrap64 (a1 + 6))) then (if (mn (l0.length : Int) (wrap64 (a1 + 6))) ≤ (l0.length : Int) then (impl_TakeWide.l0 k a1 0 ((l0.take ((mn (l0.length : Int) (wrap64 (a1 + 6))) : Int).toNat).drop (a1 : Int).toNat) (((l0.take ((mn (l0.length : Int) (wrap64 (a1 + 6))) : Int).toNat).drop (a1 : Int).toNat).length : Int) 0) else (none)) else (none)) else (none)) else (some (0, (-1))))) = some (r1, r2) := h
  clear h
  replace H := Option.bind_eq_some_iff.mp H
  obtain ⟨t108, A30, H⟩ := H
  replace H : (if t108 = true then (if 0 ≤ a1 then (if a1 ≤ (mn (l0.length : Int) (wrap64 (a1 + 6))) then (if (mn (l0.length : Int) (wrap64 (a1 + 6))) ≤ (l0.length : Int) then (impl_TakeWide.l0 k a1 0 ((l0.take ((mn (l0.length : Int) (wrap64 (a1 + 6))) : Int).toNat).drop (a1 : Int).toNat) (((l0.take ((mn (l0.length : Int) (wrap64 (a1 + 6))) : Int).toNat).drop (a1 : Int).toNat).length : Int) 0) else (none)) else (none)) else (none)) else (some (0, (-1)))) = some (r1, r2) := H
  have A3 := Aside0.mk A30
  clear A30
  by_cases c4 : t108 = true
  · subst c4
    have H1 : (if 0 ≤ a1 then (if a1 ≤ (mn (l0.length : Int) (wrap64 (a1 + 6))) then (if (mn (l0.length : Int) (wrap64 (a1 + 6))) ≤ (l0.length : Int) then (impl_TakeWide.l0 k a1 0 ((l0.take ((mn (l0.length : Int) (wrap64 (a1 + 6))) : Int).toNat).drop (a1 : Int).toNat) (((l0.take ((mn (l0.length : Int) (wrap64 (a1 + 6))) : Int).toNat).drop (a1 : Int).toNat).length : Int) 0) else (none)) else (none)) else (none)) = some (r1, r2) := by rw [if_pos rfl] at H; exact H
    clear H
    have H := H1
    clear H1
    obtain ⟨ji5, hji5⟩ : ∃ j_ : Int, (mn (l0.length : Int) (wrap64 (a1 + 6))) = j_ := ⟨_, rfl⟩
    replace H : (if 0 ≤ a1 then (if a1 ≤ (ji5) then (if (ji5) ≤ (l0.length : Int) then (impl_TakeWide.l0 k a1 0 ((l0.take ((ji5) : Int).toNat).drop (a1 : Int).toNat) (((l0.take ((ji5) : Int).toNat).drop (a1 : Int).toNat).length : Int) 0) else (none)) else (none)) else (none)) = some (r1, r2) := by first | (rw [hji5] at H; exact H) | (simp only [hji5] at H ⊢; exact H)
    (try rw [hji5] at A3)
    have hji5_ : (if (wrap64 (a1 + 6)) < (l0.length : Int) then (wrap64 (a1 + 6)) else (l0.length : Int)) = ji5 := hji5
    by_cases c6 : 0 ≤ a1
    · rw [if_pos c6] at H
      have c6b0 := eq_true c6
      have c6b1 : decide (0 ≤ a1) = true := decide_eq_true c6
      clear c6
      by_cases c7 : a1 ≤ (ji5)
      · rw [if_pos c7] at H
        have c7b0 := eq_true c7
        have c7b1 : decide (a1 ≤ (ji5)) = true := decide_eq_true c7
        clear c7
        by_cases c8 : (ji5) ≤ (l0.length : Int)
        · rw [if_pos c8] at H
          have c8b0 := eq_true c8
          have c8b1 : decide ((ji5) ≤ (l0.length : Int)) = true := decide_eq_true c8
          have HLEN := Aside0.mk (show ((l0.take ((ji5) : Int).toNat).drop (a1 : Int).toNat).length = (ji5).toNat - (a1).toNat by rw [List.length_drop, List.length_take]; have z3 := of_decide_eq_true c8b1; omega)
          clear c8
          have H' := Aside0.mk H
          clear H
          go_enter Try.func23, Try.ntmps23
          go_wp2_with (first | ((with_reducible refine gate_callee (f := 67) rfl ?_); refine goesL_ (some 14) rfl rfl Try.func67 (by kernel_rfl) rfl #[.int .i64 a1, .int .i64 0, .int .i64 (wrap64 ((l0.length : Int) - 1))] rfl (by (try simp only [List.map_toArray, List.map_cons, List.map_nil]); first | done | rfl | (simp only [List.length_drop, List.length_take]; rfl)) ?_; (with_reducible refine (impl_in.calls a1 0 (wrap64 ((l0.length : Int) - 1)) true _ A3.out).mono ?_); rintro e w' ⟨rfl, ⟨nd, rfl⟩⟩; refine ⟨_, rfl, ?_⟩; obtain ⟨i09, hi09, _, hsz9, _⟩ := info_parts info5; obtain ⟨A9, hcut9, hA9, hC9⟩ := print_mid_of (P := Try.prog) (Value.int .u8) 0 28 5 .i64 .i64 Try.underlying28 hi09 hsz9 A0 c0 l0 a1 (ji5) (of_decide_eq_true (by first | (with_reducible assumption) | assumption)) (by first | omega | exact of_decide_eq_true (by first | (with_reducible assumption) | assumption)) (of_decide_eq_true (by first | (with_reducible assumption) | assumption)) HC0.out; have HR109 := Aside0.mk (Kd.C_of_reads (h1 := fun _ => rfl) (hA9 _ (Kd.reads_of_C HR0.out))); have HC109 := Aside0.mk hC9; clear hA9 hC9 hi09 hsz9))
          go_loopg [6, 25] k (fun kq v6 v25 w' => ∃ (x6_1 : Int) (x25_1 : Int), v6 = .int .i64 x6_1 ∧ v25 = .int .i64 x25_1 ∧ Aside0 (impl_TakeWide.l0 kq a1 x6_1 ((l0.take ((ji5) : Int).toNat).drop (a1 : Int).toNat) (((l0.take ((ji5) : Int).toNat).drop (a1 : Int).toNat).length : Int) x25_1 = some (r1, r2)) ∧ Aside0 (kq ≤ k) ∧ Aside0 (Below w.heap.size w w'))
          case atStart => exact ⟨(0), (0), (by first | rfl | (simp; done) | (simp [*]; done)), (by first | rfl | (simp; done) | (simp [*]; done)), H', ⟨Nat.le_refl _⟩, ⟨by repeat (first | (with_reducible first | exact HB.out | apply below_alloc | apply pw_below_drewN | apply below_drew1) | exact HB.out)⟩⟩
          case round =>
            clear H'
            try clear c2
            try clear p2
            try clear c4
            try clear c6
            try clear c6b0
            try clear c6b1
            try clear p6
            try clear c7
            try clear c7b0
            try clear c7b1
            try clear c8
            try clear c8b0
            try clear c8b1
            obtain ⟨x6_1, x25_1, rfl, rfl, HA, HK1, HB⟩ := hrel
            cases gk with
            | zero => exact absurd HA.out (by simp [impl_TakeWide.l0])
            | succ k1 =>
              have H := HA.out
              clear HA
              simp only [impl_TakeWide.l0] at H
              by_cases c10 : x25_1 < (((l0.take ((ji5) : Int).toNat).drop (a1 : Int).toNat).length : Int)
              · rw [if_pos c10] at H
                have c10b0 : decide (x25_1 < (((l0.take ((ji5) : Int).toNat).drop (a1 : Int).toNat).length : Int)) = true := decide_eq_true c10
                have c10bL := c10b0
                rw [HLEN.out] at c10bL
                have c10bT := eq_true (of_decide_eq_true c10bL)
                clear c10
                by_cases c11 : 0 ≤ x25_1
                · rw [if_pos c11] at H
                  have c11b0 : decide (0 ≤ x25_1) = true := decide_eq_true c11
                  clear c11
                  by_cases c12 : x25_1 < (((l0.take ((ji5) : Int).toNat).drop (a1 : Int).toNat).length : Int)
                  · rw [if_pos c12] at H
                    have c12b0 : decide (x25_1 < (((l0.take ((ji5) : Int).toNat).drop (a1 : Int).toNat).length : Int)) = true := decide_eq_true c12
                    have c12bL := c12b0
                    rw [HLEN.out] at c12bL
                    have c12bT := eq_true (of_decide_eq_true c12bL)
                    clear c12
                    obtain ⟨ji13, hji13⟩ : ∃ j_ : Int, (wrap64 (7 * x25_1)) = j_ := ⟨_, rfl⟩
                    replace H : (if 0 ≤ (ji13) then (if (rd ((l0.take ((ji5) : Int).toNat).drop (a1 : Int).toNat) x25_1) ≥ 128 then (impl_TakeWide.l0 k1 a1 (Go.bits .or .i64 x6_1 (shl .i64 (wrap64 (Go.bits .and .u8 (rd ((l0.take ((ji5) : Int).toNat).drop (a1 : Int).toNat) x25_1) 127)) (ji13))) ((l0.take ((ji5) : Int).toNat).drop (a1 : Int).toNat) (((l0.take ((ji5) : Int).toNat).drop (a1 : Int).toNat).length : Int) (wrap64 (x25_1 + 1))) else (if (Int.tmod (Go.bits .or .i64 x6_1 (shl .i64 (wrap64 (Go.bits .and .u8 (rd ((l0.take ((ji5) : Int).toNat).drop (a1 : Int).toNat) x25_1) 127)) (ji13))) 2) = 1 then (if x25_1 > 0 then (if (rd ((l0.take ((ji5) : Int).toNat).drop (a1 : Int).toNat) x25_1) = 0 then (some (0, (-1))) else ((impl_isWide.f (wrap64 ((wrap64 (-(wrap64 (Int.tdiv (Go.bits .or .i64 x6_1 (shl .i64 (wrap64 (Go.bits .and .u8 (rd ((l0.take ((ji5) : Int).toNat).drop (a1 : Int).toNat) x25_1) 127)) (ji13))) 2)))) - 1))).bind fun t111 => (if t111 = true then (some (wrap64 ((wrap64 (-(wrap64 (Int.tdiv (Go.bits .or .i64 x6_1 (shl .i64 (wrap64 (Go.bits .and .u8 (rd ((l0.take ((ji5) : Int).toNat).drop (a1 : Int).toNat) x25_1) 127)) (ji13))) 2)))) - 1), wrap64 ((wrap64 (a1 + x25_1)) + 1))) else (some (0, (-1)))))) else ((impl_isWide.f (wrap64 ((wrap64 (-(wrap64 (Int.tdiv (Go.bits .or .i64 x6_1 (shl .i64 (wrap64 (Go.bits .and .u8 (rd ((l0.take ((ji5) : Int).toNat).drop (a1 : Int).toNat) x25_1) 127)) (ji13))) 2)))) - 1))).bind fun t112 => (if t112 = true then (some (wrap64 ((wrap64 (-(wrap64 (Int.tdiv (Go.bits .or .i64 x6_1 (shl .i64 (wrap64 (Go.bits .and .u8 (rd ((l0.take ((ji5) : Int).toNat).drop (a1 : Int).toNat) x25_1) 127)) (ji13))) 2)))) - 1), wrap64 ((wrap64 (a1 + x25_1)) + 1))) else (some (0, (-1)))))) else (if x25_1 > 0 then (if (rd ((l0.take ((ji5) : Int).toNat).drop (a1 : Int).toNat) x25_1) = 0 then (some (0, (-1))) else ((impl_isWide.f (wrap64 (Int.tdiv (Go.bits .or .i64 x6_1 (shl .i64 (wrap64 (Go.bits .and .u8 (rd ((l0.take ((ji5) : Int).toNat).drop (a1 : Int).toNat) x25_1) 127)) (ji13))) 2))).bind fun t113 => (if t113 = true then (some (wrap64 (Int.tdiv (Go.bits .or .i64 x6_1 (shl .i64 (wrap64 (Go.bits .and .u8 (rd ((l0.take ((ji5) : Int).toNat).drop (a1 : Int).toNat) x25_1) 127)) (ji13))) 2), wrap64 ((wrap64 (a1 + x25_1)) + 1))) else (some (0, (-1)))))) else ((impl_isWide.f (wrap64 (Int.tdiv (Go.bits .or .i64 x6_1 (shl .i64 (wrap64 (Go.bits .and .u8 (rd ((l0.take ((ji5) : Int).toNat).drop (a1 : Int).toNat) x25_1) 127)) (ji13))) 2))).bind fun t114 => (if t114 = true then (some (wrap64 (Int.tdiv (Go.bits .or .i64 x6_1 (shl .i64 (wrap64 (Go.bits .and .u8 (rd ((l0.take ((ji5) : Int).toNat).drop (a1 : Int).toNat) x25_1) 127)) (ji13))) 2), wrap64 ((wrap64 (a1 + x25_1)) + 1))) else (some (0, (-1)))))))) else (none)) = some (r1, r2) := by first | (rw [hji13] at H; exact H) | (simp only [hji13] at H ⊢; exact H)
                    have hji13w : (IntKind.i64.wrap (7 * x25_1)) = ji13 := (i64_w _).trans hji13
                    by_cases c14 : 0 ≤ (ji13)
                    · rw [if_pos c14] at H
                      have c14b0 := eq_true c14
                      have c14b1 : decide (0 ≤ (ji13)) = true := decide_eq_true c14
                      clear c14
                      obtain ⟨ji15, hji15⟩ : ∃ j_ : Int, (shl .i64 (wrap64 (Go.bits .and .u8 (rd ((l0.take ((ji5) : Int).toNat).drop (a1 : Int).toNat) x25_1) 127)) (ji13)) = j_ := ⟨_, rfl⟩
                      replace H : (if (rd ((l0.take ((ji5) : Int).toNat).drop (a1 : Int).toNat) x25_1) ≥ 128 then (impl_TakeWide.l0 k1 a1 (Go.bits .or .i64 x6_1 (ji15)) ((l0.take ((ji5) : Int).toNat).drop (a1 : Int).toNat) (((l0.take ((ji5) : Int).toNat).drop (a1 : Int).toNat).length : Int) (wrap64 (x25_1 + 1))) else (if (Int.tmod (Go.bits .or .i64 x6_1 (ji15)) 2) = 1 then (if x25_1 > 0 then (if (rd ((l0.take ((ji5) : Int).toNat).drop (a1 : Int).toNat) x25_1) = 0 then (some (0, (-1))) else ((impl_isWide.f (wrap64 ((wrap64 (-(wrap64 (Int.tdiv (Go.bits .or .i64 x6_1 (ji15)) 2)))) - 1))).bind fun t111 => (if t111 = true then (some (wrap64 ((wrap64 (-(wrap64 (Int.tdiv (Go.bits .or .i64 x6_1 (ji15)) 2)))) - 1), wrap64 ((wrap64 (a1 + x25_1)) + 1))) else (some (0, (-1)))))) else ((impl_isWide.f (wrap64 ((wrap64 (-(wrap64 (Int.tdiv (Go.bits .or .i64 x6_1 (ji15)) 2)))) - 1))).bind fun t112 => (if t112 = true then (some (wrap64 ((wrap64 (-(wrap64 (Int.tdiv (Go.bits .or .i64 x6_1 (ji15)) 2)))) - 1), wrap64 ((wrap64 (a1 + x25_1)) + 1))) else (some (0, (-1)))))) else (if x25_1 > 0 then (if (rd ((l0.take ((ji5) : Int).toNat).drop (a1 : Int).toNat) x25_1) = 0 then (some (0, (-1))) else ((impl_isWide.f (wrap64 (Int.tdiv (Go.bits .or .i64 x6_1 (ji15)) 2))).bind fun t113 => (if t113 = true then (some (wrap64 (Int.tdiv (Go.bits .or .i64 x6_1 (ji15)) 2), wrap64 ((wrap64 (a1 + x25_1)) + 1))) else (some (0, (-1)))))) else ((impl_isWide.f (wrap64 (Int.tdiv (Go.bits .or .i64 x6_1 (ji15)) 2))).bind fun t114 => (if t114 = true then (some (wrap64 (Int.tdiv (Go.bits .or .i64 x6_1 (ji15)) 2), wrap64 ((wrap64 (a1 + x25_1)) + 1))) else (some (0, (-1)))))))) = some (r1, r2) := by first | (rw [hji15] at H; exact H) | (simp only [hji15] at H ⊢; exact H)
                      have hji15_ : (IntKind.i64.wrap ((wrap64 (Go.bits .and .u8 (rd ((l0.take ((ji5) : Int).toNat).drop (a1 : Int).toNat) x25_1) 127)) * 2 ^ min (ji13).toNat 64)) = ji15 := hji15
                      have hji15z : (ji13) ≤ 64 → (IntKind.i64.wrap ((wrap64 (Go.bits .and .u8 (rd ((l0.take ((ji5) : Int).toNat).drop (a1 : Int).toNat) x25_1) 127)) * 2 ^ (ji13).toNat)) = ji15 := shl_small hji15
                      have hji15y : (wrap64 ((wrap64 (Go.bits .and .u8 (rd ((l0.take ((ji5) : Int).toNat).drop (a1 : Int).toNat) x25_1) 127)) * 2 ^ min (ji13).toNat 64)) = ji15 := (i64_w _).symm.trans hji15_
                      have hji15x : (ji13) ≤ 64 → (wrap64 ((wrap64 (Go.bits .and .u8 (rd ((l0.take ((ji5) : Int).toNat).drop (a1 : Int).toNat) x25_1) 127)) * 2 ^ (ji13).toNat)) = ji15 := fun h_ => (i64_w _).symm.trans (hji15z h_)
                      by_cases c16 : (rd ((l0.take ((ji5) : Int).toNat).drop (a1 : Int).toNat) x25_1) ≥ 128
                      · rw [if_pos c16] at H
                        have c16b0 : decide (128 ≤ (rd ((l0.take ((ji5) : Int).toNat).drop (a1 : Int).toNat) x25_1)) = true := decide_eq_true c16
                        clear c16
                        have H' := Aside0.mk H
                        clear H
                        have p110 : 0 ≤ (x25_1 : Int) := of_decide_eq_true (by first | (with_reducible assumption) | assumption)
                        have q110 : x25_1 < (((l0.take ((ji5) : Int).toNat).drop (a1 : Int).toNat).length : Int) := of_decide_eq_true (by first | (with_reducible assumption) | assumption)
                        obtain ⟨ad110, e110, hx110_0⟩ := Kd.at_int HR109.out x25_1 p110 q110
                        cases e110
                        replace hx110_0 := (HB.out.cell (World.block_lt_of_cell? w _ hx110_0)).trans hx110_0
                        replace p110 := eq_true p110
                        replace q110 := eq_true q110
                        go_wp2
                        go_roundg k1
                        case measure => have := HK1.out; omega
                        case rel => exact ⟨(Go.bits .or .i64 x6_1 (ji15)), (wrap64 (x25_1 + 1)), (by first | rfl | (simp; done) | (simp only [← hji15] <;> (first | rfl | simp)) | (simp [*]; done)), (by first | rfl | (simp; done) | (simp [*]; done)), H', ⟨by have := HK1.out; omega⟩, ⟨by repeat (first | (with_reducible first | exact HB.out | apply below_alloc | apply pw_below_drewN | apply below_drew1) | exact HB.out)⟩⟩
                      · rw [if_neg c16] at H
                        have c16b0 : decide (128 ≤ (rd ((l0.take ((ji5) : Int).toNat).drop (a1 : Int).toNat) x25_1)) = false := decide_eq_false c16
                        clear c16
                        by_cases c17 : (Int.tmod (Go.bits .or .i64 x6_1 (ji15)) 2) = 1
                        · rw [if_pos c17] at H
                          have c17b0 : ((Int.tmod (Go.bits .or .i64 x6_1 (ji15)) 2) == 1) = true := beq_iff_eq.mpr c17
                          have c17b1 : ((Int.tmod (Go.bits .or .i64 x6_1 (ji15)) 2) != 1) = false := bne_eq_false_iff_eq.mpr c17
                          clear c17
                          by_cases c18 : x25_1 > 0
                          · rw [if_pos c18] at H
                            have c18b0 : decide (0 < x25_1) = true := decide_eq_true c18
                            clear c18
                            by_cases c19 : (rd ((l0.take ((ji5) : Int).toNat).drop (a1 : Int).toNat) x25_1) = 0
                            · rw [if_pos c19] at H
                              have c19b0 : ((rd ((l0.take ((ji5) : Int).toNat).drop (a1 : Int).toNat) x25_1) == 0) = true := beq_iff_eq.mpr c19
                              have c19b1 : ((rd ((l0.take ((ji5) : Int).toNat).drop (a1 : Int).toNat) x25_1) != 0) = false := bne_eq_false_iff_eq.mpr c19
                              clear c19
                              simp only [Option.some.injEq, Prod.mk.injEq] at H
                              obtain ⟨rfl, rfl⟩ := H
                              have p110 : 0 ≤ (x25_1 : Int) := of_decide_eq_true (by first | (with_reducible assumption) | assumption)
                              have q110 : x25_1 < (((l0.take ((ji5) : Int).toNat).drop (a1 : Int).toNat).length : Int) := of_decide_eq_true (by first | (with_reducible assumption) | assumption)
                              obtain ⟨ad110, e110, hx110_0⟩ := Kd.at_int HR109.out x25_1 p110 q110
                              cases e110
                              replace hx110_0 := (HB.out.cell (World.block_lt_of_cell? w _ hx110_0)).trans hx110_0
                              replace p110 := eq_true p110
                              replace q110 := eq_true q110
                              go_wp2
                              go_ret2
                              exact ⟨by first | rfl | (simp [errW_none, errW_some] <;> rfl) | (simp only [← hji5, ← hji13, ← hji15]; first | rfl | (simp [errW_none, errW_some] <;> rfl)) | (simp [*, errW_none, errW_some] <;> rfl), by repeat (first | (with_reducible first | exact HB.out | apply below_alloc | apply pw_below_drewN | apply below_drew1) | exact HB.out)⟩
                            · rw [if_neg c19] at H
                              have c19b0 : ((rd ((l0.take ((ji5) : Int).toNat).drop (a1 : Int).toNat) x25_1) == 0) = false := beq_eq_false_iff_ne.mpr c19
                              have c19b1 : ((rd ((l0.take ((ji5) : Int).toNat).drop (a1 : Int).toNat) x25_1) != 0) = true := bne_iff_ne.mpr c19
                              replace H := Option.bind_eq_some_iff.mp H
                              obtain ⟨t111, A200, H⟩ := H
                              replace H : (if t111 = true then (some (wrap64 ((wrap64 (-(wrap64 (Int.tdiv (Go.bits .or .i64 x6_1 (ji15)) 2)))) - 1), wrap64 ((wrap64 (a1 + x25_1)) + 1))) else (some (0, (-1)))) = some (r1, r2) := H
                              have A20 := Aside0.mk A200
                              clear A200
                              by_cases c21 : t111 = true
                              · subst c21
                                have H1 : (some (wrap64 ((wrap64 (-(wrap64 (Int.tdiv (Go.bits .or .i64 x6_1 (ji15)) 2)))) - 1), wrap64 ((wrap64 (a1 + x25_1)) + 1))) = some (r1, r2) := by rw [if_pos rfl] at H; exact H
                                clear H
                                have H := H1
                                clear H1
                                simp only [Option.some.injEq, Prod.mk.injEq] at H
                                obtain ⟨rfl, rfl⟩ := H
                                have p110 : 0 ≤ (x25_1 : Int) := of_decide_eq_true (by first | (with_reducible assumption) | assumption)
                                have q110 : x25_1 < (((l0.take ((ji5) : Int).toNat).drop (a1 : Int).toNat).length : Int) := of_decide_eq_true (by first | (with_reducible assumption) | assumption)
                                obtain ⟨ad110, e110, hx110_0⟩ := Kd.at_int HR109.out x25_1 p110 q110
                                cases e110
                                replace hx110_0 := (HB.out.cell (World.block_lt_of_cell? w _ hx110_0)).trans hx110_0
                                replace p110 := eq_true p110
                                replace q110 := eq_true q110
                                go_wp2_with (first | (go_at_call 68; (with_reducible refine (impl_isWide.calls (wrap64 ((wrap64 (-(wrap64 (Int.tdiv (Go.bits .or .i64 x6_1 (ji15)) 2)))) - 1)) true _ A20.out).mono ?_); rintro e w' ⟨rfl, ⟨nd, rfl⟩⟩))
                                go_ret2
                                exact ⟨by first | rfl | (simp [errW_none, errW_some] <;> rfl) | (simp only [← hji5, ← hji13, ← hji15]; first | rfl | (simp [errW_none, errW_some] <;> rfl)) | (simp [*, errW_none, errW_some] <;> rfl), by repeat (first | (with_reducible first | exact HB.out | apply below_alloc | apply pw_below_drewN | apply below_drew1) | exact HB.out)⟩
                              · replace c21 := Bool.eq_false_iff.mpr c21
                                subst c21
                                have H1 : (some (0, (-1))) = some (r1, r2) := by rw [if_neg (show ¬ (false = true) by decide)] at H; exact H
                                clear H
                                have H := H1
                                clear H1
                                simp only [Option.some.injEq, Prod.mk.injEq] at H
                                obtain ⟨rfl, rfl⟩ := H
                                have p110 : 0 ≤ (x25_1 : Int) := of_decide_eq_true (by first | (with_reducible assumption) | assumption)
                                have q110 : x25_1 < (((l0.take ((ji5) : Int).toNat).drop (a1 : Int).toNat).length : Int) := of_decide_eq_true (by first | (with_reducible assumption) | assumption)
                                obtain ⟨ad110, e110, hx110_0⟩ := Kd.at_int HR109.out x25_1 p110 q110
                                cases e110
                                replace hx110_0 := (HB.out.cell (World.block_lt_of_cell? w _ hx110_0)).trans hx110_0
                                replace p110 := eq_true p110
                                replace q110 := eq_true q110
                                go_wp2_with (first | (go_at_call 68; (with_reducible refine (impl_isWide.calls (wrap64 ((wrap64 (-(wrap64 (Int.tdiv (Go.bits .or .i64 x6_1 (ji15)) 2)))) - 1)) false _ A20.out).mono ?_); rintro e w' ⟨rfl, ⟨nd, rfl⟩⟩))
                                go_ret2
                                exact ⟨by first | rfl | (simp [errW_none, errW_some] <;> rfl) | (simp only [← hji5, ← hji13, ← hji15]; first | rfl | (simp [errW_none, errW_some] <;> rfl)) | (simp [*, errW_none, errW_some] <;> rfl), by repeat (first | (with_reducible first | exact HB.out | apply below_alloc | apply pw_below_drewN | apply below_drew1) | exact HB.out)⟩
                          · rw [if_neg c18] at H
                            have c18b0 : decide (0 < x25_1) = false := decide_eq_false c18
                            clear c18
                            replace H := Option.bind_eq_some_iff.mp H
                            obtain ⟨t112, A220, H⟩ := H
                            replace H : (if t112 = true then (some (wrap64 ((wrap64 (-(wrap64 (Int.tdiv (Go.bits .or .i64 x6_1 (ji15)) 2)))) - 1), wrap64 ((wrap64 (a1 + x25_1)) + 1))) else (some (0, (-1)))) = some (r1, r2) := H
                            have A22 := Aside0.mk A220
                            clear A220
                            by_cases c23 : t112 = true
                            · subst c23
                              have H1 : (some (wrap64 ((wrap64 (-(wrap64 (Int.tdiv (Go.bits .or .i64 x6_1 (ji15)) 2)))) - 1), wrap64 ((wrap64 (a1 + x25_1)) + 1))) = some (r1, r2) := by rw [if_pos rfl] at H; exact H
                              clear H
                              have H := H1
                              clear H1
                              simp only [Option.some.injEq, Prod.mk.injEq] at H
                              obtain ⟨rfl, rfl⟩ := H
                              have p110 : 0 ≤ (x25_1 : Int) := of_decide_eq_true (by first | (with_reducible assumption) | assumption)
                              have q110 : x25_1 < (((l0.take ((ji5) : Int).toNat).drop (a1 : Int).toNat).length : Int) := of_decide_eq_true (by first | (with_reducible assumption) | assumption)
                              obtain ⟨ad110, e110, hx110_0⟩ := Kd.at_int HR109.out x25_1 p110 q110
                              cases e110
                              replace hx110_0 := (HB.out.cell (World.block_lt_of_cell? w _ hx110_0)).trans hx110_0
                              replace p110 := eq_true p110
                              replace q110 := eq_true q110
                              go_wp2_with (first | (go_at_call 68; (with_reducible refine (impl_isWide.calls (wrap64 ((wrap64 (-(wrap64 (Int.tdiv (Go.bits .or .i64 x6_1 (ji15)) 2)))) - 1)) true _ A22.out).mono ?_); rintro e w' ⟨rfl, ⟨nd, rfl⟩⟩))
                              go_ret2
                              exact ⟨by first | rfl | (simp [errW_none, errW_some] <;> rfl) | (simp only [← hji5, ← hji13, ← hji15]; first | rfl | (simp [errW_none, errW_some] <;> rfl)) | (simp [*, errW_none, errW_some] <;> rfl), by repeat (first | (with_reducible first | exact HB.out | apply below_alloc | apply pw_below_drewN | apply below_drew1) | exact HB.out)⟩
                            · replace c23 := Bool.eq_false_iff.mpr c23
                              subst c23
                              have H1 : (some (0, (-1))) = some (r1, r2) := by rw [if_neg (show ¬ (false = true) by decide)] at H; exact H
                              clear H
                              have H := H1
                              clear H1
                              simp only [Option.some.injEq, Prod.mk.injEq] at H
                              obtain ⟨rfl, rfl⟩ := H
                              have p110 : 0 ≤ (x25_1 : Int) := of_decide_eq_true (by first | (with_reducible assumption) | assumption)
                              have q110 : x25_1 < (((l0.take ((ji5) : Int).toNat).drop (a1 : Int).toNat).length : Int) := of_decide_eq_true (by first | (with_reducible assumption) | assumption)
                              obtain ⟨ad110, e110, hx110_0⟩ := Kd.at_int HR109.out x25_1 p110 q110
                              cases e110
                              replace hx110_0 := (HB.out.cell (World.block_lt_of_cell? w _ hx110_0)).trans hx110_0
                              replace p110 := eq_true p110
                              replace q110 := eq_true q110
                              go_wp2_with (first | (go_at_call 68; (with_reducible refine (impl_isWide.calls (wrap64 ((wrap64 (-(wrap64 (Int.tdiv (Go.bits .or .i64 x6_1 (ji15)) 2)))) - 1)) false _ A22.out).mono ?_); rintro e w' ⟨rfl, ⟨nd, rfl⟩⟩))
                              go_ret2
                              exact ⟨by first | rfl | (simp [errW_none, errW_some] <;> rfl) | (simp only [← hji5, ← hji13, ← hji15]; first | rfl | (simp [errW_none, errW_some] <;> rfl)) | (simp [*, errW_none, errW_some] <;> rfl), by repeat (first | (with_reducible first | exact HB.out | apply below_alloc | apply pw_below_drewN | apply below_drew1) | exact HB.out)⟩
                        · rw [if_neg c17] at H
                          have c17b0 : ((Int.tmod (Go.bits .or .i64 x6_1 (ji15)) 2) == 1) = false := beq_eq_false_iff_ne.mpr c17
                          have c17b1 : ((Int.tmod (Go.bits .or .i64 x6_1 (ji15)) 2) != 1) = true := bne_iff_ne.mpr c17
                          by_cases c24 : x25_1 > 0
                          · rw [if_pos c24] at H
                            have c24b0 : decide (0 < x25_1) = true := decide_eq_true c24
                            clear c24
                            by_cases c25 : (rd ((l0.take ((ji5) : Int).toNat).drop (a1 : Int).toNat) x25_1) = 0
                            · rw [if_pos c25] at H
                              have c25b0 : ((rd ((l0.take ((ji5) : Int).toNat).drop (a1 : Int).toNat) x25_1) == 0) = true := beq_iff_eq.mpr c25
                              have c25b1 : ((rd ((l0.take ((ji5) : Int).toNat).drop (a1 : Int).toNat) x25_1) != 0) = false := bne_eq_false_iff_eq.mpr c25
                              clear c25
                              simp only [Option.some.injEq, Prod.mk.injEq] at H
                              obtain ⟨rfl, rfl⟩ := H
                              have p110 : 0 ≤ (x25_1 : Int) := of_decide_eq_true (by first | (with_reducible assumption) | assumption)
                              have q110 : x25_1 < (((l0.take ((ji5) : Int).toNat).drop (a1 : Int).toNat).length : Int) := of_decide_eq_true (by first | (with_reducible assumption) | assumption)
                              obtain ⟨ad110, e110, hx110_0⟩ := Kd.at_int HR109.out x25_1 p110 q110
                              cases e110
                              replace hx110_0 := (HB.out.cell (World.block_lt_of_cell? w _ hx110_0)).trans hx110_0
                              replace p110 := eq_true p110
                              replace q110 := eq_true q110
                              go_wp2
                              go_ret2
                              exact ⟨by first | rfl | (simp [errW_none, errW_some] <;> rfl) | (simp only [← hji5, ← hji13, ← hji15]; first | rfl | (simp [errW_none, errW_some] <;> rfl)) | (simp [*, errW_none, errW_some] <;> rfl), by repeat (first | (with_reducible first | exact HB.out | apply below_alloc | apply pw_below_drewN | apply below_drew1) | exact HB.out)⟩
                            · rw [if_neg c25] at H
                              have c25b0 : ((rd ((l0.take ((ji5) : Int).toNat).drop (a1 : Int).toNat) x25_1) == 0) = false := beq_eq_false_iff_ne.mpr c25
                              have c25b1 : ((rd ((l0.take ((ji5) : Int).toNat).drop (a1 : Int).toNat) x25_1) != 0) = true := bne_iff_ne.mpr c25
                              replace H := Option.bind_eq_some_iff.mp H
                              obtain ⟨t113, A260, H⟩ := H
                              replace H : (if t113 = true then (some (wrap64 (Int.tdiv (Go.bits .or .i64 x6_1 (ji15)) 2), wrap64 ((wrap64 (a1 + x25_1)) + 1))) else (some (0, (-1)))) = some (r1, r2) := H
                              have A26 := Aside0.mk A260
                              clear A260
                              by_cases c27 : t113 = true
                              · subst c27
                                have H1 : (some (wrap64 (Int.tdiv (Go.bits .or .i64 x6_1 (ji15)) 2), wrap64 ((wrap64 (a1 + x25_1)) + 1))) = some (r1, r2) := by rw [if_pos rfl] at H; exact H
                                clear H
                                have H := H1
                                clear H1
                                simp only [Option.some.injEq, Prod.mk.injEq] at H
                                obtain ⟨rfl, rfl⟩ := H
                                have p110 : 0 ≤ (x25_1 : Int) := of_decide_eq_true (by first | (with_reducible assumption) | assumption)
                                have q110 : x25_1 < (((l0.take ((ji5) : Int).toNat).drop (a1 : Int).toNat).length : Int) := of_decide_eq_true (by first | (with_reducible assumption) | assumption)
                                obtain ⟨ad110, e110, hx110_0⟩ := Kd.at_int HR109.out x25_1 p110 q110
                                cases e110
                                replace hx110_0 := (HB.out.cell (World.block_lt_of_cell? w _ hx110_0)).trans hx110_0
                                replace p110 := eq_true p110
                                replace q110 := eq_true q110
                                go_wp2_with (first | (go_at_call 68; (with_reducible refine (impl_isWide.calls (wrap64 (Int.tdiv (Go.bits .or .i64 x6_1 (ji15)) 2)) true _ A26.out).mono ?_); rintro e w' ⟨rfl, ⟨nd, rfl⟩⟩))
                                go_ret2
                                exact ⟨by first | rfl | (simp [errW_none, errW_some] <;> rfl) | (simp only [← hji5, ← hji13, ← hji15]; first | rfl | (simp [errW_none, errW_some] <;> rfl)) | (simp [*, errW_none, errW_some] <;> rfl), by repeat (first | (with_reducible first | exact HB.out | apply below_alloc | apply pw_below_drewN | apply below_drew1) | exact HB.out)⟩
                              · replace c27 := Bool.eq_false_iff.mpr c27
                                subst c27
                                have H1 : (some (0, (-1))) = some (r1, r2) := by rw [if_neg (show ¬ (false = true) by decide)] at H; exact H
                                clear H
                                have H := H1
                                clear H1
                                simp only [Option.some.injEq, Prod.mk.injEq] at H
                                obtain ⟨rfl, rfl⟩ := H
                                have p110 : 0 ≤ (x25_1 : Int) := of_decide_eq_true (by first | (with_reducible assumption) | assumption)
                                have q110 : x25_1 < (((l0.take ((ji5) : Int).toNat).drop (a1 : Int).toNat).length : Int) := of_decide_eq_true (by first | (with_reducible assumption) | assumption)
                                obtain ⟨ad110, e110, hx110_0⟩ := Kd.at_int HR109.out x25_1 p110 q110
                                cases e110
                                replace hx110_0 := (HB.out.cell (World.block_lt_of_cell? w _ hx110_0)).trans hx110_0
                                replace p110 := eq_true p110
                                replace q110 := eq_true q110
                                go_wp2_with (first | (go_at_call 68; (with_reducible refine (impl_isWide.calls (wrap64 (Int.tdiv (Go.bits .or .i64 x6_1 (ji15)) 2)) false _ A26.out).mono ?_); rintro e w' ⟨rfl, ⟨nd, rfl⟩⟩))
                                go_ret2
                                exact ⟨by first | rfl | (simp [errW_none, errW_some] <;> rfl) | (simp only [← hji5, ← hji13, ← hji15]; first | rfl | (simp [errW_none, errW_some] <;> rfl)) | (simp [*, errW_none, errW_some] <;> rfl), by repeat (first | (with_reducible first | exact HB.out | apply below_alloc | apply pw_below_drewN | apply below_drew1) | exact HB.out)⟩
                          · rw [if_neg c24] at H
                            have c24b0 : decide (0 < x25_1) = false := decide_eq_false c24
                            clear c24
                            replace H := Option.bind_eq_some_iff.mp H
                            obtain ⟨t114, A280, H⟩ := H
                            replace H : (if t114 = true then (some (wrap64 (Int.tdiv (Go.bits .or .i64 x6_1 (ji15)) 2), wrap64 ((wrap64 (a1 + x25_1)) + 1))) else (some (0, (-1)))) = some (r1, r2) := H
                            have A28 := Aside0.mk A280
                            clear A280
                            by_cases c29 : t114 = true
                            · subst c29
                              have H1 : (some (wrap64 (Int.tdiv (Go.bits .or .i64 x6_1 (ji15)) 2), wrap64 ((wrap64 (a1 + x25_1)) + 1))) = some (r1, r2) := by rw [if_pos rfl] at H; exact H
                              clear H
                              have H := H1
                              clear H1
                              simp only [Option.some.injEq, Prod.mk.injEq] at H
                              obtain ⟨rfl, rfl⟩ := H
                              have p110 : 0 ≤ (x25_1 : Int) := of_decide_eq_true (by first | (with_reducible assumption) | assumption)
                              have q110 : x25_1 < (((l0.take ((ji5) : Int).toNat).drop (a1 : Int).toNat).length : Int) := of_decide_eq_true (by first | (with_reducible assumption) | assumption)
                              obtain ⟨ad110, e110, hx110_0⟩ := Kd.at_int HR109.out x25_1 p110 q110
                              cases e110
                              replace hx110_0 := (HB.out.cell (World.block_lt_of_cell? w _ hx110_0)).trans hx110_0
                              replace p110 := eq_true p110
                              replace q110 := eq_true q110
                              go_wp2_with (first | (go_at_call 68; (with_reducible refine (impl_isWide.calls (wrap64 (Int.tdiv (Go.bits .or .i64 x6_1 (ji15)) 2)) true _ A28.out).mono ?_); rintro e w' ⟨rfl, ⟨nd, rfl⟩⟩))
                              go_ret2
                              exact ⟨by first | rfl | (simp [errW_none, errW_some] <;> rfl) | (simp only [← hji5, ← hji13, ← hji15]; first | rfl | (simp [errW_none, errW_some] <;> rfl)) | (simp [*, errW_none, errW_some] <;> rfl), by repeat (first | (with_reducible first | exact HB.out | apply below_alloc | apply pw_below_drewN | apply below_drew1) | exact HB.out)⟩
                            · replace c29 := Bool.eq_false_iff.mpr c29
                              subst c29
                              have H1 : (some (0, (-1))) = some (r1, r2) := by rw [if_neg (show ¬ (false = true) by decide)] at H; exact H
                              clear H
                              have H := H1
                              clear H1
                              simp only [Option.some.injEq, Prod.mk.injEq] at H
                              obtain ⟨rfl, rfl⟩ := H
                              have p110 : 0 ≤ (x25_1 : Int) := of_decide_eq_true (by first | (with_reducible assumption) | assumption)
                              have q110 : x25_1 < (((l0.take ((ji5) : Int).toNat).drop (a1 : Int).toNat).length : Int) := of_decide_eq_true (by first | (with_reducible assumption) | assumption)
                              obtain ⟨ad110, e110, hx110_0⟩ := Kd.at_int HR109.out x25_1 p110 q110
                              cases e110
                              replace hx110_0 := (HB.out.cell (World.block_lt_of_cell? w _ hx110_0)).trans hx110_0
                              replace p110 := eq_true p110
                              replace q110 := eq_true q110
                              go_wp2_with (first | (go_at_call 68; (with_reducible refine (impl_isWide.calls (wrap64 (Int.tdiv (Go.bits .or .i64 x6_1 (ji15)) 2)) false _ A28.out).mono ?_); rintro e w' ⟨rfl, ⟨nd, rfl⟩⟩))
                              go_ret2
                              exact ⟨by first | rfl | (simp [errW_none, errW_some] <;> rfl) | (simp only [← hji5, ← hji13, ← hji15]; first | rfl | (simp [errW_none, errW_some] <;> rfl)) | (simp [*, errW_none, errW_some] <;> rfl), by repeat (first | (with_reducible first | exact HB.out | apply below_alloc | apply pw_below_drewN | apply below_drew1) | exact HB.out)⟩
                    · rw [if_neg c14] at H
                      exact absurd H (by simp)
                  · rw [if_neg c12] at H
                    exact absurd H (by simp)
                · rw [if_neg c11] at H
                  exact absurd H (by simp)
              · rw [if_neg c10] at H
                have c10b0 : decide (x25_1 < (((l0.take ((ji5) : Int).toNat).drop (a1 : Int).toNat).length : Int)) = false := decide_eq_false c10
                have c10bL := c10b0
                rw [HLEN.out] at c10bL
                clear c10
                simp only [Option.some.injEq, Prod.mk.injEq] at H
                obtain ⟨rfl, rfl⟩ := H
                go_wp2
                go_ret2
                exact ⟨by first | rfl | (simp [errW_none, errW_some] <;> rfl) | (simp only [← hji5]; first | rfl | (simp [errW_none, errW_some] <;> rfl)) | (simp [*, errW_none, errW_some] <;> rfl), by repeat (first | (with_reducible first | exact HB.out | apply below_alloc | apply pw_below_drewN | apply below_drew1) | exact HB.out)⟩
        · rw [if_neg c8] at H
          exact absurd H (by simp)
      · rw [if_neg c7] at H
        exact absurd H (by simp)
    · rw [if_neg c6] at H
      exact absurd H (by simp)
  · replace c4 := Bool.eq_false_iff.mpr c4
    subst c4
    have H1 : (some (0, (-1))) = some (r1, r2) := by rw [if_neg (show ¬ (false = true) by decide)] at H; exact H
    clear H
    have H := H1
    clear H1
    simp only [Option.some.injEq, Prod.mk.injEq] at H
    obtain ⟨rfl, rfl⟩ := H
    go_enter Try.func23, Try.ntmps23
    go_wp2_with (first | ((with_reducible refine gate_callee (f := 67) rfl ?_); refine goesL_ (some 14) rfl rfl Try.func67 (by kernel_rfl) rfl #[.int .i64 a1, .int .i64 0, .int .i64 (wrap64 ((l0.length : Int) - 1))] rfl (by (try simp only [List.map_toArray, List.map_cons, List.map_nil]); first | done | rfl | (simp only [List.length_drop, List.length_take]; rfl)) ?_; (with_reducible refine (impl_in.calls a1 0 (wrap64 ((l0.length : Int) - 1)) false _ A3.out).mono ?_); rintro e w' ⟨rfl, ⟨nd, rfl⟩⟩; refine ⟨_, rfl, ?_⟩))
    go_ret2
    exact ⟨by first | rfl | (simp [errW_none, errW_some] <;> rfl) | (simp [*, errW_none, errW_some] <;> rfl), by repeat (first | (with_reducible first | exact HB.out | apply below_alloc | apply pw_below_drewN | apply below_drew1) | exact HB.out)⟩

/-! ### laws_eqByteS: function 24 -/
def laws_eqByteS.l0 : Nat → List Int → List Int → Int → Option (Bool)
  | 0, _, _, _ => none
  | k + 1, x0, x1, x5 => if x5 < (x0.length : Int) then (if 0 ≤ x5 then (if x5 < (x1.length : Int) then (if (rd x0 x5) = (rd x1 x5) then (laws_eqByteS.l0 k x0 x1 (wrap64 (x5 + 1))) else (some false)) else (none)) else (none)) else (some true)
def laws_eqByteS.f (k : Nat) (l0 : List Int) (l1 : List Int) : Option (Bool) := if (l0.length : Int) = (l1.length : Int) then (laws_eqByteS.l0 k l0 l1 0) else (some false)
theorem laws_eqByteS.mono_l : ∀ k, (∀ y0 y1 y2, LeO (laws_eqByteS.l0 k y0 y1 y2) (laws_eqByteS.l0 (k + 1) y0 y1 y2))
  | 0 => fun _ _ _ r h => by simp [laws_eqByteS.l0] at h
  | k + 1 => by
    have ih0 := laws_eqByteS.mono_l k
    · intro y0 y1 y2
      unfold laws_eqByteS.l0
      repeat' first
      | (with_reducible exact ih0 _ _ _)
      | (with_reducible exact LeO.refl _)
      | (with_reducible exact LeO.none _)
      | (with_reducible refine LeO.ite ?_ ?_)
      | (with_reducible refine LeO.bind ?_ (fun _ => ?_))
      | exact ih0 _ _ _
      | exact LeO.none _
      | refine LeO.ite ?_ ?_
      | refine LeO.bind ?_ (fun _ => ?_)
theorem laws_eqByteS.mono : ∀ a0 a1 k, LeO (laws_eqByteS.f k a0 a1) (laws_eqByteS.f (k + 1) a0 a1) := by
  intro a0 a1 k
  have ih0 := laws_eqByteS.mono_l k
  unfold laws_eqByteS.f
  repeat' first
      | (with_reducible exact ih0 _ _ _)
      | (with_reducible exact LeO.refl _)
      | (with_reducible exact LeO.none _)
      | (with_reducible refine LeO.ite ?_ ?_)
      | (with_reducible refine LeO.bind ?_ (fun _ => ?_))
      | exact ih0 _ _ _
      | exact LeO.none _
      | refine LeO.ite ?_ ?_
      | refine LeO.bind ?_ (fun _ => ?_)
set_option maxHeartbeats 8000000 in
set_option maxRecDepth 100000 in
theorem laws_eqByteS.calls (k : Nat) (A0 : Option Addr) (c0 : Nat) (l0 : List Int) (A1 : Option Addr) (c1 : Nat) (l1 : List Int) (r : Bool) (w : World) (hr0 : Kd.C (Kd.int .u8) w A0 l0.length l0) (hc0 : l0.length ≤ c0) (hr1 : Kd.C (Kd.int .u8) w A1 l1.length l1) (hc1 : l1.length ≤ c1) (h : laws_eqByteS.f k l0 l1 = some r) :
    Calls Try.prog 24 #[.slice A0 l0.length c0, .slice A1 l1.length c1] w fun e w' => e = .returned (.bool r) ∧ Drawn0 w w' := by
  have HR0 := Aside0.mk hr0
  have HC0 := Aside0.mk hc0
  clear hr0 hc0
  have HR1 := Aside0.mk hr1
  have HC1 := Aside0.mk hc1
  clear hr1 hc1
  have H : (if (l0.length : Int) = (l1.length : Int) then (laws_eqByteS.l0 k l0 l1 0) else (some false)) = some r := h
  clear h
  by_cases c3 : (l0.length : Int) = (l1.length : Int)
  · rw [if_pos c3] at H
    have c3b0 : ((l0.length : Int) == (l1.length : Int)) = true := beq_iff_eq.mpr c3
    have c3b1 : ((l0.length : Int) != (l1.length : Int)) = false := bne_eq_false_iff_eq.mpr c3
    have c3b2 : (l0.length == l1.length) = true := by first | simpa using c3 | (simp at c3 ⊢; omega)
    clear c3
    have H' := Aside0.mk H
    clear H
    go_enter Try.func24, Try.ntmps24
    go_wp2
    repeat (go_quiet (fail); try go_wp2)
    go_loopg [5] k (fun kq v5 w' => ∃ (x5_1 : Int), v5 = .int .i64 x5_1 ∧ Aside0 (laws_eqByteS.l0 kq l0 l1 x5_1 = some r) ∧ Aside0 (kq ≤ k) ∧ Drawn0 w w')
    case atStart => exact ⟨(0), (by first | rfl | (simp; done) | (simp [*]; done)), H', ⟨Nat.le_refl _⟩, by repeat (first | exact Drawn0.refl _ | apply Drawn0.step)⟩
    case round =>
      clear H'
      try clear c1
      try clear c2
      try clear p2
      try clear c3
      try clear c3b0
      try clear c3b1
      try clear c3b2
      obtain ⟨x5_1, rfl, HA, HK1, ⟨m1, rfl⟩⟩ := hrel
      cases gk with
      | zero => exact absurd HA.out (by simp [laws_eqByteS.l0])
      | succ k1 =>
        have H := HA.out
        clear HA
        simp only [laws_eqByteS.l0] at H
        by_cases c4 : x5_1 < (l0.length : Int)
        · rw [if_pos c4] at H
          have c4b0 : decide (x5_1 < (l0.length : Int)) = true := decide_eq_true c4
          clear c4
          by_cases c5 : 0 ≤ x5_1
          · rw [if_pos c5] at H
            have c5b0 : decide (0 ≤ x5_1) = true := decide_eq_true c5
            clear c5
            by_cases c6 : x5_1 < (l1.length : Int)
            · rw [if_pos c6] at H
              have c6b0 : decide (x5_1 < (l1.length : Int)) = true := decide_eq_true c6
              clear c6
              by_cases c7 : (rd l0 x5_1) = (rd l1 x5_1)
              · rw [if_pos c7] at H
                have c7b0 : ((rd l0 x5_1) == (rd l1 x5_1)) = true := beq_iff_eq.mpr c7
                have c7b1 : ((rd l0 x5_1) != (rd l1 x5_1)) = false := bne_eq_false_iff_eq.mpr c7
                clear c7
                have H' := Aside0.mk H
                clear H
                have p115 : 0 ≤ (x5_1 : Int) := of_decide_eq_true (by first | (with_reducible assumption) | assumption)
                have q115 : x5_1 < (l0.length : Int) := of_decide_eq_true (by first | (with_reducible assumption) | assumption)
                obtain ⟨ad115, e115, hx115_0⟩ := Kd.at_int HR0.out x5_1 p115 q115
                cases e115
                replace p115 := eq_true p115
                replace q115 := eq_true q115
                have p116 : 0 ≤ (x5_1 : Int) := of_decide_eq_true (by first | (with_reducible assumption) | assumption)
                have q116 : x5_1 < (l1.length : Int) := of_decide_eq_true (by first | (with_reducible assumption) | assumption)
                obtain ⟨ad116, e116, hx116_0⟩ := Kd.at_int HR1.out x5_1 p116 q116
                cases e116
                replace p116 := eq_true p116
                replace q116 := eq_true q116
                go_wp2
                repeat (go_quiet (fail); try go_wp2)
                go_roundg k1
                case measure => have := HK1.out; omega
                case rel => exact ⟨(wrap64 (x5_1 + 1)), (by first | rfl | (simp; done) | (simp [*]; done)), H', ⟨by have := HK1.out; omega⟩, by repeat (first | exact Drawn0.refl _ | apply Drawn0.step)⟩
              · rw [if_neg c7] at H
                have c7b0 : ((rd l0 x5_1) == (rd l1 x5_1)) = false := beq_eq_false_iff_ne.mpr c7
                have c7b1 : ((rd l0 x5_1) != (rd l1 x5_1)) = true := bne_iff_ne.mpr c7
                obtain rfl := Option.some.inj H
                have p115 : 0 ≤ (x5_1 : Int) := of_decide_eq_true (by first | (with_reducible assumption) | assumption)
                have q115 : x5_1 < (l0.length : Int) := of_decide_eq_true (by first | (with_reducible assumption) | assumption)
                obtain ⟨ad115, e115, hx115_0⟩ := Kd.at_int HR0.out x5_1 p115 q115
                cases e115
                replace p115 := eq_true p115
                replace q115 := eq_true q115
                have p116 : 0 ≤ (x5_1 : Int) := of_decide_eq_true (by first | (with_reducible assumption) | assumption)
                have q116 : x5_1 < (l1.length : Int) := of_decide_eq_true (by first | (with_reducible assumption) | assumption)
                obtain ⟨ad116, e116, hx116_0⟩ := Kd.at_int HR1.out x5_1 p116 q116
                cases e116
                replace p116 := eq_true p116
                replace q116 := eq_true q116
                go_wp2
                repeat (go_quiet (fail); try go_wp2)
                go_ret
                exact ⟨by first | rfl | (simp; done) | (simp [*]; done), by repeat (first | exact Drawn0.refl _ | apply Drawn0.step)⟩
            · rw [if_neg c6] at H
              exact absurd H (by simp)
          · rw [if_neg c5] at H
            exact absurd H (by simp)
        · rw [if_neg c4] at H
          have c4b0 : decide (x5_1 < (l0.length : Int)) = false := decide_eq_false c4
          clear c4
          obtain rfl := Option.some.inj H
          go_wp2
          repeat (go_quiet (fail); try go_wp2)
          go_ret
          exact ⟨by first | rfl | (simp; done) | (simp [*]; done), by repeat (first | exact Drawn0.refl _ | apply Drawn0.step)⟩
  · rw [if_neg c3] at H
    have c3b0 : ((l0.length : Int) == (l1.length : Int)) = false := beq_eq_false_iff_ne.mpr c3
    have c3b1 : ((l0.length : Int) != (l1.length : Int)) = true := bne_iff_ne.mpr c3
    have c3b2 : (l0.length == l1.length) = false := by first | simpa using c3 | (simp at c3 ⊢; omega)
    obtain rfl := Option.some.inj H
    go_enter Try.func24, Try.ntmps24
    go_wp2
    repeat (go_quiet (fail); try go_wp2)
    go_ret
    exact ⟨by first | rfl | (simp; done) | (simp [*]; done), by repeat (first | exact Drawn0.refl _ | apply Drawn0.step)⟩

/-! ### laws_FnExactTakeWide: function 5 -/
def laws_FnExactTakeWide.j0 : Nat → List Int → List Int → Bool → Option (Bool)
  | 0, _, _, _ => none
  | k + 1, x0, x7, x35 => if x35 = true then (some false) else ((laws_toByteS.f k x0).bind fun t127 => ((laws_eqByteS.f k x7 t127).bind fun t130 => (if t130 = true then (some true) else (some false))))
def laws_FnExactTakeWide.f (k : Nat) (l0 : List Int) (a1 : Int) : Option (Bool) := if (l0.length : Int) > 1048576 then (some true) else ((laws_toByteS.f k l0).bind fun t117 => ((spec_TakeWide.f k t117 a1).bind fun bt120 => ((laws_toByteS.f k l0).bind fun t122 => ((impl_TakeWide.f k t122 a1).bind fun bt125 => (if bt125.1 = bt120.1 then (laws_FnExactTakeWide.j0 k l0 t122 (bt125.2 != bt120.2)) else (laws_FnExactTakeWide.j0 k l0 t122 true))))))
theorem laws_FnExactTakeWide.mono_l : ∀ k, (∀ y0 y1 y2, LeO (laws_FnExactTakeWide.j0 k y0 y1 y2) (laws_FnExactTakeWide.j0 (k + 1) y0 y1 y2))
  | 0 => fun _ _ _ r h => by simp [laws_FnExactTakeWide.j0] at h
  | k + 1 => by
    have ih0 := laws_FnExactTakeWide.mono_l k
    · intro y0 y1 y2
      unfold laws_FnExactTakeWide.j0
      repeat' first
      | (with_reducible exact ih0 _ _ _)
      | (with_reducible exact impl_TakeWide.mono _ _ _)
      | (with_reducible exact laws_eqByteS.mono _ _ _)
      | (with_reducible exact laws_toByteS.mono _ _)
      | (with_reducible exact spec_TakeWide.mono _ _ _)
      | (with_reducible exact LeO.refl _)
      | (with_reducible exact LeO.none _)
      | (with_reducible refine LeO.ite ?_ ?_)
      | (with_reducible refine LeO.bind ?_ (fun _ => ?_))
      | exact ih0 _ _ _
      | exact impl_TakeWide.mono _ _ _
      | exact laws_eqByteS.mono _ _ _
      | exact laws_toByteS.mono _ _
      | exact spec_TakeWide.mono _ _ _
      | exact LeO.none _
      | refine LeO.ite ?_ ?_
      | refine LeO.bind ?_ (fun _ => ?_)
theorem laws_FnExactTakeWide.mono : ∀ a0 a1 k, LeO (laws_FnExactTakeWide.f k a0 a1) (laws_FnExactTakeWide.f (k + 1) a0 a1) := by
  intro a0 a1 k
  have ih0 := laws_FnExactTakeWide.mono_l k
  unfold laws_FnExactTakeWide.f
  repeat' first
      | (with_reducible exact ih0 _ _ _)
      | (with_reducible exact impl_TakeWide.mono _ _ _)
      | (with_reducible exact laws_eqByteS.mono _ _ _)
      | (with_reducible exact laws_toByteS.mono _ _)
      | (with_reducible exact spec_TakeWide.mono _ _ _)
      | (with_reducible exact LeO.refl _)
      | (with_reducible exact LeO.none _)
      | (with_reducible refine LeO.ite ?_ ?_)
      | (with_reducible refine LeO.bind ?_ (fun _ => ?_))
      | exact ih0 _ _ _
      | exact impl_TakeWide.mono _ _ _
      | exact laws_eqByteS.mono _ _ _
      | exact laws_toByteS.mono _ _
      | exact spec_TakeWide.mono _ _ _
      | exact LeO.none _
      | refine LeO.ite ?_ ?_
      | refine LeO.bind ?_ (fun _ => ?_)
set_option maxHeartbeats 8000000 in
set_option maxRecDepth 100000 in
theorem laws_FnExactTakeWide.calls (k : Nat) (A0 : Option Addr) (c0 : Nat) (l0 : List Int) (a1 : Int) (w : World) (hr0 : Kd.C (Kd.int .u8) w A0 l0.length l0) (hc0 : l0.length ≤ c0) (h : laws_FnExactTakeWide.f k l0 a1 = some true) :
    Calls Try.prog 5 #[.slice A0 l0.length c0, .int .i64 a1] w fun e w' => e = .returned (.bool true) ∧ Below w.heap.size w w' := by
  have HR0 := Aside0.mk hr0
  have HC0 := Aside0.mk hc0
  clear hr0 hc0
  have HB := Aside0.mk (Below.refl w.heap.size w)
  have H : (if (l0.length : Int) > 1048576 then (some true) else ((laws_toByteS.f k l0).bind fun t117 => ((spec_TakeWide.f k t117 a1).bind fun bt120 => ((laws_toByteS.f k l0).bind fun t122 => ((impl_TakeWide.f k t122 a1).bind fun bt125 => (if bt125.1 = bt120.1 then (laws_FnExactTakeWide.j0 k l0 t122 (bt125.2 != bt120.2)) else (laws_FnExactTakeWide.j0 k l0 t122 true))))))) = some true := h
  clear h
  by_cases c3 : (l0.length : Int) > 1048576
  · rw [if_pos c3] at H
    have c3b0 : decide (1048576 < (l0.length : Int)) = true := decide_eq_true c3
    have c3b1 : decide (1048576 < l0.length) = true := decide_eq_true (by omega)
    clear c3
    clear H
    go_enter Try.func5, Try.ntmps5
    go_wp2
    go_ret
    exact ⟨by first | rfl | (simp [errW_none, errW_some] <;> rfl) | (simp [*, errW_none, errW_some] <;> rfl), by repeat (first | (with_reducible first | exact HB.out | apply below_alloc | apply pw_below_drewN | apply below_drew1) | exact HB.out)⟩
  · rw [if_neg c3] at H
    have c3b0 : decide (1048576 < (l0.length : Int)) = false := decide_eq_false c3
    have c3b1 : decide (1048576 < l0.length) = false := decide_eq_false (by omega)
    clear c3
    replace H := Option.bind_eq_some_iff.mp H
    obtain ⟨t117, A40, H⟩ := H
    replace H : ((spec_TakeWide.f k t117 a1).bind fun bt120 => ((laws_toByteS.f k l0).bind fun t122 => ((impl_TakeWide.f k t122 a1).bind fun bt125 => (if bt125.1 = bt120.1 then (laws_FnExactTakeWide.j0 k l0 t122 (bt125.2 != bt120.2)) else (laws_FnExactTakeWide.j0 k l0 t122 true))))) = some true := H
    have A4 := Aside0.mk A40
    clear A40
    replace H := Option.bind_eq_some_iff.mp H
    obtain ⟨⟨t120, t121⟩, A50, H⟩ := H
    replace H : ((laws_toByteS.f k l0).bind fun t122 => ((impl_TakeWide.f k t122 a1).bind fun bt125 => (if bt125.1 = t120 then (laws_FnExactTakeWide.j0 k l0 t122 (bt125.2 != t121)) else (laws_FnExactTakeWide.j0 k l0 t122 true)))) = some true := H
    have A5 := Aside0.mk A50
    clear A50
    replace H := Option.bind_eq_some_iff.mp H
    obtain ⟨t122, A60, H⟩ := H
    replace H : ((impl_TakeWide.f k t122 a1).bind fun bt125 => (if bt125.1 = t120 then (laws_FnExactTakeWide.j0 k l0 t122 (bt125.2 != t121)) else (laws_FnExactTakeWide.j0 k l0 t122 true))) = some true := H
    have A6 := Aside0.mk A60
    clear A60
    replace H := Option.bind_eq_some_iff.mp H
    obtain ⟨⟨t125, t126⟩, A70, H⟩ := H
    replace H : (if t125 = t120 then (laws_FnExactTakeWide.j0 k l0 t122 (t126 != t121)) else (laws_FnExactTakeWide.j0 k l0 t122 true)) = some true := H
    have A7 := Aside0.mk A70
    clear A70
    have HC8 := Aside0.mk H
    clear H
    go_enter Try.func5, Try.ntmps5
    go_upto_region 6 with (first | ((with_reducible refine gate_callee (f := 22) rfl ?_); refine goesL_ (some 15) rfl rfl Try.func22 (by kernel_rfl) rfl #[.slice A0 l0.length c0] rfl (by (try simp only [List.map_toArray, List.map_cons, List.map_nil]); first | done | rfl | (simp only [List.length_drop, List.length_take]; rfl)) ?_; (with_reducible refine (laws_toByteS.calls k _ _ l0 t117 _ ?side1 ?side2 A4.out).mono ?_); (case side1 => repeat (first | exact HR0.out | (with_reducible refine Kd.C_alloc ?_ _) | (with_reducible refine Kd.C_drewN ?_ _) | (with_reducible refine Kd.C_drew ?_))); (case side2 => exact HC0.out); rintro e w9 ⟨v118, rfl, ho0, hb⟩; refine ⟨_, rfl, ?_⟩; have n0_ := Aside0.mk (Kd.R_lower ho0 (below_size (by repeat (first | (with_reducible first | exact HB.out | apply below_alloc | apply pw_below_drewN | apply below_drew1) | exact HB.out)))); have n1_ := Aside0.mk (below_step (by repeat (first | (with_reducible first | exact HB.out | apply below_alloc | apply pw_below_drewN | apply below_drew1) | exact HB.out)) hb); clear HB; have HO119 := n0_; have HB := n1_; clear n0_ n1_; (try clear hb); (try clear hb2); (try clear hk); (try clear hi); (try clear ho0); obtain ⟨Ao10, co10, eo10⟩ := Kd.R_slice HO119.out; subst eo10) | ((with_reducible refine gate_callee (f := 21) rfl ?_); refine goesL_ (some 17) rfl rfl Try.func21 (by kernel_rfl) rfl #[.slice Ao10 t117.length co10, .int .i64 a1] rfl (by (try simp only [List.map_toArray, List.map_cons, List.map_nil]); first | done | rfl | (simp only [List.length_drop, List.length_take]; rfl)) ?_; (with_reducible refine (spec_TakeWide.calls k _ _ t117 a1 t120 t121 _ ?side1 ?side2 A5.out).mono ?_); (case side1 => repeat (first | exact (Kd.R_reads' HO119.out).2.2 | (with_reducible refine Kd.C_alloc ?_ _) | (with_reducible refine Kd.C_drewN ?_ _) | (with_reducible refine Kd.C_drew ?_))); (case side2 => exact (Kd.R_reads' HO119.out).2.1); rintro e w' ⟨rfl, ⟨nd, rfl⟩⟩; refine ⟨_, rfl, ?_⟩) | ((with_reducible refine gate_callee (f := 22) rfl ?_); refine goesL_ (some 21) rfl rfl Try.func22 (by kernel_rfl) rfl #[.slice A0 l0.length c0] rfl (by (try simp only [List.map_toArray, List.map_cons, List.map_nil]); first | done | rfl | (simp only [List.length_drop, List.length_take]; rfl)) ?_; (with_reducible refine (laws_toByteS.calls k _ _ l0 t122 _ ?side1 ?side2 A6.out).mono ?_); (case side1 => repeat (first | exact (Kd.C_below HR0.out (by repeat (first | (with_reducible first | exact HB.out | apply below_alloc | apply pw_below_drewN | apply below_drew1) | exact HB.out))) | (with_reducible refine Kd.C_alloc ?_ _) | (with_reducible refine Kd.C_drewN ?_ _) | (with_reducible refine Kd.C_drew ?_))); (case side2 => exact HC0.out); rintro e w11 ⟨v123, rfl, ho0, hb⟩; refine ⟨_, rfl, ?_⟩; have n0_ := Aside0.mk (Kd.R_elder' (by (with_reducible repeat (first | apply Kd.R_alloc | apply Kd.R_drewN | apply Kd.R_drew)); exact HO119.out) (Kd.R_base ho0) hb); have n1_ := Aside0.mk (Kd.R_lower (Kd.R_new' ho0 (Kd.R_lt (by (with_reducible repeat (first | apply Kd.R_alloc | apply Kd.R_drewN | apply Kd.R_drew)); exact HO119.out))) (below_size (by repeat (first | (with_reducible first | exact HB.out | apply below_alloc | apply pw_below_drewN | apply below_drew1) | exact HB.out)))); have n2_ := Aside0.mk (below_step (by repeat (first | (with_reducible first | exact HB.out | apply below_alloc | apply pw_below_drewN | apply below_drew1) | exact HB.out)) hb); clear HO119; clear HB; have HO119 := n0_; have HO124 := n1_; have HB := n2_; clear n0_ n1_ n2_; (try clear hb); (try clear hb2); (try clear hk); (try clear hi); (try clear ho0); obtain ⟨Ao12, co12, eo12⟩ := Kd.R_slice HO124.out; subst eo12) | ((with_reducible refine gate_callee (f := 23) rfl ?_); refine goesL_ (some 25) rfl rfl Try.func23 (by kernel_rfl) rfl #[.slice Ao12 t122.length co12, .int .i64 a1] rfl (by (try simp only [List.map_toArray, List.map_cons, List.map_nil]); first | done | rfl | (simp only [List.length_drop, List.length_take]; rfl)) ?_; (with_reducible refine (impl_TakeWide.calls k _ _ t122 a1 t125 t126 _ ?side1 ?side2 A7.out).mono ?_); (case side1 => repeat (first | exact (Kd.R_reads' HO124.out).2.2 | (with_reducible refine Kd.C_alloc ?_ _) | (with_reducible refine Kd.C_drewN ?_ _) | (with_reducible refine Kd.C_drew ?_))); (case side2 => exact (Kd.R_reads' HO124.out).2.1); rintro e w13 ⟨rfl, hb⟩; refine ⟨_, rfl, ?_⟩; have n0_ := Aside0.mk (Kd.R_below (by (with_reducible repeat (first | apply Kd.R_alloc | apply Kd.R_drewN | apply Kd.R_drew)); exact HO119.out) hb); have n1_ := Aside0.mk (Kd.R_below (by (with_reducible repeat (first | apply Kd.R_alloc | apply Kd.R_drewN | apply Kd.R_drew)); exact HO124.out) hb); have n2_ := Aside0.mk (below_step (by repeat (first | (with_reducible first | exact HB.out | apply below_alloc | apply pw_below_drewN | apply below_drew1) | exact HB.out)) hb); clear HO119; clear HO124; clear HB; have HO119 := n0_; have HO124 := n1_; have HB := n2_; clear n0_ n1_ n2_; (try clear hb); (try clear hb2); (try clear hk); (try clear hi)))
    (try simp only [Act.put, List.setIfInBounds_toArray, List.set_cons_zero, List.set_cons_succ])
    go_cut [35] (fun v35 wc => ∃ (kq : Nat) (x35_7 : Bool), v35 = .bool x35_7 ∧ Aside0 (laws_FnExactTakeWide.j0 kq l0 t122 x35_7 = some true) ∧ Aside0 (kq ≤ k) ∧ Aside0 (Kd.R (Kd.int .u8) 5 wc w.heap.size (fun _ => True) (.slice Ao12 t122.length co12) t122) ∧ Aside0 (Below w.heap.size w wc))
    case first =>
      have H := HC8.out
      clear HC8
      by_cases c14 : t125 = t120
      · rw [if_pos c14] at H
        have c14b0 : (t125 == t120) = true := beq_iff_eq.mpr c14
        have c14b1 : (t125 != t120) = false := bne_eq_false_iff_eq.mpr c14
        clear c14
        (first | rw [c14b0] | (simp only [i64_w, i32_w]; rw [c14b0]) | skip)
        have H' := Aside0.mk H
        clear H
        go_wp2
        go_meet
        case rel => exact ⟨_, ((t126 != t121)), (by first | rfl | (simp; done) | (simp [*]; done)), H', ⟨by first | omega | exact Nat.le_refl _⟩, ⟨by (with_reducible repeat (first | apply Kd.R_alloc | apply Kd.R_drewN | apply Kd.R_drew)); exact Kd.R_mono HO124.out (fun _ hk => trivial)⟩, ⟨by repeat (first | (with_reducible first | exact HB.out | apply below_alloc | apply pw_below_drewN | apply below_drew1) | exact HB.out)⟩⟩
      · rw [if_neg c14] at H
        have c14b0 : (t125 == t120) = false := beq_eq_false_iff_ne.mpr c14
        have c14b1 : (t125 != t120) = true := bne_iff_ne.mpr c14
        (first | rw [c14b0] | (simp only [i64_w, i32_w]; rw [c14b0]) | skip)
        have H' := Aside0.mk H
        clear H
        go_wp2
        go_meet
        case rel => exact ⟨_, (true), (by first | rfl | (simp; done) | (simp [*]; done)), H', ⟨by first | omega | exact Nat.le_refl _⟩, ⟨by (with_reducible repeat (first | apply Kd.R_alloc | apply Kd.R_drewN | apply Kd.R_drew)); exact Kd.R_mono HO124.out (fun _ hk => trivial)⟩, ⟨by repeat (first | (with_reducible first | exact HB.out | apply below_alloc | apply pw_below_drewN | apply below_drew1) | exact HB.out)⟩⟩
    case rest =>
      clear HC8
      try clear c1
      try clear c2
      try clear p2
      try clear c3
      try clear c3b0
      try clear c3b1
      try clear c5
      try clear c14
      try clear c14b0
      try clear c14b1
      obtain ⟨kq, x35_7, rfl, HA, HJ7, HO_7, HB⟩ := hcut
      cases kq with
      | zero => exact absurd HA.out (by simp [laws_FnExactTakeWide.j0])
      | succ kj7 =>
        have H := HA.out
        clear HA
        simp only [laws_FnExactTakeWide.j0] at H
        by_cases c15 : x35_7 = true
        · subst c15
          have H1 : (some false) = some true := by rw [if_pos rfl] at H; exact H
          clear H
          have H := H1
          clear H1
          exact absurd H (by decide)
        · replace c15 := Bool.eq_false_iff.mpr c15
          subst c15
          have H1 : ((laws_toByteS.f kj7 l0).bind fun t127 => ((laws_eqByteS.f kj7 t122 t127).bind fun t130 => (if t130 = true then (some true) else (some false)))) = some true := by rw [if_neg (show ¬ (false = true) by decide)] at H; exact H
          clear H
          have H := H1
          clear H1
          replace H := Option.bind_eq_some_iff.mp H
          obtain ⟨t127, A160, H⟩ := H
          replace H : ((laws_eqByteS.f kj7 t122 t127).bind fun t130 => (if t130 = true then (some true) else (some false))) = some true := H
          have A16 := Aside0.mk A160
          clear A160
          replace H := Option.bind_eq_some_iff.mp H
          obtain ⟨t130, A170, H⟩ := H
          replace H : (if t130 = true then (some true) else (some false)) = some true := H
          have A17 := Aside0.mk A170
          clear A170
          by_cases c18 : t130 = true
          · subst c18
            have H1 : (some true) = some true := rfl
            clear H
            have H := H1
            clear H1
            clear H
            go_wp2_with (first | ((with_reducible refine gate_callee (f := 22) rfl ?_); refine goesL_ (some 38) rfl rfl Try.func22 (by kernel_rfl) rfl #[.slice A0 l0.length c0] rfl (by (try simp only [List.map_toArray, List.map_cons, List.map_nil]); first | done | rfl | (simp only [List.length_drop, List.length_take]; rfl)) ?_; (with_reducible refine (laws_toByteS.calls kj7 _ _ l0 t127 _ ?side1 ?side2 A16.out).mono ?_); (case side1 => repeat (first | exact (Kd.C_below HR0.out HB.out) | (with_reducible refine Kd.C_alloc ?_ _) | (with_reducible refine Kd.C_drewN ?_ _) | (with_reducible refine Kd.C_drew ?_))); (case side2 => exact HC0.out); rintro e w19 ⟨v128, rfl, ho0, hb⟩; refine ⟨_, rfl, ?_⟩; have n0_ := Aside0.mk (Kd.R_elder' (by (with_reducible repeat (first | apply Kd.R_alloc | apply Kd.R_drewN | apply Kd.R_drew)); exact HO_7.out) (Kd.R_base ho0) hb); have n1_ := Aside0.mk (Kd.R_lower (Kd.R_new' ho0 (Kd.R_lt (by (with_reducible repeat (first | apply Kd.R_alloc | apply Kd.R_drewN | apply Kd.R_drew)); exact HO_7.out))) (below_size (by repeat (first | (with_reducible first | exact HB.out | apply below_alloc | apply pw_below_drewN | apply below_drew1) | exact HB.out)))); have n2_ := Aside0.mk (below_step (by repeat (first | (with_reducible first | exact HB.out | apply below_alloc | apply pw_below_drewN | apply below_drew1) | exact HB.out)) hb); clear HO_7; clear HB; have HO_7 := n0_; have HO129 := n1_; have HB := n2_; clear n0_ n1_ n2_; (try clear hb); (try clear hb2); (try clear hk); (try clear hi); (try clear ho0); obtain ⟨Ao20, co20, eo20⟩ := Kd.R_slice HO129.out; subst eo20) | ((with_reducible refine gate_callee (f := 24) rfl ?_); refine goesL_ (some 39) rfl rfl Try.func24 (by kernel_rfl) rfl #[.slice Ao12 t122.length co12, .slice Ao20 t127.length co20] rfl (by (try simp only [List.map_toArray, List.map_cons, List.map_nil]); first | done | rfl | (simp only [List.length_drop, List.length_take]; rfl)) ?_; (with_reducible refine (laws_eqByteS.calls kj7 _ _ t122 _ _ t127 true _ ?side1 ?side2 ?side3 ?side4 A17.out).mono ?_); (case side1 => repeat (first | exact (Kd.R_reads' HO_7.out).2.2 | (with_reducible refine Kd.C_alloc ?_ _) | (with_reducible refine Kd.C_drewN ?_ _) | (with_reducible refine Kd.C_drew ?_))); (case side2 => exact (Kd.R_reads' HO_7.out).2.1); (case side3 => repeat (first | exact (Kd.R_reads' HO129.out).2.2 | (with_reducible refine Kd.C_alloc ?_ _) | (with_reducible refine Kd.C_drewN ?_ _) | (with_reducible refine Kd.C_drew ?_))); (case side4 => exact (Kd.R_reads' HO129.out).2.1); rintro e w' ⟨rfl, ⟨nd, rfl⟩⟩; refine ⟨_, rfl, ?_⟩))
            go_ret
            exact ⟨by first | rfl | (simp [errW_none, errW_some] <;> rfl) | (simp [*, errW_none, errW_some] <;> rfl), by repeat (first | (with_reducible first | exact HB.out | apply below_alloc | apply pw_below_drewN | apply below_drew1) | exact HB.out)⟩
          · replace c18 := Bool.eq_false_iff.mpr c18
            subst c18
            have H1 : (some false) = some true := by rw [if_neg (show ¬ (false = true) by decide)] at H; exact H
            clear H
            have H := H1
            clear H1
            exact absurd H (by decide)

end Go.Proofs.Ytenajdbekdfnjaa.PFnExactTakeWide
