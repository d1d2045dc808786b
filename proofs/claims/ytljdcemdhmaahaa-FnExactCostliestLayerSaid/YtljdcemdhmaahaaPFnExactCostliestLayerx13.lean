-- Printed by the session's own program (wip/myprint.py) for this claim out of the translation. Not trusted: Lean checks it.
import Derived.Test.YtljdcemdhmaahaaPFnExactCostliestLayerx0
import Derived.Test.YtljdcemdhmaahaaPFnExactCostliestLayerx1
import Derived.Test.YtljdcemdhmaahaaPFnExactCostliestLayerx7
import Derived.Test.YtljdcemdhmaahaaPFnExactCostliestLayerx12
namespace Go.Proofs.Ytljdcemdhmaahaa.PFnExactCostliestLayer
open Go.RowKit Go.Proofs.YtljdcemdhmaahaaW.PrintWords Go.Proofs.YtljdcemdhmaahaaW.PrintLast Go.Proofs.YtljdcemdhmaahaaW.PrintMore
attribute [local go_sem] max2_int min2_int max_two min_two max_three min_three max_four min_four   -- for this text's walks alone
set_option linter.unusedVariables false
set_option linter.unusedSimpArgs false

/-! ### laws_eqLayerS: function 72 -/
def laws_eqLayerS.l0 : Nat → List (S73) → List (S73) → Int → Option (Bool)
  | 0, _, _, _ => none
  | k + 1, x0, x1, x5 => if x5 < (x0.length : Int) then (if 0 ≤ x5 then (if x5 < (x1.length : Int) then ((laws_eqLayer.f k ((rd_T73 x0 x5).f0) ((rd_T73 x0 x5).f1) ((rd_T73 x0 x5).f2) ((rd_T73 x0 x5).f3) ((rd_T73 x0 x5).f4) ((rd_T73 x0 x5).f5) ((rd_T73 x0 x5).f6) ((rd_T73 x0 x5).f7) ((rd_T73 x0 x5).f8) ((rd_T73 x1 x5).f0) ((rd_T73 x1 x5).f1) ((rd_T73 x1 x5).f2) ((rd_T73 x1 x5).f3) ((rd_T73 x1 x5).f4) ((rd_T73 x1 x5).f5) ((rd_T73 x1 x5).f6) ((rd_T73 x1 x5).f7) ((rd_T73 x1 x5).f8)).bind fun t358 => (if t358 = true then (laws_eqLayerS.l0 k x0 x1 (wrap64 (x5 + 1))) else (some false))) else (none)) else (none)) else (some true)
def laws_eqLayerS.f (k : Nat) (l0 : List (S73)) (l1 : List (S73)) : Option (Bool) := if (l0.length : Int) = (l1.length : Int) then (laws_eqLayerS.l0 k l0 l1 0) else (some false)
def laws_eqLayerS.T6 : Bool × List (List Nat × List Nat) := (true, [([], []), ([], []), ([0, 1], [0, 1]), ([2], [2]), ([], []), ([], []), ([4, 5], [4, 5]), ([6], [6]), ([3, 7], [3, 7]), ([8], [8])])
def laws_eqLayerS.B6 : List Nat := [0, 0, 3, 7, 0, 0, 48, 112, 255, 511]
theorem laws_eqLayerS.tab6 : rtab .any (opsOf Try.f72 6) = laws_eqLayerS.T6 := by kernel_rfl
theorem laws_eqLayerS.bits6 : waitsOk laws_eqLayerS.T6.2 laws_eqLayerS.B6 = true := by kernel_rfl
set_option maxHeartbeats 8000000 in
set_option maxRecDepth 100000 in
theorem laws_eqLayerS.calls (k : Nat) (A0 : Option Addr) (c0 : Nat) (l0 : List (S73)) (A1 : Option Addr) (c1 : Nat) (l1 : List (S73)) (r : Bool) (w : World) (hr0 : Kd.C k73 w A0 l0.length l0) (hc0 : l0.length ≤ c0) (hr1 : Kd.C k73 w A1 l1.length l1) (hc1 : l1.length ≤ c1) (h : laws_eqLayerS.f k l0 l1 = some r) :
   Calls Try.prog 72 #[.slice A0 l0.length c0, .slice A1 l1.length c1] w fun e w' => e = .returned (.bool r) ∧ Below w.heap.size w w' := by
  have hu73 := Try.underlying73
  have HR0 := Aside0.mk hr0
  have HC0 := Aside0.mk hc0
  clear hr0 hc0
  have HR1 := Aside0.mk hr1
  have HC1 := Aside0.mk hc1
  clear hr1 hc1
  have HB := Aside0.mk (Below.refl w.heap.size w)
  have H : (if (l0.length : Int) = (l1.length : Int) then (laws_eqLayerS.l0 k l0 l1 0) else (some false)) = some r := h
  clear h
  by_cases c3 : (l0.length : Int) = (l1.length : Int)
  ·rw [if_pos c3] at H
   have c3b0 : ((l0.length : Int) == (l1.length : Int)) = true := beq_iff_eq.mpr c3
   have c3b1 : ((l0.length : Int) != (l1.length : Int)) = false := bne_eq_false_iff_eq.mpr c3
   have c3b2 : (l0.length == l1.length) = true := by first | simpa using c3 | (simp at c3 ⊢; omega)
   clear c3
   have H' := Aside0.mk H
   clear H
   go_enter Try.func72, Try.ntmps72
   go_wp2
   go_loopg [5] k (fun kq v5 w' => ∃ (x5_1 : Int), v5 = .int .i64 x5_1 ∧ Aside0 (laws_eqLayerS.l0 kq l0 l1 x5_1 = some r) ∧ Aside0 (kq ≤ k) ∧ Aside0 (Below w.heap.size w w'))
   case atStart => exact ⟨(0), (by first | rfl | (simp; done) | (simp [*]; done)), H', ⟨Nat.le_refl _⟩, ⟨bel_now⟩⟩
   case round =>
    clear H'
    try clear c1
    try clear p2
    try clear c3
    try clear c3b0
    try clear c3b1
    try clear c3b2
    obtain ⟨x5_1, rfl, HA, HK1, HB⟩ := hrel
    cases gk with
    | zero => exact absurd HA.out (by simp [laws_eqLayerS.l0])
    | succ k1 =>
     have H := HA.out
     clear HA
     simp only [laws_eqLayerS.l0] at H
     by_cases c4 : x5_1 < (l0.length : Int)
     ·rw [if_pos c4] at H
      have c4b0 : decide (x5_1 < (l0.length : Int)) = true := decide_eq_true c4
      clear c4
      by_cases c5 : 0 ≤ x5_1
      ·rw [if_pos c5] at H
       have c5b0 : decide (0 ≤ x5_1) = true := decide_eq_true c5
       clear c5
       by_cases c6 : x5_1 < (l1.length : Int)
       ·rw [if_pos c6] at H
        have c6b0 : decide (x5_1 < (l1.length : Int)) = true := decide_eq_true c6
        clear c6
        replace H := Option.bind_eq_some_iff.mp H
        obtain ⟨t358, A70, H⟩ := H
        (try dsimp only at H)
        have A7 := Aside0.mk A70
        clear A70
        by_cases c8 : t358 = true
        ·subst c8
         rw [if_pos rfl] at H
         have H' := Aside0.mk H
         clear H
         try go_wp2
         have n0_ := Aside0.mk (below_drew1 HB.out)
         clear HB
         have HB := n0_
         clear n0_
         have p356 : 0 ≤ (x5_1 : Int) := of_decide_eq_true (by first | (with_reducible assumption) | assumption)
         have q356 : x5_1 < (l0.length : Int) := of_decide_eq_true (by first | (with_reducible assumption) | assumption)
         obtain ⟨ad356, A356_7, c356_7, A356_8, c356_8, e356, hx356_0, hx356_1, hx356_2, hx356_3, hx356_4, hx356_5, hx356_6, hx356_7, hx356_8, hl356_7, hi356_7, hl356_8, hi356_8⟩ := at_T73 HR0.out x5_1 p356 q356
         have hw356_8 := hx356_8
         have hw356_7 := hx356_7
         have hw356_6 := hx356_6
         have hw356_5 := hx356_5
         have hw356_4 := hx356_4
         have hw356_3 := hx356_3
         have hw356_2 := hx356_2
         have hw356_1 := hx356_1
         have hw356_0 := hx356_0
         cases e356
         replace hx356_0 := (HB.out.cell (World.block_lt_of_cell? w _ hx356_0)).trans hx356_0
         replace hx356_1 := (HB.out.cell (World.block_lt_of_cell? w _ hx356_1)).trans hx356_1
         replace hx356_2 := (HB.out.cell (World.block_lt_of_cell? w _ hx356_2)).trans hx356_2
         replace hx356_3 := (HB.out.cell (World.block_lt_of_cell? w _ hx356_3)).trans hx356_3
         replace hx356_4 := (HB.out.cell (World.block_lt_of_cell? w _ hx356_4)).trans hx356_4
         replace hx356_5 := (HB.out.cell (World.block_lt_of_cell? w _ hx356_5)).trans hx356_5
         replace hx356_6 := (HB.out.cell (World.block_lt_of_cell? w _ hx356_6)).trans hx356_6
         replace hx356_7 := (HB.out.cell (World.block_lt_of_cell? w _ hx356_7)).trans hx356_7
         replace hx356_8 := (HB.out.cell (World.block_lt_of_cell? w _ hx356_8)).trans hx356_8
         have HR356_7 := Aside0.mk hi356_7
         have HC356_7 := Aside0.mk hl356_7
         clear hi356_7 hl356_7
         have HR356_8 := Aside0.mk hi356_8
         have HC356_8 := Aside0.mk hl356_8
         clear hi356_8 hl356_8
         replace p356 := eq_true p356
         replace q356 := eq_true q356
         have p357 : 0 ≤ (x5_1 : Int) := of_decide_eq_true (by first | (with_reducible assumption) | assumption)
         have q357 : x5_1 < (l1.length : Int) := of_decide_eq_true (by first | (with_reducible assumption) | assumption)
         obtain ⟨ad357, A357_7, c357_7, A357_8, c357_8, e357, hx357_0, hx357_1, hx357_2, hx357_3, hx357_4, hx357_5, hx357_6, hx357_7, hx357_8, hl357_7, hi357_7, hl357_8, hi357_8⟩ := at_T73 HR1.out x5_1 p357 q357
         have hw357_8 := hx357_8
         have hw357_7 := hx357_7
         have hw357_6 := hx357_6
         have hw357_5 := hx357_5
         have hw357_4 := hx357_4
         have hw357_3 := hx357_3
         have hw357_2 := hx357_2
         have hw357_1 := hx357_1
         have hw357_0 := hx357_0
         cases e357
         replace hx357_0 := (HB.out.cell (World.block_lt_of_cell? w _ hx357_0)).trans hx357_0
         replace hx357_1 := (HB.out.cell (World.block_lt_of_cell? w _ hx357_1)).trans hx357_1
         replace hx357_2 := (HB.out.cell (World.block_lt_of_cell? w _ hx357_2)).trans hx357_2
         replace hx357_3 := (HB.out.cell (World.block_lt_of_cell? w _ hx357_3)).trans hx357_3
         replace hx357_4 := (HB.out.cell (World.block_lt_of_cell? w _ hx357_4)).trans hx357_4
         replace hx357_5 := (HB.out.cell (World.block_lt_of_cell? w _ hx357_5)).trans hx357_5
         replace hx357_6 := (HB.out.cell (World.block_lt_of_cell? w _ hx357_6)).trans hx357_6
         replace hx357_7 := (HB.out.cell (World.block_lt_of_cell? w _ hx357_7)).trans hx357_7
         replace hx357_8 := (HB.out.cell (World.block_lt_of_cell? w _ hx357_8)).trans hx357_8
         have HR357_7 := Aside0.mk hi357_7
         have HC357_7 := Aside0.mk hl357_7
         clear hi357_7 hl357_7
         have HR357_8 := Aside0.mk hi357_8
         have HC357_8 := Aside0.mk hl357_8
         clear hi357_8 hl357_8
         replace p357 := eq_true p357
         replace q357 := eq_true q357
         refine start_ (n := 10) (S := fun w' => w'.cell? (ad356.add ((x5_1).toNat * 9)) = some (.int .i64 ((rd_T73 l0 x5_1).f0)) ∧ w'.cell? ⟨(ad356.add ((x5_1).toNat * 9)).block, (ad356.add ((x5_1).toNat * 9)).off + 1, none⟩ = some (.int .i64 ((rd_T73 l0 x5_1).f1)) ∧ w'.cell? ⟨(ad356.add ((x5_1).toNat * 9)).block, (ad356.add ((x5_1).toNat * 9)).off + 2, none⟩ = some (.int .i64 ((rd_T73 l0 x5_1).f2)) ∧ w'.cell? ⟨(ad356.add ((x5_1).toNat * 9)).block, (ad356.add ((x5_1).toNat * 9)).off + 3, none⟩ = some (.int .i64 ((rd_T73 l0 x5_1).f3)) ∧ w'.cell? ⟨(ad356.add ((x5_1).toNat * 9)).block, (ad356.add ((x5_1).toNat * 9)).off + 4, none⟩ = some (.int .i64 ((rd_T73 l0 x5_1).f4)) ∧ w'.cell? ⟨(ad356.add ((x5_1).toNat * 9)).block, (ad356.add ((x5_1).toNat * 9)).off + 5, none⟩ = some (.int .i64 ((rd_T73 l0 x5_1).f5)) ∧ w'.cell? ⟨(ad356.add ((x5_1).toNat * 9)).block, (ad356.add ((x5_1).toNat * 9)).off + 6, none⟩ = some (.int .i64 ((rd_T73 l0 x5_1).f6)) ∧ w'.cell? ⟨(ad356.add ((x5_1).toNat * 9)).block, (ad356.add ((x5_1).toNat * 9)).off + 7, none⟩ = some (.slice A356_7 ((rd_T73 l0 x5_1).f7).length c356_7) ∧ w'.cell? ⟨(ad356.add ((x5_1).toNat * 9)).block, (ad356.add ((x5_1).toNat * 9)).off + 8, none⟩ = some (.slice A356_8 ((rd_T73 l0 x5_1).f8).length c356_8) ∧ w'.cell? (ad357.add ((x5_1).toNat * 9)) = some (.int .i64 ((rd_T73 l1 x5_1).f0)) ∧ w'.cell? ⟨(ad357.add ((x5_1).toNat * 9)).block, (ad357.add ((x5_1).toNat * 9)).off + 1, none⟩ = some (.int .i64 ((rd_T73 l1 x5_1).f1)) ∧ w'.cell? ⟨(ad357.add ((x5_1).toNat * 9)).block, (ad357.add ((x5_1).toNat * 9)).off + 2, none⟩ = some (.int .i64 ((rd_T73 l1 x5_1).f2)) ∧ w'.cell? ⟨(ad357.add ((x5_1).toNat * 9)).block, (ad357.add ((x5_1).toNat * 9)).off + 3, none⟩ = some (.int .i64 ((rd_T73 l1 x5_1).f3)) ∧ w'.cell? ⟨(ad357.add ((x5_1).toNat * 9)).block, (ad357.add ((x5_1).toNat * 9)).off + 4, none⟩ = some (.int .i64 ((rd_T73 l1 x5_1).f4)) ∧ w'.cell? ⟨(ad357.add ((x5_1).toNat * 9)).block, (ad357.add ((x5_1).toNat * 9)).off + 5, none⟩ = some (.int .i64 ((rd_T73 l1 x5_1).f5)) ∧ w'.cell? ⟨(ad357.add ((x5_1).toNat * 9)).block, (ad357.add ((x5_1).toNat * 9)).off + 6, none⟩ = some (.int .i64 ((rd_T73 l1 x5_1).f6)) ∧ w'.cell? ⟨(ad357.add ((x5_1).toNat * 9)).block, (ad357.add ((x5_1).toNat * 9)).off + 7, none⟩ = some (.slice A357_7 ((rd_T73 l1 x5_1).f7).length c357_7) ∧ w'.cell? ⟨(ad357.add ((x5_1).toNat * 9)).block, (ad357.add ((x5_1).toNat * 9)).off + 8, none⟩ = some (.slice A357_8 ((rd_T73 l1 x5_1).f8).length c357_8)) (ds := []) #[O, O, O, O, O, O, O, O, O, O] (by kernel_rfl) rfl rfl ⟨((HB.out.cell (World.block_lt_of_cell? w _ hw356_0)).trans hw356_0), ((HB.out.cell (World.block_lt_of_cell? w _ hw356_1)).trans hw356_1), ((HB.out.cell (World.block_lt_of_cell? w _ hw356_2)).trans hw356_2), ((HB.out.cell (World.block_lt_of_cell? w _ hw356_3)).trans hw356_3), ((HB.out.cell (World.block_lt_of_cell? w _ hw356_4)).trans hw356_4), ((HB.out.cell (World.block_lt_of_cell? w _ hw356_5)).trans hw356_5), ((HB.out.cell (World.block_lt_of_cell? w _ hw356_6)).trans hw356_6), ((HB.out.cell (World.block_lt_of_cell? w _ hw356_7)).trans hw356_7), ((HB.out.cell (World.block_lt_of_cell? w _ hw356_8)).trans hw356_8), ((HB.out.cell (World.block_lt_of_cell? w _ hw357_0)).trans hw357_0), ((HB.out.cell (World.block_lt_of_cell? w _ hw357_1)).trans hw357_1), ((HB.out.cell (World.block_lt_of_cell? w _ hw357_2)).trans hw357_2), ((HB.out.cell (World.block_lt_of_cell? w _ hw357_3)).trans hw357_3), ((HB.out.cell (World.block_lt_of_cell? w _ hw357_4)).trans hw357_4), ((HB.out.cell (World.block_lt_of_cell? w _ hw357_5)).trans hw357_5), ((HB.out.cell (World.block_lt_of_cell? w _ hw357_6)).trans hw357_6), ((HB.out.cell (World.block_lt_of_cell? w _ hw357_7)).trans hw357_7), ((HB.out.cell (World.block_lt_of_cell? w _ hw357_8)).trans hw357_8)⟩ (fun hHeld => ?_); refine with_tabW laws_eqLayerS.tab6 laws_eqLayerS.bits6 (fun HT_ HW_ => ?_)
         generalize wr.drew = w9 at HB HR356_7 HR356_8 HR357_7 HR357_8 hx356_0 hx356_1 hx356_2 hx356_3 hx356_4 hx356_5 hx356_6 hx356_7 hx356_8 hx357_0 hx357_1 hx357_2 hx357_3 hx357_4 hx357_5 hx357_6 hx357_7 hx357_8 hHeld ⊢
         refine stepP 0 (some 17) (tk 10 1) (any_of HT_.out (by kernel_rfl)) ?_
         refine stepP 1 (some 18) (tk 10 3) (any_of HT_.out (by kernel_rfl)) ?_
         refine stepP 2 (some 19) (tk 10 7) (any_of HT_.out (by kernel_rfl)) ?_
         refine stepP 4 (some 21) (tk 10 23) (any_of HT_.out (by kernel_rfl)) ?_
         refine stepP 5 (some 22) (tk 10 55) (any_of HT_.out (by kernel_rfl)) ?_
         refine stepP 6 (some 23) (tk 10 119) (any_of HT_.out (by kernel_rfl)) ?_
         refine stepT 3 (some 20) (tk 10 127) (take_ofW HT_.out HW_.out (by kernel_rfl)) hHeld ?_
         refine stepT 7 (some 24) (tk 10 255) (take_ofW HT_.out HW_.out (by kernel_rfl)) hHeld ?_
         refine one_ (i := 8) (N := some 25) #[I, I, I, I, I, I, I, I, I, O] rfl rfl (one_of HT_.out (by kernel_rfl)) (by decide) (fun K hK => ?_)
         refine goes_ Try.func101 (by kernel_rfl) rfl #[.agg #[.int .i64 ((rd_T73 l0 x5_1).f0), .int .i64 ((rd_T73 l0 x5_1).f1), .int .i64 ((rd_T73 l0 x5_1).f2), .int .i64 ((rd_T73 l0 x5_1).f3), .int .i64 ((rd_T73 l0 x5_1).f4), .int .i64 ((rd_T73 l0 x5_1).f5), .int .i64 ((rd_T73 l0 x5_1).f6), .slice A356_7 ((rd_T73 l0 x5_1).f7).length c356_7, .slice A356_8 ((rd_T73 l0 x5_1).f8).length c356_8], .agg #[.int .i64 ((rd_T73 l1 x5_1).f0), .int .i64 ((rd_T73 l1 x5_1).f1), .int .i64 ((rd_T73 l1 x5_1).f2), .int .i64 ((rd_T73 l1 x5_1).f3), .int .i64 ((rd_T73 l1 x5_1).f4), .int .i64 ((rd_T73 l1 x5_1).f5), .int .i64 ((rd_T73 l1 x5_1).f6), .slice A357_7 ((rd_T73 l1 x5_1).f7).length c357_7, .slice A357_8 ((rd_T73 l1 x5_1).f8).length c357_8]] (by rfl) rfl rfl (by (try simp only [List.map_toArray, List.map_cons, List.map_nil]); first | done | rfl | (simp only [List.length_drop, List.length_take]; rfl)) ?_
         with_reducible refine (laws_eqLayer.calls k1 ((rd_T73 l0 x5_1).f0) ((rd_T73 l0 x5_1).f1) ((rd_T73 l0 x5_1).f2) ((rd_T73 l0 x5_1).f3) ((rd_T73 l0 x5_1).f4) ((rd_T73 l0 x5_1).f5) ((rd_T73 l0 x5_1).f6) _ _ ((rd_T73 l0 x5_1).f7) _ _ ((rd_T73 l0 x5_1).f8) ((rd_T73 l1 x5_1).f0) ((rd_T73 l1 x5_1).f1) ((rd_T73 l1 x5_1).f2) ((rd_T73 l1 x5_1).f3) ((rd_T73 l1 x5_1).f4) ((rd_T73 l1 x5_1).f5) ((rd_T73 l1 x5_1).f6) _ _ ((rd_T73 l1 x5_1).f7) _ _ ((rd_T73 l1 x5_1).f8) true _ ?side1 ?side2 ?side3 ?side4 ?side5 ?side6 ?side7 ?side8 A7.out).mono ?_
         (case side1 => exact C_now HR356_7.out)
         (case side2 => exact HC356_7.out)
         (case side3 => exact C_now HR356_8.out)
         (case side4 => exact HC356_8.out)
         (case side5 => exact C_now HR357_7.out)
         (case side6 => exact HC357_7.out)
         (case side7 => exact C_now HR357_8.out)
         (case side8 => exact HC357_8.out)
         rintro e w10 ⟨rfl, hb⟩
         refine ⟨_, rfl, ?_⟩
         have n0_ := Aside0.mk (below_step bel_now hb)
         clear HB
         have HB := n0_
         clear n0_
         (try clear hb)
         (try clear hb2)
         (try clear hk)
         (try clear hi)
         refine hK.out _ _ ⟨((HB.out.cell (World.block_lt_of_cell? w _ hw356_0)).trans hw356_0), ((HB.out.cell (World.block_lt_of_cell? w _ hw356_1)).trans hw356_1), ((HB.out.cell (World.block_lt_of_cell? w _ hw356_2)).trans hw356_2), ((HB.out.cell (World.block_lt_of_cell? w _ hw356_3)).trans hw356_3), ((HB.out.cell (World.block_lt_of_cell? w _ hw356_4)).trans hw356_4), ((HB.out.cell (World.block_lt_of_cell? w _ hw356_5)).trans hw356_5), ((HB.out.cell (World.block_lt_of_cell? w _ hw356_6)).trans hw356_6), ((HB.out.cell (World.block_lt_of_cell? w _ hw356_7)).trans hw356_7), ((HB.out.cell (World.block_lt_of_cell? w _ hw356_8)).trans hw356_8), ((HB.out.cell (World.block_lt_of_cell? w _ hw357_0)).trans hw357_0), ((HB.out.cell (World.block_lt_of_cell? w _ hw357_1)).trans hw357_1), ((HB.out.cell (World.block_lt_of_cell? w _ hw357_2)).trans hw357_2), ((HB.out.cell (World.block_lt_of_cell? w _ hw357_3)).trans hw357_3), ((HB.out.cell (World.block_lt_of_cell? w _ hw357_4)).trans hw357_4), ((HB.out.cell (World.block_lt_of_cell? w _ hw357_5)).trans hw357_5), ((HB.out.cell (World.block_lt_of_cell? w _ hw357_6)).trans hw357_6), ((HB.out.cell (World.block_lt_of_cell? w _ hw357_7)).trans hw357_7), ((HB.out.cell (World.block_lt_of_cell? w _ hw357_8)).trans hw357_8)⟩ (fun hHeld => ?_)
         clear hK K
         refine norm_ (a' := ?_) ?_ ?_
         rotate_left
         ·show Act.put _ (some 25) _ = _
          simp only [Act.put, zA, zB, zC, i64_w, i32_w]
          rfl
         refine stepP 9 (some 26) (tk 10 1023) (any_of HT_.out (by kernel_rfl)) ?_
         refine done_ (done_of HT_.out (by kernel_rfl)) ?_
         try go_wp2
         go_roundg k1
         case measure => have := HK1.out; omega
         case rel => exact ⟨(wrap64 (x5_1 + 1)), (by first | rfl | (simp; done) | (simp [*]; done)), H', ⟨by have := HK1.out; omega⟩, ⟨bel_now⟩⟩
        ·replace c8 := Bool.eq_false_iff.mpr c8
         subst c8
         rw [if_neg (show ¬ (false = true) by decide)] at H
         obtain rfl := Option.some.inj H
         try go_wp2
         have n0_ := Aside0.mk (below_drew1 HB.out)
         clear HB
         have HB := n0_
         clear n0_
         have p356 : 0 ≤ (x5_1 : Int) := of_decide_eq_true (by first | (with_reducible assumption) | assumption)
         have q356 : x5_1 < (l0.length : Int) := of_decide_eq_true (by first | (with_reducible assumption) | assumption)
         obtain ⟨ad356, A356_7, c356_7, A356_8, c356_8, e356, hx356_0, hx356_1, hx356_2, hx356_3, hx356_4, hx356_5, hx356_6, hx356_7, hx356_8, hl356_7, hi356_7, hl356_8, hi356_8⟩ := at_T73 HR0.out x5_1 p356 q356
         have hw356_8 := hx356_8
         have hw356_7 := hx356_7
         have hw356_6 := hx356_6
         have hw356_5 := hx356_5
         have hw356_4 := hx356_4
         have hw356_3 := hx356_3
         have hw356_2 := hx356_2
         have hw356_1 := hx356_1
         have hw356_0 := hx356_0
         cases e356
         replace hx356_0 := (HB.out.cell (World.block_lt_of_cell? w _ hx356_0)).trans hx356_0
         replace hx356_1 := (HB.out.cell (World.block_lt_of_cell? w _ hx356_1)).trans hx356_1
         replace hx356_2 := (HB.out.cell (World.block_lt_of_cell? w _ hx356_2)).trans hx356_2
         replace hx356_3 := (HB.out.cell (World.block_lt_of_cell? w _ hx356_3)).trans hx356_3
         replace hx356_4 := (HB.out.cell (World.block_lt_of_cell? w _ hx356_4)).trans hx356_4
         replace hx356_5 := (HB.out.cell (World.block_lt_of_cell? w _ hx356_5)).trans hx356_5
         replace hx356_6 := (HB.out.cell (World.block_lt_of_cell? w _ hx356_6)).trans hx356_6
         replace hx356_7 := (HB.out.cell (World.block_lt_of_cell? w _ hx356_7)).trans hx356_7
         replace hx356_8 := (HB.out.cell (World.block_lt_of_cell? w _ hx356_8)).trans hx356_8
         have HR356_7 := Aside0.mk hi356_7
         have HC356_7 := Aside0.mk hl356_7
         clear hi356_7 hl356_7
         have HR356_8 := Aside0.mk hi356_8
         have HC356_8 := Aside0.mk hl356_8
         clear hi356_8 hl356_8
         replace p356 := eq_true p356
         replace q356 := eq_true q356
         have p357 : 0 ≤ (x5_1 : Int) := of_decide_eq_true (by first | (with_reducible assumption) | assumption)
         have q357 : x5_1 < (l1.length : Int) := of_decide_eq_true (by first | (with_reducible assumption) | assumption)
         obtain ⟨ad357, A357_7, c357_7, A357_8, c357_8, e357, hx357_0, hx357_1, hx357_2, hx357_3, hx357_4, hx357_5, hx357_6, hx357_7, hx357_8, hl357_7, hi357_7, hl357_8, hi357_8⟩ := at_T73 HR1.out x5_1 p357 q357
         have hw357_8 := hx357_8
         have hw357_7 := hx357_7
         have hw357_6 := hx357_6
         have hw357_5 := hx357_5
         have hw357_4 := hx357_4
         have hw357_3 := hx357_3
         have hw357_2 := hx357_2
         have hw357_1 := hx357_1
         have hw357_0 := hx357_0
         cases e357
         replace hx357_0 := (HB.out.cell (World.block_lt_of_cell? w _ hx357_0)).trans hx357_0
         replace hx357_1 := (HB.out.cell (World.block_lt_of_cell? w _ hx357_1)).trans hx357_1
         replace hx357_2 := (HB.out.cell (World.block_lt_of_cell? w _ hx357_2)).trans hx357_2
         replace hx357_3 := (HB.out.cell (World.block_lt_of_cell? w _ hx357_3)).trans hx357_3
         replace hx357_4 := (HB.out.cell (World.block_lt_of_cell? w _ hx357_4)).trans hx357_4
         replace hx357_5 := (HB.out.cell (World.block_lt_of_cell? w _ hx357_5)).trans hx357_5
         replace hx357_6 := (HB.out.cell (World.block_lt_of_cell? w _ hx357_6)).trans hx357_6
         replace hx357_7 := (HB.out.cell (World.block_lt_of_cell? w _ hx357_7)).trans hx357_7
         replace hx357_8 := (HB.out.cell (World.block_lt_of_cell? w _ hx357_8)).trans hx357_8
         have HR357_7 := Aside0.mk hi357_7
         have HC357_7 := Aside0.mk hl357_7
         clear hi357_7 hl357_7
         have HR357_8 := Aside0.mk hi357_8
         have HC357_8 := Aside0.mk hl357_8
         clear hi357_8 hl357_8
         replace p357 := eq_true p357
         replace q357 := eq_true q357
         refine start_ (n := 10) (S := fun w' => w'.cell? (ad356.add ((x5_1).toNat * 9)) = some (.int .i64 ((rd_T73 l0 x5_1).f0)) ∧ w'.cell? ⟨(ad356.add ((x5_1).toNat * 9)).block, (ad356.add ((x5_1).toNat * 9)).off + 1, none⟩ = some (.int .i64 ((rd_T73 l0 x5_1).f1)) ∧ w'.cell? ⟨(ad356.add ((x5_1).toNat * 9)).block, (ad356.add ((x5_1).toNat * 9)).off + 2, none⟩ = some (.int .i64 ((rd_T73 l0 x5_1).f2)) ∧ w'.cell? ⟨(ad356.add ((x5_1).toNat * 9)).block, (ad356.add ((x5_1).toNat * 9)).off + 3, none⟩ = some (.int .i64 ((rd_T73 l0 x5_1).f3)) ∧ w'.cell? ⟨(ad356.add ((x5_1).toNat * 9)).block, (ad356.add ((x5_1).toNat * 9)).off + 4, none⟩ = some (.int .i64 ((rd_T73 l0 x5_1).f4)) ∧ w'.cell? ⟨(ad356.add ((x5_1).toNat * 9)).block, (ad356.add ((x5_1).toNat * 9)).off + 5, none⟩ = some (.int .i64 ((rd_T73 l0 x5_1).f5)) ∧ w'.cell? ⟨(ad356.add ((x5_1).toNat * 9)).block, (ad356.add ((x5_1).toNat * 9)).off + 6, none⟩ = some (.int .i64 ((rd_T73 l0 x5_1).f6)) ∧ w'.cell? ⟨(ad356.add ((x5_1).toNat * 9)).block, (ad356.add ((x5_1).toNat * 9)).off + 7, none⟩ = some (.slice A356_7 ((rd_T73 l0 x5_1).f7).length c356_7) ∧ w'.cell? ⟨(ad356.add ((x5_1).toNat * 9)).block, (ad356.add ((x5_1).toNat * 9)).off + 8, none⟩ = some (.slice A356_8 ((rd_T73 l0 x5_1).f8).length c356_8) ∧ w'.cell? (ad357.add ((x5_1).toNat * 9)) = some (.int .i64 ((rd_T73 l1 x5_1).f0)) ∧ w'.cell? ⟨(ad357.add ((x5_1).toNat * 9)).block, (ad357.add ((x5_1).toNat * 9)).off + 1, none⟩ = some (.int .i64 ((rd_T73 l1 x5_1).f1)) ∧ w'.cell? ⟨(ad357.add ((x5_1).toNat * 9)).block, (ad357.add ((x5_1).toNat * 9)).off + 2, none⟩ = some (.int .i64 ((rd_T73 l1 x5_1).f2)) ∧ w'.cell? ⟨(ad357.add ((x5_1).toNat * 9)).block, (ad357.add ((x5_1).toNat * 9)).off + 3, none⟩ = some (.int .i64 ((rd_T73 l1 x5_1).f3)) ∧ w'.cell? ⟨(ad357.add ((x5_1).toNat * 9)).block, (ad357.add ((x5_1).toNat * 9)).off + 4, none⟩ = some (.int .i64 ((rd_T73 l1 x5_1).f4)) ∧ w'.cell? ⟨(ad357.add ((x5_1).toNat * 9)).block, (ad357.add ((x5_1).toNat * 9)).off + 5, none⟩ = some (.int .i64 ((rd_T73 l1 x5_1).f5)) ∧ w'.cell? ⟨(ad357.add ((x5_1).toNat * 9)).block, (ad357.add ((x5_1).toNat * 9)).off + 6, none⟩ = some (.int .i64 ((rd_T73 l1 x5_1).f6)) ∧ w'.cell? ⟨(ad357.add ((x5_1).toNat * 9)).block, (ad357.add ((x5_1).toNat * 9)).off + 7, none⟩ = some (.slice A357_7 ((rd_T73 l1 x5_1).f7).length c357_7) ∧ w'.cell? ⟨(ad357.add ((x5_1).toNat * 9)).block, (ad357.add ((x5_1).toNat * 9)).off + 8, none⟩ = some (.slice A357_8 ((rd_T73 l1 x5_1).f8).length c357_8)) (ds := []) #[O, O, O, O, O, O, O, O, O, O] (by kernel_rfl) rfl rfl ⟨((HB.out.cell (World.block_lt_of_cell? w _ hw356_0)).trans hw356_0), ((HB.out.cell (World.block_lt_of_cell? w _ hw356_1)).trans hw356_1), ((HB.out.cell (World.block_lt_of_cell? w _ hw356_2)).trans hw356_2), ((HB.out.cell (World.block_lt_of_cell? w _ hw356_3)).trans hw356_3), ((HB.out.cell (World.block_lt_of_cell? w _ hw356_4)).trans hw356_4), ((HB.out.cell (World.block_lt_of_cell? w _ hw356_5)).trans hw356_5), ((HB.out.cell (World.block_lt_of_cell? w _ hw356_6)).trans hw356_6), ((HB.out.cell (World.block_lt_of_cell? w _ hw356_7)).trans hw356_7), ((HB.out.cell (World.block_lt_of_cell? w _ hw356_8)).trans hw356_8), ((HB.out.cell (World.block_lt_of_cell? w _ hw357_0)).trans hw357_0), ((HB.out.cell (World.block_lt_of_cell? w _ hw357_1)).trans hw357_1), ((HB.out.cell (World.block_lt_of_cell? w _ hw357_2)).trans hw357_2), ((HB.out.cell (World.block_lt_of_cell? w _ hw357_3)).trans hw357_3), ((HB.out.cell (World.block_lt_of_cell? w _ hw357_4)).trans hw357_4), ((HB.out.cell (World.block_lt_of_cell? w _ hw357_5)).trans hw357_5), ((HB.out.cell (World.block_lt_of_cell? w _ hw357_6)).trans hw357_6), ((HB.out.cell (World.block_lt_of_cell? w _ hw357_7)).trans hw357_7), ((HB.out.cell (World.block_lt_of_cell? w _ hw357_8)).trans hw357_8)⟩ (fun hHeld => ?_); refine with_tabW laws_eqLayerS.tab6 laws_eqLayerS.bits6 (fun HT_ HW_ => ?_)
         generalize wr.drew = w11 at HB HR356_7 HR356_8 HR357_7 HR357_8 hx356_0 hx356_1 hx356_2 hx356_3 hx356_4 hx356_5 hx356_6 hx356_7 hx356_8 hx357_0 hx357_1 hx357_2 hx357_3 hx357_4 hx357_5 hx357_6 hx357_7 hx357_8 hHeld ⊢
         refine stepP 0 (some 17) (tk 10 1) (any_of HT_.out (by kernel_rfl)) ?_
         refine stepP 1 (some 18) (tk 10 3) (any_of HT_.out (by kernel_rfl)) ?_
         refine stepP 2 (some 19) (tk 10 7) (any_of HT_.out (by kernel_rfl)) ?_
         refine stepP 4 (some 21) (tk 10 23) (any_of HT_.out (by kernel_rfl)) ?_
         refine stepP 5 (some 22) (tk 10 55) (any_of HT_.out (by kernel_rfl)) ?_
         refine stepP 6 (some 23) (tk 10 119) (any_of HT_.out (by kernel_rfl)) ?_
         refine stepT 3 (some 20) (tk 10 127) (take_ofW HT_.out HW_.out (by kernel_rfl)) hHeld ?_
         refine stepT 7 (some 24) (tk 10 255) (take_ofW HT_.out HW_.out (by kernel_rfl)) hHeld ?_
         refine one_ (i := 8) (N := some 25) #[I, I, I, I, I, I, I, I, I, O] rfl rfl (one_of HT_.out (by kernel_rfl)) (by decide) (fun K hK => ?_)
         refine goes_ Try.func101 (by kernel_rfl) rfl #[.agg #[.int .i64 ((rd_T73 l0 x5_1).f0), .int .i64 ((rd_T73 l0 x5_1).f1), .int .i64 ((rd_T73 l0 x5_1).f2), .int .i64 ((rd_T73 l0 x5_1).f3), .int .i64 ((rd_T73 l0 x5_1).f4), .int .i64 ((rd_T73 l0 x5_1).f5), .int .i64 ((rd_T73 l0 x5_1).f6), .slice A356_7 ((rd_T73 l0 x5_1).f7).length c356_7, .slice A356_8 ((rd_T73 l0 x5_1).f8).length c356_8], .agg #[.int .i64 ((rd_T73 l1 x5_1).f0), .int .i64 ((rd_T73 l1 x5_1).f1), .int .i64 ((rd_T73 l1 x5_1).f2), .int .i64 ((rd_T73 l1 x5_1).f3), .int .i64 ((rd_T73 l1 x5_1).f4), .int .i64 ((rd_T73 l1 x5_1).f5), .int .i64 ((rd_T73 l1 x5_1).f6), .slice A357_7 ((rd_T73 l1 x5_1).f7).length c357_7, .slice A357_8 ((rd_T73 l1 x5_1).f8).length c357_8]] (by rfl) rfl rfl (by (try simp only [List.map_toArray, List.map_cons, List.map_nil]); first | done | rfl | (simp only [List.length_drop, List.length_take]; rfl)) ?_
         with_reducible refine (laws_eqLayer.calls k1 ((rd_T73 l0 x5_1).f0) ((rd_T73 l0 x5_1).f1) ((rd_T73 l0 x5_1).f2) ((rd_T73 l0 x5_1).f3) ((rd_T73 l0 x5_1).f4) ((rd_T73 l0 x5_1).f5) ((rd_T73 l0 x5_1).f6) _ _ ((rd_T73 l0 x5_1).f7) _ _ ((rd_T73 l0 x5_1).f8) ((rd_T73 l1 x5_1).f0) ((rd_T73 l1 x5_1).f1) ((rd_T73 l1 x5_1).f2) ((rd_T73 l1 x5_1).f3) ((rd_T73 l1 x5_1).f4) ((rd_T73 l1 x5_1).f5) ((rd_T73 l1 x5_1).f6) _ _ ((rd_T73 l1 x5_1).f7) _ _ ((rd_T73 l1 x5_1).f8) false _ ?side1 ?side2 ?side3 ?side4 ?side5 ?side6 ?side7 ?side8 A7.out).mono ?_
         (case side1 => exact C_now HR356_7.out)
         (case side2 => exact HC356_7.out)
         (case side3 => exact C_now HR356_8.out)
         (case side4 => exact HC356_8.out)
         (case side5 => exact C_now HR357_7.out)
         (case side6 => exact HC357_7.out)
         (case side7 => exact C_now HR357_8.out)
         (case side8 => exact HC357_8.out)
         rintro e w12 ⟨rfl, hb⟩
         refine ⟨_, rfl, ?_⟩
         have n0_ := Aside0.mk (below_step bel_now hb)
         clear HB
         have HB := n0_
         clear n0_
         (try clear hb)
         (try clear hb2)
         (try clear hk)
         (try clear hi)
         refine hK.out _ _ ⟨((HB.out.cell (World.block_lt_of_cell? w _ hw356_0)).trans hw356_0), ((HB.out.cell (World.block_lt_of_cell? w _ hw356_1)).trans hw356_1), ((HB.out.cell (World.block_lt_of_cell? w _ hw356_2)).trans hw356_2), ((HB.out.cell (World.block_lt_of_cell? w _ hw356_3)).trans hw356_3), ((HB.out.cell (World.block_lt_of_cell? w _ hw356_4)).trans hw356_4), ((HB.out.cell (World.block_lt_of_cell? w _ hw356_5)).trans hw356_5), ((HB.out.cell (World.block_lt_of_cell? w _ hw356_6)).trans hw356_6), ((HB.out.cell (World.block_lt_of_cell? w _ hw356_7)).trans hw356_7), ((HB.out.cell (World.block_lt_of_cell? w _ hw356_8)).trans hw356_8), ((HB.out.cell (World.block_lt_of_cell? w _ hw357_0)).trans hw357_0), ((HB.out.cell (World.block_lt_of_cell? w _ hw357_1)).trans hw357_1), ((HB.out.cell (World.block_lt_of_cell? w _ hw357_2)).trans hw357_2), ((HB.out.cell (World.block_lt_of_cell? w _ hw357_3)).trans hw357_3), ((HB.out.cell (World.block_lt_of_cell? w _ hw357_4)).trans hw357_4), ((HB.out.cell (World.block_lt_of_cell? w _ hw357_5)).trans hw357_5), ((HB.out.cell (World.block_lt_of_cell? w _ hw357_6)).trans hw357_6), ((HB.out.cell (World.block_lt_of_cell? w _ hw357_7)).trans hw357_7), ((HB.out.cell (World.block_lt_of_cell? w _ hw357_8)).trans hw357_8)⟩ (fun hHeld => ?_)
         clear hK K
         refine norm_ (a' := ?_) ?_ ?_
         rotate_left
         ·show Act.put _ (some 25) _ = _
          simp only [Act.put, zA, zB, zC, i64_w, i32_w]
          rfl
         refine stepP 9 (some 26) (tk 10 1023) (any_of HT_.out (by kernel_rfl)) ?_
         refine done_ (done_of HT_.out (by kernel_rfl)) ?_
         try go_wp2
         go_ret
         exact ⟨eqN, bel_now⟩
       ·rw [if_neg c6] at H
        exact absurd H (by simp)
      ·rw [if_neg c5] at H
       exact absurd H (by simp)
     ·rw [if_neg c4] at H
      have c4b0 : decide (x5_1 < (l0.length : Int)) = false := decide_eq_false c4
      clear c4
      obtain rfl := Option.some.inj H
      go_wp2
      go_ret
      exact ⟨eqN, bel_now⟩
  ·rw [if_neg c3] at H
   have c3b0 : ((l0.length : Int) == (l1.length : Int)) = false := beq_eq_false_iff_ne.mpr c3
   have c3b1 : ((l0.length : Int) != (l1.length : Int)) = true := bne_iff_ne.mpr c3
   have c3b2 : (l0.length == l1.length) = false := by first | simpa using c3 | (simp at c3 ⊢; omega)
   obtain rfl := Option.some.inj H
   go_enter Try.func72, Try.ntmps72
   go_wp2
   go_ret
   exact ⟨eqN, bel_now⟩

/-! ### laws_eqModel: function 27 -/
def laws_eqModel.f (k : Nat) (a0_0 : Int) (a0_1 : Int) (a0_2 : Int) (l0_3 : List (S73)) (a1_0 : Int) (a1_1 : Int) (a1_2 : Int) (l1_3 : List (S73)) : Option (Bool) := (laws_eqShape.f a0_0 a0_1 a0_2 a1_0 a1_1 a1_2).bind fun t361 => (if t361 = true then ((laws_eqLayerS.f k l0_3 l1_3).bind fun t362 => (if t362 = true then (some true) else (some false))) else (some false))
set_option maxHeartbeats 8000000 in
set_option maxRecDepth 100000 in
theorem laws_eqModel.calls (k : Nat) (a0_0 : Int) (a0_1 : Int) (a0_2 : Int) (A0_3 : Option Addr) (c0_3 : Nat) (l0_3 : List (S73)) (a1_0 : Int) (a1_1 : Int) (a1_2 : Int) (A1_3 : Option Addr) (c1_3 : Nat) (l1_3 : List (S73)) (r : Bool) (w : World) (hr0_3 : Kd.C k73 w A0_3 l0_3.length l0_3) (hc0_3 : l0_3.length ≤ c0_3) (hr1_3 : Kd.C k73 w A1_3 l1_3.length l1_3) (hc1_3 : l1_3.length ≤ c1_3) (h : laws_eqModel.f k a0_0 a0_1 a0_2 l0_3 a1_0 a1_1 a1_2 l1_3 = some r) :
   Calls Try.prog 27 #[.agg #[.int .i64 a0_0, .int .i64 a0_1, .int .i64 a0_2, .slice A0_3 l0_3.length c0_3], .agg #[.int .i64 a1_0, .int .i64 a1_1, .int .i64 a1_2, .slice A1_3 l1_3.length c1_3]] w fun e w' => e = .returned (.bool r) ∧ Below w.heap.size w w' := by
  have hu28 := Try.underlying28
  have hu25 := Try.underlying25
  have HR0_3 := Aside0.mk hr0_3
  have HC0_3 := Aside0.mk hc0_3
  clear hr0_3 hc0_3
  have HR1_3 := Aside0.mk hr1_3
  have HC1_3 := Aside0.mk hc1_3
  clear hr1_3 hc1_3
  have HB := Aside0.mk (Below.refl w.heap.size w)
  have H : ((laws_eqShape.f a0_0 a0_1 a0_2 a1_0 a1_1 a1_2).bind fun t361 => (if t361 = true then ((laws_eqLayerS.f k l0_3 l1_3).bind fun t362 => (if t362 = true then (some true) else (some false))) else (some false))) = some r := h
  clear h
  replace H := Option.bind_eq_some_iff.mp H
  obtain ⟨t361, A30, H⟩ := H
  (try dsimp only at H)
  have A3 := Aside0.mk A30
  clear A30
  by_cases c4 : t361 = true
  ·subst c4
   rw [if_pos rfl] at H
   replace H := Option.bind_eq_some_iff.mp H
   obtain ⟨t362, A50, H⟩ := H
   (try dsimp only at H)
   have A5 := Aside0.mk A50
   clear A50
   by_cases c6 : t362 = true
   ·subst c6
    rw [if_pos rfl] at H
    obtain rfl := Option.some.inj H
    go_enter Try.func27, Try.ntmps27
    go_wp2_with (first | ((with_reducible refine gate_dst (N := 2) rfl ?_); refine boxM 2 #[.int .i64 a0_0, .int .i64 a0_1, .int .i64 a0_2, .slice A0_3 l0_3.length c0_3] 28 ?_; intro gb359 hg w7 BK359 hb; replace HB := box_at w hb hg; obtain ⟨HB, GW359, GE359⟩ := HB; clear hb hg) | ((with_reducible refine gate_dst (N := 3) rfl ?_); refine boxM 3 #[.int .i64 a1_0, .int .i64 a1_1, .int .i64 a1_2, .slice A1_3 l1_3.length c1_3] 28 ?_; intro gb360 hg w8 BK360 hb; replace HB := box_at w hb hg; obtain ⟨HB, GW360, GE360⟩ := HB; replace BK359 := box_on gb359 hb hg; obtain ⟨BK359, NB359_360, NB360_359⟩ := BK359; clear hb hg; have hnb9 := NB359_360.out; have hnc9 := NB360_359.out; obtain ⟨hcz10_0, hcz10_1, hcz10_2, hcz10_3, hfz10_0, hfz10_1, hfz10_2, hfz10_3⟩ := cells4 BK359.out; obtain ⟨hcz11_0, hcz11_1, hcz11_2, hcz11_3, hfz11_0, hfz11_1, hfz11_2, hfz11_3⟩ := cells4 BK360.out) | ((with_reducible refine gate_callee (f := 71) rfl ?_); refine goesM (some 9) rfl rfl Try.func71 (by kernel_rfl) rfl #[.agg #[.int .i64 a0_0, .int .i64 a0_1, .int .i64 a0_2], .agg #[.int .i64 a1_0, .int .i64 a1_1, .int .i64 a1_2]] rfl ?_; (with_reducible refine (laws_eqShape.calls a0_0 a0_1 a0_2 a1_0 a1_1 a1_2 true _ A3.out).mono ?_); rintro e w12 ⟨rfl, hb⟩; refine ⟨_, rfl, ?_⟩; replace HB := bel_on w hb; replace BK359 := blk_on gb359 hb; replace BK360 := blk_on gb360 hb; (try clear hb); (try clear hb2); (try clear hk); (try clear hi); obtain ⟨hcz13_0, hcz13_1, hcz13_2, hcz13_3, hfz13_0, hfz13_1, hfz13_2, hfz13_3⟩ := cells4 BK359.out; obtain ⟨hcz14_0, hcz14_1, hcz14_2, hcz14_3, hfz14_0, hfz14_1, hfz14_2, hfz14_3⟩ := cells4 BK360.out) | ((with_reducible refine gate_callee (f := 72) rfl ?_); refine goesM (some 15) rfl rfl Try.func72 (by kernel_rfl) rfl #[.slice A0_3 l0_3.length c0_3, .slice A1_3 l1_3.length c1_3] rfl ?_; (with_reducible refine (laws_eqLayerS.calls k _ _ l0_3 _ _ l1_3 true _ ?side1 ?side2 ?side3 ?side4 A5.out).mono ?_); (case side1 => exact C_now HR0_3.out); (case side2 => exact HC0_3.out); (case side3 => exact C_now HR1_3.out); (case side4 => exact HC1_3.out); rintro e w15 ⟨rfl, hb⟩; refine ⟨_, rfl, ?_⟩; replace HB := bel_on w hb; replace BK359 := blk_on gb359 hb; replace BK360 := blk_on gb360 hb; (try clear hb); (try clear hb2); (try clear hk); (try clear hi)))
    go_ret
    exact ⟨eqN, bel_now⟩
   ·replace c6 := Bool.eq_false_iff.mpr c6
    subst c6
    rw [if_neg (show ¬ (false = true) by decide)] at H
    obtain rfl := Option.some.inj H
    go_enter Try.func27, Try.ntmps27
    go_wp2_with (first | ((with_reducible refine gate_dst (N := 2) rfl ?_); refine boxM 2 #[.int .i64 a0_0, .int .i64 a0_1, .int .i64 a0_2, .slice A0_3 l0_3.length c0_3] 28 ?_; intro gb359 hg w16 BK359 hb; replace HB := box_at w hb hg; obtain ⟨HB, GW359, GE359⟩ := HB; clear hb hg) | ((with_reducible refine gate_dst (N := 3) rfl ?_); refine boxM 3 #[.int .i64 a1_0, .int .i64 a1_1, .int .i64 a1_2, .slice A1_3 l1_3.length c1_3] 28 ?_; intro gb360 hg w17 BK360 hb; replace HB := box_at w hb hg; obtain ⟨HB, GW360, GE360⟩ := HB; replace BK359 := box_on gb359 hb hg; obtain ⟨BK359, NB359_360, NB360_359⟩ := BK359; clear hb hg; have hnb18 := NB359_360.out; have hnc18 := NB360_359.out; obtain ⟨hcz19_0, hcz19_1, hcz19_2, hcz19_3, hfz19_0, hfz19_1, hfz19_2, hfz19_3⟩ := cells4 BK359.out; obtain ⟨hcz20_0, hcz20_1, hcz20_2, hcz20_3, hfz20_0, hfz20_1, hfz20_2, hfz20_3⟩ := cells4 BK360.out) | ((with_reducible refine gate_callee (f := 71) rfl ?_); refine goesM (some 9) rfl rfl Try.func71 (by kernel_rfl) rfl #[.agg #[.int .i64 a0_0, .int .i64 a0_1, .int .i64 a0_2], .agg #[.int .i64 a1_0, .int .i64 a1_1, .int .i64 a1_2]] rfl ?_; (with_reducible refine (laws_eqShape.calls a0_0 a0_1 a0_2 a1_0 a1_1 a1_2 true _ A3.out).mono ?_); rintro e w21 ⟨rfl, hb⟩; refine ⟨_, rfl, ?_⟩; replace HB := bel_on w hb; replace BK359 := blk_on gb359 hb; replace BK360 := blk_on gb360 hb; (try clear hb); (try clear hb2); (try clear hk); (try clear hi); obtain ⟨hcz22_0, hcz22_1, hcz22_2, hcz22_3, hfz22_0, hfz22_1, hfz22_2, hfz22_3⟩ := cells4 BK359.out; obtain ⟨hcz23_0, hcz23_1, hcz23_2, hcz23_3, hfz23_0, hfz23_1, hfz23_2, hfz23_3⟩ := cells4 BK360.out) | ((with_reducible refine gate_callee (f := 72) rfl ?_); refine goesM (some 15) rfl rfl Try.func72 (by kernel_rfl) rfl #[.slice A0_3 l0_3.length c0_3, .slice A1_3 l1_3.length c1_3] rfl ?_; (with_reducible refine (laws_eqLayerS.calls k _ _ l0_3 _ _ l1_3 false _ ?side1 ?side2 ?side3 ?side4 A5.out).mono ?_); (case side1 => exact C_now HR0_3.out); (case side2 => exact HC0_3.out); (case side3 => exact C_now HR1_3.out); (case side4 => exact HC1_3.out); rintro e w24 ⟨rfl, hb⟩; refine ⟨_, rfl, ?_⟩; replace HB := bel_on w hb; replace BK359 := blk_on gb359 hb; replace BK360 := blk_on gb360 hb; (try clear hb); (try clear hb2); (try clear hk); (try clear hi)))
    go_ret
    exact ⟨eqN, bel_now⟩
  ·replace c4 := Bool.eq_false_iff.mpr c4
   subst c4
   rw [if_neg (show ¬ (false = true) by decide)] at H
   obtain rfl := Option.some.inj H
   go_enter Try.func27, Try.ntmps27
   go_wp2_with (first | ((with_reducible refine gate_dst (N := 2) rfl ?_); refine boxM 2 #[.int .i64 a0_0, .int .i64 a0_1, .int .i64 a0_2, .slice A0_3 l0_3.length c0_3] 28 ?_; intro gb359 hg w25 BK359 hb; replace HB := box_at w hb hg; obtain ⟨HB, GW359, GE359⟩ := HB; clear hb hg) | ((with_reducible refine gate_dst (N := 3) rfl ?_); refine boxM 3 #[.int .i64 a1_0, .int .i64 a1_1, .int .i64 a1_2, .slice A1_3 l1_3.length c1_3] 28 ?_; intro gb360 hg w26 BK360 hb; replace HB := box_at w hb hg; obtain ⟨HB, GW360, GE360⟩ := HB; replace BK359 := box_on gb359 hb hg; obtain ⟨BK359, NB359_360, NB360_359⟩ := BK359; clear hb hg; have hnb27 := NB359_360.out; have hnc27 := NB360_359.out; obtain ⟨hcz28_0, hcz28_1, hcz28_2, hcz28_3, hfz28_0, hfz28_1, hfz28_2, hfz28_3⟩ := cells4 BK359.out; obtain ⟨hcz29_0, hcz29_1, hcz29_2, hcz29_3, hfz29_0, hfz29_1, hfz29_2, hfz29_3⟩ := cells4 BK360.out) | ((with_reducible refine gate_callee (f := 71) rfl ?_); refine goesM (some 9) rfl rfl Try.func71 (by kernel_rfl) rfl #[.agg #[.int .i64 a0_0, .int .i64 a0_1, .int .i64 a0_2], .agg #[.int .i64 a1_0, .int .i64 a1_1, .int .i64 a1_2]] rfl ?_; (with_reducible refine (laws_eqShape.calls a0_0 a0_1 a0_2 a1_0 a1_1 a1_2 false _ A3.out).mono ?_); rintro e w30 ⟨rfl, hb⟩; refine ⟨_, rfl, ?_⟩; replace HB := bel_on w hb; replace BK359 := blk_on gb359 hb; replace BK360 := blk_on gb360 hb; (try clear hb); (try clear hb2); (try clear hk); (try clear hi)))
   go_ret
   exact ⟨eqN, bel_now⟩

/-! ### laws_FnExactCostliestLayer: function 5 -/
def laws_FnExactCostliestLayer.f (k : Nat) (a0_0 : Int) (a0_1 : Int) (a0_2 : Int) (l0_3 : List (S117)) : Option (Bool) := (laws_szModel.f k a0_0 a0_1 a0_2 l0_3 1048576).bind fun t364 => (if t364 < 0 then (some true) else ((laws_toModel.f k a0_0 a0_1 a0_2 l0_3).bind fun bt365 => ((spec_CostliestLayer.f k bt365.1 bt365.2.1 bt365.2.2.1 bt365.2.2.2).bind fun t371 => ((laws_toModel.f k a0_0 a0_1 a0_2 l0_3).bind fun bt372 => ((impl_CostliestLayer.f k bt372.1 bt372.2.1 bt372.2.2.1 bt372.2.2.2).bind fun t379 => (if t379 = t371 then ((laws_toModel.f k a0_0 a0_1 a0_2 l0_3).bind fun bt380 => ((laws_eqModel.f k bt372.1 bt372.2.1 bt372.2.2.1 bt372.2.2.2 bt380.1 bt380.2.1 bt380.2.2.1 bt380.2.2.2).bind fun t386 => (if t386 = true then (some true) else (some false)))) else (some false)))))))
set_option maxHeartbeats 8000000 in
set_option maxRecDepth 100000 in
theorem laws_FnExactCostliestLayer.calls (k : Nat) (a0_0 : Int) (a0_1 : Int) (a0_2 : Int) (A0_3 : Option Addr) (c0_3 : Nat) (l0_3 : List (S117)) (w : World) (hr0_3 : Kd.C k117 w A0_3 l0_3.length l0_3) (hc0_3 : l0_3.length ≤ c0_3) (h : laws_FnExactCostliestLayer.f k a0_0 a0_1 a0_2 l0_3 = some true) :
   Calls Try.prog 5 #[.agg #[.int .i64 a0_0, .int .i64 a0_1, .int .i64 a0_2, .slice A0_3 l0_3.length c0_3]] w fun e w' => e = .returned (.bool true) ∧ Below w.heap.size w w' := by
  have hu42 := Try.underlying42
  have hu28 := Try.underlying28
  have HR0_3 := Aside0.mk hr0_3
  have HC0_3 := Aside0.mk hc0_3
  clear hr0_3 hc0_3
  have HB := Aside0.mk (Below.refl w.heap.size w)
  have H : ((laws_szModel.f k a0_0 a0_1 a0_2 l0_3 1048576).bind fun t364 => (if t364 < 0 then (some true) else ((laws_toModel.f k a0_0 a0_1 a0_2 l0_3).bind fun bt365 => ((spec_CostliestLayer.f k bt365.1 bt365.2.1 bt365.2.2.1 bt365.2.2.2).bind fun t371 => ((laws_toModel.f k a0_0 a0_1 a0_2 l0_3).bind fun bt372 => ((impl_CostliestLayer.f k bt372.1 bt372.2.1 bt372.2.2.1 bt372.2.2.2).bind fun t379 => (if t379 = t371 then ((laws_toModel.f k a0_0 a0_1 a0_2 l0_3).bind fun bt380 => ((laws_eqModel.f k bt372.1 bt372.2.1 bt372.2.2.1 bt372.2.2.2 bt380.1 bt380.2.1 bt380.2.2.1 bt380.2.2.2).bind fun t386 => (if t386 = true then (some true) else (some false)))) else (some false)))))))) = some true := h
  clear h
  replace H := Option.bind_eq_some_iff.mp H
  obtain ⟨t364, A20, H⟩ := H
  (try dsimp only at H)
  have A2 := Aside0.mk A20
  clear A20
  by_cases c3 : t364 < 0
  ·rw [if_pos c3] at H
   have c3b0 : decide (t364 < 0) = true := decide_eq_true c3
   clear c3
   clear H
   go_enter Try.func5, Try.ntmps5
   go_wp2_with (first | ((with_reducible refine gate_dst (N := 1) rfl ?_); refine boxM 1 #[.int .i64 a0_0, .int .i64 a0_1, .int .i64 a0_2, .slice A0_3 l0_3.length c0_3] 42 ?_; intro gb363 hg w4 BK363 hb; replace HB := box_at w hb hg; obtain ⟨HB, GW363, GE363⟩ := HB; clear hb hg; obtain ⟨hcz5_0, hcz5_1, hcz5_2, hcz5_3, hfz5_0, hfz5_1, hfz5_2, hfz5_3⟩ := cells4 BK363.out) | ((with_reducible refine gate_callee (f := 22) rfl ?_); refine goesM (some 9) rfl rfl Try.func22 (by kernel_rfl) rfl #[.agg #[.int .i64 a0_0, .int .i64 a0_1, .int .i64 a0_2, .slice A0_3 l0_3.length c0_3], .int .i64 1048576] rfl ?_; (with_reducible refine (laws_szModel.calls k a0_0 a0_1 a0_2 _ _ l0_3 1048576 t364 _ ?side1 ?side2 A2.out).mono ?_); (case side1 => exact C_now HR0_3.out); (case side2 => exact HC0_3.out); rintro e w6 ⟨rfl, hb⟩; refine ⟨_, rfl, ?_⟩; replace HB := bel_on w hb; replace BK363 := blk_on gb363 hb; (try clear hb); (try clear hb2); (try clear hk); (try clear hi)))
   go_ret
   exact ⟨eqN, bel_now⟩
  ·rw [if_neg c3] at H
   have c3b0 : decide (t364 < 0) = false := decide_eq_false c3
   clear c3
   replace H := Option.bind_eq_some_iff.mp H
   obtain ⟨⟨t365, t366, t367, t368⟩, A70, H⟩ := H
   (try dsimp only at H)
   have A7 := Aside0.mk A70
   clear A70
   replace H := Option.bind_eq_some_iff.mp H
   obtain ⟨t371, A80, H⟩ := H
   (try dsimp only at H)
   have A8 := Aside0.mk A80
   clear A80
   replace H := Option.bind_eq_some_iff.mp H
   obtain ⟨⟨t372, t373, t374, t375⟩, A90, H⟩ := H
   (try dsimp only at H)
   have A9 := Aside0.mk A90
   clear A90
   replace H := Option.bind_eq_some_iff.mp H
   obtain ⟨t379, A100, H⟩ := H
   (try dsimp only at H)
   have A10 := Aside0.mk A100
   clear A100
   by_cases c11 : t379 = t371
   ·rw [if_pos c11] at H
    have c11b0 : (t379 == t371) = true := beq_iff_eq.mpr c11
    have c11b1 : (t379 != t371) = false := bne_eq_false_iff_eq.mpr c11
    clear c11
    replace H := Option.bind_eq_some_iff.mp H
    obtain ⟨⟨t380, t381, t382, t383⟩, A120, H⟩ := H
    (try dsimp only at H)
    have A12 := Aside0.mk A120
    clear A120
    replace H := Option.bind_eq_some_iff.mp H
    obtain ⟨t386, A130, H⟩ := H
    (try dsimp only at H)
    have A13 := Aside0.mk A130
    clear A130
    by_cases c14 : t386 = true
    ·subst c14
     have H1 : (some true) = some true := rfl
     clear H
     have H := H1
     clear H1
     clear H
     go_enter Try.func5, Try.ntmps5
     try go_wp2_with (first | ((with_reducible refine gate_dst (N := 1) rfl ?_); refine boxM 1 #[.int .i64 a0_0, .int .i64 a0_1, .int .i64 a0_2, .slice A0_3 l0_3.length c0_3] 42 ?_; intro gb363 hg w15 BK363 hb; replace HB := box_at w hb hg; obtain ⟨HB, GW363, GE363⟩ := HB; clear hb hg; obtain ⟨hcz16_0, hcz16_1, hcz16_2, hcz16_3, hfz16_0, hfz16_1, hfz16_2, hfz16_3⟩ := cells4 BK363.out) | ((with_reducible refine gate_callee (f := 22) rfl ?_); refine goesM (some 9) rfl rfl Try.func22 (by kernel_rfl) rfl #[.agg #[.int .i64 a0_0, .int .i64 a0_1, .int .i64 a0_2, .slice A0_3 l0_3.length c0_3], .int .i64 1048576] rfl ?_; (with_reducible refine (laws_szModel.calls k a0_0 a0_1 a0_2 _ _ l0_3 1048576 t364 _ ?side1 ?side2 A2.out).mono ?_); (case side1 => exact C_now HR0_3.out); (case side2 => exact HC0_3.out); rintro e w17 ⟨rfl, hb⟩; refine ⟨_, rfl, ?_⟩; replace HB := bel_on w hb; replace BK363 := blk_on gb363 hb; (try clear hb); (try clear hb2); (try clear hk); (try clear hi); obtain ⟨hcz18_0, hcz18_1, hcz18_2, hcz18_3, hfz18_0, hfz18_1, hfz18_2, hfz18_3⟩ := cells4 BK363.out) | ((with_reducible refine gate_callee (f := 24) rfl ?_); refine goesM (some 13) rfl rfl Try.func24 (by kernel_rfl) rfl #[.agg #[.int .i64 a0_0, .int .i64 a0_1, .int .i64 a0_2, .slice A0_3 l0_3.length c0_3]] rfl ?_; (with_reducible refine (laws_toModel.calls k a0_0 a0_1 a0_2 _ _ l0_3 t365 t366 t367 t368 _ ?side1 ?side2 A7.out).mono ?_); (case side1 => exact C_now HR0_3.out); (case side2 => exact HC0_3.out); rintro e w19 ⟨v369, rfl, ho0, hb⟩; refine ⟨_, rfl, ?_⟩; have n0_ := Aside0.mk (Kd.S_lower ho0 (below_size bel_now)); replace HB := bel_on w hb; replace BK363 := blk_on gb363 hb; have HO370 := n0_; clear n0_; (try clear hb); (try clear hb2); (try clear hk); (try clear hi); (try clear ho0); obtain ⟨Ao20, co20, eo20⟩ := Kd.S_slice HO370.out; subst eo20) | ((with_reducible refine gate_callee (f := 31) rfl ?_); refine goesM (some 14) rfl rfl Try.func31 (by kernel_rfl) rfl #[.agg #[.int .i64 t365, .int .i64 t366, .int .i64 t367, .slice Ao20 t368.length co20]] rfl ?_; (with_reducible refine (spec_CostliestLayer.calls k t365 t366 t367 _ _ t368 t371 _ ?side1 ?side2 A8.out).mono ?_); (case side1 => repeat (first | exact (Kd.S_reads' HO370.out).2.2 | (with_reducible refine Kd.C_alloc ?_ _) | (with_reducible refine Kd.C_drewN ?_ _) | (with_reducible refine Kd.C_drew ?_))); (case side2 => exact (Kd.S_reads' HO370.out).2.1); rintro e w21 ⟨rfl, hb⟩; refine ⟨_, rfl, ?_⟩; have n0_ := Aside0.mk (Kd.S_below (by (with_reducible repeat (first | apply Kd.S_alloc | apply Kd.S_drewN | apply Kd.S_drew)); exact HO370.out) hb); replace HB := bel_on w hb; replace BK363 := blk_on gb363 hb; clear HO370; have HO370 := n0_; clear n0_; (try clear hb); (try clear hb2); (try clear hk); (try clear hi); obtain ⟨hcz22_0, hcz22_1, hcz22_2, hcz22_3, hfz22_0, hfz22_1, hfz22_2, hfz22_3⟩ := cells4 BK363.out) | ((with_reducible refine gate_callee (f := 24) rfl ?_); refine goesM (some 16) rfl rfl Try.func24 (by kernel_rfl) rfl #[.agg #[.int .i64 a0_0, .int .i64 a0_1, .int .i64 a0_2, .slice A0_3 l0_3.length c0_3]] rfl ?_; (with_reducible refine (laws_toModel.calls k a0_0 a0_1 a0_2 _ _ l0_3 t372 t373 t374 t375 _ ?side1 ?side2 A9.out).mono ?_); (case side1 => exact C_now HR0_3.out); (case side2 => exact HC0_3.out); rintro e w23 ⟨v376, rfl, ho0, hb⟩; refine ⟨_, rfl, ?_⟩; have n0_ := Aside0.mk (Kd.S_elder' (by (with_reducible repeat (first | apply Kd.S_alloc | apply Kd.S_drewN | apply Kd.S_drew)); exact HO370.out) (Kd.S_base ho0) hb); have n1_ := Aside0.mk (Kd.S_lower (Kd.S_new' ho0 (Kd.S_lt (by (with_reducible repeat (first | apply Kd.S_alloc | apply Kd.S_drewN | apply Kd.S_drew)); exact HO370.out))) (below_size bel_now)); replace HB := bel_on w hb; replace BK363 := blk_on gb363 hb; clear HO370; have HO370 := n0_; have HO377 := n1_; clear n0_ n1_; (try clear hb); (try clear hb2); (try clear hk); (try clear hi); (try clear ho0)) | ((with_reducible refine gate_dst (N := 5) rfl ?_); refine box_event ?hg (N := 5) ?hd (cs := #[.int .i64 0, .int .i64 0, .int .i64 0, .slice none 0 0]) (t := 28) ?hr ?_; (case hd => rfl); (case hg => rfl); (case hr => first | (go_simp; done) | (go_simp; rfl)); intro gb378 hg w24 hbox hb; have n0_ := Aside0.mk (Kd.S_below (by (with_reducible repeat (first | apply Kd.S_alloc | apply Kd.S_drewN | apply Kd.S_drew)); exact HO370.out) hb); have n1_ := Aside0.mk (Kd.S_below (by (with_reducible repeat (first | apply Kd.S_alloc | apply Kd.S_drewN | apply Kd.S_drew)); exact HO377.out) hb); have n4_ := Aside0.mk (hbox); replace HB := box_at w hb hg; obtain ⟨HB, GW378, GE378⟩ := HB; replace BK363 := box_on gb363 hb hg; obtain ⟨BK363, NB363_378, NB378_363⟩ := BK363; clear HO370 HO377; have HO370 := n0_; have HO377 := n1_; have BK378 := n4_; clear n0_ n1_ n4_; clear hb hbox hg; have hnb25 := NB378_363.out; have hnc25 := NB363_378.out; obtain ⟨hcz26_0, hcz26_1, hcz26_2, hcz26_3, hfz26_0, hfz26_1, hfz26_2, hfz26_3⟩ := cells4 BK378.out; obtain ⟨Ao27, co27, eo27⟩ := Kd.S_slice HO377.out; subst eo27) | ((with_reducible refine gate_callee (f := 32) rfl ?_); refine goesM (some 18) rfl rfl Try.func32 (by kernel_rfl) rfl #[.agg #[.int .i64 t372, .int .i64 t373, .int .i64 t374, .slice Ao27 t375.length co27]] rfl ?_; (with_reducible refine (impl_CostliestLayer.calls k t372 t373 t374 _ _ t375 t379 _ ?side1 ?side2 A10.out).mono ?_); (case side1 => refine (Kd.S_reads' (e := 73) (base := w.heap.size) (ok := fun k_ => (True ∧ some k_ ≠ (.slice Ao20 t368.length co20 : Value).ownBlock)) (n := t375.length) (c := co27) ?_).2.2; exact (by (with_reducible repeat (first | apply Kd.S_alloc | apply Kd.S_drewN | apply Kd.S_drew)); exact (Kd.S_mono (Kd.S_far (p := ⟨gb378, 3, none⟩) (Kd.S_far (p := ⟨gb378, 2, none⟩) (Kd.S_far (p := ⟨gb378, 1, none⟩) (Kd.S_far (p := ⟨gb378, 0, none⟩) (Kd.S_types HO377.out BK378.out (by decide)) (fun _ hk => hk.2) (.int .i64 t372)) (fun _ hk => hk.2) (.int .i64 t373)) (fun _ hk => hk.2) (.int .i64 t374)) (fun _ hk => hk.2) (.slice Ao27 t375.length co27)) (fun _ h_ => h_.1)))); (case side2 => exact (Kd.S_reads' HO377.out).2.1); rintro e w28 ⟨rfl, hb⟩; refine ⟨_, rfl, ?_⟩; have n0_ := Aside0.mk (Kd.S_below (by (with_reducible repeat (first | apply Kd.S_alloc | apply Kd.S_drewN | apply Kd.S_drew)); exact (Kd.S_mono (Kd.S_far (p := ⟨gb378, 3, none⟩) (Kd.S_far (p := ⟨gb378, 2, none⟩) (Kd.S_far (p := ⟨gb378, 1, none⟩) (Kd.S_far (p := ⟨gb378, 0, none⟩) (Kd.S_types HO370.out BK378.out (by decide)) (fun _ hk => hk.2) (.int .i64 t372)) (fun _ hk => hk.2) (.int .i64 t373)) (fun _ hk => hk.2) (.int .i64 t374)) (fun _ hk => hk.2) (.slice Ao27 t375.length co27)) (fun _ h_ => h_.1))) hb); have n1_ := Aside0.mk (Kd.S_below (by (with_reducible repeat (first | apply Kd.S_alloc | apply Kd.S_drewN | apply Kd.S_drew)); exact (Kd.S_mono (Kd.S_far (p := ⟨gb378, 3, none⟩) (Kd.S_far (p := ⟨gb378, 2, none⟩) (Kd.S_far (p := ⟨gb378, 1, none⟩) (Kd.S_far (p := ⟨gb378, 0, none⟩) (Kd.S_types HO377.out BK378.out (by decide)) (fun _ hk => hk.2) (.int .i64 t372)) (fun _ hk => hk.2) (.int .i64 t373)) (fun _ hk => hk.2) (.int .i64 t374)) (fun _ hk => hk.2) (.slice Ao27 t375.length co27)) (fun _ h_ => h_.1))) hb); have n2_ := Aside0.mk (blk_below (g := gb363) (o := .cells #[.int .i64 a0_0, .int .i64 a0_1, .int .i64 a0_2, .slice A0_3 l0_3.length c0_3] 42 (0, 0)) (by (with_reducible repeat (first | refine blk_drewN ?_ _ | refine blk_drew ?_ | refine blk_alloc ?_ _)); refine blk_far ?_ NB363_378.out _; (with_reducible repeat (first | refine blk_drewN ?_ _ | refine blk_drew ?_ | refine blk_alloc ?_ _)); refine blk_far ?_ NB363_378.out _; (with_reducible repeat (first | refine blk_drewN ?_ _ | refine blk_drew ?_ | refine blk_alloc ?_ _)); refine blk_far ?_ NB363_378.out _; (with_reducible repeat (first | refine blk_drewN ?_ _ | refine blk_drew ?_ | refine blk_alloc ?_ _)); refine blk_far ?_ NB363_378.out _; (with_reducible repeat (first | refine blk_drewN ?_ _ | refine blk_drew ?_ | refine blk_alloc ?_ _)); exact BK363.out) hb); have n3_ := Aside0.mk (blk_below (g := gb378) (o := .cells #[.int .i64 t372, .int .i64 t373, .int .i64 t374, .slice Ao27 t375.length co27] 28 (0, 0)) (by (with_reducible repeat (first | refine blk_drewN ?_ _ | refine blk_drew ?_ | refine blk_alloc ?_ _)); refine blk_put (cs := #[.int .i64 t372, .int .i64 t373, .int .i64 t374, .slice none 0 0]) ?_ 3 _ rfl; (with_reducible repeat (first | refine blk_drewN ?_ _ | refine blk_drew ?_ | refine blk_alloc ?_ _)); refine blk_put (cs := #[.int .i64 t372, .int .i64 t373, .int .i64 0, .slice none 0 0]) ?_ 2 _ rfl; (with_reducible repeat (first | refine blk_drewN ?_ _ | refine blk_drew ?_ | refine blk_alloc ?_ _)); refine blk_put (cs := #[.int .i64 t372, .int .i64 0, .int .i64 0, .slice none 0 0]) ?_ 1 _ rfl; (with_reducible repeat (first | refine blk_drewN ?_ _ | refine blk_drew ?_ | refine blk_alloc ?_ _)); refine blk_put (cs := #[.int .i64 0, .int .i64 0, .int .i64 0, .slice none 0 0]) ?_ 0 _ rfl; (with_reducible repeat (first | refine blk_drewN ?_ _ | refine blk_drew ?_ | refine blk_alloc ?_ _)); exact BK378.out) hb); replace HB := bel_on w hb; clear HO370 HO377 BK363 BK378; have HO370 := n0_; have HO377 := n1_; have BK363 := n2_; have BK378 := n3_; clear n0_ n1_ n2_ n3_; (try clear hb); (try clear hb2); (try clear hk); (try clear hi)))
     have n0_ := Aside0.mk (Kd.S_drew HO370.out)
     have n1_ := Aside0.mk (Kd.S_drew HO377.out)
     have n2_ := Aside0.mk (blk_drew BK363.out)
     have n3_ := Aside0.mk (blk_drew BK378.out)
     have n4_ := Aside0.mk (below_drew1 HB.out)
     clear HO370
     clear HO377
     clear BK363
     clear BK378
     clear HB
     have HO370 := n0_
     have HO377 := n1_
     have BK363 := n2_
     have BK378 := n3_
     have HB := n4_
     clear n0_ n1_ n2_ n3_ n4_
     refine start_ (n := 5) (S := fun w' => w'.cell? ⟨gb378, 0, none⟩ = some (.int .i64 t372) ∧ w'.cell? ⟨gb378, 1, none⟩ = some (.int .i64 t373) ∧ w'.cell? ⟨gb378, 2, none⟩ = some (.int .i64 t374) ∧ w'.cell? ⟨gb378, 3, none⟩ = some (.slice Ao27 t375.length co27) ∧ w'.cell? ⟨gb363, 0, none⟩ = some (.int .i64 a0_0) ∧ w'.cell? ⟨gb363, 1, none⟩ = some (.int .i64 a0_1) ∧ w'.cell? ⟨gb363, 2, none⟩ = some (.int .i64 a0_2) ∧ w'.cell? ⟨gb363, 3, none⟩ = some (.slice A0_3 l0_3.length c0_3)) (ds := []) #[false, false, false, false, false] (by kernel_rfl) rfl rfl ⟨bc BK378 0, bc BK378 1, bc BK378 2, bc BK378 3, bc BK363 0, bc BK363 1, bc BK363 2, bc BK363 3⟩ (fun hHeld => ?_)
     generalize w28.drew = w29 at HO370 HO377 BK363 BK378 HB hHeld ⊢
     refine stepT 0 (some 22) (tk 5 1) (by kernel_rfl) hHeld ?_
     refine stepT 1 (some 23) (tk 5 3) (by kernel_rfl) hHeld ?_
     refine one_ (i := 2) (N := some 24) #[true, true, true, false, false] rfl rfl (by kernel_rfl) (by decide) (fun K hK => ?_)
     refine goes_ Try.func24 (by kernel_rfl) rfl #[.agg #[.int .i64 a0_0, .int .i64 a0_1, .int .i64 a0_2, .slice A0_3 l0_3.length c0_3]] (by rfl) rfl rfl (by (try simp only [List.map_toArray, List.map_cons, List.map_nil]); first | done | rfl | (simp only [List.length_drop, List.length_take]; rfl)) ?_
     with_reducible refine (laws_toModel.calls k a0_0 a0_1 a0_2 _ _ l0_3 t380 t381 t382 t383 _ ?side1 ?side2 A12.out).mono ?_
     (case side1 => exact C_now HR0_3.out)
     (case side2 => exact HC0_3.out)
     rintro e w30 ⟨v384, rfl, ho0, hb⟩
     refine ⟨_, rfl, ?_⟩
     have n0_ := Aside0.mk (Kd.S_elder' (by (with_reducible repeat (first | apply Kd.S_alloc | apply Kd.S_drewN | apply Kd.S_drew)); exact HO370.out) (Kd.S_base ho0) hb)
     have n1_ := Aside0.mk (Kd.S_elder' (by (with_reducible repeat (first | apply Kd.S_alloc | apply Kd.S_drewN | apply Kd.S_drew)); exact HO377.out) (Kd.S_base ho0) hb)
     have n2_ := Aside0.mk (Kd.S_lower (Kd.S_new' (Kd.S_new' ho0 (Kd.S_lt (by (with_reducible repeat (first | apply Kd.S_alloc | apply Kd.S_drewN | apply Kd.S_drew)); exact HO370.out))) (Kd.S_lt (by (with_reducible repeat (first | apply Kd.S_alloc | apply Kd.S_drewN | apply Kd.S_drew)); exact HO377.out))) (below_size bel_now))
     have n3_ := Aside0.mk (blk_below (g := gb363) blk_now hb)
     have n4_ := Aside0.mk (blk_below (g := gb378) blk_now hb)
     have n5_ := Aside0.mk (below_step bel_now hb)
     clear HO370
     clear HO377
     clear BK363
     clear BK378
     clear HB
     have HO370 := n0_
     have HO377 := n1_
     have HO385 := n2_
     have BK363 := n3_
     have BK378 := n4_
     have HB := n5_
     clear n0_ n1_ n2_ n3_ n4_ n5_
     (try clear hb)
     (try clear hb2)
     (try clear hk)
     (try clear hi)
     (try clear ho0)
     obtain ⟨Ao31, co31, eo31⟩ := Kd.S_slice HO385.out
     (first | subst eo31 | (injection eo31 with f1_ f2_ f3_; have f4_ := f1_.symm; have f5_ := f3_.symm; clear f1_ f2_ f3_; subst f4_; subst f5_))
     refine hK.out _ _ ⟨bc BK378 0, bc BK378 1, bc BK378 2, bc BK378 3, bc BK363 0, bc BK363 1, bc BK363 2, bc BK363 3⟩ (fun hHeld => ?_)
     clear hK K
     refine norm_ (a' := ?_) ?_ ?_
     rotate_left
     ·show Act.put _ (some 24) _ = _
      simp only [Act.put, zA, zB, zC, i64_w, i32_w]
      rfl
     refine one_ (i := 3) (N := some 25) #[true, true, true, true, false] rfl rfl (by kernel_rfl) (by decide) (fun K hK => ?_)
     refine goes_ Try.func27 (by kernel_rfl) rfl #[.agg #[.int .i64 t372, .int .i64 t373, .int .i64 t374, .slice Ao27 t375.length co27], .agg #[.int .i64 t380, .int .i64 t381, .int .i64 t382, .slice Ao31 t383.length co31]] (by rfl) rfl rfl (by (try simp only [List.map_toArray, List.map_cons, List.map_nil]); first | done | rfl | (simp only [List.length_drop, List.length_take]; rfl)) ?_
     with_reducible refine (laws_eqModel.calls k t372 t373 t374 _ _ t375 t380 t381 t382 _ _ t383 true _ ?side1 ?side2 ?side3 ?side4 A13.out).mono ?_
     (case side1 => repeat (first | exact (Kd.S_reads' HO377.out).2.2 | (with_reducible refine Kd.C_alloc ?_ _) | (with_reducible refine Kd.C_drewN ?_ _) | (with_reducible refine Kd.C_drew ?_)))
     (case side2 => exact (Kd.S_reads' HO377.out).2.1)
     (case side3 => repeat (first | exact (Kd.S_reads' HO385.out).2.2 | (with_reducible refine Kd.C_alloc ?_ _) | (with_reducible refine Kd.C_drewN ?_ _) | (with_reducible refine Kd.C_drew ?_)))
     (case side4 => exact (Kd.S_reads' HO385.out).2.1)
     rintro e w32 ⟨rfl, hb⟩
     refine ⟨_, rfl, ?_⟩
     have n0_ := Aside0.mk (Kd.S_below (by (with_reducible repeat (first | apply Kd.S_alloc | apply Kd.S_drewN | apply Kd.S_drew)); exact HO370.out) hb)
     have n1_ := Aside0.mk (Kd.S_below (by (with_reducible repeat (first | apply Kd.S_alloc | apply Kd.S_drewN | apply Kd.S_drew)); exact HO377.out) hb)
     have n2_ := Aside0.mk (Kd.S_below (by (with_reducible repeat (first | apply Kd.S_alloc | apply Kd.S_drewN | apply Kd.S_drew)); exact HO385.out) hb)
     have n3_ := Aside0.mk (blk_below (g := gb363) blk_now hb)
     have n4_ := Aside0.mk (blk_below (g := gb378) blk_now hb)
     have n5_ := Aside0.mk (below_step bel_now hb)
     clear HO370
     clear HO377
     clear HO385
     clear BK363
     clear BK378
     clear HB
     have HO370 := n0_
     have HO377 := n1_
     have HO385 := n2_
     have BK363 := n3_
     have BK378 := n4_
     have HB := n5_
     clear n0_ n1_ n2_ n3_ n4_ n5_
     (try clear hb)
     (try clear hb2)
     (try clear hk)
     (try clear hi)
     refine hK.out _ _ ⟨bc BK378 0, bc BK378 1, bc BK378 2, bc BK378 3, bc BK363 0, bc BK363 1, bc BK363 2, bc BK363 3⟩ (fun hHeld => ?_)
     clear hK K
     refine norm_ (a' := ?_) ?_ ?_
     rotate_left
     ·show Act.put _ (some 25) _ = _
      simp only [Act.put, zA, zB, zC, i64_w, i32_w]
      rfl
     refine stepP 4 (some 26) (tk 5 31) (by kernel_rfl) ?_
     refine done_ (by kernel_rfl) ?_
     try go_wp2
     go_ret
     exact ⟨eqN, bel_now⟩
    ·replace c14 := Bool.eq_false_iff.mpr c14
     subst c14
     rw [if_neg (show ¬ (false = true) by decide)] at H
     exact absurd H (by decide)
   ·rw [if_neg c11] at H
    have c11b0 : (t379 == t371) = false := beq_eq_false_iff_ne.mpr c11
    have c11b1 : (t379 != t371) = true := bne_iff_ne.mpr c11
    exact absurd H (by decide)

end Go.Proofs.Ytljdcemdhmaahaa.PFnExactCostliestLayer
