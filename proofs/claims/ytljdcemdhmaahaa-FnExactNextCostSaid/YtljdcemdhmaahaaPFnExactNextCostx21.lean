-- Printed by the session's own program (wip/myprint.py) for this claim out of the translation. Not trusted: Lean checks it.
import Derived.Test.YtljdcemdhmaahaaPFnExactNextCostx0
import Derived.Test.YtljdcemdhmaahaaPFnExactNextCostx20
namespace Go.Proofs.Ytljdcemdhmaahaa.PFnExactNextCost
open Go.RowKit Go.Proofs.YtljdcemdhmaahaaW.PrintWords Go.Proofs.YtljdcemdhmaahaaW.PrintLast Go.Proofs.YtljdcemdhmaahaaW.PrintMore
attribute [local go_sem] max2_int min2_int max_two min_two max_three min_three max_four min_four   -- for this text's walks alone
set_option linter.unusedVariables false
set_option linter.unusedSimpArgs false

/-! ### laws_eqLayerS: function 72 -/
def laws_eqLayerS.l0 : Nat → List (S73) → List (S73) → Int → Option (Bool)
  | 0, _, _, _ => none
  | k + 1, x0, x1, x5 => if x5 < (x0.length : Int) then (if 0 ≤ x5 then (if x5 < (x1.length : Int) then ((laws_eqLayer.f k ((rd_T73 x0 x5).f0) ((rd_T73 x0 x5).f1) ((rd_T73 x0 x5).f2) ((rd_T73 x0 x5).f3) ((rd_T73 x0 x5).f4) ((rd_T73 x0 x5).f5) ((rd_T73 x0 x5).f6) ((rd_T73 x0 x5).f7) ((rd_T73 x0 x5).f8) ((rd_T73 x1 x5).f0) ((rd_T73 x1 x5).f1) ((rd_T73 x1 x5).f2) ((rd_T73 x1 x5).f3) ((rd_T73 x1 x5).f4) ((rd_T73 x1 x5).f5) ((rd_T73 x1 x5).f6) ((rd_T73 x1 x5).f7) ((rd_T73 x1 x5).f8)).bind fun t440 => (if t440 = true then (laws_eqLayerS.l0 k x0 x1 (wrap64 (x5 + 1))) else (some false))) else (none)) else (none)) else (some true)
def laws_eqLayerS.f (k : Nat) (l0 : List (S73)) (l1 : List (S73)) : Option (Bool) := if (l0.length : Int) = (l1.length : Int) then (laws_eqLayerS.l0 k l0 l1 0) else (some false)
def laws_eqLayerS.T6 : Bool × List (List Nat × List Nat) := (true, [([], []), ([], []), ([0, 1], [0, 1]), ([2], [2]), ([], []), ([], []), ([4, 5], [4, 5]), ([6], [6]), ([3, 7], [3, 7]), ([8], [8])])
def laws_eqLayerS.B6 : List Nat := [0, 0, 3, 7, 0, 0, 48, 112, 255, 511]
theorem laws_eqLayerS.tab6 : rtab .any (opsOf Try.f72 6) = laws_eqLayerS.T6 := by kernel_rfl
theorem laws_eqLayerS.bits6 : waitsOk laws_eqLayerS.T6.2 laws_eqLayerS.B6 = true := by kernel_rfl
set_option maxHeartbeats 8000000 in
set_option maxRecDepth 100000 in
theorem laws_eqLayerS.calls (k : Nat) (A0 : Option Addr) (c0 : Nat) (l0 : List (S73)) (A1 : Option Addr) (c1 : Nat) (l1 : List (S73)) (r : Bool) (w : World) (hr0 : Kd.C k73 w A0 l0.length l0) (hc0 : l0.length ≤ c0) (hr1 : Kd.C k73 w A1 l1.length l1) (hc1 : l1.length ≤ c1) (h : laws_eqLayerS.f k l0 l1 = some r) :
   Calls Try.prog 72 #[.slice A0 l0.length c0, .slice A1 l1.length c1] w fun e w' => e = .returned (.bool r) ∧ Below w.heap.size w w' := by
  have hu73 := Try.underlying73
  have HR0 := Aside0.mk hr0
  have HC0 := Aside0.mk hc0
  clear hr0 hc0
  have HR1 := Aside0.mk hr1
  have HC1 := Aside0.mk hc1
  clear hr1 hc1
  have HB := Aside0.mk (Below.refl w.heap.size w)
  have H : (if (l0.length : Int) = (l1.length : Int) then (laws_eqLayerS.l0 k l0 l1 0) else (some false)) = some r := h
  clear h
  by_cases c3 : (l0.length : Int) = (l1.length : Int)
  ·rw [if_pos c3] at H
   have c3b0 : ((l0.length : Int) == (l1.length : Int)) = true := beq_iff_eq.mpr c3
   have c3b1 : ((l0.length : Int) != (l1.length : Int)) = false := bne_eq_false_iff_eq.mpr c3
   have c3b2 : (l0.length == l1.length) = true := by first | simpa using c3 | (simp at c3 ⊢; omega)
   clear c3
   have H' := Aside0.mk H
   clear H
   go_enter Try.func72, Try.ntmps72
   go_wp2
   go_loopg [5] k (fun kq v5 w' => ∃ (x5_1 : Int), v5 = .int .i64 x5_1 ∧ Aside0 (laws_eqLayerS.l0 kq l0 l1 x5_1 = some r) ∧ Aside0 (kq ≤ k) ∧ Aside0 (Below w.heap.size w w'))
   case atStart => exact ⟨(0), (by first | rfl | (simp; done) | (simp [*]; done)), H', ⟨Nat.le_refl _⟩, ⟨bel_now⟩⟩
   case round =>
    clear H'
    try clear c1
    try clear p2
    try clear c3
    try clear c3b0
    try clear c3b1
    try clear c3b2
    obtain ⟨x5_1, rfl, HA, HK1, HB⟩ := hrel
    cases gk with
    | zero => exact absurd HA.out (by simp [laws_eqLayerS.l0])
    | succ k1 =>
     have H := HA.out
     clear HA
     simp only [laws_eqLayerS.l0] at H
     by_cases c4 : x5_1 < (l0.length : Int)
     ·rw [if_pos c4] at H
      have c4b0 : decide (x5_1 < (l0.length : Int)) = true := decide_eq_true c4
      clear c4
      by_cases c5 : 0 ≤ x5_1
      ·rw [if_pos c5] at H
       have c5b0 : decide (0 ≤ x5_1) = true := decide_eq_true c5
       clear c5
       by_cases c6 : x5_1 < (l1.length : Int)
       ·rw [if_pos c6] at H
        have c6b0 : decide (x5_1 < (l1.length : Int)) = true := decide_eq_true c6
        clear c6
        replace H := Option.bind_eq_some_iff.mp H
        obtain ⟨t440, A70, H⟩ := H
        (try dsimp only at H)
        have A7 := Aside0.mk A70
        clear A70
        by_cases c8 : t440 = true
        ·subst c8
         rw [if_pos rfl] at H
         have H' := Aside0.mk H
         clear H
         try go_wp2
         replace HB := Aside0.mk (below_drew1 HB.out)
         have p438 : 0 ≤ (x5_1 : Int) := of_decide_eq_true (by first | (with_reducible assumption) | assumption)
         have q438 : x5_1 < (l0.length : Int) := of_decide_eq_true (by first | (with_reducible assumption) | assumption)
         obtain ⟨ad438, A438_7, c438_7, A438_8, c438_8, e438, hx438_0, hx438_1, hx438_2, hx438_3, hx438_4, hx438_5, hx438_6, hx438_7, hx438_8, hl438_7, hi438_7, hl438_8, hi438_8⟩ := at_T73 HR0.out x5_1 p438 q438
         have hw438_8 := hx438_8
         have hw438_7 := hx438_7
         have hw438_6 := hx438_6
         have hw438_5 := hx438_5
         have hw438_4 := hx438_4
         have hw438_3 := hx438_3
         have hw438_2 := hx438_2
         have hw438_1 := hx438_1
         have hw438_0 := hx438_0
         cases e438
         replace hx438_0 := (HB.out.cell (World.block_lt_of_cell? w _ hx438_0)).trans hx438_0
         replace hx438_1 := (HB.out.cell (World.block_lt_of_cell? w _ hx438_1)).trans hx438_1
         replace hx438_2 := (HB.out.cell (World.block_lt_of_cell? w _ hx438_2)).trans hx438_2
         replace hx438_3 := (HB.out.cell (World.block_lt_of_cell? w _ hx438_3)).trans hx438_3
         replace hx438_4 := (HB.out.cell (World.block_lt_of_cell? w _ hx438_4)).trans hx438_4
         replace hx438_5 := (HB.out.cell (World.block_lt_of_cell? w _ hx438_5)).trans hx438_5
         replace hx438_6 := (HB.out.cell (World.block_lt_of_cell? w _ hx438_6)).trans hx438_6
         replace hx438_7 := (HB.out.cell (World.block_lt_of_cell? w _ hx438_7)).trans hx438_7
         replace hx438_8 := (HB.out.cell (World.block_lt_of_cell? w _ hx438_8)).trans hx438_8
         have HR438_7 := Aside0.mk hi438_7
         have HC438_7 := Aside0.mk hl438_7
         clear hi438_7 hl438_7
         have HR438_8 := Aside0.mk hi438_8
         have HC438_8 := Aside0.mk hl438_8
         clear hi438_8 hl438_8
         replace p438 := eq_true p438
         replace q438 := eq_true q438
         have p439 : 0 ≤ (x5_1 : Int) := of_decide_eq_true (by first | (with_reducible assumption) | assumption)
         have q439 : x5_1 < (l1.length : Int) := of_decide_eq_true (by first | (with_reducible assumption) | assumption)
         obtain ⟨ad439, A439_7, c439_7, A439_8, c439_8, e439, hx439_0, hx439_1, hx439_2, hx439_3, hx439_4, hx439_5, hx439_6, hx439_7, hx439_8, hl439_7, hi439_7, hl439_8, hi439_8⟩ := at_T73 HR1.out x5_1 p439 q439
         have hw439_8 := hx439_8
         have hw439_7 := hx439_7
         have hw439_6 := hx439_6
         have hw439_5 := hx439_5
         have hw439_4 := hx439_4
         have hw439_3 := hx439_3
         have hw439_2 := hx439_2
         have hw439_1 := hx439_1
         have hw439_0 := hx439_0
         cases e439
         replace hx439_0 := (HB.out.cell (World.block_lt_of_cell? w _ hx439_0)).trans hx439_0
         replace hx439_1 := (HB.out.cell (World.block_lt_of_cell? w _ hx439_1)).trans hx439_1
         replace hx439_2 := (HB.out.cell (World.block_lt_of_cell? w _ hx439_2)).trans hx439_2
         replace hx439_3 := (HB.out.cell (World.block_lt_of_cell? w _ hx439_3)).trans hx439_3
         replace hx439_4 := (HB.out.cell (World.block_lt_of_cell? w _ hx439_4)).trans hx439_4
         replace hx439_5 := (HB.out.cell (World.block_lt_of_cell? w _ hx439_5)).trans hx439_5
         replace hx439_6 := (HB.out.cell (World.block_lt_of_cell? w _ hx439_6)).trans hx439_6
         replace hx439_7 := (HB.out.cell (World.block_lt_of_cell? w _ hx439_7)).trans hx439_7
         replace hx439_8 := (HB.out.cell (World.block_lt_of_cell? w _ hx439_8)).trans hx439_8
         have HR439_7 := Aside0.mk hi439_7
         have HC439_7 := Aside0.mk hl439_7
         clear hi439_7 hl439_7
         have HR439_8 := Aside0.mk hi439_8
         have HC439_8 := Aside0.mk hl439_8
         clear hi439_8 hl439_8
         replace p439 := eq_true p439
         replace q439 := eq_true q439
         refine start_ (n := 10) (S := fun w' => w'.cell? (ad438.add ((x5_1).toNat * 9)) = some (.int .i64 ((rd_T73 l0 x5_1).f0)) ∧ w'.cell? ⟨(ad438.add ((x5_1).toNat * 9)).block, (ad438.add ((x5_1).toNat * 9)).off + 1, none⟩ = some (.int .i64 ((rd_T73 l0 x5_1).f1)) ∧ w'.cell? ⟨(ad438.add ((x5_1).toNat * 9)).block, (ad438.add ((x5_1).toNat * 9)).off + 2, none⟩ = some (.int .i64 ((rd_T73 l0 x5_1).f2)) ∧ w'.cell? ⟨(ad438.add ((x5_1).toNat * 9)).block, (ad438.add ((x5_1).toNat * 9)).off + 3, none⟩ = some (.int .i64 ((rd_T73 l0 x5_1).f3)) ∧ w'.cell? ⟨(ad438.add ((x5_1).toNat * 9)).block, (ad438.add ((x5_1).toNat * 9)).off + 4, none⟩ = some (.int .i64 ((rd_T73 l0 x5_1).f4)) ∧ w'.cell? ⟨(ad438.add ((x5_1).toNat * 9)).block, (ad438.add ((x5_1).toNat * 9)).off + 5, none⟩ = some (.int .i64 ((rd_T73 l0 x5_1).f5)) ∧ w'.cell? ⟨(ad438.add ((x5_1).toNat * 9)).block, (ad438.add ((x5_1).toNat * 9)).off + 6, none⟩ = some (.int .i64 ((rd_T73 l0 x5_1).f6)) ∧ w'.cell? ⟨(ad438.add ((x5_1).toNat * 9)).block, (ad438.add ((x5_1).toNat * 9)).off + 7, none⟩ = some (.slice A438_7 ((rd_T73 l0 x5_1).f7).length c438_7) ∧ w'.cell? ⟨(ad438.add ((x5_1).toNat * 9)).block, (ad438.add ((x5_1).toNat * 9)).off + 8, none⟩ = some (.slice A438_8 ((rd_T73 l0 x5_1).f8).length c438_8) ∧ w'.cell? (ad439.add ((x5_1).toNat * 9)) = some (.int .i64 ((rd_T73 l1 x5_1).f0)) ∧ w'.cell? ⟨(ad439.add ((x5_1).toNat * 9)).block, (ad439.add ((x5_1).toNat * 9)).off + 1, none⟩ = some (.int .i64 ((rd_T73 l1 x5_1).f1)) ∧ w'.cell? ⟨(ad439.add ((x5_1).toNat * 9)).block, (ad439.add ((x5_1).toNat * 9)).off + 2, none⟩ = some (.int .i64 ((rd_T73 l1 x5_1).f2)) ∧ w'.cell? ⟨(ad439.add ((x5_1).toNat * 9)).block, (ad439.add ((x5_1).toNat * 9)).off + 3, none⟩ = some (.int .i64 ((rd_T73 l1 x5_1).f3)) ∧ w'.cell? ⟨(ad439.add ((x5_1).toNat * 9)).block, (ad439.add ((x5_1).toNat * 9)).off + 4, none⟩ = some (.int .i64 ((rd_T73 l1 x5_1).f4)) ∧ w'.cell? ⟨(ad439.add ((x5_1).toNat * 9)).block, (ad439.add ((x5_1).toNat * 9)).off + 5, none⟩ = some (.int .i64 ((rd_T73 l1 x5_1).f5)) ∧ w'.cell? ⟨(ad439.add ((x5_1).toNat * 9)).block, (ad439.add ((x5_1).toNat * 9)).off + 6, none⟩ = some (.int .i64 ((rd_T73 l1 x5_1).f6)) ∧ w'.cell? ⟨(ad439.add ((x5_1).toNat * 9)).block, (ad439.add ((x5_1).toNat * 9)).off + 7, none⟩ = some (.slice A439_7 ((rd_T73 l1 x5_1).f7).length c439_7) ∧ w'.cell? ⟨(ad439.add ((x5_1).toNat * 9)).block, (ad439.add ((x5_1).toNat * 9)).off + 8, none⟩ = some (.slice A439_8 ((rd_T73 l1 x5_1).f8).length c439_8)) (ds := []) #[O, O, O, O, O, O, O, O, O, O] (by kernel_rfl) rfl rfl ⟨((HB.out.cell (World.block_lt_of_cell? w _ hw438_0)).trans hw438_0), ((HB.out.cell (World.block_lt_of_cell? w _ hw438_1)).trans hw438_1), ((HB.out.cell (World.block_lt_of_cell? w _ hw438_2)).trans hw438_2), ((HB.out.cell (World.block_lt_of_cell? w _ hw438_3)).trans hw438_3), ((HB.out.cell (World.block_lt_of_cell? w _ hw438_4)).trans hw438_4), ((HB.out.cell (World.block_lt_of_cell? w _ hw438_5)).trans hw438_5), ((HB.out.cell (World.block_lt_of_cell? w _ hw438_6)).trans hw438_6), ((HB.out.cell (World.block_lt_of_cell? w _ hw438_7)).trans hw438_7), ((HB.out.cell (World.block_lt_of_cell? w _ hw438_8)).trans hw438_8), ((HB.out.cell (World.block_lt_of_cell? w _ hw439_0)).trans hw439_0), ((HB.out.cell (World.block_lt_of_cell? w _ hw439_1)).trans hw439_1), ((HB.out.cell (World.block_lt_of_cell? w _ hw439_2)).trans hw439_2), ((HB.out.cell (World.block_lt_of_cell? w _ hw439_3)).trans hw439_3), ((HB.out.cell (World.block_lt_of_cell? w _ hw439_4)).trans hw439_4), ((HB.out.cell (World.block_lt_of_cell? w _ hw439_5)).trans hw439_5), ((HB.out.cell (World.block_lt_of_cell? w _ hw439_6)).trans hw439_6), ((HB.out.cell (World.block_lt_of_cell? w _ hw439_7)).trans hw439_7), ((HB.out.cell (World.block_lt_of_cell? w _ hw439_8)).trans hw439_8)⟩ (fun hHeld => ?_); refine with_tabW laws_eqLayerS.tab6 laws_eqLayerS.bits6 (fun HT_ HW_ => ?_)
         generalize wr.drew = w9 at HB HR438_7 HR438_8 HR439_7 HR439_8 hx438_0 hx438_1 hx438_2 hx438_3 hx438_4 hx438_5 hx438_6 hx438_7 hx438_8 hx439_0 hx439_1 hx439_2 hx439_3 hx439_4 hx439_5 hx439_6 hx439_7 hx439_8 hHeld ⊢
         refine stepP 0 (some 17) (tk 10 1) (any_of HT_.out (by kernel_rfl)) ?_
         refine stepP 1 (some 18) (tk 10 3) (any_of HT_.out (by kernel_rfl)) ?_
         refine stepP 2 (some 19) (tk 10 7) (any_of HT_.out (by kernel_rfl)) ?_
         refine stepP 4 (some 21) (tk 10 23) (any_of HT_.out (by kernel_rfl)) ?_
         refine stepP 5 (some 22) (tk 10 55) (any_of HT_.out (by kernel_rfl)) ?_
         refine stepP 6 (some 23) (tk 10 119) (any_of HT_.out (by kernel_rfl)) ?_
         refine stepT 3 (some 20) (tk 10 127) (take_ofW HT_.out HW_.out (by kernel_rfl)) hHeld ?_
         refine stepT 7 (some 24) (tk 10 255) (take_ofW HT_.out HW_.out (by kernel_rfl)) hHeld ?_
         refine one_ (i := 8) (N := some 25) #[I, I, I, I, I, I, I, I, I, O] rfl rfl (one_of HT_.out (by kernel_rfl)) (by decide) (fun K hK => ?_)
         refine goes_ Try.func101 (by kernel_rfl) rfl #[.agg #[.int .i64 ((rd_T73 l0 x5_1).f0), .int .i64 ((rd_T73 l0 x5_1).f1), .int .i64 ((rd_T73 l0 x5_1).f2), .int .i64 ((rd_T73 l0 x5_1).f3), .int .i64 ((rd_T73 l0 x5_1).f4), .int .i64 ((rd_T73 l0 x5_1).f5), .int .i64 ((rd_T73 l0 x5_1).f6), .slice A438_7 ((rd_T73 l0 x5_1).f7).length c438_7, .slice A438_8 ((rd_T73 l0 x5_1).f8).length c438_8], .agg #[.int .i64 ((rd_T73 l1 x5_1).f0), .int .i64 ((rd_T73 l1 x5_1).f1), .int .i64 ((rd_T73 l1 x5_1).f2), .int .i64 ((rd_T73 l1 x5_1).f3), .int .i64 ((rd_T73 l1 x5_1).f4), .int .i64 ((rd_T73 l1 x5_1).f5), .int .i64 ((rd_T73 l1 x5_1).f6), .slice A439_7 ((rd_T73 l1 x5_1).f7).length c439_7, .slice A439_8 ((rd_T73 l1 x5_1).f8).length c439_8]] (by rfl) rfl rfl (by (try simp only [List.map_toArray, List.map_cons, List.map_nil]); first | done | rfl | (simp only [List.length_drop, List.length_take]; rfl)) ?_
         with_reducible refine (laws_eqLayer.calls k1 ((rd_T73 l0 x5_1).f0) ((rd_T73 l0 x5_1).f1) ((rd_T73 l0 x5_1).f2) ((rd_T73 l0 x5_1).f3) ((rd_T73 l0 x5_1).f4) ((rd_T73 l0 x5_1).f5) ((rd_T73 l0 x5_1).f6) _ _ ((rd_T73 l0 x5_1).f7) _ _ ((rd_T73 l0 x5_1).f8) ((rd_T73 l1 x5_1).f0) ((rd_T73 l1 x5_1).f1) ((rd_T73 l1 x5_1).f2) ((rd_T73 l1 x5_1).f3) ((rd_T73 l1 x5_1).f4) ((rd_T73 l1 x5_1).f5) ((rd_T73 l1 x5_1).f6) _ _ ((rd_T73 l1 x5_1).f7) _ _ ((rd_T73 l1 x5_1).f8) true _ ?side1 ?side2 ?side3 ?side4 ?side5 ?side6 ?side7 ?side8 A7.out).mono ?_
         (case side1 => exact C_now HR438_7.out)
         (case side2 => exact HC438_7.out)
         (case side3 => exact C_now HR438_8.out)
         (case side4 => exact HC438_8.out)
         (case side5 => exact C_now HR439_7.out)
         (case side6 => exact HC439_7.out)
         (case side7 => exact C_now HR439_8.out)
         (case side8 => exact HC439_8.out)
         rintro e w10 ⟨rfl, hb⟩
         refine ⟨_, rfl, ?_⟩
         replace HB := bel_on w hb
         (try clear hb)
         (try clear hb2)
         (try clear hk)
         (try clear hi)
         refine hK.out _ _ ⟨((HB.out.cell (World.block_lt_of_cell? w _ hw438_0)).trans hw438_0), ((HB.out.cell (World.block_lt_of_cell? w _ hw438_1)).trans hw438_1), ((HB.out.cell (World.block_lt_of_cell? w _ hw438_2)).trans hw438_2), ((HB.out.cell (World.block_lt_of_cell? w _ hw438_3)).trans hw438_3), ((HB.out.cell (World.block_lt_of_cell? w _ hw438_4)).trans hw438_4), ((HB.out.cell (World.block_lt_of_cell? w _ hw438_5)).trans hw438_5), ((HB.out.cell (World.block_lt_of_cell? w _ hw438_6)).trans hw438_6), ((HB.out.cell (World.block_lt_of_cell? w _ hw438_7)).trans hw438_7), ((HB.out.cell (World.block_lt_of_cell? w _ hw438_8)).trans hw438_8), ((HB.out.cell (World.block_lt_of_cell? w _ hw439_0)).trans hw439_0), ((HB.out.cell (World.block_lt_of_cell? w _ hw439_1)).trans hw439_1), ((HB.out.cell (World.block_lt_of_cell? w _ hw439_2)).trans hw439_2), ((HB.out.cell (World.block_lt_of_cell? w _ hw439_3)).trans hw439_3), ((HB.out.cell (World.block_lt_of_cell? w _ hw439_4)).trans hw439_4), ((HB.out.cell (World.block_lt_of_cell? w _ hw439_5)).trans hw439_5), ((HB.out.cell (World.block_lt_of_cell? w _ hw439_6)).trans hw439_6), ((HB.out.cell (World.block_lt_of_cell? w _ hw439_7)).trans hw439_7), ((HB.out.cell (World.block_lt_of_cell? w _ hw439_8)).trans hw439_8)⟩ (fun hHeld => ?_)
         clear hK K
         refine norm_ (a' := ?_) ?_ ?_
         rotate_left
         ·show Act.put _ (some 25) _ = _
          simp only [Act.put, zA, zB, zC, i64_w, i32_w]
          rfl
         refine stepP 9 (some 26) (tk 10 1023) (any_of HT_.out (by kernel_rfl)) ?_
         refine done_ (done_of HT_.out (by kernel_rfl)) ?_
         try go_wp2
         go_roundg k1
         case measure => have := HK1.out; omega
         case rel => exact ⟨(wrap64 (x5_1 + 1)), (by first | rfl | (simp; done) | (simp [*]; done)), H', ⟨by have := HK1.out; omega⟩, ⟨bel_now⟩⟩
        ·replace c8 := Bool.eq_false_iff.mpr c8
         subst c8
         rw [if_neg (show ¬ (false = true) by decide)] at H
         obtain rfl := Option.some.inj H
         try go_wp2
         replace HB := Aside0.mk (below_drew1 HB.out)
         have p438 : 0 ≤ (x5_1 : Int) := of_decide_eq_true (by first | (with_reducible assumption) | assumption)
         have q438 : x5_1 < (l0.length : Int) := of_decide_eq_true (by first | (with_reducible assumption) | assumption)
         obtain ⟨ad438, A438_7, c438_7, A438_8, c438_8, e438, hx438_0, hx438_1, hx438_2, hx438_3, hx438_4, hx438_5, hx438_6, hx438_7, hx438_8, hl438_7, hi438_7, hl438_8, hi438_8⟩ := at_T73 HR0.out x5_1 p438 q438
         have hw438_8 := hx438_8
         have hw438_7 := hx438_7
         have hw438_6 := hx438_6
         have hw438_5 := hx438_5
         have hw438_4 := hx438_4
         have hw438_3 := hx438_3
         have hw438_2 := hx438_2
         have hw438_1 := hx438_1
         have hw438_0 := hx438_0
         cases e438
         replace hx438_0 := (HB.out.cell (World.block_lt_of_cell? w _ hx438_0)).trans hx438_0
         replace hx438_1 := (HB.out.cell (World.block_lt_of_cell? w _ hx438_1)).trans hx438_1
         replace hx438_2 := (HB.out.cell (World.block_lt_of_cell? w _ hx438_2)).trans hx438_2
         replace hx438_3 := (HB.out.cell (World.block_lt_of_cell? w _ hx438_3)).trans hx438_3
         replace hx438_4 := (HB.out.cell (World.block_lt_of_cell? w _ hx438_4)).trans hx438_4
         replace hx438_5 := (HB.out.cell (World.block_lt_of_cell? w _ hx438_5)).trans hx438_5
         replace hx438_6 := (HB.out.cell (World.block_lt_of_cell? w _ hx438_6)).trans hx438_6
         replace hx438_7 := (HB.out.cell (World.block_lt_of_cell? w _ hx438_7)).trans hx438_7
         replace hx438_8 := (HB.out.cell (World.block_lt_of_cell? w _ hx438_8)).trans hx438_8
         have HR438_7 := Aside0.mk hi438_7
         have HC438_7 := Aside0.mk hl438_7
         clear hi438_7 hl438_7
         have HR438_8 := Aside0.mk hi438_8
         have HC438_8 := Aside0.mk hl438_8
         clear hi438_8 hl438_8
         replace p438 := eq_true p438
         replace q438 := eq_true q438
         have p439 : 0 ≤ (x5_1 : Int) := of_decide_eq_true (by first | (with_reducible assumption) | assumption)
         have q439 : x5_1 < (l1.length : Int) := of_decide_eq_true (by first | (with_reducible assumption) | assumption)
         obtain ⟨ad439, A439_7, c439_7, A439_8, c439_8, e439, hx439_0, hx439_1, hx439_2, hx439_3, hx439_4, hx439_5, hx439_6, hx439_7, hx439_8, hl439_7, hi439_7, hl439_8, hi439_8⟩ := at_T73 HR1.out x5_1 p439 q439
         have hw439_8 := hx439_8
         have hw439_7 := hx439_7
         have hw439_6 := hx439_6
         have hw439_5 := hx439_5
         have hw439_4 := hx439_4
         have hw439_3 := hx439_3
         have hw439_2 := hx439_2
         have hw439_1 := hx439_1
         have hw439_0 := hx439_0
         cases e439
         replace hx439_0 := (HB.out.cell (World.block_lt_of_cell? w _ hx439_0)).trans hx439_0
         replace hx439_1 := (HB.out.cell (World.block_lt_of_cell? w _ hx439_1)).trans hx439_1
         replace hx439_2 := (HB.out.cell (World.block_lt_of_cell? w _ hx439_2)).trans hx439_2
         replace hx439_3 := (HB.out.cell (World.block_lt_of_cell? w _ hx439_3)).trans hx439_3
         replace hx439_4 := (HB.out.cell (World.block_lt_of_cell? w _ hx439_4)).trans hx439_4
         replace hx439_5 := (HB.out.cell (World.block_lt_of_cell? w _ hx439_5)).trans hx439_5
         replace hx439_6 := (HB.out.cell (World.block_lt_of_cell? w _ hx439_6)).trans hx439_6
         replace hx439_7 := (HB.out.cell (World.block_lt_of_cell? w _ hx439_7)).trans hx439_7
         replace hx439_8 := (HB.out.cell (World.block_lt_of_cell? w _ hx439_8)).trans hx439_8
         have HR439_7 := Aside0.mk hi439_7
         have HC439_7 := Aside0.mk hl439_7
         clear hi439_7 hl439_7
         have HR439_8 := Aside0.mk hi439_8
         have HC439_8 := Aside0.mk hl439_8
         clear hi439_8 hl439_8
         replace p439 := eq_true p439
         replace q439 := eq_true q439
         refine start_ (n := 10) (S := fun w' => w'.cell? (ad438.add ((x5_1).toNat * 9)) = some (.int .i64 ((rd_T73 l0 x5_1).f0)) ∧ w'.cell? ⟨(ad438.add ((x5_1).toNat * 9)).block, (ad438.add ((x5_1).toNat * 9)).off + 1, none⟩ = some (.int .i64 ((rd_T73 l0 x5_1).f1)) ∧ w'.cell? ⟨(ad438.add ((x5_1).toNat * 9)).block, (ad438.add ((x5_1).toNat * 9)).off + 2, none⟩ = some (.int .i64 ((rd_T73 l0 x5_1).f2)) ∧ w'.cell? ⟨(ad438.add ((x5_1).toNat * 9)).block, (ad438.add ((x5_1).toNat * 9)).off + 3, none⟩ = some (.int .i64 ((rd_T73 l0 x5_1).f3)) ∧ w'.cell? ⟨(ad438.add ((x5_1).toNat * 9)).block, (ad438.add ((x5_1).toNat * 9)).off + 4, none⟩ = some (.int .i64 ((rd_T73 l0 x5_1).f4)) ∧ w'.cell? ⟨(ad438.add ((x5_1).toNat * 9)).block, (ad438.add ((x5_1).toNat * 9)).off + 5, none⟩ = some (.int .i64 ((rd_T73 l0 x5_1).f5)) ∧ w'.cell? ⟨(ad438.add ((x5_1).toNat * 9)).block, (ad438.add ((x5_1).toNat * 9)).off + 6, none⟩ = some (.int .i64 ((rd_T73 l0 x5_1).f6)) ∧ w'.cell? ⟨(ad438.add ((x5_1).toNat * 9)).block, (ad438.add ((x5_1).toNat * 9)).off + 7, none⟩ = some (.slice A438_7 ((rd_T73 l0 x5_1).f7).length c438_7) ∧ w'.cell? ⟨(ad438.add ((x5_1).toNat * 9)).block, (ad438.add ((x5_1).toNat * 9)).off + 8, none⟩ = some (.slice A438_8 ((rd_T73 l0 x5_1).f8).length c438_8) ∧ w'.cell? (ad439.add ((x5_1).toNat * 9)) = some (.int .i64 ((rd_T73 l1 x5_1).f0)) ∧ w'.cell? ⟨(ad439.add ((x5_1).toNat * 9)).block, (ad439.add ((x5_1).toNat * 9)).off + 1, none⟩ = some (.int .i64 ((rd_T73 l1 x5_1).f1)) ∧ w'.cell? ⟨(ad439.add ((x5_1).toNat * 9)).block, (ad439.add ((x5_1).toNat * 9)).off + 2, none⟩ = some (.int .i64 ((rd_T73 l1 x5_1).f2)) ∧ w'.cell? ⟨(ad439.add ((x5_1).toNat * 9)).block, (ad439.add ((x5_1).toNat * 9)).off + 3, none⟩ = some (.int .i64 ((rd_T73 l1 x5_1).f3)) ∧ w'.cell? ⟨(ad439.add ((x5_1).toNat * 9)).block, (ad439.add ((x5_1).toNat * 9)).off + 4, none⟩ = some (.int .i64 ((rd_T73 l1 x5_1).f4)) ∧ w'.cell? ⟨(ad439.add ((x5_1).toNat * 9)).block, (ad439.add ((x5_1).toNat * 9)).off + 5, none⟩ = some (.int .i64 ((rd_T73 l1 x5_1).f5)) ∧ w'.cell? ⟨(ad439.add ((x5_1).toNat * 9)).block, (ad439.add ((x5_1).toNat * 9)).off + 6, none⟩ = some (.int .i64 ((rd_T73 l1 x5_1).f6)) ∧ w'.cell? ⟨(ad439.add ((x5_1).toNat * 9)).block, (ad439.add ((x5_1).toNat * 9)).off + 7, none⟩ = some (.slice A439_7 ((rd_T73 l1 x5_1).f7).length c439_7) ∧ w'.cell? ⟨(ad439.add ((x5_1).toNat * 9)).block, (ad439.add ((x5_1).toNat * 9)).off + 8, none⟩ = some (.slice A439_8 ((rd_T73 l1 x5_1).f8).length c439_8)) (ds := []) #[O, O, O, O, O, O, O, O, O, O] (by kernel_rfl) rfl rfl ⟨((HB.out.cell (World.block_lt_of_cell? w _ hw438_0)).trans hw438_0), ((HB.out.cell (World.block_lt_of_cell? w _ hw438_1)).trans hw438_1), ((HB.out.cell (World.block_lt_of_cell? w _ hw438_2)).trans hw438_2), ((HB.out.cell (World.block_lt_of_cell? w _ hw438_3)).trans hw438_3), ((HB.out.cell (World.block_lt_of_cell? w _ hw438_4)).trans hw438_4), ((HB.out.cell (World.block_lt_of_cell? w _ hw438_5)).trans hw438_5), ((HB.out.cell (World.block_lt_of_cell? w _ hw438_6)).trans hw438_6), ((HB.out.cell (World.block_lt_of_cell? w _ hw438_7)).trans hw438_7), ((HB.out.cell (World.block_lt_of_cell? w _ hw438_8)).trans hw438_8), ((HB.out.cell (World.block_lt_of_cell? w _ hw439_0)).trans hw439_0), ((HB.out.cell (World.block_lt_of_cell? w _ hw439_1)).trans hw439_1), ((HB.out.cell (World.block_lt_of_cell? w _ hw439_2)).trans hw439_2), ((HB.out.cell (World.block_lt_of_cell? w _ hw439_3)).trans hw439_3), ((HB.out.cell (World.block_lt_of_cell? w _ hw439_4)).trans hw439_4), ((HB.out.cell (World.block_lt_of_cell? w _ hw439_5)).trans hw439_5), ((HB.out.cell (World.block_lt_of_cell? w _ hw439_6)).trans hw439_6), ((HB.out.cell (World.block_lt_of_cell? w _ hw439_7)).trans hw439_7), ((HB.out.cell (World.block_lt_of_cell? w _ hw439_8)).trans hw439_8)⟩ (fun hHeld => ?_); refine with_tabW laws_eqLayerS.tab6 laws_eqLayerS.bits6 (fun HT_ HW_ => ?_)
         generalize wr.drew = w11 at HB HR438_7 HR438_8 HR439_7 HR439_8 hx438_0 hx438_1 hx438_2 hx438_3 hx438_4 hx438_5 hx438_6 hx438_7 hx438_8 hx439_0 hx439_1 hx439_2 hx439_3 hx439_4 hx439_5 hx439_6 hx439_7 hx439_8 hHeld ⊢
         refine stepP 0 (some 17) (tk 10 1) (any_of HT_.out (by kernel_rfl)) ?_
         refine stepP 1 (some 18) (tk 10 3) (any_of HT_.out (by kernel_rfl)) ?_
         refine stepP 2 (some 19) (tk 10 7) (any_of HT_.out (by kernel_rfl)) ?_
         refine stepP 4 (some 21) (tk 10 23) (any_of HT_.out (by kernel_rfl)) ?_
         refine stepP 5 (some 22) (tk 10 55) (any_of HT_.out (by kernel_rfl)) ?_
         refine stepP 6 (some 23) (tk 10 119) (any_of HT_.out (by kernel_rfl)) ?_
         refine stepT 3 (some 20) (tk 10 127) (take_ofW HT_.out HW_.out (by kernel_rfl)) hHeld ?_
         refine stepT 7 (some 24) (tk 10 255) (take_ofW HT_.out HW_.out (by kernel_rfl)) hHeld ?_
         refine one_ (i := 8) (N := some 25) #[I, I, I, I, I, I, I, I, I, O] rfl rfl (one_of HT_.out (by kernel_rfl)) (by decide) (fun K hK => ?_)
         refine goes_ Try.func101 (by kernel_rfl) rfl #[.agg #[.int .i64 ((rd_T73 l0 x5_1).f0), .int .i64 ((rd_T73 l0 x5_1).f1), .int .i64 ((rd_T73 l0 x5_1).f2), .int .i64 ((rd_T73 l0 x5_1).f3), .int .i64 ((rd_T73 l0 x5_1).f4), .int .i64 ((rd_T73 l0 x5_1).f5), .int .i64 ((rd_T73 l0 x5_1).f6), .slice A438_7 ((rd_T73 l0 x5_1).f7).length c438_7, .slice A438_8 ((rd_T73 l0 x5_1).f8).length c438_8], .agg #[.int .i64 ((rd_T73 l1 x5_1).f0), .int .i64 ((rd_T73 l1 x5_1).f1), .int .i64 ((rd_T73 l1 x5_1).f2), .int .i64 ((rd_T73 l1 x5_1).f3), .int .i64 ((rd_T73 l1 x5_1).f4), .int .i64 ((rd_T73 l1 x5_1).f5), .int .i64 ((rd_T73 l1 x5_1).f6), .slice A439_7 ((rd_T73 l1 x5_1).f7).length c439_7, .slice A439_8 ((rd_T73 l1 x5_1).f8).length c439_8]] (by rfl) rfl rfl (by (try simp only [List.map_toArray, List.map_cons, List.map_nil]); first | done | rfl | (simp only [List.length_drop, List.length_take]; rfl)) ?_
         with_reducible refine (laws_eqLayer.calls k1 ((rd_T73 l0 x5_1).f0) ((rd_T73 l0 x5_1).f1) ((rd_T73 l0 x5_1).f2) ((rd_T73 l0 x5_1).f3) ((rd_T73 l0 x5_1).f4) ((rd_T73 l0 x5_1).f5) ((rd_T73 l0 x5_1).f6) _ _ ((rd_T73 l0 x5_1).f7) _ _ ((rd_T73 l0 x5_1).f8) ((rd_T73 l1 x5_1).f0) ((rd_T73 l1 x5_1).f1) ((rd_T73 l1 x5_1).f2) ((rd_T73 l1 x5_1).f3) ((rd_T73 l1 x5_1).f4) ((rd_T73 l1 x5_1).f5) ((rd_T73 l1 x5_1).f6) _ _ ((rd_T73 l1 x5_1).f7) _ _ ((rd_T73 l1 x5_1).f8) false _ ?side1 ?side2 ?side3 ?side4 ?side5 ?side6 ?side7 ?side8 A7.out).mono ?_
         (case side1 => exact C_now HR438_7.out)
         (case side2 => exact HC438_7.out)
         (case side3 => exact C_now HR438_8.out)
         (case side4 => exact HC438_8.out)
         (case side5 => exact C_now HR439_7.out)
         (case side6 => exact HC439_7.out)
         (case side7 => exact C_now HR439_8.out)
         (case side8 => exact HC439_8.out)
         rintro e w12 ⟨rfl, hb⟩
         refine ⟨_, rfl, ?_⟩
         replace HB := bel_on w hb
         (try clear hb)
         (try clear hb2)
         (try clear hk)
         (try clear hi)
         refine hK.out _ _ ⟨((HB.out.cell (World.block_lt_of_cell? w _ hw438_0)).trans hw438_0), ((HB.out.cell (World.block_lt_of_cell? w _ hw438_1)).trans hw438_1), ((HB.out.cell (World.block_lt_of_cell? w _ hw438_2)).trans hw438_2), ((HB.out.cell (World.block_lt_of_cell? w _ hw438_3)).trans hw438_3), ((HB.out.cell (World.block_lt_of_cell? w _ hw438_4)).trans hw438_4), ((HB.out.cell (World.block_lt_of_cell? w _ hw438_5)).trans hw438_5), ((HB.out.cell (World.block_lt_of_cell? w _ hw438_6)).trans hw438_6), ((HB.out.cell (World.block_lt_of_cell? w _ hw438_7)).trans hw438_7), ((HB.out.cell (World.block_lt_of_cell? w _ hw438_8)).trans hw438_8), ((HB.out.cell (World.block_lt_of_cell? w _ hw439_0)).trans hw439_0), ((HB.out.cell (World.block_lt_of_cell? w _ hw439_1)).trans hw439_1), ((HB.out.cell (World.block_lt_of_cell? w _ hw439_2)).trans hw439_2), ((HB.out.cell (World.block_lt_of_cell? w _ hw439_3)).trans hw439_3), ((HB.out.cell (World.block_lt_of_cell? w _ hw439_4)).trans hw439_4), ((HB.out.cell (World.block_lt_of_cell? w _ hw439_5)).trans hw439_5), ((HB.out.cell (World.block_lt_of_cell? w _ hw439_6)).trans hw439_6), ((HB.out.cell (World.block_lt_of_cell? w _ hw439_7)).trans hw439_7), ((HB.out.cell (World.block_lt_of_cell? w _ hw439_8)).trans hw439_8)⟩ (fun hHeld => ?_)
         clear hK K
         refine norm_ (a' := ?_) ?_ ?_
         rotate_left
         ·show Act.put _ (some 25) _ = _
          simp only [Act.put, zA, zB, zC, i64_w, i32_w]
          rfl
         refine stepP 9 (some 26) (tk 10 1023) (any_of HT_.out (by kernel_rfl)) ?_
         refine done_ (done_of HT_.out (by kernel_rfl)) ?_
         try go_wp2
         go_ret
         exact ⟨eqN, bel_now⟩
       ·rw [if_neg c6] at H
        exact absurd H (by simp)
      ·rw [if_neg c5] at H
       exact absurd H (by simp)
     ·rw [if_neg c4] at H
      have c4b0 : decide (x5_1 < (l0.length : Int)) = false := decide_eq_false c4
      clear c4
      obtain rfl := Option.some.inj H
      go_wp2
      go_ret
      exact ⟨eqN, bel_now⟩
  ·rw [if_neg c3] at H
   have c3b0 : ((l0.length : Int) == (l1.length : Int)) = false := beq_eq_false_iff_ne.mpr c3
   have c3b1 : ((l0.length : Int) != (l1.length : Int)) = true := bne_iff_ne.mpr c3
   have c3b2 : (l0.length == l1.length) = false := by first | simpa using c3 | (simp at c3 ⊢; omega)
   obtain rfl := Option.some.inj H
   go_enter Try.func72, Try.ntmps72
   go_wp2
   go_ret
   exact ⟨eqN, bel_now⟩

/-! ### laws_eqModel: function 27 -/
def laws_eqModel.f (k : Nat) (a0_0 : Int) (a0_1 : Int) (a0_2 : Int) (l0_3 : List (S73)) (a1_0 : Int) (a1_1 : Int) (a1_2 : Int) (l1_3 : List (S73)) : Option (Bool) := (laws_eqShape.f a0_0 a0_1 a0_2 a1_0 a1_1 a1_2).bind fun t443 => (if t443 = true then ((laws_eqLayerS.f k l0_3 l1_3).bind fun t444 => (if t444 = true then (some true) else (some false))) else (some false))
set_option maxHeartbeats 8000000 in
set_option maxRecDepth 100000 in
theorem laws_eqModel.calls (k : Nat) (a0_0 : Int) (a0_1 : Int) (a0_2 : Int) (A0_3 : Option Addr) (c0_3 : Nat) (l0_3 : List (S73)) (a1_0 : Int) (a1_1 : Int) (a1_2 : Int) (A1_3 : Option Addr) (c1_3 : Nat) (l1_3 : List (S73)) (r : Bool) (w : World) (hr0_3 : Kd.C k73 w A0_3 l0_3.length l0_3) (hc0_3 : l0_3.length ≤ c0_3) (hr1_3 : Kd.C k73 w A1_3 l1_3.length l1_3) (hc1_3 : l1_3.length ≤ c1_3) (h : laws_eqModel.f k a0_0 a0_1 a0_2 l0_3 a1_0 a1_1 a1_2 l1_3 = some r) :
   Calls Try.prog 27 #[.agg #[.int .i64 a0_0, .int .i64 a0_1, .int .i64 a0_2, .slice A0_3 l0_3.length c0_3], .agg #[.int .i64 a1_0, .int .i64 a1_1, .int .i64 a1_2, .slice A1_3 l1_3.length c1_3]] w fun e w' => e = .returned (.bool r) ∧ Below w.heap.size w w' := by
  have hu28 := Try.underlying28
  have hu25 := Try.underlying25
  have HR0_3 := Aside0.mk hr0_3
  have HC0_3 := Aside0.mk hc0_3
  clear hr0_3 hc0_3
  have HR1_3 := Aside0.mk hr1_3
  have HC1_3 := Aside0.mk hc1_3
  clear hr1_3 hc1_3
  have HB := Aside0.mk (Below.refl w.heap.size w)
  have H : ((laws_eqShape.f a0_0 a0_1 a0_2 a1_0 a1_1 a1_2).bind fun t443 => (if t443 = true then ((laws_eqLayerS.f k l0_3 l1_3).bind fun t444 => (if t444 = true then (some true) else (some false))) else (some false))) = some r := h
  clear h
  replace H := Option.bind_eq_some_iff.mp H
  obtain ⟨t443, A30, H⟩ := H
  (try dsimp only at H)
  have A3 := Aside0.mk A30
  clear A30
  by_cases c4 : t443 = true
  ·subst c4
   rw [if_pos rfl] at H
   replace H := Option.bind_eq_some_iff.mp H
   obtain ⟨t444, A50, H⟩ := H
   (try dsimp only at H)
   have A5 := Aside0.mk A50
   clear A50
   by_cases c6 : t444 = true
   ·subst c6
    rw [if_pos rfl] at H
    obtain rfl := Option.some.inj H
    go_enter Try.func27, Try.ntmps27
    go_wp2_with (first | ((with_reducible refine gate_dst (N := 2) rfl ?_); refine boxM 2 #[.int .i64 a0_0, .int .i64 a0_1, .int .i64 a0_2, .slice A0_3 l0_3.length c0_3] 28 ?_; intro gb441 hg w7 BK441 hb; replace HB := box_at w hb hg; obtain ⟨HB, GW441, GE441⟩ := HB; clear hb hg) | ((with_reducible refine gate_dst (N := 3) rfl ?_); refine boxM 3 #[.int .i64 a1_0, .int .i64 a1_1, .int .i64 a1_2, .slice A1_3 l1_3.length c1_3] 28 ?_; intro gb442 hg w8 BK442 hb; replace HB := box_at w hb hg; obtain ⟨HB, GW442, GE442⟩ := HB; replace BK441 := box_on gb441 hb hg; obtain ⟨BK441, NB441_442, NB442_441⟩ := BK441; clear hb hg; have hnb9 := NB441_442.out; have hnc9 := NB442_441.out; obtain ⟨hcz10_0, hcz10_1, hcz10_2, hcz10_3, hfz10_0, hfz10_1, hfz10_2, hfz10_3⟩ := cells4 BK441.out; obtain ⟨hcz11_0, hcz11_1, hcz11_2, hcz11_3, hfz11_0, hfz11_1, hfz11_2, hfz11_3⟩ := cells4 BK442.out) | ((with_reducible refine gate_callee (f := 71) rfl ?_); refine goesM (some 9) rfl rfl Try.func71 (by kernel_rfl) rfl #[.agg #[.int .i64 a0_0, .int .i64 a0_1, .int .i64 a0_2], .agg #[.int .i64 a1_0, .int .i64 a1_1, .int .i64 a1_2]] rfl ?_; (with_reducible refine (laws_eqShape.calls a0_0 a0_1 a0_2 a1_0 a1_1 a1_2 true _ A3.out).mono ?_); rintro e w12 ⟨rfl, hb⟩; refine ⟨_, rfl, ?_⟩; replace HB := bel_on w hb; replace BK441 := blk_on gb441 hb; replace BK442 := blk_on gb442 hb; (try clear hb); obtain ⟨hcz13_0, hcz13_1, hcz13_2, hcz13_3, hfz13_0, hfz13_1, hfz13_2, hfz13_3⟩ := cells4 BK441.out; obtain ⟨hcz14_0, hcz14_1, hcz14_2, hcz14_3, hfz14_0, hfz14_1, hfz14_2, hfz14_3⟩ := cells4 BK442.out) | ((with_reducible refine gate_callee (f := 72) rfl ?_); refine goesM (some 15) rfl rfl Try.func72 (by kernel_rfl) rfl #[.slice A0_3 l0_3.length c0_3, .slice A1_3 l1_3.length c1_3] rfl ?_; (with_reducible refine (laws_eqLayerS.calls k _ _ l0_3 _ _ l1_3 true _ ?side1 ?side2 ?side3 ?side4 A5.out).mono ?_); (case side1 => exact C_now HR0_3.out); (case side2 => exact HC0_3.out); (case side3 => exact C_now HR1_3.out); (case side4 => exact HC1_3.out); rintro e w15 ⟨rfl, hb⟩; refine ⟨_, rfl, ?_⟩; replace HB := bel_on w hb; replace BK441 := blk_on gb441 hb; replace BK442 := blk_on gb442 hb; (try clear hb)))
    go_ret
    exact ⟨eqN, bel_now⟩
   ·replace c6 := Bool.eq_false_iff.mpr c6
    subst c6
    rw [if_neg (show ¬ (false = true) by decide)] at H
    obtain rfl := Option.some.inj H
    go_enter Try.func27, Try.ntmps27
    go_wp2_with (first | ((with_reducible refine gate_dst (N := 2) rfl ?_); refine boxM 2 #[.int .i64 a0_0, .int .i64 a0_1, .int .i64 a0_2, .slice A0_3 l0_3.length c0_3] 28 ?_; intro gb441 hg w16 BK441 hb; replace HB := box_at w hb hg; obtain ⟨HB, GW441, GE441⟩ := HB; clear hb hg) | ((with_reducible refine gate_dst (N := 3) rfl ?_); refine boxM 3 #[.int .i64 a1_0, .int .i64 a1_1, .int .i64 a1_2, .slice A1_3 l1_3.length c1_3] 28 ?_; intro gb442 hg w17 BK442 hb; replace HB := box_at w hb hg; obtain ⟨HB, GW442, GE442⟩ := HB; replace BK441 := box_on gb441 hb hg; obtain ⟨BK441, NB441_442, NB442_441⟩ := BK441; clear hb hg; have hnb18 := NB441_442.out; have hnc18 := NB442_441.out; obtain ⟨hcz19_0, hcz19_1, hcz19_2, hcz19_3, hfz19_0, hfz19_1, hfz19_2, hfz19_3⟩ := cells4 BK441.out; obtain ⟨hcz20_0, hcz20_1, hcz20_2, hcz20_3, hfz20_0, hfz20_1, hfz20_2, hfz20_3⟩ := cells4 BK442.out) | ((with_reducible refine gate_callee (f := 71) rfl ?_); refine goesM (some 9) rfl rfl Try.func71 (by kernel_rfl) rfl #[.agg #[.int .i64 a0_0, .int .i64 a0_1, .int .i64 a0_2], .agg #[.int .i64 a1_0, .int .i64 a1_1, .int .i64 a1_2]] rfl ?_; (with_reducible refine (laws_eqShape.calls a0_0 a0_1 a0_2 a1_0 a1_1 a1_2 true _ A3.out).mono ?_); rintro e w21 ⟨rfl, hb⟩; refine ⟨_, rfl, ?_⟩; replace HB := bel_on w hb; replace BK441 := blk_on gb441 hb; replace BK442 := blk_on gb442 hb; (try clear hb); obtain ⟨hcz22_0, hcz22_1, hcz22_2, hcz22_3, hfz22_0, hfz22_1, hfz22_2, hfz22_3⟩ := cells4 BK441.out; obtain ⟨hcz23_0, hcz23_1, hcz23_2, hcz23_3, hfz23_0, hfz23_1, hfz23_2, hfz23_3⟩ := cells4 BK442.out) | ((with_reducible refine gate_callee (f := 72) rfl ?_); refine goesM (some 15) rfl rfl Try.func72 (by kernel_rfl) rfl #[.slice A0_3 l0_3.length c0_3, .slice A1_3 l1_3.length c1_3] rfl ?_; (with_reducible refine (laws_eqLayerS.calls k _ _ l0_3 _ _ l1_3 false _ ?side1 ?side2 ?side3 ?side4 A5.out).mono ?_); (case side1 => exact C_now HR0_3.out); (case side2 => exact HC0_3.out); (case side3 => exact C_now HR1_3.out); (case side4 => exact HC1_3.out); rintro e w24 ⟨rfl, hb⟩; refine ⟨_, rfl, ?_⟩; replace HB := bel_on w hb; replace BK441 := blk_on gb441 hb; replace BK442 := blk_on gb442 hb; (try clear hb)))
    go_ret
    exact ⟨eqN, bel_now⟩
  ·replace c4 := Bool.eq_false_iff.mpr c4
   subst c4
   rw [if_neg (show ¬ (false = true) by decide)] at H
   obtain rfl := Option.some.inj H
   go_enter Try.func27, Try.ntmps27
   go_wp2_with (first | ((with_reducible refine gate_dst (N := 2) rfl ?_); refine boxM 2 #[.int .i64 a0_0, .int .i64 a0_1, .int .i64 a0_2, .slice A0_3 l0_3.length c0_3] 28 ?_; intro gb441 hg w25 BK441 hb; replace HB := box_at w hb hg; obtain ⟨HB, GW441, GE441⟩ := HB; clear hb hg) | ((with_reducible refine gate_dst (N := 3) rfl ?_); refine boxM 3 #[.int .i64 a1_0, .int .i64 a1_1, .int .i64 a1_2, .slice A1_3 l1_3.length c1_3] 28 ?_; intro gb442 hg w26 BK442 hb; replace HB := box_at w hb hg; obtain ⟨HB, GW442, GE442⟩ := HB; replace BK441 := box_on gb441 hb hg; obtain ⟨BK441, NB441_442, NB442_441⟩ := BK441; clear hb hg; have hnb27 := NB441_442.out; have hnc27 := NB442_441.out; obtain ⟨hcz28_0, hcz28_1, hcz28_2, hcz28_3, hfz28_0, hfz28_1, hfz28_2, hfz28_3⟩ := cells4 BK441.out; obtain ⟨hcz29_0, hcz29_1, hcz29_2, hcz29_3, hfz29_0, hfz29_1, hfz29_2, hfz29_3⟩ := cells4 BK442.out) | ((with_reducible refine gate_callee (f := 71) rfl ?_); refine goesM (some 9) rfl rfl Try.func71 (by kernel_rfl) rfl #[.agg #[.int .i64 a0_0, .int .i64 a0_1, .int .i64 a0_2], .agg #[.int .i64 a1_0, .int .i64 a1_1, .int .i64 a1_2]] rfl ?_; (with_reducible refine (laws_eqShape.calls a0_0 a0_1 a0_2 a1_0 a1_1 a1_2 false _ A3.out).mono ?_); rintro e w30 ⟨rfl, hb⟩; refine ⟨_, rfl, ?_⟩; replace HB := bel_on w hb; replace BK441 := blk_on gb441 hb; replace BK442 := blk_on gb442 hb; (try clear hb)))
   go_ret
   exact ⟨eqN, bel_now⟩

/-! ### laws_eqTensor: function 85 -/
def laws_eqTensor.f (k : Nat) (a0_0 : Int) (a0_1 : Int) (a0_2 : Int) (l0_3 : List Int) (a1_0 : Int) (a1_1 : Int) (a1_2 : Int) (l1_3 : List Int) : Option (Bool) := (laws_eqShape.f a0_0 a0_1 a0_2 a1_0 a1_1 a1_2).bind fun t447 => (if t447 = true then ((laws_eqIntS.f k l0_3 l1_3).bind fun t448 => (if t448 = true then (some true) else (some false))) else (some false))
set_option maxHeartbeats 8000000 in
set_option maxRecDepth 100000 in
theorem laws_eqTensor.calls (k : Nat) (a0_0 : Int) (a0_1 : Int) (a0_2 : Int) (A0_3 : Option Addr) (c0_3 : Nat) (l0_3 : List Int) (a1_0 : Int) (a1_1 : Int) (a1_2 : Int) (A1_3 : Option Addr) (c1_3 : Nat) (l1_3 : List Int) (r : Bool) (w : World) (hr0_3 : Kd.C (Kd.int .i64) w A0_3 l0_3.length l0_3) (hc0_3 : l0_3.length ≤ c0_3) (hr1_3 : Kd.C (Kd.int .i64) w A1_3 l1_3.length l1_3) (hc1_3 : l1_3.length ≤ c1_3) (h : laws_eqTensor.f k a0_0 a0_1 a0_2 l0_3 a1_0 a1_1 a1_2 l1_3 = some r) :
   Calls Try.prog 85 #[.agg #[.int .i64 a0_0, .int .i64 a0_1, .int .i64 a0_2, .slice A0_3 l0_3.length c0_3], .agg #[.int .i64 a1_0, .int .i64 a1_1, .int .i64 a1_2, .slice A1_3 l1_3.length c1_3]] w fun e w' => e = .returned (.bool r) ∧ Below w.heap.size w w' := by
  have hu62 := Try.underlying62
  have hu25 := Try.underlying25
  have HR0_3 := Aside0.mk hr0_3
  have HC0_3 := Aside0.mk hc0_3
  clear hr0_3 hc0_3
  have HR1_3 := Aside0.mk hr1_3
  have HC1_3 := Aside0.mk hc1_3
  clear hr1_3 hc1_3
  have HB := Aside0.mk (Below.refl w.heap.size w)
  have H : ((laws_eqShape.f a0_0 a0_1 a0_2 a1_0 a1_1 a1_2).bind fun t447 => (if t447 = true then ((laws_eqIntS.f k l0_3 l1_3).bind fun t448 => (if t448 = true then (some true) else (some false))) else (some false))) = some r := h
  clear h
  replace H := Option.bind_eq_some_iff.mp H
  obtain ⟨t447, A30, H⟩ := H
  (try dsimp only at H)
  have A3 := Aside0.mk A30
  clear A30
  by_cases c4 : t447 = true
  ·subst c4
   rw [if_pos rfl] at H
   replace H := Option.bind_eq_some_iff.mp H
   obtain ⟨t448, A50, H⟩ := H
   (try dsimp only at H)
   have A5 := Aside0.mk A50
   clear A50
   by_cases c6 : t448 = true
   ·subst c6
    rw [if_pos rfl] at H
    obtain rfl := Option.some.inj H
    go_enter Try.func85, Try.ntmps85
    go_wp2_with (first | ((with_reducible refine gate_dst (N := 2) rfl ?_); refine boxM 2 #[.int .i64 a0_0, .int .i64 a0_1, .int .i64 a0_2, .slice A0_3 l0_3.length c0_3] 62 ?_; intro gb445 hg w7 BK445 hb; replace HB := box_at w hb hg; obtain ⟨HB, GW445, GE445⟩ := HB; clear hb hg) | ((with_reducible refine gate_dst (N := 3) rfl ?_); refine boxM 3 #[.int .i64 a1_0, .int .i64 a1_1, .int .i64 a1_2, .slice A1_3 l1_3.length c1_3] 62 ?_; intro gb446 hg w8 BK446 hb; replace HB := box_at w hb hg; obtain ⟨HB, GW446, GE446⟩ := HB; replace BK445 := box_on gb445 hb hg; obtain ⟨BK445, NB445_446, NB446_445⟩ := BK445; clear hb hg; have hnb9 := NB445_446.out; have hnc9 := NB446_445.out; obtain ⟨hcz10_0, hcz10_1, hcz10_2, hcz10_3, hfz10_0, hfz10_1, hfz10_2, hfz10_3⟩ := cells4 BK445.out; obtain ⟨hcz11_0, hcz11_1, hcz11_2, hcz11_3, hfz11_0, hfz11_1, hfz11_2, hfz11_3⟩ := cells4 BK446.out) | ((with_reducible refine gate_callee (f := 71) rfl ?_); refine goesM (some 9) rfl rfl Try.func71 (by kernel_rfl) rfl #[.agg #[.int .i64 a0_0, .int .i64 a0_1, .int .i64 a0_2], .agg #[.int .i64 a1_0, .int .i64 a1_1, .int .i64 a1_2]] rfl ?_; (with_reducible refine (laws_eqShape.calls a0_0 a0_1 a0_2 a1_0 a1_1 a1_2 true _ A3.out).mono ?_); rintro e w12 ⟨rfl, hb⟩; refine ⟨_, rfl, ?_⟩; replace HB := bel_on w hb; replace BK445 := blk_on gb445 hb; replace BK446 := blk_on gb446 hb; (try clear hb); obtain ⟨hcz13_0, hcz13_1, hcz13_2, hcz13_3, hfz13_0, hfz13_1, hfz13_2, hfz13_3⟩ := cells4 BK445.out; obtain ⟨hcz14_0, hcz14_1, hcz14_2, hcz14_3, hfz14_0, hfz14_1, hfz14_2, hfz14_3⟩ := cells4 BK446.out) | ((with_reducible refine gate_callee (f := 35) rfl ?_); refine goesM (some 15) rfl rfl Try.func35 (by kernel_rfl) rfl #[.slice A0_3 l0_3.length c0_3, .slice A1_3 l1_3.length c1_3] rfl ?_; (with_reducible refine (laws_eqIntS.calls k _ _ l0_3 _ _ l1_3 true _ ?side1 ?side2 ?side3 ?side4 A5.out).mono ?_); (case side1 => exact C_now HR0_3.out); (case side2 => exact HC0_3.out); (case side3 => exact C_now HR1_3.out); (case side4 => exact HC1_3.out); rintro e w' ⟨rfl, ⟨nd, rfl⟩⟩; refine ⟨_, rfl, ?_⟩))
    go_ret
    exact ⟨eqN, bel_now⟩
   ·replace c6 := Bool.eq_false_iff.mpr c6
    subst c6
    rw [if_neg (show ¬ (false = true) by decide)] at H
    obtain rfl := Option.some.inj H
    go_enter Try.func85, Try.ntmps85
    go_wp2_with (first | ((with_reducible refine gate_dst (N := 2) rfl ?_); refine boxM 2 #[.int .i64 a0_0, .int .i64 a0_1, .int .i64 a0_2, .slice A0_3 l0_3.length c0_3] 62 ?_; intro gb445 hg w15 BK445 hb; replace HB := box_at w hb hg; obtain ⟨HB, GW445, GE445⟩ := HB; clear hb hg) | ((with_reducible refine gate_dst (N := 3) rfl ?_); refine boxM 3 #[.int .i64 a1_0, .int .i64 a1_1, .int .i64 a1_2, .slice A1_3 l1_3.length c1_3] 62 ?_; intro gb446 hg w16 BK446 hb; replace HB := box_at w hb hg; obtain ⟨HB, GW446, GE446⟩ := HB; replace BK445 := box_on gb445 hb hg; obtain ⟨BK445, NB445_446, NB446_445⟩ := BK445; clear hb hg; have hnb17 := NB445_446.out; have hnc17 := NB446_445.out; obtain ⟨hcz18_0, hcz18_1, hcz18_2, hcz18_3, hfz18_0, hfz18_1, hfz18_2, hfz18_3⟩ := cells4 BK445.out; obtain ⟨hcz19_0, hcz19_1, hcz19_2, hcz19_3, hfz19_0, hfz19_1, hfz19_2, hfz19_3⟩ := cells4 BK446.out) | ((with_reducible refine gate_callee (f := 71) rfl ?_); refine goesM (some 9) rfl rfl Try.func71 (by kernel_rfl) rfl #[.agg #[.int .i64 a0_0, .int .i64 a0_1, .int .i64 a0_2], .agg #[.int .i64 a1_0, .int .i64 a1_1, .int .i64 a1_2]] rfl ?_; (with_reducible refine (laws_eqShape.calls a0_0 a0_1 a0_2 a1_0 a1_1 a1_2 true _ A3.out).mono ?_); rintro e w20 ⟨rfl, hb⟩; refine ⟨_, rfl, ?_⟩; replace HB := bel_on w hb; replace BK445 := blk_on gb445 hb; replace BK446 := blk_on gb446 hb; (try clear hb); obtain ⟨hcz21_0, hcz21_1, hcz21_2, hcz21_3, hfz21_0, hfz21_1, hfz21_2, hfz21_3⟩ := cells4 BK445.out; obtain ⟨hcz22_0, hcz22_1, hcz22_2, hcz22_3, hfz22_0, hfz22_1, hfz22_2, hfz22_3⟩ := cells4 BK446.out) | ((with_reducible refine gate_callee (f := 35) rfl ?_); refine goesM (some 15) rfl rfl Try.func35 (by kernel_rfl) rfl #[.slice A0_3 l0_3.length c0_3, .slice A1_3 l1_3.length c1_3] rfl ?_; (with_reducible refine (laws_eqIntS.calls k _ _ l0_3 _ _ l1_3 false _ ?side1 ?side2 ?side3 ?side4 A5.out).mono ?_); (case side1 => exact C_now HR0_3.out); (case side2 => exact HC0_3.out); (case side3 => exact C_now HR1_3.out); (case side4 => exact HC1_3.out); rintro e w' ⟨rfl, ⟨nd, rfl⟩⟩; refine ⟨_, rfl, ?_⟩))
    go_ret
    exact ⟨eqN, bel_now⟩
  ·replace c4 := Bool.eq_false_iff.mpr c4
   subst c4
   rw [if_neg (show ¬ (false = true) by decide)] at H
   obtain rfl := Option.some.inj H
   go_enter Try.func85, Try.ntmps85
   go_wp2_with (first | ((with_reducible refine gate_dst (N := 2) rfl ?_); refine boxM 2 #[.int .i64 a0_0, .int .i64 a0_1, .int .i64 a0_2, .slice A0_3 l0_3.length c0_3] 62 ?_; intro gb445 hg w23 BK445 hb; replace HB := box_at w hb hg; obtain ⟨HB, GW445, GE445⟩ := HB; clear hb hg) | ((with_reducible refine gate_dst (N := 3) rfl ?_); refine boxM 3 #[.int .i64 a1_0, .int .i64 a1_1, .int .i64 a1_2, .slice A1_3 l1_3.length c1_3] 62 ?_; intro gb446 hg w24 BK446 hb; replace HB := box_at w hb hg; obtain ⟨HB, GW446, GE446⟩ := HB; replace BK445 := box_on gb445 hb hg; obtain ⟨BK445, NB445_446, NB446_445⟩ := BK445; clear hb hg; have hnb25 := NB445_446.out; have hnc25 := NB446_445.out; obtain ⟨hcz26_0, hcz26_1, hcz26_2, hcz26_3, hfz26_0, hfz26_1, hfz26_2, hfz26_3⟩ := cells4 BK445.out; obtain ⟨hcz27_0, hcz27_1, hcz27_2, hcz27_3, hfz27_0, hfz27_1, hfz27_2, hfz27_3⟩ := cells4 BK446.out) | ((with_reducible refine gate_callee (f := 71) rfl ?_); refine goesM (some 9) rfl rfl Try.func71 (by kernel_rfl) rfl #[.agg #[.int .i64 a0_0, .int .i64 a0_1, .int .i64 a0_2], .agg #[.int .i64 a1_0, .int .i64 a1_1, .int .i64 a1_2]] rfl ?_; (with_reducible refine (laws_eqShape.calls a0_0 a0_1 a0_2 a1_0 a1_1 a1_2 false _ A3.out).mono ?_); rintro e w28 ⟨rfl, hb⟩; refine ⟨_, rfl, ?_⟩; replace HB := bel_on w hb; replace BK445 := blk_on gb445 hb; replace BK446 := blk_on gb446 hb; (try clear hb)))
   go_ret
   exact ⟨eqN, bel_now⟩

/-! ### laws_eqJob: function 42 -/
def laws_eqJob.f (k : Nat) (a0_0 : Int) (a0_1 : Int) (a0_2 : Int) (l0_3 : List (S73)) (a0_4 : Int) (a0_5 : Int) (a0_6 : Int) (a0_7 : Int) (l0_8 : List Int) (a0_9 : Int) (a1_0 : Int) (a1_1 : Int) (a1_2 : Int) (l1_3 : List (S73)) (a1_4 : Int) (a1_5 : Int) (a1_6 : Int) (a1_7 : Int) (l1_8 : List Int) (a1_9 : Int) : Option (Bool) := (laws_eqModel.f k a0_0 a0_1 a0_2 l0_3 a1_0 a1_1 a1_2 l1_3).bind fun t451 => (if t451 = true then (if a0_4 = a1_4 then ((laws_eqTensor.f k a0_5 a0_6 a0_7 l0_8 a1_5 a1_6 a1_7 l1_8).bind fun t452 => (if t452 = true then (if a0_9 = a1_9 then (some true) else (some false)) else (some false))) else (some false)) else (some false))
set_option maxHeartbeats 8000000 in
set_option maxRecDepth 100000 in
theorem laws_eqJob.calls (k : Nat) (a0_0 : Int) (a0_1 : Int) (a0_2 : Int) (A0_3 : Option Addr) (c0_3 : Nat) (l0_3 : List (S73)) (a0_4 : Int) (a0_5 : Int) (a0_6 : Int) (a0_7 : Int) (A0_8 : Option Addr) (c0_8 : Nat) (l0_8 : List Int) (a0_9 : Int) (a1_0 : Int) (a1_1 : Int) (a1_2 : Int) (A1_3 : Option Addr) (c1_3 : Nat) (l1_3 : List (S73)) (a1_4 : Int) (a1_5 : Int) (a1_6 : Int) (a1_7 : Int) (A1_8 : Option Addr) (c1_8 : Nat) (l1_8 : List Int) (a1_9 : Int) (r : Bool) (w : World) (hr0_3 : Kd.C k73 w A0_3 l0_3.length l0_3) (hc0_3 : l0_3.length ≤ c0_3) (hr0_8 : Kd.C (Kd.int .i64) w A0_8 l0_8.length l0_8) (hc0_8 : l0_8.length ≤ c0_8) (hr1_3 : Kd.C k73 w A1_3 l1_3.length l1_3) (hc1_3 : l1_3.length ≤ c1_3) (hr1_8 : Kd.C (Kd.int .i64) w A1_8 l1_8.length l1_8) (hc1_8 : l1_8.length ≤ c1_8) (h : laws_eqJob.f k a0_0 a0_1 a0_2 l0_3 a0_4 a0_5 a0_6 a0_7 l0_8 a0_9 a1_0 a1_1 a1_2 l1_3 a1_4 a1_5 a1_6 a1_7 l1_8 a1_9 = some r) :
   Calls Try.prog 42 #[.agg #[.int .i64 a0_0, .int .i64 a0_1, .int .i64 a0_2, .slice A0_3 l0_3.length c0_3, .int .i64 a0_4, .int .i64 a0_5, .int .i64 a0_6, .int .i64 a0_7, .slice A0_8 l0_8.length c0_8, .int .i64 a0_9], .agg #[.int .i64 a1_0, .int .i64 a1_1, .int .i64 a1_2, .slice A1_3 l1_3.length c1_3, .int .i64 a1_4, .int .i64 a1_5, .int .i64 a1_6, .int .i64 a1_7, .slice A1_8 l1_8.length c1_8, .int .i64 a1_9]] w fun e w' => e = .returned (.bool r) ∧ Below w.heap.size w w' := by
  have hu64 := Try.underlying64
  have hu28 := Try.underlying28
  have hu62 := Try.underlying62
  have HR0_3 := Aside0.mk hr0_3
  have HC0_3 := Aside0.mk hc0_3
  clear hr0_3 hc0_3
  have HR0_8 := Aside0.mk hr0_8
  have HC0_8 := Aside0.mk hc0_8
  clear hr0_8 hc0_8
  have HR1_3 := Aside0.mk hr1_3
  have HC1_3 := Aside0.mk hc1_3
  clear hr1_3 hc1_3
  have HR1_8 := Aside0.mk hr1_8
  have HC1_8 := Aside0.mk hc1_8
  clear hr1_8 hc1_8
  have HB := Aside0.mk (Below.refl w.heap.size w)
  have H : ((laws_eqModel.f k a0_0 a0_1 a0_2 l0_3 a1_0 a1_1 a1_2 l1_3).bind fun t451 => (if t451 = true then (if a0_4 = a1_4 then ((laws_eqTensor.f k a0_5 a0_6 a0_7 l0_8 a1_5 a1_6 a1_7 l1_8).bind fun t452 => (if t452 = true then (if a0_9 = a1_9 then (some true) else (some false)) else (some false))) else (some false)) else (some false))) = some r := h
  clear h
  replace H := Option.bind_eq_some_iff.mp H
  obtain ⟨t451, A30, H⟩ := H
  (try dsimp only at H)
  have A3 := Aside0.mk A30
  clear A30
  by_cases c4 : t451 = true
  ·subst c4
   rw [if_pos rfl] at H
   by_cases c5 : a0_4 = a1_4
   ·rw [if_pos c5] at H
    have c5b0 : (a0_4 == a1_4) = true := beq_iff_eq.mpr c5
    have c5b1 : (a0_4 != a1_4) = false := bne_eq_false_iff_eq.mpr c5
    clear c5
    replace H := Option.bind_eq_some_iff.mp H
    obtain ⟨t452, A60, H⟩ := H
    (try dsimp only at H)
    have A6 := Aside0.mk A60
    clear A60
    by_cases c7 : t452 = true
    ·subst c7
     rw [if_pos rfl] at H
     by_cases c8 : a0_9 = a1_9
     ·rw [if_pos c8] at H
      have c8b0 : (a0_9 == a1_9) = true := beq_iff_eq.mpr c8
      have c8b1 : (a0_9 != a1_9) = false := bne_eq_false_iff_eq.mpr c8
      clear c8
      obtain rfl := Option.some.inj H
      go_enter Try.func42, Try.ntmps42
      go_wp2_with (first | ((with_reducible refine gate_dst (N := 2) rfl ?_); refine boxM 2 #[.int .i64 a0_0, .int .i64 a0_1, .int .i64 a0_2, .slice A0_3 l0_3.length c0_3, .int .i64 a0_4, .int .i64 a0_5, .int .i64 a0_6, .int .i64 a0_7, .slice A0_8 l0_8.length c0_8, .int .i64 a0_9] 64 ?_; intro gb449 hg w9 BK449 hb; replace HB := box_at w hb hg; obtain ⟨HB, GW449, GE449⟩ := HB; clear hb hg) | ((with_reducible refine gate_dst (N := 3) rfl ?_); refine boxM 3 #[.int .i64 a1_0, .int .i64 a1_1, .int .i64 a1_2, .slice A1_3 l1_3.length c1_3, .int .i64 a1_4, .int .i64 a1_5, .int .i64 a1_6, .int .i64 a1_7, .slice A1_8 l1_8.length c1_8, .int .i64 a1_9] 64 ?_; intro gb450 hg w10 BK450 hb; replace HB := box_at w hb hg; obtain ⟨HB, GW450, GE450⟩ := HB; replace BK449 := box_on gb449 hb hg; obtain ⟨BK449, NB449_450, NB450_449⟩ := BK449; clear hb hg; have hnb11 := NB449_450.out; have hnc11 := NB450_449.out; obtain ⟨hcz12_0, hcz12_1, hcz12_2, hcz12_3, hcz12_4, hcz12_5, hcz12_6, hcz12_7, hcz12_8, hcz12_9, hfz12_0, hfz12_1, hfz12_2, hfz12_3, hfz12_4, hfz12_5, hfz12_6, hfz12_7, hfz12_8, hfz12_9⟩ := cells10 BK449.out; obtain ⟨hcz13_0, hcz13_1, hcz13_2, hcz13_3, hcz13_4, hcz13_5, hcz13_6, hcz13_7, hcz13_8, hcz13_9, hfz13_0, hfz13_1, hfz13_2, hfz13_3, hfz13_4, hfz13_5, hfz13_6, hfz13_7, hfz13_8, hfz13_9⟩ := cells10 BK450.out) | ((with_reducible refine gate_callee (f := 27) rfl ?_); refine goesM (some 9) rfl rfl Try.func27 (by kernel_rfl) rfl #[.agg #[.int .i64 a0_0, .int .i64 a0_1, .int .i64 a0_2, .slice A0_3 l0_3.length c0_3], .agg #[.int .i64 a1_0, .int .i64 a1_1, .int .i64 a1_2, .slice A1_3 l1_3.length c1_3]] rfl ?_; (with_reducible refine (laws_eqModel.calls k a0_0 a0_1 a0_2 _ _ l0_3 a1_0 a1_1 a1_2 _ _ l1_3 true _ ?side1 ?side2 ?side3 ?side4 A3.out).mono ?_); (case side1 => exact C_now HR0_3.out); (case side2 => exact HC0_3.out); (case side3 => exact C_now HR1_3.out); (case side4 => exact HC1_3.out); rintro e w14 ⟨rfl, hb⟩; refine ⟨_, rfl, ?_⟩; replace HB := bel_on w hb; replace BK449 := blk_on gb449 hb; replace BK450 := blk_on gb450 hb; (try clear hb); obtain ⟨hcz15_0, hcz15_1, hcz15_2, hcz15_3, hcz15_4, hcz15_5, hcz15_6, hcz15_7, hcz15_8, hcz15_9, hfz15_0, hfz15_1, hfz15_2, hfz15_3, hfz15_4, hfz15_5, hfz15_6, hfz15_7, hfz15_8, hfz15_9⟩ := cells10 BK449.out; obtain ⟨hcz16_0, hcz16_1, hcz16_2, hcz16_3, hcz16_4, hcz16_5, hcz16_6, hcz16_7, hcz16_8, hcz16_9, hfz16_0, hfz16_1, hfz16_2, hfz16_3, hfz16_4, hfz16_5, hfz16_6, hfz16_7, hfz16_8, hfz16_9⟩ := cells10 BK450.out) | ((with_reducible refine gate_callee (f := 85) rfl ?_); refine goesM (some 20) rfl rfl Try.func85 (by kernel_rfl) rfl #[.agg #[.int .i64 a0_5, .int .i64 a0_6, .int .i64 a0_7, .slice A0_8 l0_8.length c0_8], .agg #[.int .i64 a1_5, .int .i64 a1_6, .int .i64 a1_7, .slice A1_8 l1_8.length c1_8]] rfl ?_; (with_reducible refine (laws_eqTensor.calls k a0_5 a0_6 a0_7 _ _ l0_8 a1_5 a1_6 a1_7 _ _ l1_8 true _ ?side1 ?side2 ?side3 ?side4 A6.out).mono ?_); (case side1 => exact C_now HR0_8.out); (case side2 => exact HC0_8.out); (case side3 => exact C_now HR1_8.out); (case side4 => exact HC1_8.out); rintro e w17 ⟨rfl, hb⟩; refine ⟨_, rfl, ?_⟩; replace HB := bel_on w hb; replace BK449 := blk_on gb449 hb; replace BK450 := blk_on gb450 hb; (try clear hb); obtain ⟨hcz18_0, hcz18_1, hcz18_2, hcz18_3, hcz18_4, hcz18_5, hcz18_6, hcz18_7, hcz18_8, hcz18_9, hfz18_0, hfz18_1, hfz18_2, hfz18_3, hfz18_4, hfz18_5, hfz18_6, hfz18_7, hfz18_8, hfz18_9⟩ := cells10 BK449.out; obtain ⟨hcz19_0, hcz19_1, hcz19_2, hcz19_3, hcz19_4, hcz19_5, hcz19_6, hcz19_7, hcz19_8, hcz19_9, hfz19_0, hfz19_1, hfz19_2, hfz19_3, hfz19_4, hfz19_5, hfz19_6, hfz19_7, hfz19_8, hfz19_9⟩ := cells10 BK450.out))
      go_ret
      exact ⟨eqN, bel_now⟩
     ·rw [if_neg c8] at H
      have c8b0 : (a0_9 == a1_9) = false := beq_eq_false_iff_ne.mpr c8
      have c8b1 : (a0_9 != a1_9) = true := bne_iff_ne.mpr c8
      obtain rfl := Option.some.inj H
      go_enter Try.func42, Try.ntmps42
      go_wp2_with (first | ((with_reducible refine gate_dst (N := 2) rfl ?_); refine boxM 2 #[.int .i64 a0_0, .int .i64 a0_1, .int .i64 a0_2, .slice A0_3 l0_3.length c0_3, .int .i64 a0_4, .int .i64 a0_5, .int .i64 a0_6, .int .i64 a0_7, .slice A0_8 l0_8.length c0_8, .int .i64 a0_9] 64 ?_; intro gb449 hg w20 BK449 hb; replace HB := box_at w hb hg; obtain ⟨HB, GW449, GE449⟩ := HB; clear hb hg) | ((with_reducible refine gate_dst (N := 3) rfl ?_); refine boxM 3 #[.int .i64 a1_0, .int .i64 a1_1, .int .i64 a1_2, .slice A1_3 l1_3.length c1_3, .int .i64 a1_4, .int .i64 a1_5, .int .i64 a1_6, .int .i64 a1_7, .slice A1_8 l1_8.length c1_8, .int .i64 a1_9] 64 ?_; intro gb450 hg w21 BK450 hb; replace HB := box_at w hb hg; obtain ⟨HB, GW450, GE450⟩ := HB; replace BK449 := box_on gb449 hb hg; obtain ⟨BK449, NB449_450, NB450_449⟩ := BK449; clear hb hg; have hnb22 := NB449_450.out; have hnc22 := NB450_449.out; obtain ⟨hcz23_0, hcz23_1, hcz23_2, hcz23_3, hcz23_4, hcz23_5, hcz23_6, hcz23_7, hcz23_8, hcz23_9, hfz23_0, hfz23_1, hfz23_2, hfz23_3, hfz23_4, hfz23_5, hfz23_6, hfz23_7, hfz23_8, hfz23_9⟩ := cells10 BK449.out; obtain ⟨hcz24_0, hcz24_1, hcz24_2, hcz24_3, hcz24_4, hcz24_5, hcz24_6, hcz24_7, hcz24_8, hcz24_9, hfz24_0, hfz24_1, hfz24_2, hfz24_3, hfz24_4, hfz24_5, hfz24_6, hfz24_7, hfz24_8, hfz24_9⟩ := cells10 BK450.out) | ((with_reducible refine gate_callee (f := 27) rfl ?_); refine goesM (some 9) rfl rfl Try.func27 (by kernel_rfl) rfl #[.agg #[.int .i64 a0_0, .int .i64 a0_1, .int .i64 a0_2, .slice A0_3 l0_3.length c0_3], .agg #[.int .i64 a1_0, .int .i64 a1_1, .int .i64 a1_2, .slice A1_3 l1_3.length c1_3]] rfl ?_; (with_reducible refine (laws_eqModel.calls k a0_0 a0_1 a0_2 _ _ l0_3 a1_0 a1_1 a1_2 _ _ l1_3 true _ ?side1 ?side2 ?side3 ?side4 A3.out).mono ?_); (case side1 => exact C_now HR0_3.out); (case side2 => exact HC0_3.out); (case side3 => exact C_now HR1_3.out); (case side4 => exact HC1_3.out); rintro e w25 ⟨rfl, hb⟩; refine ⟨_, rfl, ?_⟩; replace HB := bel_on w hb; replace BK449 := blk_on gb449 hb; replace BK450 := blk_on gb450 hb; (try clear hb); obtain ⟨hcz26_0, hcz26_1, hcz26_2, hcz26_3, hcz26_4, hcz26_5, hcz26_6, hcz26_7, hcz26_8, hcz26_9, hfz26_0, hfz26_1, hfz26_2, hfz26_3, hfz26_4, hfz26_5, hfz26_6, hfz26_7, hfz26_8, hfz26_9⟩ := cells10 BK449.out; obtain ⟨hcz27_0, hcz27_1, hcz27_2, hcz27_3, hcz27_4, hcz27_5, hcz27_6, hcz27_7, hcz27_8, hcz27_9, hfz27_0, hfz27_1, hfz27_2, hfz27_3, hfz27_4, hfz27_5, hfz27_6, hfz27_7, hfz27_8, hfz27_9⟩ := cells10 BK450.out) | ((with_reducible refine gate_callee (f := 85) rfl ?_); refine goesM (some 20) rfl rfl Try.func85 (by kernel_rfl) rfl #[.agg #[.int .i64 a0_5, .int .i64 a0_6, .int .i64 a0_7, .slice A0_8 l0_8.length c0_8], .agg #[.int .i64 a1_5, .int .i64 a1_6, .int .i64 a1_7, .slice A1_8 l1_8.length c1_8]] rfl ?_; (with_reducible refine (laws_eqTensor.calls k a0_5 a0_6 a0_7 _ _ l0_8 a1_5 a1_6 a1_7 _ _ l1_8 true _ ?side1 ?side2 ?side3 ?side4 A6.out).mono ?_); (case side1 => exact C_now HR0_8.out); (case side2 => exact HC0_8.out); (case side3 => exact C_now HR1_8.out); (case side4 => exact HC1_8.out); rintro e w28 ⟨rfl, hb⟩; refine ⟨_, rfl, ?_⟩; replace HB := bel_on w hb; replace BK449 := blk_on gb449 hb; replace BK450 := blk_on gb450 hb; (try clear hb); obtain ⟨hcz29_0, hcz29_1, hcz29_2, hcz29_3, hcz29_4, hcz29_5, hcz29_6, hcz29_7, hcz29_8, hcz29_9, hfz29_0, hfz29_1, hfz29_2, hfz29_3, hfz29_4, hfz29_5, hfz29_6, hfz29_7, hfz29_8, hfz29_9⟩ := cells10 BK449.out; obtain ⟨hcz30_0, hcz30_1, hcz30_2, hcz30_3, hcz30_4, hcz30_5, hcz30_6, hcz30_7, hcz30_8, hcz30_9, hfz30_0, hfz30_1, hfz30_2, hfz30_3, hfz30_4, hfz30_5, hfz30_6, hfz30_7, hfz30_8, hfz30_9⟩ := cells10 BK450.out))
      go_ret
      exact ⟨eqN, bel_now⟩
    ·replace c7 := Bool.eq_false_iff.mpr c7
     subst c7
     rw [if_neg (show ¬ (false = true) by decide)] at H
     obtain rfl := Option.some.inj H
     go_enter Try.func42, Try.ntmps42
     go_wp2_with (first | ((with_reducible refine gate_dst (N := 2) rfl ?_); refine boxM 2 #[.int .i64 a0_0, .int .i64 a0_1, .int .i64 a0_2, .slice A0_3 l0_3.length c0_3, .int .i64 a0_4, .int .i64 a0_5, .int .i64 a0_6, .int .i64 a0_7, .slice A0_8 l0_8.length c0_8, .int .i64 a0_9] 64 ?_; intro gb449 hg w31 BK449 hb; replace HB := box_at w hb hg; obtain ⟨HB, GW449, GE449⟩ := HB; clear hb hg) | ((with_reducible refine gate_dst (N := 3) rfl ?_); refine boxM 3 #[.int .i64 a1_0, .int .i64 a1_1, .int .i64 a1_2, .slice A1_3 l1_3.length c1_3, .int .i64 a1_4, .int .i64 a1_5, .int .i64 a1_6, .int .i64 a1_7, .slice A1_8 l1_8.length c1_8, .int .i64 a1_9] 64 ?_; intro gb450 hg w32 BK450 hb; replace HB := box_at w hb hg; obtain ⟨HB, GW450, GE450⟩ := HB; replace BK449 := box_on gb449 hb hg; obtain ⟨BK449, NB449_450, NB450_449⟩ := BK449; clear hb hg; have hnb33 := NB449_450.out; have hnc33 := NB450_449.out; obtain ⟨hcz34_0, hcz34_1, hcz34_2, hcz34_3, hcz34_4, hcz34_5, hcz34_6, hcz34_7, hcz34_8, hcz34_9, hfz34_0, hfz34_1, hfz34_2, hfz34_3, hfz34_4, hfz34_5, hfz34_6, hfz34_7, hfz34_8, hfz34_9⟩ := cells10 BK449.out; obtain ⟨hcz35_0, hcz35_1, hcz35_2, hcz35_3, hcz35_4, hcz35_5, hcz35_6, hcz35_7, hcz35_8, hcz35_9, hfz35_0, hfz35_1, hfz35_2, hfz35_3, hfz35_4, hfz35_5, hfz35_6, hfz35_7, hfz35_8, hfz35_9⟩ := cells10 BK450.out) | ((with_reducible refine gate_callee (f := 27) rfl ?_); refine goesM (some 9) rfl rfl Try.func27 (by kernel_rfl) rfl #[.agg #[.int .i64 a0_0, .int .i64 a0_1, .int .i64 a0_2, .slice A0_3 l0_3.length c0_3], .agg #[.int .i64 a1_0, .int .i64 a1_1, .int .i64 a1_2, .slice A1_3 l1_3.length c1_3]] rfl ?_; (with_reducible refine (laws_eqModel.calls k a0_0 a0_1 a0_2 _ _ l0_3 a1_0 a1_1 a1_2 _ _ l1_3 true _ ?side1 ?side2 ?side3 ?side4 A3.out).mono ?_); (case side1 => exact C_now HR0_3.out); (case side2 => exact HC0_3.out); (case side3 => exact C_now HR1_3.out); (case side4 => exact HC1_3.out); rintro e w36 ⟨rfl, hb⟩; refine ⟨_, rfl, ?_⟩; replace HB := bel_on w hb; replace BK449 := blk_on gb449 hb; replace BK450 := blk_on gb450 hb; (try clear hb); obtain ⟨hcz37_0, hcz37_1, hcz37_2, hcz37_3, hcz37_4, hcz37_5, hcz37_6, hcz37_7, hcz37_8, hcz37_9, hfz37_0, hfz37_1, hfz37_2, hfz37_3, hfz37_4, hfz37_5, hfz37_6, hfz37_7, hfz37_8, hfz37_9⟩ := cells10 BK449.out; obtain ⟨hcz38_0, hcz38_1, hcz38_2, hcz38_3, hcz38_4, hcz38_5, hcz38_6, hcz38_7, hcz38_8, hcz38_9, hfz38_0, hfz38_1, hfz38_2, hfz38_3, hfz38_4, hfz38_5, hfz38_6, hfz38_7, hfz38_8, hfz38_9⟩ := cells10 BK450.out) | ((with_reducible refine gate_callee (f := 85) rfl ?_); refine goesM (some 20) rfl rfl Try.func85 (by kernel_rfl) rfl #[.agg #[.int .i64 a0_5, .int .i64 a0_6, .int .i64 a0_7, .slice A0_8 l0_8.length c0_8], .agg #[.int .i64 a1_5, .int .i64 a1_6, .int .i64 a1_7, .slice A1_8 l1_8.length c1_8]] rfl ?_; (with_reducible refine (laws_eqTensor.calls k a0_5 a0_6 a0_7 _ _ l0_8 a1_5 a1_6 a1_7 _ _ l1_8 false _ ?side1 ?side2 ?side3 ?side4 A6.out).mono ?_); (case side1 => exact C_now HR0_8.out); (case side2 => exact HC0_8.out); (case side3 => exact C_now HR1_8.out); (case side4 => exact HC1_8.out); rintro e w39 ⟨rfl, hb⟩; refine ⟨_, rfl, ?_⟩; replace HB := bel_on w hb; replace BK449 := blk_on gb449 hb; replace BK450 := blk_on gb450 hb; (try clear hb)))
     go_ret
     exact ⟨eqN, bel_now⟩
   ·rw [if_neg c5] at H
    have c5b0 : (a0_4 == a1_4) = false := beq_eq_false_iff_ne.mpr c5
    have c5b1 : (a0_4 != a1_4) = true := bne_iff_ne.mpr c5
    obtain rfl := Option.some.inj H
    go_enter Try.func42, Try.ntmps42
    go_wp2_with (first | ((with_reducible refine gate_dst (N := 2) rfl ?_); refine boxM 2 #[.int .i64 a0_0, .int .i64 a0_1, .int .i64 a0_2, .slice A0_3 l0_3.length c0_3, .int .i64 a0_4, .int .i64 a0_5, .int .i64 a0_6, .int .i64 a0_7, .slice A0_8 l0_8.length c0_8, .int .i64 a0_9] 64 ?_; intro gb449 hg w40 BK449 hb; replace HB := box_at w hb hg; obtain ⟨HB, GW449, GE449⟩ := HB; clear hb hg) | ((with_reducible refine gate_dst (N := 3) rfl ?_); refine boxM 3 #[.int .i64 a1_0, .int .i64 a1_1, .int .i64 a1_2, .slice A1_3 l1_3.length c1_3, .int .i64 a1_4, .int .i64 a1_5, .int .i64 a1_6, .int .i64 a1_7, .slice A1_8 l1_8.length c1_8, .int .i64 a1_9] 64 ?_; intro gb450 hg w41 BK450 hb; replace HB := box_at w hb hg; obtain ⟨HB, GW450, GE450⟩ := HB; replace BK449 := box_on gb449 hb hg; obtain ⟨BK449, NB449_450, NB450_449⟩ := BK449; clear hb hg; have hnb42 := NB449_450.out; have hnc42 := NB450_449.out; obtain ⟨hcz43_0, hcz43_1, hcz43_2, hcz43_3, hcz43_4, hcz43_5, hcz43_6, hcz43_7, hcz43_8, hcz43_9, hfz43_0, hfz43_1, hfz43_2, hfz43_3, hfz43_4, hfz43_5, hfz43_6, hfz43_7, hfz43_8, hfz43_9⟩ := cells10 BK449.out; obtain ⟨hcz44_0, hcz44_1, hcz44_2, hcz44_3, hcz44_4, hcz44_5, hcz44_6, hcz44_7, hcz44_8, hcz44_9, hfz44_0, hfz44_1, hfz44_2, hfz44_3, hfz44_4, hfz44_5, hfz44_6, hfz44_7, hfz44_8, hfz44_9⟩ := cells10 BK450.out) | ((with_reducible refine gate_callee (f := 27) rfl ?_); refine goesM (some 9) rfl rfl Try.func27 (by kernel_rfl) rfl #[.agg #[.int .i64 a0_0, .int .i64 a0_1, .int .i64 a0_2, .slice A0_3 l0_3.length c0_3], .agg #[.int .i64 a1_0, .int .i64 a1_1, .int .i64 a1_2, .slice A1_3 l1_3.length c1_3]] rfl ?_; (with_reducible refine (laws_eqModel.calls k a0_0 a0_1 a0_2 _ _ l0_3 a1_0 a1_1 a1_2 _ _ l1_3 true _ ?side1 ?side2 ?side3 ?side4 A3.out).mono ?_); (case side1 => exact C_now HR0_3.out); (case side2 => exact HC0_3.out); (case side3 => exact C_now HR1_3.out); (case side4 => exact HC1_3.out); rintro e w45 ⟨rfl, hb⟩; refine ⟨_, rfl, ?_⟩; replace HB := bel_on w hb; replace BK449 := blk_on gb449 hb; replace BK450 := blk_on gb450 hb; (try clear hb); obtain ⟨hcz46_0, hcz46_1, hcz46_2, hcz46_3, hcz46_4, hcz46_5, hcz46_6, hcz46_7, hcz46_8, hcz46_9, hfz46_0, hfz46_1, hfz46_2, hfz46_3, hfz46_4, hfz46_5, hfz46_6, hfz46_7, hfz46_8, hfz46_9⟩ := cells10 BK449.out; obtain ⟨hcz47_0, hcz47_1, hcz47_2, hcz47_3, hcz47_4, hcz47_5, hcz47_6, hcz47_7, hcz47_8, hcz47_9, hfz47_0, hfz47_1, hfz47_2, hfz47_3, hfz47_4, hfz47_5, hfz47_6, hfz47_7, hfz47_8, hfz47_9⟩ := cells10 BK450.out))
    go_ret
    exact ⟨eqN, bel_now⟩
  ·replace c4 := Bool.eq_false_iff.mpr c4
   subst c4
   rw [if_neg (show ¬ (false = true) by decide)] at H
   obtain rfl := Option.some.inj H
   go_enter Try.func42, Try.ntmps42
   go_wp2_with (first | ((with_reducible refine gate_dst (N := 2) rfl ?_); refine boxM 2 #[.int .i64 a0_0, .int .i64 a0_1, .int .i64 a0_2, .slice A0_3 l0_3.length c0_3, .int .i64 a0_4, .int .i64 a0_5, .int .i64 a0_6, .int .i64 a0_7, .slice A0_8 l0_8.length c0_8, .int .i64 a0_9] 64 ?_; intro gb449 hg w48 BK449 hb; replace HB := box_at w hb hg; obtain ⟨HB, GW449, GE449⟩ := HB; clear hb hg) | ((with_reducible refine gate_dst (N := 3) rfl ?_); refine boxM 3 #[.int .i64 a1_0, .int .i64 a1_1, .int .i64 a1_2, .slice A1_3 l1_3.length c1_3, .int .i64 a1_4, .int .i64 a1_5, .int .i64 a1_6, .int .i64 a1_7, .slice A1_8 l1_8.length c1_8, .int .i64 a1_9] 64 ?_; intro gb450 hg w49 BK450 hb; replace HB := box_at w hb hg; obtain ⟨HB, GW450, GE450⟩ := HB; replace BK449 := box_on gb449 hb hg; obtain ⟨BK449, NB449_450, NB450_449⟩ := BK449; clear hb hg; have hnb50 := NB449_450.out; have hnc50 := NB450_449.out; obtain ⟨hcz51_0, hcz51_1, hcz51_2, hcz51_3, hcz51_4, hcz51_5, hcz51_6, hcz51_7, hcz51_8, hcz51_9, hfz51_0, hfz51_1, hfz51_2, hfz51_3, hfz51_4, hfz51_5, hfz51_6, hfz51_7, hfz51_8, hfz51_9⟩ := cells10 BK449.out; obtain ⟨hcz52_0, hcz52_1, hcz52_2, hcz52_3, hcz52_4, hcz52_5, hcz52_6, hcz52_7, hcz52_8, hcz52_9, hfz52_0, hfz52_1, hfz52_2, hfz52_3, hfz52_4, hfz52_5, hfz52_6, hfz52_7, hfz52_8, hfz52_9⟩ := cells10 BK450.out) | ((with_reducible refine gate_callee (f := 27) rfl ?_); refine goesM (some 9) rfl rfl Try.func27 (by kernel_rfl) rfl #[.agg #[.int .i64 a0_0, .int .i64 a0_1, .int .i64 a0_2, .slice A0_3 l0_3.length c0_3], .agg #[.int .i64 a1_0, .int .i64 a1_1, .int .i64 a1_2, .slice A1_3 l1_3.length c1_3]] rfl ?_; (with_reducible refine (laws_eqModel.calls k a0_0 a0_1 a0_2 _ _ l0_3 a1_0 a1_1 a1_2 _ _ l1_3 false _ ?side1 ?side2 ?side3 ?side4 A3.out).mono ?_); (case side1 => exact C_now HR0_3.out); (case side2 => exact HC0_3.out); (case side3 => exact C_now HR1_3.out); (case side4 => exact HC1_3.out); rintro e w53 ⟨rfl, hb⟩; refine ⟨_, rfl, ?_⟩; replace HB := bel_on w hb; replace BK449 := blk_on gb449 hb; replace BK450 := blk_on gb450 hb; (try clear hb)))
   go_ret
   exact ⟨eqN, bel_now⟩

end Go.Proofs.Ytljdcemdhmaahaa.PFnExactNextCost
