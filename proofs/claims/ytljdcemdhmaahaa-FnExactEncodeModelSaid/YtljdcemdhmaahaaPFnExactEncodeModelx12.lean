-- Printed by the session's own program (wip/myprint.py) for this claim out of the translation. Not trusted: Lean checks it.
import Derived.Test.YtljdcemdhmaahaaPFnExactEncodeModelx0
import Derived.Test.YtljdcemdhmaahaaPFnExactEncodeModelx11
namespace Go.Proofs.Ytljdcemdhmaahaa.PFnExactEncodeModel
open Go.RowKit Go.Proofs.YtljdcemdhmaahaaW.PrintWords Go.Proofs.YtljdcemdhmaahaaW.PrintLast Go.Proofs.YtljdcemdhmaahaaW.PrintMore
attribute [local go_sem] max2_int min2_int max_two min_two max_three min_three max_four min_four   -- for this text's walks alone
set_option linter.unusedVariables false
set_option linter.unusedSimpArgs false

/-! ### laws_eqLayerS: function 72 -/
def laws_eqLayerS.l0 : Nat → List (S73) → List (S73) → Int → Option (Bool)
  | 0, _, _, _ => none
  | k + 1, x0, x1, x5 => if x5 < (x0.length : Int) then (if 0 ≤ x5 then (if x5 < (x1.length : Int) then ((laws_eqLayer.f k ((rd_T73 x0 x5).f0) ((rd_T73 x0 x5).f1) ((rd_T73 x0 x5).f2) ((rd_T73 x0 x5).f3) ((rd_T73 x0 x5).f4) ((rd_T73 x0 x5).f5) ((rd_T73 x0 x5).f6) ((rd_T73 x0 x5).f7) ((rd_T73 x0 x5).f8) ((rd_T73 x1 x5).f0) ((rd_T73 x1 x5).f1) ((rd_T73 x1 x5).f2) ((rd_T73 x1 x5).f3) ((rd_T73 x1 x5).f4) ((rd_T73 x1 x5).f5) ((rd_T73 x1 x5).f6) ((rd_T73 x1 x5).f7) ((rd_T73 x1 x5).f8)).bind fun t370 => (if t370 = true then (laws_eqLayerS.l0 k x0 x1 (wrap64 (x5 + 1))) else (some false))) else (none)) else (none)) else (some true)
def laws_eqLayerS.f (k : Nat) (l0 : List (S73)) (l1 : List (S73)) : Option (Bool) := if (l0.length : Int) = (l1.length : Int) then (laws_eqLayerS.l0 k l0 l1 0) else (some false)
def laws_eqLayerS.T6 : Bool × List (List Nat × List Nat) := (true, [([], []), ([], []), ([0, 1], [0, 1]), ([2], [2]), ([], []), ([], []), ([4, 5], [4, 5]), ([6], [6]), ([3, 7], [3, 7]), ([8], [8])])
def laws_eqLayerS.B6 : List Nat := [0, 0, 3, 7, 0, 0, 48, 112, 255, 511]
theorem laws_eqLayerS.tab6 : rtab .any (opsOf Try.f72 6) = laws_eqLayerS.T6 := by kernel_rfl
theorem laws_eqLayerS.bits6 : waitsOk laws_eqLayerS.T6.2 laws_eqLayerS.B6 = true := by kernel_rfl
set_option maxHeartbeats 8000000 in
set_option maxRecDepth 100000 in
theorem laws_eqLayerS.calls (k : Nat) (A0 : Option Addr) (c0 : Nat) (l0 : List (S73)) (A1 : Option Addr) (c1 : Nat) (l1 : List (S73)) (r : Bool) (w : World) (hr0 : Kd.C k73 w A0 l0.length l0) (hc0 : l0.length ≤ c0) (hr1 : Kd.C k73 w A1 l1.length l1) (hc1 : l1.length ≤ c1) (h : laws_eqLayerS.f k l0 l1 = some r) :
   Calls Try.prog 72 #[.slice A0 l0.length c0, .slice A1 l1.length c1] w fun e w' => e = .returned (.bool r) ∧ Below w.heap.size w w' := by
  have hu73 := Try.underlying73
  have HR0 := Aside0.mk hr0
  have HC0 := Aside0.mk hc0
  clear hr0 hc0
  have HR1 := Aside0.mk hr1
  have HC1 := Aside0.mk hc1
  clear hr1 hc1
  have HB := Aside0.mk (Below.refl w.heap.size w)
  have H : (if (l0.length : Int) = (l1.length : Int) then (laws_eqLayerS.l0 k l0 l1 0) else (some false)) = some r := h
  clear h
  by_cases c3 : (l0.length : Int) = (l1.length : Int)
  rotate_left
  ·rw [if_neg c3] at H
   have c3b0 : ((l0.length : Int) == (l1.length : Int)) = false := beq_eq_false_iff_ne.mpr c3
   have c3b1 : ((l0.length : Int) != (l1.length : Int)) = true := bne_iff_ne.mpr c3
   have c3b2 : (l0.length == l1.length) = false := by first | simpa using c3 | (simp at c3 ⊢; omega)
   obtain rfl := Option.some.inj H
   go_enter Try.func72, Try.ntmps72
   go_wp2
   go_ret
   exact ⟨eqN, bel_now⟩
  rw [if_pos c3] at H
  have c3b0 : ((l0.length : Int) == (l1.length : Int)) = true := beq_iff_eq.mpr c3
  have c3b1 : ((l0.length : Int) != (l1.length : Int)) = false := bne_eq_false_iff_eq.mpr c3
  have c3b2 : (l0.length == l1.length) = true := by first | simpa using c3 | (simp at c3 ⊢; omega)
  clear c3
  have H' := Aside0.mk H
  clear H
  go_enter Try.func72, Try.ntmps72
  go_wp2
  go_loopg [5] k (fun kq v5 w' => ∃ (x5_1 : Int), v5 = .int .i64 x5_1 ∧ Aside0 (laws_eqLayerS.l0 kq l0 l1 x5_1 = some r) ∧ Aside0 (kq ≤ k) ∧ Aside0 (Below w.heap.size w w'))
  case atStart => exact ⟨(0), (by first | rfl | (simp; done) | (simp [*]; done)), H', ⟨Nat.le_refl _⟩, ⟨bel_now⟩⟩
  case round =>
   clear H'
   try clear c1
   try clear p2
   try clear c3
   try clear c3b0
   try clear c3b1
   try clear c3b2
   obtain ⟨x5_1, rfl, HA, HK1, HB⟩ := hrel
   cases gk with
   | zero => exact absurd HA.out (by simp [laws_eqLayerS.l0])
   | succ k1 =>
    have H := HA.out
    clear HA
    simp only [laws_eqLayerS.l0] at H
    by_cases c4 : x5_1 < (l0.length : Int)
    rotate_left
    ·rw [if_neg c4] at H
     have c4b0 : decide (x5_1 < (l0.length : Int)) = false := decide_eq_false c4
     clear c4
     obtain rfl := Option.some.inj H
     go_wp2
     go_ret
     exact ⟨eqN, bel_now⟩
    rw [if_pos c4] at H
    have c4b0 : decide (x5_1 < (l0.length : Int)) = true := decide_eq_true c4
    clear c4
    by_cases c5 : 0 ≤ x5_1
    rotate_left
    ·rw [if_neg c5] at H
     exact absurd H (by simp)
    rw [if_pos c5] at H
    have c5b0 : decide (0 ≤ x5_1) = true := decide_eq_true c5
    clear c5
    by_cases c6 : x5_1 < (l1.length : Int)
    rotate_left
    ·rw [if_neg c6] at H
     exact absurd H (by simp)
    rw [if_pos c6] at H
    have c6b0 : decide (x5_1 < (l1.length : Int)) = true := decide_eq_true c6
    clear c6
    replace H := Option.bind_eq_some_iff.mp H
    obtain ⟨t370, A70, H⟩ := H
    (try dsimp only at H)
    have A7 := Aside0.mk A70
    clear A70
    by_cases c8 : t370 = true
    rotate_left
    ·replace c8 := Bool.eq_false_iff.mpr c8
     subst c8
     rw [if_neg (show ¬ (false = true) by decide)] at H
     obtain rfl := Option.some.inj H
     try go_wp2
     replace HB := Aside0.mk (below_drew1 HB.out)
     have p368 : 0 ≤ (x5_1 : Int) := of_decide_eq_true (by first | (with_reducible assumption) | assumption)
     have q368 : x5_1 < (l0.length : Int) := of_decide_eq_true (by first | (with_reducible assumption) | assumption)
     obtain ⟨ad368, A368_7, c368_7, A368_8, c368_8, e368, hx368_0, hx368_1, hx368_2, hx368_3, hx368_4, hx368_5, hx368_6, hx368_7, hx368_8, hl368_7, hi368_7, hl368_8, hi368_8⟩ := at_T73 HR0.out x5_1 p368 q368
     have hw368_8 := hx368_8
     have hw368_7 := hx368_7
     have hw368_6 := hx368_6
     have hw368_5 := hx368_5
     have hw368_4 := hx368_4
     have hw368_3 := hx368_3
     have hw368_2 := hx368_2
     have hw368_1 := hx368_1
     have hw368_0 := hx368_0
     cases e368
     replace hx368_0 := (HB.out.cell (World.block_lt_of_cell? w _ hx368_0)).trans hx368_0
     replace hx368_1 := (HB.out.cell (World.block_lt_of_cell? w _ hx368_1)).trans hx368_1
     replace hx368_2 := (HB.out.cell (World.block_lt_of_cell? w _ hx368_2)).trans hx368_2
     replace hx368_3 := (HB.out.cell (World.block_lt_of_cell? w _ hx368_3)).trans hx368_3
     replace hx368_4 := (HB.out.cell (World.block_lt_of_cell? w _ hx368_4)).trans hx368_4
     replace hx368_5 := (HB.out.cell (World.block_lt_of_cell? w _ hx368_5)).trans hx368_5
     replace hx368_6 := (HB.out.cell (World.block_lt_of_cell? w _ hx368_6)).trans hx368_6
     replace hx368_7 := (HB.out.cell (World.block_lt_of_cell? w _ hx368_7)).trans hx368_7
     replace hx368_8 := (HB.out.cell (World.block_lt_of_cell? w _ hx368_8)).trans hx368_8
     have HR368_7 := Aside0.mk hi368_7
     have HC368_7 := Aside0.mk hl368_7
     clear hi368_7 hl368_7
     have HR368_8 := Aside0.mk hi368_8
     have HC368_8 := Aside0.mk hl368_8
     clear hi368_8 hl368_8
     replace p368 := eq_true p368
     replace q368 := eq_true q368
     have p369 : 0 ≤ (x5_1 : Int) := of_decide_eq_true (by first | (with_reducible assumption) | assumption)
     have q369 : x5_1 < (l1.length : Int) := of_decide_eq_true (by first | (with_reducible assumption) | assumption)
     obtain ⟨ad369, A369_7, c369_7, A369_8, c369_8, e369, hx369_0, hx369_1, hx369_2, hx369_3, hx369_4, hx369_5, hx369_6, hx369_7, hx369_8, hl369_7, hi369_7, hl369_8, hi369_8⟩ := at_T73 HR1.out x5_1 p369 q369
     have hw369_8 := hx369_8
     have hw369_7 := hx369_7
     have hw369_6 := hx369_6
     have hw369_5 := hx369_5
     have hw369_4 := hx369_4
     have hw369_3 := hx369_3
     have hw369_2 := hx369_2
     have hw369_1 := hx369_1
     have hw369_0 := hx369_0
     cases e369
     replace hx369_0 := (HB.out.cell (World.block_lt_of_cell? w _ hx369_0)).trans hx369_0
     replace hx369_1 := (HB.out.cell (World.block_lt_of_cell? w _ hx369_1)).trans hx369_1
     replace hx369_2 := (HB.out.cell (World.block_lt_of_cell? w _ hx369_2)).trans hx369_2
     replace hx369_3 := (HB.out.cell (World.block_lt_of_cell? w _ hx369_3)).trans hx369_3
     replace hx369_4 := (HB.out.cell (World.block_lt_of_cell? w _ hx369_4)).trans hx369_4
     replace hx369_5 := (HB.out.cell (World.block_lt_of_cell? w _ hx369_5)).trans hx369_5
     replace hx369_6 := (HB.out.cell (World.block_lt_of_cell? w _ hx369_6)).trans hx369_6
     replace hx369_7 := (HB.out.cell (World.block_lt_of_cell? w _ hx369_7)).trans hx369_7
     replace hx369_8 := (HB.out.cell (World.block_lt_of_cell? w _ hx369_8)).trans hx369_8
     have HR369_7 := Aside0.mk hi369_7
     have HC369_7 := Aside0.mk hl369_7
     clear hi369_7 hl369_7
     have HR369_8 := Aside0.mk hi369_8
     have HC369_8 := Aside0.mk hl369_8
     clear hi369_8 hl369_8
     replace p369 := eq_true p369
     replace q369 := eq_true q369
     refine start_ (n := 10) (S := fun w' => w'.cell? (ad368.add ((x5_1).toNat * 9)) = some (.int .i64 ((rd_T73 l0 x5_1).f0)) ∧ w'.cell? ⟨(ad368.add ((x5_1).toNat * 9)).block, (ad368.add ((x5_1).toNat * 9)).off + 1, none⟩ = some (.int .i64 ((rd_T73 l0 x5_1).f1)) ∧ w'.cell? ⟨(ad368.add ((x5_1).toNat * 9)).block, (ad368.add ((x5_1).toNat * 9)).off + 2, none⟩ = some (.int .i64 ((rd_T73 l0 x5_1).f2)) ∧ w'.cell? ⟨(ad368.add ((x5_1).toNat * 9)).block, (ad368.add ((x5_1).toNat * 9)).off + 3, none⟩ = some (.int .i64 ((rd_T73 l0 x5_1).f3)) ∧ w'.cell? ⟨(ad368.add ((x5_1).toNat * 9)).block, (ad368.add ((x5_1).toNat * 9)).off + 4, none⟩ = some (.int .i64 ((rd_T73 l0 x5_1).f4)) ∧ w'.cell? ⟨(ad368.add ((x5_1).toNat * 9)).block, (ad368.add ((x5_1).toNat * 9)).off + 5, none⟩ = some (.int .i64 ((rd_T73 l0 x5_1).f5)) ∧ w'.cell? ⟨(ad368.add ((x5_1).toNat * 9)).block, (ad368.add ((x5_1).toNat * 9)).off + 6, none⟩ = some (.int .i64 ((rd_T73 l0 x5_1).f6)) ∧ w'.cell? ⟨(ad368.add ((x5_1).toNat * 9)).block, (ad368.add ((x5_1).toNat * 9)).off + 7, none⟩ = some (.slice A368_7 ((rd_T73 l0 x5_1).f7).length c368_7) ∧ w'.cell? ⟨(ad368.add ((x5_1).toNat * 9)).block, (ad368.add ((x5_1).toNat * 9)).off + 8, none⟩ = some (.slice A368_8 ((rd_T73 l0 x5_1).f8).length c368_8) ∧ w'.cell? (ad369.add ((x5_1).toNat * 9)) = some (.int .i64 ((rd_T73 l1 x5_1).f0)) ∧ w'.cell? ⟨(ad369.add ((x5_1).toNat * 9)).block, (ad369.add ((x5_1).toNat * 9)).off + 1, none⟩ = some (.int .i64 ((rd_T73 l1 x5_1).f1)) ∧ w'.cell? ⟨(ad369.add ((x5_1).toNat * 9)).block, (ad369.add ((x5_1).toNat * 9)).off + 2, none⟩ = some (.int .i64 ((rd_T73 l1 x5_1).f2)) ∧ w'.cell? ⟨(ad369.add ((x5_1).toNat * 9)).block, (ad369.add ((x5_1).toNat * 9)).off + 3, none⟩ = some (.int .i64 ((rd_T73 l1 x5_1).f3)) ∧ w'.cell? ⟨(ad369.add ((x5_1).toNat * 9)).block, (ad369.add ((x5_1).toNat * 9)).off + 4, none⟩ = some (.int .i64 ((rd_T73 l1 x5_1).f4)) ∧ w'.cell? ⟨(ad369.add ((x5_1).toNat * 9)).block, (ad369.add ((x5_1).toNat * 9)).off + 5, none⟩ = some (.int .i64 ((rd_T73 l1 x5_1).f5)) ∧ w'.cell? ⟨(ad369.add ((x5_1).toNat * 9)).block, (ad369.add ((x5_1).toNat * 9)).off + 6, none⟩ = some (.int .i64 ((rd_T73 l1 x5_1).f6)) ∧ w'.cell? ⟨(ad369.add ((x5_1).toNat * 9)).block, (ad369.add ((x5_1).toNat * 9)).off + 7, none⟩ = some (.slice A369_7 ((rd_T73 l1 x5_1).f7).length c369_7) ∧ w'.cell? ⟨(ad369.add ((x5_1).toNat * 9)).block, (ad369.add ((x5_1).toNat * 9)).off + 8, none⟩ = some (.slice A369_8 ((rd_T73 l1 x5_1).f8).length c369_8)) (ds := []) #[O, O, O, O, O, O, O, O, O, O] (by kernel_rfl) rfl rfl ⟨((HB.out.cell (World.block_lt_of_cell? w _ hw368_0)).trans hw368_0), ((HB.out.cell (World.block_lt_of_cell? w _ hw368_1)).trans hw368_1), ((HB.out.cell (World.block_lt_of_cell? w _ hw368_2)).trans hw368_2), ((HB.out.cell (World.block_lt_of_cell? w _ hw368_3)).trans hw368_3), ((HB.out.cell (World.block_lt_of_cell? w _ hw368_4)).trans hw368_4), ((HB.out.cell (World.block_lt_of_cell? w _ hw368_5)).trans hw368_5), ((HB.out.cell (World.block_lt_of_cell? w _ hw368_6)).trans hw368_6), ((HB.out.cell (World.block_lt_of_cell? w _ hw368_7)).trans hw368_7), ((HB.out.cell (World.block_lt_of_cell? w _ hw368_8)).trans hw368_8), ((HB.out.cell (World.block_lt_of_cell? w _ hw369_0)).trans hw369_0), ((HB.out.cell (World.block_lt_of_cell? w _ hw369_1)).trans hw369_1), ((HB.out.cell (World.block_lt_of_cell? w _ hw369_2)).trans hw369_2), ((HB.out.cell (World.block_lt_of_cell? w _ hw369_3)).trans hw369_3), ((HB.out.cell (World.block_lt_of_cell? w _ hw369_4)).trans hw369_4), ((HB.out.cell (World.block_lt_of_cell? w _ hw369_5)).trans hw369_5), ((HB.out.cell (World.block_lt_of_cell? w _ hw369_6)).trans hw369_6), ((HB.out.cell (World.block_lt_of_cell? w _ hw369_7)).trans hw369_7), ((HB.out.cell (World.block_lt_of_cell? w _ hw369_8)).trans hw369_8)⟩ (fun hHeld => ?_); refine with_tabW laws_eqLayerS.tab6 laws_eqLayerS.bits6 (fun HT_ HW_ => ?_)
     generalize wr.drew = w11 at HB HR368_7 HR368_8 HR369_7 HR369_8 hx368_0 hx368_1 hx368_2 hx368_3 hx368_4 hx368_5 hx368_6 hx368_7 hx368_8 hx369_0 hx369_1 hx369_2 hx369_3 hx369_4 hx369_5 hx369_6 hx369_7 hx369_8 hHeld ⊢
     refine stepP 0 (some 17) (tk 10 1) (any_of HT_.out (by kernel_rfl)) ?_
     refine stepP 1 (some 18) (tk 10 3) (any_of HT_.out (by kernel_rfl)) ?_
     refine stepP 2 (some 19) (tk 10 7) (any_of HT_.out (by kernel_rfl)) ?_
     refine stepP 4 (some 21) (tk 10 23) (any_of HT_.out (by kernel_rfl)) ?_
     refine stepP 5 (some 22) (tk 10 55) (any_of HT_.out (by kernel_rfl)) ?_
     refine stepP 6 (some 23) (tk 10 119) (any_of HT_.out (by kernel_rfl)) ?_
     refine stepT 3 (some 20) (tk 10 127) (take_ofW HT_.out HW_.out (by kernel_rfl)) hHeld ?_
     refine stepT 7 (some 24) (tk 10 255) (take_ofW HT_.out HW_.out (by kernel_rfl)) hHeld ?_
     refine one_ (i := 8) (N := some 25) #[I, I, I, I, I, I, I, I, I, O] rfl rfl (one_of HT_.out (by kernel_rfl)) (by decide) (fun K hK => ?_)
     refine goes_ Try.func101 (by kernel_rfl) rfl #[.agg #[.int .i64 ((rd_T73 l0 x5_1).f0), .int .i64 ((rd_T73 l0 x5_1).f1), .int .i64 ((rd_T73 l0 x5_1).f2), .int .i64 ((rd_T73 l0 x5_1).f3), .int .i64 ((rd_T73 l0 x5_1).f4), .int .i64 ((rd_T73 l0 x5_1).f5), .int .i64 ((rd_T73 l0 x5_1).f6), .slice A368_7 ((rd_T73 l0 x5_1).f7).length c368_7, .slice A368_8 ((rd_T73 l0 x5_1).f8).length c368_8], .agg #[.int .i64 ((rd_T73 l1 x5_1).f0), .int .i64 ((rd_T73 l1 x5_1).f1), .int .i64 ((rd_T73 l1 x5_1).f2), .int .i64 ((rd_T73 l1 x5_1).f3), .int .i64 ((rd_T73 l1 x5_1).f4), .int .i64 ((rd_T73 l1 x5_1).f5), .int .i64 ((rd_T73 l1 x5_1).f6), .slice A369_7 ((rd_T73 l1 x5_1).f7).length c369_7, .slice A369_8 ((rd_T73 l1 x5_1).f8).length c369_8]] (by rfl) rfl rfl (by (try simp only [List.map_toArray, List.map_cons, List.map_nil]); first | done | rfl | (simp only [List.length_drop, List.length_take]; rfl)) ?_
     with_reducible refine (laws_eqLayer.calls k1 ((rd_T73 l0 x5_1).f0) ((rd_T73 l0 x5_1).f1) ((rd_T73 l0 x5_1).f2) ((rd_T73 l0 x5_1).f3) ((rd_T73 l0 x5_1).f4) ((rd_T73 l0 x5_1).f5) ((rd_T73 l0 x5_1).f6) _ _ ((rd_T73 l0 x5_1).f7) _ _ ((rd_T73 l0 x5_1).f8) ((rd_T73 l1 x5_1).f0) ((rd_T73 l1 x5_1).f1) ((rd_T73 l1 x5_1).f2) ((rd_T73 l1 x5_1).f3) ((rd_T73 l1 x5_1).f4) ((rd_T73 l1 x5_1).f5) ((rd_T73 l1 x5_1).f6) _ _ ((rd_T73 l1 x5_1).f7) _ _ ((rd_T73 l1 x5_1).f8) false _ ?side1 ?side2 ?side3 ?side4 ?side5 ?side6 ?side7 ?side8 A7.out).mono ?_
     (case side1 => exact C_now HR368_7.out)
     (case side2 => exact HC368_7.out)
     (case side3 => exact C_now HR368_8.out)
     (case side4 => exact HC368_8.out)
     (case side5 => exact C_now HR369_7.out)
     (case side6 => exact HC369_7.out)
     (case side7 => exact C_now HR369_8.out)
     (case side8 => exact HC369_8.out)
     rintro e w12 ⟨rfl, hb⟩
     refine ⟨_, rfl, ?_⟩
     replace HB := bel_on w hb
     (try clear hb)
     refine hK.out _ _ ⟨((HB.out.cell (World.block_lt_of_cell? w _ hw368_0)).trans hw368_0), ((HB.out.cell (World.block_lt_of_cell? w _ hw368_1)).trans hw368_1), ((HB.out.cell (World.block_lt_of_cell? w _ hw368_2)).trans hw368_2), ((HB.out.cell (World.block_lt_of_cell? w _ hw368_3)).trans hw368_3), ((HB.out.cell (World.block_lt_of_cell? w _ hw368_4)).trans hw368_4), ((HB.out.cell (World.block_lt_of_cell? w _ hw368_5)).trans hw368_5), ((HB.out.cell (World.block_lt_of_cell? w _ hw368_6)).trans hw368_6), ((HB.out.cell (World.block_lt_of_cell? w _ hw368_7)).trans hw368_7), ((HB.out.cell (World.block_lt_of_cell? w _ hw368_8)).trans hw368_8), ((HB.out.cell (World.block_lt_of_cell? w _ hw369_0)).trans hw369_0), ((HB.out.cell (World.block_lt_of_cell? w _ hw369_1)).trans hw369_1), ((HB.out.cell (World.block_lt_of_cell? w _ hw369_2)).trans hw369_2), ((HB.out.cell (World.block_lt_of_cell? w _ hw369_3)).trans hw369_3), ((HB.out.cell (World.block_lt_of_cell? w _ hw369_4)).trans hw369_4), ((HB.out.cell (World.block_lt_of_cell? w _ hw369_5)).trans hw369_5), ((HB.out.cell (World.block_lt_of_cell? w _ hw369_6)).trans hw369_6), ((HB.out.cell (World.block_lt_of_cell? w _ hw369_7)).trans hw369_7), ((HB.out.cell (World.block_lt_of_cell? w _ hw369_8)).trans hw369_8)⟩ (fun hHeld => ?_)
     clear hK K
     refine normP 25 ?_
     refine stepP 9 (some 26) (tk 10 1023) (any_of HT_.out (by kernel_rfl)) ?_
     refine done_ (done_of HT_.out (by kernel_rfl)) ?_
     try go_wp2
     go_ret
     exact ⟨eqN, bel_now⟩
    subst c8
    rw [if_pos rfl] at H
    have H' := Aside0.mk H
    clear H
    try go_wp2
    replace HB := Aside0.mk (below_drew1 HB.out)
    have p368 : 0 ≤ (x5_1 : Int) := of_decide_eq_true (by first | (with_reducible assumption) | assumption)
    have q368 : x5_1 < (l0.length : Int) := of_decide_eq_true (by first | (with_reducible assumption) | assumption)
    obtain ⟨ad368, A368_7, c368_7, A368_8, c368_8, e368, hx368_0, hx368_1, hx368_2, hx368_3, hx368_4, hx368_5, hx368_6, hx368_7, hx368_8, hl368_7, hi368_7, hl368_8, hi368_8⟩ := at_T73 HR0.out x5_1 p368 q368
    have hw368_8 := hx368_8
    have hw368_7 := hx368_7
    have hw368_6 := hx368_6
    have hw368_5 := hx368_5
    have hw368_4 := hx368_4
    have hw368_3 := hx368_3
    have hw368_2 := hx368_2
    have hw368_1 := hx368_1
    have hw368_0 := hx368_0
    cases e368
    replace hx368_0 := (HB.out.cell (World.block_lt_of_cell? w _ hx368_0)).trans hx368_0
    replace hx368_1 := (HB.out.cell (World.block_lt_of_cell? w _ hx368_1)).trans hx368_1
    replace hx368_2 := (HB.out.cell (World.block_lt_of_cell? w _ hx368_2)).trans hx368_2
    replace hx368_3 := (HB.out.cell (World.block_lt_of_cell? w _ hx368_3)).trans hx368_3
    replace hx368_4 := (HB.out.cell (World.block_lt_of_cell? w _ hx368_4)).trans hx368_4
    replace hx368_5 := (HB.out.cell (World.block_lt_of_cell? w _ hx368_5)).trans hx368_5
    replace hx368_6 := (HB.out.cell (World.block_lt_of_cell? w _ hx368_6)).trans hx368_6
    replace hx368_7 := (HB.out.cell (World.block_lt_of_cell? w _ hx368_7)).trans hx368_7
    replace hx368_8 := (HB.out.cell (World.block_lt_of_cell? w _ hx368_8)).trans hx368_8
    have HR368_7 := Aside0.mk hi368_7
    have HC368_7 := Aside0.mk hl368_7
    clear hi368_7 hl368_7
    have HR368_8 := Aside0.mk hi368_8
    have HC368_8 := Aside0.mk hl368_8
    clear hi368_8 hl368_8
    replace p368 := eq_true p368
    replace q368 := eq_true q368
    have p369 : 0 ≤ (x5_1 : Int) := of_decide_eq_true (by first | (with_reducible assumption) | assumption)
    have q369 : x5_1 < (l1.length : Int) := of_decide_eq_true (by first | (with_reducible assumption) | assumption)
    obtain ⟨ad369, A369_7, c369_7, A369_8, c369_8, e369, hx369_0, hx369_1, hx369_2, hx369_3, hx369_4, hx369_5, hx369_6, hx369_7, hx369_8, hl369_7, hi369_7, hl369_8, hi369_8⟩ := at_T73 HR1.out x5_1 p369 q369
    have hw369_8 := hx369_8
    have hw369_7 := hx369_7
    have hw369_6 := hx369_6
    have hw369_5 := hx369_5
    have hw369_4 := hx369_4
    have hw369_3 := hx369_3
    have hw369_2 := hx369_2
    have hw369_1 := hx369_1
    have hw369_0 := hx369_0
    cases e369
    replace hx369_0 := (HB.out.cell (World.block_lt_of_cell? w _ hx369_0)).trans hx369_0
    replace hx369_1 := (HB.out.cell (World.block_lt_of_cell? w _ hx369_1)).trans hx369_1
    replace hx369_2 := (HB.out.cell (World.block_lt_of_cell? w _ hx369_2)).trans hx369_2
    replace hx369_3 := (HB.out.cell (World.block_lt_of_cell? w _ hx369_3)).trans hx369_3
    replace hx369_4 := (HB.out.cell (World.block_lt_of_cell? w _ hx369_4)).trans hx369_4
    replace hx369_5 := (HB.out.cell (World.block_lt_of_cell? w _ hx369_5)).trans hx369_5
    replace hx369_6 := (HB.out.cell (World.block_lt_of_cell? w _ hx369_6)).trans hx369_6
    replace hx369_7 := (HB.out.cell (World.block_lt_of_cell? w _ hx369_7)).trans hx369_7
    replace hx369_8 := (HB.out.cell (World.block_lt_of_cell? w _ hx369_8)).trans hx369_8
    have HR369_7 := Aside0.mk hi369_7
    have HC369_7 := Aside0.mk hl369_7
    clear hi369_7 hl369_7
    have HR369_8 := Aside0.mk hi369_8
    have HC369_8 := Aside0.mk hl369_8
    clear hi369_8 hl369_8
    replace p369 := eq_true p369
    replace q369 := eq_true q369
    refine start_ (n := 10) (S := fun w' => w'.cell? (ad368.add ((x5_1).toNat * 9)) = some (.int .i64 ((rd_T73 l0 x5_1).f0)) ∧ w'.cell? ⟨(ad368.add ((x5_1).toNat * 9)).block, (ad368.add ((x5_1).toNat * 9)).off + 1, none⟩ = some (.int .i64 ((rd_T73 l0 x5_1).f1)) ∧ w'.cell? ⟨(ad368.add ((x5_1).toNat * 9)).block, (ad368.add ((x5_1).toNat * 9)).off + 2, none⟩ = some (.int .i64 ((rd_T73 l0 x5_1).f2)) ∧ w'.cell? ⟨(ad368.add ((x5_1).toNat * 9)).block, (ad368.add ((x5_1).toNat * 9)).off + 3, none⟩ = some (.int .i64 ((rd_T73 l0 x5_1).f3)) ∧ w'.cell? ⟨(ad368.add ((x5_1).toNat * 9)).block, (ad368.add ((x5_1).toNat * 9)).off + 4, none⟩ = some (.int .i64 ((rd_T73 l0 x5_1).f4)) ∧ w'.cell? ⟨(ad368.add ((x5_1).toNat * 9)).block, (ad368.add ((x5_1).toNat * 9)).off + 5, none⟩ = some (.int .i64 ((rd_T73 l0 x5_1).f5)) ∧ w'.cell? ⟨(ad368.add ((x5_1).toNat * 9)).block, (ad368.add ((x5_1).toNat * 9)).off + 6, none⟩ = some (.int .i64 ((rd_T73 l0 x5_1).f6)) ∧ w'.cell? ⟨(ad368.add ((x5_1).toNat * 9)).block, (ad368.add ((x5_1).toNat * 9)).off + 7, none⟩ = some (.slice A368_7 ((rd_T73 l0 x5_1).f7).length c368_7) ∧ w'.cell? ⟨(ad368.add ((x5_1).toNat * 9)).block, (ad368.add ((x5_1).toNat * 9)).off + 8, none⟩ = some (.slice A368_8 ((rd_T73 l0 x5_1).f8).length c368_8) ∧ w'.cell? (ad369.add ((x5_1).toNat * 9)) = some (.int .i64 ((rd_T73 l1 x5_1).f0)) ∧ w'.cell? ⟨(ad369.add ((x5_1).toNat * 9)).block, (ad369.add ((x5_1).toNat * 9)).off + 1, none⟩ = some (.int .i64 ((rd_T73 l1 x5_1).f1)) ∧ w'.cell? ⟨(ad369.add ((x5_1).toNat * 9)).block, (ad369.add ((x5_1).toNat * 9)).off + 2, none⟩ = some (.int .i64 ((rd_T73 l1 x5_1).f2)) ∧ w'.cell? ⟨(ad369.add ((x5_1).toNat * 9)).block, (ad369.add ((x5_1).toNat * 9)).off + 3, none⟩ = some (.int .i64 ((rd_T73 l1 x5_1).f3)) ∧ w'.cell? ⟨(ad369.add ((x5_1).toNat * 9)).block, (ad369.add ((x5_1).toNat * 9)).off + 4, none⟩ = some (.int .i64 ((rd_T73 l1 x5_1).f4)) ∧ w'.cell? ⟨(ad369.add ((x5_1).toNat * 9)).block, (ad369.add ((x5_1).toNat * 9)).off + 5, none⟩ = some (.int .i64 ((rd_T73 l1 x5_1).f5)) ∧ w'.cell? ⟨(ad369.add ((x5_1).toNat * 9)).block, (ad369.add ((x5_1).toNat * 9)).off + 6, none⟩ = some (.int .i64 ((rd_T73 l1 x5_1).f6)) ∧ w'.cell? ⟨(ad369.add ((x5_1).toNat * 9)).block, (ad369.add ((x5_1).toNat * 9)).off + 7, none⟩ = some (.slice A369_7 ((rd_T73 l1 x5_1).f7).length c369_7) ∧ w'.cell? ⟨(ad369.add ((x5_1).toNat * 9)).block, (ad369.add ((x5_1).toNat * 9)).off + 8, none⟩ = some (.slice A369_8 ((rd_T73 l1 x5_1).f8).length c369_8)) (ds := []) #[O, O, O, O, O, O, O, O, O, O] (by kernel_rfl) rfl rfl ⟨((HB.out.cell (World.block_lt_of_cell? w _ hw368_0)).trans hw368_0), ((HB.out.cell (World.block_lt_of_cell? w _ hw368_1)).trans hw368_1), ((HB.out.cell (World.block_lt_of_cell? w _ hw368_2)).trans hw368_2), ((HB.out.cell (World.block_lt_of_cell? w _ hw368_3)).trans hw368_3), ((HB.out.cell (World.block_lt_of_cell? w _ hw368_4)).trans hw368_4), ((HB.out.cell (World.block_lt_of_cell? w _ hw368_5)).trans hw368_5), ((HB.out.cell (World.block_lt_of_cell? w _ hw368_6)).trans hw368_6), ((HB.out.cell (World.block_lt_of_cell? w _ hw368_7)).trans hw368_7), ((HB.out.cell (World.block_lt_of_cell? w _ hw368_8)).trans hw368_8), ((HB.out.cell (World.block_lt_of_cell? w _ hw369_0)).trans hw369_0), ((HB.out.cell (World.block_lt_of_cell? w _ hw369_1)).trans hw369_1), ((HB.out.cell (World.block_lt_of_cell? w _ hw369_2)).trans hw369_2), ((HB.out.cell (World.block_lt_of_cell? w _ hw369_3)).trans hw369_3), ((HB.out.cell (World.block_lt_of_cell? w _ hw369_4)).trans hw369_4), ((HB.out.cell (World.block_lt_of_cell? w _ hw369_5)).trans hw369_5), ((HB.out.cell (World.block_lt_of_cell? w _ hw369_6)).trans hw369_6), ((HB.out.cell (World.block_lt_of_cell? w _ hw369_7)).trans hw369_7), ((HB.out.cell (World.block_lt_of_cell? w _ hw369_8)).trans hw369_8)⟩ (fun hHeld => ?_); refine with_tabW laws_eqLayerS.tab6 laws_eqLayerS.bits6 (fun HT_ HW_ => ?_)
    generalize wr.drew = w9 at HB HR368_7 HR368_8 HR369_7 HR369_8 hx368_0 hx368_1 hx368_2 hx368_3 hx368_4 hx368_5 hx368_6 hx368_7 hx368_8 hx369_0 hx369_1 hx369_2 hx369_3 hx369_4 hx369_5 hx369_6 hx369_7 hx369_8 hHeld ⊢
    refine stepP 0 (some 17) (tk 10 1) (any_of HT_.out (by kernel_rfl)) ?_
    refine stepP 1 (some 18) (tk 10 3) (any_of HT_.out (by kernel_rfl)) ?_
    refine stepP 2 (some 19) (tk 10 7) (any_of HT_.out (by kernel_rfl)) ?_
    refine stepP 4 (some 21) (tk 10 23) (any_of HT_.out (by kernel_rfl)) ?_
    refine stepP 5 (some 22) (tk 10 55) (any_of HT_.out (by kernel_rfl)) ?_
    refine stepP 6 (some 23) (tk 10 119) (any_of HT_.out (by kernel_rfl)) ?_
    refine stepT 3 (some 20) (tk 10 127) (take_ofW HT_.out HW_.out (by kernel_rfl)) hHeld ?_
    refine stepT 7 (some 24) (tk 10 255) (take_ofW HT_.out HW_.out (by kernel_rfl)) hHeld ?_
    refine one_ (i := 8) (N := some 25) #[I, I, I, I, I, I, I, I, I, O] rfl rfl (one_of HT_.out (by kernel_rfl)) (by decide) (fun K hK => ?_)
    refine goes_ Try.func101 (by kernel_rfl) rfl #[.agg #[.int .i64 ((rd_T73 l0 x5_1).f0), .int .i64 ((rd_T73 l0 x5_1).f1), .int .i64 ((rd_T73 l0 x5_1).f2), .int .i64 ((rd_T73 l0 x5_1).f3), .int .i64 ((rd_T73 l0 x5_1).f4), .int .i64 ((rd_T73 l0 x5_1).f5), .int .i64 ((rd_T73 l0 x5_1).f6), .slice A368_7 ((rd_T73 l0 x5_1).f7).length c368_7, .slice A368_8 ((rd_T73 l0 x5_1).f8).length c368_8], .agg #[.int .i64 ((rd_T73 l1 x5_1).f0), .int .i64 ((rd_T73 l1 x5_1).f1), .int .i64 ((rd_T73 l1 x5_1).f2), .int .i64 ((rd_T73 l1 x5_1).f3), .int .i64 ((rd_T73 l1 x5_1).f4), .int .i64 ((rd_T73 l1 x5_1).f5), .int .i64 ((rd_T73 l1 x5_1).f6), .slice A369_7 ((rd_T73 l1 x5_1).f7).length c369_7, .slice A369_8 ((rd_T73 l1 x5_1).f8).length c369_8]] (by rfl) rfl rfl (by (try simp only [List.map_toArray, List.map_cons, List.map_nil]); first | done | rfl | (simp only [List.length_drop, List.length_take]; rfl)) ?_
    with_reducible refine (laws_eqLayer.calls k1 ((rd_T73 l0 x5_1).f0) ((rd_T73 l0 x5_1).f1) ((rd_T73 l0 x5_1).f2) ((rd_T73 l0 x5_1).f3) ((rd_T73 l0 x5_1).f4) ((rd_T73 l0 x5_1).f5) ((rd_T73 l0 x5_1).f6) _ _ ((rd_T73 l0 x5_1).f7) _ _ ((rd_T73 l0 x5_1).f8) ((rd_T73 l1 x5_1).f0) ((rd_T73 l1 x5_1).f1) ((rd_T73 l1 x5_1).f2) ((rd_T73 l1 x5_1).f3) ((rd_T73 l1 x5_1).f4) ((rd_T73 l1 x5_1).f5) ((rd_T73 l1 x5_1).f6) _ _ ((rd_T73 l1 x5_1).f7) _ _ ((rd_T73 l1 x5_1).f8) true _ ?side1 ?side2 ?side3 ?side4 ?side5 ?side6 ?side7 ?side8 A7.out).mono ?_
    (case side1 => exact C_now HR368_7.out)
    (case side2 => exact HC368_7.out)
    (case side3 => exact C_now HR368_8.out)
    (case side4 => exact HC368_8.out)
    (case side5 => exact C_now HR369_7.out)
    (case side6 => exact HC369_7.out)
    (case side7 => exact C_now HR369_8.out)
    (case side8 => exact HC369_8.out)
    rintro e w10 ⟨rfl, hb⟩
    refine ⟨_, rfl, ?_⟩
    replace HB := bel_on w hb
    (try clear hb)
    refine hK.out _ _ ⟨((HB.out.cell (World.block_lt_of_cell? w _ hw368_0)).trans hw368_0), ((HB.out.cell (World.block_lt_of_cell? w _ hw368_1)).trans hw368_1), ((HB.out.cell (World.block_lt_of_cell? w _ hw368_2)).trans hw368_2), ((HB.out.cell (World.block_lt_of_cell? w _ hw368_3)).trans hw368_3), ((HB.out.cell (World.block_lt_of_cell? w _ hw368_4)).trans hw368_4), ((HB.out.cell (World.block_lt_of_cell? w _ hw368_5)).trans hw368_5), ((HB.out.cell (World.block_lt_of_cell? w _ hw368_6)).trans hw368_6), ((HB.out.cell (World.block_lt_of_cell? w _ hw368_7)).trans hw368_7), ((HB.out.cell (World.block_lt_of_cell? w _ hw368_8)).trans hw368_8), ((HB.out.cell (World.block_lt_of_cell? w _ hw369_0)).trans hw369_0), ((HB.out.cell (World.block_lt_of_cell? w _ hw369_1)).trans hw369_1), ((HB.out.cell (World.block_lt_of_cell? w _ hw369_2)).trans hw369_2), ((HB.out.cell (World.block_lt_of_cell? w _ hw369_3)).trans hw369_3), ((HB.out.cell (World.block_lt_of_cell? w _ hw369_4)).trans hw369_4), ((HB.out.cell (World.block_lt_of_cell? w _ hw369_5)).trans hw369_5), ((HB.out.cell (World.block_lt_of_cell? w _ hw369_6)).trans hw369_6), ((HB.out.cell (World.block_lt_of_cell? w _ hw369_7)).trans hw369_7), ((HB.out.cell (World.block_lt_of_cell? w _ hw369_8)).trans hw369_8)⟩ (fun hHeld => ?_)
    clear hK K
    refine normP 25 ?_
    refine stepP 9 (some 26) (tk 10 1023) (any_of HT_.out (by kernel_rfl)) ?_
    refine done_ (done_of HT_.out (by kernel_rfl)) ?_
    try go_wp2
    go_roundg k1
    case measure => have := HK1.out; omega
    case rel => exact ⟨(wrap64 (x5_1 + 1)), (by first | rfl | (simp; done) | (simp [*]; done)), H', ⟨by have := HK1.out; omega⟩, ⟨bel_now⟩⟩

/-! ### laws_eqModel: function 27 -/
def laws_eqModel.f (k : Nat) (a0_0 : Int) (a0_1 : Int) (a0_2 : Int) (l0_3 : List (S73)) (a1_0 : Int) (a1_1 : Int) (a1_2 : Int) (l1_3 : List (S73)) : Option (Bool) := (laws_eqShape.f a0_0 a0_1 a0_2 a1_0 a1_1 a1_2).bind fun t373 => (if t373 = true then ((laws_eqLayerS.f k l0_3 l1_3).bind fun t374 => (if t374 = true then (some true) else (some false))) else (some false))
set_option maxHeartbeats 8000000 in
set_option maxRecDepth 100000 in
theorem laws_eqModel.calls (k : Nat) (a0_0 : Int) (a0_1 : Int) (a0_2 : Int) (A0_3 : Option Addr) (c0_3 : Nat) (l0_3 : List (S73)) (a1_0 : Int) (a1_1 : Int) (a1_2 : Int) (A1_3 : Option Addr) (c1_3 : Nat) (l1_3 : List (S73)) (r : Bool) (w : World) (hr0_3 : Kd.C k73 w A0_3 l0_3.length l0_3) (hc0_3 : l0_3.length ≤ c0_3) (hr1_3 : Kd.C k73 w A1_3 l1_3.length l1_3) (hc1_3 : l1_3.length ≤ c1_3) (h : laws_eqModel.f k a0_0 a0_1 a0_2 l0_3 a1_0 a1_1 a1_2 l1_3 = some r) :
   Calls Try.prog 27 #[.agg #[.int .i64 a0_0, .int .i64 a0_1, .int .i64 a0_2, .slice A0_3 l0_3.length c0_3], .agg #[.int .i64 a1_0, .int .i64 a1_1, .int .i64 a1_2, .slice A1_3 l1_3.length c1_3]] w fun e w' => e = .returned (.bool r) ∧ Below w.heap.size w w' := by
  have hu28 := Try.underlying28
  have hu25 := Try.underlying25
  have HR0_3 := Aside0.mk hr0_3
  have HC0_3 := Aside0.mk hc0_3
  clear hr0_3 hc0_3
  have HR1_3 := Aside0.mk hr1_3
  have HC1_3 := Aside0.mk hc1_3
  clear hr1_3 hc1_3
  have HB := Aside0.mk (Below.refl w.heap.size w)
  have H : ((laws_eqShape.f a0_0 a0_1 a0_2 a1_0 a1_1 a1_2).bind fun t373 => (if t373 = true then ((laws_eqLayerS.f k l0_3 l1_3).bind fun t374 => (if t374 = true then (some true) else (some false))) else (some false))) = some r := h
  clear h
  replace H := Option.bind_eq_some_iff.mp H
  obtain ⟨t373, A30, H⟩ := H
  (try dsimp only at H)
  have A3 := Aside0.mk A30
  clear A30
  by_cases c4 : t373 = true
  rotate_left
  ·replace c4 := Bool.eq_false_iff.mpr c4
   subst c4
   rw [if_neg (show ¬ (false = true) by decide)] at H
   obtain rfl := Option.some.inj H
   go_enter Try.func27, Try.ntmps27
   go_wp2_with (first | ((with_reducible refine gate_dst (N := 2) rfl ?_); refine boxM 2 #[.int .i64 a0_0, .int .i64 a0_1, .int .i64 a0_2, .slice A0_3 l0_3.length c0_3] 28 ?_; intro gb371 hg w25 BK371 hb; replace HB := box_at w hb hg; obtain ⟨HB, GW371, GE371⟩ := HB; clear hb hg) | ((with_reducible refine gate_dst (N := 3) rfl ?_); refine boxM 3 #[.int .i64 a1_0, .int .i64 a1_1, .int .i64 a1_2, .slice A1_3 l1_3.length c1_3] 28 ?_; intro gb372 hg w26 BK372 hb; replace HB := box_at w hb hg; obtain ⟨HB, GW372, GE372⟩ := HB; replace BK371 := box_on gb371 hb hg; obtain ⟨BK371, NB371_372, NB372_371⟩ := BK371; clear hb hg; have hn27 := ne2 NB371_372; have hcz28 := cells4 BK371.out; have hcz29 := cells4 BK372.out) | ((with_reducible refine gate_callee (f := 71) rfl ?_); refine goesM (some 9) rfl rfl Try.func71 (by kernel_rfl) rfl #[.agg #[.int .i64 a0_0, .int .i64 a0_1, .int .i64 a0_2], .agg #[.int .i64 a1_0, .int .i64 a1_1, .int .i64 a1_2]] rfl ?_; (with_reducible refine (laws_eqShape.calls a0_0 a0_1 a0_2 a1_0 a1_1 a1_2 false _ A3.out).mono ?_); rintro e w30 ⟨rfl, hb⟩; refine ⟨_, rfl, ?_⟩; replace HB := bel_on w hb; replace BK371 := blk_on gb371 hb; replace BK372 := blk_on gb372 hb; (try clear hb)))
   go_ret
   exact ⟨eqN, bel_now⟩
  subst c4
  rw [if_pos rfl] at H
  replace H := Option.bind_eq_some_iff.mp H
  obtain ⟨t374, A50, H⟩ := H
  (try dsimp only at H)
  have A5 := Aside0.mk A50
  clear A50
  by_cases c6 : t374 = true
  ·subst c6
   rw [if_pos rfl] at H
   obtain rfl := Option.some.inj H
   go_enter Try.func27, Try.ntmps27
   go_wp2_with (first | ((with_reducible refine gate_dst (N := 2) rfl ?_); refine boxM 2 #[.int .i64 a0_0, .int .i64 a0_1, .int .i64 a0_2, .slice A0_3 l0_3.length c0_3] 28 ?_; intro gb371 hg w7 BK371 hb; replace HB := box_at w hb hg; obtain ⟨HB, GW371, GE371⟩ := HB; clear hb hg) | ((with_reducible refine gate_dst (N := 3) rfl ?_); refine boxM 3 #[.int .i64 a1_0, .int .i64 a1_1, .int .i64 a1_2, .slice A1_3 l1_3.length c1_3] 28 ?_; intro gb372 hg w8 BK372 hb; replace HB := box_at w hb hg; obtain ⟨HB, GW372, GE372⟩ := HB; replace BK371 := box_on gb371 hb hg; obtain ⟨BK371, NB371_372, NB372_371⟩ := BK371; clear hb hg; have hn9 := ne2 NB371_372; have hcz10 := cells4 BK371.out; have hcz11 := cells4 BK372.out) | ((with_reducible refine gate_callee (f := 71) rfl ?_); refine goesM (some 9) rfl rfl Try.func71 (by kernel_rfl) rfl #[.agg #[.int .i64 a0_0, .int .i64 a0_1, .int .i64 a0_2], .agg #[.int .i64 a1_0, .int .i64 a1_1, .int .i64 a1_2]] rfl ?_; (with_reducible refine (laws_eqShape.calls a0_0 a0_1 a0_2 a1_0 a1_1 a1_2 true _ A3.out).mono ?_); rintro e w12 ⟨rfl, hb⟩; refine ⟨_, rfl, ?_⟩; replace HB := bel_on w hb; replace BK371 := blk_on gb371 hb; replace BK372 := blk_on gb372 hb; (try clear hb); have hcz13 := cells4 BK371.out; have hcz14 := cells4 BK372.out) | ((with_reducible refine gate_callee (f := 72) rfl ?_); refine goesM (some 15) rfl rfl Try.func72 (by kernel_rfl) rfl #[.slice A0_3 l0_3.length c0_3, .slice A1_3 l1_3.length c1_3] rfl ?_; (with_reducible refine (laws_eqLayerS.calls k _ _ l0_3 _ _ l1_3 true _ ?side1 ?side2 ?side3 ?side4 A5.out).mono ?_); (case side1 => exact C_now HR0_3.out); (case side2 => exact HC0_3.out); (case side3 => exact C_now HR1_3.out); (case side4 => exact HC1_3.out); rintro e w15 ⟨rfl, hb⟩; refine ⟨_, rfl, ?_⟩; replace HB := bel_on w hb; replace BK371 := blk_on gb371 hb; replace BK372 := blk_on gb372 hb; (try clear hb)))
   go_ret
   exact ⟨eqN, bel_now⟩
  replace c6 := Bool.eq_false_iff.mpr c6
  subst c6
  rw [if_neg (show ¬ (false = true) by decide)] at H
  obtain rfl := Option.some.inj H
  go_enter Try.func27, Try.ntmps27
  go_wp2_with (first | ((with_reducible refine gate_dst (N := 2) rfl ?_); refine boxM 2 #[.int .i64 a0_0, .int .i64 a0_1, .int .i64 a0_2, .slice A0_3 l0_3.length c0_3] 28 ?_; intro gb371 hg w16 BK371 hb; replace HB := box_at w hb hg; obtain ⟨HB, GW371, GE371⟩ := HB; clear hb hg) | ((with_reducible refine gate_dst (N := 3) rfl ?_); refine boxM 3 #[.int .i64 a1_0, .int .i64 a1_1, .int .i64 a1_2, .slice A1_3 l1_3.length c1_3] 28 ?_; intro gb372 hg w17 BK372 hb; replace HB := box_at w hb hg; obtain ⟨HB, GW372, GE372⟩ := HB; replace BK371 := box_on gb371 hb hg; obtain ⟨BK371, NB371_372, NB372_371⟩ := BK371; clear hb hg; have hn18 := ne2 NB371_372; have hcz19 := cells4 BK371.out; have hcz20 := cells4 BK372.out) | ((with_reducible refine gate_callee (f := 71) rfl ?_); refine goesM (some 9) rfl rfl Try.func71 (by kernel_rfl) rfl #[.agg #[.int .i64 a0_0, .int .i64 a0_1, .int .i64 a0_2], .agg #[.int .i64 a1_0, .int .i64 a1_1, .int .i64 a1_2]] rfl ?_; (with_reducible refine (laws_eqShape.calls a0_0 a0_1 a0_2 a1_0 a1_1 a1_2 true _ A3.out).mono ?_); rintro e w21 ⟨rfl, hb⟩; refine ⟨_, rfl, ?_⟩; replace HB := bel_on w hb; replace BK371 := blk_on gb371 hb; replace BK372 := blk_on gb372 hb; (try clear hb); have hcz22 := cells4 BK371.out; have hcz23 := cells4 BK372.out) | ((with_reducible refine gate_callee (f := 72) rfl ?_); refine goesM (some 15) rfl rfl Try.func72 (by kernel_rfl) rfl #[.slice A0_3 l0_3.length c0_3, .slice A1_3 l1_3.length c1_3] rfl ?_; (with_reducible refine (laws_eqLayerS.calls k _ _ l0_3 _ _ l1_3 false _ ?side1 ?side2 ?side3 ?side4 A5.out).mono ?_); (case side1 => exact C_now HR0_3.out); (case side2 => exact HC0_3.out); (case side3 => exact C_now HR1_3.out); (case side4 => exact HC1_3.out); rintro e w24 ⟨rfl, hb⟩; refine ⟨_, rfl, ?_⟩; replace HB := bel_on w hb; replace BK371 := blk_on gb371 hb; replace BK372 := blk_on gb372 hb; (try clear hb)))
  go_ret
  exact ⟨eqN, bel_now⟩

/-! ### laws_markModel: function 28 (by hand) -/
-- what is written are whole numbers where whole numbers stood
def IK (S : Nat → Prop) (w w' : World) : Prop := w.heap.size ≤ w'.heap.size ∧ ∀ b, b < w.heap.size → w'.heap[b]? = w.heap[b]? ∨ (S b ∧ ∃ (cs cs' : Array Value) (t : TypeId), w.heap[b]? = some (.cells cs t (0, 0)) ∧ w'.heap[b]? = some (.cells cs' t (0, 0)) ∧ cs'.size = cs.size ∧ ∀ j : Nat, cs'[j]? = cs[j]? ∨ ((∃ x, cs[j]? = some (.int .i64 x)) ∧ ∃ x, cs'[j]? = some (.int .i64 x)))
theorem IK.refl (S : Nat → Prop) (w : World) : IK S w w := ⟨Nat.le_refl _, fun _ _ => .inl rfl⟩
theorem IK.trans {S : Nat → Prop} {w w1 w2 : World} (h : IK S w w1) (k : IK S w1 w2) : IK S w w2 := by
  refine ⟨Nat.le_trans h.1 k.1, fun b hb => ?_⟩
  have hb1 : b < w1.heap.size := Nat.lt_of_lt_of_le hb h.1
  rcases h.2 b hb with e1 | ⟨s1, cs, cs1, t, e1, e2, z1, p1⟩
  ·rcases k.2 b hb1 with e2 | ⟨s2, ds, ds1, u, f1, f2, z2, p2⟩
   ·exact .inl (e2.trans e1)
   exact .inr ⟨s2, ds, ds1, u, e1.symm.trans f1, f2, z2, p2⟩
  rcases k.2 b hb1 with f | ⟨s2, ds, ds1, u, f1, f2, z2, p2⟩
  ·exact .inr ⟨s1, cs, cs1, t, e1, f.trans e2, z1, p1⟩
  rw [e2] at f1
  injection f1 with f1
  injection f1 with a b c
  subst a
  subst b
  refine .inr ⟨s1, cs, ds1, t, e1, f2, z2.trans z1, fun j => ?_⟩
  rcases p1 j with q1 | ⟨q1, q2⟩ <;> rcases p2 j with r1 | ⟨r1, r2⟩
  ·exact .inl (r1.trans q1)
  ·rw [q1] at r1
   exact .inr ⟨r1, r2⟩
  ·rw [← r1] at q2
   exact .inr ⟨q1, q2⟩
  exact .inr ⟨q1, r2⟩
theorem IK.weak {S S' : Nat → Prop} {w w1 : World} (h : IK S w w1) (hs : ∀ k, S k → S' k) : IK S' w w1 := ⟨h.1, fun b hb => (h.2 b hb).imp id (fun h => ⟨hs b h.1, h.2⟩)⟩
theorem IK.below {S : Nat → Prop} {w W W' : World} (h : IK S w W) (hb : Below W.heap.size W W') : IK S w W' := h.trans ⟨hb.size, fun b hlt => .inl (hb.block b hlt)⟩
theorem IK.set {S : Nat → Prop} {w W : World} {g j t : Nat} {x : Int} (h : IK S w W) (hs : S g) (hb : ∃ (cs : Array Value) (y : Int), W.heap[g]? = some (.cells cs t (0, 0)) ∧ cs[j]? = some (.int .i64 y)) : IK S w (W.setCell ⟨g, j, none⟩ (.int .i64 x)) := by
  obtain ⟨cs, y, h1, h2⟩ := hb
  refine h.trans ⟨by simp [World.setCell], fun b hlt => ?_⟩
  by_cases hbg : b = g
  ·subst hbg
   refine .inr ⟨hs, cs, cs.setIfInBounds j (.int .i64 x), t, h1, blk_set h1 j _, by simp, fun i => ?_⟩
   by_cases hi : j = i
   ·subst hi
    refine .inr ⟨⟨y, h2⟩, x, ?_⟩
    have := (Array.getElem?_eq_some_iff.1 h2).1
    simp [this]
   ·left
    simp [Array.getElem?_setIfInBounds, hi]
  ·exact .inl (Below.heap_setCell W _ _ b hbg)
/-- A block that was cells is cells, its whole numbers are whole numbers, all else in it is as it was. -/
theorem IK.blk {S : Nat → Prop} {w W : World} {g t : Nat} {cs : Array Value} (h : IK S w W) (hb : w.heap[g]? = some (.cells cs t (0, 0))) : ∃ cs' : Array Value, W.heap[g]? = some (.cells cs' t (0, 0)) ∧ cs'.size = cs.size ∧ ∀ j : Nat, cs'[j]? = cs[j]? ∨ ((∃ x, cs[j]? = some (.int .i64 x)) ∧ ∃ x, cs'[j]? = some (.int .i64 x)) := by
  rcases h.2 g (blk_lt hb) with e | ⟨_, ds, ds', u, e1, e2, z, p⟩
  ·exact ⟨cs, e.trans hb, rfl, fun j => .inl rfl⟩
  rw [hb] at e1
  injection e1 with e1
  injection e1 with a b c
  subst a
  subst b
  exact ⟨ds', e2, z, p⟩
theorem IK.int {S : Nat → Prop} {w W : World} {g t j : Nat} {cs : Array Value} (h : IK S w W) (hb : w.heap[g]? = some (.cells cs t (0, 0))) (hj : ∃ x, cs[j]? = some (.int .i64 x)) : ∃ (cs' : Array Value) (y : Int), W.heap[g]? = some (.cells cs' t (0, 0)) ∧ cs'[j]? = some (.int .i64 y) := by
  obtain ⟨cs', e, _, p⟩ := h.blk hb
  rcases p j with q | ⟨_, y, q⟩
  ·obtain ⟨x, hx⟩ := hj
   exact ⟨cs', x, e, q.trans hx⟩
  exact ⟨cs', y, e, q⟩
theorem IK.slice {S : Nat → Prop} {w W : World} {g t j n c : Nat} {A : Option Addr} {cs : Array Value} (h : IK S w W) (hb : w.heap[g]? = some (.cells cs t (0, 0))) (hj : cs[j]? = some (.slice A n c)) : W.cell? ⟨g, j, none⟩ = some (.slice A n c) := by
  obtain ⟨cs', e, _, p⟩ := h.blk hb
  rw [blk_cell e]
  rcases p j with q | ⟨⟨x, q⟩, _⟩
  ·exact q.trans hj
  rw [hj] at q
  cases q
theorem IK.kept {S : Nat → Prop} {w W : World} (h : IK S w W) : Kept w W S := ⟨h.1, fun b hb hn => (h.2 b hb).elim id (fun h => absurd h.1 hn)⟩
/-- A row of n whole numbers. -/
def RowI (w : World) (base : Nat) (P : Nat → Prop) (v : Value) (n : Nat) : Prop := (v = .slice none 0 0 ∧ n = 0) ∨ ∃ (g c : Nat) (cs : Array Value), v = .slice (some ⟨g, 0, none⟩) n c ∧ base ≤ g ∧ P g ∧ w.heap[g]? = some (.cells cs 3 (0, 0)) ∧ ∀ j : Nat, j < n → ∃ x, cs[j]? = some (.int .i64 x)
theorem RowI.slice {w : World} {base n : Nat} {P : Nat → Prop} {v : Value} (h : RowI w base P v n) : ∃ A c, v = .slice A n c := by
  rcases h with ⟨rfl, rfl⟩ | ⟨g, c, cs, rfl, _⟩
  ·exact ⟨_, _, rfl⟩
  exact ⟨_, _, rfl⟩
theorem RowI.of_R {w : World} {base : Nat} {P : Nat → Prop} {v : Value} {l : List Int} (h : Kd.R (Kd.int .i64) 3 w base P v l) : RowI w base P v l.length := by
  have ho := Kd.own_of_R h
  rcases ho.2 with ⟨rfl, h0⟩ | ⟨g, cap, cur, rfl, hb, hh, h1, h2, h3, h4⟩
  ·exact .inl ⟨rfl, h0⟩
  refine .inr ⟨g, cap, cur, rfl, hb, h.1 g rfl, hh, fun j hj => ?_⟩
  refine ⟨l[j], ?_⟩
  have h5 : (cur.toList.take (l.length * 1))[j]? = some (.int .i64 l[j]) := by
   rw [h4]
   simp [encs, hj]
  rw [List.getElem?_take] at h5
  split at h5
  ·simpa using h5
  cases h5
theorem RowI.ik {S : Nat → Prop} {w W : World} {base n : Nat} {P : Nat → Prop} {v : Value} (h : RowI w base P v n) (hk : IK S w W) : RowI W base P v n := by
  rcases h with h | ⟨g, c, cs, hv, hb, hp, hh, hi⟩
  ·exact .inl h
  obtain ⟨cs', e, _, p⟩ := hk.blk hh
  refine .inr ⟨g, c, cs', hv, hb, hp, e, fun j hj => ?_⟩
  rcases p j with q | ⟨_, q⟩
  rotate_left
  ·exact q
  obtain ⟨x, hx⟩ := hi j hj
  exact ⟨x, q.trans hx⟩
set_option maxHeartbeats 8000000 in
set_option maxRecDepth 100000 in
theorem marks_ints (P : Nat → Prop) (v : Value) (n : Nat) (a r : Int) (w0 w : World) (hB : Below w0.heap.size w0 w) (h : RowI w w0.heap.size P v n) (hr : 0 ≤ a ∧ a + n ≤ 1000000000000000 ∧ r = a + n) :
   Calls Try.prog 36 #[v, .int .i64 a] w fun e w' => e = .returned (.int .i64 r) ∧ Aside0 (Below w0.heap.size w0 w') ∧ Aside0 (IK P w w') := by
  obtain ⟨A, c, rfl⟩ : ∃ A c, v = .slice A n c := by
   rcases h with ⟨rfl, rfl⟩ | ⟨g, c, cs, rfl, _⟩
   ·exact ⟨_, _, rfl⟩
   ·exact ⟨_, _, rfl⟩
  have HR := Aside0.mk h
  have HN := Aside0.mk hr
  have HK := Aside0.mk (IK.refl P w)
  have HB := Aside0.mk hB
  clear h hr hB
  go_enter Try.func36, Try.ntmps36
  go_wp2
  go_loopg [1, 5] n (fun kq v1 v5 w' => ∃ (x1_1 : Int) (x5_1 : Int), v1 = .int .i64 x1_1 ∧ v5 = .int .i64 x5_1 ∧ Aside0 (0 ≤ x5_1 ∧ x5_1 ≤ n ∧ x1_1 = a + x5_1 ∧ n - x5_1.toNat ≤ kq) ∧ Aside0 (Below w0.heap.size w0 w') ∧ Aside0 (IK P w w'))
  case atStart => exact ⟨a, 0, rfl, rfl, ⟨by omega⟩, HB, HK⟩
  case round =>
   clear HB HK
   obtain ⟨x1_1, x5_1, rfl, rfl, HX, HB, HK⟩ := hrel
   by_cases c3 : x5_1 < (n : Int)
   rotate_left
   ·have c3b0 : decide (x5_1 < (n : Int)) = false := decide_eq_false c3
    clear c3
    go_wp2
    go_ret
    exact ⟨by have := HX.out; have := of_decide_eq_false c3b0; have := HN.out; rw [show x1_1 = r by omega]; rfl, HB, HK⟩
   have c3b0 : decide (x5_1 < (n : Int)) = true := decide_eq_true c3
   have c4b0 : decide (0 ≤ x5_1) = true := decide_eq_true HX.out.1
   rcases HR.out.ik HK.out with ⟨_, hz⟩ | ⟨g, c', cs, hv, hg, hp, hh, hi⟩
   ·have := HX.out.1
    omega
   cases hv
   have HH := Aside0.mk hh
   have HG := Aside0.mk hg
   have HP := Aside0.mk hp
   have hy := hi x5_1.toNat (by have := HX.out.1; omega)
   obtain ⟨y, hy⟩ := hy
   have HY := Aside0.mk hy
   have hx5_0 : wr.cell? ⟨g, x5_1.toNat, none⟩ = some (.int .i64 y) := (blk_cell hh _).trans hy
   have hf5_0 : wr.frozen? ⟨g, x5_1.toNat, none⟩ = false := blk_frozen hh _
   clear hh hg hp hi hy c3
   have p5 := eq_true HX.out.1
   have q5 := eq_true (of_decide_eq_true c3b0)
   go_wp2_with (first | ((with_reducible refine gate_store (t := 3) (p := 15) rfl ?_); refine store_event (t := 3) (p := 15) (v := ?vo_w8) (w1 := (wr.setCell ⟨g, x5_1.toNat, none⟩ (.int .i64 x1_1))) ?hg ?ho ?hn ?hr ?_; (case ho => rfl); (case hg => rfl); (case hn => rfl); (case hr => first | (go_simp; done) | (go_simp; rfl)); intro w8 hw; have n1 := Aside0.mk (show IK P w w8 from by rw [hw]; exact HK.out.set HP.out ⟨_, _, HH.out, HY.out⟩); have n2 := Aside0.mk (show Below w0.heap.size w0 w8 from by rw [hw]; exact below_set HB.out HG.out); clear hw HK HB HH HY hx5_0 hf5_0; have HK := n1; have HB := n2; clear n1 n2))
   go_roundg (gk - 1)
   case measure => have := HX.out; have := of_decide_eq_true c3b0; omega
   case rel => exact ⟨wrap64 (x1_1 + 1), wrap64 (x5_1 + 1), (by first | rfl | (simp; done) | (simp [*]; done)), (by first | rfl | (simp; done) | (simp [*]; done)), ⟨by have := HX.out; have := HN.out; have := of_decide_eq_true c3b0; unfold wrap64; omega⟩, HB, HK⟩
theorem marks_at {S : Nat → Prop} {w W : World} {g t j : Nat} {cs : Array Value} (hk : IK S w W) (hh : w.heap[g]? = some (.cells cs t (0, 0))) (hj : ∃ x, cs[j]? = some (.int .i64 x)) : ∃ y, W.cell? ⟨g, j, none⟩ = some (.int .i64 y) ∧ W.frozen? ⟨g, j, none⟩ = false := by
  obtain ⟨cs', y, e, h⟩ := hk.int hh hj
  exact ⟨y, (blk_cell e _).trans h, blk_frozen e _⟩
theorem marks_cell {S : Nat → Prop} {w W : World} {g t j : Nat} {cs : Array Value} (hk : IK S w W) (hh : w.heap[g]? = some (.cells cs t (0, 0))) (hj : ∃ x, cs[j]? = some (.int .i64 x)) : ∃ (cs : Array Value) (y : Int), W.heap[g]? = some (.cells cs t (0, 0)) ∧ cs[j]? = some (.int .i64 y) := hk.int hh hj
theorem marks_elem {w : World} {base g n c : Nat} {P : Nat → Prop} {l : List S73} (h : Kd.R k73 73 w base P (.slice (some ⟨g, 0, none⟩) n c) l) (i : Int) (h0 : 0 ≤ i) (h1 : i < n) : ∃ (cs : Array Value) (A7 A8 : Option Addr) (c7 c8 : Nat), w.heap[g]? = some (.cells cs 73 (0, 0)) ∧ P g ∧ base ≤ g ∧ (∀ j, j < 7 → ∃ x, cs[i.toNat * 9 + j]? = some (.int .i64 x)) ∧ cs[i.toNat * 9 + 7]? = some (.slice A7 (rd_T73 l i).f7.length c7) ∧ cs[i.toNat * 9 + 8]? = some (.slice A8 (rd_T73 l i).f8.length c8) ∧ RowI w base P (.slice A7 (rd_T73 l i).f7.length c7) (rd_T73 l i).f7.length ∧ RowI w base P (.slice A8 (rd_T73 l i).f8.length c8) (rd_T73 l i).f8.length := by
  obtain ⟨cells, hb⟩ := Kd.R_typed h g rfl
  obtain ⟨ce, hl, hM, hcc, _⟩ := Kd.R_elem h z73 i h0 h1
  obtain ⟨v7, v8, rfl, g7, g8⟩ := k73_openM hM
  have hc : ∀ j u, ([.int .i64 (l.getD i.toNat z73).f0, .int .i64 (l.getD i.toNat z73).f1, .int .i64 (l.getD i.toNat z73).f2, .int .i64 (l.getD i.toNat z73).f3, .int .i64 (l.getD i.toNat z73).f4, .int .i64 (l.getD i.toNat z73).f5, .int .i64 (l.getD i.toNat z73).f6, v7, v8] : List Value)[j]? = some u → cells[i.toNat * 9 + j]? = some u := fun j u hu => by
   have := hcc j u hu
   rwa [show k73.sz = 9 from rfl, blk_cell hb] at this
  obtain ⟨A7, c7, rfl⟩ := Kd.R_slice g7
  obtain ⟨A8, c8, rfl⟩ := Kd.R_slice g8
  refine ⟨cells, A7, A8, c7, c8, hb, h.1 g rfl, Kd.R_base h g rfl, fun j hj => ?_, hc 7 _ rfl, hc 8 _ rfl, RowI.of_R (Kd.R_mono g7 fun _ hk => hk.1), RowI.of_R (Kd.R_mono g8 fun _ hk => hk.1)⟩
  match j, hj with
  | 0, _ => exact ⟨_, hc 0 _ rfl⟩
  | 1, _ => exact ⟨_, hc 1 _ rfl⟩
  | 2, _ => exact ⟨_, hc 2 _ rfl⟩
  | 3, _ => exact ⟨_, hc 3 _ rfl⟩
  | 4, _ => exact ⟨_, hc 4 _ rfl⟩
  | 5, _ => exact ⟨_, hc 5 _ rfl⟩
  | 6, _ => exact ⟨_, hc 6 _ rfl⟩
def marksTot : List S73 → Int
  | [] => 0
  | x :: l => 7 + (x.f7.length : Int) + (x.f8.length : Int) + marksTot l
theorem marksTot_nn : ∀ l, 0 ≤ marksTot l
  | [] => Int.le_refl _
  | x :: l => by have := marksTot_nn l; simp only [marksTot]; omega
theorem marksTot_len : ∀ l, (l.length : Int) ≤ marksTot l
  | [] => Int.le_refl _
  | x :: l => by have := marksTot_len l; simp only [marksTot, List.length_cons]; omega
theorem marksTot_at : ∀ (l : List S73) (i : Nat), i < l.length → marksTot (l.take i) + (7 + ((l.getD i z73).f7.length : Int) + ((l.getD i z73).f8.length : Int)) = marksTot (l.take (i + 1)) ∧ marksTot (l.take (i + 1)) ≤ marksTot l
  | x :: l, 0, _ => by have := marksTot_nn l; simp [marksTot]; omega
  | x :: l, i + 1, h => by
   have := marksTot_at l i (by simpa using h)
   simp only [List.take_succ_cons, marksTot, List.getD_cons_succ]
   omega
set_option maxHeartbeats 8000000 in
set_option maxRecDepth 100000 in
theorem marks_layers (P : Nat → Prop) (v : Value) (l : List S73) (a r : Int) (w0 w : World) (hB : Below w0.heap.size w0 w) (h : Kd.R k73 73 w w0.heap.size P v l) (hr : 0 ≤ a ∧ a + marksTot l ≤ 1000000000000000 ∧ r = a + marksTot l) :
   Calls Try.prog 73 #[v, .int .i64 a] w fun e w' => e = .returned (.int .i64 r) ∧ Aside0 (Below w0.heap.size w0 w') ∧ Aside0 (IK P w w') := by
  obtain ⟨A, c, rfl⟩ := Kd.R_slice h
  have HR := Aside0.mk h
  have HN := Aside0.mk hr
  have HK := Aside0.mk (IK.refl P w)
  have HB := Aside0.mk hB
  clear h hr hB
  go_enter Try.func73, Try.ntmps73
  go_wp2
  go_loopg [1, 5] l.length (fun kq v1 v5 w' => ∃ (x1_1 : Int) (x5_1 : Int), v1 = .int .i64 x1_1 ∧ v5 = .int .i64 x5_1 ∧ Aside0 (0 ≤ x5_1 ∧ x5_1 ≤ l.length ∧ x1_1 = a + marksTot (l.take x5_1.toNat) ∧ l.length - x5_1.toNat ≤ kq) ∧ Aside0 (Below w0.heap.size w0 w') ∧ Aside0 (IK P w w'))
  case atStart => exact ⟨a, 0, rfl, rfl, ⟨by simp [marksTot]⟩, HB, HK⟩
  case round =>
   clear HB HK
   obtain ⟨x1_1, x5_1, rfl, rfl, HX, HB, HK⟩ := hrel
   by_cases c3 : x5_1 < (l.length : Int)
   rotate_left
   ·have c3b0 : decide (x5_1 < (l.length : Int)) = false := decide_eq_false c3
    clear c3
    go_wp2
    go_ret
    exact ⟨by
     have h1 := HX.out
     have h2 := of_decide_eq_false c3b0
     have h3 := HN.out
     rw [show x5_1.toNat = l.length by omega, List.take_length] at h1
     rw [show x1_1 = r by omega]; rfl, HB, HK⟩
   have c3b0 : decide (x5_1 < (l.length : Int)) = true := decide_eq_true c3
   have c4b0 : decide (0 ≤ x5_1) = true := decide_eq_true HX.out.1
   obtain ⟨g, hA⟩ : ∃ g, A = some ⟨g, 0, none⟩ := by
    obtain ⟨g, c', hv, _⟩ := Kd.R_form HR.out (by have := HX.out.1; omega)
    injection hv with hv
    exact ⟨g, hv⟩
   subst hA
   obtain ⟨cs, A7, A8, c7, c8, hh, hp, hg, hi, h7, h8, ro7, ro8⟩ := marks_elem HR.out x5_1 HX.out.1 c3
   obtain ⟨n7, hn7⟩ : ∃ n, n = (rd_T73 l x5_1).f7.length := ⟨_, rfl⟩
   obtain ⟨n8, hn8⟩ : ∃ n, n = (rd_T73 l x5_1).f8.length := ⟨_, rfl⟩
   rw [← hn7] at h7 ro7
   rw [← hn8] at h8 ro8
   have HR7 := Aside0.mk ro7
   have HR8 := Aside0.mk ro8
   clear ro7 ro8
   obtain ⟨r7, hr7⟩ : ∃ r, r = x1_1 + 7 + (n7 : Int) := ⟨_, rfl⟩
   obtain ⟨r8, hr8⟩ : ∃ r, r = r7 + (n8 : Int) := ⟨_, rfl⟩
   have HTT := Aside0.mk (marksTot_at l x5_1.toNat (by have := HX.out.1; omega))
   have HT := Aside0.mk (show r8 = a + marksTot (l.take (x5_1 + 1).toNat) ∧ a ≤ x1_1 ∧ r8 ≤ 1000000000000000 by
    have h1 := HX.out
    have h2 := HTT.out
    have h3 := HN.out
    have h4 := marksTot_nn (l.take x5_1.toNat)
    rw [show (x5_1 + 1).toNat = x5_1.toNat + 1 by omega]
    simp only [rd_T73] at hn7 hn8
    rw [← hn7, ← hn8] at h2
    omega)
   have HS7 := Aside0.mk (show 0 ≤ (wrap64 ((wrap64 ((wrap64 ((wrap64 ((wrap64 ((wrap64 ((wrap64 (x1_1 + 1)) + 1)) + 1)) + 1)) + 1)) + 1)) + 1)) ∧ (wrap64 ((wrap64 ((wrap64 ((wrap64 ((wrap64 ((wrap64 ((wrap64 (x1_1 + 1)) + 1)) + 1)) + 1)) + 1)) + 1)) + 1)) + n7 ≤ 1000000000000000 ∧ r7 = (wrap64 ((wrap64 ((wrap64 ((wrap64 ((wrap64 ((wrap64 ((wrap64 (x1_1 + 1)) + 1)) + 1)) + 1)) + 1)) + 1)) + 1)) + n7 by
    have h1 := HT.out
    have h3 := HN.out
    rw [show (wrap64 ((wrap64 ((wrap64 ((wrap64 ((wrap64 ((wrap64 ((wrap64 (x1_1 + 1)) + 1)) + 1)) + 1)) + 1)) + 1)) + 1)) = x1_1 + 7 by unfold wrap64; omega]
    omega)
   have HS8 := Aside0.mk (show 0 ≤ r7 ∧ r7 + n8 ≤ 1000000000000000 ∧ r8 = r7 + n8 by
    have h1 := HT.out
    have h3 := HN.out
    omega)
   clear hr7 hr8 hn7 hn8
   have HH := Aside0.mk hh
   have HG := Aside0.mk hg
   have HP := Aside0.mk hp
   have HI := Aside0.mk hi
   have H7 := Aside0.mk h7
   have H8 := Aside0.mk h8
   clear hh hg hp hi h7 h8 c3
   obtain ⟨y0, hx0, hf0⟩ := marks_at HK.out HH.out (HI.out 0 (by decide))
   rw [Nat.add_zero] at hx0 hf0
   have p5 := eq_true HX.out.1
   have q5 := eq_true (of_decide_eq_true c3b0)
   go_wp2_with (first | ((with_reducible refine gate_store (t := 3) (p := 16) rfl ?_); refine store_event (t := 3) (p := 16) (v := ?vo0_) (w1 := wr.setCell ⟨g, x5_1.toNat * 9, none⟩ (.int .i64 x1_1)) ?hg ?ho ?hn ?hr ?_; (case ho => rfl); (case hg => rfl); (case hn => rfl); (case hr => first | (go_simp; done) | (go_simp; rfl)); intro w0_ hw; have n1 := Aside0.mk (show IK P w w0_ from by rw [hw]; exact HK.out.set HP.out (marks_cell HK.out HH.out (HI.out 0 (by decide)))); have n2 := Aside0.mk (show Below w0.heap.size w0 w0_ from by rw [hw]; exact below_set HB.out HG.out); clear hw HK HB hx0 hf0; have HK := n1; have HB := n2; clear n1 n2; obtain ⟨y1, hx1, hf1⟩ := marks_at HK.out HH.out (HI.out 1 (by decide))) | ((with_reducible refine gate_store (t := 3) (p := 23) rfl ?_); refine store_event (t := 3) (p := 23) (v := ?vo1_) (w1 := w0_.setCell ⟨g, x5_1.toNat * 9 + 1, none⟩ (.int .i64 (wrap64 (x1_1 + 1)))) ?hg ?ho ?hn ?hr ?_; (case ho => rfl); (case hg => rfl); (case hn => rfl); (case hr => first | (go_simp; done) | (go_simp; rfl)); intro w1_ hw; have n1 := Aside0.mk (show IK P w w1_ from by rw [hw]; exact HK.out.set HP.out (marks_cell HK.out HH.out (HI.out 1 (by decide)))); have n2 := Aside0.mk (show Below w0.heap.size w0 w1_ from by rw [hw]; exact below_set HB.out HG.out); clear hw HK HB hx1 hf1; have HK := n1; have HB := n2; clear n1 n2; obtain ⟨y2, hx2, hf2⟩ := marks_at HK.out HH.out (HI.out 2 (by decide))) | ((with_reducible refine gate_store (t := 3) (p := 30) rfl ?_); refine store_event (t := 3) (p := 30) (v := ?vo2_) (w1 := w1_.setCell ⟨g, x5_1.toNat * 9 + 2, none⟩ (.int .i64 (wrap64 ((wrap64 (x1_1 + 1)) + 1)))) ?hg ?ho ?hn ?hr ?_; (case ho => rfl); (case hg => rfl); (case hn => rfl); (case hr => first | (go_simp; done) | (go_simp; rfl)); intro w2_ hw; have n1 := Aside0.mk (show IK P w w2_ from by rw [hw]; exact HK.out.set HP.out (marks_cell HK.out HH.out (HI.out 2 (by decide)))); have n2 := Aside0.mk (show Below w0.heap.size w0 w2_ from by rw [hw]; exact below_set HB.out HG.out); clear hw HK HB hx2 hf2; have HK := n1; have HB := n2; clear n1 n2; obtain ⟨y3, hx3, hf3⟩ := marks_at HK.out HH.out (HI.out 3 (by decide))) | ((with_reducible refine gate_store (t := 3) (p := 37) rfl ?_); refine store_event (t := 3) (p := 37) (v := ?vo3_) (w1 := w2_.setCell ⟨g, x5_1.toNat * 9 + 3, none⟩ (.int .i64 (wrap64 ((wrap64 ((wrap64 (x1_1 + 1)) + 1)) + 1)))) ?hg ?ho ?hn ?hr ?_; (case ho => rfl); (case hg => rfl); (case hn => rfl); (case hr => first | (go_simp; done) | (go_simp; rfl)); intro w3_ hw; have n1 := Aside0.mk (show IK P w w3_ from by rw [hw]; exact HK.out.set HP.out (marks_cell HK.out HH.out (HI.out 3 (by decide)))); have n2 := Aside0.mk (show Below w0.heap.size w0 w3_ from by rw [hw]; exact below_set HB.out HG.out); clear hw HK HB hx3 hf3; have HK := n1; have HB := n2; clear n1 n2; obtain ⟨y4, hx4, hf4⟩ := marks_at HK.out HH.out (HI.out 4 (by decide))) | ((with_reducible refine gate_store (t := 3) (p := 44) rfl ?_); refine store_event (t := 3) (p := 44) (v := ?vo4_) (w1 := w3_.setCell ⟨g, x5_1.toNat * 9 + 4, none⟩ (.int .i64 (wrap64 ((wrap64 ((wrap64 ((wrap64 (x1_1 + 1)) + 1)) + 1)) + 1)))) ?hg ?ho ?hn ?hr ?_; (case ho => rfl); (case hg => rfl); (case hn => rfl); (case hr => first | (go_simp; done) | (go_simp; rfl)); intro w4_ hw; have n1 := Aside0.mk (show IK P w w4_ from by rw [hw]; exact HK.out.set HP.out (marks_cell HK.out HH.out (HI.out 4 (by decide)))); have n2 := Aside0.mk (show Below w0.heap.size w0 w4_ from by rw [hw]; exact below_set HB.out HG.out); clear hw HK HB hx4 hf4; have HK := n1; have HB := n2; clear n1 n2; obtain ⟨y5, hx5, hf5⟩ := marks_at HK.out HH.out (HI.out 5 (by decide))) | ((with_reducible refine gate_store (t := 3) (p := 51) rfl ?_); refine store_event (t := 3) (p := 51) (v := ?vo5_) (w1 := w4_.setCell ⟨g, x5_1.toNat * 9 + 5, none⟩ (.int .i64 (wrap64 ((wrap64 ((wrap64 ((wrap64 ((wrap64 (x1_1 + 1)) + 1)) + 1)) + 1)) + 1)))) ?hg ?ho ?hn ?hr ?_; (case ho => rfl); (case hg => rfl); (case hn => rfl); (case hr => first | (go_simp; done) | (go_simp; rfl)); intro w5_ hw; have n1 := Aside0.mk (show IK P w w5_ from by rw [hw]; exact HK.out.set HP.out (marks_cell HK.out HH.out (HI.out 5 (by decide)))); have n2 := Aside0.mk (show Below w0.heap.size w0 w5_ from by rw [hw]; exact below_set HB.out HG.out); clear hw HK HB hx5 hf5; have HK := n1; have HB := n2; clear n1 n2; obtain ⟨y6, hx6, hf6⟩ := marks_at HK.out HH.out (HI.out 6 (by decide))) | ((with_reducible refine gate_store (t := 3) (p := 58) rfl ?_); refine store_event (t := 3) (p := 58) (v := ?vo6_) (w1 := w5_.setCell ⟨g, x5_1.toNat * 9 + 6, none⟩ (.int .i64 (wrap64 ((wrap64 ((wrap64 ((wrap64 ((wrap64 ((wrap64 (x1_1 + 1)) + 1)) + 1)) + 1)) + 1)) + 1)))) ?hg ?ho ?hn ?hr ?_; (case ho => rfl); (case hg => rfl); (case hn => rfl); (case hr => first | (go_simp; done) | (go_simp; rfl)); intro w6_ hw; have n1 := Aside0.mk (show IK P w w6_ from by rw [hw]; exact HK.out.set HP.out (marks_cell HK.out HH.out (HI.out 6 (by decide)))); have n2 := Aside0.mk (show Below w0.heap.size w0 w6_ from by rw [hw]; exact below_set HB.out HG.out); clear hw HK HB hx6 hf6; have HK := n1; have HB := n2; clear n1 n2; have hx7 := HK.out.slice HH.out H7.out) | ((with_reducible refine gate_callee (f := 36) rfl ?_); refine goesM (some 67) rfl rfl Try.func36 (by kernel_rfl) rfl #[(.slice A7 n7 c7), .int .i64 (wrap64 ((wrap64 ((wrap64 ((wrap64 ((wrap64 ((wrap64 ((wrap64 (x1_1 + 1)) + 1)) + 1)) + 1)) + 1)) + 1)) + 1))] rfl ?_; (with_reducible refine (marks_ints P (.slice A7 n7 c7) n7 _ r7 w0 _ ?s1 ?s2 ?s3).mono ?_); (case s1 => exact HB.out); (case s2 => exact HR7.out.ik HK.out); (case s3 => exact HS7.out); rintro e w8_ ⟨rfl, nb, nk⟩; refine ⟨_, rfl, ?_⟩; have nk := Aside0.mk (HK.out.trans nk.out); clear HK HB hx7; have HK := nk; have HB := nb; clear nk nb; have hx8 := HK.out.slice HH.out H8.out) | ((with_reducible refine gate_callee (f := 36) rfl ?_); refine goesM (some 74) rfl rfl Try.func36 (by kernel_rfl) rfl #[(.slice A8 n8 c8), .int .i64 r7] rfl ?_; (with_reducible refine (marks_ints P (.slice A8 n8 c8) n8 _ r8 w0 _ ?s1 ?s2 ?s3).mono ?_); (case s1 => exact HB.out); (case s2 => exact HR8.out.ik HK.out); (case s3 => exact HS8.out); rintro e w9_ ⟨rfl, nb, nk⟩; refine ⟨_, rfl, ?_⟩; have nk := Aside0.mk (HK.out.trans nk.out); clear HK HB hx8; have HK := nk; have HB := nb; clear nk nb))
   go_roundg (gk - 1)
   case measure => have := HX.out; have := of_decide_eq_true c3b0; omega
   case rel => exact ⟨r8, wrap64 (x5_1 + 1), (by first | rfl | (simp; done) | (simp [*]; done)), (by first | rfl | (simp; done) | (simp [*]; done)), ⟨by
    have h1 := HX.out
    have h2 := HT.out
    have h3 := of_decide_eq_true c3b0
    have h4 := marksTot_len l
    have h5 := HN.out
    rw [show wrap64 (x5_1 + 1) = x5_1 + 1 by unfold wrap64; omega]
    omega⟩, HB, HK⟩
set_option maxHeartbeats 8000000 in
set_option maxRecDepth 100000 in
theorem marks_model (a0_0 : Int) (a0_1 : Int) (a0_2 : Int) (P : Nat → Prop) (v : Value) (l : List S73) (a1 r1 : Int) (w0 w : World) (hB : Below w0.heap.size w0 w) (hR : Kd.R k73 73 w w0.heap.size P v l) (hr : 0 ≤ a1 ∧ a1 + marksTot l ≤ 1000000000000000 ∧ r1 = a1 + marksTot l) :
   Calls Try.prog 28 #[.agg #[.int .i64 a0_0, .int .i64 a0_1, .int .i64 a0_2, v], .int .i64 a1] w fun e w' => e = .returned (.int .i64 r1) ∧ Aside0 (Below w0.heap.size w0 w') ∧ Aside0 (IK P w w') := by
  have hu := Try.underlying28
  obtain ⟨A, c, rfl⟩ := Kd.R_slice hR
  have HR := Aside0.mk hR
  have HN := Aside0.mk hr
  have HB := Aside0.mk hB
  have HL := Aside0.mk hB.size
  clear hr hR hB
  go_enter Try.func28, Try.ntmps28
  go_wp2_with (first | ((with_reducible refine gate_dst (N := 2) rfl ?_); refine boxM 2 #[.int .i64 a0_0, .int .i64 a0_1, .int .i64 a0_2, .slice A l.length c] 28 ?_; intro gb hg w5 BK hb; have HBW := Aside0.mk hb; clear hb hg; obtain ⟨hcz0, hcz1, hcz2, hcz3, hfz0, hfz1, hfz2, hfz3⟩ := cells4 BK.out) | ((with_reducible refine gate_callee (f := 73) rfl ?_); refine goesM (some 8) rfl rfl Try.func73 (by kernel_rfl) rfl #[.slice A l.length c, .int .i64 a1] rfl ?_; (with_reducible refine (marks_layers P (.slice A l.length c) l _ r1 w0 _ ?s1 ?s2 ?s3).mono ?_); (case s1 => exact (below_then HB.out HL.out HBW.out)); (case s2 => exact Kd.R_below HR.out HBW.out); (case s3 => exact HN.out); rintro e w8_ ⟨rfl, nb, nk⟩; refine ⟨_, rfl, ?_⟩))
  go_ret
  exact ⟨eqN, nb, ⟨((IK.refl P w).below HBW.out).trans nk.out⟩⟩
def laws_markModel.f (a0_0 a0_1 a0_2 : Int) (l0_3 : List S73) (a1 : Int) : Option Int := if 0 ≤ a1 ∧ a1 + marksTot l0_3 ≤ 1000000000000000 then some (a1 + marksTot l0_3) else none
theorem laws_markModel.calls (a0_0 : Int) (a0_1 : Int) (a0_2 : Int) (P0_3_ : Nat → Prop) (u9000_ : Value) (l0_3 : List S73) (a1 : Int) (r1 : Int) (w0 w : World) (hB : Below w0.heap.size w0 w) (ho0_3 : Kd.S k73 73 w w0.heap.size P0_3_ u9000_ l0_3) (h : laws_markModel.f a0_0 a0_1 a0_2 l0_3 a1 = some r1) :
   Calls Try.prog 28 #[.agg #[.int .i64 a0_0, .int .i64 a0_1, .int .i64 a0_2, u9000_], .int .i64 a1] w fun e w' => e = .returned (.int .i64 r1) ∧ Below w0.heap.size w0 w' ∧ Kept w w' (fun k_ => P0_3_ k_) := by
  have hr : 0 ≤ a1 ∧ a1 + marksTot l0_3 ≤ 1000000000000000 ∧ r1 = a1 + marksTot l0_3 := by
   unfold laws_markModel.f at h
   split at h
   ·rename_i hc
    exact ⟨hc.1, hc.2, (Option.some.inj h).symm⟩
   ·cases h
  exact (marks_model a0_0 a0_1 a0_2 P0_3_ u9000_ l0_3 a1 r1 w0 w hB (Kd.S_R ho0_3) hr).mono fun e w' ⟨h1, h2, h3⟩ => ⟨h1, h2.out, h3.out.kept⟩

end Go.Proofs.Ytljdcemdhmaahaa.PFnExactEncodeModel
