-- Printed by the session's own program (wip/myprint.py) for this claim out of the translation. Not trusted: Lean checks it.
import Derived.Test.YtclpojeofclbjaaPFnExactLeftOfx0
import Derived.Test.YtclpojeofclbjaaPFnExactLeftOfx20
namespace Go.Proofs.Ytclpojeofclbjaa.PFnExactLeftOf
open Go.RowKit Go.Proofs.YtclpojeofclbjaaW.PrintWords Go.Proofs.YtclpojeofclbjaaW.PrintLast Go.Proofs.YtclpojeofclbjaaW.PrintMore
attribute [local go_sem] max2_int min2_int max_two min_two max_three min_three max_four min_four   -- for this text's walks alone
set_option linter.unusedVariables false
set_option linter.unusedSimpArgs false

/-! ### laws_eqLayerS: function 88 -/
def laws_eqLayerS.l0 : Nat → List (S37) → List (S37) → Int → Option (Bool)
  | 0, _, _, _ => none
  | k + 1, x0, x1, x5 => if x5 < (x0.length : Int) then (if 0 ≤ x5 then (if x5 < (x1.length : Int) then ((laws_eqLayer.f k ((rd_T37 x0 x5).f0) ((rd_T37 x0 x5).f1) ((rd_T37 x0 x5).f2) ((rd_T37 x0 x5).f3) ((rd_T37 x0 x5).f4) ((rd_T37 x0 x5).f5) ((rd_T37 x0 x5).f6) ((rd_T37 x0 x5).f7) ((rd_T37 x0 x5).f8) ((rd_T37 x1 x5).f0) ((rd_T37 x1 x5).f1) ((rd_T37 x1 x5).f2) ((rd_T37 x1 x5).f3) ((rd_T37 x1 x5).f4) ((rd_T37 x1 x5).f5) ((rd_T37 x1 x5).f6) ((rd_T37 x1 x5).f7) ((rd_T37 x1 x5).f8)).bind fun t430 => (if t430 = true then (laws_eqLayerS.l0 k x0 x1 (wrap64 (x5 + 1))) else (some false))) else (none)) else (none)) else (some true)
def laws_eqLayerS.f (k : Nat) (l0 : List (S37)) (l1 : List (S37)) : Option (Bool) := if (l0.length : Int) = (l1.length : Int) then (laws_eqLayerS.l0 k l0 l1 0) else (some false)
def laws_eqLayerS.T6 : Bool × List (List Nat × List Nat) := (true, [([], []), ([], []), ([0, 1], [0, 1]), ([2], [2]), ([], []), ([], []), ([4, 5], [4, 5]), ([6], [6]), ([3, 7], [3, 7]), ([8], [8])])
def laws_eqLayerS.B6 : List Nat := [0, 0, 3, 7, 0, 0, 48, 112, 255, 511]
theorem laws_eqLayerS.tab6 : rtab .any (opsOf Try.f88 6) = laws_eqLayerS.T6 := by kernel_rfl
theorem laws_eqLayerS.bits6 : waitsOk laws_eqLayerS.T6.2 laws_eqLayerS.B6 = true := by kernel_rfl
set_option maxHeartbeats 8000000 in
set_option maxRecDepth 100000 in
theorem laws_eqLayerS.calls (k : Nat) (A0 : Option Addr) (c0 : Nat) (l0 : List (S37)) (A1 : Option Addr) (c1 : Nat) (l1 : List (S37)) (r : Bool) (w : World) (hr0 : Kd.C k37 w A0 l0.length l0) (hc0 : l0.length ≤ c0) (hr1 : Kd.C k37 w A1 l1.length l1) (hc1 : l1.length ≤ c1) (h : laws_eqLayerS.f k l0 l1 = some r) :
   Calls Try.prog 88 #[.slice A0 l0.length c0, .slice A1 l1.length c1] w fun e w' => e = .returned (.bool r) ∧ Below w.heap.size w w' := by
  have hu37 := Try.underlying37
  have HR0 := Aside0.mk hr0
  have HC0 := Aside0.mk hc0
  clear hr0 hc0
  have HR1 := Aside0.mk hr1
  have HC1 := Aside0.mk hc1
  clear hr1 hc1
  have HB := Aside0.mk (Below.refl w.heap.size w)
  have H : (if (l0.length : Int) = (l1.length : Int) then (laws_eqLayerS.l0 k l0 l1 0) else (some false)) = some r := h
  clear h
  by_cases c3 : (l0.length : Int) = (l1.length : Int)
  rotate_left
  ·rw [if_neg c3] at H
   have c3b0 : ((l0.length : Int) == (l1.length : Int)) = false := beq_eq_false_iff_ne.mpr c3
   have c3b1 : ((l0.length : Int) != (l1.length : Int)) = true := bne_iff_ne.mpr c3
   have c3b2 : (l0.length == l1.length) = false := by first | simpa using c3 | (simp at c3 ⊢; omega)
   obtain rfl := Option.some.inj H
   go_enter Try.func88, Try.ntmps88
   go_wp2
   go_ret
   exact ⟨eqN, bel_now⟩
  rw [if_pos c3] at H
  have c3b0 : ((l0.length : Int) == (l1.length : Int)) = true := beq_iff_eq.mpr c3
  have c3b1 : ((l0.length : Int) != (l1.length : Int)) = false := bne_eq_false_iff_eq.mpr c3
  have c3b2 : (l0.length == l1.length) = true := by first | simpa using c3 | (simp at c3 ⊢; omega)
  clear c3
  have H' := Aside0.mk H
  clear H
  go_enter Try.func88, Try.ntmps88
  go_wp2
  go_loopg [5] k (fun kq v5 w' => ∃ (x5_1 : Int), v5 = .int .i64 x5_1 ∧ Aside0 (laws_eqLayerS.l0 kq l0 l1 x5_1 = some r) ∧ Aside0 (kq ≤ k) ∧ Aside0 (Below w.heap.size w w'))
  case atStart => exact ⟨(0), (by first | rfl | (simp; done) | (simp [*]; done)), H', ⟨Nat.le_refl _⟩, ⟨bel_now⟩⟩
  case round =>
   clear H'
   try clear c1
   try clear p2
   try clear c3
   try clear c3b0
   try clear c3b1
   try clear c3b2
   obtain ⟨x5_1, rfl, HA, HK1, HB⟩ := hrel
   cases gk with
   | zero => exact absurd HA.out (by simp [laws_eqLayerS.l0])
   | succ k1 =>
    have H := HA.out
    clear HA
    simp only [laws_eqLayerS.l0] at H
    by_cases c4 : x5_1 < (l0.length : Int)
    rotate_left
    ·rw [if_neg c4] at H
     have c4b0 : decide (x5_1 < (l0.length : Int)) = false := decide_eq_false c4
     clear c4
     obtain rfl := Option.some.inj H
     go_wp2
     go_ret
     exact ⟨eqN, bel_now⟩
    rw [if_pos c4] at H
    have c4b0 : decide (x5_1 < (l0.length : Int)) = true := decide_eq_true c4
    clear c4
    by_cases c5 : 0 ≤ x5_1
    rotate_left
    ·rw [if_neg c5] at H
     exact absurd H (by simp)
    rw [if_pos c5] at H
    have c5b0 : decide (0 ≤ x5_1) = true := decide_eq_true c5
    clear c5
    by_cases c6 : x5_1 < (l1.length : Int)
    rotate_left
    ·rw [if_neg c6] at H
     exact absurd H (by simp)
    rw [if_pos c6] at H
    have c6b0 : decide (x5_1 < (l1.length : Int)) = true := decide_eq_true c6
    clear c6
    replace H := Option.bind_eq_some_iff.mp H
    obtain ⟨t430, A70, H⟩ := H
    (try dsimp only at H)
    have A7 := Aside0.mk A70
    clear A70
    by_cases c8 : t430 = true
    rotate_left
    ·replace c8 := Bool.eq_false_iff.mpr c8
     subst c8
     rw [if_neg (show ¬ (false = true) by decide)] at H
     obtain rfl := Option.some.inj H
     try go_wp2
     replace HB := Aside0.mk (below_drew1 HB.out)
     have p428 : 0 ≤ (x5_1 : Int) := of_decide_eq_true (by first | (with_reducible assumption) | assumption)
     have q428 : x5_1 < (l0.length : Int) := of_decide_eq_true (by first | (with_reducible assumption) | assumption)
     obtain ⟨ad428, A428_7, c428_7, A428_8, c428_8, e428, hx428_0, hx428_1, hx428_2, hx428_3, hx428_4, hx428_5, hx428_6, hx428_7, hx428_8, hl428_7, hi428_7, hl428_8, hi428_8⟩ := at_T37 HR0.out x5_1 p428 q428
     have hw428_8 := hx428_8
     have hw428_7 := hx428_7
     have hw428_6 := hx428_6
     have hw428_5 := hx428_5
     have hw428_4 := hx428_4
     have hw428_3 := hx428_3
     have hw428_2 := hx428_2
     have hw428_1 := hx428_1
     have hw428_0 := hx428_0
     cases e428
     replace hx428_0 := (HB.out.cell (World.block_lt_of_cell? w _ hx428_0)).trans hx428_0
     replace hx428_1 := (HB.out.cell (World.block_lt_of_cell? w _ hx428_1)).trans hx428_1
     replace hx428_2 := (HB.out.cell (World.block_lt_of_cell? w _ hx428_2)).trans hx428_2
     replace hx428_3 := (HB.out.cell (World.block_lt_of_cell? w _ hx428_3)).trans hx428_3
     replace hx428_4 := (HB.out.cell (World.block_lt_of_cell? w _ hx428_4)).trans hx428_4
     replace hx428_5 := (HB.out.cell (World.block_lt_of_cell? w _ hx428_5)).trans hx428_5
     replace hx428_6 := (HB.out.cell (World.block_lt_of_cell? w _ hx428_6)).trans hx428_6
     replace hx428_7 := (HB.out.cell (World.block_lt_of_cell? w _ hx428_7)).trans hx428_7
     replace hx428_8 := (HB.out.cell (World.block_lt_of_cell? w _ hx428_8)).trans hx428_8
     have HR428_7 := Aside0.mk hi428_7
     have HC428_7 := Aside0.mk hl428_7
     clear hi428_7 hl428_7
     have HR428_8 := Aside0.mk hi428_8
     have HC428_8 := Aside0.mk hl428_8
     clear hi428_8 hl428_8
     replace p428 := eq_true p428
     replace q428 := eq_true q428
     have p429 : 0 ≤ (x5_1 : Int) := of_decide_eq_true (by first | (with_reducible assumption) | assumption)
     have q429 : x5_1 < (l1.length : Int) := of_decide_eq_true (by first | (with_reducible assumption) | assumption)
     obtain ⟨ad429, A429_7, c429_7, A429_8, c429_8, e429, hx429_0, hx429_1, hx429_2, hx429_3, hx429_4, hx429_5, hx429_6, hx429_7, hx429_8, hl429_7, hi429_7, hl429_8, hi429_8⟩ := at_T37 HR1.out x5_1 p429 q429
     have hw429_8 := hx429_8
     have hw429_7 := hx429_7
     have hw429_6 := hx429_6
     have hw429_5 := hx429_5
     have hw429_4 := hx429_4
     have hw429_3 := hx429_3
     have hw429_2 := hx429_2
     have hw429_1 := hx429_1
     have hw429_0 := hx429_0
     cases e429
     replace hx429_0 := (HB.out.cell (World.block_lt_of_cell? w _ hx429_0)).trans hx429_0
     replace hx429_1 := (HB.out.cell (World.block_lt_of_cell? w _ hx429_1)).trans hx429_1
     replace hx429_2 := (HB.out.cell (World.block_lt_of_cell? w _ hx429_2)).trans hx429_2
     replace hx429_3 := (HB.out.cell (World.block_lt_of_cell? w _ hx429_3)).trans hx429_3
     replace hx429_4 := (HB.out.cell (World.block_lt_of_cell? w _ hx429_4)).trans hx429_4
     replace hx429_5 := (HB.out.cell (World.block_lt_of_cell? w _ hx429_5)).trans hx429_5
     replace hx429_6 := (HB.out.cell (World.block_lt_of_cell? w _ hx429_6)).trans hx429_6
     replace hx429_7 := (HB.out.cell (World.block_lt_of_cell? w _ hx429_7)).trans hx429_7
     replace hx429_8 := (HB.out.cell (World.block_lt_of_cell? w _ hx429_8)).trans hx429_8
     have HR429_7 := Aside0.mk hi429_7
     have HC429_7 := Aside0.mk hl429_7
     clear hi429_7 hl429_7
     have HR429_8 := Aside0.mk hi429_8
     have HC429_8 := Aside0.mk hl429_8
     clear hi429_8 hl429_8
     replace p429 := eq_true p429
     replace q429 := eq_true q429
     refine start_ (n := 10) (S := fun w' => w'.cell? (ad428.add ((x5_1).toNat * 9)) = some (.int .i64 ((rd_T37 l0 x5_1).f0)) ∧ w'.cell? ⟨(ad428.add ((x5_1).toNat * 9)).block, (ad428.add ((x5_1).toNat * 9)).off + 1, none⟩ = some (.int .i64 ((rd_T37 l0 x5_1).f1)) ∧ w'.cell? ⟨(ad428.add ((x5_1).toNat * 9)).block, (ad428.add ((x5_1).toNat * 9)).off + 2, none⟩ = some (.int .i64 ((rd_T37 l0 x5_1).f2)) ∧ w'.cell? ⟨(ad428.add ((x5_1).toNat * 9)).block, (ad428.add ((x5_1).toNat * 9)).off + 3, none⟩ = some (.int .i64 ((rd_T37 l0 x5_1).f3)) ∧ w'.cell? ⟨(ad428.add ((x5_1).toNat * 9)).block, (ad428.add ((x5_1).toNat * 9)).off + 4, none⟩ = some (.int .i64 ((rd_T37 l0 x5_1).f4)) ∧ w'.cell? ⟨(ad428.add ((x5_1).toNat * 9)).block, (ad428.add ((x5_1).toNat * 9)).off + 5, none⟩ = some (.int .i64 ((rd_T37 l0 x5_1).f5)) ∧ w'.cell? ⟨(ad428.add ((x5_1).toNat * 9)).block, (ad428.add ((x5_1).toNat * 9)).off + 6, none⟩ = some (.int .i64 ((rd_T37 l0 x5_1).f6)) ∧ w'.cell? ⟨(ad428.add ((x5_1).toNat * 9)).block, (ad428.add ((x5_1).toNat * 9)).off + 7, none⟩ = some (.slice A428_7 ((rd_T37 l0 x5_1).f7).length c428_7) ∧ w'.cell? ⟨(ad428.add ((x5_1).toNat * 9)).block, (ad428.add ((x5_1).toNat * 9)).off + 8, none⟩ = some (.slice A428_8 ((rd_T37 l0 x5_1).f8).length c428_8) ∧ w'.cell? (ad429.add ((x5_1).toNat * 9)) = some (.int .i64 ((rd_T37 l1 x5_1).f0)) ∧ w'.cell? ⟨(ad429.add ((x5_1).toNat * 9)).block, (ad429.add ((x5_1).toNat * 9)).off + 1, none⟩ = some (.int .i64 ((rd_T37 l1 x5_1).f1)) ∧ w'.cell? ⟨(ad429.add ((x5_1).toNat * 9)).block, (ad429.add ((x5_1).toNat * 9)).off + 2, none⟩ = some (.int .i64 ((rd_T37 l1 x5_1).f2)) ∧ w'.cell? ⟨(ad429.add ((x5_1).toNat * 9)).block, (ad429.add ((x5_1).toNat * 9)).off + 3, none⟩ = some (.int .i64 ((rd_T37 l1 x5_1).f3)) ∧ w'.cell? ⟨(ad429.add ((x5_1).toNat * 9)).block, (ad429.add ((x5_1).toNat * 9)).off + 4, none⟩ = some (.int .i64 ((rd_T37 l1 x5_1).f4)) ∧ w'.cell? ⟨(ad429.add ((x5_1).toNat * 9)).block, (ad429.add ((x5_1).toNat * 9)).off + 5, none⟩ = some (.int .i64 ((rd_T37 l1 x5_1).f5)) ∧ w'.cell? ⟨(ad429.add ((x5_1).toNat * 9)).block, (ad429.add ((x5_1).toNat * 9)).off + 6, none⟩ = some (.int .i64 ((rd_T37 l1 x5_1).f6)) ∧ w'.cell? ⟨(ad429.add ((x5_1).toNat * 9)).block, (ad429.add ((x5_1).toNat * 9)).off + 7, none⟩ = some (.slice A429_7 ((rd_T37 l1 x5_1).f7).length c429_7) ∧ w'.cell? ⟨(ad429.add ((x5_1).toNat * 9)).block, (ad429.add ((x5_1).toNat * 9)).off + 8, none⟩ = some (.slice A429_8 ((rd_T37 l1 x5_1).f8).length c429_8)) (ds := []) #[O, O, O, O, O, O, O, O, O, O] (by kernel_rfl) rfl rfl ⟨((HB.out.cell (World.block_lt_of_cell? w _ hw428_0)).trans hw428_0), ((HB.out.cell (World.block_lt_of_cell? w _ hw428_1)).trans hw428_1), ((HB.out.cell (World.block_lt_of_cell? w _ hw428_2)).trans hw428_2), ((HB.out.cell (World.block_lt_of_cell? w _ hw428_3)).trans hw428_3), ((HB.out.cell (World.block_lt_of_cell? w _ hw428_4)).trans hw428_4), ((HB.out.cell (World.block_lt_of_cell? w _ hw428_5)).trans hw428_5), ((HB.out.cell (World.block_lt_of_cell? w _ hw428_6)).trans hw428_6), ((HB.out.cell (World.block_lt_of_cell? w _ hw428_7)).trans hw428_7), ((HB.out.cell (World.block_lt_of_cell? w _ hw428_8)).trans hw428_8), ((HB.out.cell (World.block_lt_of_cell? w _ hw429_0)).trans hw429_0), ((HB.out.cell (World.block_lt_of_cell? w _ hw429_1)).trans hw429_1), ((HB.out.cell (World.block_lt_of_cell? w _ hw429_2)).trans hw429_2), ((HB.out.cell (World.block_lt_of_cell? w _ hw429_3)).trans hw429_3), ((HB.out.cell (World.block_lt_of_cell? w _ hw429_4)).trans hw429_4), ((HB.out.cell (World.block_lt_of_cell? w _ hw429_5)).trans hw429_5), ((HB.out.cell (World.block_lt_of_cell? w _ hw429_6)).trans hw429_6), ((HB.out.cell (World.block_lt_of_cell? w _ hw429_7)).trans hw429_7), ((HB.out.cell (World.block_lt_of_cell? w _ hw429_8)).trans hw429_8)⟩ (fun hHeld => ?_); refine with_tabW laws_eqLayerS.tab6 laws_eqLayerS.bits6 (fun HT_ HW_ => ?_)
     generalize wr.drew = w11 at HB HR428_7 HR428_8 HR429_7 HR429_8 hx428_0 hx428_1 hx428_2 hx428_3 hx428_4 hx428_5 hx428_6 hx428_7 hx428_8 hx429_0 hx429_1 hx429_2 hx429_3 hx429_4 hx429_5 hx429_6 hx429_7 hx429_8 hHeld ⊢
     refine stepP 0 (some 17) (tk 10 1) (any_of HT_.out (by kernel_rfl)) ?_
     refine stepP 1 (some 18) (tk 10 3) (any_of HT_.out (by kernel_rfl)) ?_
     refine stepP 2 (some 19) (tk 10 7) (any_of HT_.out (by kernel_rfl)) ?_
     refine stepP 4 (some 21) (tk 10 23) (any_of HT_.out (by kernel_rfl)) ?_
     refine stepP 5 (some 22) (tk 10 55) (any_of HT_.out (by kernel_rfl)) ?_
     refine stepP 6 (some 23) (tk 10 119) (any_of HT_.out (by kernel_rfl)) ?_
     refine stepT 3 (some 20) (tk 10 127) (take_ofW HT_.out HW_.out (by kernel_rfl)) hHeld ?_
     refine stepT 7 (some 24) (tk 10 255) (take_ofW HT_.out HW_.out (by kernel_rfl)) hHeld ?_
     refine one_ (i := 8) (N := some 25) #[I, I, I, I, I, I, I, I, I, O] rfl rfl (one_of HT_.out (by kernel_rfl)) (by decide) (fun K hK => ?_)
     refine goes_ Try.func15 (by kernel_rfl) rfl #[.agg #[.int .i64 ((rd_T37 l0 x5_1).f0), .int .i64 ((rd_T37 l0 x5_1).f1), .int .i64 ((rd_T37 l0 x5_1).f2), .int .i64 ((rd_T37 l0 x5_1).f3), .int .i64 ((rd_T37 l0 x5_1).f4), .int .i64 ((rd_T37 l0 x5_1).f5), .int .i64 ((rd_T37 l0 x5_1).f6), .slice A428_7 ((rd_T37 l0 x5_1).f7).length c428_7, .slice A428_8 ((rd_T37 l0 x5_1).f8).length c428_8], .agg #[.int .i64 ((rd_T37 l1 x5_1).f0), .int .i64 ((rd_T37 l1 x5_1).f1), .int .i64 ((rd_T37 l1 x5_1).f2), .int .i64 ((rd_T37 l1 x5_1).f3), .int .i64 ((rd_T37 l1 x5_1).f4), .int .i64 ((rd_T37 l1 x5_1).f5), .int .i64 ((rd_T37 l1 x5_1).f6), .slice A429_7 ((rd_T37 l1 x5_1).f7).length c429_7, .slice A429_8 ((rd_T37 l1 x5_1).f8).length c429_8]] (by rfl) rfl rfl (by (try simp only [List.map_toArray, List.map_cons, List.map_nil]); first | done | rfl | (simp only [List.length_drop, List.length_take]; rfl)) ?_
     with_reducible refine (laws_eqLayer.calls k1 ((rd_T37 l0 x5_1).f0) ((rd_T37 l0 x5_1).f1) ((rd_T37 l0 x5_1).f2) ((rd_T37 l0 x5_1).f3) ((rd_T37 l0 x5_1).f4) ((rd_T37 l0 x5_1).f5) ((rd_T37 l0 x5_1).f6) _ _ ((rd_T37 l0 x5_1).f7) _ _ ((rd_T37 l0 x5_1).f8) ((rd_T37 l1 x5_1).f0) ((rd_T37 l1 x5_1).f1) ((rd_T37 l1 x5_1).f2) ((rd_T37 l1 x5_1).f3) ((rd_T37 l1 x5_1).f4) ((rd_T37 l1 x5_1).f5) ((rd_T37 l1 x5_1).f6) _ _ ((rd_T37 l1 x5_1).f7) _ _ ((rd_T37 l1 x5_1).f8) false _ ?side1 ?side2 ?side3 ?side4 ?side5 ?side6 ?side7 ?side8 A7.out).mono ?_
     (case side1 => exact C_now HR428_7.out)
     (case side2 => exact HC428_7.out)
     (case side3 => exact C_now HR428_8.out)
     (case side4 => exact HC428_8.out)
     (case side5 => exact C_now HR429_7.out)
     (case side6 => exact HC429_7.out)
     (case side7 => exact C_now HR429_8.out)
     (case side8 => exact HC429_8.out)
     rintro e w12 ⟨rfl, hb⟩
     refine ⟨_, rfl, ?_⟩
     replace HB := bel_on w hb
     (try clear hb)
     refine hK.out _ _ ⟨((HB.out.cell (World.block_lt_of_cell? w _ hw428_0)).trans hw428_0), ((HB.out.cell (World.block_lt_of_cell? w _ hw428_1)).trans hw428_1), ((HB.out.cell (World.block_lt_of_cell? w _ hw428_2)).trans hw428_2), ((HB.out.cell (World.block_lt_of_cell? w _ hw428_3)).trans hw428_3), ((HB.out.cell (World.block_lt_of_cell? w _ hw428_4)).trans hw428_4), ((HB.out.cell (World.block_lt_of_cell? w _ hw428_5)).trans hw428_5), ((HB.out.cell (World.block_lt_of_cell? w _ hw428_6)).trans hw428_6), ((HB.out.cell (World.block_lt_of_cell? w _ hw428_7)).trans hw428_7), ((HB.out.cell (World.block_lt_of_cell? w _ hw428_8)).trans hw428_8), ((HB.out.cell (World.block_lt_of_cell? w _ hw429_0)).trans hw429_0), ((HB.out.cell (World.block_lt_of_cell? w _ hw429_1)).trans hw429_1), ((HB.out.cell (World.block_lt_of_cell? w _ hw429_2)).trans hw429_2), ((HB.out.cell (World.block_lt_of_cell? w _ hw429_3)).trans hw429_3), ((HB.out.cell (World.block_lt_of_cell? w _ hw429_4)).trans hw429_4), ((HB.out.cell (World.block_lt_of_cell? w _ hw429_5)).trans hw429_5), ((HB.out.cell (World.block_lt_of_cell? w _ hw429_6)).trans hw429_6), ((HB.out.cell (World.block_lt_of_cell? w _ hw429_7)).trans hw429_7), ((HB.out.cell (World.block_lt_of_cell? w _ hw429_8)).trans hw429_8)⟩ (fun hHeld => ?_)
     clear hK K
     refine normP 25 ?_
     refine stepP 9 (some 26) (tk 10 1023) (any_of HT_.out (by kernel_rfl)) ?_
     refine done_ (done_of HT_.out (by kernel_rfl)) ?_
     try go_wp2
     go_ret
     exact ⟨eqN, bel_now⟩
    subst c8
    rw [if_pos rfl] at H
    have H' := Aside0.mk H
    clear H
    try go_wp2
    replace HB := Aside0.mk (below_drew1 HB.out)
    have p428 : 0 ≤ (x5_1 : Int) := of_decide_eq_true (by first | (with_reducible assumption) | assumption)
    have q428 : x5_1 < (l0.length : Int) := of_decide_eq_true (by first | (with_reducible assumption) | assumption)
    obtain ⟨ad428, A428_7, c428_7, A428_8, c428_8, e428, hx428_0, hx428_1, hx428_2, hx428_3, hx428_4, hx428_5, hx428_6, hx428_7, hx428_8, hl428_7, hi428_7, hl428_8, hi428_8⟩ := at_T37 HR0.out x5_1 p428 q428
    have hw428_8 := hx428_8
    have hw428_7 := hx428_7
    have hw428_6 := hx428_6
    have hw428_5 := hx428_5
    have hw428_4 := hx428_4
    have hw428_3 := hx428_3
    have hw428_2 := hx428_2
    have hw428_1 := hx428_1
    have hw428_0 := hx428_0
    cases e428
    replace hx428_0 := (HB.out.cell (World.block_lt_of_cell? w _ hx428_0)).trans hx428_0
    replace hx428_1 := (HB.out.cell (World.block_lt_of_cell? w _ hx428_1)).trans hx428_1
    replace hx428_2 := (HB.out.cell (World.block_lt_of_cell? w _ hx428_2)).trans hx428_2
    replace hx428_3 := (HB.out.cell (World.block_lt_of_cell? w _ hx428_3)).trans hx428_3
    replace hx428_4 := (HB.out.cell (World.block_lt_of_cell? w _ hx428_4)).trans hx428_4
    replace hx428_5 := (HB.out.cell (World.block_lt_of_cell? w _ hx428_5)).trans hx428_5
    replace hx428_6 := (HB.out.cell (World.block_lt_of_cell? w _ hx428_6)).trans hx428_6
    replace hx428_7 := (HB.out.cell (World.block_lt_of_cell? w _ hx428_7)).trans hx428_7
    replace hx428_8 := (HB.out.cell (World.block_lt_of_cell? w _ hx428_8)).trans hx428_8
    have HR428_7 := Aside0.mk hi428_7
    have HC428_7 := Aside0.mk hl428_7
    clear hi428_7 hl428_7
    have HR428_8 := Aside0.mk hi428_8
    have HC428_8 := Aside0.mk hl428_8
    clear hi428_8 hl428_8
    replace p428 := eq_true p428
    replace q428 := eq_true q428
    have p429 : 0 ≤ (x5_1 : Int) := of_decide_eq_true (by first | (with_reducible assumption) | assumption)
    have q429 : x5_1 < (l1.length : Int) := of_decide_eq_true (by first | (with_reducible assumption) | assumption)
    obtain ⟨ad429, A429_7, c429_7, A429_8, c429_8, e429, hx429_0, hx429_1, hx429_2, hx429_3, hx429_4, hx429_5, hx429_6, hx429_7, hx429_8, hl429_7, hi429_7, hl429_8, hi429_8⟩ := at_T37 HR1.out x5_1 p429 q429
    have hw429_8 := hx429_8
    have hw429_7 := hx429_7
    have hw429_6 := hx429_6
    have hw429_5 := hx429_5
    have hw429_4 := hx429_4
    have hw429_3 := hx429_3
    have hw429_2 := hx429_2
    have hw429_1 := hx429_1
    have hw429_0 := hx429_0
    cases e429
    replace hx429_0 := (HB.out.cell (World.block_lt_of_cell? w _ hx429_0)).trans hx429_0
    replace hx429_1 := (HB.out.cell (World.block_lt_of_cell? w _ hx429_1)).trans hx429_1
    replace hx429_2 := (HB.out.cell (World.block_lt_of_cell? w _ hx429_2)).trans hx429_2
    replace hx429_3 := (HB.out.cell (World.block_lt_of_cell? w _ hx429_3)).trans hx429_3
    replace hx429_4 := (HB.out.cell (World.block_lt_of_cell? w _ hx429_4)).trans hx429_4
    replace hx429_5 := (HB.out.cell (World.block_lt_of_cell? w _ hx429_5)).trans hx429_5
    replace hx429_6 := (HB.out.cell (World.block_lt_of_cell? w _ hx429_6)).trans hx429_6
    replace hx429_7 := (HB.out.cell (World.block_lt_of_cell? w _ hx429_7)).trans hx429_7
    replace hx429_8 := (HB.out.cell (World.block_lt_of_cell? w _ hx429_8)).trans hx429_8
    have HR429_7 := Aside0.mk hi429_7
    have HC429_7 := Aside0.mk hl429_7
    clear hi429_7 hl429_7
    have HR429_8 := Aside0.mk hi429_8
    have HC429_8 := Aside0.mk hl429_8
    clear hi429_8 hl429_8
    replace p429 := eq_true p429
    replace q429 := eq_true q429
    refine start_ (n := 10) (S := fun w' => w'.cell? (ad428.add ((x5_1).toNat * 9)) = some (.int .i64 ((rd_T37 l0 x5_1).f0)) ∧ w'.cell? ⟨(ad428.add ((x5_1).toNat * 9)).block, (ad428.add ((x5_1).toNat * 9)).off + 1, none⟩ = some (.int .i64 ((rd_T37 l0 x5_1).f1)) ∧ w'.cell? ⟨(ad428.add ((x5_1).toNat * 9)).block, (ad428.add ((x5_1).toNat * 9)).off + 2, none⟩ = some (.int .i64 ((rd_T37 l0 x5_1).f2)) ∧ w'.cell? ⟨(ad428.add ((x5_1).toNat * 9)).block, (ad428.add ((x5_1).toNat * 9)).off + 3, none⟩ = some (.int .i64 ((rd_T37 l0 x5_1).f3)) ∧ w'.cell? ⟨(ad428.add ((x5_1).toNat * 9)).block, (ad428.add ((x5_1).toNat * 9)).off + 4, none⟩ = some (.int .i64 ((rd_T37 l0 x5_1).f4)) ∧ w'.cell? ⟨(ad428.add ((x5_1).toNat * 9)).block, (ad428.add ((x5_1).toNat * 9)).off + 5, none⟩ = some (.int .i64 ((rd_T37 l0 x5_1).f5)) ∧ w'.cell? ⟨(ad428.add ((x5_1).toNat * 9)).block, (ad428.add ((x5_1).toNat * 9)).off + 6, none⟩ = some (.int .i64 ((rd_T37 l0 x5_1).f6)) ∧ w'.cell? ⟨(ad428.add ((x5_1).toNat * 9)).block, (ad428.add ((x5_1).toNat * 9)).off + 7, none⟩ = some (.slice A428_7 ((rd_T37 l0 x5_1).f7).length c428_7) ∧ w'.cell? ⟨(ad428.add ((x5_1).toNat * 9)).block, (ad428.add ((x5_1).toNat * 9)).off + 8, none⟩ = some (.slice A428_8 ((rd_T37 l0 x5_1).f8).length c428_8) ∧ w'.cell? (ad429.add ((x5_1).toNat * 9)) = some (.int .i64 ((rd_T37 l1 x5_1).f0)) ∧ w'.cell? ⟨(ad429.add ((x5_1).toNat * 9)).block, (ad429.add ((x5_1).toNat * 9)).off + 1, none⟩ = some (.int .i64 ((rd_T37 l1 x5_1).f1)) ∧ w'.cell? ⟨(ad429.add ((x5_1).toNat * 9)).block, (ad429.add ((x5_1).toNat * 9)).off + 2, none⟩ = some (.int .i64 ((rd_T37 l1 x5_1).f2)) ∧ w'.cell? ⟨(ad429.add ((x5_1).toNat * 9)).block, (ad429.add ((x5_1).toNat * 9)).off + 3, none⟩ = some (.int .i64 ((rd_T37 l1 x5_1).f3)) ∧ w'.cell? ⟨(ad429.add ((x5_1).toNat * 9)).block, (ad429.add ((x5_1).toNat * 9)).off + 4, none⟩ = some (.int .i64 ((rd_T37 l1 x5_1).f4)) ∧ w'.cell? ⟨(ad429.add ((x5_1).toNat * 9)).block, (ad429.add ((x5_1).toNat * 9)).off + 5, none⟩ = some (.int .i64 ((rd_T37 l1 x5_1).f5)) ∧ w'.cell? ⟨(ad429.add ((x5_1).toNat * 9)).block, (ad429.add ((x5_1).toNat * 9)).off + 6, none⟩ = some (.int .i64 ((rd_T37 l1 x5_1).f6)) ∧ w'.cell? ⟨(ad429.add ((x5_1).toNat * 9)).block, (ad429.add ((x5_1).toNat * 9)).off + 7, none⟩ = some (.slice A429_7 ((rd_T37 l1 x5_1).f7).length c429_7) ∧ w'.cell? ⟨(ad429.add ((x5_1).toNat * 9)).block, (ad429.add ((x5_1).toNat * 9)).off + 8, none⟩ = some (.slice A429_8 ((rd_T37 l1 x5_1).f8).length c429_8)) (ds := []) #[O, O, O, O, O, O, O, O, O, O] (by kernel_rfl) rfl rfl ⟨((HB.out.cell (World.block_lt_of_cell? w _ hw428_0)).trans hw428_0), ((HB.out.cell (World.block_lt_of_cell? w _ hw428_1)).trans hw428_1), ((HB.out.cell (World.block_lt_of_cell? w _ hw428_2)).trans hw428_2), ((HB.out.cell (World.block_lt_of_cell? w _ hw428_3)).trans hw428_3), ((HB.out.cell (World.block_lt_of_cell? w _ hw428_4)).trans hw428_4), ((HB.out.cell (World.block_lt_of_cell? w _ hw428_5)).trans hw428_5), ((HB.out.cell (World.block_lt_of_cell? w _ hw428_6)).trans hw428_6), ((HB.out.cell (World.block_lt_of_cell? w _ hw428_7)).trans hw428_7), ((HB.out.cell (World.block_lt_of_cell? w _ hw428_8)).trans hw428_8), ((HB.out.cell (World.block_lt_of_cell? w _ hw429_0)).trans hw429_0), ((HB.out.cell (World.block_lt_of_cell? w _ hw429_1)).trans hw429_1), ((HB.out.cell (World.block_lt_of_cell? w _ hw429_2)).trans hw429_2), ((HB.out.cell (World.block_lt_of_cell? w _ hw429_3)).trans hw429_3), ((HB.out.cell (World.block_lt_of_cell? w _ hw429_4)).trans hw429_4), ((HB.out.cell (World.block_lt_of_cell? w _ hw429_5)).trans hw429_5), ((HB.out.cell (World.block_lt_of_cell? w _ hw429_6)).trans hw429_6), ((HB.out.cell (World.block_lt_of_cell? w _ hw429_7)).trans hw429_7), ((HB.out.cell (World.block_lt_of_cell? w _ hw429_8)).trans hw429_8)⟩ (fun hHeld => ?_); refine with_tabW laws_eqLayerS.tab6 laws_eqLayerS.bits6 (fun HT_ HW_ => ?_)
    generalize wr.drew = w9 at HB HR428_7 HR428_8 HR429_7 HR429_8 hx428_0 hx428_1 hx428_2 hx428_3 hx428_4 hx428_5 hx428_6 hx428_7 hx428_8 hx429_0 hx429_1 hx429_2 hx429_3 hx429_4 hx429_5 hx429_6 hx429_7 hx429_8 hHeld ⊢
    refine stepP 0 (some 17) (tk 10 1) (any_of HT_.out (by kernel_rfl)) ?_
    refine stepP 1 (some 18) (tk 10 3) (any_of HT_.out (by kernel_rfl)) ?_
    refine stepP 2 (some 19) (tk 10 7) (any_of HT_.out (by kernel_rfl)) ?_
    refine stepP 4 (some 21) (tk 10 23) (any_of HT_.out (by kernel_rfl)) ?_
    refine stepP 5 (some 22) (tk 10 55) (any_of HT_.out (by kernel_rfl)) ?_
    refine stepP 6 (some 23) (tk 10 119) (any_of HT_.out (by kernel_rfl)) ?_
    refine stepT 3 (some 20) (tk 10 127) (take_ofW HT_.out HW_.out (by kernel_rfl)) hHeld ?_
    refine stepT 7 (some 24) (tk 10 255) (take_ofW HT_.out HW_.out (by kernel_rfl)) hHeld ?_
    refine one_ (i := 8) (N := some 25) #[I, I, I, I, I, I, I, I, I, O] rfl rfl (one_of HT_.out (by kernel_rfl)) (by decide) (fun K hK => ?_)
    refine goes_ Try.func15 (by kernel_rfl) rfl #[.agg #[.int .i64 ((rd_T37 l0 x5_1).f0), .int .i64 ((rd_T37 l0 x5_1).f1), .int .i64 ((rd_T37 l0 x5_1).f2), .int .i64 ((rd_T37 l0 x5_1).f3), .int .i64 ((rd_T37 l0 x5_1).f4), .int .i64 ((rd_T37 l0 x5_1).f5), .int .i64 ((rd_T37 l0 x5_1).f6), .slice A428_7 ((rd_T37 l0 x5_1).f7).length c428_7, .slice A428_8 ((rd_T37 l0 x5_1).f8).length c428_8], .agg #[.int .i64 ((rd_T37 l1 x5_1).f0), .int .i64 ((rd_T37 l1 x5_1).f1), .int .i64 ((rd_T37 l1 x5_1).f2), .int .i64 ((rd_T37 l1 x5_1).f3), .int .i64 ((rd_T37 l1 x5_1).f4), .int .i64 ((rd_T37 l1 x5_1).f5), .int .i64 ((rd_T37 l1 x5_1).f6), .slice A429_7 ((rd_T37 l1 x5_1).f7).length c429_7, .slice A429_8 ((rd_T37 l1 x5_1).f8).length c429_8]] (by rfl) rfl rfl (by (try simp only [List.map_toArray, List.map_cons, List.map_nil]); first | done | rfl | (simp only [List.length_drop, List.length_take]; rfl)) ?_
    with_reducible refine (laws_eqLayer.calls k1 ((rd_T37 l0 x5_1).f0) ((rd_T37 l0 x5_1).f1) ((rd_T37 l0 x5_1).f2) ((rd_T37 l0 x5_1).f3) ((rd_T37 l0 x5_1).f4) ((rd_T37 l0 x5_1).f5) ((rd_T37 l0 x5_1).f6) _ _ ((rd_T37 l0 x5_1).f7) _ _ ((rd_T37 l0 x5_1).f8) ((rd_T37 l1 x5_1).f0) ((rd_T37 l1 x5_1).f1) ((rd_T37 l1 x5_1).f2) ((rd_T37 l1 x5_1).f3) ((rd_T37 l1 x5_1).f4) ((rd_T37 l1 x5_1).f5) ((rd_T37 l1 x5_1).f6) _ _ ((rd_T37 l1 x5_1).f7) _ _ ((rd_T37 l1 x5_1).f8) true _ ?side1 ?side2 ?side3 ?side4 ?side5 ?side6 ?side7 ?side8 A7.out).mono ?_
    (case side1 => exact C_now HR428_7.out)
    (case side2 => exact HC428_7.out)
    (case side3 => exact C_now HR428_8.out)
    (case side4 => exact HC428_8.out)
    (case side5 => exact C_now HR429_7.out)
    (case side6 => exact HC429_7.out)
    (case side7 => exact C_now HR429_8.out)
    (case side8 => exact HC429_8.out)
    rintro e w10 ⟨rfl, hb⟩
    refine ⟨_, rfl, ?_⟩
    replace HB := bel_on w hb
    (try clear hb)
    refine hK.out _ _ ⟨((HB.out.cell (World.block_lt_of_cell? w _ hw428_0)).trans hw428_0), ((HB.out.cell (World.block_lt_of_cell? w _ hw428_1)).trans hw428_1), ((HB.out.cell (World.block_lt_of_cell? w _ hw428_2)).trans hw428_2), ((HB.out.cell (World.block_lt_of_cell? w _ hw428_3)).trans hw428_3), ((HB.out.cell (World.block_lt_of_cell? w _ hw428_4)).trans hw428_4), ((HB.out.cell (World.block_lt_of_cell? w _ hw428_5)).trans hw428_5), ((HB.out.cell (World.block_lt_of_cell? w _ hw428_6)).trans hw428_6), ((HB.out.cell (World.block_lt_of_cell? w _ hw428_7)).trans hw428_7), ((HB.out.cell (World.block_lt_of_cell? w _ hw428_8)).trans hw428_8), ((HB.out.cell (World.block_lt_of_cell? w _ hw429_0)).trans hw429_0), ((HB.out.cell (World.block_lt_of_cell? w _ hw429_1)).trans hw429_1), ((HB.out.cell (World.block_lt_of_cell? w _ hw429_2)).trans hw429_2), ((HB.out.cell (World.block_lt_of_cell? w _ hw429_3)).trans hw429_3), ((HB.out.cell (World.block_lt_of_cell? w _ hw429_4)).trans hw429_4), ((HB.out.cell (World.block_lt_of_cell? w _ hw429_5)).trans hw429_5), ((HB.out.cell (World.block_lt_of_cell? w _ hw429_6)).trans hw429_6), ((HB.out.cell (World.block_lt_of_cell? w _ hw429_7)).trans hw429_7), ((HB.out.cell (World.block_lt_of_cell? w _ hw429_8)).trans hw429_8)⟩ (fun hHeld => ?_)
    clear hK K
    refine normP 25 ?_
    refine stepP 9 (some 26) (tk 10 1023) (any_of HT_.out (by kernel_rfl)) ?_
    refine done_ (done_of HT_.out (by kernel_rfl)) ?_
    try go_wp2
    go_roundg k1
    case measure => have := HK1.out; omega
    case rel => exact ⟨(wrap64 (x5_1 + 1)), (by first | rfl | (simp; done) | (simp [*]; done)), H', ⟨by have := HK1.out; omega⟩, ⟨bel_now⟩⟩

/-! ### laws_eqModel: function 38 -/
def laws_eqModel.f (k : Nat) (a0_0 : Int) (a0_1 : Int) (a0_2 : Int) (l0_3 : List (S37)) (a1_0 : Int) (a1_1 : Int) (a1_2 : Int) (l1_3 : List (S37)) : Option (Bool) := (laws_eqShape.f a0_0 a0_1 a0_2 a1_0 a1_1 a1_2).bind fun t433 => (if t433 = true then ((laws_eqLayerS.f k l0_3 l1_3).bind fun t434 => (if t434 = true then (some true) else (some false))) else (some false))
set_option maxHeartbeats 8000000 in
set_option maxRecDepth 100000 in
theorem laws_eqModel.calls (k : Nat) (a0_0 : Int) (a0_1 : Int) (a0_2 : Int) (A0_3 : Option Addr) (c0_3 : Nat) (l0_3 : List (S37)) (a1_0 : Int) (a1_1 : Int) (a1_2 : Int) (A1_3 : Option Addr) (c1_3 : Nat) (l1_3 : List (S37)) (r : Bool) (w : World) (hr0_3 : Kd.C k37 w A0_3 l0_3.length l0_3) (hc0_3 : l0_3.length ≤ c0_3) (hr1_3 : Kd.C k37 w A1_3 l1_3.length l1_3) (hc1_3 : l1_3.length ≤ c1_3) (h : laws_eqModel.f k a0_0 a0_1 a0_2 l0_3 a1_0 a1_1 a1_2 l1_3 = some r) :
   Calls Try.prog 38 #[.agg #[.int .i64 a0_0, .int .i64 a0_1, .int .i64 a0_2, .slice A0_3 l0_3.length c0_3], .agg #[.int .i64 a1_0, .int .i64 a1_1, .int .i64 a1_2, .slice A1_3 l1_3.length c1_3]] w fun e w' => e = .returned (.bool r) ∧ Below w.heap.size w w' := by
  have hu53 := Try.underlying53
  have hu31 := Try.underlying31
  have HR0_3 := Aside0.mk hr0_3
  have HC0_3 := Aside0.mk hc0_3
  clear hr0_3 hc0_3
  have HR1_3 := Aside0.mk hr1_3
  have HC1_3 := Aside0.mk hc1_3
  clear hr1_3 hc1_3
  have HB := Aside0.mk (Below.refl w.heap.size w)
  have H : ((laws_eqShape.f a0_0 a0_1 a0_2 a1_0 a1_1 a1_2).bind fun t433 => (if t433 = true then ((laws_eqLayerS.f k l0_3 l1_3).bind fun t434 => (if t434 = true then (some true) else (some false))) else (some false))) = some r := h
  clear h
  replace H := Option.bind_eq_some_iff.mp H
  obtain ⟨t433, A30, H⟩ := H
  (try dsimp only at H)
  have A3 := Aside0.mk A30
  clear A30
  by_cases c4 : t433 = true
  rotate_left
  ·replace c4 := Bool.eq_false_iff.mpr c4
   subst c4
   rw [if_neg (show ¬ (false = true) by decide)] at H
   obtain rfl := Option.some.inj H
   go_enter Try.func38, Try.ntmps38
   go_wp2_with (first | ((with_reducible refine gate_dst (N := 2) rfl ?_); refine boxM 2 #[.int .i64 a0_0, .int .i64 a0_1, .int .i64 a0_2, .slice A0_3 l0_3.length c0_3] 53 ?_; intro gb431 hg w25 BK431 hb; replace HB := box_at w hb hg; obtain ⟨HB, GW431, GE431⟩ := HB; clear hb hg) | ((with_reducible refine gate_dst (N := 3) rfl ?_); refine boxM 3 #[.int .i64 a1_0, .int .i64 a1_1, .int .i64 a1_2, .slice A1_3 l1_3.length c1_3] 53 ?_; intro gb432 hg w26 BK432 hb; replace HB := box_at w hb hg; obtain ⟨HB, GW432, GE432⟩ := HB; replace BK431 := box_on gb431 hb hg; obtain ⟨BK431, NB431_432, NB432_431⟩ := BK431; clear hb hg; have hn27 := ne2 NB431_432; have hcz28 := cells4 BK431.out; have hcz29 := cells4 BK432.out) | ((with_reducible refine gate_callee (f := 54) rfl ?_); refine goesM (some 9) rfl rfl Try.func54 (by kernel_rfl) rfl #[.agg #[.int .i64 a0_0, .int .i64 a0_1, .int .i64 a0_2], .agg #[.int .i64 a1_0, .int .i64 a1_1, .int .i64 a1_2]] rfl ?_; (with_reducible refine (laws_eqShape.calls a0_0 a0_1 a0_2 a1_0 a1_1 a1_2 false _ A3.out).mono ?_); rintro e w30 ⟨rfl, hb⟩; refine ⟨_, rfl, ?_⟩; replace HB := bel_on w hb; replace BK431 := blk_on gb431 hb; replace BK432 := blk_on gb432 hb; (try clear hb)))
   go_ret
   exact ⟨eqN, bel_now⟩
  subst c4
  rw [if_pos rfl] at H
  replace H := Option.bind_eq_some_iff.mp H
  obtain ⟨t434, A50, H⟩ := H
  (try dsimp only at H)
  have A5 := Aside0.mk A50
  clear A50
  by_cases c6 : t434 = true
  ·subst c6
   rw [if_pos rfl] at H
   obtain rfl := Option.some.inj H
   go_enter Try.func38, Try.ntmps38
   go_wp2_with (first | ((with_reducible refine gate_dst (N := 2) rfl ?_); refine boxM 2 #[.int .i64 a0_0, .int .i64 a0_1, .int .i64 a0_2, .slice A0_3 l0_3.length c0_3] 53 ?_; intro gb431 hg w7 BK431 hb; replace HB := box_at w hb hg; obtain ⟨HB, GW431, GE431⟩ := HB; clear hb hg) | ((with_reducible refine gate_dst (N := 3) rfl ?_); refine boxM 3 #[.int .i64 a1_0, .int .i64 a1_1, .int .i64 a1_2, .slice A1_3 l1_3.length c1_3] 53 ?_; intro gb432 hg w8 BK432 hb; replace HB := box_at w hb hg; obtain ⟨HB, GW432, GE432⟩ := HB; replace BK431 := box_on gb431 hb hg; obtain ⟨BK431, NB431_432, NB432_431⟩ := BK431; clear hb hg; have hn9 := ne2 NB431_432; have hcz10 := cells4 BK431.out; have hcz11 := cells4 BK432.out) | ((with_reducible refine gate_callee (f := 54) rfl ?_); refine goesM (some 9) rfl rfl Try.func54 (by kernel_rfl) rfl #[.agg #[.int .i64 a0_0, .int .i64 a0_1, .int .i64 a0_2], .agg #[.int .i64 a1_0, .int .i64 a1_1, .int .i64 a1_2]] rfl ?_; (with_reducible refine (laws_eqShape.calls a0_0 a0_1 a0_2 a1_0 a1_1 a1_2 true _ A3.out).mono ?_); rintro e w12 ⟨rfl, hb⟩; refine ⟨_, rfl, ?_⟩; replace HB := bel_on w hb; replace BK431 := blk_on gb431 hb; replace BK432 := blk_on gb432 hb; (try clear hb); have hcz13 := cells4 BK431.out; have hcz14 := cells4 BK432.out) | ((with_reducible refine gate_callee (f := 88) rfl ?_); refine goesM (some 15) rfl rfl Try.func88 (by kernel_rfl) rfl #[.slice A0_3 l0_3.length c0_3, .slice A1_3 l1_3.length c1_3] rfl ?_; (with_reducible refine (laws_eqLayerS.calls k _ _ l0_3 _ _ l1_3 true _ ?side1 ?side2 ?side3 ?side4 A5.out).mono ?_); (case side1 => exact C_now HR0_3.out); (case side2 => exact HC0_3.out); (case side3 => exact C_now HR1_3.out); (case side4 => exact HC1_3.out); rintro e w15 ⟨rfl, hb⟩; refine ⟨_, rfl, ?_⟩; replace HB := bel_on w hb; replace BK431 := blk_on gb431 hb; replace BK432 := blk_on gb432 hb; (try clear hb)))
   go_ret
   exact ⟨eqN, bel_now⟩
  replace c6 := Bool.eq_false_iff.mpr c6
  subst c6
  rw [if_neg (show ¬ (false = true) by decide)] at H
  obtain rfl := Option.some.inj H
  go_enter Try.func38, Try.ntmps38
  go_wp2_with (first | ((with_reducible refine gate_dst (N := 2) rfl ?_); refine boxM 2 #[.int .i64 a0_0, .int .i64 a0_1, .int .i64 a0_2, .slice A0_3 l0_3.length c0_3] 53 ?_; intro gb431 hg w16 BK431 hb; replace HB := box_at w hb hg; obtain ⟨HB, GW431, GE431⟩ := HB; clear hb hg) | ((with_reducible refine gate_dst (N := 3) rfl ?_); refine boxM 3 #[.int .i64 a1_0, .int .i64 a1_1, .int .i64 a1_2, .slice A1_3 l1_3.length c1_3] 53 ?_; intro gb432 hg w17 BK432 hb; replace HB := box_at w hb hg; obtain ⟨HB, GW432, GE432⟩ := HB; replace BK431 := box_on gb431 hb hg; obtain ⟨BK431, NB431_432, NB432_431⟩ := BK431; clear hb hg; have hn18 := ne2 NB431_432; have hcz19 := cells4 BK431.out; have hcz20 := cells4 BK432.out) | ((with_reducible refine gate_callee (f := 54) rfl ?_); refine goesM (some 9) rfl rfl Try.func54 (by kernel_rfl) rfl #[.agg #[.int .i64 a0_0, .int .i64 a0_1, .int .i64 a0_2], .agg #[.int .i64 a1_0, .int .i64 a1_1, .int .i64 a1_2]] rfl ?_; (with_reducible refine (laws_eqShape.calls a0_0 a0_1 a0_2 a1_0 a1_1 a1_2 true _ A3.out).mono ?_); rintro e w21 ⟨rfl, hb⟩; refine ⟨_, rfl, ?_⟩; replace HB := bel_on w hb; replace BK431 := blk_on gb431 hb; replace BK432 := blk_on gb432 hb; (try clear hb); have hcz22 := cells4 BK431.out; have hcz23 := cells4 BK432.out) | ((with_reducible refine gate_callee (f := 88) rfl ?_); refine goesM (some 15) rfl rfl Try.func88 (by kernel_rfl) rfl #[.slice A0_3 l0_3.length c0_3, .slice A1_3 l1_3.length c1_3] rfl ?_; (with_reducible refine (laws_eqLayerS.calls k _ _ l0_3 _ _ l1_3 false _ ?side1 ?side2 ?side3 ?side4 A5.out).mono ?_); (case side1 => exact C_now HR0_3.out); (case side2 => exact HC0_3.out); (case side3 => exact C_now HR1_3.out); (case side4 => exact HC1_3.out); rintro e w24 ⟨rfl, hb⟩; refine ⟨_, rfl, ?_⟩; replace HB := bel_on w hb; replace BK431 := blk_on gb431 hb; replace BK432 := blk_on gb432 hb; (try clear hb)))
  go_ret
  exact ⟨eqN, bel_now⟩

/-! ### laws_eqTensor: function 14 -/
def laws_eqTensor.f (k : Nat) (a0_0 : Int) (a0_1 : Int) (a0_2 : Int) (l0_3 : List Int) (a1_0 : Int) (a1_1 : Int) (a1_2 : Int) (l1_3 : List Int) : Option (Bool) := (laws_eqShape.f a0_0 a0_1 a0_2 a1_0 a1_1 a1_2).bind fun t437 => (if t437 = true then ((laws_eqIntS.f k l0_3 l1_3).bind fun t438 => (if t438 = true then (some true) else (some false))) else (some false))
set_option maxHeartbeats 8000000 in
set_option maxRecDepth 100000 in
theorem laws_eqTensor.calls (k : Nat) (a0_0 : Int) (a0_1 : Int) (a0_2 : Int) (A0_3 : Option Addr) (c0_3 : Nat) (l0_3 : List Int) (a1_0 : Int) (a1_1 : Int) (a1_2 : Int) (A1_3 : Option Addr) (c1_3 : Nat) (l1_3 : List Int) (r : Bool) (w : World) (hr0_3 : Kd.C (Kd.int .i64) w A0_3 l0_3.length l0_3) (hc0_3 : l0_3.length ≤ c0_3) (hr1_3 : Kd.C (Kd.int .i64) w A1_3 l1_3.length l1_3) (hc1_3 : l1_3.length ≤ c1_3) (h : laws_eqTensor.f k a0_0 a0_1 a0_2 l0_3 a1_0 a1_1 a1_2 l1_3 = some r) :
   Calls Try.prog 14 #[.agg #[.int .i64 a0_0, .int .i64 a0_1, .int .i64 a0_2, .slice A0_3 l0_3.length c0_3], .agg #[.int .i64 a1_0, .int .i64 a1_1, .int .i64 a1_2, .slice A1_3 l1_3.length c1_3]] w fun e w' => e = .returned (.bool r) ∧ Below w.heap.size w w' := by
  have hu33 := Try.underlying33
  have hu31 := Try.underlying31
  have HR0_3 := Aside0.mk hr0_3
  have HC0_3 := Aside0.mk hc0_3
  clear hr0_3 hc0_3
  have HR1_3 := Aside0.mk hr1_3
  have HC1_3 := Aside0.mk hc1_3
  clear hr1_3 hc1_3
  have HB := Aside0.mk (Below.refl w.heap.size w)
  have H : ((laws_eqShape.f a0_0 a0_1 a0_2 a1_0 a1_1 a1_2).bind fun t437 => (if t437 = true then ((laws_eqIntS.f k l0_3 l1_3).bind fun t438 => (if t438 = true then (some true) else (some false))) else (some false))) = some r := h
  clear h
  replace H := Option.bind_eq_some_iff.mp H
  obtain ⟨t437, A30, H⟩ := H
  (try dsimp only at H)
  have A3 := Aside0.mk A30
  clear A30
  by_cases c4 : t437 = true
  rotate_left
  ·replace c4 := Bool.eq_false_iff.mpr c4
   subst c4
   rw [if_neg (show ¬ (false = true) by decide)] at H
   obtain rfl := Option.some.inj H
   go_enter Try.func14, Try.ntmps14
   go_wp2_with (first | ((with_reducible refine gate_dst (N := 2) rfl ?_); refine boxM 2 #[.int .i64 a0_0, .int .i64 a0_1, .int .i64 a0_2, .slice A0_3 l0_3.length c0_3] 33 ?_; intro gb435 hg w23 BK435 hb; replace HB := box_at w hb hg; obtain ⟨HB, GW435, GE435⟩ := HB; clear hb hg) | ((with_reducible refine gate_dst (N := 3) rfl ?_); refine boxM 3 #[.int .i64 a1_0, .int .i64 a1_1, .int .i64 a1_2, .slice A1_3 l1_3.length c1_3] 33 ?_; intro gb436 hg w24 BK436 hb; replace HB := box_at w hb hg; obtain ⟨HB, GW436, GE436⟩ := HB; replace BK435 := box_on gb435 hb hg; obtain ⟨BK435, NB435_436, NB436_435⟩ := BK435; clear hb hg; have hn25 := ne2 NB435_436; have hcz26 := cells4 BK435.out; have hcz27 := cells4 BK436.out) | ((with_reducible refine gate_callee (f := 54) rfl ?_); refine goesM (some 9) rfl rfl Try.func54 (by kernel_rfl) rfl #[.agg #[.int .i64 a0_0, .int .i64 a0_1, .int .i64 a0_2], .agg #[.int .i64 a1_0, .int .i64 a1_1, .int .i64 a1_2]] rfl ?_; (with_reducible refine (laws_eqShape.calls a0_0 a0_1 a0_2 a1_0 a1_1 a1_2 false _ A3.out).mono ?_); rintro e w28 ⟨rfl, hb⟩; refine ⟨_, rfl, ?_⟩; replace HB := bel_on w hb; replace BK435 := blk_on gb435 hb; replace BK436 := blk_on gb436 hb; (try clear hb)))
   go_ret
   exact ⟨eqN, bel_now⟩
  subst c4
  rw [if_pos rfl] at H
  replace H := Option.bind_eq_some_iff.mp H
  obtain ⟨t438, A50, H⟩ := H
  (try dsimp only at H)
  have A5 := Aside0.mk A50
  clear A50
  by_cases c6 : t438 = true
  ·subst c6
   rw [if_pos rfl] at H
   obtain rfl := Option.some.inj H
   go_enter Try.func14, Try.ntmps14
   go_wp2_with (first | ((with_reducible refine gate_dst (N := 2) rfl ?_); refine boxM 2 #[.int .i64 a0_0, .int .i64 a0_1, .int .i64 a0_2, .slice A0_3 l0_3.length c0_3] 33 ?_; intro gb435 hg w7 BK435 hb; replace HB := box_at w hb hg; obtain ⟨HB, GW435, GE435⟩ := HB; clear hb hg) | ((with_reducible refine gate_dst (N := 3) rfl ?_); refine boxM 3 #[.int .i64 a1_0, .int .i64 a1_1, .int .i64 a1_2, .slice A1_3 l1_3.length c1_3] 33 ?_; intro gb436 hg w8 BK436 hb; replace HB := box_at w hb hg; obtain ⟨HB, GW436, GE436⟩ := HB; replace BK435 := box_on gb435 hb hg; obtain ⟨BK435, NB435_436, NB436_435⟩ := BK435; clear hb hg; have hn9 := ne2 NB435_436; have hcz10 := cells4 BK435.out; have hcz11 := cells4 BK436.out) | ((with_reducible refine gate_callee (f := 54) rfl ?_); refine goesM (some 9) rfl rfl Try.func54 (by kernel_rfl) rfl #[.agg #[.int .i64 a0_0, .int .i64 a0_1, .int .i64 a0_2], .agg #[.int .i64 a1_0, .int .i64 a1_1, .int .i64 a1_2]] rfl ?_; (with_reducible refine (laws_eqShape.calls a0_0 a0_1 a0_2 a1_0 a1_1 a1_2 true _ A3.out).mono ?_); rintro e w12 ⟨rfl, hb⟩; refine ⟨_, rfl, ?_⟩; replace HB := bel_on w hb; replace BK435 := blk_on gb435 hb; replace BK436 := blk_on gb436 hb; (try clear hb); have hcz13 := cells4 BK435.out; have hcz14 := cells4 BK436.out) | ((with_reducible refine gate_callee (f := 23) rfl ?_); refine goesM (some 15) rfl rfl Try.func23 (by kernel_rfl) rfl #[.slice A0_3 l0_3.length c0_3, .slice A1_3 l1_3.length c1_3] rfl ?_; (with_reducible refine (laws_eqIntS.calls k _ _ l0_3 _ _ l1_3 true _ ?side1 ?side2 ?side3 ?side4 A5.out).mono ?_); (case side1 => exact C_now HR0_3.out); (case side2 => exact HC0_3.out); (case side3 => exact C_now HR1_3.out); (case side4 => exact HC1_3.out); rintro e w' ⟨rfl, ⟨nd, rfl⟩⟩; refine ⟨_, rfl, ?_⟩))
   go_ret
   exact ⟨eqN, bel_now⟩
  replace c6 := Bool.eq_false_iff.mpr c6
  subst c6
  rw [if_neg (show ¬ (false = true) by decide)] at H
  obtain rfl := Option.some.inj H
  go_enter Try.func14, Try.ntmps14
  go_wp2_with (first | ((with_reducible refine gate_dst (N := 2) rfl ?_); refine boxM 2 #[.int .i64 a0_0, .int .i64 a0_1, .int .i64 a0_2, .slice A0_3 l0_3.length c0_3] 33 ?_; intro gb435 hg w15 BK435 hb; replace HB := box_at w hb hg; obtain ⟨HB, GW435, GE435⟩ := HB; clear hb hg) | ((with_reducible refine gate_dst (N := 3) rfl ?_); refine boxM 3 #[.int .i64 a1_0, .int .i64 a1_1, .int .i64 a1_2, .slice A1_3 l1_3.length c1_3] 33 ?_; intro gb436 hg w16 BK436 hb; replace HB := box_at w hb hg; obtain ⟨HB, GW436, GE436⟩ := HB; replace BK435 := box_on gb435 hb hg; obtain ⟨BK435, NB435_436, NB436_435⟩ := BK435; clear hb hg; have hn17 := ne2 NB435_436; have hcz18 := cells4 BK435.out; have hcz19 := cells4 BK436.out) | ((with_reducible refine gate_callee (f := 54) rfl ?_); refine goesM (some 9) rfl rfl Try.func54 (by kernel_rfl) rfl #[.agg #[.int .i64 a0_0, .int .i64 a0_1, .int .i64 a0_2], .agg #[.int .i64 a1_0, .int .i64 a1_1, .int .i64 a1_2]] rfl ?_; (with_reducible refine (laws_eqShape.calls a0_0 a0_1 a0_2 a1_0 a1_1 a1_2 true _ A3.out).mono ?_); rintro e w20 ⟨rfl, hb⟩; refine ⟨_, rfl, ?_⟩; replace HB := bel_on w hb; replace BK435 := blk_on gb435 hb; replace BK436 := blk_on gb436 hb; (try clear hb); have hcz21 := cells4 BK435.out; have hcz22 := cells4 BK436.out) | ((with_reducible refine gate_callee (f := 23) rfl ?_); refine goesM (some 15) rfl rfl Try.func23 (by kernel_rfl) rfl #[.slice A0_3 l0_3.length c0_3, .slice A1_3 l1_3.length c1_3] rfl ?_; (with_reducible refine (laws_eqIntS.calls k _ _ l0_3 _ _ l1_3 false _ ?side1 ?side2 ?side3 ?side4 A5.out).mono ?_); (case side1 => exact C_now HR0_3.out); (case side2 => exact HC0_3.out); (case side3 => exact C_now HR1_3.out); (case side4 => exact HC1_3.out); rintro e w' ⟨rfl, ⟨nd, rfl⟩⟩; refine ⟨_, rfl, ?_⟩))
  go_ret
  exact ⟨eqN, bel_now⟩

/-! ### laws_eqJob: function 24 -/
def laws_eqJob.f (k : Nat) (a0_0 : Int) (a0_1 : Int) (a0_2 : Int) (l0_3 : List (S37)) (a0_4 : Int) (a0_5 : Int) (a0_6 : Int) (a0_7 : Int) (l0_8 : List Int) (a0_9 : Int) (a1_0 : Int) (a1_1 : Int) (a1_2 : Int) (l1_3 : List (S37)) (a1_4 : Int) (a1_5 : Int) (a1_6 : Int) (a1_7 : Int) (l1_8 : List Int) (a1_9 : Int) : Option (Bool) := (laws_eqModel.f k a0_0 a0_1 a0_2 l0_3 a1_0 a1_1 a1_2 l1_3).bind fun t441 => (if t441 = true then (if a0_4 = a1_4 then ((laws_eqTensor.f k a0_5 a0_6 a0_7 l0_8 a1_5 a1_6 a1_7 l1_8).bind fun t442 => (if t442 = true then (if a0_9 = a1_9 then (some true) else (some false)) else (some false))) else (some false)) else (some false))
set_option maxHeartbeats 8000000 in
set_option maxRecDepth 100000 in
theorem laws_eqJob.calls (k : Nat) (a0_0 : Int) (a0_1 : Int) (a0_2 : Int) (A0_3 : Option Addr) (c0_3 : Nat) (l0_3 : List (S37)) (a0_4 : Int) (a0_5 : Int) (a0_6 : Int) (a0_7 : Int) (A0_8 : Option Addr) (c0_8 : Nat) (l0_8 : List Int) (a0_9 : Int) (a1_0 : Int) (a1_1 : Int) (a1_2 : Int) (A1_3 : Option Addr) (c1_3 : Nat) (l1_3 : List (S37)) (a1_4 : Int) (a1_5 : Int) (a1_6 : Int) (a1_7 : Int) (A1_8 : Option Addr) (c1_8 : Nat) (l1_8 : List Int) (a1_9 : Int) (r : Bool) (w : World) (hr0_3 : Kd.C k37 w A0_3 l0_3.length l0_3) (hc0_3 : l0_3.length ≤ c0_3) (hr0_8 : Kd.C (Kd.int .i64) w A0_8 l0_8.length l0_8) (hc0_8 : l0_8.length ≤ c0_8) (hr1_3 : Kd.C k37 w A1_3 l1_3.length l1_3) (hc1_3 : l1_3.length ≤ c1_3) (hr1_8 : Kd.C (Kd.int .i64) w A1_8 l1_8.length l1_8) (hc1_8 : l1_8.length ≤ c1_8) (h : laws_eqJob.f k a0_0 a0_1 a0_2 l0_3 a0_4 a0_5 a0_6 a0_7 l0_8 a0_9 a1_0 a1_1 a1_2 l1_3 a1_4 a1_5 a1_6 a1_7 l1_8 a1_9 = some r) :
   Calls Try.prog 24 #[.agg #[.int .i64 a0_0, .int .i64 a0_1, .int .i64 a0_2, .slice A0_3 l0_3.length c0_3, .int .i64 a0_4, .int .i64 a0_5, .int .i64 a0_6, .int .i64 a0_7, .slice A0_8 l0_8.length c0_8, .int .i64 a0_9], .agg #[.int .i64 a1_0, .int .i64 a1_1, .int .i64 a1_2, .slice A1_3 l1_3.length c1_3, .int .i64 a1_4, .int .i64 a1_5, .int .i64 a1_6, .int .i64 a1_7, .slice A1_8 l1_8.length c1_8, .int .i64 a1_9]] w fun e w' => e = .returned (.bool r) ∧ Below w.heap.size w w' := by
  have hu55 := Try.underlying55
  have hu53 := Try.underlying53
  have hu33 := Try.underlying33
  have HR0_3 := Aside0.mk hr0_3
  have HC0_3 := Aside0.mk hc0_3
  clear hr0_3 hc0_3
  have HR0_8 := Aside0.mk hr0_8
  have HC0_8 := Aside0.mk hc0_8
  clear hr0_8 hc0_8
  have HR1_3 := Aside0.mk hr1_3
  have HC1_3 := Aside0.mk hc1_3
  clear hr1_3 hc1_3
  have HR1_8 := Aside0.mk hr1_8
  have HC1_8 := Aside0.mk hc1_8
  clear hr1_8 hc1_8
  have HB := Aside0.mk (Below.refl w.heap.size w)
  have H : ((laws_eqModel.f k a0_0 a0_1 a0_2 l0_3 a1_0 a1_1 a1_2 l1_3).bind fun t441 => (if t441 = true then (if a0_4 = a1_4 then ((laws_eqTensor.f k a0_5 a0_6 a0_7 l0_8 a1_5 a1_6 a1_7 l1_8).bind fun t442 => (if t442 = true then (if a0_9 = a1_9 then (some true) else (some false)) else (some false))) else (some false)) else (some false))) = some r := h
  clear h
  replace H := Option.bind_eq_some_iff.mp H
  obtain ⟨t441, A30, H⟩ := H
  (try dsimp only at H)
  have A3 := Aside0.mk A30
  clear A30
  by_cases c4 : t441 = true
  rotate_left
  ·replace c4 := Bool.eq_false_iff.mpr c4
   subst c4
   rw [if_neg (show ¬ (false = true) by decide)] at H
   obtain rfl := Option.some.inj H
   go_enter Try.func24, Try.ntmps24
   go_wp2_with (first | ((with_reducible refine gate_dst (N := 2) rfl ?_); refine boxM 2 #[.int .i64 a0_0, .int .i64 a0_1, .int .i64 a0_2, .slice A0_3 l0_3.length c0_3, .int .i64 a0_4, .int .i64 a0_5, .int .i64 a0_6, .int .i64 a0_7, .slice A0_8 l0_8.length c0_8, .int .i64 a0_9] 55 ?_; intro gb439 hg w48 BK439 hb; replace HB := box_at w hb hg; obtain ⟨HB, GW439, GE439⟩ := HB; clear hb hg) | ((with_reducible refine gate_dst (N := 3) rfl ?_); refine boxM 3 #[.int .i64 a1_0, .int .i64 a1_1, .int .i64 a1_2, .slice A1_3 l1_3.length c1_3, .int .i64 a1_4, .int .i64 a1_5, .int .i64 a1_6, .int .i64 a1_7, .slice A1_8 l1_8.length c1_8, .int .i64 a1_9] 55 ?_; intro gb440 hg w49 BK440 hb; replace HB := box_at w hb hg; obtain ⟨HB, GW440, GE440⟩ := HB; replace BK439 := box_on gb439 hb hg; obtain ⟨BK439, NB439_440, NB440_439⟩ := BK439; clear hb hg; have hn50 := ne2 NB439_440; have hcz51 := cells10 BK439.out; have hcz52 := cells10 BK440.out) | ((with_reducible refine gate_callee (f := 38) rfl ?_); refine goesM (some 9) rfl rfl Try.func38 (by kernel_rfl) rfl #[.agg #[.int .i64 a0_0, .int .i64 a0_1, .int .i64 a0_2, .slice A0_3 l0_3.length c0_3], .agg #[.int .i64 a1_0, .int .i64 a1_1, .int .i64 a1_2, .slice A1_3 l1_3.length c1_3]] rfl ?_; (with_reducible refine (laws_eqModel.calls k a0_0 a0_1 a0_2 _ _ l0_3 a1_0 a1_1 a1_2 _ _ l1_3 false _ ?side1 ?side2 ?side3 ?side4 A3.out).mono ?_); (case side1 => exact C_now HR0_3.out); (case side2 => exact HC0_3.out); (case side3 => exact C_now HR1_3.out); (case side4 => exact HC1_3.out); rintro e w53 ⟨rfl, hb⟩; refine ⟨_, rfl, ?_⟩; replace HB := bel_on w hb; replace BK439 := blk_on gb439 hb; replace BK440 := blk_on gb440 hb; (try clear hb)))
   go_ret
   exact ⟨eqN, bel_now⟩
  subst c4
  rw [if_pos rfl] at H
  by_cases c5 : a0_4 = a1_4
  rotate_left
  ·rw [if_neg c5] at H
   have c5b0 : (a0_4 == a1_4) = false := beq_eq_false_iff_ne.mpr c5
   have c5b1 : (a0_4 != a1_4) = true := bne_iff_ne.mpr c5
   obtain rfl := Option.some.inj H
   go_enter Try.func24, Try.ntmps24
   go_wp2_with (first | ((with_reducible refine gate_dst (N := 2) rfl ?_); refine boxM 2 #[.int .i64 a0_0, .int .i64 a0_1, .int .i64 a0_2, .slice A0_3 l0_3.length c0_3, .int .i64 a0_4, .int .i64 a0_5, .int .i64 a0_6, .int .i64 a0_7, .slice A0_8 l0_8.length c0_8, .int .i64 a0_9] 55 ?_; intro gb439 hg w40 BK439 hb; replace HB := box_at w hb hg; obtain ⟨HB, GW439, GE439⟩ := HB; clear hb hg) | ((with_reducible refine gate_dst (N := 3) rfl ?_); refine boxM 3 #[.int .i64 a1_0, .int .i64 a1_1, .int .i64 a1_2, .slice A1_3 l1_3.length c1_3, .int .i64 a1_4, .int .i64 a1_5, .int .i64 a1_6, .int .i64 a1_7, .slice A1_8 l1_8.length c1_8, .int .i64 a1_9] 55 ?_; intro gb440 hg w41 BK440 hb; replace HB := box_at w hb hg; obtain ⟨HB, GW440, GE440⟩ := HB; replace BK439 := box_on gb439 hb hg; obtain ⟨BK439, NB439_440, NB440_439⟩ := BK439; clear hb hg; have hn42 := ne2 NB439_440; have hcz43 := cells10 BK439.out; have hcz44 := cells10 BK440.out) | ((with_reducible refine gate_callee (f := 38) rfl ?_); refine goesM (some 9) rfl rfl Try.func38 (by kernel_rfl) rfl #[.agg #[.int .i64 a0_0, .int .i64 a0_1, .int .i64 a0_2, .slice A0_3 l0_3.length c0_3], .agg #[.int .i64 a1_0, .int .i64 a1_1, .int .i64 a1_2, .slice A1_3 l1_3.length c1_3]] rfl ?_; (with_reducible refine (laws_eqModel.calls k a0_0 a0_1 a0_2 _ _ l0_3 a1_0 a1_1 a1_2 _ _ l1_3 true _ ?side1 ?side2 ?side3 ?side4 A3.out).mono ?_); (case side1 => exact C_now HR0_3.out); (case side2 => exact HC0_3.out); (case side3 => exact C_now HR1_3.out); (case side4 => exact HC1_3.out); rintro e w45 ⟨rfl, hb⟩; refine ⟨_, rfl, ?_⟩; replace HB := bel_on w hb; replace BK439 := blk_on gb439 hb; replace BK440 := blk_on gb440 hb; (try clear hb); have hcz46 := cells10 BK439.out; have hcz47 := cells10 BK440.out))
   go_ret
   exact ⟨eqN, bel_now⟩
  rw [if_pos c5] at H
  have c5b0 : (a0_4 == a1_4) = true := beq_iff_eq.mpr c5
  have c5b1 : (a0_4 != a1_4) = false := bne_eq_false_iff_eq.mpr c5
  clear c5
  replace H := Option.bind_eq_some_iff.mp H
  obtain ⟨t442, A60, H⟩ := H
  (try dsimp only at H)
  have A6 := Aside0.mk A60
  clear A60
  by_cases c7 : t442 = true
  rotate_left
  ·replace c7 := Bool.eq_false_iff.mpr c7
   subst c7
   rw [if_neg (show ¬ (false = true) by decide)] at H
   obtain rfl := Option.some.inj H
   go_enter Try.func24, Try.ntmps24
   go_wp2_with (first | ((with_reducible refine gate_dst (N := 2) rfl ?_); refine boxM 2 #[.int .i64 a0_0, .int .i64 a0_1, .int .i64 a0_2, .slice A0_3 l0_3.length c0_3, .int .i64 a0_4, .int .i64 a0_5, .int .i64 a0_6, .int .i64 a0_7, .slice A0_8 l0_8.length c0_8, .int .i64 a0_9] 55 ?_; intro gb439 hg w31 BK439 hb; replace HB := box_at w hb hg; obtain ⟨HB, GW439, GE439⟩ := HB; clear hb hg) | ((with_reducible refine gate_dst (N := 3) rfl ?_); refine boxM 3 #[.int .i64 a1_0, .int .i64 a1_1, .int .i64 a1_2, .slice A1_3 l1_3.length c1_3, .int .i64 a1_4, .int .i64 a1_5, .int .i64 a1_6, .int .i64 a1_7, .slice A1_8 l1_8.length c1_8, .int .i64 a1_9] 55 ?_; intro gb440 hg w32 BK440 hb; replace HB := box_at w hb hg; obtain ⟨HB, GW440, GE440⟩ := HB; replace BK439 := box_on gb439 hb hg; obtain ⟨BK439, NB439_440, NB440_439⟩ := BK439; clear hb hg; have hn33 := ne2 NB439_440; have hcz34 := cells10 BK439.out; have hcz35 := cells10 BK440.out) | ((with_reducible refine gate_callee (f := 38) rfl ?_); refine goesM (some 9) rfl rfl Try.func38 (by kernel_rfl) rfl #[.agg #[.int .i64 a0_0, .int .i64 a0_1, .int .i64 a0_2, .slice A0_3 l0_3.length c0_3], .agg #[.int .i64 a1_0, .int .i64 a1_1, .int .i64 a1_2, .slice A1_3 l1_3.length c1_3]] rfl ?_; (with_reducible refine (laws_eqModel.calls k a0_0 a0_1 a0_2 _ _ l0_3 a1_0 a1_1 a1_2 _ _ l1_3 true _ ?side1 ?side2 ?side3 ?side4 A3.out).mono ?_); (case side1 => exact C_now HR0_3.out); (case side2 => exact HC0_3.out); (case side3 => exact C_now HR1_3.out); (case side4 => exact HC1_3.out); rintro e w36 ⟨rfl, hb⟩; refine ⟨_, rfl, ?_⟩; replace HB := bel_on w hb; replace BK439 := blk_on gb439 hb; replace BK440 := blk_on gb440 hb; (try clear hb); have hcz37 := cells10 BK439.out; have hcz38 := cells10 BK440.out) | ((with_reducible refine gate_callee (f := 14) rfl ?_); refine goesM (some 20) rfl rfl Try.func14 (by kernel_rfl) rfl #[.agg #[.int .i64 a0_5, .int .i64 a0_6, .int .i64 a0_7, .slice A0_8 l0_8.length c0_8], .agg #[.int .i64 a1_5, .int .i64 a1_6, .int .i64 a1_7, .slice A1_8 l1_8.length c1_8]] rfl ?_; (with_reducible refine (laws_eqTensor.calls k a0_5 a0_6 a0_7 _ _ l0_8 a1_5 a1_6 a1_7 _ _ l1_8 false _ ?side1 ?side2 ?side3 ?side4 A6.out).mono ?_); (case side1 => exact C_now HR0_8.out); (case side2 => exact HC0_8.out); (case side3 => exact C_now HR1_8.out); (case side4 => exact HC1_8.out); rintro e w39 ⟨rfl, hb⟩; refine ⟨_, rfl, ?_⟩; replace HB := bel_on w hb; replace BK439 := blk_on gb439 hb; replace BK440 := blk_on gb440 hb; (try clear hb)))
   go_ret
   exact ⟨eqN, bel_now⟩
  subst c7
  rw [if_pos rfl] at H
  by_cases c8 : a0_9 = a1_9
  ·rw [if_pos c8] at H
   have c8b0 : (a0_9 == a1_9) = true := beq_iff_eq.mpr c8
   have c8b1 : (a0_9 != a1_9) = false := bne_eq_false_iff_eq.mpr c8
   clear c8
   obtain rfl := Option.some.inj H
   go_enter Try.func24, Try.ntmps24
   go_wp2_with (first | ((with_reducible refine gate_dst (N := 2) rfl ?_); refine boxM 2 #[.int .i64 a0_0, .int .i64 a0_1, .int .i64 a0_2, .slice A0_3 l0_3.length c0_3, .int .i64 a0_4, .int .i64 a0_5, .int .i64 a0_6, .int .i64 a0_7, .slice A0_8 l0_8.length c0_8, .int .i64 a0_9] 55 ?_; intro gb439 hg w9 BK439 hb; replace HB := box_at w hb hg; obtain ⟨HB, GW439, GE439⟩ := HB; clear hb hg) | ((with_reducible refine gate_dst (N := 3) rfl ?_); refine boxM 3 #[.int .i64 a1_0, .int .i64 a1_1, .int .i64 a1_2, .slice A1_3 l1_3.length c1_3, .int .i64 a1_4, .int .i64 a1_5, .int .i64 a1_6, .int .i64 a1_7, .slice A1_8 l1_8.length c1_8, .int .i64 a1_9] 55 ?_; intro gb440 hg w10 BK440 hb; replace HB := box_at w hb hg; obtain ⟨HB, GW440, GE440⟩ := HB; replace BK439 := box_on gb439 hb hg; obtain ⟨BK439, NB439_440, NB440_439⟩ := BK439; clear hb hg; have hn11 := ne2 NB439_440; have hcz12 := cells10 BK439.out; have hcz13 := cells10 BK440.out) | ((with_reducible refine gate_callee (f := 38) rfl ?_); refine goesM (some 9) rfl rfl Try.func38 (by kernel_rfl) rfl #[.agg #[.int .i64 a0_0, .int .i64 a0_1, .int .i64 a0_2, .slice A0_3 l0_3.length c0_3], .agg #[.int .i64 a1_0, .int .i64 a1_1, .int .i64 a1_2, .slice A1_3 l1_3.length c1_3]] rfl ?_; (with_reducible refine (laws_eqModel.calls k a0_0 a0_1 a0_2 _ _ l0_3 a1_0 a1_1 a1_2 _ _ l1_3 true _ ?side1 ?side2 ?side3 ?side4 A3.out).mono ?_); (case side1 => exact C_now HR0_3.out); (case side2 => exact HC0_3.out); (case side3 => exact C_now HR1_3.out); (case side4 => exact HC1_3.out); rintro e w14 ⟨rfl, hb⟩; refine ⟨_, rfl, ?_⟩; replace HB := bel_on w hb; replace BK439 := blk_on gb439 hb; replace BK440 := blk_on gb440 hb; (try clear hb); have hcz15 := cells10 BK439.out; have hcz16 := cells10 BK440.out) | ((with_reducible refine gate_callee (f := 14) rfl ?_); refine goesM (some 20) rfl rfl Try.func14 (by kernel_rfl) rfl #[.agg #[.int .i64 a0_5, .int .i64 a0_6, .int .i64 a0_7, .slice A0_8 l0_8.length c0_8], .agg #[.int .i64 a1_5, .int .i64 a1_6, .int .i64 a1_7, .slice A1_8 l1_8.length c1_8]] rfl ?_; (with_reducible refine (laws_eqTensor.calls k a0_5 a0_6 a0_7 _ _ l0_8 a1_5 a1_6 a1_7 _ _ l1_8 true _ ?side1 ?side2 ?side3 ?side4 A6.out).mono ?_); (case side1 => exact C_now HR0_8.out); (case side2 => exact HC0_8.out); (case side3 => exact C_now HR1_8.out); (case side4 => exact HC1_8.out); rintro e w17 ⟨rfl, hb⟩; refine ⟨_, rfl, ?_⟩; replace HB := bel_on w hb; replace BK439 := blk_on gb439 hb; replace BK440 := blk_on gb440 hb; (try clear hb); have hcz18 := cells10 BK439.out; have hcz19 := cells10 BK440.out))
   go_ret
   exact ⟨eqN, bel_now⟩
  rw [if_neg c8] at H
  have c8b0 : (a0_9 == a1_9) = false := beq_eq_false_iff_ne.mpr c8
  have c8b1 : (a0_9 != a1_9) = true := bne_iff_ne.mpr c8
  obtain rfl := Option.some.inj H
  go_enter Try.func24, Try.ntmps24
  go_wp2_with (first | ((with_reducible refine gate_dst (N := 2) rfl ?_); refine boxM 2 #[.int .i64 a0_0, .int .i64 a0_1, .int .i64 a0_2, .slice A0_3 l0_3.length c0_3, .int .i64 a0_4, .int .i64 a0_5, .int .i64 a0_6, .int .i64 a0_7, .slice A0_8 l0_8.length c0_8, .int .i64 a0_9] 55 ?_; intro gb439 hg w20 BK439 hb; replace HB := box_at w hb hg; obtain ⟨HB, GW439, GE439⟩ := HB; clear hb hg) | ((with_reducible refine gate_dst (N := 3) rfl ?_); refine boxM 3 #[.int .i64 a1_0, .int .i64 a1_1, .int .i64 a1_2, .slice A1_3 l1_3.length c1_3, .int .i64 a1_4, .int .i64 a1_5, .int .i64 a1_6, .int .i64 a1_7, .slice A1_8 l1_8.length c1_8, .int .i64 a1_9] 55 ?_; intro gb440 hg w21 BK440 hb; replace HB := box_at w hb hg; obtain ⟨HB, GW440, GE440⟩ := HB; replace BK439 := box_on gb439 hb hg; obtain ⟨BK439, NB439_440, NB440_439⟩ := BK439; clear hb hg; have hn22 := ne2 NB439_440; have hcz23 := cells10 BK439.out; have hcz24 := cells10 BK440.out) | ((with_reducible refine gate_callee (f := 38) rfl ?_); refine goesM (some 9) rfl rfl Try.func38 (by kernel_rfl) rfl #[.agg #[.int .i64 a0_0, .int .i64 a0_1, .int .i64 a0_2, .slice A0_3 l0_3.length c0_3], .agg #[.int .i64 a1_0, .int .i64 a1_1, .int .i64 a1_2, .slice A1_3 l1_3.length c1_3]] rfl ?_; (with_reducible refine (laws_eqModel.calls k a0_0 a0_1 a0_2 _ _ l0_3 a1_0 a1_1 a1_2 _ _ l1_3 true _ ?side1 ?side2 ?side3 ?side4 A3.out).mono ?_); (case side1 => exact C_now HR0_3.out); (case side2 => exact HC0_3.out); (case side3 => exact C_now HR1_3.out); (case side4 => exact HC1_3.out); rintro e w25 ⟨rfl, hb⟩; refine ⟨_, rfl, ?_⟩; replace HB := bel_on w hb; replace BK439 := blk_on gb439 hb; replace BK440 := blk_on gb440 hb; (try clear hb); have hcz26 := cells10 BK439.out; have hcz27 := cells10 BK440.out) | ((with_reducible refine gate_callee (f := 14) rfl ?_); refine goesM (some 20) rfl rfl Try.func14 (by kernel_rfl) rfl #[.agg #[.int .i64 a0_5, .int .i64 a0_6, .int .i64 a0_7, .slice A0_8 l0_8.length c0_8], .agg #[.int .i64 a1_5, .int .i64 a1_6, .int .i64 a1_7, .slice A1_8 l1_8.length c1_8]] rfl ?_; (with_reducible refine (laws_eqTensor.calls k a0_5 a0_6 a0_7 _ _ l0_8 a1_5 a1_6 a1_7 _ _ l1_8 true _ ?side1 ?side2 ?side3 ?side4 A6.out).mono ?_); (case side1 => exact C_now HR0_8.out); (case side2 => exact HC0_8.out); (case side3 => exact C_now HR1_8.out); (case side4 => exact HC1_8.out); rintro e w28 ⟨rfl, hb⟩; refine ⟨_, rfl, ?_⟩; replace HB := bel_on w hb; replace BK439 := blk_on gb439 hb; replace BK440 := blk_on gb440 hb; (try clear hb); have hcz29 := cells10 BK439.out; have hcz30 := cells10 BK440.out))
  go_ret
  exact ⟨eqN, bel_now⟩

end Go.Proofs.Ytclpojeofclbjaa.PFnExactLeftOf
