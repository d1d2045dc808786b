-- Printed by the session's own program (wip/myprint.py) for this claim out of the translation. Not trusted: Lean checks it.
import Derived.Test.YtljdcemdhmaahaaPFnExactNextCostx0
import Derived.Test.YtljdcemdhmaahaaPFnExactNextCostx3
import Derived.Test.YtljdcemdhmaahaaPFnExactNextCostx4
import Derived.Test.YtljdcemdhmaahaaPFnExactNextCostx5
namespace Go.Proofs.Ytljdcemdhmaahaa.PFnExactNextCost
open Go.RowKit Go.Proofs.YtljdcemdhmaahaaW.PrintWords Go.Proofs.YtljdcemdhmaahaaW.PrintLast Go.Proofs.YtljdcemdhmaahaaW.PrintMore
attribute [local go_sem] max2_int min2_int max_two min_two max_three min_three max_four min_four   -- for this text's walks alone
set_option linter.unusedVariables false
set_option linter.unusedSimpArgs false

/-! ### spec_OutShape: function 98 -/
mutual
def spec_OutShape.j0 : Nat → Bool → Int → Int → Int → Int → Int → Int → Int → Int → Int → Int → List Int → List Int → Int → Int → Int → Option (Int × Int × Int × Bool)
  | 0, _, _, _, _, _, _, _, _, _, _, _, _, _, _, _, _ => none
  | k + 1, x18, x201000, x201001, x201002, x202000, x202001, x202002, x202003, x202004, x202005, x202006, x202007, x202008, x204000, x204001, x204002 => if x18 = true then (some (x204000, x204001, x204002, false)) else ((spec_l01In.f x202000 1 3).bind fun t206 => ((spec_l03Plain.f k x202000 x202001 x202002 x202003 x202004 x202005 x202006 x202007 x202008 t206 (decide (x202000 ≤ 1))).bind fun t207 => (if t207 = true then (if t206 = true then (if x202002 > x201000 then (some (x204000, x204001, x204002, false)) else (if x202002 > x201001 then (some (x204000, x204001, x204002, false)) else (if x202003 = 0 then (none) else (spec_OutShape.j1 k x201000 x201001 x201002 x202000 x202001 x202002 x202003 x202004 x202005 x202006 x202007 x202008 x204000 x204001 x204002 (wrap64 ((wrap64 (Int.tdiv (wrap64 (x201000 - x202002)) x202003)) + 1)) (wrap64 ((wrap64 (Int.tdiv (wrap64 (x201001 - x202002)) x202003)) + 1)) x201002)))) else (spec_OutShape.j1 k x201000 x201001 x201002 x202000 x202001 x202002 x202003 x202004 x202005 x202006 x202007 x202008 x204000 x204001 x204002 x201000 x201001 x201002)) else (some (x204000, x204001, x204002, false)))))
def spec_OutShape.j1 : Nat → Int → Int → Int → Int → Int → Int → Int → Int → Int → Int → List Int → List Int → Int → Int → Int → Int → Int → Int → Option (Int × Int × Int × Bool)
  | 0, _, _, _, _, _, _, _, _, _, _, _, _, _, _, _, _, _, _ => none
  | k + 1, x201000, x201001, x201002, x202000, x202001, x202002, x202003, x202004, x202005, x202006, x202007, x202008, x204000, x204001, x204002, x209000, x209001, x209002 => if x202000 = 0 then ((spec_SizeOf.f x201000 x201001 x201002).bind fun t209 => (if t209 > 64 then (some (x204000, x204001, x204002, false)) else ((spec_SizeOf.f x201000 x201001 x201002).bind fun t210 => (if (x202007.length : Int) = (wrap64 (x202001 * t210)) then (some (1, 1, x202001, true)) else (some (x204000, x204001, x204002, false)))))) else (if x202000 = 1 then (if (x202007.length : Int) = (wrap64 ((wrap64 ((wrap64 (x202001 * x202002)) * x202002)) * x201002)) then (if (x202007.length : Int) > 600 then (some (x204000, x204001, x204002, false)) else (some (x209000, x209001, x202001, true))) else (some (x204000, x204001, x204002, false))) else (if x202000 = 5 then ((spec_SizeOf.f x201000 x201001 x201002).bind fun t211 => (if t211 > 8 then (some (x204000, x204001, x204002, false)) else ((spec_SizeOf.f x201000 x201001 x201002).bind fun t212 => (some (1, 1, t212, true))))) else (some (x209000, x209001, x209002, true))))
end
def spec_OutShape.f (k : Nat) (a0_0 : Int) (a0_1 : Int) (a0_2 : Int) (a1_0 : Int) (a1_1 : Int) (a1_2 : Int) (a1_3 : Int) (a1_4 : Int) (a1_5 : Int) (a1_6 : Int) (l1_7 : List Int) (l1_8 : List Int) : Option (Int × Int × Int × Bool) := (spec_ShapeOk.f a0_0 a0_1 a0_2).bind fun t204 => (if t204 = true then ((spec_l01In.f a1_0 0 5).bind fun t205 => (spec_OutShape.j0 k (!t205) a0_0 a0_1 a0_2 a1_0 a1_1 a1_2 a1_3 a1_4 a1_5 a1_6 l1_7 l1_8 0 0 0)) else (spec_OutShape.j0 k true a0_0 a0_1 a0_2 a1_0 a1_1 a1_2 a1_3 a1_4 a1_5 a1_6 l1_7 l1_8 0 0 0))
def spec_OutShape.T15 : Bool × List (List Nat × List Nat) := (true, [([], []), ([0], [0]), ([1], [1]), ([2, 1], [2]), ([3], [3]), ([4, 3], [3, 4]), ([5, 3], [3, 5]), ([3], [3]), ([7, 3], [3, 7]), ([3], [3]), ([9, 3, 3], [3, 9]), ([8, 10, 3], [3, 8, 10]), ([6, 11, 3], [3, 6, 11]), ([3, 12], [3, 12])])
def spec_OutShape.B15 : List Nat := [0, 1, 3, 7, 15, 31, 63, 15, 143, 15, 527, 1935, 4095, 8191]
theorem spec_OutShape.tab15 : rtab .any (opsOf Try.f98 15) = spec_OutShape.T15 := by kernel_rfl
theorem spec_OutShape.bits15 : waitsOk spec_OutShape.T15.2 spec_OutShape.B15 = true := by kernel_rfl
set_option maxHeartbeats 8000000 in
set_option maxRecDepth 100000 in
theorem spec_OutShape.calls (k : Nat) (a0_0 : Int) (a0_1 : Int) (a0_2 : Int) (a1_0 : Int) (a1_1 : Int) (a1_2 : Int) (a1_3 : Int) (a1_4 : Int) (a1_5 : Int) (a1_6 : Int) (A1_7 : Option Addr) (c1_7 : Nat) (l1_7 : List Int) (A1_8 : Option Addr) (c1_8 : Nat) (l1_8 : List Int) (r1 : Int) (r2 : Int) (r3 : Int) (r4 : Bool) (w : World) (hr1_7 : Kd.C (Kd.int .i64) w A1_7 l1_7.length l1_7) (hc1_7 : l1_7.length ≤ c1_7) (hr1_8 : Kd.C (Kd.int .i64) w A1_8 l1_8.length l1_8) (hc1_8 : l1_8.length ≤ c1_8) (h : spec_OutShape.f k a0_0 a0_1 a0_2 a1_0 a1_1 a1_2 a1_3 a1_4 a1_5 a1_6 l1_7 l1_8 = some (r1, r2, r3, r4)) :
   Calls Try.prog 98 #[.agg #[.int .i64 a0_0, .int .i64 a0_1, .int .i64 a0_2], .agg #[.int .i64 a1_0, .int .i64 a1_1, .int .i64 a1_2, .int .i64 a1_3, .int .i64 a1_4, .int .i64 a1_5, .int .i64 a1_6, .slice A1_7 l1_7.length c1_7, .slice A1_8 l1_8.length c1_8]] w fun e w' => e = .returned (.tuple #[.agg #[.int .i64 r1, .int .i64 r2, .int .i64 r3], .bool r4]) ∧ Below w.heap.size w w' := by
  have hu25 := Try.underlying25
  have hu73 := Try.underlying73
  have HR1_7 := Aside0.mk hr1_7
  have HC1_7 := Aside0.mk hc1_7
  clear hr1_7 hc1_7
  have HR1_8 := Aside0.mk hr1_8
  have HC1_8 := Aside0.mk hc1_8
  clear hr1_8 hc1_8
  have HB := Aside0.mk (Below.refl w.heap.size w)
  have H : ((spec_ShapeOk.f a0_0 a0_1 a0_2).bind fun t204 => (if t204 = true then ((spec_l01In.f a1_0 0 5).bind fun t205 => (spec_OutShape.j0 k (!t205) a0_0 a0_1 a0_2 a1_0 a1_1 a1_2 a1_3 a1_4 a1_5 a1_6 l1_7 l1_8 0 0 0)) else (spec_OutShape.j0 k true a0_0 a0_1 a0_2 a1_0 a1_1 a1_2 a1_3 a1_4 a1_5 a1_6 l1_7 l1_8 0 0 0))) = some (r1, r2, r3, r4) := h
  clear h
  have HC3 := Aside0.mk H
  clear H
  go_enter Try.func98, Try.ntmps98
  go_upto_region 2 with (first | ((with_reducible refine gate_dst (N := 2) rfl ?_); (try (refine gate_guard (by rfl) ?_; dsimp only)); refine boxM 2 #[.int .i64 a0_0, .int .i64 a0_1, .int .i64 a0_2] 25 ?_; intro gb200 hg w4 BK200 hb; replace HB := box_at w hb hg; obtain ⟨HB, GW200, GE200⟩ := HB; clear hb hg) | ((with_reducible refine gate_dst (N := 3) rfl ?_); (try (refine gate_guard (by rfl) ?_; dsimp only)); refine boxM 3 #[.int .i64 a1_0, .int .i64 a1_1, .int .i64 a1_2, .int .i64 a1_3, .int .i64 a1_4, .int .i64 a1_5, .int .i64 a1_6, .slice A1_7 l1_7.length c1_7, .slice A1_8 l1_8.length c1_8] 73 ?_; intro gb201 hg w5 BK201 hb; replace HB := box_at w hb hg; obtain ⟨HB, GW201, GE201⟩ := HB; replace BK200 := box_on gb200 hb hg; obtain ⟨BK200, NB200_201, NB201_200⟩ := BK200; clear hb hg) | ((with_reducible refine gate_dst (N := 4) rfl ?_); (try (refine gate_guard (by rfl) ?_; dsimp only)); refine boxM 4 #[.int .i64 0, .int .i64 0, .int .i64 0] 25 ?_; intro gb202 hg w6 BK202 hb; replace HB := box_at w hb hg; obtain ⟨HB, GW202, GE202⟩ := HB; replace BK200 := box_on gb200 hb hg; obtain ⟨BK200, NB200_202, NB202_200⟩ := BK200; replace BK201 := box_on gb201 hb hg; obtain ⟨BK201, NB201_202, NB202_201⟩ := BK201; clear hb hg) | ((with_reducible refine gate_dst (N := 6) rfl ?_); (try (refine gate_guard (by rfl) ?_; dsimp only)); refine boxM 6 #[.int .i64 0, .int .i64 0, .int .i64 0] 25 ?_; intro gb203 hg w7 BK203 hb; replace HB := box_at w hb hg; obtain ⟨HB, GW203, GE203⟩ := HB; replace BK200 := box_on gb200 hb hg; obtain ⟨BK200, NB200_203, NB203_200⟩ := BK200; replace BK201 := box_on gb201 hb hg; obtain ⟨BK201, NB201_203, NB203_201⟩ := BK201; replace BK202 := box_on gb202 hb hg; obtain ⟨BK202, NB202_203, NB203_202⟩ := BK202; clear hb hg; have hnb8 := NB203_200.out; have hnc8 := NB200_203.out; have hnb9 := NB203_201.out; have hnc9 := NB201_203.out; have hnb10 := NB203_202.out; have hnc10 := NB202_203.out; obtain ⟨hcz11_0, hcz11_1, hcz11_2, hfz11_0, hfz11_1, hfz11_2⟩ := cells3 BK203.out))
  (try simp only [Act.put, zA, zB, zC])
  go_cut [18] (fun v18 wc => ∃ (kq : Nat) (x18_2 : Bool), v18 = .bool x18_2 ∧ Aside0 (spec_OutShape.j0 kq x18_2 a0_0 a0_1 a0_2 a1_0 a1_1 a1_2 a1_3 a1_4 a1_5 a1_6 l1_7 l1_8 0 0 0 = some (r1, r2, r3, r4)) ∧ Aside0 (kq ≤ k) ∧ Aside0 (wc.heap[gb200]? = some (.cells #[.int .i64 a0_0, .int .i64 a0_1, .int .i64 a0_2] 25 (0, 0))) ∧ Aside0 (wc.heap[gb201]? = some (.cells #[.int .i64 a1_0, .int .i64 a1_1, .int .i64 a1_2, .int .i64 a1_3, .int .i64 a1_4, .int .i64 a1_5, .int .i64 a1_6, (.slice A1_7 l1_7.length c1_7), (.slice A1_8 l1_8.length c1_8)] 73 (0, 0))) ∧ Aside0 (wc.heap[gb202]? = some (.cells #[.int .i64 0, .int .i64 0, .int .i64 0] 25 (0, 0))) ∧ Aside0 (wc.heap[gb203]? = some (.cells #[.int .i64 0, .int .i64 0, .int .i64 0] 25 (0, 0))) ∧ Aside0 (Below w.heap.size w wc))
  case first =>
   have H := HC3.out
   clear HC3
   replace H := Option.bind_eq_some_iff.mp H
   obtain ⟨t204, A120, H⟩ := H
   (try dsimp only at H)
   have A12 := Aside0.mk A120
   clear A120
   by_cases c13 : t204 = true
   ·subst c13
    rw [if_pos rfl] at H
    replace H := Option.bind_eq_some_iff.mp H
    obtain ⟨t205, A140, H⟩ := H
    (try dsimp only at H)
    have A14 := Aside0.mk A140
    clear A140
    have H' := Aside0.mk H
    clear H
    have hnb15 := NB200_201.out
    have hnc15 := NB201_200.out
    have hnb16 := NB200_202.out
    have hnc16 := NB202_200.out
    have hnb17 := NB200_203.out
    have hnc17 := NB203_200.out
    obtain ⟨hcz18_0, hcz18_1, hcz18_2, hfz18_0, hfz18_1, hfz18_2⟩ := cells3 BK200.out
    go_wp2_with (first | ((with_reducible refine gate_callee (f := 97) rfl ?_); refine goesM (some 11) rfl rfl Try.func97 (by kernel_rfl) rfl #[.agg #[.int .i64 a0_0, .int .i64 a0_1, .int .i64 a0_2]] rfl ?_; (with_reducible refine (spec_ShapeOk.calls a0_0 a0_1 a0_2 true _ A12.out).mono ?_); rintro e w19 ⟨rfl, hb⟩; refine ⟨_, rfl, ?_⟩; replace HB := bel_on w hb; replace BK200 := Aside0.mk (blk_below (g := gb200) (o := .cells #[.int .i64 a0_0, .int .i64 a0_1, .int .i64 a0_2] 25 (0, 0)) (blk_fars BK200.out) hb); replace BK201 := Aside0.mk (blk_below (g := gb201) (o := .cells #[.int .i64 a1_0, .int .i64 a1_1, .int .i64 a1_2, .int .i64 a1_3, .int .i64 a1_4, .int .i64 a1_5, .int .i64 a1_6, .slice A1_7 l1_7.length c1_7, .slice A1_8 l1_8.length c1_8] 73 (0, 0)) (blk_fars BK201.out) hb); replace BK202 := Aside0.mk (blk_below (g := gb202) (o := .cells #[.int .i64 0, .int .i64 0, .int .i64 0] 25 (0, 0)) (blk_fars BK202.out) hb); replace BK203 := Aside0.mk (blk_below (g := gb203) (o := .cells #[.int .i64 0, .int .i64 0, .int .i64 0] 25 (0, 0)) (blk_fars (puts3 BK203.out)) hb); (try clear hb); have hnb20 := NB201_202.out; have hnc20 := NB202_201.out; have hnb21 := NB201_203.out; have hnc21 := NB203_201.out; obtain ⟨hcz22_0, hcz22_1, hcz22_2, hcz22_3, hcz22_4, hcz22_5, hcz22_6, hcz22_7, hcz22_8, hfz22_0, hfz22_1, hfz22_2, hfz22_3, hfz22_4, hfz22_5, hfz22_6, hfz22_7, hfz22_8⟩ := cells9 BK201.out) | (go_at_call 79; (with_reducible refine (spec_l01In.calls a1_0 0 5 t205 _ A14.out).mono ?_); rintro e w' ⟨rfl, ⟨nd, rfl⟩⟩))
    go_meet
    case rel => exact ⟨_, (!t205), (by first | rfl | (simp; done) | (simp [*]; done)), H', ⟨by first | omega | exact Nat.le_refl _⟩, ⟨by (with_reducible repeat (first | refine blk_drewN ?_ _ | refine blk_drew ?_ | refine blk_alloc ?_ _)); exact BK200.out⟩, ⟨by (with_reducible repeat (first | refine blk_drewN ?_ _ | refine blk_drew ?_ | refine blk_alloc ?_ _)); exact BK201.out⟩, ⟨by (with_reducible repeat (first | refine blk_drewN ?_ _ | refine blk_drew ?_ | refine blk_alloc ?_ _)); exact BK202.out⟩, ⟨by (with_reducible repeat (first | refine blk_drewN ?_ _ | refine blk_drew ?_ | refine blk_alloc ?_ _)); exact BK203.out⟩, ⟨bel_now⟩⟩
   ·replace c13 := Bool.eq_false_iff.mpr c13
    subst c13
    rw [if_neg (show ¬ (false = true) by decide)] at H
    have H' := Aside0.mk H
    clear H
    have hnb23 := NB200_201.out
    have hnc23 := NB201_200.out
    have hnb24 := NB200_202.out
    have hnc24 := NB202_200.out
    have hnb25 := NB200_203.out
    have hnc25 := NB203_200.out
    obtain ⟨hcz26_0, hcz26_1, hcz26_2, hfz26_0, hfz26_1, hfz26_2⟩ := cells3 BK200.out
    go_wp2_with (first | ((with_reducible refine gate_callee (f := 97) rfl ?_); refine goesM (some 11) rfl rfl Try.func97 (by kernel_rfl) rfl #[.agg #[.int .i64 a0_0, .int .i64 a0_1, .int .i64 a0_2]] rfl ?_; (with_reducible refine (spec_ShapeOk.calls a0_0 a0_1 a0_2 false _ A12.out).mono ?_); rintro e w27 ⟨rfl, hb⟩; refine ⟨_, rfl, ?_⟩; replace HB := bel_on w hb; replace BK200 := Aside0.mk (blk_below (g := gb200) (o := .cells #[.int .i64 a0_0, .int .i64 a0_1, .int .i64 a0_2] 25 (0, 0)) (blk_fars BK200.out) hb); replace BK201 := Aside0.mk (blk_below (g := gb201) (o := .cells #[.int .i64 a1_0, .int .i64 a1_1, .int .i64 a1_2, .int .i64 a1_3, .int .i64 a1_4, .int .i64 a1_5, .int .i64 a1_6, .slice A1_7 l1_7.length c1_7, .slice A1_8 l1_8.length c1_8] 73 (0, 0)) (blk_fars BK201.out) hb); replace BK202 := Aside0.mk (blk_below (g := gb202) (o := .cells #[.int .i64 0, .int .i64 0, .int .i64 0] 25 (0, 0)) (blk_fars BK202.out) hb); replace BK203 := Aside0.mk (blk_below (g := gb203) (o := .cells #[.int .i64 0, .int .i64 0, .int .i64 0] 25 (0, 0)) (blk_fars (puts3 BK203.out)) hb); (try clear hb)))
    go_meet
    case rel => exact ⟨_, (true), (by first | rfl | (simp; done) | (simp [*]; done)), H', ⟨by first | omega | exact Nat.le_refl _⟩, ⟨by (with_reducible repeat (first | refine blk_drewN ?_ _ | refine blk_drew ?_ | refine blk_alloc ?_ _)); exact BK200.out⟩, ⟨by (with_reducible repeat (first | refine blk_drewN ?_ _ | refine blk_drew ?_ | refine blk_alloc ?_ _)); exact BK201.out⟩, ⟨by (with_reducible repeat (first | refine blk_drewN ?_ _ | refine blk_drew ?_ | refine blk_alloc ?_ _)); exact BK202.out⟩, ⟨by (with_reducible repeat (first | refine blk_drewN ?_ _ | refine blk_drew ?_ | refine blk_alloc ?_ _)); exact BK203.out⟩, ⟨bel_now⟩⟩
  case rest =>
   clear HC3
   try clear c1
   try clear c2
   try clear p2
   try clear c8
   try clear c9
   try clear c10
   try clear c13
   try clear c15
   try clear c16
   try clear c17
   try clear c20
   try clear c21
   try clear c23
   try clear c24
   try clear c25
   try clear hcz11_0 hcz11_1 hcz11_2 hfz11_0 hfz11_1 hfz11_2
   try clear hcz18_0 hcz18_1 hcz18_2 hfz18_0 hfz18_1 hfz18_2
   try clear hcz22_0 hcz22_1 hcz22_2 hcz22_3 hcz22_4 hcz22_5 hcz22_6 hcz22_7 hcz22_8 hfz22_0 hfz22_1 hfz22_2 hfz22_3 hfz22_4 hfz22_5 hfz22_6 hfz22_7 hfz22_8
   try clear hcz26_0 hcz26_1 hcz26_2 hfz26_0 hfz26_1 hfz26_2
   obtain ⟨kq, x18_2, rfl, HA, HJ2, BK200, BK201, BK202, BK203, HB⟩ := hcut
   cases kq with
   | zero => exact absurd HA.out (by simp [spec_OutShape.j0])
   | succ kj2 =>
    have H := HA.out
    clear HA
    simp only [spec_OutShape.j0] at H
    by_cases c28 : x18_2 = true
    ·subst c28
     rw [if_pos rfl] at H
     simp only [Option.some.injEq, Prod.mk.injEq] at H
     obtain ⟨rfl, rfl, rfl, rfl⟩ := H
     have hnb29 := NB203_200.out
     have hnc29 := NB200_203.out
     have hnb30 := NB203_201.out
     have hnc30 := NB201_203.out
     have hnb31 := NB203_202.out
     have hnc31 := NB202_203.out
     obtain ⟨hcz32_0, hcz32_1, hcz32_2, hfz32_0, hfz32_1, hfz32_2⟩ := cells3 BK203.out
     have hnb33 := NB202_200.out
     have hnc33 := NB200_202.out
     have hnb34 := NB202_201.out
     have hnc34 := NB201_202.out
     obtain ⟨hcz35_0, hcz35_1, hcz35_2, hfz35_0, hfz35_1, hfz35_2⟩ := cells3 BK202.out
     go_wp2
     refine bodyPost_ret (results_ct rfl _ _ gb202 25 #[.int .i64 0, .int .i64 0, .int .i64 0] (0, 0) _ rfl (blk_fars (puts3 BK202.out)) Try.underlying25 rfl (by kernel_rfl)) rfl ?_
     exact ⟨eqN, bel_now⟩
    ·replace c28 := Bool.eq_false_iff.mpr c28
     subst c28
     rw [if_neg (show ¬ (false = true) by decide)] at H
     replace H := Option.bind_eq_some_iff.mp H
     obtain ⟨t206, A360, H⟩ := H
     (try dsimp only at H)
     have A36 := Aside0.mk A360
     clear A360
     replace H := Option.bind_eq_some_iff.mp H
     obtain ⟨t207, A370, H⟩ := H
     (try dsimp only at H)
     have A37 := Aside0.mk A370
     clear A370
     by_cases c38 : t207 = true
     ·subst c38
      rw [if_pos rfl] at H
      have HC39 := Aside0.mk H
      clear H
      have hnb40 := NB201_200.out
      have hnc40 := NB200_201.out
      have hnb41 := NB201_202.out
      have hnc41 := NB202_201.out
      have hnb42 := NB201_203.out
      have hnc42 := NB203_201.out
      obtain ⟨hcz43_0, hcz43_1, hcz43_2, hcz43_3, hcz43_4, hcz43_5, hcz43_6, hcz43_7, hcz43_8, hfz43_0, hfz43_1, hfz43_2, hfz43_3, hfz43_4, hfz43_5, hfz43_6, hfz43_7, hfz43_8⟩ := cells9 BK201.out
      go_upto_if 32 with (first | ((with_reducible refine gate_callee (f := 79) rfl ?_); refine goesM (some 22) rfl rfl Try.func79 (by kernel_rfl) rfl #[.int .i64 a1_0, .int .i64 1, .int .i64 3] rfl ?_; (with_reducible refine (spec_l01In.calls a1_0 1 3 t206 _ A36.out).mono ?_); rintro e w' ⟨rfl, ⟨nd, rfl⟩⟩; refine ⟨_, rfl, ?_⟩; (try (rw [drewN_self wc]; generalize hq_ : World.drewN wc _ = wc; have n0_ : Aside0 (wc.heap[gb200]? = some (.cells #[.int .i64 a0_0, .int .i64 a0_1, .int .i64 a0_2] 25 (0, 0))) := ⟨by rw [← hq_]; exact blk_now⟩; have n1_ : Aside0 (wc.heap[gb201]? = some (.cells #[.int .i64 a1_0, .int .i64 a1_1, .int .i64 a1_2, .int .i64 a1_3, .int .i64 a1_4, .int .i64 a1_5, .int .i64 a1_6, .slice A1_7 l1_7.length c1_7, .slice A1_8 l1_8.length c1_8] 73 (0, 0))) := ⟨by rw [← hq_]; exact blk_now⟩; have n2_ : Aside0 (wc.heap[gb202]? = some (.cells #[.int .i64 0, .int .i64 0, .int .i64 0] 25 (0, 0))) := ⟨by rw [← hq_]; exact blk_now⟩; have n3_ : Aside0 (wc.heap[gb203]? = some (.cells #[.int .i64 0, .int .i64 0, .int .i64 0] 25 (0, 0))) := ⟨by rw [← hq_]; exact blk_now⟩; have n4_ : Aside0 (Below w.heap.size w wc) := ⟨by rw [← hq_]; exact bel_now⟩; clear BK200 BK201 BK202 BK203 HB hq_; have BK200 := n0_; have BK201 := n1_; have BK202 := n2_; have BK203 := n3_; have HB := n4_; clear n0_ n1_ n2_ n3_ n4_; (try obtain ⟨hcuBK201_0, hcuBK201_1, hcuBK201_2, hcuBK201_3, hcuBK201_4, hcuBK201_5, hcuBK201_6, hcuBK201_7, hcuBK201_8, hcuBK201_9, hcuBK201_10, hcuBK201_11, hcuBK201_12, hcuBK201_13, hcuBK201_14, hcuBK201_15, hcuBK201_16, hcuBK201_17⟩ := cells9 BK201.out)))) | ((with_reducible refine gate_callee (f := 115) rfl ?_); refine goesM (some 28) rfl rfl Try.func115 (by kernel_rfl) rfl #[.agg #[.int .i64 a1_0, .int .i64 a1_1, .int .i64 a1_2, .int .i64 a1_3, .int .i64 a1_4, .int .i64 a1_5, .int .i64 a1_6, .slice A1_7 l1_7.length c1_7, .slice A1_8 l1_8.length c1_8], .bool t206, .bool (decide (a1_0 ≤ 1))] rfl ?_; (with_reducible refine (spec_l03Plain.calls kj2 a1_0 a1_1 a1_2 a1_3 a1_4 a1_5 a1_6 _ _ l1_7 _ _ l1_8 t206 (decide (a1_0 ≤ 1)) true _ ?side1 ?side2 ?side3 ?side4 A37.out).mono ?_); (case side1 => exact C_now HR1_7.out); (case side2 => exact HC1_7.out); (case side3 => exact C_now HR1_8.out); (case side4 => exact HC1_8.out); rintro e w44 ⟨rfl, hb⟩; refine ⟨_, rfl, ?_⟩; replace HB := bel_on w hb; replace BK200 := blk_on gb200 hb; replace BK201 := blk_on gb201 hb; replace BK202 := blk_on gb202 hb; replace BK203 := blk_on gb203 hb; (try clear hb); have hnb45 := NB200_202.out; have hnc45 := NB202_200.out; have hnb46 := NB200_203.out; have hnc46 := NB203_200.out; obtain ⟨hcz47_0, hcz47_1, hcz47_2, hfz47_0, hfz47_1, hfz47_2⟩ := cells3 BK200.out) | ((with_reducible refine gate_dst (N := 8) rfl ?_); (try (refine gate_guard (by rfl) ?_; dsimp only)); refine boxM 8 #[.int .i64 0, .int .i64 0, .int .i64 0] 25 ?_; intro gb208 hg w48 BK208 hb; replace HB := box_at w hb hg; obtain ⟨HB, GW208, GE208⟩ := HB; replace BK200 := box_on gb200 hb hg; obtain ⟨BK200, NB200_208, NB208_200⟩ := BK200; replace BK201 := box_on gb201 hb hg; obtain ⟨BK201, NB201_208, NB208_201⟩ := BK201; replace BK202 := box_on gb202 hb hg; obtain ⟨BK202, NB202_208, NB208_202⟩ := BK202; replace BK203 := box_on gb203 hb hg; obtain ⟨BK203, NB203_208, NB208_203⟩ := BK203; clear hb hg; have hnb49 := NB208_200.out; have hnc49 := NB200_208.out; have hnb50 := NB208_201.out; have hnc50 := NB201_208.out; have hnb51 := NB208_202.out; have hnc51 := NB202_208.out; have hnb52 := NB208_203.out; have hnc52 := NB203_208.out; obtain ⟨hcz53_0, hcz53_1, hcz53_2, hfz53_0, hfz53_1, hfz53_2⟩ := cells3 BK208.out))
      (try simp only [Act.put, zA, zB, zC])
      go_cut [] (fun wc => ∃ (kq : Nat) (x203000_38 : Int) (x203001_38 : Int) (x203002_38 : Int) (x209000_38 : Int) (x209001_38 : Int), Aside0 (spec_OutShape.j1 kq a0_0 a0_1 a0_2 a1_0 a1_1 a1_2 a1_3 a1_4 a1_5 a1_6 l1_7 l1_8 0 0 0 x209000_38 x209001_38 a0_2 = some (r1, r2, r3, r4)) ∧ Aside0 (kq ≤ kj2) ∧ Aside0 (wc.heap[gb200]? = some (.cells #[.int .i64 a0_0, .int .i64 a0_1, .int .i64 a0_2] 25 (0, 0))) ∧ Aside0 (wc.heap[gb201]? = some (.cells #[.int .i64 a1_0, .int .i64 a1_1, .int .i64 a1_2, .int .i64 a1_3, .int .i64 a1_4, .int .i64 a1_5, .int .i64 a1_6, (.slice A1_7 l1_7.length c1_7), (.slice A1_8 l1_8.length c1_8)] 73 (0, 0))) ∧ Aside0 (wc.heap[gb202]? = some (.cells #[.int .i64 x203000_38, .int .i64 x203001_38, .int .i64 x203002_38] 25 (0, 0))) ∧ Aside0 (wc.heap[gb203]? = some (.cells #[.int .i64 0, .int .i64 0, .int .i64 0] 25 (0, 0))) ∧ Aside0 (wc.heap[gb208]? = some (.cells #[.int .i64 x209000_38, .int .i64 x209001_38, .int .i64 a0_2] 25 (0, 0))) ∧ Aside0 (Below w.heap.size w wc))
      case first =>
       have H := HC39.out
       clear HC39
       by_cases c54 : t206 = true
       ·subst c54
        rw [if_pos rfl] at H
        by_cases c55 : a1_2 > a0_0
        ·rw [if_pos c55] at H
         have c55b0 : decide (a0_0 < a1_2) = true := decide_eq_true c55
         clear c55
         (first | rw [c55b0] | (simp only [i64_w, i32_w]; rw [c55b0]) | skip)
         simp only [Option.some.injEq, Prod.mk.injEq] at H
         obtain ⟨rfl, rfl, rfl, rfl⟩ := H
         have hnb56 := NB201_200.out
         have hnc56 := NB200_201.out
         have hnb57 := NB201_202.out
         have hnc57 := NB202_201.out
         have hnb58 := NB201_203.out
         have hnc58 := NB203_201.out
         have hnb59 := NB201_208.out
         have hnc59 := NB208_201.out
         obtain ⟨hcz60_0, hcz60_1, hcz60_2, hcz60_3, hcz60_4, hcz60_5, hcz60_6, hcz60_7, hcz60_8, hfz60_0, hfz60_1, hfz60_2, hfz60_3, hfz60_4, hfz60_5, hfz60_6, hfz60_7, hfz60_8⟩ := cells9 BK201.out
         have hnb61 := NB200_202.out
         have hnc61 := NB202_200.out
         have hnb62 := NB200_203.out
         have hnc62 := NB203_200.out
         have hnb63 := NB200_208.out
         have hnc63 := NB208_200.out
         obtain ⟨hcz64_0, hcz64_1, hcz64_2, hfz64_0, hfz64_1, hfz64_2⟩ := cells3 BK200.out
         have hnb65 := NB203_202.out
         have hnc65 := NB202_203.out
         have hnb66 := NB203_208.out
         have hnc66 := NB208_203.out
         obtain ⟨hcz67_0, hcz67_1, hcz67_2, hfz67_0, hfz67_1, hfz67_2⟩ := cells3 BK203.out
         have hnb68 := NB202_208.out
         have hnc68 := NB208_202.out
         obtain ⟨hcz69_0, hcz69_1, hcz69_2, hfz69_0, hfz69_1, hfz69_2⟩ := cells3 BK202.out
         go_wp2
         refine bodyPost_ret (results_ct rfl _ _ gb202 25 #[.int .i64 0, .int .i64 0, .int .i64 0] (0, 0) _ rfl (by (with_reducible repeat (first | refine blk_drewN ?_ _ | refine blk_drew ?_ | refine blk_alloc ?_ _)); refine blk_put (cs := #[.int .i64 0, .int .i64 0, .int .i64 0]) ?_ 2 _ rfl; (with_reducible repeat (first | refine blk_drewN ?_ _ | refine blk_drew ?_ | refine blk_alloc ?_ _)); refine blk_put (cs := #[.int .i64 0, .int .i64 0, .int .i64 0]) ?_ 1 _ rfl; (with_reducible repeat (first | refine blk_drewN ?_ _ | refine blk_drew ?_ | refine blk_alloc ?_ _)); refine blk_put (cs := #[.int .i64 0, .int .i64 0, .int .i64 0]) ?_ 0 _ rfl; (with_reducible repeat (first | refine blk_drewN ?_ _ | refine blk_drew ?_ | refine blk_alloc ?_ _)); refine blk_far ?_ NB202_208.out _; (with_reducible repeat (first | refine blk_drewN ?_ _ | refine blk_drew ?_ | refine blk_alloc ?_ _)); refine blk_far ?_ NB202_208.out _; (with_reducible repeat (first | refine blk_drewN ?_ _ | refine blk_drew ?_ | refine blk_alloc ?_ _)); refine blk_far ?_ NB202_208.out _; (with_reducible repeat (first | refine blk_drewN ?_ _ | refine blk_drew ?_ | refine blk_alloc ?_ _)); exact BK202.out) Try.underlying25 rfl (by kernel_rfl)) rfl ?_
         exact ⟨eqN, bel_now⟩
        ·rw [if_neg c55] at H
         have c55b0 : decide (a0_0 < a1_2) = false := decide_eq_false c55
         clear c55
         (first | rw [c55b0] | (simp only [i64_w, i32_w]; rw [c55b0]) | skip)
         by_cases c70 : a1_2 > a0_1
         ·rw [if_pos c70] at H
          have c70b0 : decide (a0_1 < a1_2) = true := decide_eq_true c70
          clear c70
          simp only [Option.some.injEq, Prod.mk.injEq] at H
          obtain ⟨rfl, rfl, rfl, rfl⟩ := H
          have hnb71 := NB201_200.out
          have hnc71 := NB200_201.out
          have hnb72 := NB201_202.out
          have hnc72 := NB202_201.out
          have hnb73 := NB201_203.out
          have hnc73 := NB203_201.out
          have hnb74 := NB201_208.out
          have hnc74 := NB208_201.out
          obtain ⟨hcz75_0, hcz75_1, hcz75_2, hcz75_3, hcz75_4, hcz75_5, hcz75_6, hcz75_7, hcz75_8, hfz75_0, hfz75_1, hfz75_2, hfz75_3, hfz75_4, hfz75_5, hfz75_6, hfz75_7, hfz75_8⟩ := cells9 BK201.out
          have hnb76 := NB200_202.out
          have hnc76 := NB202_200.out
          have hnb77 := NB200_203.out
          have hnc77 := NB203_200.out
          have hnb78 := NB200_208.out
          have hnc78 := NB208_200.out
          obtain ⟨hcz79_0, hcz79_1, hcz79_2, hfz79_0, hfz79_1, hfz79_2⟩ := cells3 BK200.out
          have hnb80 := NB203_202.out
          have hnc80 := NB202_203.out
          have hnb81 := NB203_208.out
          have hnc81 := NB208_203.out
          obtain ⟨hcz82_0, hcz82_1, hcz82_2, hfz82_0, hfz82_1, hfz82_2⟩ := cells3 BK203.out
          have hnb83 := NB202_208.out
          have hnc83 := NB208_202.out
          obtain ⟨hcz84_0, hcz84_1, hcz84_2, hfz84_0, hfz84_1, hfz84_2⟩ := cells3 BK202.out
          go_wp2
          refine bodyPost_ret (results_ct rfl _ _ gb202 25 #[.int .i64 0, .int .i64 0, .int .i64 0] (0, 0) _ rfl (by (with_reducible repeat (first | refine blk_drewN ?_ _ | refine blk_drew ?_ | refine blk_alloc ?_ _)); refine blk_put (cs := #[.int .i64 0, .int .i64 0, .int .i64 0]) ?_ 2 _ rfl; (with_reducible repeat (first | refine blk_drewN ?_ _ | refine blk_drew ?_ | refine blk_alloc ?_ _)); refine blk_put (cs := #[.int .i64 0, .int .i64 0, .int .i64 0]) ?_ 1 _ rfl; (with_reducible repeat (first | refine blk_drewN ?_ _ | refine blk_drew ?_ | refine blk_alloc ?_ _)); refine blk_put (cs := #[.int .i64 0, .int .i64 0, .int .i64 0]) ?_ 0 _ rfl; (with_reducible repeat (first | refine blk_drewN ?_ _ | refine blk_drew ?_ | refine blk_alloc ?_ _)); refine blk_far ?_ NB202_208.out _; (with_reducible repeat (first | refine blk_drewN ?_ _ | refine blk_drew ?_ | refine blk_alloc ?_ _)); refine blk_far ?_ NB202_208.out _; (with_reducible repeat (first | refine blk_drewN ?_ _ | refine blk_drew ?_ | refine blk_alloc ?_ _)); refine blk_far ?_ NB202_208.out _; (with_reducible repeat (first | refine blk_drewN ?_ _ | refine blk_drew ?_ | refine blk_alloc ?_ _)); exact BK202.out) Try.underlying25 rfl (by kernel_rfl)) rfl ?_
          exact ⟨eqN, bel_now⟩
         ·rw [if_neg c70] at H
          have c70b0 : decide (a0_1 < a1_2) = false := decide_eq_false c70
          clear c70
          by_cases c85 : a1_3 = 0
          ·rw [if_pos c85] at H
           exact absurd H (by simp)
          ·rw [if_neg c85] at H
           have c85b0 : (a1_3 == 0) = false := beq_eq_false_iff_ne.mpr c85
           have c85b1 : (a1_3 != 0) = true := bne_iff_ne.mpr c85
           have H' := Aside0.mk H
           clear H
           have hnb86 := NB201_200.out
           have hnc86 := NB200_201.out
           have hnb87 := NB201_202.out
           have hnc87 := NB202_201.out
           have hnb88 := NB201_203.out
           have hnc88 := NB203_201.out
           have hnb89 := NB201_208.out
           have hnc89 := NB208_201.out
           obtain ⟨hcz90_0, hcz90_1, hcz90_2, hcz90_3, hcz90_4, hcz90_5, hcz90_6, hcz90_7, hcz90_8, hfz90_0, hfz90_1, hfz90_2, hfz90_3, hfz90_4, hfz90_5, hfz90_6, hfz90_7, hfz90_8⟩ := cells9 BK201.out
           have hnb91 := NB200_202.out
           have hnc91 := NB202_200.out
           have hnb92 := NB200_203.out
           have hnc92 := NB203_200.out
           have hnb93 := NB200_208.out
           have hnc93 := NB208_200.out
           obtain ⟨hcz94_0, hcz94_1, hcz94_2, hfz94_0, hfz94_1, hfz94_2⟩ := cells3 BK200.out
           have hnb95 := NB208_202.out
           have hnc95 := NB202_208.out
           have hnb96 := NB208_203.out
           have hnc96 := NB203_208.out
           obtain ⟨hcz97_0, hcz97_1, hcz97_2, hfz97_0, hfz97_1, hfz97_2⟩ := cells3 BK208.out
           go_wp2
           go_meet
           case rel => exact ⟨_, (0), (0), (0), (wrap64 ((wrap64 (Int.tdiv (wrap64 (a0_0 - a1_2)) a1_3)) + 1)), (wrap64 ((wrap64 (Int.tdiv (wrap64 (a0_1 - a1_2)) a1_3)) + 1)), H', ⟨by have := HJ2.out; first | omega | exact Nat.le_refl _⟩, ⟨by (with_reducible repeat (first | refine blk_drewN ?_ _ | refine blk_drew ?_ | refine blk_alloc ?_ _)); refine blk_far ?_ NB200_208.out _; (with_reducible repeat (first | refine blk_drewN ?_ _ | refine blk_drew ?_ | refine blk_alloc ?_ _)); refine blk_far ?_ NB200_208.out _; (with_reducible repeat (first | refine blk_drewN ?_ _ | refine blk_drew ?_ | refine blk_alloc ?_ _)); refine blk_far ?_ NB200_208.out _; (with_reducible repeat (first | refine blk_drewN ?_ _ | refine blk_drew ?_ | refine blk_alloc ?_ _)); refine blk_far ?_ NB200_208.out _; (with_reducible repeat (first | refine blk_drewN ?_ _ | refine blk_drew ?_ | refine blk_alloc ?_ _)); refine blk_far ?_ NB200_208.out _; (with_reducible repeat (first | refine blk_drewN ?_ _ | refine blk_drew ?_ | refine blk_alloc ?_ _)); exact BK200.out⟩, ⟨by (with_reducible repeat (first | refine blk_drewN ?_ _ | refine blk_drew ?_ | refine blk_alloc ?_ _)); refine blk_far ?_ NB201_208.out _; (with_reducible repeat (first | refine blk_drewN ?_ _ | refine blk_drew ?_ | refine blk_alloc ?_ _)); refine blk_far ?_ NB201_208.out _; (with_reducible repeat (first | refine blk_drewN ?_ _ | refine blk_drew ?_ | refine blk_alloc ?_ _)); refine blk_far ?_ NB201_208.out _; (with_reducible repeat (first | refine blk_drewN ?_ _ | refine blk_drew ?_ | refine blk_alloc ?_ _)); refine blk_far ?_ NB201_208.out _; (with_reducible repeat (first | refine blk_drewN ?_ _ | refine blk_drew ?_ | refine blk_alloc ?_ _)); refine blk_far ?_ NB201_208.out _; (with_reducible repeat (first | refine blk_drewN ?_ _ | refine blk_drew ?_ | refine blk_alloc ?_ _)); exact BK201.out⟩, ⟨by (with_reducible repeat (first | refine blk_drewN ?_ _ | refine blk_drew ?_ | refine blk_alloc ?_ _)); refine blk_far ?_ NB202_208.out _; (with_reducible repeat (first | refine blk_drewN ?_ _ | refine blk_drew ?_ | refine blk_alloc ?_ _)); refine blk_far ?_ NB202_208.out _; (with_reducible repeat (first | refine blk_drewN ?_ _ | refine blk_drew ?_ | refine blk_alloc ?_ _)); refine blk_far ?_ NB202_208.out _; (with_reducible repeat (first | refine blk_drewN ?_ _ | refine blk_drew ?_ | refine blk_alloc ?_ _)); refine blk_far ?_ NB202_208.out _; (with_reducible repeat (first | refine blk_drewN ?_ _ | refine blk_drew ?_ | refine blk_alloc ?_ _)); refine blk_far ?_ NB202_208.out _; (with_reducible repeat (first | refine blk_drewN ?_ _ | refine blk_drew ?_ | refine blk_alloc ?_ _)); exact BK202.out⟩, ⟨by (with_reducible repeat (first | refine blk_drewN ?_ _ | refine blk_drew ?_ | refine blk_alloc ?_ _)); refine blk_far ?_ NB203_208.out _; (with_reducible repeat (first | refine blk_drewN ?_ _ | refine blk_drew ?_ | refine blk_alloc ?_ _)); refine blk_far ?_ NB203_208.out _; (with_reducible repeat (first | refine blk_drewN ?_ _ | refine blk_drew ?_ | refine blk_alloc ?_ _)); refine blk_far ?_ NB203_208.out _; (with_reducible repeat (first | refine blk_drewN ?_ _ | refine blk_drew ?_ | refine blk_alloc ?_ _)); refine blk_far ?_ NB203_208.out _; (with_reducible repeat (first | refine blk_drewN ?_ _ | refine blk_drew ?_ | refine blk_alloc ?_ _)); refine blk_far ?_ NB203_208.out _; (with_reducible repeat (first | refine blk_drewN ?_ _ | refine blk_drew ?_ | refine blk_alloc ?_ _)); exact BK203.out⟩, ⟨by (with_reducible repeat (first | refine blk_drewN ?_ _ | refine blk_drew ?_ | refine blk_alloc ?_ _)); refine blk_put (cs := #[.int .i64 (wrap64 ((wrap64 (Int.tdiv (wrap64 (a0_0 - a1_2)) a1_3)) + 1)), .int .i64 a0_1, .int .i64 a0_2]) ?_ 1 _ rfl; (with_reducible repeat (first | refine blk_drewN ?_ _ | refine blk_drew ?_ | refine blk_alloc ?_ _)); refine blk_put (cs := #[.int .i64 a0_0, .int .i64 a0_1, .int .i64 a0_2]) ?_ 0 _ rfl; (with_reducible repeat (first | refine blk_drewN ?_ _ | refine blk_drew ?_ | refine blk_alloc ?_ _)); refine blk_put (cs := #[.int .i64 a0_0, .int .i64 a0_1, .int .i64 0]) ?_ 2 _ rfl; (with_reducible repeat (first | refine blk_drewN ?_ _ | refine blk_drew ?_ | refine blk_alloc ?_ _)); refine blk_put (cs := #[.int .i64 a0_0, .int .i64 0, .int .i64 0]) ?_ 1 _ rfl; (with_reducible repeat (first | refine blk_drewN ?_ _ | refine blk_drew ?_ | refine blk_alloc ?_ _)); refine blk_put (cs := #[.int .i64 0, .int .i64 0, .int .i64 0]) ?_ 0 _ rfl; (with_reducible repeat (first | refine blk_drewN ?_ _ | refine blk_drew ?_ | refine blk_alloc ?_ _)); exact BK208.out⟩, ⟨bel_now⟩⟩
       ·replace c54 := Bool.eq_false_iff.mpr c54
        subst c54
        rw [if_neg (show ¬ (false = true) by decide)] at H
        have H' := Aside0.mk H
        clear H
        go_wp2
        go_meet
        case rel => exact ⟨_, (0), (0), (0), (a0_0), (a0_1), H', ⟨by have := HJ2.out; first | omega | exact Nat.le_refl _⟩, ⟨by (with_reducible repeat (first | refine blk_drewN ?_ _ | refine blk_drew ?_ | refine blk_alloc ?_ _)); refine blk_far ?_ NB200_208.out _; (with_reducible repeat (first | refine blk_drewN ?_ _ | refine blk_drew ?_ | refine blk_alloc ?_ _)); refine blk_far ?_ NB200_208.out _; (with_reducible repeat (first | refine blk_drewN ?_ _ | refine blk_drew ?_ | refine blk_alloc ?_ _)); refine blk_far ?_ NB200_208.out _; (with_reducible repeat (first | refine blk_drewN ?_ _ | refine blk_drew ?_ | refine blk_alloc ?_ _)); exact BK200.out⟩, ⟨by (with_reducible repeat (first | refine blk_drewN ?_ _ | refine blk_drew ?_ | refine blk_alloc ?_ _)); refine blk_far ?_ NB201_208.out _; (with_reducible repeat (first | refine blk_drewN ?_ _ | refine blk_drew ?_ | refine blk_alloc ?_ _)); refine blk_far ?_ NB201_208.out _; (with_reducible repeat (first | refine blk_drewN ?_ _ | refine blk_drew ?_ | refine blk_alloc ?_ _)); refine blk_far ?_ NB201_208.out _; (with_reducible repeat (first | refine blk_drewN ?_ _ | refine blk_drew ?_ | refine blk_alloc ?_ _)); exact BK201.out⟩, ⟨by (with_reducible repeat (first | refine blk_drewN ?_ _ | refine blk_drew ?_ | refine blk_alloc ?_ _)); refine blk_far ?_ NB202_208.out _; (with_reducible repeat (first | refine blk_drewN ?_ _ | refine blk_drew ?_ | refine blk_alloc ?_ _)); refine blk_far ?_ NB202_208.out _; (with_reducible repeat (first | refine blk_drewN ?_ _ | refine blk_drew ?_ | refine blk_alloc ?_ _)); refine blk_far ?_ NB202_208.out _; (with_reducible repeat (first | refine blk_drewN ?_ _ | refine blk_drew ?_ | refine blk_alloc ?_ _)); exact BK202.out⟩, ⟨by (with_reducible repeat (first | refine blk_drewN ?_ _ | refine blk_drew ?_ | refine blk_alloc ?_ _)); refine blk_far ?_ NB203_208.out _; (with_reducible repeat (first | refine blk_drewN ?_ _ | refine blk_drew ?_ | refine blk_alloc ?_ _)); refine blk_far ?_ NB203_208.out _; (with_reducible repeat (first | refine blk_drewN ?_ _ | refine blk_drew ?_ | refine blk_alloc ?_ _)); refine blk_far ?_ NB203_208.out _; (with_reducible repeat (first | refine blk_drewN ?_ _ | refine blk_drew ?_ | refine blk_alloc ?_ _)); exact BK203.out⟩, ⟨by (with_reducible repeat (first | refine blk_drewN ?_ _ | refine blk_drew ?_ | refine blk_alloc ?_ _)); refine blk_put (cs := #[.int .i64 a0_0, .int .i64 a0_1, .int .i64 0]) ?_ 2 _ rfl; (with_reducible repeat (first | refine blk_drewN ?_ _ | refine blk_drew ?_ | refine blk_alloc ?_ _)); refine blk_put (cs := #[.int .i64 a0_0, .int .i64 0, .int .i64 0]) ?_ 1 _ rfl; (with_reducible repeat (first | refine blk_drewN ?_ _ | refine blk_drew ?_ | refine blk_alloc ?_ _)); refine blk_put (cs := #[.int .i64 0, .int .i64 0, .int .i64 0]) ?_ 0 _ rfl; (with_reducible repeat (first | refine blk_drewN ?_ _ | refine blk_drew ?_ | refine blk_alloc ?_ _)); exact BK208.out⟩, ⟨bel_now⟩⟩
      case rest =>
       clear HC39
       try clear c1
       try clear c2
       try clear p2 p2
       try clear c3
       try clear c4
       try clear c5
       try clear c6
       try clear p6
       try clear c7
       try clear c8
       try clear c9
       try clear c10
       try clear c11
       try clear c13
       try clear c15
       try clear c16
       try clear c17
       try clear c20
       try clear c21
       try clear c23
       try clear c24
       try clear c25
       try clear c28
       try clear c29
       try clear c30
       try clear c31
       try clear c33
       try clear c34
       try clear c38
       try clear c40
       try clear c41
       try clear c42
       try clear c45
       try clear c46
       try clear c49
       try clear c50
       try clear c51
       try clear c52
       try clear c54
       try clear c55
       try clear c55b0
       try clear c56
       try clear c57
       try clear c58
       try clear c59
       try clear c61
       try clear c62
       try clear c63
       try clear p64
       try clear c65
       try clear c66
       try clear c68
       try clear c70
       try clear c70b0
       try clear c71
       try clear c72
       try clear c73
       try clear c74
       try clear c76
       try clear c77
       try clear c78
       try clear c79
       try clear c80
       try clear c81
       try clear c83
       try clear c85
       try clear c85b0
       try clear c85b1
       try clear c86
       try clear c87
       try clear c88
       try clear c89
       try clear c91
       try clear c92
       try clear c93
       try clear c95
       try clear c96
       try clear c97
       try clear hcz11_0 hcz11_1 hcz11_2 hfz11_0 hfz11_1 hfz11_2
       try clear hcz18_0 hcz18_1 hcz18_2 hfz18_0 hfz18_1 hfz18_2
       try clear hcz22_0 hcz22_1 hcz22_2 hcz22_3 hcz22_4 hcz22_5 hcz22_6 hcz22_7 hcz22_8 hfz22_0 hfz22_1 hfz22_2 hfz22_3 hfz22_4 hfz22_5 hfz22_6 hfz22_7 hfz22_8
       try clear hcz26_0 hcz26_1 hcz26_2 hfz26_0 hfz26_1 hfz26_2
       try clear hcz32_0 hcz32_1 hcz32_2 hfz32_0 hfz32_1 hfz32_2
       try clear hcz35_0 hcz35_1 hcz35_2 hfz35_0 hfz35_1 hfz35_2
       try clear hcz43_0 hcz43_1 hcz43_2 hcz43_3 hcz43_4 hcz43_5 hcz43_6 hcz43_7 hcz43_8 hfz43_0 hfz43_1 hfz43_2 hfz43_3 hfz43_4 hfz43_5 hfz43_6 hfz43_7 hfz43_8
       try clear hcz47_0 hcz47_1 hcz47_2 hfz47_0 hfz47_1 hfz47_2
       try clear hcz53_0 hcz53_1 hcz53_2 hfz53_0 hfz53_1 hfz53_2
       try clear hcz60_0 hcz60_1 hcz60_2 hcz60_3 hcz60_4 hcz60_5 hcz60_6 hcz60_7 hcz60_8 hfz60_0 hfz60_1 hfz60_2 hfz60_3 hfz60_4 hfz60_5 hfz60_6 hfz60_7 hfz60_8
       try clear hcz64_0 hcz64_1 hcz64_2 hfz64_0 hfz64_1 hfz64_2
       try clear hcz67_0 hcz67_1 hcz67_2 hfz67_0 hfz67_1 hfz67_2
       try clear hcz69_0 hcz69_1 hcz69_2 hfz69_0 hfz69_1 hfz69_2
       try clear hcz75_0 hcz75_1 hcz75_2 hcz75_3 hcz75_4 hcz75_5 hcz75_6 hcz75_7 hcz75_8 hfz75_0 hfz75_1 hfz75_2 hfz75_3 hfz75_4 hfz75_5 hfz75_6 hfz75_7 hfz75_8
       try clear hcz79_0 hcz79_1 hcz79_2 hfz79_0 hfz79_1 hfz79_2
       try clear hcz82_0 hcz82_1 hcz82_2 hfz82_0 hfz82_1 hfz82_2
       try clear hcz84_0 hcz84_1 hcz84_2 hfz84_0 hfz84_1 hfz84_2
       try clear hcz90_0 hcz90_1 hcz90_2 hcz90_3 hcz90_4 hcz90_5 hcz90_6 hcz90_7 hcz90_8 hfz90_0 hfz90_1 hfz90_2 hfz90_3 hfz90_4 hfz90_5 hfz90_6 hfz90_7 hfz90_8
       try clear hcz94_0 hcz94_1 hcz94_2 hfz94_0 hfz94_1 hfz94_2
       try clear hcz97_0 hcz97_1 hcz97_2 hfz97_0 hfz97_1 hfz97_2
       obtain ⟨kq, x203000_38, x203001_38, x203002_38, x209000_38, x209001_38, HA, HJ38, BK200, BK201, BK202, BK203, BK208, HB⟩ := hcut
       cases kq with
       | zero => exact absurd HA.out (by simp [spec_OutShape.j1])
       | succ kj38 =>
        have H := HA.out
        clear HA
        simp only [spec_OutShape.j1] at H
        by_cases c98 : a1_0 = 0
        ·rw [if_pos c98] at H
         have c98b0 : (a1_0 == 0) = true := beq_iff_eq.mpr c98
         have c98b1 : (a1_0 != 0) = false := bne_eq_false_iff_eq.mpr c98
         clear c98
         replace H := Option.bind_eq_some_iff.mp H
         obtain ⟨t209, A990, H⟩ := H
         (try dsimp only at H)
         have A99 := Aside0.mk A990
         clear A990
         by_cases c100 : t209 > 64
         ·rw [if_pos c100] at H
          have c100b0 : decide (64 < t209) = true := decide_eq_true c100
          clear c100
          simp only [Option.some.injEq, Prod.mk.injEq] at H
          obtain ⟨rfl, rfl, rfl, rfl⟩ := H
          have hnb101 := NB201_200.out
          have hnc101 := NB200_201.out
          have hnb102 := NB201_202.out
          have hnc102 := NB202_201.out
          have hnb103 := NB201_203.out
          have hnc103 := NB203_201.out
          have hnb104 := NB201_208.out
          have hnc104 := NB208_201.out
          obtain ⟨hcz105_0, hcz105_1, hcz105_2, hcz105_3, hcz105_4, hcz105_5, hcz105_6, hcz105_7, hcz105_8, hfz105_0, hfz105_1, hfz105_2, hfz105_3, hfz105_4, hfz105_5, hfz105_6, hfz105_7, hfz105_8⟩ := cells9 BK201.out
          try go_wp2
          replace BK200 := Aside0.mk (blk_drew BK200.out)
          replace BK201 := Aside0.mk (blk_drew BK201.out)
          replace BK202 := Aside0.mk (blk_drew BK202.out)
          replace BK203 := Aside0.mk (blk_drew BK203.out)
          replace BK208 := Aside0.mk (blk_drew BK208.out)
          replace HB := Aside0.mk (below_drew1 HB.out)
          refine start_ (n := 14) (S := fun w' => w'.cell? ⟨gb200, 0, none⟩ = some (.int .i64 a0_0) ∧ w'.cell? ⟨gb200, 1, none⟩ = some (.int .i64 a0_1) ∧ w'.cell? ⟨gb200, 2, none⟩ = some (.int .i64 a0_2)) (ds := []) #[O, O, O, O, O, O, O, O, O, O, O, O, O, O] (by kernel_rfl) rfl rfl ⟨bc BK200 0, bc BK200 1, bc BK200 2⟩ (fun hHeld => ?_); refine with_tabW spec_OutShape.tab15 spec_OutShape.bits15 (fun HT_ HW_ => ?_)
          generalize wc.drew = w106 at BK200 BK201 BK202 BK203 BK208 HB hHeld ⊢
          refine stepT 0 (some 70) (tk 14 1) (take_ofW HT_.out HW_.out (by kernel_rfl)) hHeld ?_
          refine one_ (i := 1) (N := some 71) #[I, I, O, O, O, O, O, O, O, O, O, O, O, O] rfl rfl (one_of HT_.out (by kernel_rfl)) (by decide) (fun K hK => ?_)
          refine goes_ Try.func102 (by kernel_rfl) rfl #[.agg #[.int .i64 a0_0, .int .i64 a0_1, .int .i64 a0_2]] (by rfl) rfl rfl (by (try simp only [List.map_toArray, List.map_cons, List.map_nil]); first | done | rfl | (simp only [List.length_drop, List.length_take]; rfl)) ?_
          with_reducible refine (spec_SizeOf.calls a0_0 a0_1 a0_2 t209 _ A99.out).mono ?_
          rintro e w107 ⟨rfl, hb⟩
          refine ⟨_, rfl, ?_⟩
          replace BK200 := blk_on gb200 hb
          replace BK201 := blk_on gb201 hb
          replace BK202 := blk_on gb202 hb
          replace BK203 := blk_on gb203 hb
          replace BK208 := blk_on gb208 hb
          replace HB := bel_on w hb
          (try clear hb)
          (try clear hb2)
          (try clear hk)
          (try clear hi)
          refine hK.out _ _ ⟨bc BK200 0, bc BK200 1, bc BK200 2⟩ (fun hHeld => ?_)
          clear hK K
          refine norm_ (a' := ?_) ?_ ?_
          rotate_left
          ·show Act.put _ (some 71) _ = _
           simp only [Act.put, zA, zB, zC, i64_w, i32_w]
           rfl
          refine stepP 2 (some 72) (tk 14 7) (any_of HT_.out (by kernel_rfl)) ?_
          refine stepP 3 (some 73) (tk 14 15) (any_of HT_.out (by kernel_rfl)) ?_
          refine stepU 4 (some 74) (tk 14 31) (any_of HT_.out (by kernel_rfl)) ?_
          refine stepU 5 (some 75) (tk 14 63) (any_of HT_.out (by kernel_rfl)) ?_
          refine stepU 6 (some 76) (tk 14 127) (any_of HT_.out (by kernel_rfl)) ?_
          refine stepU 7 (some 77) (tk 14 255) (any_of HT_.out (by kernel_rfl)) ?_
          refine stepU 8 (some 78) (tk 14 511) (any_of HT_.out (by kernel_rfl)) ?_
          refine stepU 9 (some 79) (tk 14 1023) (any_of HT_.out (by kernel_rfl)) ?_
          refine stepU 10 (some 80) (tk 14 2047) (any_of HT_.out (by kernel_rfl)) ?_
          refine stepU 11 (some 81) (tk 14 4095) (any_of HT_.out (by kernel_rfl)) ?_
          refine stepU 12 (some 82) (tk 14 8191) (any_of HT_.out (by kernel_rfl)) ?_
          refine stepP 13 (some 83) (tk 14 16383) (any_of HT_.out (by kernel_rfl)) ?_
          refine done_ (done_of HT_.out (by kernel_rfl)) ?_
          have hnb108 := NB203_200.out
          have hnc108 := NB200_203.out
          have hnb109 := NB203_202.out
          have hnc109 := NB202_203.out
          have hnb110 := NB203_208.out
          have hnc110 := NB208_203.out
          obtain ⟨hcz111_0, hcz111_1, hcz111_2, hfz111_0, hfz111_1, hfz111_2⟩ := cells3 BK203.out
          have hnb112 := NB202_200.out
          have hnc112 := NB200_202.out
          have hnb113 := NB202_208.out
          have hnc113 := NB208_202.out
          obtain ⟨hcz114_0, hcz114_1, hcz114_2, hfz114_0, hfz114_1, hfz114_2⟩ := cells3 BK202.out
          try go_wp2
          refine bodyPost_ret (results_ct rfl _ _ gb202 25 #[.int .i64 0, .int .i64 0, .int .i64 0] (0, 0) _ rfl (blk_fars (puts3 BK202.out)) Try.underlying25 rfl (by kernel_rfl)) rfl ?_
          exact ⟨eqN, bel_now⟩
         ·rw [if_neg c100] at H
          have c100b0 : decide (64 < t209) = false := decide_eq_false c100
          clear c100
          replace H := Option.bind_eq_some_iff.mp H
          obtain ⟨t210, A1150, H⟩ := H
          (try dsimp only at H)
          have A115 := Aside0.mk A1150
          clear A1150
          by_cases c116 : (l1_7.length : Int) = (wrap64 (a1_1 * t210))
          ·rw [if_pos c116] at H
           have c116b0 : ((l1_7.length : Int) == (wrap64 (a1_1 * t210))) = true := beq_iff_eq.mpr c116
           have c116b1 : ((l1_7.length : Int) != (wrap64 (a1_1 * t210))) = false := bne_eq_false_iff_eq.mpr c116
           clear c116
           simp only [Option.some.injEq, Prod.mk.injEq] at H
           obtain ⟨rfl, rfl, rfl, rfl⟩ := H
           have hnb117 := NB201_200.out
           have hnc117 := NB200_201.out
           have hnb118 := NB201_202.out
           have hnc118 := NB202_201.out
           have hnb119 := NB201_203.out
           have hnc119 := NB203_201.out
           have hnb120 := NB201_208.out
           have hnc120 := NB208_201.out
           obtain ⟨hcz121_0, hcz121_1, hcz121_2, hcz121_3, hcz121_4, hcz121_5, hcz121_6, hcz121_7, hcz121_8, hfz121_0, hfz121_1, hfz121_2, hfz121_3, hfz121_4, hfz121_5, hfz121_6, hfz121_7, hfz121_8⟩ := cells9 BK201.out
           try go_wp2
           replace BK200 := Aside0.mk (blk_drew BK200.out)
           replace BK201 := Aside0.mk (blk_drew BK201.out)
           replace BK202 := Aside0.mk (blk_drew BK202.out)
           replace BK203 := Aside0.mk (blk_drew BK203.out)
           replace BK208 := Aside0.mk (blk_drew BK208.out)
           replace HB := Aside0.mk (below_drew1 HB.out)
           refine start_ (n := 14) (S := fun w' => w'.cell? ⟨gb200, 0, none⟩ = some (.int .i64 a0_0) ∧ w'.cell? ⟨gb200, 1, none⟩ = some (.int .i64 a0_1) ∧ w'.cell? ⟨gb200, 2, none⟩ = some (.int .i64 a0_2) ∧ w'.cell? ⟨gb201, 0, none⟩ = some (.int .i64 a1_0) ∧ w'.cell? ⟨gb201, 1, none⟩ = some (.int .i64 a1_1) ∧ w'.cell? ⟨gb201, 2, none⟩ = some (.int .i64 a1_2) ∧ w'.cell? ⟨gb201, 3, none⟩ = some (.int .i64 a1_3) ∧ w'.cell? ⟨gb201, 4, none⟩ = some (.int .i64 a1_4) ∧ w'.cell? ⟨gb201, 5, none⟩ = some (.int .i64 a1_5) ∧ w'.cell? ⟨gb201, 6, none⟩ = some (.int .i64 a1_6) ∧ w'.cell? ⟨gb201, 7, none⟩ = some (.slice A1_7 l1_7.length c1_7) ∧ w'.cell? ⟨gb201, 8, none⟩ = some (.slice A1_8 l1_8.length c1_8)) (ds := []) #[O, O, O, O, O, O, O, O, O, O, O, O, O, O] (by kernel_rfl) rfl rfl ⟨bc BK200 0, bc BK200 1, bc BK200 2, bc BK201 0, bc BK201 1, bc BK201 2, bc BK201 3, bc BK201 4, bc BK201 5, bc BK201 6, bc BK201 7, bc BK201 8⟩ (fun hHeld => ?_); refine with_tabW spec_OutShape.tab15 spec_OutShape.bits15 (fun HT_ HW_ => ?_)
           generalize wc.drew = w122 at BK200 BK201 BK202 BK203 BK208 HB hHeld ⊢
           refine stepT 0 (some 70) (tk 14 1) (take_ofW HT_.out HW_.out (by kernel_rfl)) hHeld ?_
           refine one_ (i := 1) (N := some 71) #[I, I, O, O, O, O, O, O, O, O, O, O, O, O] rfl rfl (one_of HT_.out (by kernel_rfl)) (by decide) (fun K hK => ?_)
           refine goes_ Try.func102 (by kernel_rfl) rfl #[.agg #[.int .i64 a0_0, .int .i64 a0_1, .int .i64 a0_2]] (by rfl) rfl rfl (by (try simp only [List.map_toArray, List.map_cons, List.map_nil]); first | done | rfl | (simp only [List.length_drop, List.length_take]; rfl)) ?_
           with_reducible refine (spec_SizeOf.calls a0_0 a0_1 a0_2 t209 _ A99.out).mono ?_
           rintro e w123 ⟨rfl, hb⟩
           refine ⟨_, rfl, ?_⟩
           replace BK200 := blk_on gb200 hb
           replace BK201 := blk_on gb201 hb
           replace BK202 := blk_on gb202 hb
           replace BK203 := blk_on gb203 hb
           replace BK208 := blk_on gb208 hb
           replace HB := bel_on w hb
           (try clear hb)
           (try clear hb2)
           (try clear hk)
           (try clear hi)
           refine hK.out _ _ ⟨bc BK200 0, bc BK200 1, bc BK200 2, bc BK201 0, bc BK201 1, bc BK201 2, bc BK201 3, bc BK201 4, bc BK201 5, bc BK201 6, bc BK201 7, bc BK201 8⟩ (fun hHeld => ?_)
           clear hK K
           refine norm_ (a' := ?_) ?_ ?_
           rotate_left
           ·show Act.put _ (some 71) _ = _
            simp only [Act.put, zA, zB, zC, i64_w, i32_w]
            rfl
           refine stepP 2 (some 72) (tk 14 7) (any_of HT_.out (by kernel_rfl)) ?_
           refine stepP 3 (some 73) (tk 14 15) (any_of HT_.out (by kernel_rfl)) ?_
           refine stepP 4 (some 74) (tk 14 31) (any_of HT_.out (by kernel_rfl)) ?_
           refine stepP 7 (some 77) (tk 14 159) (any_of HT_.out (by kernel_rfl)) ?_
           refine stepT 5 (some 75) (tk 14 191) (take_ofW HT_.out HW_.out (by kernel_rfl)) hHeld ?_
           refine stepP 6 (some 76) (tk 14 255) (any_of HT_.out (by kernel_rfl)) ?_
           refine stepT 8 (some 78) (tk 14 511) (take_ofW HT_.out HW_.out (by kernel_rfl)) hHeld ?_
           refine stepT 9 (some 79) (tk 14 1023) (take_ofW HT_.out HW_.out (by kernel_rfl)) hHeld ?_
           refine one_ (i := 10) (N := some 80) #[I, I, I, I, I, I, I, I, I, I, I, O, O, O] rfl rfl (one_of HT_.out (by kernel_rfl)) (by decide) (fun K hK => ?_)
           refine goes_ Try.func102 (by kernel_rfl) rfl #[.agg #[.int .i64 a0_0, .int .i64 a0_1, .int .i64 a0_2]] (by rfl) rfl rfl (by (try simp only [List.map_toArray, List.map_cons, List.map_nil]); first | done | rfl | (simp only [List.length_drop, List.length_take]; rfl)) ?_
           with_reducible refine (spec_SizeOf.calls a0_0 a0_1 a0_2 t210 _ A115.out).mono ?_
           rintro e w124 ⟨rfl, hb⟩
           refine ⟨_, rfl, ?_⟩
           replace BK200 := blk_on gb200 hb
           replace BK201 := blk_on gb201 hb
           replace BK202 := blk_on gb202 hb
           replace BK203 := blk_on gb203 hb
           replace BK208 := blk_on gb208 hb
           replace HB := bel_on w hb
           (try clear hb)
           (try clear hb2)
           (try clear hk)
           (try clear hi)
           refine hK.out _ _ ⟨bc BK200 0, bc BK200 1, bc BK200 2, bc BK201 0, bc BK201 1, bc BK201 2, bc BK201 3, bc BK201 4, bc BK201 5, bc BK201 6, bc BK201 7, bc BK201 8⟩ (fun hHeld => ?_)
           clear hK K
           refine norm_ (a' := ?_) ?_ ?_
           rotate_left
           ·show Act.put _ (some 80) _ = _
            simp only [Act.put, zA, zB, zC, i64_w, i32_w]
            rfl
           refine stepP 11 (some 81) (tk 14 4095) (any_of HT_.out (by kernel_rfl)) ?_
           refine stepP 12 (some 82) (tk 14 8191) (any_of HT_.out (by kernel_rfl)) ?_
           refine stepP 13 (some 83) (tk 14 16383) (any_of HT_.out (by kernel_rfl)) ?_
           refine done_ (done_of HT_.out (by kernel_rfl)) ?_
           obtain ⟨hcz125_0, hcz125_1, hcz125_2, hcz125_3, hcz125_4, hcz125_5, hcz125_6, hcz125_7, hcz125_8, hfz125_0, hfz125_1, hfz125_2, hfz125_3, hfz125_4, hfz125_5, hfz125_6, hfz125_7, hfz125_8⟩ := cells9 BK201.out
           have hnb126 := NB202_200.out
           have hnc126 := NB200_202.out
           have hnb127 := NB202_203.out
           have hnc127 := NB203_202.out
           have hnb128 := NB202_208.out
           have hnc128 := NB208_202.out
           obtain ⟨hcz129_0, hcz129_1, hcz129_2, hfz129_0, hfz129_1, hfz129_2⟩ := cells3 BK202.out
           try go_wp2
           refine bodyPost_ret (results_ct rfl _ _ gb202 25 #[.int .i64 1, .int .i64 1, .int .i64 a1_1] (0, 0) _ rfl (blk_fars (puts3 BK202.out)) Try.underlying25 rfl (by kernel_rfl)) rfl ?_
           exact ⟨eqN, bel_now⟩
          ·rw [if_neg c116] at H
           have c116b0 : ((l1_7.length : Int) == (wrap64 (a1_1 * t210))) = false := beq_eq_false_iff_ne.mpr c116
           have c116b1 : ((l1_7.length : Int) != (wrap64 (a1_1 * t210))) = true := bne_iff_ne.mpr c116
           simp only [Option.some.injEq, Prod.mk.injEq] at H
           obtain ⟨rfl, rfl, rfl, rfl⟩ := H
           have hnb130 := NB201_200.out
           have hnc130 := NB200_201.out
           have hnb131 := NB201_202.out
           have hnc131 := NB202_201.out
           have hnb132 := NB201_203.out
           have hnc132 := NB203_201.out
           have hnb133 := NB201_208.out
           have hnc133 := NB208_201.out
           obtain ⟨hcz134_0, hcz134_1, hcz134_2, hcz134_3, hcz134_4, hcz134_5, hcz134_6, hcz134_7, hcz134_8, hfz134_0, hfz134_1, hfz134_2, hfz134_3, hfz134_4, hfz134_5, hfz134_6, hfz134_7, hfz134_8⟩ := cells9 BK201.out
           try go_wp2
           replace BK200 := Aside0.mk (blk_drew BK200.out)
           replace BK201 := Aside0.mk (blk_drew BK201.out)
           replace BK202 := Aside0.mk (blk_drew BK202.out)
           replace BK203 := Aside0.mk (blk_drew BK203.out)
           replace BK208 := Aside0.mk (blk_drew BK208.out)
           replace HB := Aside0.mk (below_drew1 HB.out)
           refine start_ (n := 14) (S := fun w' => w'.cell? ⟨gb200, 0, none⟩ = some (.int .i64 a0_0) ∧ w'.cell? ⟨gb200, 1, none⟩ = some (.int .i64 a0_1) ∧ w'.cell? ⟨gb200, 2, none⟩ = some (.int .i64 a0_2) ∧ w'.cell? ⟨gb201, 0, none⟩ = some (.int .i64 a1_0) ∧ w'.cell? ⟨gb201, 1, none⟩ = some (.int .i64 a1_1) ∧ w'.cell? ⟨gb201, 2, none⟩ = some (.int .i64 a1_2) ∧ w'.cell? ⟨gb201, 3, none⟩ = some (.int .i64 a1_3) ∧ w'.cell? ⟨gb201, 4, none⟩ = some (.int .i64 a1_4) ∧ w'.cell? ⟨gb201, 5, none⟩ = some (.int .i64 a1_5) ∧ w'.cell? ⟨gb201, 6, none⟩ = some (.int .i64 a1_6) ∧ w'.cell? ⟨gb201, 7, none⟩ = some (.slice A1_7 l1_7.length c1_7) ∧ w'.cell? ⟨gb201, 8, none⟩ = some (.slice A1_8 l1_8.length c1_8)) (ds := []) #[O, O, O, O, O, O, O, O, O, O, O, O, O, O] (by kernel_rfl) rfl rfl ⟨bc BK200 0, bc BK200 1, bc BK200 2, bc BK201 0, bc BK201 1, bc BK201 2, bc BK201 3, bc BK201 4, bc BK201 5, bc BK201 6, bc BK201 7, bc BK201 8⟩ (fun hHeld => ?_); refine with_tabW spec_OutShape.tab15 spec_OutShape.bits15 (fun HT_ HW_ => ?_)
           generalize wc.drew = w135 at BK200 BK201 BK202 BK203 BK208 HB hHeld ⊢
           refine stepT 0 (some 70) (tk 14 1) (take_ofW HT_.out HW_.out (by kernel_rfl)) hHeld ?_
           refine one_ (i := 1) (N := some 71) #[I, I, O, O, O, O, O, O, O, O, O, O, O, O] rfl rfl (one_of HT_.out (by kernel_rfl)) (by decide) (fun K hK => ?_)
           refine goes_ Try.func102 (by kernel_rfl) rfl #[.agg #[.int .i64 a0_0, .int .i64 a0_1, .int .i64 a0_2]] (by rfl) rfl rfl (by (try simp only [List.map_toArray, List.map_cons, List.map_nil]); first | done | rfl | (simp only [List.length_drop, List.length_take]; rfl)) ?_
           with_reducible refine (spec_SizeOf.calls a0_0 a0_1 a0_2 t209 _ A99.out).mono ?_
           rintro e w136 ⟨rfl, hb⟩
           refine ⟨_, rfl, ?_⟩
           replace BK200 := blk_on gb200 hb
           replace BK201 := blk_on gb201 hb
           replace BK202 := blk_on gb202 hb
           replace BK203 := blk_on gb203 hb
           replace BK208 := blk_on gb208 hb
           replace HB := bel_on w hb
           (try clear hb)
           (try clear hb2)
           (try clear hk)
           (try clear hi)
           refine hK.out _ _ ⟨bc BK200 0, bc BK200 1, bc BK200 2, bc BK201 0, bc BK201 1, bc BK201 2, bc BK201 3, bc BK201 4, bc BK201 5, bc BK201 6, bc BK201 7, bc BK201 8⟩ (fun hHeld => ?_)
           clear hK K
           refine norm_ (a' := ?_) ?_ ?_
           rotate_left
           ·show Act.put _ (some 71) _ = _
            simp only [Act.put, zA, zB, zC, i64_w, i32_w]
            rfl
           refine stepP 2 (some 72) (tk 14 7) (any_of HT_.out (by kernel_rfl)) ?_
           refine stepP 3 (some 73) (tk 14 15) (any_of HT_.out (by kernel_rfl)) ?_
           refine stepP 4 (some 74) (tk 14 31) (any_of HT_.out (by kernel_rfl)) ?_
           refine stepP 7 (some 77) (tk 14 159) (any_of HT_.out (by kernel_rfl)) ?_
           refine stepT 5 (some 75) (tk 14 191) (take_ofW HT_.out HW_.out (by kernel_rfl)) hHeld ?_
           refine stepP 6 (some 76) (tk 14 255) (any_of HT_.out (by kernel_rfl)) ?_
           refine stepT 8 (some 78) (tk 14 511) (take_ofW HT_.out HW_.out (by kernel_rfl)) hHeld ?_
           refine stepT 9 (some 79) (tk 14 1023) (take_ofW HT_.out HW_.out (by kernel_rfl)) hHeld ?_
           refine one_ (i := 10) (N := some 80) #[I, I, I, I, I, I, I, I, I, I, I, O, O, O] rfl rfl (one_of HT_.out (by kernel_rfl)) (by decide) (fun K hK => ?_)
           refine goes_ Try.func102 (by kernel_rfl) rfl #[.agg #[.int .i64 a0_0, .int .i64 a0_1, .int .i64 a0_2]] (by rfl) rfl rfl (by (try simp only [List.map_toArray, List.map_cons, List.map_nil]); first | done | rfl | (simp only [List.length_drop, List.length_take]; rfl)) ?_
           with_reducible refine (spec_SizeOf.calls a0_0 a0_1 a0_2 t210 _ A115.out).mono ?_
           rintro e w137 ⟨rfl, hb⟩
           refine ⟨_, rfl, ?_⟩
           replace BK200 := blk_on gb200 hb
           replace BK201 := blk_on gb201 hb
           replace BK202 := blk_on gb202 hb
           replace BK203 := blk_on gb203 hb
           replace BK208 := blk_on gb208 hb
           replace HB := bel_on w hb
           (try clear hb)
           (try clear hb2)
           (try clear hk)
           (try clear hi)
           refine hK.out _ _ ⟨bc BK200 0, bc BK200 1, bc BK200 2, bc BK201 0, bc BK201 1, bc BK201 2, bc BK201 3, bc BK201 4, bc BK201 5, bc BK201 6, bc BK201 7, bc BK201 8⟩ (fun hHeld => ?_)
           clear hK K
           refine norm_ (a' := ?_) ?_ ?_
           rotate_left
           ·show Act.put _ (some 80) _ = _
            simp only [Act.put, zA, zB, zC, i64_w, i32_w]
            rfl
           refine stepP 11 (some 81) (tk 14 4095) (any_of HT_.out (by kernel_rfl)) ?_
           refine stepP 12 (some 82) (tk 14 8191) (any_of HT_.out (by kernel_rfl)) ?_
           refine stepP 13 (some 83) (tk 14 16383) (any_of HT_.out (by kernel_rfl)) ?_
           refine done_ (done_of HT_.out (by kernel_rfl)) ?_
           have hnb138 := NB203_200.out
           have hnc138 := NB200_203.out
           have hnb139 := NB203_202.out
           have hnc139 := NB202_203.out
           have hnb140 := NB203_208.out
           have hnc140 := NB208_203.out
           obtain ⟨hcz141_0, hcz141_1, hcz141_2, hfz141_0, hfz141_1, hfz141_2⟩ := cells3 BK203.out
           have hnb142 := NB202_200.out
           have hnc142 := NB200_202.out
           have hnb143 := NB202_208.out
           have hnc143 := NB208_202.out
           obtain ⟨hcz144_0, hcz144_1, hcz144_2, hfz144_0, hfz144_1, hfz144_2⟩ := cells3 BK202.out
           try go_wp2
           refine bodyPost_ret (results_ct rfl _ _ gb202 25 #[.int .i64 0, .int .i64 0, .int .i64 0] (0, 0) _ rfl (blk_fars (puts3 BK202.out)) Try.underlying25 rfl (by kernel_rfl)) rfl ?_
           exact ⟨eqN, bel_now⟩
        ·rw [if_neg c98] at H
         have c98b0 : (a1_0 == 0) = false := beq_eq_false_iff_ne.mpr c98
         have c98b1 : (a1_0 != 0) = true := bne_iff_ne.mpr c98
         by_cases c145 : a1_0 = 1
         ·rw [if_pos c145] at H
          have c145b0 : (a1_0 == 1) = true := beq_iff_eq.mpr c145
          have c145b1 : (a1_0 != 1) = false := bne_eq_false_iff_eq.mpr c145
          clear c145
          by_cases c146 : (l1_7.length : Int) = (wrap64 ((wrap64 ((wrap64 (a1_1 * a1_2)) * a1_2)) * a0_2))
          ·rw [if_pos c146] at H
           have c146b0 : ((l1_7.length : Int) == (wrap64 ((wrap64 ((wrap64 (a1_1 * a1_2)) * a1_2)) * a0_2))) = true := beq_iff_eq.mpr c146
           have c146b1 : ((l1_7.length : Int) != (wrap64 ((wrap64 ((wrap64 (a1_1 * a1_2)) * a1_2)) * a0_2))) = false := bne_eq_false_iff_eq.mpr c146
           clear c146
           by_cases c147 : (l1_7.length : Int) > 600
           ·rw [if_pos c147] at H
            have c147b0 : decide (600 < (l1_7.length : Int)) = true := decide_eq_true c147
            have c147b1 : decide (600 < l1_7.length) = true := decide_eq_true (by omega)
            clear c147
            simp only [Option.some.injEq, Prod.mk.injEq] at H
            obtain ⟨rfl, rfl, rfl, rfl⟩ := H
            have hnb148 := NB201_200.out
            have hnc148 := NB200_201.out
            have hnb149 := NB201_202.out
            have hnc149 := NB202_201.out
            have hnb150 := NB201_203.out
            have hnc150 := NB203_201.out
            have hnb151 := NB201_208.out
            have hnc151 := NB208_201.out
            obtain ⟨hcz152_0, hcz152_1, hcz152_2, hcz152_3, hcz152_4, hcz152_5, hcz152_6, hcz152_7, hcz152_8, hfz152_0, hfz152_1, hfz152_2, hfz152_3, hfz152_4, hfz152_5, hfz152_6, hfz152_7, hfz152_8⟩ := cells9 BK201.out
            have hnb153 := NB200_202.out
            have hnc153 := NB202_200.out
            have hnb154 := NB200_203.out
            have hnc154 := NB203_200.out
            have hnb155 := NB200_208.out
            have hnc155 := NB208_200.out
            obtain ⟨hcz156_0, hcz156_1, hcz156_2, hfz156_0, hfz156_1, hfz156_2⟩ := cells3 BK200.out
            have hnb157 := NB203_202.out
            have hnc157 := NB202_203.out
            have hnb158 := NB203_208.out
            have hnc158 := NB208_203.out
            obtain ⟨hcz159_0, hcz159_1, hcz159_2, hfz159_0, hfz159_1, hfz159_2⟩ := cells3 BK203.out
            have hnb160 := NB202_208.out
            have hnc160 := NB208_202.out
            obtain ⟨hcz161_0, hcz161_1, hcz161_2, hfz161_0, hfz161_1, hfz161_2⟩ := cells3 BK202.out
            go_wp2
            refine bodyPost_ret (results_ct rfl _ _ gb202 25 #[.int .i64 0, .int .i64 0, .int .i64 0] (0, 0) _ rfl (blk_fars (puts3 BK202.out)) Try.underlying25 rfl (by kernel_rfl)) rfl ?_
            exact ⟨eqN, bel_now⟩
           ·rw [if_neg c147] at H
            have c147b0 : decide (600 < (l1_7.length : Int)) = false := decide_eq_false c147
            have c147b1 : decide (600 < l1_7.length) = false := decide_eq_false (by omega)
            clear c147
            simp only [Option.some.injEq, Prod.mk.injEq] at H
            obtain ⟨rfl, rfl, rfl, rfl⟩ := H
            have hnb162 := NB201_200.out
            have hnc162 := NB200_201.out
            have hnb163 := NB201_202.out
            have hnc163 := NB202_201.out
            have hnb164 := NB201_203.out
            have hnc164 := NB203_201.out
            have hnb165 := NB201_208.out
            have hnc165 := NB208_201.out
            obtain ⟨hcz166_0, hcz166_1, hcz166_2, hcz166_3, hcz166_4, hcz166_5, hcz166_6, hcz166_7, hcz166_8, hfz166_0, hfz166_1, hfz166_2, hfz166_3, hfz166_4, hfz166_5, hfz166_6, hfz166_7, hfz166_8⟩ := cells9 BK201.out
            have hnb167 := NB200_202.out
            have hnc167 := NB202_200.out
            have hnb168 := NB200_203.out
            have hnc168 := NB203_200.out
            have hnb169 := NB200_208.out
            have hnc169 := NB208_200.out
            obtain ⟨hcz170_0, hcz170_1, hcz170_2, hfz170_0, hfz170_1, hfz170_2⟩ := cells3 BK200.out
            have hnb171 := NB208_202.out
            have hnc171 := NB202_208.out
            have hnb172 := NB208_203.out
            have hnc172 := NB203_208.out
            obtain ⟨hcz173_0, hcz173_1, hcz173_2, hfz173_0, hfz173_1, hfz173_2⟩ := cells3 BK208.out
            have hnb174 := NB202_203.out
            have hnc174 := NB203_202.out
            obtain ⟨hcz175_0, hcz175_1, hcz175_2, hfz175_0, hfz175_1, hfz175_2⟩ := cells3 BK202.out
            go_wp2
            refine bodyPost_ret (results_ct rfl _ _ gb202 25 #[.int .i64 x209000_38, .int .i64 x209001_38, .int .i64 a1_1] (0, 0) _ rfl (by (with_reducible repeat (first | refine blk_drewN ?_ _ | refine blk_drew ?_ | refine blk_alloc ?_ _)); refine blk_put (cs := #[.int .i64 x209000_38, .int .i64 x209001_38, .int .i64 x203002_38]) ?_ 2 _ rfl; (with_reducible repeat (first | refine blk_drewN ?_ _ | refine blk_drew ?_ | refine blk_alloc ?_ _)); refine blk_put (cs := #[.int .i64 x209000_38, .int .i64 x203001_38, .int .i64 x203002_38]) ?_ 1 _ rfl; (with_reducible repeat (first | refine blk_drewN ?_ _ | refine blk_drew ?_ | refine blk_alloc ?_ _)); refine blk_put (cs := #[.int .i64 x203000_38, .int .i64 x203001_38, .int .i64 x203002_38]) ?_ 0 _ rfl; (with_reducible repeat (first | refine blk_drewN ?_ _ | refine blk_drew ?_ | refine blk_alloc ?_ _)); refine blk_far ?_ NB202_208.out _; (with_reducible repeat (first | refine blk_drewN ?_ _ | refine blk_drew ?_ | refine blk_alloc ?_ _)); exact BK202.out) Try.underlying25 rfl (by kernel_rfl)) rfl ?_
            exact ⟨eqN, bel_now⟩
          ·rw [if_neg c146] at H
           have c146b0 : ((l1_7.length : Int) == (wrap64 ((wrap64 ((wrap64 (a1_1 * a1_2)) * a1_2)) * a0_2))) = false := beq_eq_false_iff_ne.mpr c146
           have c146b1 : ((l1_7.length : Int) != (wrap64 ((wrap64 ((wrap64 (a1_1 * a1_2)) * a1_2)) * a0_2))) = true := bne_iff_ne.mpr c146
           simp only [Option.some.injEq, Prod.mk.injEq] at H
           obtain ⟨rfl, rfl, rfl, rfl⟩ := H
           have hnb176 := NB201_200.out
           have hnc176 := NB200_201.out
           have hnb177 := NB201_202.out
           have hnc177 := NB202_201.out
           have hnb178 := NB201_203.out
           have hnc178 := NB203_201.out
           have hnb179 := NB201_208.out
           have hnc179 := NB208_201.out
           obtain ⟨hcz180_0, hcz180_1, hcz180_2, hcz180_3, hcz180_4, hcz180_5, hcz180_6, hcz180_7, hcz180_8, hfz180_0, hfz180_1, hfz180_2, hfz180_3, hfz180_4, hfz180_5, hfz180_6, hfz180_7, hfz180_8⟩ := cells9 BK201.out
           have hnb181 := NB200_202.out
           have hnc181 := NB202_200.out
           have hnb182 := NB200_203.out
           have hnc182 := NB203_200.out
           have hnb183 := NB200_208.out
           have hnc183 := NB208_200.out
           obtain ⟨hcz184_0, hcz184_1, hcz184_2, hfz184_0, hfz184_1, hfz184_2⟩ := cells3 BK200.out
           have hnb185 := NB203_202.out
           have hnc185 := NB202_203.out
           have hnb186 := NB203_208.out
           have hnc186 := NB208_203.out
           obtain ⟨hcz187_0, hcz187_1, hcz187_2, hfz187_0, hfz187_1, hfz187_2⟩ := cells3 BK203.out
           have hnb188 := NB202_208.out
           have hnc188 := NB208_202.out
           obtain ⟨hcz189_0, hcz189_1, hcz189_2, hfz189_0, hfz189_1, hfz189_2⟩ := cells3 BK202.out
           go_wp2
           refine bodyPost_ret (results_ct rfl _ _ gb202 25 #[.int .i64 0, .int .i64 0, .int .i64 0] (0, 0) _ rfl (blk_fars (puts3 BK202.out)) Try.underlying25 rfl (by kernel_rfl)) rfl ?_
           exact ⟨eqN, bel_now⟩
         ·rw [if_neg c145] at H
          have c145b0 : (a1_0 == 1) = false := beq_eq_false_iff_ne.mpr c145
          have c145b1 : (a1_0 != 1) = true := bne_iff_ne.mpr c145
          by_cases c190 : a1_0 = 5
          ·rw [if_pos c190] at H
           have c190b0 : (a1_0 == 5) = true := beq_iff_eq.mpr c190
           have c190b1 : (a1_0 != 5) = false := bne_eq_false_iff_eq.mpr c190
           clear c190
           replace H := Option.bind_eq_some_iff.mp H
           obtain ⟨t211, A1910, H⟩ := H
           (try dsimp only at H)
           have A191 := Aside0.mk A1910
           clear A1910
           by_cases c192 : t211 > 8
           ·rw [if_pos c192] at H
            have c192b0 : decide (8 < t211) = true := decide_eq_true c192
            clear c192
            simp only [Option.some.injEq, Prod.mk.injEq] at H
            obtain ⟨rfl, rfl, rfl, rfl⟩ := H
            have hnb193 := NB201_200.out
            have hnc193 := NB200_201.out
            have hnb194 := NB201_202.out
            have hnc194 := NB202_201.out
            have hnb195 := NB201_203.out
            have hnc195 := NB203_201.out
            have hnb196 := NB201_208.out
            have hnc196 := NB208_201.out
            obtain ⟨hcz197_0, hcz197_1, hcz197_2, hcz197_3, hcz197_4, hcz197_5, hcz197_6, hcz197_7, hcz197_8, hfz197_0, hfz197_1, hfz197_2, hfz197_3, hfz197_4, hfz197_5, hfz197_6, hfz197_7, hfz197_8⟩ := cells9 BK201.out
            have hnb198 := NB200_202.out
            have hnc198 := NB202_200.out
            have hnb199 := NB200_203.out
            have hnc199 := NB203_200.out
            have hnb200 := NB200_208.out
            have hnc200 := NB208_200.out
            obtain ⟨hcz201_0, hcz201_1, hcz201_2, hfz201_0, hfz201_1, hfz201_2⟩ := cells3 BK200.out
            go_wp2_with (first | ((with_reducible refine gate_callee (f := 102) rfl ?_); refine goesM (some 118) rfl rfl Try.func102 (by kernel_rfl) rfl #[.agg #[.int .i64 a0_0, .int .i64 a0_1, .int .i64 a0_2]] rfl ?_; (with_reducible refine (spec_SizeOf.calls a0_0 a0_1 a0_2 t211 _ A191.out).mono ?_); rintro e w202 ⟨rfl, hb⟩; refine ⟨_, rfl, ?_⟩; replace HB := bel_on w hb; replace BK200 := blk_on gb200 hb; replace BK201 := blk_on gb201 hb; replace BK202 := blk_on gb202 hb; replace BK203 := blk_on gb203 hb; replace BK208 := blk_on gb208 hb; (try clear hb); have hnb203 := NB203_202.out; have hnc203 := NB202_203.out; have hnb204 := NB203_208.out; have hnc204 := NB208_203.out; obtain ⟨hcz205_0, hcz205_1, hcz205_2, hfz205_0, hfz205_1, hfz205_2⟩ := cells3 BK203.out; have hnb206 := NB202_208.out; have hnc206 := NB208_202.out; obtain ⟨hcz207_0, hcz207_1, hcz207_2, hfz207_0, hfz207_1, hfz207_2⟩ := cells3 BK202.out))
            refine bodyPost_ret (results_ct rfl _ _ gb202 25 #[.int .i64 0, .int .i64 0, .int .i64 0] (0, 0) _ rfl (blk_fars (puts3 BK202.out)) Try.underlying25 rfl (by kernel_rfl)) rfl ?_
            exact ⟨eqN, bel_now⟩
           ·rw [if_neg c192] at H
            have c192b0 : decide (8 < t211) = false := decide_eq_false c192
            clear c192
            replace H := Option.bind_eq_some_iff.mp H
            obtain ⟨t212, A2080, H⟩ := H
            (try dsimp only at H)
            have A208 := Aside0.mk A2080
            clear A2080
            simp only [Option.some.injEq, Prod.mk.injEq] at H
            obtain ⟨rfl, rfl, rfl, rfl⟩ := H
            have hnb209 := NB201_200.out
            have hnc209 := NB200_201.out
            have hnb210 := NB201_202.out
            have hnc210 := NB202_201.out
            have hnb211 := NB201_203.out
            have hnc211 := NB203_201.out
            have hnb212 := NB201_208.out
            have hnc212 := NB208_201.out
            obtain ⟨hcz213_0, hcz213_1, hcz213_2, hcz213_3, hcz213_4, hcz213_5, hcz213_6, hcz213_7, hcz213_8, hfz213_0, hfz213_1, hfz213_2, hfz213_3, hfz213_4, hfz213_5, hfz213_6, hfz213_7, hfz213_8⟩ := cells9 BK201.out
            have hnb214 := NB200_202.out
            have hnc214 := NB202_200.out
            have hnb215 := NB200_203.out
            have hnc215 := NB203_200.out
            have hnb216 := NB200_208.out
            have hnc216 := NB208_200.out
            obtain ⟨hcz217_0, hcz217_1, hcz217_2, hfz217_0, hfz217_1, hfz217_2⟩ := cells3 BK200.out
            go_wp2_with (first | ((with_reducible refine gate_callee (f := 102) rfl ?_); refine goesM (some 118) rfl rfl Try.func102 (by kernel_rfl) rfl #[.agg #[.int .i64 a0_0, .int .i64 a0_1, .int .i64 a0_2]] rfl ?_; (with_reducible refine (spec_SizeOf.calls a0_0 a0_1 a0_2 t211 _ A191.out).mono ?_); rintro e w218 ⟨rfl, hb⟩; refine ⟨_, rfl, ?_⟩; replace HB := bel_on w hb; replace BK200 := blk_on gb200 hb; replace BK201 := blk_on gb201 hb; replace BK202 := blk_on gb202 hb; replace BK203 := blk_on gb203 hb; replace BK208 := blk_on gb208 hb; (try clear hb); obtain ⟨hcz219_0, hcz219_1, hcz219_2, hfz219_0, hfz219_1, hfz219_2⟩ := cells3 BK200.out) | ((with_reducible refine gate_callee (f := 102) rfl ?_); refine goesM (some 122) rfl rfl Try.func102 (by kernel_rfl) rfl #[.agg #[.int .i64 a0_0, .int .i64 a0_1, .int .i64 a0_2]] rfl ?_; (with_reducible refine (spec_SizeOf.calls a0_0 a0_1 a0_2 t212 _ A208.out).mono ?_); rintro e w220 ⟨rfl, hb⟩; refine ⟨_, rfl, ?_⟩; replace HB := bel_on w hb; replace BK200 := blk_on gb200 hb; replace BK201 := blk_on gb201 hb; replace BK202 := blk_on gb202 hb; replace BK203 := blk_on gb203 hb; replace BK208 := blk_on gb208 hb; (try clear hb); have hnb221 := NB202_203.out; have hnc221 := NB203_202.out; have hnb222 := NB202_208.out; have hnc222 := NB208_202.out; obtain ⟨hcz223_0, hcz223_1, hcz223_2, hfz223_0, hfz223_1, hfz223_2⟩ := cells3 BK202.out))
            refine bodyPost_ret (results_ct rfl _ _ gb202 25 #[.int .i64 1, .int .i64 1, .int .i64 t212] (0, 0) _ rfl (blk_fars (puts3 BK202.out)) Try.underlying25 rfl (by kernel_rfl)) rfl ?_
            exact ⟨eqN, bel_now⟩
          ·rw [if_neg c190] at H
           have c190b0 : (a1_0 == 5) = false := beq_eq_false_iff_ne.mpr c190
           have c190b1 : (a1_0 != 5) = true := bne_iff_ne.mpr c190
           simp only [Option.some.injEq, Prod.mk.injEq] at H
           obtain ⟨rfl, rfl, rfl, rfl⟩ := H
           have hnb224 := NB201_200.out
           have hnc224 := NB200_201.out
           have hnb225 := NB201_202.out
           have hnc225 := NB202_201.out
           have hnb226 := NB201_203.out
           have hnc226 := NB203_201.out
           have hnb227 := NB201_208.out
           have hnc227 := NB208_201.out
           obtain ⟨hcz228_0, hcz228_1, hcz228_2, hcz228_3, hcz228_4, hcz228_5, hcz228_6, hcz228_7, hcz228_8, hfz228_0, hfz228_1, hfz228_2, hfz228_3, hfz228_4, hfz228_5, hfz228_6, hfz228_7, hfz228_8⟩ := cells9 BK201.out
           have hnb229 := NB208_200.out
           have hnc229 := NB200_208.out
           have hnb230 := NB208_202.out
           have hnc230 := NB202_208.out
           have hnb231 := NB208_203.out
           have hnc231 := NB203_208.out
           obtain ⟨hcz232_0, hcz232_1, hcz232_2, hfz232_0, hfz232_1, hfz232_2⟩ := cells3 BK208.out
           have hnb233 := NB202_200.out
           have hnc233 := NB200_202.out
           have hnb234 := NB202_203.out
           have hnc234 := NB203_202.out
           obtain ⟨hcz235_0, hcz235_1, hcz235_2, hfz235_0, hfz235_1, hfz235_2⟩ := cells3 BK202.out
           go_wp2
           refine bodyPost_ret (results_ct rfl _ _ gb202 25 #[.int .i64 x209000_38, .int .i64 x209001_38, .int .i64 a0_2] (0, 0) _ rfl (blk_fars (puts3 BK202.out)) Try.underlying25 rfl (by kernel_rfl)) rfl ?_
           exact ⟨eqN, bel_now⟩
     ·replace c38 := Bool.eq_false_iff.mpr c38
      subst c38
      rw [if_neg (show ¬ (false = true) by decide)] at H
      simp only [Option.some.injEq, Prod.mk.injEq] at H
      obtain ⟨rfl, rfl, rfl, rfl⟩ := H
      have hnb236 := NB201_200.out
      have hnc236 := NB200_201.out
      have hnb237 := NB201_202.out
      have hnc237 := NB202_201.out
      have hnb238 := NB201_203.out
      have hnc238 := NB203_201.out
      obtain ⟨hcz239_0, hcz239_1, hcz239_2, hcz239_3, hcz239_4, hcz239_5, hcz239_6, hcz239_7, hcz239_8, hfz239_0, hfz239_1, hfz239_2, hfz239_3, hfz239_4, hfz239_5, hfz239_6, hfz239_7, hfz239_8⟩ := cells9 BK201.out
      go_wp2_with (first | ((with_reducible refine gate_callee (f := 79) rfl ?_); refine goesM (some 22) rfl rfl Try.func79 (by kernel_rfl) rfl #[.int .i64 a1_0, .int .i64 1, .int .i64 3] rfl ?_; (with_reducible refine (spec_l01In.calls a1_0 1 3 t206 _ A36.out).mono ?_); rintro e w' ⟨rfl, ⟨nd, rfl⟩⟩; refine ⟨_, rfl, ?_⟩; (try (rw [drewN_self wc]; generalize hq_ : World.drewN wc _ = wc; have n0_ : Aside0 (wc.heap[gb200]? = some (.cells #[.int .i64 a0_0, .int .i64 a0_1, .int .i64 a0_2] 25 (0, 0))) := ⟨by rw [← hq_]; exact blk_now⟩; have n1_ : Aside0 (wc.heap[gb201]? = some (.cells #[.int .i64 a1_0, .int .i64 a1_1, .int .i64 a1_2, .int .i64 a1_3, .int .i64 a1_4, .int .i64 a1_5, .int .i64 a1_6, .slice A1_7 l1_7.length c1_7, .slice A1_8 l1_8.length c1_8] 73 (0, 0))) := ⟨by rw [← hq_]; exact blk_now⟩; have n2_ : Aside0 (wc.heap[gb202]? = some (.cells #[.int .i64 0, .int .i64 0, .int .i64 0] 25 (0, 0))) := ⟨by rw [← hq_]; exact blk_now⟩; have n3_ : Aside0 (wc.heap[gb203]? = some (.cells #[.int .i64 0, .int .i64 0, .int .i64 0] 25 (0, 0))) := ⟨by rw [← hq_]; exact blk_now⟩; have n4_ : Aside0 (Below w.heap.size w wc) := ⟨by rw [← hq_]; exact bel_now⟩; clear BK200 BK201 BK202 BK203 HB hq_; have BK200 := n0_; have BK201 := n1_; have BK202 := n2_; have BK203 := n3_; have HB := n4_; clear n0_ n1_ n2_ n3_ n4_; (try obtain ⟨hcuBK201_0, hcuBK201_1, hcuBK201_2, hcuBK201_3, hcuBK201_4, hcuBK201_5, hcuBK201_6, hcuBK201_7, hcuBK201_8, hcuBK201_9, hcuBK201_10, hcuBK201_11, hcuBK201_12, hcuBK201_13, hcuBK201_14, hcuBK201_15, hcuBK201_16, hcuBK201_17⟩ := cells9 BK201.out)))) | ((with_reducible refine gate_callee (f := 115) rfl ?_); refine goesM (some 28) rfl rfl Try.func115 (by kernel_rfl) rfl #[.agg #[.int .i64 a1_0, .int .i64 a1_1, .int .i64 a1_2, .int .i64 a1_3, .int .i64 a1_4, .int .i64 a1_5, .int .i64 a1_6, .slice A1_7 l1_7.length c1_7, .slice A1_8 l1_8.length c1_8], .bool t206, .bool (decide (a1_0 ≤ 1))] rfl ?_; (with_reducible refine (spec_l03Plain.calls kj2 a1_0 a1_1 a1_2 a1_3 a1_4 a1_5 a1_6 _ _ l1_7 _ _ l1_8 t206 (decide (a1_0 ≤ 1)) false _ ?side1 ?side2 ?side3 ?side4 A37.out).mono ?_); (case side1 => exact C_now HR1_7.out); (case side2 => exact HC1_7.out); (case side3 => exact C_now HR1_8.out); (case side4 => exact HC1_8.out); rintro e w240 ⟨rfl, hb⟩; refine ⟨_, rfl, ?_⟩; replace HB := bel_on w hb; replace BK200 := blk_on gb200 hb; replace BK201 := blk_on gb201 hb; replace BK202 := blk_on gb202 hb; replace BK203 := blk_on gb203 hb; (try clear hb); have hnb241 := NB203_200.out; have hnc241 := NB200_203.out; have hnb242 := NB203_202.out; have hnc242 := NB202_203.out; obtain ⟨hcz243_0, hcz243_1, hcz243_2, hfz243_0, hfz243_1, hfz243_2⟩ := cells3 BK203.out; have hnb244 := NB202_200.out; have hnc244 := NB200_202.out; obtain ⟨hcz245_0, hcz245_1, hcz245_2, hfz245_0, hfz245_1, hfz245_2⟩ := cells3 BK202.out))
      refine bodyPost_ret (results_ct rfl _ _ gb202 25 #[.int .i64 0, .int .i64 0, .int .i64 0] (0, 0) _ rfl (blk_fars (puts3 BK202.out)) Try.underlying25 rfl (by kernel_rfl)) rfl ?_
      exact ⟨eqN, bel_now⟩

end Go.Proofs.Ytljdcemdhmaahaa.PFnExactNextCost
