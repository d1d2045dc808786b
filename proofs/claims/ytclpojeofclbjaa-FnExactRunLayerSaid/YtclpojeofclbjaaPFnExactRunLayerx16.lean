-- Printed by the session's own program (wip/myprint.py) for this claim out of the translation. Not trusted: Lean checks it.
import Derived.Test.YtclpojeofclbjaaPFnExactRunLayerx0
import Derived.Test.YtclpojeofclbjaaPFnExactRunLayerx11
import Derived.Test.YtclpojeofclbjaaPFnExactRunLayerx12
import Derived.Test.YtclpojeofclbjaaPFnExactRunLayerx15
namespace Go.Proofs.Ytclpojeofclbjaa.PFnExactRunLayer
open Go.RowKit Go.Proofs.YtclpojeofclbjaaW.PrintWords Go.Proofs.YtclpojeofclbjaaW.PrintLast Go.Proofs.YtclpojeofclbjaaW.PrintMore
attribute [local go_sem] max2_int min2_int max_two min_two max_three min_three max_four min_four   -- for this text's walks alone
set_option linter.unusedVariables false
set_option linter.unusedSimpArgs false

/-! ### impl_RunLayer: function 13 -/
mutual
def impl_RunLayer.j0 : Nat → Bool → Int → Int → Int → List Int → Int → Int → Int → Int → Int → Int → Int → List Int → List Int → Int → Int → Int → Option (Int × Int × Int × List Int × Bool)
  | 0, _, _, _, _, _, _, _, _, _, _, _, _, _, _, _, _, _ => none
  | k + 1, x25, x372000, x372001, x372002, x372003, x373000, x373001, x373002, x373003, x373004, x373005, x373006, x373007, x373008, x379000, x379001, x379002 => if x25 = true then (some (0, 0, 0, ([] : List Int), false)) else (impl_RunLayer.l0 k x379000 0 x372000 x372001 x372002 x372003 x373000 x373001 x373002 x373003 x373004 x373005 x373006 x373007 x373008 x379000 x379001 x379002 x379000 x379001 x379002 ([] : List Int))
def impl_RunLayer.l0 : Nat → Int → Int → Int → Int → Int → List Int → Int → Int → Int → Int → Int → Int → Int → List Int → List Int → Int → Int → Int → Int → Int → Int → List Int → Option (Int × Int × Int × List Int × Bool)
  | 0, _, _, _, _, _, _, _, _, _, _, _, _, _, _, _, _, _, _, _, _, _, _ => none
  | k + 1, x30, x31, x372000, x372001, x372002, x372003, x373000, x373001, x373002, x373003, x373004, x373005, x373006, x373007, x373008, x379000, x379001, x379002, x381000, x381001, x381002, x381003 => if x31 < x30 then (impl_RunLayer.l1 k x31 x30 x31 x379001 0 x372000 x372001 x372002 x372003 x373000 x373001 x373002 x373003 x373004 x373005 x373006 x373007 x373008 x379000 x379001 x379002 x381000 x381001 x381002 x381003) else (some (x381000, x381001, x381002, x381003, true))
def impl_RunLayer.l1 : Nat → Int → Int → Int → Int → Int → Int → Int → Int → List Int → Int → Int → Int → Int → Int → Int → Int → List Int → List Int → Int → Int → Int → Int → Int → Int → List Int → Option (Int × Int × Int × List Int × Bool)
  | 0, _, _, _, _, _, _, _, _, _, _, _, _, _, _, _, _, _, _, _, _, _, _, _, _, _ => none
  | k + 1, x9, x30, x31, x35, x36, x372000, x372001, x372002, x372003, x373000, x373001, x373002, x373003, x373004, x373005, x373006, x373007, x373008, x379000, x379001, x379002, x381000, x381001, x381002, x381003 => if x36 < x35 then (impl_RunLayer.l2 k x9 x36 x30 x31 x35 x36 x379002 0 x372000 x372001 x372002 x372003 x373000 x373001 x373002 x373003 x373004 x373005 x373006 x373007 x373008 x379000 x379001 x379002 x381000 x381001 x381002 x381003) else (impl_RunLayer.l0 k x30 (wrap64 (x31 + 1)) x372000 x372001 x372002 x372003 x373000 x373001 x373002 x373003 x373004 x373005 x373006 x373007 x373008 x379000 x379001 x379002 x381000 x381001 x381002 x381003)
def impl_RunLayer.l2 : Nat → Int → Int → Int → Int → Int → Int → Int → Int → Int → Int → Int → List Int → Int → Int → Int → Int → Int → Int → Int → List Int → List Int → Int → Int → Int → Int → Int → Int → List Int → Option (Int × Int × Int × List Int × Bool)
  | 0, _, _, _, _, _, _, _, _, _, _, _, _, _, _, _, _, _, _, _, _, _, _, _, _, _, _, _, _ => none
  | k + 1, x9, x10, x30, x31, x35, x36, x40, x41, x372000, x372001, x372002, x372003, x373000, x373001, x373002, x373003, x373004, x373005, x373006, x373007, x373008, x379000, x379001, x379002, x381000, x381001, x381002, x381003 => if x41 < x40 then ((impl_Layer_item.f k x373000 x373001 x373002 x373003 x373004 x373005 x373006 x373007 x373008 x372000 x372001 x372002 x372003 x9 x10 x41).bind fun t381 => (if x381003.length < 17592186044416 then (impl_RunLayer.l2 k x9 x10 x30 x31 x35 x36 x40 (wrap64 (x41 + 1)) x372000 x372001 x372002 x372003 x373000 x373001 x373002 x373003 x373004 x373005 x373006 x373007 x373008 x379000 x379001 x379002 x381000 x381001 x381002 (x381003 ++ [t381])) else (none))) else (impl_RunLayer.l1 k x9 x30 x31 x35 (wrap64 (x36 + 1)) x372000 x372001 x372002 x372003 x373000 x373001 x373002 x373003 x373004 x373005 x373006 x373007 x373008 x379000 x379001 x379002 x381000 x381001 x381002 x381003)
end
def impl_RunLayer.f (k : Nat) (a0_0 : Int) (a0_1 : Int) (a0_2 : Int) (l0_3 : List Int) (a1_0 : Int) (a1_1 : Int) (a1_2 : Int) (a1_3 : Int) (a1_4 : Int) (a1_5 : Int) (a1_6 : Int) (l1_7 : List Int) (l1_8 : List Int) : Option (Int × Int × Int × List Int × Bool) := (impl_OutShape.f k a0_0 a0_1 a0_2 a1_0 a1_1 a1_2 a1_3 a1_4 a1_5 a1_6 l1_7 l1_8).bind fun bt374 => (if bt374.2.2.2 = true then ((impl_TensorOk.f k a0_0 a0_1 a0_2 l0_3).bind fun t379 => (impl_RunLayer.j0 k (!t379) a0_0 a0_1 a0_2 l0_3 a1_0 a1_1 a1_2 a1_3 a1_4 a1_5 a1_6 l1_7 l1_8 bt374.1 bt374.2.1 bt374.2.2.1)) else (impl_RunLayer.j0 k true a0_0 a0_1 a0_2 l0_3 a1_0 a1_1 a1_2 a1_3 a1_4 a1_5 a1_6 l1_7 l1_8 bt374.1 bt374.2.1 bt374.2.2.1))
def impl_RunLayer.T14 : Bool × List (List Nat × List Nat) := (true, [([], []), ([0], [0]), ([], []), ([], []), ([], []), ([], []), ([], []), ([2, 3, 4, 5, 6], [2, 3, 4, 5, 6]), ([7], [7]), ([1, 8, 7], [1, 8]), ([0, 1, 2, 3, 4, 5, 6, 7, 8, 9], []), ([10, 9, 9, 0, 1, 2, 3, 4, 5, 6, 7, 8, 9], [9, 10])])
def impl_RunLayer.B14 : List Nat := [0, 1, 0, 0, 0, 0, 0, 124, 252, 511, 1023, 2047]
theorem impl_RunLayer.tab14 : rtab .any (opsOf Try.f13 14) = impl_RunLayer.T14 := by kernel_rfl
theorem impl_RunLayer.bits14 : waitsOk impl_RunLayer.T14.2 impl_RunLayer.B14 = true := by kernel_rfl
set_option maxHeartbeats 8000000 in
set_option maxRecDepth 100000 in
theorem impl_RunLayer.calls (k : Nat) (a0_0 : Int) (a0_1 : Int) (a0_2 : Int) (A0_3 : Option Addr) (c0_3 : Nat) (l0_3 : List Int) (a1_0 : Int) (a1_1 : Int) (a1_2 : Int) (a1_3 : Int) (a1_4 : Int) (a1_5 : Int) (a1_6 : Int) (A1_7 : Option Addr) (c1_7 : Nat) (l1_7 : List Int) (A1_8 : Option Addr) (c1_8 : Nat) (l1_8 : List Int) (r1 : Int) (r2 : Int) (r3 : Int) (r4 : List Int) (r5 : Bool) (w : World) (hr0_3 : Kd.C (Kd.int .i64) w A0_3 l0_3.length l0_3) (hc0_3 : l0_3.length ≤ c0_3) (hr1_7 : Kd.C (Kd.int .i64) w A1_7 l1_7.length l1_7) (hc1_7 : l1_7.length ≤ c1_7) (hr1_8 : Kd.C (Kd.int .i64) w A1_8 l1_8.length l1_8) (hc1_8 : l1_8.length ≤ c1_8) (h : impl_RunLayer.f k a0_0 a0_1 a0_2 l0_3 a1_0 a1_1 a1_2 a1_3 a1_4 a1_5 a1_6 l1_7 l1_8 = some (r1, r2, r3, r4, r5)) :
   Calls Try.prog 13 #[.agg #[.int .i64 a0_0, .int .i64 a0_1, .int .i64 a0_2, .slice A0_3 l0_3.length c0_3], .agg #[.int .i64 a1_0, .int .i64 a1_1, .int .i64 a1_2, .int .i64 a1_3, .int .i64 a1_4, .int .i64 a1_5, .int .i64 a1_6, .slice A1_7 l1_7.length c1_7, .slice A1_8 l1_8.length c1_8]] w fun e w' => ∃ v3_ : Value, e = .returned (.tuple #[.agg #[.int .i64 r1, .int .i64 r2, .int .i64 r3, v3_], .bool r5]) ∧ Kd.R (Kd.int .i64) 3 w' w.heap.size (fun _ => True) v3_ r4 ∧ Below w.heap.size w w' := by
  have hu33 := Try.underlying33
  have hu37 := Try.underlying37
  have hu31 := Try.underlying31
  have HR0_3 := Aside0.mk hr0_3
  have HC0_3 := Aside0.mk hc0_3
  clear hr0_3 hc0_3
  have HR1_7 := Aside0.mk hr1_7
  have HC1_7 := Aside0.mk hc1_7
  clear hr1_7 hc1_7
  have HR1_8 := Aside0.mk hr1_8
  have HC1_8 := Aside0.mk hc1_8
  clear hr1_8 hc1_8
  have HB := Aside0.mk (Below.refl w.heap.size w)
  have H : ((impl_OutShape.f k a0_0 a0_1 a0_2 a1_0 a1_1 a1_2 a1_3 a1_4 a1_5 a1_6 l1_7 l1_8).bind fun bt374 => (if bt374.2.2.2 = true then ((impl_TensorOk.f k a0_0 a0_1 a0_2 l0_3).bind fun t379 => (impl_RunLayer.j0 k (!t379) a0_0 a0_1 a0_2 l0_3 a1_0 a1_1 a1_2 a1_3 a1_4 a1_5 a1_6 l1_7 l1_8 bt374.1 bt374.2.1 bt374.2.2.1)) else (impl_RunLayer.j0 k true a0_0 a0_1 a0_2 l0_3 a1_0 a1_1 a1_2 a1_3 a1_4 a1_5 a1_6 l1_7 l1_8 bt374.1 bt374.2.1 bt374.2.2.1))) = some (r1, r2, r3, r4, r5) := h
  clear h
  replace H := Option.bind_eq_some_iff.mp H
  obtain ⟨⟨t374, t375, t376, t377⟩, A30, H⟩ := H
  (try dsimp only at H)
  have A3 := Aside0.mk A30
  clear A30
  have HC4 := Aside0.mk H
  clear H
  go_enter Try.func13, Try.ntmps13
  go_upto_region 2 with (first | ((with_reducible refine gate_dst (N := 2) rfl ?_); refine boxM 2 #[.int .i64 a0_0, .int .i64 a0_1, .int .i64 a0_2, .slice A0_3 l0_3.length c0_3] 33 ?_; intro gb371 hg w5 BK371 hb; replace HB := box_at w hb hg; obtain ⟨HB, GW371, GE371⟩ := HB; clear hb hg) | ((with_reducible refine gate_dst (N := 3) rfl ?_); refine boxM 3 #[.int .i64 a1_0, .int .i64 a1_1, .int .i64 a1_2, .int .i64 a1_3, .int .i64 a1_4, .int .i64 a1_5, .int .i64 a1_6, .slice A1_7 l1_7.length c1_7, .slice A1_8 l1_8.length c1_8] 37 ?_; intro gb372 hg w6 BK372 hb; replace HB := box_at w hb hg; obtain ⟨HB, GW372, GE372⟩ := HB; replace BK371 := box_on gb371 hb hg; obtain ⟨BK371, NB371_372, NB372_371⟩ := BK371; clear hb hg) | ((with_reducible refine gate_dst (N := 4) rfl ?_); refine boxM 4 #[.int .i64 0, .int .i64 0, .int .i64 0, .slice none 0 0] 33 ?_; intro gb373 hg w7 BK373 hb; replace HB := box_at w hb hg; obtain ⟨HB, GW373, GE373⟩ := HB; replace BK371 := box_on gb371 hb hg; obtain ⟨BK371, NB371_373, NB373_371⟩ := BK371; replace BK372 := box_on gb372 hb hg; obtain ⟨BK372, NB372_373, NB373_372⟩ := BK372; clear hb hg; have hn8 := ne2 NB371_372; have hn9 := ne2 NB371_373; have hcz10 := cells4 BK371.out; have hn11 := ne2 NB372_373; have hcz12 := cells9 BK372.out) | ((with_reducible refine gate_callee (f := 30) rfl ?_); refine goesM (some 16) rfl rfl Try.func30 (by kernel_rfl) rfl #[.agg #[.int .i64 a0_0, .int .i64 a0_1, .int .i64 a0_2], .agg #[.int .i64 a1_0, .int .i64 a1_1, .int .i64 a1_2, .int .i64 a1_3, .int .i64 a1_4, .int .i64 a1_5, .int .i64 a1_6, .slice A1_7 l1_7.length c1_7, .slice A1_8 l1_8.length c1_8]] rfl ?_; (with_reducible refine (impl_OutShape.calls k a0_0 a0_1 a0_2 a1_0 a1_1 a1_2 a1_3 a1_4 a1_5 a1_6 _ _ l1_7 _ _ l1_8 t374 t375 t376 t377 _ ?side1 ?side2 ?side3 ?side4 A3.out).mono ?_); (case side1 => exact C_now HR1_7.out); (case side2 => exact HC1_7.out); (case side3 => exact C_now HR1_8.out); (case side4 => exact HC1_8.out); rintro e w13 ⟨rfl, hb⟩; refine ⟨_, rfl, ?_⟩; replace HB := bel_on w hb; replace BK371 := blk_on gb371 hb; replace BK372 := blk_on gb372 hb; replace BK373 := blk_on gb373 hb; (try clear hb)) | ((with_reducible refine gate_dst (N := 6) rfl ?_); refine boxM 6 #[.int .i64 0, .int .i64 0, .int .i64 0] 31 ?_; intro gb378 hg w14 BK378 hb; replace HB := box_at w hb hg; obtain ⟨HB, GW378, GE378⟩ := HB; replace BK371 := box_on gb371 hb hg; obtain ⟨BK371, NB371_378, NB378_371⟩ := BK371; replace BK372 := box_on gb372 hb hg; obtain ⟨BK372, NB372_378, NB378_372⟩ := BK372; replace BK373 := box_on gb373 hb hg; obtain ⟨BK373, NB373_378, NB378_373⟩ := BK373; clear hb hg; have hn15 := ne2 NB378_371; have hn16 := ne2 NB378_372; have hn17 := ne2 NB378_373; have hcz18 := cells3 BK378.out))
  (try simp only [Act.put, zA, zB, zC])
  go_cut [25] (fun v25 wc => ∃ (kq : Nat) (x25_3 : Bool), v25 = .bool x25_3 ∧ Aside0 (impl_RunLayer.j0 kq x25_3 a0_0 a0_1 a0_2 l0_3 a1_0 a1_1 a1_2 a1_3 a1_4 a1_5 a1_6 l1_7 l1_8 t374 t375 t376 = some (r1, r2, r3, r4, r5)) ∧ Aside0 (kq ≤ k) ∧ Aside0 (wc.heap[gb371]? = some (.cells #[.int .i64 a0_0, .int .i64 a0_1, .int .i64 a0_2, (.slice A0_3 l0_3.length c0_3)] 33 (0, 0))) ∧ Aside0 (wc.heap[gb372]? = some (.cells #[.int .i64 a1_0, .int .i64 a1_1, .int .i64 a1_2, .int .i64 a1_3, .int .i64 a1_4, .int .i64 a1_5, .int .i64 a1_6, (.slice A1_7 l1_7.length c1_7), (.slice A1_8 l1_8.length c1_8)] 37 (0, 0))) ∧ Aside0 (wc.heap[gb373]? = some (.cells #[.int .i64 0, .int .i64 0, .int .i64 0, (.slice none 0 0)] 33 (0, 0))) ∧ Aside0 (wc.heap[gb378]? = some (.cells #[.int .i64 t374, .int .i64 t375, .int .i64 t376] 31 (0, 0))) ∧ Aside0 (Below w.heap.size w wc))
  case first =>
   have H := HC4.out
   clear HC4
   by_cases c19 : t377 = true
   ·subst c19
    rw [if_pos rfl] at H
    replace H := Option.bind_eq_some_iff.mp H
    obtain ⟨t379, A200, H⟩ := H
    (try dsimp only at H)
    have A20 := Aside0.mk A200
    clear A200
    have H' := Aside0.mk H
    clear H
    have hn21 := ne2 NB371_372
    have hn22 := ne2 NB371_373
    have hn23 := ne2 NB371_378
    have hcz24 := cells4 BK371.out
    go_wp2_with (first | (go_at_call 52; (with_reducible refine (impl_TensorOk.calls k a0_0 a0_1 a0_2 _ _ l0_3 t379 _ ?side1 ?side2 A20.out).mono ?_); (case side1 => exact C_now HR0_3.out); (case side2 => exact HC0_3.out); rintro e w25 ⟨rfl, hb⟩; replace HB := bel_on w hb; replace BK371 := Aside0.mk (blk_below (g := gb371) (o := .cells #[.int .i64 a0_0, .int .i64 a0_1, .int .i64 a0_2, .slice A0_3 l0_3.length c0_3] 33 (0, 0)) (blk_fars BK371.out) hb); replace BK372 := Aside0.mk (blk_below (g := gb372) (o := .cells #[.int .i64 a1_0, .int .i64 a1_1, .int .i64 a1_2, .int .i64 a1_3, .int .i64 a1_4, .int .i64 a1_5, .int .i64 a1_6, .slice A1_7 l1_7.length c1_7, .slice A1_8 l1_8.length c1_8] 37 (0, 0)) (blk_fars BK372.out) hb); replace BK373 := Aside0.mk (blk_below (g := gb373) (o := .cells #[.int .i64 0, .int .i64 0, .int .i64 0, .slice none 0 0] 33 (0, 0)) (blk_fars BK373.out) hb); replace BK378 := Aside0.mk (blk_below (g := gb378) (o := .cells #[.int .i64 t374, .int .i64 t375, .int .i64 t376] 31 (0, 0)) (blk_fars (puts3 BK378.out)) hb); (try clear hb)))
    go_meet
    case rel => exact ⟨_, (!t379), (by first | rfl | (simp; done) | (simp [*]; done)), H', ⟨by first | omega | exact Nat.le_refl _⟩, ⟨bks BK371⟩, ⟨bks BK372⟩, ⟨bks BK373⟩, ⟨bks BK378⟩, ⟨bel_now⟩⟩
   replace c19 := Bool.eq_false_iff.mpr c19
   subst c19
   rw [if_neg (show ¬ (false = true) by decide)] at H
   have H' := Aside0.mk H
   clear H
   go_wp2
   go_meet
   case rel => exact ⟨_, (true), (by first | rfl | (simp; done) | (simp [*]; done)), H', ⟨by first | omega | exact Nat.le_refl _⟩, ⟨by (with_reducible repeat (first | refine blk_drewN ?_ _ | refine blk_drew ?_ | refine blk_alloc ?_ _)); refine blk_far ?_ NB371_378.out _; (with_reducible repeat (first | refine blk_drewN ?_ _ | refine blk_drew ?_ | refine blk_alloc ?_ _)); refine blk_far ?_ NB371_378.out _; (with_reducible repeat (first | refine blk_drewN ?_ _ | refine blk_drew ?_ | refine blk_alloc ?_ _)); refine blk_far ?_ NB371_378.out _; (with_reducible repeat (first | refine blk_drewN ?_ _ | refine blk_drew ?_ | refine blk_alloc ?_ _)); exact BK371.out⟩, ⟨by (with_reducible repeat (first | refine blk_drewN ?_ _ | refine blk_drew ?_ | refine blk_alloc ?_ _)); refine blk_far ?_ NB372_378.out _; (with_reducible repeat (first | refine blk_drewN ?_ _ | refine blk_drew ?_ | refine blk_alloc ?_ _)); refine blk_far ?_ NB372_378.out _; (with_reducible repeat (first | refine blk_drewN ?_ _ | refine blk_drew ?_ | refine blk_alloc ?_ _)); refine blk_far ?_ NB372_378.out _; (with_reducible repeat (first | refine blk_drewN ?_ _ | refine blk_drew ?_ | refine blk_alloc ?_ _)); exact BK372.out⟩, ⟨by (with_reducible repeat (first | refine blk_drewN ?_ _ | refine blk_drew ?_ | refine blk_alloc ?_ _)); refine blk_far ?_ NB373_378.out _; (with_reducible repeat (first | refine blk_drewN ?_ _ | refine blk_drew ?_ | refine blk_alloc ?_ _)); refine blk_far ?_ NB373_378.out _; (with_reducible repeat (first | refine blk_drewN ?_ _ | refine blk_drew ?_ | refine blk_alloc ?_ _)); refine blk_far ?_ NB373_378.out _; (with_reducible repeat (first | refine blk_drewN ?_ _ | refine blk_drew ?_ | refine blk_alloc ?_ _)); exact BK373.out⟩, ⟨by (with_reducible repeat (first | refine blk_drewN ?_ _ | refine blk_drew ?_ | refine blk_alloc ?_ _)); refine blk_put (cs := #[.int .i64 t374, .int .i64 t375, .int .i64 0]) ?_ 2 _ rfl; (with_reducible repeat (first | refine blk_drewN ?_ _ | refine blk_drew ?_ | refine blk_alloc ?_ _)); refine blk_put (cs := #[.int .i64 t374, .int .i64 0, .int .i64 0]) ?_ 1 _ rfl; (with_reducible repeat (first | refine blk_drewN ?_ _ | refine blk_drew ?_ | refine blk_alloc ?_ _)); refine blk_put (cs := #[.int .i64 0, .int .i64 0, .int .i64 0]) ?_ 0 _ rfl; (with_reducible repeat (first | refine blk_drewN ?_ _ | refine blk_drew ?_ | refine blk_alloc ?_ _)); exact BK378.out⟩, ⟨bel_now⟩⟩
  case rest =>
   clear HC4
   try clear c1
   try clear c2
   try clear p2
   try clear c3
   try clear c8
   try clear c9
   try clear c11
   try clear c13
   try clear c15
   try clear c16
   try clear c17
   try clear c19
   try clear c21
   try clear c22
   try clear c23
   try clear hcz10
   try clear hcz12
   try clear hcz18
   try clear hcz24
   obtain ⟨kq, x25_3, rfl, HA, HJ3, BK371, BK372, BK373, BK378, HB⟩ := hcut
   cases kq with
   | zero => exact absurd HA.out (by simp [impl_RunLayer.j0])
   | succ kj3 =>
    have H := HA.out
    clear HA
    simp only [impl_RunLayer.j0] at H
    by_cases c26 : x25_3 = true
    ·subst c26
     rw [if_pos rfl] at H
     simp only [Option.some.injEq, Prod.mk.injEq] at H
     obtain ⟨rfl, rfl, rfl, rfl, rfl⟩ := H
     have hn27 := ne2 NB373_371
     have hn28 := ne2 NB373_372
     have hn29 := ne2 NB373_378
     have hcz30 := cells4 BK373.out
     go_wp2
     refine bodyPost_ret (results_ct rfl _ _ gb373 33 #[.int .i64 0, .int .i64 0, .int .i64 0, .slice none 0 0] (0, 0) _ rfl (blk_fars (puts4 BK373.out)) Try.underlying33 rfl (by kernel_rfl)) rfl ?_
     exact ⟨_, eqN, by first | exact Kd.R_nil _ _ _ _ _ | exact Kd.N_nil _ _ _ _ _ | exact Kd.V_nil _ _ _ _ _ | exact Kd.Q_nil _ _ _ _ _ | exact Kd.S_nil _ _ _ _ _, bel_now⟩
    replace c26 := Bool.eq_false_iff.mpr c26
    subst c26
    rw [if_neg (show ¬ (false = true) by decide)] at H
    have H' := Aside0.mk H
    clear H
    have hn31 := ne2 NB378_371
    have hn32 := ne2 NB378_372
    have hn33 := ne2 NB378_373
    have hcz34 := cells3 BK378.out
    go_wp2_with (first | ((with_reducible refine gate_dst (N := 8) rfl ?_); refine boxM 8 #[.int .i64 0, .int .i64 0, .int .i64 0, .slice none 0 0] 33 ?_; intro gb380 hg w35 BK380 hb; replace HB := box_at w hb hg; obtain ⟨HB, GW380, GE380⟩ := HB; replace BK371 := box_on gb371 hb hg; obtain ⟨BK371, NB371_380, NB380_371⟩ := BK371; replace BK372 := box_on gb372 hb hg; obtain ⟨BK372, NB372_380, NB380_372⟩ := BK372; replace BK373 := box_on gb373 hb hg; obtain ⟨BK373, NB373_380, NB380_373⟩ := BK373; replace BK378 := box_on gb378 hb hg; obtain ⟨BK378, NB378_380, NB380_378⟩ := BK378; clear hb hg; have hn36 := ne2 NB380_371; have hn37 := ne2 NB380_372; have hn38 := ne2 NB380_373; have hn39 := ne2 NB380_378; have hcz40 := cells4 BK380.out; have hcz41 := cells3 BK378.out))
    go_loopg [31] kj3 (fun kq v31 w' => ∃ (x31_2 : Int) (x381003_2 : List Int) (u381003 : Value), v31 = .int .i64 x31_2 ∧ Aside0 (impl_RunLayer.l0 kq t374 x31_2 a0_0 a0_1 a0_2 l0_3 a1_0 a1_1 a1_2 a1_3 a1_4 a1_5 a1_6 l1_7 l1_8 t374 t375 t376 t374 t375 t376 x381003_2 = some (r1, r2, r3, r4, r5)) ∧ Aside0 (kq ≤ kj3) ∧ Aside0 (Kd.R (Kd.int .i64) 3 w' w.heap.size (fun _ => True) u381003 x381003_2) ∧ Aside0 (w'.heap[gb371]? = some (.cells #[.int .i64 a0_0, .int .i64 a0_1, .int .i64 a0_2, (.slice A0_3 l0_3.length c0_3)] 33 (0, 0))) ∧ Aside0 (w'.heap[gb372]? = some (.cells #[.int .i64 a1_0, .int .i64 a1_1, .int .i64 a1_2, .int .i64 a1_3, .int .i64 a1_4, .int .i64 a1_5, .int .i64 a1_6, (.slice A1_7 l1_7.length c1_7), (.slice A1_8 l1_8.length c1_8)] 37 (0, 0))) ∧ Aside0 (w'.heap[gb373]? = some (.cells #[.int .i64 0, .int .i64 0, .int .i64 0, (.slice none 0 0)] 33 (0, 0))) ∧ Aside0 (w'.heap[gb378]? = some (.cells #[.int .i64 t374, .int .i64 t375, .int .i64 t376] 31 (0, 0))) ∧ Aside0 (w'.heap[gb380]? = some (.cells #[.int .i64 t374, .int .i64 t375, .int .i64 t376, u381003] 33 (0, 0))) ∧ Aside0 (Below w.heap.size w w'))
    case atStart => exact ⟨(0), (([] : List Int)), (.slice none 0 0), (by first | rfl | (simp; done) | (simp [*]; done)), H', ⟨Nat.le_refl _⟩, ⟨by first | exact Kd.R_nil _ _ _ _ _ | exact Kd.N_nil _ _ _ _ _ | exact Kd.V_nil _ _ _ _ _ | exact Kd.Q_nil _ _ _ _ _ | exact Kd.S_nil _ _ _ _ _⟩, ⟨by (with_reducible repeat (first | refine blk_drewN ?_ _ | refine blk_drew ?_ | refine blk_alloc ?_ _)); refine blk_far ?_ NB371_380.out _; (with_reducible repeat (first | refine blk_drewN ?_ _ | refine blk_drew ?_ | refine blk_alloc ?_ _)); refine blk_far ?_ NB371_380.out _; (with_reducible repeat (first | refine blk_drewN ?_ _ | refine blk_drew ?_ | refine blk_alloc ?_ _)); refine blk_far ?_ NB371_380.out _; (with_reducible repeat (first | refine blk_drewN ?_ _ | refine blk_drew ?_ | refine blk_alloc ?_ _)); refine blk_far ?_ NB371_380.out _; (with_reducible repeat (first | refine blk_drewN ?_ _ | refine blk_drew ?_ | refine blk_alloc ?_ _)); exact BK371.out⟩, ⟨by (with_reducible repeat (first | refine blk_drewN ?_ _ | refine blk_drew ?_ | refine blk_alloc ?_ _)); refine blk_far ?_ NB372_380.out _; (with_reducible repeat (first | refine blk_drewN ?_ _ | refine blk_drew ?_ | refine blk_alloc ?_ _)); refine blk_far ?_ NB372_380.out _; (with_reducible repeat (first | refine blk_drewN ?_ _ | refine blk_drew ?_ | refine blk_alloc ?_ _)); refine blk_far ?_ NB372_380.out _; (with_reducible repeat (first | refine blk_drewN ?_ _ | refine blk_drew ?_ | refine blk_alloc ?_ _)); refine blk_far ?_ NB372_380.out _; (with_reducible repeat (first | refine blk_drewN ?_ _ | refine blk_drew ?_ | refine blk_alloc ?_ _)); exact BK372.out⟩, ⟨by (with_reducible repeat (first | refine blk_drewN ?_ _ | refine blk_drew ?_ | refine blk_alloc ?_ _)); refine blk_far ?_ NB373_380.out _; (with_reducible repeat (first | refine blk_drewN ?_ _ | refine blk_drew ?_ | refine blk_alloc ?_ _)); refine blk_far ?_ NB373_380.out _; (with_reducible repeat (first | refine blk_drewN ?_ _ | refine blk_drew ?_ | refine blk_alloc ?_ _)); refine blk_far ?_ NB373_380.out _; (with_reducible repeat (first | refine blk_drewN ?_ _ | refine blk_drew ?_ | refine blk_alloc ?_ _)); refine blk_far ?_ NB373_380.out _; (with_reducible repeat (first | refine blk_drewN ?_ _ | refine blk_drew ?_ | refine blk_alloc ?_ _)); exact BK373.out⟩, ⟨by (with_reducible repeat (first | refine blk_drewN ?_ _ | refine blk_drew ?_ | refine blk_alloc ?_ _)); refine blk_far ?_ NB378_380.out _; (with_reducible repeat (first | refine blk_drewN ?_ _ | refine blk_drew ?_ | refine blk_alloc ?_ _)); refine blk_far ?_ NB378_380.out _; (with_reducible repeat (first | refine blk_drewN ?_ _ | refine blk_drew ?_ | refine blk_alloc ?_ _)); refine blk_far ?_ NB378_380.out _; (with_reducible repeat (first | refine blk_drewN ?_ _ | refine blk_drew ?_ | refine blk_alloc ?_ _)); refine blk_far ?_ NB378_380.out _; (with_reducible repeat (first | refine blk_drewN ?_ _ | refine blk_drew ?_ | refine blk_alloc ?_ _)); exact BK378.out⟩, ⟨by (with_reducible repeat (first | refine blk_drewN ?_ _ | refine blk_drew ?_ | refine blk_alloc ?_ _)); refine blk_put (cs := #[.int .i64 t374, .int .i64 t375, .int .i64 t376, .slice none 0 0]) ?_ 3 _ rfl; (with_reducible repeat (first | refine blk_drewN ?_ _ | refine blk_drew ?_ | refine blk_alloc ?_ _)); refine blk_put (cs := #[.int .i64 t374, .int .i64 t375, .int .i64 0, .slice none 0 0]) ?_ 2 _ rfl; (with_reducible repeat (first | refine blk_drewN ?_ _ | refine blk_drew ?_ | refine blk_alloc ?_ _)); refine blk_put (cs := #[.int .i64 t374, .int .i64 0, .int .i64 0, .slice none 0 0]) ?_ 1 _ rfl; (with_reducible repeat (first | refine blk_drewN ?_ _ | refine blk_drew ?_ | refine blk_alloc ?_ _)); refine blk_put (cs := #[.int .i64 0, .int .i64 0, .int .i64 0, .slice none 0 0]) ?_ 0 _ rfl; (with_reducible repeat (first | refine blk_drewN ?_ _ | refine blk_drew ?_ | refine blk_alloc ?_ _)); exact BK380.out⟩, ⟨bel_now⟩⟩
    case round =>
     clear H'
     try clear c1
     try clear c2
     try clear p2 p2
     try clear c3
     try clear c8
     try clear c9
     try clear c11
     try clear c13
     try clear c15
     try clear c16
     try clear c17
     try clear c19
     try clear c21
     try clear c22
     try clear c23
     try clear c26
     try clear c27
     try clear c28
     try clear c29
     try clear c30
     try clear c31
     try clear c32
     try clear c33
     try clear c36
     try clear c37
     try clear c38
     try clear c39
     try clear hcz10
     try clear hcz12
     try clear hcz18
     try clear hcz24
     try clear hcz30
     try clear hcz34
     try clear hcz40
     try clear hcz41
     obtain ⟨x31_2, x381003_2, u381003, rfl, HA, HK2, HO_381003, BK371, BK372, BK373, BK378, BK380, HB⟩ := hrel
     cases gk with
     | zero => exact absurd HA.out (by simp [impl_RunLayer.l0])
     | succ k2 =>
      have H := HA.out
      clear HA
      simp only [impl_RunLayer.l0] at H
      by_cases c42 : x31_2 < t374
      rotate_left
      ·rw [if_neg c42] at H
       have c42b0 : decide (x31_2 < t374) = false := decide_eq_false c42
       clear c42
       simp only [Option.some.injEq, Prod.mk.injEq] at H
       obtain ⟨rfl, rfl, rfl, rfl, rfl⟩ := H
       have hn62 := ne2 NB380_371
       have hn63 := ne2 NB380_372
       have hn64 := ne2 NB380_373
       have hn65 := ne2 NB380_378
       have hcz66 := cells4 BK380.out
       have hn67 := ne2 NB373_371
       have hn68 := ne2 NB373_372
       have hn69 := ne2 NB373_378
       have hcz70 := cells4 BK373.out
       obtain ⟨Ao71, co71, eo71⟩ := Kd.R_slice HO_381003.out
       subst eo71
       go_wp2
       refine bodyPost_ret (results_ct rfl _ _ gb373 33 #[.int .i64 t374, .int .i64 t375, .int .i64 t376, .slice Ao71 x381003_2.length co71] (0, 0) _ rfl (blk_fars (puts4 BK373.out)) Try.underlying33 rfl (by kernel_rfl)) rfl ?_
       exact ⟨_, eqN, by (with_reducible repeat (first | apply Kd.R_alloc | apply Kd.R_drewN | apply Kd.R_drew)); exact Kd.R_mono (Kd.R_far (p := ⟨gb373, 3, none⟩) (Kd.R_far (p := ⟨gb373, 2, none⟩) (Kd.R_far (p := ⟨gb373, 1, none⟩) (Kd.R_far (p := ⟨gb373, 0, none⟩) (Kd.R_types HO_381003.out BK373.out (by decide)) (fun _ hk => hk.2) (.int .i64 t374)) (fun _ hk => hk.2) (.int .i64 t375)) (fun _ hk => hk.2) (.int .i64 t376)) (fun _ hk => hk.2) (.slice Ao71 x381003_2.length co71)) (fun _ hk => trivial), bel_now⟩
      rw [if_pos c42] at H
      have c42b0 : decide (x31_2 < t374) = true := decide_eq_true c42
      clear c42
      have H' := Aside0.mk H
      clear H
      have hn43 := ne2 NB378_371
      have hn44 := ne2 NB378_372
      have hn45 := ne2 NB378_373
      have hn46 := ne2 NB378_380
      have hcz47 := cells3 BK378.out
      go_wp2
      go_loopg [36] k2 (fun kq v36 w' => ∃ (x36_3 : Int) (x381003_3 : List Int) (u381003 : Value), v36 = .int .i64 x36_3 ∧ Aside0 (impl_RunLayer.l1 kq x31_2 t374 x31_2 t375 x36_3 a0_0 a0_1 a0_2 l0_3 a1_0 a1_1 a1_2 a1_3 a1_4 a1_5 a1_6 l1_7 l1_8 t374 t375 t376 t374 t375 t376 x381003_3 = some (r1, r2, r3, r4, r5)) ∧ Aside0 (kq ≤ k2) ∧ Aside0 (Kd.R (Kd.int .i64) 3 w' w.heap.size (fun _ => True) u381003 x381003_3) ∧ Aside0 (w'.heap[gb371]? = some (.cells #[.int .i64 a0_0, .int .i64 a0_1, .int .i64 a0_2, (.slice A0_3 l0_3.length c0_3)] 33 (0, 0))) ∧ Aside0 (w'.heap[gb372]? = some (.cells #[.int .i64 a1_0, .int .i64 a1_1, .int .i64 a1_2, .int .i64 a1_3, .int .i64 a1_4, .int .i64 a1_5, .int .i64 a1_6, (.slice A1_7 l1_7.length c1_7), (.slice A1_8 l1_8.length c1_8)] 37 (0, 0))) ∧ Aside0 (w'.heap[gb373]? = some (.cells #[.int .i64 0, .int .i64 0, .int .i64 0, (.slice none 0 0)] 33 (0, 0))) ∧ Aside0 (w'.heap[gb378]? = some (.cells #[.int .i64 t374, .int .i64 t375, .int .i64 t376] 31 (0, 0))) ∧ Aside0 (w'.heap[gb380]? = some (.cells #[.int .i64 t374, .int .i64 t375, .int .i64 t376, u381003] 33 (0, 0))) ∧ Aside0 (Below w.heap.size w w'))
      case atStart => exact ⟨(0), (x381003_2), (u381003), (by first | rfl | (simp; done) | (simp [*]; done)), H', ⟨Nat.le_refl _⟩, ⟨by (with_reducible repeat (first | apply Kd.R_alloc | apply Kd.R_drewN | apply Kd.R_drew)); exact HO_381003.out⟩, ⟨bks BK371⟩, ⟨bks BK372⟩, ⟨bks BK373⟩, ⟨bks BK378⟩, ⟨bks BK380⟩, ⟨bel_now⟩⟩
      case round =>
       clear H'
       try clear c1
       try clear c2
       try clear p2 p2
       try clear c3
       try clear c4
       try clear c8
       try clear c9
       try clear c11
       try clear c13
       try clear c15
       try clear c16
       try clear c17
       try clear c19
       try clear c21
       try clear c22
       try clear c23
       try clear c26
       try clear c27
       try clear c28
       try clear c29
       try clear c30
       try clear c31
       try clear c32
       try clear c33
       try clear c36
       try clear c37
       try clear c38
       try clear c39
       try clear c42
       try clear c42b0
       try clear c43
       try clear c44
       try clear c45
       try clear c46
       try clear hcz10
       try clear hcz12
       try clear hcz18
       try clear hcz24
       try clear hcz30
       try clear hcz34
       try clear hcz40
       try clear hcz41
       try clear hcz47
       obtain ⟨x36_3, x381003_3, u381003, rfl, HA, HK3, HO_381003, BK371, BK372, BK373, BK378, BK380, HB⟩ := hrel
       cases gk with
       | zero => exact absurd HA.out (by simp [impl_RunLayer.l1])
       | succ k3 =>
        have H := HA.out
        clear HA
        simp only [impl_RunLayer.l1] at H
        by_cases c48 : x36_3 < t375
        rotate_left
        ·rw [if_neg c48] at H
         have c48b0 : decide (x36_3 < t375) = false := decide_eq_false c48
         clear c48
         have H' := Aside0.mk H
         clear H
         go_wp2
         go_roundg k3
         case measure => have := HJ3.out; have := HK2.out; have := HK3.out; omega
         case rel => exact ⟨(wrap64 (x31_2 + 1)), (x381003_3), (u381003), (by first | rfl | (simp; done) | (simp [*]; done)), H', ⟨by have := HJ3.out; have := HK2.out; have := HK3.out; omega⟩, ⟨by (with_reducible repeat (first | apply Kd.R_alloc | apply Kd.R_drewN | apply Kd.R_drew)); exact HO_381003.out⟩, ⟨bks BK371⟩, ⟨bks BK372⟩, ⟨bks BK373⟩, ⟨bks BK378⟩, ⟨bks BK380⟩, ⟨bel_now⟩⟩
        rw [if_pos c48] at H
        have c48b0 : decide (x36_3 < t375) = true := decide_eq_true c48
        clear c48
        have H' := Aside0.mk H
        clear H
        have hn49 := ne2 NB378_371
        have hn50 := ne2 NB378_372
        have hn51 := ne2 NB378_373
        have hn52 := ne2 NB378_380
        have hcz53 := cells3 BK378.out
        go_wp2
        go_loopg [41] k3 (fun kq v41 w' => ∃ (x41_4 : Int) (x381003_4 : List Int) (u381003 : Value), v41 = .int .i64 x41_4 ∧ Aside0 (impl_RunLayer.l2 kq x31_2 x36_3 t374 x31_2 t375 x36_3 t376 x41_4 a0_0 a0_1 a0_2 l0_3 a1_0 a1_1 a1_2 a1_3 a1_4 a1_5 a1_6 l1_7 l1_8 t374 t375 t376 t374 t375 t376 x381003_4 = some (r1, r2, r3, r4, r5)) ∧ Aside0 (kq ≤ k3) ∧ Aside0 (Kd.R (Kd.int .i64) 3 w' w.heap.size (fun _ => True) u381003 x381003_4) ∧ Aside0 (w'.heap[gb371]? = some (.cells #[.int .i64 a0_0, .int .i64 a0_1, .int .i64 a0_2, (.slice A0_3 l0_3.length c0_3)] 33 (0, 0))) ∧ Aside0 (w'.heap[gb372]? = some (.cells #[.int .i64 a1_0, .int .i64 a1_1, .int .i64 a1_2, .int .i64 a1_3, .int .i64 a1_4, .int .i64 a1_5, .int .i64 a1_6, (.slice A1_7 l1_7.length c1_7), (.slice A1_8 l1_8.length c1_8)] 37 (0, 0))) ∧ Aside0 (w'.heap[gb373]? = some (.cells #[.int .i64 0, .int .i64 0, .int .i64 0, (.slice none 0 0)] 33 (0, 0))) ∧ Aside0 (w'.heap[gb378]? = some (.cells #[.int .i64 t374, .int .i64 t375, .int .i64 t376] 31 (0, 0))) ∧ Aside0 (w'.heap[gb380]? = some (.cells #[.int .i64 t374, .int .i64 t375, .int .i64 t376, u381003] 33 (0, 0))) ∧ Aside0 (Below w.heap.size w w'))
        case atStart => exact ⟨(0), (x381003_3), (u381003), (by first | rfl | (simp; done) | (simp [*]; done)), H', ⟨Nat.le_refl _⟩, ⟨by (with_reducible repeat (first | apply Kd.R_alloc | apply Kd.R_drewN | apply Kd.R_drew)); exact HO_381003.out⟩, ⟨bks BK371⟩, ⟨bks BK372⟩, ⟨bks BK373⟩, ⟨bks BK378⟩, ⟨bks BK380⟩, ⟨bel_now⟩⟩
        case round =>
         clear H'
         try clear c1
         try clear c2
         try clear p2 p2
         try clear c3
         try clear c4
         try clear c5
         try clear c8
         try clear c9
         try clear c11
         try clear c13
         try clear c15
         try clear c16
         try clear c17
         try clear c19
         try clear c21
         try clear c22
         try clear c23
         try clear c26
         try clear c27
         try clear c28
         try clear c29
         try clear c30
         try clear c31
         try clear c32
         try clear c33
         try clear c36
         try clear c37
         try clear c38
         try clear c39
         try clear c42
         try clear c42b0
         try clear c43
         try clear c44
         try clear c45
         try clear c46
         try clear c48
         try clear c48b0
         try clear c49
         try clear c50
         try clear c51
         try clear c52
         try clear hcz10
         try clear hcz12
         try clear hcz18
         try clear hcz24
         try clear hcz30
         try clear hcz34
         try clear hcz40
         try clear hcz41
         try clear hcz47
         try clear hcz53
         obtain ⟨x41_4, x381003_4, u381003, rfl, HA, HK4, HO_381003, BK371, BK372, BK373, BK378, BK380, HB⟩ := hrel
         cases gk with
         | zero => exact absurd HA.out (by simp [impl_RunLayer.l2])
         | succ k4 =>
          have H := HA.out
          clear HA
          simp only [impl_RunLayer.l2] at H
          by_cases c54 : x41_4 < t376
          rotate_left
          ·rw [if_neg c54] at H
           have c54b0 : decide (x41_4 < t376) = false := decide_eq_false c54
           clear c54
           have H' := Aside0.mk H
           clear H
           go_wp2
           go_roundg k4
           case measure => have := HJ3.out; have := HK2.out; have := HK3.out; have := HK4.out; omega
           case rel => exact ⟨(wrap64 (x36_3 + 1)), (x381003_4), (u381003), (by first | rfl | (simp; done) | (simp [*]; done)), H', ⟨by have := HJ3.out; have := HK2.out; have := HK3.out; have := HK4.out; omega⟩, ⟨by (with_reducible repeat (first | apply Kd.R_alloc | apply Kd.R_drewN | apply Kd.R_drew)); exact HO_381003.out⟩, ⟨bks BK371⟩, ⟨bks BK372⟩, ⟨bks BK373⟩, ⟨bks BK378⟩, ⟨bks BK380⟩, ⟨bel_now⟩⟩
          rw [if_pos c54] at H
          have c54b0 : decide (x41_4 < t376) = true := decide_eq_true c54
          clear c54
          replace H := Option.bind_eq_some_iff.mp H
          obtain ⟨t381, A550, H⟩ := H
          (try dsimp only at H)
          have A55 := Aside0.mk A550
          clear A550
          by_cases c56 : x381003_4.length < 17592186044416
          rotate_left
          ·rw [if_neg c56] at H
           exact absurd H (by simp)
          rw [if_pos c56] at H
          have LMc56 := Aside0.mk c56
          clear c56
          obtain ⟨y382, hy382⟩ : ∃ y_ : List Int, y_ = (x381003_4 ++ [t381]) := ⟨_, rfl⟩
          replace H : (impl_RunLayer.l2 k4 x31_2 x36_3 t374 x31_2 t375 x36_3 t376 (wrap64 (x41_4 + 1)) a0_0 a0_1 a0_2 l0_3 a1_0 a1_1 a1_2 a1_3 a1_4 a1_5 a1_6 l1_7 l1_8 t374 t375 t376 t374 t375 t376 y382) = some (r1, r2, r3, r4, r5) := by first | (rw [hy382]; with_reducible exact H) | (have H2_ := (Option.bind_some _ _).symm.trans H; rw [hy382]; with_reducible exact H2_) | (have H2_ := (Option.bind_some _ _).symm.trans H; with_reducible exact H2_) | with_reducible exact H | (rw [hy382]; exact H) | exact H
          have Ny382 := Aside0.mk hy382
          clear hy382
          have H' := Aside0.mk H
          clear H
          try go_wp2
          replace HO_381003 := Aside0.mk (Kd.R_drew HO_381003.out)
          replace BK371 := Aside0.mk (blk_drew BK371.out)
          replace BK372 := Aside0.mk (blk_drew BK372.out)
          replace BK373 := Aside0.mk (blk_drew BK373.out)
          replace BK378 := Aside0.mk (blk_drew BK378.out)
          replace BK380 := Aside0.mk (blk_drew BK380.out)
          replace HB := Aside0.mk (below_drew1 HB.out)
          refine start_ (n := 12) (S := fun w' => w'.cell? ⟨gb380, 0, none⟩ = some (.int .i64 t374) ∧ w'.cell? ⟨gb380, 1, none⟩ = some (.int .i64 t375) ∧ w'.cell? ⟨gb380, 2, none⟩ = some (.int .i64 t376) ∧ w'.cell? ⟨gb380, 3, none⟩ = some (u381003) ∧ w'.cell? ⟨gb372, 0, none⟩ = some (.int .i64 a1_0) ∧ w'.cell? ⟨gb372, 1, none⟩ = some (.int .i64 a1_1) ∧ w'.cell? ⟨gb372, 2, none⟩ = some (.int .i64 a1_2) ∧ w'.cell? ⟨gb372, 3, none⟩ = some (.int .i64 a1_3) ∧ w'.cell? ⟨gb372, 4, none⟩ = some (.int .i64 a1_4) ∧ w'.cell? ⟨gb372, 5, none⟩ = some (.int .i64 a1_5) ∧ w'.cell? ⟨gb372, 6, none⟩ = some (.int .i64 a1_6) ∧ w'.cell? ⟨gb372, 7, none⟩ = some (.slice A1_7 l1_7.length c1_7) ∧ w'.cell? ⟨gb372, 8, none⟩ = some (.slice A1_8 l1_8.length c1_8) ∧ w'.cell? ⟨gb371, 0, none⟩ = some (.int .i64 a0_0) ∧ w'.cell? ⟨gb371, 1, none⟩ = some (.int .i64 a0_1) ∧ w'.cell? ⟨gb371, 2, none⟩ = some (.int .i64 a0_2) ∧ w'.cell? ⟨gb371, 3, none⟩ = some (.slice A0_3 l0_3.length c0_3)) (ds := [11]) #[O, O, O, O, O, O, O, O, O, O, O, O] (by kernel_rfl) rfl rfl ⟨bc BK380 0, bc BK380 1, bc BK380 2, bc BK380 3, bc BK372 0, bc BK372 1, bc BK372 2, bc BK372 3, bc BK372 4, bc BK372 5, bc BK372 6, bc BK372 7, bc BK372 8, bc BK371 0, bc BK371 1, bc BK371 2, bc BK371 3⟩ (fun hHeld => ?_); refine with_tabW impl_RunLayer.tab14 impl_RunLayer.bits14 (fun HT_ HW_ => ?_)
          generalize wr.drew = w57 at HO_381003 BK371 BK372 BK373 BK378 BK380 HB hHeld ⊢
          refine stepP 0 (some 44) (tk 12 1) (any_of HT_.out (by kernel_rfl)) ?_
          refine stepP 4 (some 48) (tk 12 17) (any_of HT_.out (by kernel_rfl)) ?_
          refine stepP 5 (some 49) (tk 12 49) (any_of HT_.out (by kernel_rfl)) ?_
          refine stepP 6 (some 50) (tk 12 113) (any_of HT_.out (by kernel_rfl)) ?_
          refine stepT 1 (some 45) (tk 12 115) (take_ofW HT_.out HW_.out (by kernel_rfl)) hHeld ?_
          refine stepT 2 (some 46) (tk 12 119) (take_ofW HT_.out HW_.out (by kernel_rfl)) hHeld ?_
          refine stepT 3 (some 47) (tk 12 127) (take_ofW HT_.out HW_.out (by kernel_rfl)) hHeld ?_
          refine one_ (i := 7) (N := some 51) #[I, I, I, I, I, I, I, I, O, O, O, O] rfl rfl (one_of HT_.out (by kernel_rfl)) (by decide) (fun K hK => ?_)
          refine goes_ Try.func53 (by kernel_rfl) rfl #[.agg #[.int .i64 a1_0, .int .i64 a1_1, .int .i64 a1_2, .int .i64 a1_3, .int .i64 a1_4, .int .i64 a1_5, .int .i64 a1_6, .slice A1_7 l1_7.length c1_7, .slice A1_8 l1_8.length c1_8], .agg #[.int .i64 a0_0, .int .i64 a0_1, .int .i64 a0_2, .slice A0_3 l0_3.length c0_3], .int .i64 x31_2, .int .i64 x36_3, .int .i64 x41_4] (by rfl) rfl rfl (by (try simp only [List.map_toArray, List.map_cons, List.map_nil]); first | done | rfl | (simp only [List.length_drop, List.length_take]; rfl)) ?_
          with_reducible refine (impl_Layer_item.calls k4 a1_0 a1_1 a1_2 a1_3 a1_4 a1_5 a1_6 _ _ l1_7 _ _ l1_8 a0_0 a0_1 a0_2 _ _ l0_3 x31_2 x36_3 x41_4 t381 _ ?side1 ?side2 ?side3 ?side4 ?side5 ?side6 A55.out).mono ?_
          (case side1 => exact C_now HR1_7.out)
          (case side2 => exact HC1_7.out)
          (case side3 => exact C_now HR1_8.out)
          (case side4 => exact HC1_8.out)
          (case side5 => exact C_now HR0_3.out)
          (case side6 => exact HC0_3.out)
          rintro e w58 ⟨rfl, hb⟩
          refine ⟨_, rfl, ?_⟩
          replace HO_381003 := Aside0.mk (Kd.R_below (R_at HO_381003.out) hb)
          replace BK371 := blk_on gb371 hb
          replace BK372 := blk_on gb372 hb
          replace BK373 := blk_on gb373 hb
          replace BK378 := blk_on gb378 hb
          replace BK380 := blk_on gb380 hb
          replace HB := bel_on w hb
          (try clear hb)
          refine hK.out _ _ ⟨bc BK380 0, bc BK380 1, bc BK380 2, bc BK380 3, bc BK372 0, bc BK372 1, bc BK372 2, bc BK372 3, bc BK372 4, bc BK372 5, bc BK372 6, bc BK372 7, bc BK372 8, bc BK371 0, bc BK371 1, bc BK371 2, bc BK371 3⟩ (fun hHeld => ?_)
          clear hK K
          refine normP 51 ?_
          refine one_ (i := 8) (N := some 52) #[I, I, I, I, I, I, I, I, I, O, O, O] rfl rfl (one_of HT_.out (by kernel_rfl)) (by decide) (fun K hK => ?_)
          refine value_ (w1 := ?_) (v := ?_) (by rfl) rfl ?_ ?_
          rotate_left 2
          ·go_simp
           constructor
           ·rfl
           rfl
          refine hK.out _ _ ⟨(blk_cell (blk_alloc BK380.out _) 0).trans rfl, (blk_cell (blk_alloc BK380.out _) 1).trans rfl, (blk_cell (blk_alloc BK380.out _) 2).trans rfl, (blk_cell (blk_alloc BK380.out _) 3).trans rfl, (blk_cell (blk_alloc BK372.out _) 0).trans rfl, (blk_cell (blk_alloc BK372.out _) 1).trans rfl, (blk_cell (blk_alloc BK372.out _) 2).trans rfl, (blk_cell (blk_alloc BK372.out _) 3).trans rfl, (blk_cell (blk_alloc BK372.out _) 4).trans rfl, (blk_cell (blk_alloc BK372.out _) 5).trans rfl, (blk_cell (blk_alloc BK372.out _) 6).trans rfl, (blk_cell (blk_alloc BK372.out _) 7).trans rfl, (blk_cell (blk_alloc BK372.out _) 8).trans rfl, (blk_cell (blk_alloc BK371.out _) 0).trans rfl, (blk_cell (blk_alloc BK371.out _) 1).trans rfl, (blk_cell (blk_alloc BK371.out _) 2).trans rfl, (blk_cell (blk_alloc BK371.out _) 3).trans rfl⟩ (fun hHeld => ?_)
          clear hK K
          refine normP 52 ?_
          refine one_ (i := 9) (N := some 53) #[I, I, I, I, I, I, I, I, I, I, O, O] rfl rfl (one_of HT_.out (by kernel_rfl)) (by decide) (fun K hK => ?_)
          refine Kd.R_append_step (Kd.int .i64) (w0 := w) w.heap.size (by rfl) (.tmp 45) (.tmp 52) 24 3 (.int .i64 0) 8 rfl Try.underlying24 info3 rfl (by decide) (by omega) u381003 x381003_4 t381 [.int .i64 t381] (fun _ => True) (fun _ => False) rfl rfl ?aP (fun _ hk => hk.elim) ?aF ?aO ?aB ?aS ?aL ?_
          (case aP => exact rfl)
          (case aB => exact bel_now)
          (case aF => exact (fun _ _ => trivial))
          (case aO => exact (R_at HO_381003.out))
          (case aS => exact (below_size bel_now))
          (case aL => have := LMc56.out; omega)
          intro v383 w59 ho hb hg hat
          rw [← Ny382.out] at ho
          have n6_ := Aside0.mk (ho)
          replace BK371 := Aside0.mk (blk_grown (g := gb371) blk_now hg (Kd.R_ne HO_381003.out BK371.out (by decide)))
          replace BK372 := Aside0.mk (blk_grown (g := gb372) blk_now hg (Kd.R_ne HO_381003.out BK372.out (by decide)))
          replace BK373 := Aside0.mk (blk_grown (g := gb373) blk_now hg (Kd.R_ne HO_381003.out BK373.out (by decide)))
          replace BK378 := Aside0.mk (blk_grown (g := gb378) blk_now hg (Kd.R_ne HO_381003.out BK378.out (by decide)))
          replace BK380 := Aside0.mk (blk_grown (g := gb380) blk_now hg (Kd.R_ne HO_381003.out BK380.out (by decide)))
          replace HB := Aside0.mk (hb)
          clear HO_381003
          have HO384 := n6_
          clear n6_
          clear ho hb hg hat
          obtain ⟨Ao60, co60, eo60⟩ := Kd.R_slice HO384.out
          (first | subst eo60 | (injection eo60 with f1_ f2_ f3_; have f4_ := f1_.symm; have f5_ := f3_.symm; clear f1_ f2_ f3_; subst f4_; subst f5_))
          refine hK.out _ _ ⟨bc BK380 0, bc BK380 1, bc BK380 2, bc BK380 3, bc BK372 0, bc BK372 1, bc BK372 2, bc BK372 3, bc BK372 4, bc BK372 5, bc BK372 6, bc BK372 7, bc BK372 8, bc BK371 0, bc BK371 1, bc BK371 2, bc BK371 3⟩ (fun hHeld => ?_)
          clear hK K
          refine normP 53 ?_
          refine stepP 10 (some 54) (tk 12 2047) (any_of HT_.out (by kernel_rfl)) ?_
          refine last_ (i := 11) (N := none) #[I, I, I, I, I, I, I, I, I, I, I, I] rfl rfl (one_of HT_.out (by kernel_rfl)) (by decide) (fun K hK => ?_)
          have hs61 : w59.cell? ⟨gb380, 3, none⟩ = some (u381003) := (blk_cell BK380.out 3).trans rfl
          have hfs61 := blk_frozen BK380.out 3
          have hns61_0 := NB371_380.out
          have hns61_1 := NB372_380.out
          have hns61_2 := NB373_380.out
          have hns61_3 := NB378_380.out
          have hms61_0 := NB380_371.out
          have hms61_1 := NB380_372.out
          have hms61_2 := NB380_373.out
          have hms61_3 := NB380_378.out
          refine skip_ (w1 := ?_) (by rfl) rfl ?_ ?_
          rotate_left
          ·go_simp
           rfl
          refine hK.out _ _ ?_
          clear hK K
          refine done_ (done_of HT_.out (by kernel_rfl)) ?_
          try go_wp2
          go_roundg k4
          case measure => have := HJ3.out; have := HK2.out; have := HK3.out; have := HK4.out; omega
          case rel => exact ⟨(wrap64 (x41_4 + 1)), (y382), (.slice Ao60 y382.length co60), (by first | rfl | (simp; done) | (simp [*]; done)), H', ⟨by have := HJ3.out; have := HK2.out; have := HK3.out; have := HK4.out; omega⟩, ⟨by (with_reducible repeat (first | apply Kd.R_alloc | apply Kd.R_drewN | apply Kd.R_drew)); exact Kd.R_mono (Kd.R_far (p := ⟨gb380, 3, none⟩) (Kd.R_types HO384.out BK380.out (by decide)) (fun _ hk => hk.2) (.slice Ao60 y382.length co60)) (fun _ hk => trivial)⟩, ⟨by (with_reducible repeat (first | refine blk_drewN ?_ _ | refine blk_drew ?_ | refine blk_alloc ?_ _)); refine blk_far ?_ NB371_380.out _; (with_reducible repeat (first | refine blk_drewN ?_ _ | refine blk_drew ?_ | refine blk_alloc ?_ _)); exact BK371.out⟩, ⟨by (with_reducible repeat (first | refine blk_drewN ?_ _ | refine blk_drew ?_ | refine blk_alloc ?_ _)); refine blk_far ?_ NB372_380.out _; (with_reducible repeat (first | refine blk_drewN ?_ _ | refine blk_drew ?_ | refine blk_alloc ?_ _)); exact BK372.out⟩, ⟨by (with_reducible repeat (first | refine blk_drewN ?_ _ | refine blk_drew ?_ | refine blk_alloc ?_ _)); refine blk_far ?_ NB373_380.out _; (with_reducible repeat (first | refine blk_drewN ?_ _ | refine blk_drew ?_ | refine blk_alloc ?_ _)); exact BK373.out⟩, ⟨by (with_reducible repeat (first | refine blk_drewN ?_ _ | refine blk_drew ?_ | refine blk_alloc ?_ _)); refine blk_far ?_ NB378_380.out _; (with_reducible repeat (first | refine blk_drewN ?_ _ | refine blk_drew ?_ | refine blk_alloc ?_ _)); exact BK378.out⟩, ⟨by (with_reducible repeat (first | refine blk_drewN ?_ _ | refine blk_drew ?_ | refine blk_alloc ?_ _)); refine blk_put (cs := #[.int .i64 t374, .int .i64 t375, .int .i64 t376, u381003]) ?_ 3 _ rfl; (with_reducible repeat (first | refine blk_drewN ?_ _ | refine blk_drew ?_ | refine blk_alloc ?_ _)); exact BK380.out⟩, ⟨bel_now⟩⟩

end Go.Proofs.Ytclpojeofclbjaa.PFnExactRunLayer
