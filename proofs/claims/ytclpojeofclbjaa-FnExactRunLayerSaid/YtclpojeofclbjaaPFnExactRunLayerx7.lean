-- Printed by the session's own program (wip/myprint.py) for this claim out of the translation. Not trusted: Lean checks it.
import Derived.Test.YtclpojeofclbjaaPFnExactRunLayerx0
import Derived.Test.YtclpojeofclbjaaPFnExactRunLayerx1
import Derived.Test.YtclpojeofclbjaaPFnExactRunLayerx5
import Derived.Test.YtclpojeofclbjaaPFnExactRunLayerx6
namespace Go.Proofs.Ytclpojeofclbjaa.PFnExactRunLayer
open Go.RowKit Go.Proofs.YtclpojeofclbjaaW.PrintWords Go.Proofs.YtclpojeofclbjaaW.PrintLast Go.Proofs.YtclpojeofclbjaaW.PrintMore
attribute [local go_sem] max2_int min2_int max_two min_two max_three min_three max_four min_four   -- for this text's walks alone
set_option linter.unusedVariables false
set_option linter.unusedSimpArgs false

/-! ### spec_l03Item: function 49 -/
mutual
def spec_l03Item.l0 : Nat → Int → Int → Int → Int → Int → Int → Int → Int → List Int → Int → Int → Int → Int → Int → Int → Int → List Int → List Int → Int → Int → Int → Option (Int)
  | 0, _, _, _, _, _, _, _, _, _, _, _, _, _, _, _, _, _, _, _, _, _ => none
  | k + 1, x2, x3, x4, x13, x14, x209000, x209001, x209002, x209003, x210000, x210001, x210002, x210003, x210004, x210005, x210006, x210007, x210008, x211000, x211001, x211002 => if x14 < x210002 then (spec_l03Item.l1 k x2 x3 x4 x13 x14 0 x209000 x209001 x209002 x209003 x210000 x210001 x210002 x210003 x210004 x210005 x210006 x210007 x210008 x211000 x211001 x211002) else (if 0 ≤ x4 then (if x4 < (x210008.length : Int) then ((spec_AddSat.f k x13 (rd x210008 x4)).bind fun t218 => ((spec_Requant.f k t218 x210004 x210005 x210006).bind fun t219 => (some t219))) else (none)) else (none))
def spec_l03Item.l1 : Nat → Int → Int → Int → Int → Int → Int → Int → Int → Int → List Int → Int → Int → Int → Int → Int → Int → Int → List Int → List Int → Int → Int → Int → Option (Int)
  | 0, _, _, _, _, _, _, _, _, _, _, _, _, _, _, _, _, _, _, _, _, _, _ => none
  | k + 1, x2, x3, x4, x13, x14, x15, x209000, x209001, x209002, x209003, x210000, x210001, x210002, x210003, x210004, x210005, x210006, x210007, x210008, x211000, x211001, x211002 => if x15 < x210002 then (spec_l03Item.l2 k x2 x3 x4 x13 x14 x15 0 x209000 x209001 x209002 x209003 x210000 x210001 x210002 x210003 x210004 x210005 x210006 x210007 x210008 x211000 x211001 x211002) else (spec_l03Item.l0 k x2 x3 x4 x13 (wrap64 (x14 + 1)) x209000 x209001 x209002 x209003 x210000 x210001 x210002 x210003 x210004 x210005 x210006 x210007 x210008 x211000 x211001 x211002)
def spec_l03Item.l2 : Nat → Int → Int → Int → Int → Int → Int → Int → Int → Int → Int → List Int → Int → Int → Int → Int → Int → Int → Int → List Int → List Int → Int → Int → Int → Option (Int)
  | 0, _, _, _, _, _, _, _, _, _, _, _, _, _, _, _, _, _, _, _, _, _, _, _ => none
  | k + 1, x2, x3, x4, x13, x14, x15, x16, x209000, x209001, x209002, x209003, x210000, x210001, x210002, x210003, x210004, x210005, x210006, x210007, x210008, x211000, x211001, x211002 => if x16 < x211002 then ((spec_ItemAt.f k x209000 x209001 x209002 x209003 (wrap64 ((wrap64 (x2 * x210003)) + x14)) (wrap64 ((wrap64 (x3 * x210003)) + x15)) x16).bind fun bt220 => (if 0 ≤ (wrap64 ((wrap64 ((wrap64 ((wrap64 ((wrap64 ((wrap64 (x4 * x210002)) + x14)) * x210002)) + x15)) * x211002)) + x16)) then (if (wrap64 ((wrap64 ((wrap64 ((wrap64 ((wrap64 ((wrap64 (x4 * x210002)) + x14)) * x210002)) + x15)) * x211002)) + x16)) < (x210007.length : Int) then ((spec_AddSat.f k x13 (wrap64 (bt220.1 * (rd x210007 (wrap64 ((wrap64 ((wrap64 ((wrap64 ((wrap64 ((wrap64 (x4 * x210002)) + x14)) * x210002)) + x15)) * x211002)) + x16)))))).bind fun t223 => (spec_l03Item.l2 k x2 x3 x4 t223 x14 x15 (wrap64 (x16 + 1)) x209000 x209001 x209002 x209003 x210000 x210001 x210002 x210003 x210004 x210005 x210006 x210007 x210008 x211000 x211001 x211002)) else (none)) else (none))) else (spec_l03Item.l1 k x2 x3 x4 x13 x14 (wrap64 (x15 + 1)) x209000 x209001 x209002 x209003 x210000 x210001 x210002 x210003 x210004 x210005 x210006 x210007 x210008 x211000 x211001 x211002)
def spec_l03Item.l3 : Nat → List Int → Int → Int → Option (Int)
  | 0, _, _, _ => none
  | k + 1, x19, x20, x21 => if x21 < (x19.length : Int) then (if 0 ≤ x21 then (if (rd x19 x21) > x20 then (spec_l03Item.l3 k x19 (rd x19 x21) (wrap64 (x21 + 1))) else (spec_l03Item.l3 k x19 x20 (wrap64 (x21 + 1)))) else (none)) else (some x20)
def spec_l03Item.l4 : Nat → List Int → Int → Int → Option (Int)
  | 0, _, _, _ => none
  | k + 1, x22, x23, x24 => if x24 < (x22.length : Int) then (if 0 ≤ x24 then (spec_l03Item.l4 k x22 (wrap64 (x23 + (rd x22 x24))) (wrap64 (x24 + 1))) else (none)) else (if x23 < 0 then (if (wrap64 (2 * (x22.length : Int))) = 0 then (none) else (some (wrap64 (-(wrap64 (Int.tdiv (wrap64 ((wrap64 ((-2) * x23)) + (x22.length : Int))) (wrap64 (2 * (x22.length : Int))))))))) else (if (wrap64 (2 * (x22.length : Int))) = 0 then (none) else (some (wrap64 (Int.tdiv (wrap64 ((wrap64 (2 * x23)) + (x22.length : Int))) (wrap64 (2 * (x22.length : Int))))))))
end
def spec_l03Item.f (k : Nat) (a0_0 : Int) (a0_1 : Int) (a0_2 : Int) (l0_3 : List Int) (a1_0 : Int) (a1_1 : Int) (a1_2 : Int) (a1_3 : Int) (a1_4 : Int) (a1_5 : Int) (a1_6 : Int) (l1_7 : List Int) (l1_8 : List Int) (a2 : Int) (a3 : Int) (a4 : Int) : Option (Int) := if a1_0 = 0 then ((spec_SizeOf.f a0_0 a0_1 a0_2).bind fun t211 => (if 0 ≤ (wrap64 (a4 * t211)) then (if (wrap64 (a4 * t211)) ≤ (wrap64 ((wrap64 (a4 * t211)) + t211)) then (if (wrap64 ((wrap64 (a4 * t211)) + t211)) ≤ (l1_7.length : Int) then ((spec_DotOf.f k l0_3 ((l1_7.take ((wrap64 ((wrap64 (a4 * t211)) + t211)) : Int).toNat).drop ((wrap64 (a4 * t211)) : Int).toNat)).bind fun t213 => (if 0 ≤ a4 then (if a4 < (l1_8.length : Int) then ((spec_AddSat.f k t213 (rd l1_8 a4)).bind fun t215 => ((spec_Requant.f k t215 a1_4 a1_5 a1_6).bind fun t216 => (some t216))) else (none)) else (none))) else (none)) else (none)) else (none))) else (if a1_0 = 1 then (spec_l03Item.l0 k a2 a3 a4 0 0 a0_0 a0_1 a0_2 l0_3 a1_0 a1_1 a1_2 a1_3 a1_4 a1_5 a1_6 l1_7 l1_8 a0_0 a0_1 a0_2) else (if a1_0 = 2 then ((spec_l03Pool.f k a0_0 a0_1 a0_2 l0_3 a1_0 a1_1 a1_2 a1_3 a1_4 a1_5 a1_6 l1_7 l1_8 a2 a3 a4).bind fun t224 => (if 0 < (t224.length : Int) then (spec_l03Item.l3 k t224 (rd t224 0) 1) else (none))) else (if a1_0 = 3 then ((spec_l03Pool.f k a0_0 a0_1 a0_2 l0_3 a1_0 a1_1 a1_2 a1_3 a1_4 a1_5 a1_6 l1_7 l1_8 a2 a3 a4).bind fun t230 => (spec_l03Item.l4 k t230 0 0)) else (if a1_0 = 4 then ((spec_ItemAt.f k a0_0 a0_1 a0_2 l0_3 a2 a3 a4).bind fun bt234 => (if bt234.1 < a1_6 then (some a1_6) else (some bt234.1))) else (if 0 ≤ a4 then (if a4 < (l0_3.length : Int) then (some (rd l0_3 a4)) else (none)) else (none))))))
set_option maxHeartbeats 8000000 in
set_option maxRecDepth 100000 in
theorem spec_l03Item.calls (k : Nat) (a0_0 : Int) (a0_1 : Int) (a0_2 : Int) (A0_3 : Option Addr) (c0_3 : Nat) (l0_3 : List Int) (a1_0 : Int) (a1_1 : Int) (a1_2 : Int) (a1_3 : Int) (a1_4 : Int) (a1_5 : Int) (a1_6 : Int) (A1_7 : Option Addr) (c1_7 : Nat) (l1_7 : List Int) (A1_8 : Option Addr) (c1_8 : Nat) (l1_8 : List Int) (a2 : Int) (a3 : Int) (a4 : Int) (r : Int) (w : World) (hr0_3 : Kd.C (Kd.int .i64) w A0_3 l0_3.length l0_3) (hc0_3 : l0_3.length ≤ c0_3) (hr1_7 : Kd.C (Kd.int .i64) w A1_7 l1_7.length l1_7) (hc1_7 : l1_7.length ≤ c1_7) (hr1_8 : Kd.C (Kd.int .i64) w A1_8 l1_8.length l1_8) (hc1_8 : l1_8.length ≤ c1_8) (h : spec_l03Item.f k a0_0 a0_1 a0_2 l0_3 a1_0 a1_1 a1_2 a1_3 a1_4 a1_5 a1_6 l1_7 l1_8 a2 a3 a4 = some r) :
   Calls Try.prog 49 #[.agg #[.int .i64 a0_0, .int .i64 a0_1, .int .i64 a0_2, .slice A0_3 l0_3.length c0_3], .agg #[.int .i64 a1_0, .int .i64 a1_1, .int .i64 a1_2, .int .i64 a1_3, .int .i64 a1_4, .int .i64 a1_5, .int .i64 a1_6, .slice A1_7 l1_7.length c1_7, .slice A1_8 l1_8.length c1_8], .int .i64 a2, .int .i64 a3, .int .i64 a4] w fun e w' => e = .returned (.int .i64 r) ∧ Below w.heap.size w w' := by
  have hu33 := Try.underlying33
  have hu37 := Try.underlying37
  have hu31 := Try.underlying31
  have HR0_3 := Aside0.mk hr0_3
  have HC0_3 := Aside0.mk hc0_3
  clear hr0_3 hc0_3
  have HR1_7 := Aside0.mk hr1_7
  have HC1_7 := Aside0.mk hc1_7
  clear hr1_7 hc1_7
  have HR1_8 := Aside0.mk hr1_8
  have HC1_8 := Aside0.mk hc1_8
  clear hr1_8 hc1_8
  have HB := Aside0.mk (Below.refl w.heap.size w)
  have H : (if a1_0 = 0 then ((spec_SizeOf.f a0_0 a0_1 a0_2).bind fun t211 => (if 0 ≤ (wrap64 (a4 * t211)) then (if (wrap64 (a4 * t211)) ≤ (wrap64 ((wrap64 (a4 * t211)) + t211)) then (if (wrap64 ((wrap64 (a4 * t211)) + t211)) ≤ (l1_7.length : Int) then ((spec_DotOf.f k l0_3 ((l1_7.take ((wrap64 ((wrap64 (a4 * t211)) + t211)) : Int).toNat).drop ((wrap64 (a4 * t211)) : Int).toNat)).bind fun t213 => (if 0 ≤ a4 then (if a4 < (l1_8.length : Int) then ((spec_AddSat.f k t213 (rd l1_8 a4)).bind fun t215 => ((spec_Requant.f k t215 a1_4 a1_5 a1_6).bind fun t216 => (some t216))) else (none)) else (none))) else (none)) else (none)) else (none))) else (if a1_0 = 1 then (spec_l03Item.l0 k a2 a3 a4 0 0 a0_0 a0_1 a0_2 l0_3 a1_0 a1_1 a1_2 a1_3 a1_4 a1_5 a1_6 l1_7 l1_8 a0_0 a0_1 a0_2) else (if a1_0 = 2 then ((spec_l03Pool.f k a0_0 a0_1 a0_2 l0_3 a1_0 a1_1 a1_2 a1_3 a1_4 a1_5 a1_6 l1_7 l1_8 a2 a3 a4).bind fun t224 => (if 0 < (t224.length : Int) then (spec_l03Item.l3 k t224 (rd t224 0) 1) else (none))) else (if a1_0 = 3 then ((spec_l03Pool.f k a0_0 a0_1 a0_2 l0_3 a1_0 a1_1 a1_2 a1_3 a1_4 a1_5 a1_6 l1_7 l1_8 a2 a3 a4).bind fun t230 => (spec_l03Item.l4 k t230 0 0)) else (if a1_0 = 4 then ((spec_ItemAt.f k a0_0 a0_1 a0_2 l0_3 a2 a3 a4).bind fun bt234 => (if bt234.1 < a1_6 then (some a1_6) else (some bt234.1))) else (if 0 ≤ a4 then (if a4 < (l0_3.length : Int) then (some (rd l0_3 a4)) else (none)) else (none))))))) = some r := h
  clear h
  by_cases c6 : a1_0 = 0
  ·rw [if_pos c6] at H
   have c6b0 : (a1_0 == 0) = true := beq_iff_eq.mpr c6
   have c6b1 : (a1_0 != 0) = false := bne_eq_false_iff_eq.mpr c6
   clear c6
   replace H := Option.bind_eq_some_iff.mp H
   obtain ⟨t211, A70, H⟩ := H
   (try dsimp only at H)
   have A7 := Aside0.mk A70
   clear A70
   obtain ⟨ji8, hji8⟩ : ∃ j_ : Int, (wrap64 (a4 * t211)) = j_ := ⟨_, rfl⟩
   replace H : (if 0 ≤ (ji8) then (if (ji8) ≤ (wrap64 ((ji8) + t211)) then (if (wrap64 ((ji8) + t211)) ≤ (l1_7.length : Int) then ((spec_DotOf.f k l0_3 ((l1_7.take ((wrap64 ((ji8) + t211)) : Int).toNat).drop ((ji8) : Int).toNat)).bind fun t213 => (if 0 ≤ a4 then (if a4 < (l1_8.length : Int) then ((spec_AddSat.f k t213 (rd l1_8 a4)).bind fun t215 => ((spec_Requant.f k t215 a1_4 a1_5 a1_6).bind fun t216 => (some t216))) else (none)) else (none))) else (none)) else (none)) else (none)) = some r := by first | (rw [hji8] at H; exact H) | (simp only [hji8] at H ⊢; exact H)
   (try rw [hji8] at A7)
   have hji8w : (IntKind.i64.wrap (a4 * t211)) = ji8 := (i64_w _).trans hji8
   by_cases c9 : 0 ≤ (ji8)
   rotate_left
   ·rw [if_neg c9] at H
    exact absurd H (by simp)
   rw [if_pos c9] at H
   have c9b0 := eq_true c9
   have c9b1 : decide (0 ≤ (ji8)) = true := decide_eq_true c9
   clear c9
   by_cases c10 : (ji8) ≤ (wrap64 ((ji8) + t211))
   rotate_left
   ·rw [if_neg c10] at H
    exact absurd H (by simp)
   rw [if_pos c10] at H
   have c10b0 := eq_true c10
   have c10b1 : decide ((ji8) ≤ (wrap64 ((ji8) + t211))) = true := decide_eq_true c10
   by_cases c11 : (wrap64 ((ji8) + t211)) ≤ (l1_7.length : Int)
   rotate_left
   ·rw [if_neg c11] at H
    exact absurd H (by simp)
   rw [if_pos c11] at H
   have c11b0 := eq_true c11
   have c11b1 : decide ((wrap64 ((ji8) + t211)) ≤ (l1_7.length : Int)) = true := decide_eq_true c11
   replace H := Option.bind_eq_some_iff.mp H
   obtain ⟨t213, A120, H⟩ := H
   (try dsimp only at H)
   have A12 := Aside0.mk A120
   clear A120
   by_cases c13 : 0 ≤ a4
   rotate_left
   ·rw [if_neg c13] at H
    exact absurd H (by simp)
   rw [if_pos c13] at H
   have c13b0 : decide (0 ≤ a4) = true := decide_eq_true c13
   clear c13
   by_cases c14 : a4 < (l1_8.length : Int)
   rotate_left
   ·rw [if_neg c14] at H
    exact absurd H (by simp)
   rw [if_pos c14] at H
   have c14b0 : decide (a4 < (l1_8.length : Int)) = true := decide_eq_true c14
   clear c14
   replace H := Option.bind_eq_some_iff.mp H
   obtain ⟨t215, A150, H⟩ := H
   (try dsimp only at H)
   have A15 := Aside0.mk A150
   clear A150
   replace H := Option.bind_eq_some_iff.mp H
   obtain ⟨t216, A160, H⟩ := H
   (try dsimp only at H)
   have A16 := Aside0.mk A160
   clear A160
   obtain rfl := Option.some.inj H
   have hwz29_ := i64_w (ji8 + t211)
   have HLN29_ := Aside0.mk (show ((l1_7.take ((wrap64 ((ji8) + t211)) : Int).toNat).drop ((ji8) : Int).toNat).length = (wrap64 ((ji8) + t211)).toNat - ji8.toNat from by rw [List.length_drop, List.length_take]; have h_ : wrap64 ((ji8) + t211) ≤ (l1_7.length : Int) := of_decide_eq_true (by first | (with_reducible assumption) | assumption); omega)
   go_enter Try.func49, Try.ntmps49
   go_wp2_with (first | ((with_reducible refine gate_dst (N := 5) rfl ?_); refine boxM 5 #[.int .i64 a0_0, .int .i64 a0_1, .int .i64 a0_2, .slice A0_3 l0_3.length c0_3] 33 ?_; intro gb208 hg w17 BK208 hb; replace HB := box_at w hb hg; obtain ⟨HB, GW208, GE208⟩ := HB; clear hb hg) | ((with_reducible refine gate_dst (N := 6) rfl ?_); refine boxM 6 #[.int .i64 a1_0, .int .i64 a1_1, .int .i64 a1_2, .int .i64 a1_3, .int .i64 a1_4, .int .i64 a1_5, .int .i64 a1_6, .slice A1_7 l1_7.length c1_7, .slice A1_8 l1_8.length c1_8] 37 ?_; intro gb209 hg w18 BK209 hb; replace HB := box_at w hb hg; obtain ⟨HB, GW209, GE209⟩ := HB; replace BK208 := box_on gb208 hb hg; obtain ⟨BK208, NB208_209, NB209_208⟩ := BK208; clear hb hg; have hnb19 := NB208_209.out; have hnc19 := NB209_208.out; obtain ⟨hcz20_0, hcz20_1, hcz20_2, hcz20_3, hfz20_0, hfz20_1, hfz20_2, hfz20_3⟩ := cells4 BK208.out) | ((with_reducible refine gate_dst (N := 11) rfl ?_); refine boxM 11 #[.int .i64 0, .int .i64 0, .int .i64 0] 31 ?_; intro gb210 hg w21 BK210 hb; replace HB := box_at w hb hg; obtain ⟨HB, GW210, GE210⟩ := HB; replace BK208 := box_on gb208 hb hg; obtain ⟨BK208, NB208_210, NB210_208⟩ := BK208; replace BK209 := box_on gb209 hb hg; obtain ⟨BK209, NB209_210, NB210_209⟩ := BK209; clear hb hg; have hnb22 := NB210_208.out; have hnc22 := NB208_210.out; have hnb23 := NB210_209.out; have hnc23 := NB209_210.out; obtain ⟨hcz24_0, hcz24_1, hcz24_2, hfz24_0, hfz24_1, hfz24_2⟩ := cells3 BK210.out; obtain ⟨hcz25_0, hcz25_1, hcz25_2, hcz25_3, hcz25_4, hcz25_5, hcz25_6, hcz25_7, hcz25_8, hfz25_0, hfz25_1, hfz25_2, hfz25_3, hfz25_4, hfz25_5, hfz25_6, hfz25_7, hfz25_8⟩ := cells9 BK209.out) | (go_at_call 73; (with_reducible refine (spec_SizeOf.calls a0_0 a0_1 a0_2 t211 _ A7.out).mono ?_); rintro e w26 ⟨rfl, hb⟩; replace HB := bel_on w hb; replace BK208 := Aside0.mk (blk_below (g := gb208) (o := .cells #[.int .i64 a0_0, .int .i64 a0_1, .int .i64 a0_2, .slice A0_3 l0_3.length c0_3] 33 (0, 0)) (blk_fars BK208.out) hb); replace BK209 := Aside0.mk (blk_below (g := gb209) (o := .cells #[.int .i64 a1_0, .int .i64 a1_1, .int .i64 a1_2, .int .i64 a1_3, .int .i64 a1_4, .int .i64 a1_5, .int .i64 a1_6, .slice A1_7 l1_7.length c1_7, .slice A1_8 l1_8.length c1_8] 37 (0, 0)) (blk_fars BK209.out) hb); replace BK210 := Aside0.mk (blk_below (g := gb210) (o := .cells #[.int .i64 a0_0, .int .i64 a0_1, .int .i64 a0_2] 31 (0, 0)) (blk_fars (puts3 BK210.out)) hb); (try clear hb); obtain ⟨hcz27_0, hcz27_1, hcz27_2, hcz27_3, hfz27_0, hfz27_1, hfz27_2, hfz27_3⟩ := cells4 BK208.out; obtain ⟨hcz28_0, hcz28_1, hcz28_2, hcz28_3, hcz28_4, hcz28_5, hcz28_6, hcz28_7, hcz28_8, hfz28_0, hfz28_1, hfz28_2, hfz28_3, hfz28_4, hfz28_5, hfz28_6, hfz28_7, hfz28_8⟩ := cells9 BK209.out; obtain ⟨i029, hi029, _, hsz29, _⟩ := info_parts info3; obtain ⟨A29, hcut29, hA29, hC29⟩ := print_mid_of (P := Try.prog) (Value.int .i64) 0 24 3 .i64 .i64 Try.underlying24 hi029 hsz29 A1_7 c1_7 l1_7 (ji8) (wrap64 ((ji8) + t211)) (of_decide_eq_true (by first | (with_reducible assumption) | assumption)) (by first | omega | exact of_decide_eq_true (by first | (with_reducible assumption) | assumption)) (of_decide_eq_true (by first | (with_reducible assumption) | assumption)) HC1_7.out; have HR212 := Aside0.mk (Kd.C_of_reads (h1 := fun _ => rfl) (hA29 _ (Kd.reads_of_C HR1_7.out))); have HC212 := Aside0.mk hC29; clear hA29 hC29 hi029 hsz29) | (go_at_call 98; refine calls_of_args (args' := #[.slice A0_3 l0_3.length c0_3, .slice A29 ((l1_7.take ((wrap64 ((ji8) + t211)) : Int).toNat).drop ((ji8) : Int).toNat).length (c1_7 - ji8.toNat)]) (by rw [HLN29_.out]) ?_; (with_reducible refine (spec_DotOf.calls k _ _ l0_3 _ _ ((l1_7.take ((wrap64 ((ji8) + t211)) : Int).toNat).drop ((ji8) : Int).toNat) t213 _ ?side1 ?side2 ?side3 ?side4 A12.out).mono ?_); (case side1 => exact C_now HR0_3.out); (case side2 => exact HC0_3.out); (case side3 => exact C_now HR212.out); (case side4 => exact HC212.out); rintro e w' ⟨rfl, ⟨nd, rfl⟩⟩; (try first | exact ⟨rfl, _, World.drewN_drewN _ _ _⟩ | exact ⟨rfl, _, Eq.trans (World.drewN_drewN _ _ _) (congrArg (World.drewN _) (Nat.add_assoc _ _ _))⟩); have p214 : 0 ≤ (a4 : Int) := of_decide_eq_true (by first | (with_reducible assumption) | assumption); have q214 : a4 < (l1_8.length : Int) := of_decide_eq_true (by first | (with_reducible assumption) | assumption); obtain ⟨ad214, e214, hx214_0⟩ := Kd.at_int HR1_8.out a4 p214 q214; cases e214; replace hx214_0 := (HB.out.cell (World.block_lt_of_cell? w _ hx214_0)).trans hx214_0; replace p214 := eq_true p214; replace q214 := eq_true q214) | (go_at_call 97; (with_reducible refine (spec_AddSat.calls k t213 (rd l1_8 a4) t215 _ A15.out).mono ?_); rintro e w' ⟨rfl, ⟨nd, rfl⟩⟩; (try first | exact ⟨rfl, _, World.drewN_drewN _ _ _⟩ | exact ⟨rfl, _, Eq.trans (World.drewN_drewN _ _ _) (congrArg (World.drewN _) (Nat.add_assoc _ _ _))⟩)) | (go_at_call 96; (with_reducible refine (spec_Requant.calls k t215 a1_4 a1_5 a1_6 t216 _ A16.out).mono ?_); rintro e w' ⟨rfl, ⟨nd, rfl⟩⟩; (try first | exact ⟨rfl, _, World.drewN_drewN _ _ _⟩ | exact ⟨rfl, _, Eq.trans (World.drewN_drewN _ _ _) (congrArg (World.drewN _) (Nat.add_assoc _ _ _))⟩)))
   repeat (go_quiet (first | ((with_reducible refine gate_dst (N := 5) rfl ?_); refine boxM 5 #[.int .i64 a0_0, .int .i64 a0_1, .int .i64 a0_2, .slice A0_3 l0_3.length c0_3] 33 ?_; intro gb208 hg w17 BK208 hb; replace HB := box_at w hb hg; obtain ⟨HB, GW208, GE208⟩ := HB; clear hb hg) | ((with_reducible refine gate_dst (N := 6) rfl ?_); refine boxM 6 #[.int .i64 a1_0, .int .i64 a1_1, .int .i64 a1_2, .int .i64 a1_3, .int .i64 a1_4, .int .i64 a1_5, .int .i64 a1_6, .slice A1_7 l1_7.length c1_7, .slice A1_8 l1_8.length c1_8] 37 ?_; intro gb209 hg w18 BK209 hb; replace HB := box_at w hb hg; obtain ⟨HB, GW209, GE209⟩ := HB; replace BK208 := box_on gb208 hb hg; obtain ⟨BK208, NB208_209, NB209_208⟩ := BK208; clear hb hg; have hnb19 := NB208_209.out; have hnc19 := NB209_208.out; obtain ⟨hcz20_0, hcz20_1, hcz20_2, hcz20_3, hfz20_0, hfz20_1, hfz20_2, hfz20_3⟩ := cells4 BK208.out) | ((with_reducible refine gate_dst (N := 11) rfl ?_); refine boxM 11 #[.int .i64 0, .int .i64 0, .int .i64 0] 31 ?_; intro gb210 hg w21 BK210 hb; replace HB := box_at w hb hg; obtain ⟨HB, GW210, GE210⟩ := HB; replace BK208 := box_on gb208 hb hg; obtain ⟨BK208, NB208_210, NB210_208⟩ := BK208; replace BK209 := box_on gb209 hb hg; obtain ⟨BK209, NB209_210, NB210_209⟩ := BK209; clear hb hg; have hnb22 := NB210_208.out; have hnc22 := NB208_210.out; have hnb23 := NB210_209.out; have hnc23 := NB209_210.out; obtain ⟨hcz24_0, hcz24_1, hcz24_2, hfz24_0, hfz24_1, hfz24_2⟩ := cells3 BK210.out; obtain ⟨hcz25_0, hcz25_1, hcz25_2, hcz25_3, hcz25_4, hcz25_5, hcz25_6, hcz25_7, hcz25_8, hfz25_0, hfz25_1, hfz25_2, hfz25_3, hfz25_4, hfz25_5, hfz25_6, hfz25_7, hfz25_8⟩ := cells9 BK209.out) | (go_at_call 73; (with_reducible refine (spec_SizeOf.calls a0_0 a0_1 a0_2 t211 _ A7.out).mono ?_); rintro e w26 ⟨rfl, hb⟩; replace HB := bel_on w hb; replace BK208 := Aside0.mk (blk_below (g := gb208) (o := .cells #[.int .i64 a0_0, .int .i64 a0_1, .int .i64 a0_2, .slice A0_3 l0_3.length c0_3] 33 (0, 0)) (blk_fars BK208.out) hb); replace BK209 := Aside0.mk (blk_below (g := gb209) (o := .cells #[.int .i64 a1_0, .int .i64 a1_1, .int .i64 a1_2, .int .i64 a1_3, .int .i64 a1_4, .int .i64 a1_5, .int .i64 a1_6, .slice A1_7 l1_7.length c1_7, .slice A1_8 l1_8.length c1_8] 37 (0, 0)) (blk_fars BK209.out) hb); replace BK210 := Aside0.mk (blk_below (g := gb210) (o := .cells #[.int .i64 a0_0, .int .i64 a0_1, .int .i64 a0_2] 31 (0, 0)) (blk_fars (puts3 BK210.out)) hb); (try clear hb); obtain ⟨hcz27_0, hcz27_1, hcz27_2, hcz27_3, hfz27_0, hfz27_1, hfz27_2, hfz27_3⟩ := cells4 BK208.out; obtain ⟨hcz28_0, hcz28_1, hcz28_2, hcz28_3, hcz28_4, hcz28_5, hcz28_6, hcz28_7, hcz28_8, hfz28_0, hfz28_1, hfz28_2, hfz28_3, hfz28_4, hfz28_5, hfz28_6, hfz28_7, hfz28_8⟩ := cells9 BK209.out; obtain ⟨i029, hi029, _, hsz29, _⟩ := info_parts info3; obtain ⟨A29, hcut29, hA29, hC29⟩ := print_mid_of (P := Try.prog) (Value.int .i64) 0 24 3 .i64 .i64 Try.underlying24 hi029 hsz29 A1_7 c1_7 l1_7 (ji8) (wrap64 ((ji8) + t211)) (of_decide_eq_true (by first | (with_reducible assumption) | assumption)) (by first | omega | exact of_decide_eq_true (by first | (with_reducible assumption) | assumption)) (of_decide_eq_true (by first | (with_reducible assumption) | assumption)) HC1_7.out; have HR212 := Aside0.mk (Kd.C_of_reads (h1 := fun _ => rfl) (hA29 _ (Kd.reads_of_C HR1_7.out))); have HC212 := Aside0.mk hC29; clear hA29 hC29 hi029 hsz29) | (go_at_call 98; refine calls_of_args (args' := #[.slice A0_3 l0_3.length c0_3, .slice A29 ((l1_7.take ((wrap64 ((ji8) + t211)) : Int).toNat).drop ((ji8) : Int).toNat).length (c1_7 - ji8.toNat)]) (by rw [HLN29_.out]) ?_; (with_reducible refine (spec_DotOf.calls k _ _ l0_3 _ _ ((l1_7.take ((wrap64 ((ji8) + t211)) : Int).toNat).drop ((ji8) : Int).toNat) t213 _ ?side1 ?side2 ?side3 ?side4 A12.out).mono ?_); (case side1 => exact C_now HR0_3.out); (case side2 => exact HC0_3.out); (case side3 => exact C_now HR212.out); (case side4 => exact HC212.out); rintro e w' ⟨rfl, ⟨nd, rfl⟩⟩; (try first | exact ⟨rfl, _, World.drewN_drewN _ _ _⟩ | exact ⟨rfl, _, Eq.trans (World.drewN_drewN _ _ _) (congrArg (World.drewN _) (Nat.add_assoc _ _ _))⟩); have p214 : 0 ≤ (a4 : Int) := of_decide_eq_true (by first | (with_reducible assumption) | assumption); have q214 : a4 < (l1_8.length : Int) := of_decide_eq_true (by first | (with_reducible assumption) | assumption); obtain ⟨ad214, e214, hx214_0⟩ := Kd.at_int HR1_8.out a4 p214 q214; cases e214; replace hx214_0 := (HB.out.cell (World.block_lt_of_cell? w _ hx214_0)).trans hx214_0; replace p214 := eq_true p214; replace q214 := eq_true q214) | (go_at_call 97; (with_reducible refine (spec_AddSat.calls k t213 (rd l1_8 a4) t215 _ A15.out).mono ?_); rintro e w' ⟨rfl, ⟨nd, rfl⟩⟩; (try first | exact ⟨rfl, _, World.drewN_drewN _ _ _⟩ | exact ⟨rfl, _, Eq.trans (World.drewN_drewN _ _ _) (congrArg (World.drewN _) (Nat.add_assoc _ _ _))⟩)) | (go_at_call 96; (with_reducible refine (spec_Requant.calls k t215 a1_4 a1_5 a1_6 t216 _ A16.out).mono ?_); rintro e w' ⟨rfl, ⟨nd, rfl⟩⟩; (try first | exact ⟨rfl, _, World.drewN_drewN _ _ _⟩ | exact ⟨rfl, _, Eq.trans (World.drewN_drewN _ _ _) (congrArg (World.drewN _) (Nat.add_assoc _ _ _))⟩))); try go_wp2_with (first | ((with_reducible refine gate_dst (N := 5) rfl ?_); refine boxM 5 #[.int .i64 a0_0, .int .i64 a0_1, .int .i64 a0_2, .slice A0_3 l0_3.length c0_3] 33 ?_; intro gb208 hg w17 BK208 hb; replace HB := box_at w hb hg; obtain ⟨HB, GW208, GE208⟩ := HB; clear hb hg) | ((with_reducible refine gate_dst (N := 6) rfl ?_); refine boxM 6 #[.int .i64 a1_0, .int .i64 a1_1, .int .i64 a1_2, .int .i64 a1_3, .int .i64 a1_4, .int .i64 a1_5, .int .i64 a1_6, .slice A1_7 l1_7.length c1_7, .slice A1_8 l1_8.length c1_8] 37 ?_; intro gb209 hg w18 BK209 hb; replace HB := box_at w hb hg; obtain ⟨HB, GW209, GE209⟩ := HB; replace BK208 := box_on gb208 hb hg; obtain ⟨BK208, NB208_209, NB209_208⟩ := BK208; clear hb hg; have hnb19 := NB208_209.out; have hnc19 := NB209_208.out; obtain ⟨hcz20_0, hcz20_1, hcz20_2, hcz20_3, hfz20_0, hfz20_1, hfz20_2, hfz20_3⟩ := cells4 BK208.out) | ((with_reducible refine gate_dst (N := 11) rfl ?_); refine boxM 11 #[.int .i64 0, .int .i64 0, .int .i64 0] 31 ?_; intro gb210 hg w21 BK210 hb; replace HB := box_at w hb hg; obtain ⟨HB, GW210, GE210⟩ := HB; replace BK208 := box_on gb208 hb hg; obtain ⟨BK208, NB208_210, NB210_208⟩ := BK208; replace BK209 := box_on gb209 hb hg; obtain ⟨BK209, NB209_210, NB210_209⟩ := BK209; clear hb hg; have hnb22 := NB210_208.out; have hnc22 := NB208_210.out; have hnb23 := NB210_209.out; have hnc23 := NB209_210.out; obtain ⟨hcz24_0, hcz24_1, hcz24_2, hfz24_0, hfz24_1, hfz24_2⟩ := cells3 BK210.out; obtain ⟨hcz25_0, hcz25_1, hcz25_2, hcz25_3, hcz25_4, hcz25_5, hcz25_6, hcz25_7, hcz25_8, hfz25_0, hfz25_1, hfz25_2, hfz25_3, hfz25_4, hfz25_5, hfz25_6, hfz25_7, hfz25_8⟩ := cells9 BK209.out) | (go_at_call 73; (with_reducible refine (spec_SizeOf.calls a0_0 a0_1 a0_2 t211 _ A7.out).mono ?_); rintro e w26 ⟨rfl, hb⟩; replace HB := bel_on w hb; replace BK208 := Aside0.mk (blk_below (g := gb208) (o := .cells #[.int .i64 a0_0, .int .i64 a0_1, .int .i64 a0_2, .slice A0_3 l0_3.length c0_3] 33 (0, 0)) (blk_fars BK208.out) hb); replace BK209 := Aside0.mk (blk_below (g := gb209) (o := .cells #[.int .i64 a1_0, .int .i64 a1_1, .int .i64 a1_2, .int .i64 a1_3, .int .i64 a1_4, .int .i64 a1_5, .int .i64 a1_6, .slice A1_7 l1_7.length c1_7, .slice A1_8 l1_8.length c1_8] 37 (0, 0)) (blk_fars BK209.out) hb); replace BK210 := Aside0.mk (blk_below (g := gb210) (o := .cells #[.int .i64 a0_0, .int .i64 a0_1, .int .i64 a0_2] 31 (0, 0)) (blk_fars (puts3 BK210.out)) hb); (try clear hb); obtain ⟨hcz27_0, hcz27_1, hcz27_2, hcz27_3, hfz27_0, hfz27_1, hfz27_2, hfz27_3⟩ := cells4 BK208.out; obtain ⟨hcz28_0, hcz28_1, hcz28_2, hcz28_3, hcz28_4, hcz28_5, hcz28_6, hcz28_7, hcz28_8, hfz28_0, hfz28_1, hfz28_2, hfz28_3, hfz28_4, hfz28_5, hfz28_6, hfz28_7, hfz28_8⟩ := cells9 BK209.out; obtain ⟨i029, hi029, _, hsz29, _⟩ := info_parts info3; obtain ⟨A29, hcut29, hA29, hC29⟩ := print_mid_of (P := Try.prog) (Value.int .i64) 0 24 3 .i64 .i64 Try.underlying24 hi029 hsz29 A1_7 c1_7 l1_7 (ji8) (wrap64 ((ji8) + t211)) (of_decide_eq_true (by first | (with_reducible assumption) | assumption)) (by first | omega | exact of_decide_eq_true (by first | (with_reducible assumption) | assumption)) (of_decide_eq_true (by first | (with_reducible assumption) | assumption)) HC1_7.out; have HR212 := Aside0.mk (Kd.C_of_reads (h1 := fun _ => rfl) (hA29 _ (Kd.reads_of_C HR1_7.out))); have HC212 := Aside0.mk hC29; clear hA29 hC29 hi029 hsz29) | (go_at_call 98; refine calls_of_args (args' := #[.slice A0_3 l0_3.length c0_3, .slice A29 ((l1_7.take ((wrap64 ((ji8) + t211)) : Int).toNat).drop ((ji8) : Int).toNat).length (c1_7 - ji8.toNat)]) (by rw [HLN29_.out]) ?_; (with_reducible refine (spec_DotOf.calls k _ _ l0_3 _ _ ((l1_7.take ((wrap64 ((ji8) + t211)) : Int).toNat).drop ((ji8) : Int).toNat) t213 _ ?side1 ?side2 ?side3 ?side4 A12.out).mono ?_); (case side1 => exact C_now HR0_3.out); (case side2 => exact HC0_3.out); (case side3 => exact C_now HR212.out); (case side4 => exact HC212.out); rintro e w' ⟨rfl, ⟨nd, rfl⟩⟩; (try first | exact ⟨rfl, _, World.drewN_drewN _ _ _⟩ | exact ⟨rfl, _, Eq.trans (World.drewN_drewN _ _ _) (congrArg (World.drewN _) (Nat.add_assoc _ _ _))⟩); have p214 : 0 ≤ (a4 : Int) := of_decide_eq_true (by first | (with_reducible assumption) | assumption); have q214 : a4 < (l1_8.length : Int) := of_decide_eq_true (by first | (with_reducible assumption) | assumption); obtain ⟨ad214, e214, hx214_0⟩ := Kd.at_int HR1_8.out a4 p214 q214; cases e214; replace hx214_0 := (HB.out.cell (World.block_lt_of_cell? w _ hx214_0)).trans hx214_0; replace p214 := eq_true p214; replace q214 := eq_true q214) | (go_at_call 97; (with_reducible refine (spec_AddSat.calls k t213 (rd l1_8 a4) t215 _ A15.out).mono ?_); rintro e w' ⟨rfl, ⟨nd, rfl⟩⟩; (try first | exact ⟨rfl, _, World.drewN_drewN _ _ _⟩ | exact ⟨rfl, _, Eq.trans (World.drewN_drewN _ _ _) (congrArg (World.drewN _) (Nat.add_assoc _ _ _))⟩)) | (go_at_call 96; (with_reducible refine (spec_Requant.calls k t215 a1_4 a1_5 a1_6 t216 _ A16.out).mono ?_); rintro e w' ⟨rfl, ⟨nd, rfl⟩⟩; (try first | exact ⟨rfl, _, World.drewN_drewN _ _ _⟩ | exact ⟨rfl, _, Eq.trans (World.drewN_drewN _ _ _) (congrArg (World.drewN _) (Nat.add_assoc _ _ _))⟩))))
   go_ret
   exact ⟨by first | rfl | (simp [errW_none, errW_some] <;> rfl) | (simp only [← hji8]; first | rfl | (simp [errW_none, errW_some] <;> rfl)) | (simp [*, errW_none, errW_some] <;> rfl), bel_now⟩
  rw [if_neg c6] at H
  have c6b0 : (a1_0 == 0) = false := beq_eq_false_iff_ne.mpr c6
  have c6b1 : (a1_0 != 0) = true := bne_iff_ne.mpr c6
  by_cases c30 : a1_0 = 1
  ·rw [if_pos c30] at H
   have c30b0 : (a1_0 == 1) = true := beq_iff_eq.mpr c30
   have c30b1 : (a1_0 != 1) = false := bne_eq_false_iff_eq.mpr c30
   clear c30
   have H' := Aside0.mk H
   clear H
   go_enter Try.func49, Try.ntmps49
   go_wp2_with (first | ((with_reducible refine gate_dst (N := 5) rfl ?_); refine boxM 5 #[.int .i64 a0_0, .int .i64 a0_1, .int .i64 a0_2, .slice A0_3 l0_3.length c0_3] 33 ?_; intro gb208 hg w31 BK208 hb; replace HB := box_at w hb hg; obtain ⟨HB, GW208, GE208⟩ := HB; clear hb hg) | ((with_reducible refine gate_dst (N := 6) rfl ?_); refine boxM 6 #[.int .i64 a1_0, .int .i64 a1_1, .int .i64 a1_2, .int .i64 a1_3, .int .i64 a1_4, .int .i64 a1_5, .int .i64 a1_6, .slice A1_7 l1_7.length c1_7, .slice A1_8 l1_8.length c1_8] 37 ?_; intro gb209 hg w32 BK209 hb; replace HB := box_at w hb hg; obtain ⟨HB, GW209, GE209⟩ := HB; replace BK208 := box_on gb208 hb hg; obtain ⟨BK208, NB208_209, NB209_208⟩ := BK208; clear hb hg; have hnb33 := NB208_209.out; have hnc33 := NB209_208.out; obtain ⟨hcz34_0, hcz34_1, hcz34_2, hcz34_3, hfz34_0, hfz34_1, hfz34_2, hfz34_3⟩ := cells4 BK208.out) | ((with_reducible refine gate_dst (N := 11) rfl ?_); refine boxM 11 #[.int .i64 0, .int .i64 0, .int .i64 0] 31 ?_; intro gb210 hg w35 BK210 hb; replace HB := box_at w hb hg; obtain ⟨HB, GW210, GE210⟩ := HB; replace BK208 := box_on gb208 hb hg; obtain ⟨BK208, NB208_210, NB210_208⟩ := BK208; replace BK209 := box_on gb209 hb hg; obtain ⟨BK209, NB209_210, NB210_209⟩ := BK209; clear hb hg; have hnb36 := NB210_208.out; have hnc36 := NB208_210.out; have hnb37 := NB210_209.out; have hnc37 := NB209_210.out; obtain ⟨hcz38_0, hcz38_1, hcz38_2, hfz38_0, hfz38_1, hfz38_2⟩ := cells3 BK210.out; obtain ⟨hcz39_0, hcz39_1, hcz39_2, hcz39_3, hcz39_4, hcz39_5, hcz39_6, hcz39_7, hcz39_8, hfz39_0, hfz39_1, hfz39_2, hfz39_3, hfz39_4, hfz39_5, hfz39_6, hfz39_7, hfz39_8⟩ := cells9 BK209.out))
   repeat (go_quiet (first | ((with_reducible refine gate_dst (N := 5) rfl ?_); refine boxM 5 #[.int .i64 a0_0, .int .i64 a0_1, .int .i64 a0_2, .slice A0_3 l0_3.length c0_3] 33 ?_; intro gb208 hg w31 BK208 hb; replace HB := box_at w hb hg; obtain ⟨HB, GW208, GE208⟩ := HB; clear hb hg) | ((with_reducible refine gate_dst (N := 6) rfl ?_); refine boxM 6 #[.int .i64 a1_0, .int .i64 a1_1, .int .i64 a1_2, .int .i64 a1_3, .int .i64 a1_4, .int .i64 a1_5, .int .i64 a1_6, .slice A1_7 l1_7.length c1_7, .slice A1_8 l1_8.length c1_8] 37 ?_; intro gb209 hg w32 BK209 hb; replace HB := box_at w hb hg; obtain ⟨HB, GW209, GE209⟩ := HB; replace BK208 := box_on gb208 hb hg; obtain ⟨BK208, NB208_209, NB209_208⟩ := BK208; clear hb hg; have hnb33 := NB208_209.out; have hnc33 := NB209_208.out; obtain ⟨hcz34_0, hcz34_1, hcz34_2, hcz34_3, hfz34_0, hfz34_1, hfz34_2, hfz34_3⟩ := cells4 BK208.out) | ((with_reducible refine gate_dst (N := 11) rfl ?_); refine boxM 11 #[.int .i64 0, .int .i64 0, .int .i64 0] 31 ?_; intro gb210 hg w35 BK210 hb; replace HB := box_at w hb hg; obtain ⟨HB, GW210, GE210⟩ := HB; replace BK208 := box_on gb208 hb hg; obtain ⟨BK208, NB208_210, NB210_208⟩ := BK208; replace BK209 := box_on gb209 hb hg; obtain ⟨BK209, NB209_210, NB210_209⟩ := BK209; clear hb hg; have hnb36 := NB210_208.out; have hnc36 := NB208_210.out; have hnb37 := NB210_209.out; have hnc37 := NB209_210.out; obtain ⟨hcz38_0, hcz38_1, hcz38_2, hfz38_0, hfz38_1, hfz38_2⟩ := cells3 BK210.out; obtain ⟨hcz39_0, hcz39_1, hcz39_2, hcz39_3, hcz39_4, hcz39_5, hcz39_6, hcz39_7, hcz39_8, hfz39_0, hfz39_1, hfz39_2, hfz39_3, hfz39_4, hfz39_5, hfz39_6, hfz39_7, hfz39_8⟩ := cells9 BK209.out)); try go_wp2_with (first | ((with_reducible refine gate_dst (N := 5) rfl ?_); refine boxM 5 #[.int .i64 a0_0, .int .i64 a0_1, .int .i64 a0_2, .slice A0_3 l0_3.length c0_3] 33 ?_; intro gb208 hg w31 BK208 hb; replace HB := box_at w hb hg; obtain ⟨HB, GW208, GE208⟩ := HB; clear hb hg) | ((with_reducible refine gate_dst (N := 6) rfl ?_); refine boxM 6 #[.int .i64 a1_0, .int .i64 a1_1, .int .i64 a1_2, .int .i64 a1_3, .int .i64 a1_4, .int .i64 a1_5, .int .i64 a1_6, .slice A1_7 l1_7.length c1_7, .slice A1_8 l1_8.length c1_8] 37 ?_; intro gb209 hg w32 BK209 hb; replace HB := box_at w hb hg; obtain ⟨HB, GW209, GE209⟩ := HB; replace BK208 := box_on gb208 hb hg; obtain ⟨BK208, NB208_209, NB209_208⟩ := BK208; clear hb hg; have hnb33 := NB208_209.out; have hnc33 := NB209_208.out; obtain ⟨hcz34_0, hcz34_1, hcz34_2, hcz34_3, hfz34_0, hfz34_1, hfz34_2, hfz34_3⟩ := cells4 BK208.out) | ((with_reducible refine gate_dst (N := 11) rfl ?_); refine boxM 11 #[.int .i64 0, .int .i64 0, .int .i64 0] 31 ?_; intro gb210 hg w35 BK210 hb; replace HB := box_at w hb hg; obtain ⟨HB, GW210, GE210⟩ := HB; replace BK208 := box_on gb208 hb hg; obtain ⟨BK208, NB208_210, NB210_208⟩ := BK208; replace BK209 := box_on gb209 hb hg; obtain ⟨BK209, NB209_210, NB210_209⟩ := BK209; clear hb hg; have hnb36 := NB210_208.out; have hnc36 := NB208_210.out; have hnb37 := NB210_209.out; have hnc37 := NB209_210.out; obtain ⟨hcz38_0, hcz38_1, hcz38_2, hfz38_0, hfz38_1, hfz38_2⟩ := cells3 BK210.out; obtain ⟨hcz39_0, hcz39_1, hcz39_2, hcz39_3, hcz39_4, hcz39_5, hcz39_6, hcz39_7, hcz39_8, hfz39_0, hfz39_1, hfz39_2, hfz39_3, hfz39_4, hfz39_5, hfz39_6, hfz39_7, hfz39_8⟩ := cells9 BK209.out)))
   go_loopg [13, 14] k (fun kq v13 v14 w' => ∃ (x13_1 : Int) (x14_1 : Int), v13 = .int .i64 x13_1 ∧ v14 = .int .i64 x14_1 ∧ Aside0 (spec_l03Item.l0 kq a2 a3 a4 x13_1 x14_1 a0_0 a0_1 a0_2 l0_3 a1_0 a1_1 a1_2 a1_3 a1_4 a1_5 a1_6 l1_7 l1_8 a0_0 a0_1 a0_2 = some r) ∧ Aside0 (kq ≤ k) ∧ Aside0 (w'.heap[gb208]? = some (.cells #[.int .i64 a0_0, .int .i64 a0_1, .int .i64 a0_2, (.slice A0_3 l0_3.length c0_3)] 33 (0, 0))) ∧ Aside0 (w'.heap[gb209]? = some (.cells #[.int .i64 a1_0, .int .i64 a1_1, .int .i64 a1_2, .int .i64 a1_3, .int .i64 a1_4, .int .i64 a1_5, .int .i64 a1_6, (.slice A1_7 l1_7.length c1_7), (.slice A1_8 l1_8.length c1_8)] 37 (0, 0))) ∧ Aside0 (w'.heap[gb210]? = some (.cells #[.int .i64 a0_0, .int .i64 a0_1, .int .i64 a0_2] 31 (0, 0))) ∧ Aside0 (Below w.heap.size w w'))
   case atStart => exact ⟨(0), (0), (by first | rfl | (simp; done) | (simp [*]; done)), (by first | rfl | (simp; done) | (simp [*]; done)), H', ⟨Nat.le_refl _⟩, ⟨by (with_reducible repeat (first | refine blk_drewN ?_ _ | refine blk_drew ?_ | refine blk_alloc ?_ _)); refine blk_far ?_ NB208_210.out _; (with_reducible repeat (first | refine blk_drewN ?_ _ | refine blk_drew ?_ | refine blk_alloc ?_ _)); refine blk_far ?_ NB208_210.out _; (with_reducible repeat (first | refine blk_drewN ?_ _ | refine blk_drew ?_ | refine blk_alloc ?_ _)); refine blk_far ?_ NB208_210.out _; (with_reducible repeat (first | refine blk_drewN ?_ _ | refine blk_drew ?_ | refine blk_alloc ?_ _)); exact BK208.out⟩, ⟨by (with_reducible repeat (first | refine blk_drewN ?_ _ | refine blk_drew ?_ | refine blk_alloc ?_ _)); refine blk_far ?_ NB209_210.out _; (with_reducible repeat (first | refine blk_drewN ?_ _ | refine blk_drew ?_ | refine blk_alloc ?_ _)); refine blk_far ?_ NB209_210.out _; (with_reducible repeat (first | refine blk_drewN ?_ _ | refine blk_drew ?_ | refine blk_alloc ?_ _)); refine blk_far ?_ NB209_210.out _; (with_reducible repeat (first | refine blk_drewN ?_ _ | refine blk_drew ?_ | refine blk_alloc ?_ _)); exact BK209.out⟩, ⟨by (with_reducible repeat (first | refine blk_drewN ?_ _ | refine blk_drew ?_ | refine blk_alloc ?_ _)); refine blk_put (cs := #[.int .i64 a0_0, .int .i64 a0_1, .int .i64 0]) ?_ 2 _ rfl; (with_reducible repeat (first | refine blk_drewN ?_ _ | refine blk_drew ?_ | refine blk_alloc ?_ _)); refine blk_put (cs := #[.int .i64 a0_0, .int .i64 0, .int .i64 0]) ?_ 1 _ rfl; (with_reducible repeat (first | refine blk_drewN ?_ _ | refine blk_drew ?_ | refine blk_alloc ?_ _)); refine blk_put (cs := #[.int .i64 0, .int .i64 0, .int .i64 0]) ?_ 0 _ rfl; (with_reducible repeat (first | refine blk_drewN ?_ _ | refine blk_drew ?_ | refine blk_alloc ?_ _)); exact BK210.out⟩, ⟨bel_now⟩⟩
   case round =>
    clear H'
    try clear c1
    try clear c2
    try clear p2
    try clear q2
    try clear hx2
    try clear c3
    try clear c4
    try clear c6
    try clear c6b0
    try clear c6b1
    try clear p6
    try clear c9
    try clear c9b0
    try clear c9b1
    try clear c10
    try clear c10b0
    try clear c10b1
    try clear c11
    try clear c11b0
    try clear c11b1
    try clear c13
    try clear c13b0
    try clear c14
    try clear c14b0
    try clear c19
    try clear p21
    try clear q21
    try clear hx21
    try clear c22
    try clear c23
    try clear c30
    try clear c30b0
    try clear c30b1
    try clear c33
    try clear c36
    try clear c37
    try clear hcz20_0 hcz20_1 hcz20_2 hcz20_3 hfz20_0 hfz20_1 hfz20_2 hfz20_3
    try clear hcz24_0 hcz24_1 hcz24_2 hfz24_0 hfz24_1 hfz24_2
    try clear hcz25_0 hcz25_1 hcz25_2 hcz25_3 hcz25_4 hcz25_5 hcz25_6 hcz25_7 hcz25_8 hfz25_0 hfz25_1 hfz25_2 hfz25_3 hfz25_4 hfz25_5 hfz25_6 hfz25_7 hfz25_8
    try clear hcz27_0 hcz27_1 hcz27_2 hcz27_3 hfz27_0 hfz27_1 hfz27_2 hfz27_3
    try clear hcz28_0 hcz28_1 hcz28_2 hcz28_3 hcz28_4 hcz28_5 hcz28_6 hcz28_7 hcz28_8 hfz28_0 hfz28_1 hfz28_2 hfz28_3 hfz28_4 hfz28_5 hfz28_6 hfz28_7 hfz28_8
    try clear hcz34_0 hcz34_1 hcz34_2 hcz34_3 hfz34_0 hfz34_1 hfz34_2 hfz34_3
    try clear hcz38_0 hcz38_1 hcz38_2 hfz38_0 hfz38_1 hfz38_2
    try clear hcz39_0 hcz39_1 hcz39_2 hcz39_3 hcz39_4 hcz39_5 hcz39_6 hcz39_7 hcz39_8 hfz39_0 hfz39_1 hfz39_2 hfz39_3 hfz39_4 hfz39_5 hfz39_6 hfz39_7 hfz39_8
    try clear hx214_0
    try clear p214
    try clear q214
    obtain ⟨x13_1, x14_1, rfl, rfl, HA, HK1, BK208, BK209, BK210, HB⟩ := hrel
    cases gk with
    | zero => exact absurd HA.out (by simp [spec_l03Item.l0])
    | succ k1 =>
     have H := HA.out
     clear HA
     simp only [spec_l03Item.l0] at H
     by_cases c40 : x14_1 < a1_2
     rotate_left
     ·rw [if_neg c40] at H
      have c40b0 : decide (x14_1 < a1_2) = false := decide_eq_false c40
      clear c40
      by_cases c69 : 0 ≤ a4
      rotate_left
      ·rw [if_neg c69] at H
       exact absurd H (by simp)
      rw [if_pos c69] at H
      have c69b0 : decide (0 ≤ a4) = true := decide_eq_true c69
      clear c69
      by_cases c70 : a4 < (l1_8.length : Int)
      rotate_left
      ·rw [if_neg c70] at H
       exact absurd H (by simp)
      rw [if_pos c70] at H
      have c70b0 : decide (a4 < (l1_8.length : Int)) = true := decide_eq_true c70
      clear c70
      replace H := Option.bind_eq_some_iff.mp H
      obtain ⟨t218, A710, H⟩ := H
      (try dsimp only at H)
      have A71 := Aside0.mk A710
      clear A710
      replace H := Option.bind_eq_some_iff.mp H
      obtain ⟨t219, A720, H⟩ := H
      (try dsimp only at H)
      have A72 := Aside0.mk A720
      clear A720
      obtain rfl := Option.some.inj H
      have hnb73 := NB209_208.out
      have hnc73 := NB208_209.out
      have hnb74 := NB209_210.out
      have hnc74 := NB210_209.out
      obtain ⟨hcz75_0, hcz75_1, hcz75_2, hcz75_3, hcz75_4, hcz75_5, hcz75_6, hcz75_7, hcz75_8, hfz75_0, hfz75_1, hfz75_2, hfz75_3, hfz75_4, hfz75_5, hfz75_6, hfz75_7, hfz75_8⟩ := cells9 BK209.out
      have p217 : 0 ≤ (a4 : Int) := of_decide_eq_true (by first | (with_reducible assumption) | assumption)
      have q217 : a4 < (l1_8.length : Int) := of_decide_eq_true (by first | (with_reducible assumption) | assumption)
      obtain ⟨ad217, e217, hx217_0⟩ := Kd.at_int HR1_8.out a4 p217 q217
      cases e217
      replace hx217_0 := (HB.out.cell (World.block_lt_of_cell? w _ hx217_0)).trans hx217_0
      replace p217 := eq_true p217
      replace q217 := eq_true q217
      go_wp2_with (first | (go_at_call 97; (with_reducible refine (spec_AddSat.calls k1 x13_1 (rd l1_8 a4) t218 _ A71.out).mono ?_); rintro e w' ⟨rfl, ⟨nd, rfl⟩⟩; (try first | exact ⟨rfl, _, World.drewN_drewN _ _ _⟩ | exact ⟨rfl, _, Eq.trans (World.drewN_drewN _ _ _) (congrArg (World.drewN _) (Nat.add_assoc _ _ _))⟩)) | (go_at_call 96; (with_reducible refine (spec_Requant.calls k1 t218 a1_4 a1_5 a1_6 t219 _ A72.out).mono ?_); rintro e w' ⟨rfl, ⟨nd, rfl⟩⟩; (try first | exact ⟨rfl, _, World.drewN_drewN _ _ _⟩ | exact ⟨rfl, _, Eq.trans (World.drewN_drewN _ _ _) (congrArg (World.drewN _) (Nat.add_assoc _ _ _))⟩)))
      repeat (go_quiet (first | (go_at_call 97; (with_reducible refine (spec_AddSat.calls k1 x13_1 (rd l1_8 a4) t218 _ A71.out).mono ?_); rintro e w' ⟨rfl, ⟨nd, rfl⟩⟩; (try first | exact ⟨rfl, _, World.drewN_drewN _ _ _⟩ | exact ⟨rfl, _, Eq.trans (World.drewN_drewN _ _ _) (congrArg (World.drewN _) (Nat.add_assoc _ _ _))⟩)) | (go_at_call 96; (with_reducible refine (spec_Requant.calls k1 t218 a1_4 a1_5 a1_6 t219 _ A72.out).mono ?_); rintro e w' ⟨rfl, ⟨nd, rfl⟩⟩; (try first | exact ⟨rfl, _, World.drewN_drewN _ _ _⟩ | exact ⟨rfl, _, Eq.trans (World.drewN_drewN _ _ _) (congrArg (World.drewN _) (Nat.add_assoc _ _ _))⟩))); try go_wp2_with (first | (go_at_call 97; (with_reducible refine (spec_AddSat.calls k1 x13_1 (rd l1_8 a4) t218 _ A71.out).mono ?_); rintro e w' ⟨rfl, ⟨nd, rfl⟩⟩; (try first | exact ⟨rfl, _, World.drewN_drewN _ _ _⟩ | exact ⟨rfl, _, Eq.trans (World.drewN_drewN _ _ _) (congrArg (World.drewN _) (Nat.add_assoc _ _ _))⟩)) | (go_at_call 96; (with_reducible refine (spec_Requant.calls k1 t218 a1_4 a1_5 a1_6 t219 _ A72.out).mono ?_); rintro e w' ⟨rfl, ⟨nd, rfl⟩⟩; (try first | exact ⟨rfl, _, World.drewN_drewN _ _ _⟩ | exact ⟨rfl, _, Eq.trans (World.drewN_drewN _ _ _) (congrArg (World.drewN _) (Nat.add_assoc _ _ _))⟩))))
      go_ret
      exact ⟨eqN, bel_now⟩
     rw [if_pos c40] at H
     have c40b0 : decide (x14_1 < a1_2) = true := decide_eq_true c40
     clear c40
     have H' := Aside0.mk H
     clear H
     have hnb41 := NB209_208.out
     have hnc41 := NB208_209.out
     have hnb42 := NB209_210.out
     have hnc42 := NB210_209.out
     obtain ⟨hcz43_0, hcz43_1, hcz43_2, hcz43_3, hcz43_4, hcz43_5, hcz43_6, hcz43_7, hcz43_8, hfz43_0, hfz43_1, hfz43_2, hfz43_3, hfz43_4, hfz43_5, hfz43_6, hfz43_7, hfz43_8⟩ := cells9 BK209.out
     go_wp2
     repeat (go_quiet (fail); try go_wp2)
     go_loopg [13, 15] k1 (fun kq v13 v15 w' => ∃ (x13_2 : Int) (x15_2 : Int), v13 = .int .i64 x13_2 ∧ v15 = .int .i64 x15_2 ∧ Aside0 (spec_l03Item.l1 kq a2 a3 a4 x13_2 x14_1 x15_2 a0_0 a0_1 a0_2 l0_3 a1_0 a1_1 a1_2 a1_3 a1_4 a1_5 a1_6 l1_7 l1_8 a0_0 a0_1 a0_2 = some r) ∧ Aside0 (kq ≤ k1) ∧ Aside0 (w'.heap[gb208]? = some (.cells #[.int .i64 a0_0, .int .i64 a0_1, .int .i64 a0_2, (.slice A0_3 l0_3.length c0_3)] 33 (0, 0))) ∧ Aside0 (w'.heap[gb209]? = some (.cells #[.int .i64 a1_0, .int .i64 a1_1, .int .i64 a1_2, .int .i64 a1_3, .int .i64 a1_4, .int .i64 a1_5, .int .i64 a1_6, (.slice A1_7 l1_7.length c1_7), (.slice A1_8 l1_8.length c1_8)] 37 (0, 0))) ∧ Aside0 (w'.heap[gb210]? = some (.cells #[.int .i64 a0_0, .int .i64 a0_1, .int .i64 a0_2] 31 (0, 0))) ∧ Aside0 (Below w.heap.size w w'))
     case atStart => exact ⟨(x13_1), (0), (by first | rfl | (simp; done) | (simp [*]; done)), (by first | rfl | (simp; done) | (simp [*]; done)), H', ⟨Nat.le_refl _⟩, ⟨bks BK208⟩, ⟨bks BK209⟩, ⟨bks BK210⟩, ⟨bel_now⟩⟩
     case round =>
      clear H'
      try clear c1
      try clear c2
      try clear p2 p2
      try clear q2 q2
      try clear hx2
      try clear c3
      try clear c4
      try clear c6
      try clear c6b0
      try clear c6b1
      try clear p6 p6
      try clear c9
      try clear c9b0
      try clear c9b1
      try clear c10
      try clear c10b0
      try clear c10b1
      try clear c11
      try clear c11b0
      try clear c11b1
      try clear c13
      try clear c13b0
      try clear c14
      try clear c14b0
      try clear c19
      try clear p21 p21
      try clear q21 q21
      try clear hx21
      try clear c22
      try clear c23
      try clear c30
      try clear c30b0
      try clear c30b1
      try clear c33
      try clear c36
      try clear c37
      try clear c40
      try clear c40b0
      try clear c41
      try clear c42
      try clear hcz20_0 hcz20_1 hcz20_2 hcz20_3 hfz20_0 hfz20_1 hfz20_2 hfz20_3
      try clear hcz24_0 hcz24_1 hcz24_2 hfz24_0 hfz24_1 hfz24_2
      try clear hcz25_0 hcz25_1 hcz25_2 hcz25_3 hcz25_4 hcz25_5 hcz25_6 hcz25_7 hcz25_8 hfz25_0 hfz25_1 hfz25_2 hfz25_3 hfz25_4 hfz25_5 hfz25_6 hfz25_7 hfz25_8
      try clear hcz27_0 hcz27_1 hcz27_2 hcz27_3 hfz27_0 hfz27_1 hfz27_2 hfz27_3
      try clear hcz28_0 hcz28_1 hcz28_2 hcz28_3 hcz28_4 hcz28_5 hcz28_6 hcz28_7 hcz28_8 hfz28_0 hfz28_1 hfz28_2 hfz28_3 hfz28_4 hfz28_5 hfz28_6 hfz28_7 hfz28_8
      try clear hcz34_0 hcz34_1 hcz34_2 hcz34_3 hfz34_0 hfz34_1 hfz34_2 hfz34_3
      try clear hcz38_0 hcz38_1 hcz38_2 hfz38_0 hfz38_1 hfz38_2
      try clear hcz39_0 hcz39_1 hcz39_2 hcz39_3 hcz39_4 hcz39_5 hcz39_6 hcz39_7 hcz39_8 hfz39_0 hfz39_1 hfz39_2 hfz39_3 hfz39_4 hfz39_5 hfz39_6 hfz39_7 hfz39_8
      try clear hcz43_0 hcz43_1 hcz43_2 hcz43_3 hcz43_4 hcz43_5 hcz43_6 hcz43_7 hcz43_8 hfz43_0 hfz43_1 hfz43_2 hfz43_3 hfz43_4 hfz43_5 hfz43_6 hfz43_7 hfz43_8
      try clear hx214_0
      try clear p214
      try clear q214
      obtain ⟨x13_2, x15_2, rfl, rfl, HA, HK2, BK208, BK209, BK210, HB⟩ := hrel
      cases gk with
      | zero => exact absurd HA.out (by simp [spec_l03Item.l1])
      | succ k2 =>
       have H := HA.out
       clear HA
       simp only [spec_l03Item.l1] at H
       by_cases c44 : x15_2 < a1_2
       rotate_left
       ·rw [if_neg c44] at H
        have c44b0 : decide (x15_2 < a1_2) = false := decide_eq_false c44
        clear c44
        have H' := Aside0.mk H
        clear H
        have hnb66 := NB209_208.out
        have hnc66 := NB208_209.out
        have hnb67 := NB209_210.out
        have hnc67 := NB210_209.out
        obtain ⟨hcz68_0, hcz68_1, hcz68_2, hcz68_3, hcz68_4, hcz68_5, hcz68_6, hcz68_7, hcz68_8, hfz68_0, hfz68_1, hfz68_2, hfz68_3, hfz68_4, hfz68_5, hfz68_6, hfz68_7, hfz68_8⟩ := cells9 BK209.out
        go_wp2
        repeat (go_quiet (fail); try go_wp2)
        go_roundg k2
        case measure => have := HK1.out; have := HK2.out; omega
        case rel => exact ⟨(x13_2), (wrap64 (x14_1 + 1)), (by first | rfl | (simp; done) | (simp [*]; done)), (by first | rfl | (simp; done) | (simp [*]; done)), H', ⟨by have := HK1.out; have := HK2.out; omega⟩, ⟨bks BK208⟩, ⟨bks BK209⟩, ⟨bks BK210⟩, ⟨bel_now⟩⟩
       rw [if_pos c44] at H
       have c44b0 : decide (x15_2 < a1_2) = true := decide_eq_true c44
       clear c44
       have H' := Aside0.mk H
       clear H
       have hnb45 := NB209_208.out
       have hnc45 := NB208_209.out
       have hnb46 := NB209_210.out
       have hnc46 := NB210_209.out
       obtain ⟨hcz47_0, hcz47_1, hcz47_2, hcz47_3, hcz47_4, hcz47_5, hcz47_6, hcz47_7, hcz47_8, hfz47_0, hfz47_1, hfz47_2, hfz47_3, hfz47_4, hfz47_5, hfz47_6, hfz47_7, hfz47_8⟩ := cells9 BK209.out
       go_wp2
       repeat (go_quiet (fail); try go_wp2)
       go_loopg [13, 16] k2 (fun kq v13 v16 w' => ∃ (x13_3 : Int) (x16_3 : Int), v13 = .int .i64 x13_3 ∧ v16 = .int .i64 x16_3 ∧ Aside0 (spec_l03Item.l2 kq a2 a3 a4 x13_3 x14_1 x15_2 x16_3 a0_0 a0_1 a0_2 l0_3 a1_0 a1_1 a1_2 a1_3 a1_4 a1_5 a1_6 l1_7 l1_8 a0_0 a0_1 a0_2 = some r) ∧ Aside0 (kq ≤ k2) ∧ Aside0 (w'.heap[gb208]? = some (.cells #[.int .i64 a0_0, .int .i64 a0_1, .int .i64 a0_2, (.slice A0_3 l0_3.length c0_3)] 33 (0, 0))) ∧ Aside0 (w'.heap[gb209]? = some (.cells #[.int .i64 a1_0, .int .i64 a1_1, .int .i64 a1_2, .int .i64 a1_3, .int .i64 a1_4, .int .i64 a1_5, .int .i64 a1_6, (.slice A1_7 l1_7.length c1_7), (.slice A1_8 l1_8.length c1_8)] 37 (0, 0))) ∧ Aside0 (w'.heap[gb210]? = some (.cells #[.int .i64 a0_0, .int .i64 a0_1, .int .i64 a0_2] 31 (0, 0))) ∧ Aside0 (Below w.heap.size w w'))
       case atStart => exact ⟨(x13_2), (0), (by first | rfl | (simp; done) | (simp [*]; done)), (by first | rfl | (simp; done) | (simp [*]; done)), H', ⟨Nat.le_refl _⟩, ⟨bks BK208⟩, ⟨bks BK209⟩, ⟨bks BK210⟩, ⟨bel_now⟩⟩
       case round =>
        clear H'
        try clear c1
        try clear c2
        try clear p2 p2
        try clear q2 q2
        try clear hx2
        try clear c3
        try clear c4
        try clear c6
        try clear c6b0
        try clear c6b1
        try clear p6 p6
        try clear c9
        try clear c9b0
        try clear c9b1
        try clear c10
        try clear c10b0
        try clear c10b1
        try clear c11
        try clear c11b0
        try clear c11b1
        try clear c13
        try clear c13b0
        try clear c14
        try clear c14b0
        try clear c19
        try clear p21 p21
        try clear q21 q21
        try clear hx21
        try clear c22
        try clear c23
        try clear c30
        try clear c30b0
        try clear c30b1
        try clear c33
        try clear c36
        try clear c37
        try clear c40
        try clear c40b0
        try clear c41
        try clear c42
        try clear c44
        try clear c44b0
        try clear c45
        try clear c46
        try clear hcz20_0 hcz20_1 hcz20_2 hcz20_3 hfz20_0 hfz20_1 hfz20_2 hfz20_3
        try clear hcz24_0 hcz24_1 hcz24_2 hfz24_0 hfz24_1 hfz24_2
        try clear hcz25_0 hcz25_1 hcz25_2 hcz25_3 hcz25_4 hcz25_5 hcz25_6 hcz25_7 hcz25_8 hfz25_0 hfz25_1 hfz25_2 hfz25_3 hfz25_4 hfz25_5 hfz25_6 hfz25_7 hfz25_8
        try clear hcz27_0 hcz27_1 hcz27_2 hcz27_3 hfz27_0 hfz27_1 hfz27_2 hfz27_3
        try clear hcz28_0 hcz28_1 hcz28_2 hcz28_3 hcz28_4 hcz28_5 hcz28_6 hcz28_7 hcz28_8 hfz28_0 hfz28_1 hfz28_2 hfz28_3 hfz28_4 hfz28_5 hfz28_6 hfz28_7 hfz28_8
        try clear hcz34_0 hcz34_1 hcz34_2 hcz34_3 hfz34_0 hfz34_1 hfz34_2 hfz34_3
        try clear hcz38_0 hcz38_1 hcz38_2 hfz38_0 hfz38_1 hfz38_2
        try clear hcz39_0 hcz39_1 hcz39_2 hcz39_3 hcz39_4 hcz39_5 hcz39_6 hcz39_7 hcz39_8 hfz39_0 hfz39_1 hfz39_2 hfz39_3 hfz39_4 hfz39_5 hfz39_6 hfz39_7 hfz39_8
        try clear hcz43_0 hcz43_1 hcz43_2 hcz43_3 hcz43_4 hcz43_5 hcz43_6 hcz43_7 hcz43_8 hfz43_0 hfz43_1 hfz43_2 hfz43_3 hfz43_4 hfz43_5 hfz43_6 hfz43_7 hfz43_8
        try clear hcz47_0 hcz47_1 hcz47_2 hcz47_3 hcz47_4 hcz47_5 hcz47_6 hcz47_7 hcz47_8 hfz47_0 hfz47_1 hfz47_2 hfz47_3 hfz47_4 hfz47_5 hfz47_6 hfz47_7 hfz47_8
        try clear hx214_0
        try clear p214
        try clear q214
        obtain ⟨x13_3, x16_3, rfl, rfl, HA, HK3, BK208, BK209, BK210, HB⟩ := hrel
        cases gk with
        | zero => exact absurd HA.out (by simp [spec_l03Item.l2])
        | succ k3 =>
         have H := HA.out
         clear HA
         simp only [spec_l03Item.l2] at H
         by_cases c48 : x16_3 < a0_2
         rotate_left
         ·rw [if_neg c48] at H
          have c48b0 : decide (x16_3 < a0_2) = false := decide_eq_false c48
          clear c48
          have H' := Aside0.mk H
          clear H
          have hnb63 := NB210_208.out
          have hnc63 := NB208_210.out
          have hnb64 := NB210_209.out
          have hnc64 := NB209_210.out
          obtain ⟨hcz65_0, hcz65_1, hcz65_2, hfz65_0, hfz65_1, hfz65_2⟩ := cells3 BK210.out
          go_wp2
          repeat (go_quiet (fail); try go_wp2)
          go_roundg k3
          case measure => have := HK1.out; have := HK2.out; have := HK3.out; omega
          case rel => exact ⟨(x13_3), (wrap64 (x15_2 + 1)), (by first | rfl | (simp; done) | (simp [*]; done)), (by first | rfl | (simp; done) | (simp [*]; done)), H', ⟨by have := HK1.out; have := HK2.out; have := HK3.out; omega⟩, ⟨bks BK208⟩, ⟨bks BK209⟩, ⟨bks BK210⟩, ⟨bel_now⟩⟩
         rw [if_pos c48] at H
         have c48b0 : decide (x16_3 < a0_2) = true := decide_eq_true c48
         clear c48
         replace H := Option.bind_eq_some_iff.mp H
         obtain ⟨⟨t220, t221⟩, A490, H⟩ := H
         (try dsimp only at H)
         have A49 := Aside0.mk A490
         clear A490
         obtain ⟨ji50, hji50⟩ : ∃ j_ : Int, (wrap64 ((wrap64 ((wrap64 ((wrap64 ((wrap64 ((wrap64 (a4 * a1_2)) + x14_1)) * a1_2)) + x15_2)) * a0_2)) + x16_3)) = j_ := ⟨_, rfl⟩
         replace H : (if 0 ≤ (ji50) then (if (ji50) < (l1_7.length : Int) then ((spec_AddSat.f k3 x13_3 (wrap64 (t220 * (rd l1_7 (ji50))))).bind fun t223 => (spec_l03Item.l2 k3 a2 a3 a4 t223 x14_1 x15_2 (wrap64 (x16_3 + 1)) a0_0 a0_1 a0_2 l0_3 a1_0 a1_1 a1_2 a1_3 a1_4 a1_5 a1_6 l1_7 l1_8 a0_0 a0_1 a0_2)) else (none)) else (none)) = some r := by first | (rw [hji50] at H; exact H) | (simp only [hji50] at H ⊢; exact H)
         (try rw [hji50] at A49)
         have hji50w : (IntKind.i64.wrap ((wrap64 ((wrap64 ((wrap64 ((wrap64 ((wrap64 (a4 * a1_2)) + x14_1)) * a1_2)) + x15_2)) * a0_2)) + x16_3)) = ji50 := (i64_w _).trans hji50
         by_cases c51 : 0 ≤ (ji50)
         rotate_left
         ·rw [if_neg c51] at H
          exact absurd H (by simp)
         rw [if_pos c51] at H
         have c51b0 : decide (0 ≤ (ji50)) = true := decide_eq_true c51
         clear c51
         by_cases c52 : (ji50) < (l1_7.length : Int)
         rotate_left
         ·rw [if_neg c52] at H
          exact absurd H (by simp)
         rw [if_pos c52] at H
         have c52b0 : decide ((ji50) < (l1_7.length : Int)) = true := decide_eq_true c52
         clear c52
         replace H := Option.bind_eq_some_iff.mp H
         obtain ⟨t223, A530, H⟩ := H
         (try dsimp only at H)
         have A53 := Aside0.mk A530
         clear A530
         have H' := Aside0.mk H
         clear H
         have hnb54 := NB210_208.out
         have hnc54 := NB208_210.out
         have hnb55 := NB210_209.out
         have hnc55 := NB209_210.out
         obtain ⟨hcz56_0, hcz56_1, hcz56_2, hfz56_0, hfz56_1, hfz56_2⟩ := cells3 BK210.out
         have hnb57 := NB208_209.out
         have hnc57 := NB209_208.out
         obtain ⟨hcz58_0, hcz58_1, hcz58_2, hcz58_3, hfz58_0, hfz58_1, hfz58_2, hfz58_3⟩ := cells4 BK208.out
         obtain ⟨hcz59_0, hcz59_1, hcz59_2, hcz59_3, hcz59_4, hcz59_5, hcz59_6, hcz59_7, hcz59_8, hfz59_0, hfz59_1, hfz59_2, hfz59_3, hfz59_4, hfz59_5, hfz59_6, hfz59_7, hfz59_8⟩ := cells9 BK209.out
         go_wp2_with (first | (go_at_call 99; (with_reducible refine (spec_ItemAt.calls k3 a0_0 a0_1 a0_2 _ _ l0_3 (wrap64 ((wrap64 (a2 * a1_3)) + x14_1)) (wrap64 ((wrap64 (a3 * a1_3)) + x15_2)) x16_3 t220 t221 _ ?side1 ?side2 A49.out).mono ?_); (case side1 => exact C_now HR0_3.out); (case side2 => exact HC0_3.out); rintro e w60 ⟨rfl, hb⟩; replace HB := bel_on w hb; replace BK208 := blk_on gb208 hb; replace BK209 := blk_on gb209 hb; replace BK210 := blk_on gb210 hb; (try clear hb); obtain ⟨hcz61_0, hcz61_1, hcz61_2, hcz61_3, hcz61_4, hcz61_5, hcz61_6, hcz61_7, hcz61_8, hfz61_0, hfz61_1, hfz61_2, hfz61_3, hfz61_4, hfz61_5, hfz61_6, hfz61_7, hfz61_8⟩ := cells9 BK209.out; obtain ⟨hcz62_0, hcz62_1, hcz62_2, hfz62_0, hfz62_1, hfz62_2⟩ := cells3 BK210.out; have p222 : 0 ≤ ((ji50) : Int) := of_decide_eq_true (by first | (with_reducible assumption) | assumption); have q222 : (ji50) < (l1_7.length : Int) := of_decide_eq_true (by first | (with_reducible assumption) | assumption); obtain ⟨ad222, e222, hx222_0⟩ := Kd.at_int HR1_7.out (ji50) p222 q222; cases e222; replace hx222_0 := (HB.out.cell (World.block_lt_of_cell? w _ hx222_0)).trans hx222_0; replace p222 := eq_true p222; replace q222 := eq_true q222) | (go_at_call 97; (with_reducible refine (spec_AddSat.calls k3 x13_3 (wrap64 (t220 * (rd l1_7 (ji50)))) t223 _ A53.out).mono ?_); rintro e w' ⟨rfl, ⟨nd, rfl⟩⟩; (try first | exact ⟨rfl, _, World.drewN_drewN _ _ _⟩ | exact ⟨rfl, _, Eq.trans (World.drewN_drewN _ _ _) (congrArg (World.drewN _) (Nat.add_assoc _ _ _))⟩)))
         repeat (go_quiet (first | (go_at_call 99; (with_reducible refine (spec_ItemAt.calls k3 a0_0 a0_1 a0_2 _ _ l0_3 (wrap64 ((wrap64 (a2 * a1_3)) + x14_1)) (wrap64 ((wrap64 (a3 * a1_3)) + x15_2)) x16_3 t220 t221 _ ?side1 ?side2 A49.out).mono ?_); (case side1 => exact C_now HR0_3.out); (case side2 => exact HC0_3.out); rintro e w60 ⟨rfl, hb⟩; replace HB := bel_on w hb; replace BK208 := blk_on gb208 hb; replace BK209 := blk_on gb209 hb; replace BK210 := blk_on gb210 hb; (try clear hb); obtain ⟨hcz61_0, hcz61_1, hcz61_2, hcz61_3, hcz61_4, hcz61_5, hcz61_6, hcz61_7, hcz61_8, hfz61_0, hfz61_1, hfz61_2, hfz61_3, hfz61_4, hfz61_5, hfz61_6, hfz61_7, hfz61_8⟩ := cells9 BK209.out; obtain ⟨hcz62_0, hcz62_1, hcz62_2, hfz62_0, hfz62_1, hfz62_2⟩ := cells3 BK210.out; have p222 : 0 ≤ ((ji50) : Int) := of_decide_eq_true (by first | (with_reducible assumption) | assumption); have q222 : (ji50) < (l1_7.length : Int) := of_decide_eq_true (by first | (with_reducible assumption) | assumption); obtain ⟨ad222, e222, hx222_0⟩ := Kd.at_int HR1_7.out (ji50) p222 q222; cases e222; replace hx222_0 := (HB.out.cell (World.block_lt_of_cell? w _ hx222_0)).trans hx222_0; replace p222 := eq_true p222; replace q222 := eq_true q222) | (go_at_call 97; (with_reducible refine (spec_AddSat.calls k3 x13_3 (wrap64 (t220 * (rd l1_7 (ji50)))) t223 _ A53.out).mono ?_); rintro e w' ⟨rfl, ⟨nd, rfl⟩⟩; (try first | exact ⟨rfl, _, World.drewN_drewN _ _ _⟩ | exact ⟨rfl, _, Eq.trans (World.drewN_drewN _ _ _) (congrArg (World.drewN _) (Nat.add_assoc _ _ _))⟩))); try go_wp2_with (first | (go_at_call 99; (with_reducible refine (spec_ItemAt.calls k3 a0_0 a0_1 a0_2 _ _ l0_3 (wrap64 ((wrap64 (a2 * a1_3)) + x14_1)) (wrap64 ((wrap64 (a3 * a1_3)) + x15_2)) x16_3 t220 t221 _ ?side1 ?side2 A49.out).mono ?_); (case side1 => exact C_now HR0_3.out); (case side2 => exact HC0_3.out); rintro e w60 ⟨rfl, hb⟩; replace HB := bel_on w hb; replace BK208 := blk_on gb208 hb; replace BK209 := blk_on gb209 hb; replace BK210 := blk_on gb210 hb; (try clear hb); obtain ⟨hcz61_0, hcz61_1, hcz61_2, hcz61_3, hcz61_4, hcz61_5, hcz61_6, hcz61_7, hcz61_8, hfz61_0, hfz61_1, hfz61_2, hfz61_3, hfz61_4, hfz61_5, hfz61_6, hfz61_7, hfz61_8⟩ := cells9 BK209.out; obtain ⟨hcz62_0, hcz62_1, hcz62_2, hfz62_0, hfz62_1, hfz62_2⟩ := cells3 BK210.out; have p222 : 0 ≤ ((ji50) : Int) := of_decide_eq_true (by first | (with_reducible assumption) | assumption); have q222 : (ji50) < (l1_7.length : Int) := of_decide_eq_true (by first | (with_reducible assumption) | assumption); obtain ⟨ad222, e222, hx222_0⟩ := Kd.at_int HR1_7.out (ji50) p222 q222; cases e222; replace hx222_0 := (HB.out.cell (World.block_lt_of_cell? w _ hx222_0)).trans hx222_0; replace p222 := eq_true p222; replace q222 := eq_true q222) | (go_at_call 97; (with_reducible refine (spec_AddSat.calls k3 x13_3 (wrap64 (t220 * (rd l1_7 (ji50)))) t223 _ A53.out).mono ?_); rintro e w' ⟨rfl, ⟨nd, rfl⟩⟩; (try first | exact ⟨rfl, _, World.drewN_drewN _ _ _⟩ | exact ⟨rfl, _, Eq.trans (World.drewN_drewN _ _ _) (congrArg (World.drewN _) (Nat.add_assoc _ _ _))⟩))))
         go_roundg k3
         case measure => have := HK1.out; have := HK2.out; have := HK3.out; omega
         case rel => exact ⟨(t223), (wrap64 (x16_3 + 1)), (by first | rfl | (simp; done) | (simp [*]; done)), (by first | rfl | (simp; done) | (simp [*]; done)), H', ⟨by have := HK1.out; have := HK2.out; have := HK3.out; omega⟩, ⟨bks BK208⟩, ⟨bks BK209⟩, ⟨bks BK210⟩, ⟨bel_now⟩⟩
  rw [if_neg c30] at H
  have c30b0 : (a1_0 == 1) = false := beq_eq_false_iff_ne.mpr c30
  have c30b1 : (a1_0 != 1) = true := bne_iff_ne.mpr c30
  by_cases c76 : a1_0 = 2
  ·rw [if_pos c76] at H
   have c76b0 : (a1_0 == 2) = true := beq_iff_eq.mpr c76
   have c76b1 : (a1_0 != 2) = false := bne_eq_false_iff_eq.mpr c76
   clear c76
   replace H := Option.bind_eq_some_iff.mp H
   obtain ⟨t224, A770, H⟩ := H
   (try dsimp only at H)
   have A77 := Aside0.mk A770
   clear A770
   by_cases c78 : 0 < (t224.length : Int)
   rotate_left
   ·rw [if_neg c78] at H
    exact absurd H (by simp)
   rw [if_pos c78] at H
   have c78b0 : decide (0 < (t224.length : Int)) = true := decide_eq_true c78
   have c78b1 : decide (0 < t224.length) = true := decide_eq_true (by omega)
   clear c78
   have H' := Aside0.mk H
   clear H
   go_enter Try.func49, Try.ntmps49
   go_wp2_with (first | ((with_reducible refine gate_dst (N := 5) rfl ?_); refine boxM 5 #[.int .i64 a0_0, .int .i64 a0_1, .int .i64 a0_2, .slice A0_3 l0_3.length c0_3] 33 ?_; intro gb208 hg w79 BK208 hb; replace HB := box_at w hb hg; obtain ⟨HB, GW208, GE208⟩ := HB; clear hb hg) | ((with_reducible refine gate_dst (N := 6) rfl ?_); refine boxM 6 #[.int .i64 a1_0, .int .i64 a1_1, .int .i64 a1_2, .int .i64 a1_3, .int .i64 a1_4, .int .i64 a1_5, .int .i64 a1_6, .slice A1_7 l1_7.length c1_7, .slice A1_8 l1_8.length c1_8] 37 ?_; intro gb209 hg w80 BK209 hb; replace HB := box_at w hb hg; obtain ⟨HB, GW209, GE209⟩ := HB; replace BK208 := box_on gb208 hb hg; obtain ⟨BK208, NB208_209, NB209_208⟩ := BK208; clear hb hg; have hnb81 := NB208_209.out; have hnc81 := NB209_208.out; obtain ⟨hcz82_0, hcz82_1, hcz82_2, hcz82_3, hfz82_0, hfz82_1, hfz82_2, hfz82_3⟩ := cells4 BK208.out) | ((with_reducible refine gate_dst (N := 11) rfl ?_); refine boxM 11 #[.int .i64 0, .int .i64 0, .int .i64 0] 31 ?_; intro gb210 hg w83 BK210 hb; replace HB := box_at w hb hg; obtain ⟨HB, GW210, GE210⟩ := HB; replace BK208 := box_on gb208 hb hg; obtain ⟨BK208, NB208_210, NB210_208⟩ := BK208; replace BK209 := box_on gb209 hb hg; obtain ⟨BK209, NB209_210, NB210_209⟩ := BK209; clear hb hg; have hnb84 := NB210_208.out; have hnc84 := NB208_210.out; have hnb85 := NB210_209.out; have hnc85 := NB209_210.out; obtain ⟨hcz86_0, hcz86_1, hcz86_2, hfz86_0, hfz86_1, hfz86_2⟩ := cells3 BK210.out; obtain ⟨hcz87_0, hcz87_1, hcz87_2, hcz87_3, hcz87_4, hcz87_5, hcz87_6, hcz87_7, hcz87_8, hfz87_0, hfz87_1, hfz87_2, hfz87_3, hfz87_4, hfz87_5, hfz87_6, hfz87_7, hfz87_8⟩ := cells9 BK209.out; obtain ⟨hcz88_0, hcz88_1, hcz88_2, hcz88_3, hfz88_0, hfz88_1, hfz88_2, hfz88_3⟩ := cells4 BK208.out) | (go_at_call 100; (with_reducible refine (spec_l03Pool.calls k a0_0 a0_1 a0_2 _ _ l0_3 a1_0 a1_1 a1_2 a1_3 a1_4 a1_5 a1_6 _ _ l1_7 _ _ l1_8 a2 a3 a4 t224 _ ?side1 ?side2 ?side3 ?side4 ?side5 ?side6 A77.out).mono ?_); (case side1 => exact C_now HR0_3.out); (case side2 => exact HC0_3.out); (case side3 => exact C_now HR1_7.out); (case side4 => exact HC1_7.out); (case side5 => exact C_now HR1_8.out); (case side6 => exact HC1_8.out); rintro e w89 ⟨v225, rfl, ho0, hb⟩; have n0_ := Aside0.mk (Kd.R_lower ho0 (below_size bel_now)); replace HB := bel_on w hb; replace BK208 := Aside0.mk (blk_below (g := gb208) (o := .cells #[.int .i64 a0_0, .int .i64 a0_1, .int .i64 a0_2, .slice A0_3 l0_3.length c0_3] 33 (0, 0)) (blk_fars BK208.out) hb); replace BK209 := Aside0.mk (blk_below (g := gb209) (o := .cells #[.int .i64 a1_0, .int .i64 a1_1, .int .i64 a1_2, .int .i64 a1_3, .int .i64 a1_4, .int .i64 a1_5, .int .i64 a1_6, .slice A1_7 l1_7.length c1_7, .slice A1_8 l1_8.length c1_8] 37 (0, 0)) (blk_fars BK209.out) hb); replace BK210 := Aside0.mk (blk_below (g := gb210) (o := .cells #[.int .i64 a0_0, .int .i64 a0_1, .int .i64 a0_2] 31 (0, 0)) (blk_fars (puts3 BK210.out)) hb); have HO226 := n0_; clear n0_; (try clear hb); (try clear ho0); obtain ⟨Ao90, co90, eo90⟩ := Kd.R_slice HO226.out; subst eo90; have p227 : 0 ≤ (0 : Int) := (by omega); have q227 : 0 < (t224.length : Int) := of_decide_eq_true (by first | (with_reducible assumption) | assumption); obtain ⟨ad227, e227, hx227_0⟩ := Kd.at_int (Kd.R_reads' HO226.out).2.2 0 p227 q227; cases e227; have qi227 : (0 < t224.length) = True := eq_true (by omega); (try rw [show ((0 : Int)).toNat = 0 from rfl] at hx227_0); (try rw [Addr.add_zero'] at hx227_0); replace p227 := eq_true p227; replace q227 := eq_true q227))
   repeat (go_quiet (first | ((with_reducible refine gate_dst (N := 5) rfl ?_); refine boxM 5 #[.int .i64 a0_0, .int .i64 a0_1, .int .i64 a0_2, .slice A0_3 l0_3.length c0_3] 33 ?_; intro gb208 hg w79 BK208 hb; replace HB := box_at w hb hg; obtain ⟨HB, GW208, GE208⟩ := HB; clear hb hg) | ((with_reducible refine gate_dst (N := 6) rfl ?_); refine boxM 6 #[.int .i64 a1_0, .int .i64 a1_1, .int .i64 a1_2, .int .i64 a1_3, .int .i64 a1_4, .int .i64 a1_5, .int .i64 a1_6, .slice A1_7 l1_7.length c1_7, .slice A1_8 l1_8.length c1_8] 37 ?_; intro gb209 hg w80 BK209 hb; replace HB := box_at w hb hg; obtain ⟨HB, GW209, GE209⟩ := HB; replace BK208 := box_on gb208 hb hg; obtain ⟨BK208, NB208_209, NB209_208⟩ := BK208; clear hb hg; have hnb81 := NB208_209.out; have hnc81 := NB209_208.out; obtain ⟨hcz82_0, hcz82_1, hcz82_2, hcz82_3, hfz82_0, hfz82_1, hfz82_2, hfz82_3⟩ := cells4 BK208.out) | ((with_reducible refine gate_dst (N := 11) rfl ?_); refine boxM 11 #[.int .i64 0, .int .i64 0, .int .i64 0] 31 ?_; intro gb210 hg w83 BK210 hb; replace HB := box_at w hb hg; obtain ⟨HB, GW210, GE210⟩ := HB; replace BK208 := box_on gb208 hb hg; obtain ⟨BK208, NB208_210, NB210_208⟩ := BK208; replace BK209 := box_on gb209 hb hg; obtain ⟨BK209, NB209_210, NB210_209⟩ := BK209; clear hb hg; have hnb84 := NB210_208.out; have hnc84 := NB208_210.out; have hnb85 := NB210_209.out; have hnc85 := NB209_210.out; obtain ⟨hcz86_0, hcz86_1, hcz86_2, hfz86_0, hfz86_1, hfz86_2⟩ := cells3 BK210.out; obtain ⟨hcz87_0, hcz87_1, hcz87_2, hcz87_3, hcz87_4, hcz87_5, hcz87_6, hcz87_7, hcz87_8, hfz87_0, hfz87_1, hfz87_2, hfz87_3, hfz87_4, hfz87_5, hfz87_6, hfz87_7, hfz87_8⟩ := cells9 BK209.out; obtain ⟨hcz88_0, hcz88_1, hcz88_2, hcz88_3, hfz88_0, hfz88_1, hfz88_2, hfz88_3⟩ := cells4 BK208.out) | (go_at_call 100; (with_reducible refine (spec_l03Pool.calls k a0_0 a0_1 a0_2 _ _ l0_3 a1_0 a1_1 a1_2 a1_3 a1_4 a1_5 a1_6 _ _ l1_7 _ _ l1_8 a2 a3 a4 t224 _ ?side1 ?side2 ?side3 ?side4 ?side5 ?side6 A77.out).mono ?_); (case side1 => exact C_now HR0_3.out); (case side2 => exact HC0_3.out); (case side3 => exact C_now HR1_7.out); (case side4 => exact HC1_7.out); (case side5 => exact C_now HR1_8.out); (case side6 => exact HC1_8.out); rintro e w89 ⟨v225, rfl, ho0, hb⟩; have n0_ := Aside0.mk (Kd.R_lower ho0 (below_size bel_now)); replace HB := bel_on w hb; replace BK208 := Aside0.mk (blk_below (g := gb208) (o := .cells #[.int .i64 a0_0, .int .i64 a0_1, .int .i64 a0_2, .slice A0_3 l0_3.length c0_3] 33 (0, 0)) (blk_fars BK208.out) hb); replace BK209 := Aside0.mk (blk_below (g := gb209) (o := .cells #[.int .i64 a1_0, .int .i64 a1_1, .int .i64 a1_2, .int .i64 a1_3, .int .i64 a1_4, .int .i64 a1_5, .int .i64 a1_6, .slice A1_7 l1_7.length c1_7, .slice A1_8 l1_8.length c1_8] 37 (0, 0)) (blk_fars BK209.out) hb); replace BK210 := Aside0.mk (blk_below (g := gb210) (o := .cells #[.int .i64 a0_0, .int .i64 a0_1, .int .i64 a0_2] 31 (0, 0)) (blk_fars (puts3 BK210.out)) hb); have HO226 := n0_; clear n0_; (try clear hb); (try clear ho0); obtain ⟨Ao90, co90, eo90⟩ := Kd.R_slice HO226.out; subst eo90; have p227 : 0 ≤ (0 : Int) := (by omega); have q227 : 0 < (t224.length : Int) := of_decide_eq_true (by first | (with_reducible assumption) | assumption); obtain ⟨ad227, e227, hx227_0⟩ := Kd.at_int (Kd.R_reads' HO226.out).2.2 0 p227 q227; cases e227; have qi227 : (0 < t224.length) = True := eq_true (by omega); (try rw [show ((0 : Int)).toNat = 0 from rfl] at hx227_0); (try rw [Addr.add_zero'] at hx227_0); replace p227 := eq_true p227; replace q227 := eq_true q227)); try go_wp2_with (first | ((with_reducible refine gate_dst (N := 5) rfl ?_); refine boxM 5 #[.int .i64 a0_0, .int .i64 a0_1, .int .i64 a0_2, .slice A0_3 l0_3.length c0_3] 33 ?_; intro gb208 hg w79 BK208 hb; replace HB := box_at w hb hg; obtain ⟨HB, GW208, GE208⟩ := HB; clear hb hg) | ((with_reducible refine gate_dst (N := 6) rfl ?_); refine boxM 6 #[.int .i64 a1_0, .int .i64 a1_1, .int .i64 a1_2, .int .i64 a1_3, .int .i64 a1_4, .int .i64 a1_5, .int .i64 a1_6, .slice A1_7 l1_7.length c1_7, .slice A1_8 l1_8.length c1_8] 37 ?_; intro gb209 hg w80 BK209 hb; replace HB := box_at w hb hg; obtain ⟨HB, GW209, GE209⟩ := HB; replace BK208 := box_on gb208 hb hg; obtain ⟨BK208, NB208_209, NB209_208⟩ := BK208; clear hb hg; have hnb81 := NB208_209.out; have hnc81 := NB209_208.out; obtain ⟨hcz82_0, hcz82_1, hcz82_2, hcz82_3, hfz82_0, hfz82_1, hfz82_2, hfz82_3⟩ := cells4 BK208.out) | ((with_reducible refine gate_dst (N := 11) rfl ?_); refine boxM 11 #[.int .i64 0, .int .i64 0, .int .i64 0] 31 ?_; intro gb210 hg w83 BK210 hb; replace HB := box_at w hb hg; obtain ⟨HB, GW210, GE210⟩ := HB; replace BK208 := box_on gb208 hb hg; obtain ⟨BK208, NB208_210, NB210_208⟩ := BK208; replace BK209 := box_on gb209 hb hg; obtain ⟨BK209, NB209_210, NB210_209⟩ := BK209; clear hb hg; have hnb84 := NB210_208.out; have hnc84 := NB208_210.out; have hnb85 := NB210_209.out; have hnc85 := NB209_210.out; obtain ⟨hcz86_0, hcz86_1, hcz86_2, hfz86_0, hfz86_1, hfz86_2⟩ := cells3 BK210.out; obtain ⟨hcz87_0, hcz87_1, hcz87_2, hcz87_3, hcz87_4, hcz87_5, hcz87_6, hcz87_7, hcz87_8, hfz87_0, hfz87_1, hfz87_2, hfz87_3, hfz87_4, hfz87_5, hfz87_6, hfz87_7, hfz87_8⟩ := cells9 BK209.out; obtain ⟨hcz88_0, hcz88_1, hcz88_2, hcz88_3, hfz88_0, hfz88_1, hfz88_2, hfz88_3⟩ := cells4 BK208.out) | (go_at_call 100; (with_reducible refine (spec_l03Pool.calls k a0_0 a0_1 a0_2 _ _ l0_3 a1_0 a1_1 a1_2 a1_3 a1_4 a1_5 a1_6 _ _ l1_7 _ _ l1_8 a2 a3 a4 t224 _ ?side1 ?side2 ?side3 ?side4 ?side5 ?side6 A77.out).mono ?_); (case side1 => exact C_now HR0_3.out); (case side2 => exact HC0_3.out); (case side3 => exact C_now HR1_7.out); (case side4 => exact HC1_7.out); (case side5 => exact C_now HR1_8.out); (case side6 => exact HC1_8.out); rintro e w89 ⟨v225, rfl, ho0, hb⟩; have n0_ := Aside0.mk (Kd.R_lower ho0 (below_size bel_now)); replace HB := bel_on w hb; replace BK208 := Aside0.mk (blk_below (g := gb208) (o := .cells #[.int .i64 a0_0, .int .i64 a0_1, .int .i64 a0_2, .slice A0_3 l0_3.length c0_3] 33 (0, 0)) (blk_fars BK208.out) hb); replace BK209 := Aside0.mk (blk_below (g := gb209) (o := .cells #[.int .i64 a1_0, .int .i64 a1_1, .int .i64 a1_2, .int .i64 a1_3, .int .i64 a1_4, .int .i64 a1_5, .int .i64 a1_6, .slice A1_7 l1_7.length c1_7, .slice A1_8 l1_8.length c1_8] 37 (0, 0)) (blk_fars BK209.out) hb); replace BK210 := Aside0.mk (blk_below (g := gb210) (o := .cells #[.int .i64 a0_0, .int .i64 a0_1, .int .i64 a0_2] 31 (0, 0)) (blk_fars (puts3 BK210.out)) hb); have HO226 := n0_; clear n0_; (try clear hb); (try clear ho0); obtain ⟨Ao90, co90, eo90⟩ := Kd.R_slice HO226.out; subst eo90; have p227 : 0 ≤ (0 : Int) := (by omega); have q227 : 0 < (t224.length : Int) := of_decide_eq_true (by first | (with_reducible assumption) | assumption); obtain ⟨ad227, e227, hx227_0⟩ := Kd.at_int (Kd.R_reads' HO226.out).2.2 0 p227 q227; cases e227; have qi227 : (0 < t224.length) = True := eq_true (by omega); (try rw [show ((0 : Int)).toNat = 0 from rfl] at hx227_0); (try rw [Addr.add_zero'] at hx227_0); replace p227 := eq_true p227; replace q227 := eq_true q227)))
   go_loopg [20, 21] k (fun kq v20 v21 w' => ∃ (x20_1 : Int) (x21_1 : Int), v20 = .int .i64 x20_1 ∧ v21 = .int .i64 x21_1 ∧ Aside0 (spec_l03Item.l3 kq t224 x20_1 x21_1 = some r) ∧ Aside0 (kq ≤ k) ∧ Aside0 (Kd.R (Kd.int .i64) 3 w' w.heap.size (fun _ => True) (.slice (some ad227) t224.length co90) t224) ∧ Aside0 (w'.heap[gb208]? = some (.cells #[.int .i64 a0_0, .int .i64 a0_1, .int .i64 a0_2, (.slice A0_3 l0_3.length c0_3)] 33 (0, 0))) ∧ Aside0 (w'.heap[gb209]? = some (.cells #[.int .i64 a1_0, .int .i64 a1_1, .int .i64 a1_2, .int .i64 a1_3, .int .i64 a1_4, .int .i64 a1_5, .int .i64 a1_6, (.slice A1_7 l1_7.length c1_7), (.slice A1_8 l1_8.length c1_8)] 37 (0, 0))) ∧ Aside0 (w'.heap[gb210]? = some (.cells #[.int .i64 a0_0, .int .i64 a0_1, .int .i64 a0_2] 31 (0, 0))) ∧ Aside0 (Below w.heap.size w w'))
   case atStart => exact ⟨(rd t224 0), (1), (by first | rfl | (simp; done) | (simp [*]; done)), (by first | rfl | (simp; done) | (simp [*]; done)), H', ⟨Nat.le_refl _⟩, ⟨by (with_reducible repeat (first | apply Kd.R_alloc | apply Kd.R_drewN | apply Kd.R_drew)); exact HO226.out⟩, ⟨bks BK208⟩, ⟨bks BK209⟩, ⟨bks BK210⟩, ⟨bel_now⟩⟩
   case round =>
    clear H'
    try clear c1
    try clear c2
    try clear p2 p2
    try clear q2 q2
    try clear hx2
    try clear qi2
    try clear c3
    try clear c4
    try clear c5
    try clear c6
    try clear c6b0
    try clear c6b1
    try clear p6 p6
    try clear c7
    try clear c8
    try clear c9
    try clear c9b0
    try clear c9b1
    try clear c10
    try clear c10b0
    try clear c10b1
    try clear c11
    try clear c11b0
    try clear c11b1
    try clear c13
    try clear c13b0
    try clear c14
    try clear c14b0
    try clear c19
    try clear p21 p21
    try clear q21 q21
    try clear hx21
    try clear c22
    try clear p22
    try clear q22
    try clear hx22
    try clear qi22
    try clear c23
    try clear c30
    try clear c30b0
    try clear c30b1
    try clear c33
    try clear c36
    try clear c37
    try clear c40
    try clear c40b0
    try clear c41
    try clear c42
    try clear c44
    try clear c44b0
    try clear c45
    try clear c46
    try clear c48
    try clear c48b0
    try clear c49
    try clear c51
    try clear c51b0
    try clear c52
    try clear c52b0
    try clear c54
    try clear c55
    try clear c57
    try clear c63
    try clear c64
    try clear p64
    try clear c66
    try clear c67
    try clear c69
    try clear c69b0
    try clear c70
    try clear c70b0
    try clear c73
    try clear c74
    try clear c76
    try clear c76b0
    try clear c76b1
    try clear c78
    try clear c78b0
    try clear c78b1
    try clear c81
    try clear c84
    try clear c85
    try clear hcz20_0 hcz20_1 hcz20_2 hcz20_3 hfz20_0 hfz20_1 hfz20_2 hfz20_3
    try clear hcz24_0 hcz24_1 hcz24_2 hfz24_0 hfz24_1 hfz24_2
    try clear hcz25_0 hcz25_1 hcz25_2 hcz25_3 hcz25_4 hcz25_5 hcz25_6 hcz25_7 hcz25_8 hfz25_0 hfz25_1 hfz25_2 hfz25_3 hfz25_4 hfz25_5 hfz25_6 hfz25_7 hfz25_8
    try clear hcz27_0 hcz27_1 hcz27_2 hcz27_3 hfz27_0 hfz27_1 hfz27_2 hfz27_3
    try clear hcz28_0 hcz28_1 hcz28_2 hcz28_3 hcz28_4 hcz28_5 hcz28_6 hcz28_7 hcz28_8 hfz28_0 hfz28_1 hfz28_2 hfz28_3 hfz28_4 hfz28_5 hfz28_6 hfz28_7 hfz28_8
    try clear hcz34_0 hcz34_1 hcz34_2 hcz34_3 hfz34_0 hfz34_1 hfz34_2 hfz34_3
    try clear hcz38_0 hcz38_1 hcz38_2 hfz38_0 hfz38_1 hfz38_2
    try clear hcz39_0 hcz39_1 hcz39_2 hcz39_3 hcz39_4 hcz39_5 hcz39_6 hcz39_7 hcz39_8 hfz39_0 hfz39_1 hfz39_2 hfz39_3 hfz39_4 hfz39_5 hfz39_6 hfz39_7 hfz39_8
    try clear hcz43_0 hcz43_1 hcz43_2 hcz43_3 hcz43_4 hcz43_5 hcz43_6 hcz43_7 hcz43_8 hfz43_0 hfz43_1 hfz43_2 hfz43_3 hfz43_4 hfz43_5 hfz43_6 hfz43_7 hfz43_8
    try clear hcz47_0 hcz47_1 hcz47_2 hcz47_3 hcz47_4 hcz47_5 hcz47_6 hcz47_7 hcz47_8 hfz47_0 hfz47_1 hfz47_2 hfz47_3 hfz47_4 hfz47_5 hfz47_6 hfz47_7 hfz47_8
    try clear hcz56_0 hcz56_1 hcz56_2 hfz56_0 hfz56_1 hfz56_2
    try clear hcz58_0 hcz58_1 hcz58_2 hcz58_3 hfz58_0 hfz58_1 hfz58_2 hfz58_3
    try clear hcz59_0 hcz59_1 hcz59_2 hcz59_3 hcz59_4 hcz59_5 hcz59_6 hcz59_7 hcz59_8 hfz59_0 hfz59_1 hfz59_2 hfz59_3 hfz59_4 hfz59_5 hfz59_6 hfz59_7 hfz59_8
    try clear hcz61_0 hcz61_1 hcz61_2 hcz61_3 hcz61_4 hcz61_5 hcz61_6 hcz61_7 hcz61_8 hfz61_0 hfz61_1 hfz61_2 hfz61_3 hfz61_4 hfz61_5 hfz61_6 hfz61_7 hfz61_8
    try clear hcz62_0 hcz62_1 hcz62_2 hfz62_0 hfz62_1 hfz62_2
    try clear hcz65_0 hcz65_1 hcz65_2 hfz65_0 hfz65_1 hfz65_2
    try clear hcz68_0 hcz68_1 hcz68_2 hcz68_3 hcz68_4 hcz68_5 hcz68_6 hcz68_7 hcz68_8 hfz68_0 hfz68_1 hfz68_2 hfz68_3 hfz68_4 hfz68_5 hfz68_6 hfz68_7 hfz68_8
    try clear hcz75_0 hcz75_1 hcz75_2 hcz75_3 hcz75_4 hcz75_5 hcz75_6 hcz75_7 hcz75_8 hfz75_0 hfz75_1 hfz75_2 hfz75_3 hfz75_4 hfz75_5 hfz75_6 hfz75_7 hfz75_8
    try clear hcz82_0 hcz82_1 hcz82_2 hcz82_3 hfz82_0 hfz82_1 hfz82_2 hfz82_3
    try clear hcz86_0 hcz86_1 hcz86_2 hfz86_0 hfz86_1 hfz86_2
    try clear hcz87_0 hcz87_1 hcz87_2 hcz87_3 hcz87_4 hcz87_5 hcz87_6 hcz87_7 hcz87_8 hfz87_0 hfz87_1 hfz87_2 hfz87_3 hfz87_4 hfz87_5 hfz87_6 hfz87_7 hfz87_8
    try clear hcz88_0 hcz88_1 hcz88_2 hcz88_3 hfz88_0 hfz88_1 hfz88_2 hfz88_3
    try clear hx214_0
    try clear hx217_0
    try clear hx222_0
    try clear hx227_0
    try clear p214
    try clear p217
    try clear p222
    try clear p227
    try clear q214
    try clear q217
    try clear q222
    try clear q227
    obtain ⟨x20_1, x21_1, rfl, rfl, HA, HK1, HO_19, BK208, BK209, BK210, HB⟩ := hrel
    cases gk with
    | zero => exact absurd HA.out (by simp [spec_l03Item.l3])
    | succ k1 =>
     have H := HA.out
     clear HA
     simp only [spec_l03Item.l3] at H
     by_cases c91 : x21_1 < (t224.length : Int)
     rotate_left
     ·rw [if_neg c91] at H
      have c91b0 : decide (x21_1 < (t224.length : Int)) = false := decide_eq_false c91
      clear c91
      obtain rfl := Option.some.inj H
      go_wp2
      repeat (go_quiet (fail); try go_wp2)
      go_ret
      exact ⟨eqN, bel_now⟩
     rw [if_pos c91] at H
     have c91b0 : decide (x21_1 < (t224.length : Int)) = true := decide_eq_true c91
     clear c91
     by_cases c92 : 0 ≤ x21_1
     rotate_left
     ·rw [if_neg c92] at H
      exact absurd H (by simp)
     rw [if_pos c92] at H
     have c92b0 : decide (0 ≤ x21_1) = true := decide_eq_true c92
     clear c92
     by_cases c93 : (rd t224 x21_1) > x20_1
     rotate_left
     ·rw [if_neg c93] at H
      have c93b0 : decide (x20_1 < (rd t224 x21_1)) = false := decide_eq_false c93
      clear c93
      have H' := Aside0.mk H
      clear H
      have p228 : 0 ≤ (x21_1 : Int) := of_decide_eq_true (by first | (with_reducible assumption) | assumption)
      have q228 : x21_1 < (t224.length : Int) := of_decide_eq_true (by first | (with_reducible assumption) | assumption)
      obtain ⟨ad228, e228, hx228_0⟩ := Kd.at_int (Kd.R_reads' HO_19.out).2.2 x21_1 p228 q228
      obtain rfl : ad227 = ad228 := (by injection e228)
      replace p228 := eq_true p228
      replace q228 := eq_true q228
      go_wp2
      repeat (go_quiet (fail); try go_wp2)
      go_roundg k1
      case measure => have := HK1.out; omega
      case rel => exact ⟨(x20_1), (wrap64 (x21_1 + 1)), (by first | rfl | (simp; done) | (simp [*]; done)), (by first | rfl | (simp; done) | (simp [*]; done)), H', ⟨by have := HK1.out; omega⟩, ⟨by (with_reducible repeat (first | apply Kd.R_alloc | apply Kd.R_drewN | apply Kd.R_drew)); exact HO_19.out⟩, ⟨bks BK208⟩, ⟨bks BK209⟩, ⟨bks BK210⟩, ⟨bel_now⟩⟩
     rw [if_pos c93] at H
     have c93b0 : decide (x20_1 < (rd t224 x21_1)) = true := decide_eq_true c93
     clear c93
     have H' := Aside0.mk H
     clear H
     have p228 : 0 ≤ (x21_1 : Int) := of_decide_eq_true (by first | (with_reducible assumption) | assumption)
     have q228 : x21_1 < (t224.length : Int) := of_decide_eq_true (by first | (with_reducible assumption) | assumption)
     obtain ⟨ad228, e228, hx228_0⟩ := Kd.at_int (Kd.R_reads' HO_19.out).2.2 x21_1 p228 q228
     obtain rfl : ad227 = ad228 := (by injection e228)
     replace p228 := eq_true p228
     replace q228 := eq_true q228
     have p229 : 0 ≤ (x21_1 : Int) := of_decide_eq_true (by first | (with_reducible assumption) | assumption)
     have q229 : x21_1 < (t224.length : Int) := of_decide_eq_true (by first | (with_reducible assumption) | assumption)
     obtain ⟨ad229, e229, hx229_0⟩ := Kd.at_int (Kd.R_reads' HO_19.out).2.2 x21_1 p229 q229
     obtain rfl : ad227 = ad229 := (by injection e229)
     replace p229 := eq_true p229
     replace q229 := eq_true q229
     go_wp2
     repeat (go_quiet (fail); try go_wp2)
     go_roundg k1
     case measure => have := HK1.out; omega
     case rel => exact ⟨(rd t224 x21_1), (wrap64 (x21_1 + 1)), (by first | rfl | (simp; done) | (simp [*]; done)), (by first | rfl | (simp; done) | (simp [*]; done)), H', ⟨by have := HK1.out; omega⟩, ⟨by (with_reducible repeat (first | apply Kd.R_alloc | apply Kd.R_drewN | apply Kd.R_drew)); exact HO_19.out⟩, ⟨bks BK208⟩, ⟨bks BK209⟩, ⟨bks BK210⟩, ⟨bel_now⟩⟩
  rw [if_neg c76] at H
  have c76b0 : (a1_0 == 2) = false := beq_eq_false_iff_ne.mpr c76
  have c76b1 : (a1_0 != 2) = true := bne_iff_ne.mpr c76
  by_cases c94 : a1_0 = 3
  ·rw [if_pos c94] at H
   have c94b0 : (a1_0 == 3) = true := beq_iff_eq.mpr c94
   have c94b1 : (a1_0 != 3) = false := bne_eq_false_iff_eq.mpr c94
   clear c94
   replace H := Option.bind_eq_some_iff.mp H
   obtain ⟨t230, A950, H⟩ := H
   (try dsimp only at H)
   have A95 := Aside0.mk A950
   clear A950
   have H' := Aside0.mk H
   clear H
   go_enter Try.func49, Try.ntmps49
   go_wp2_with (first | ((with_reducible refine gate_dst (N := 5) rfl ?_); refine boxM 5 #[.int .i64 a0_0, .int .i64 a0_1, .int .i64 a0_2, .slice A0_3 l0_3.length c0_3] 33 ?_; intro gb208 hg w96 BK208 hb; replace HB := box_at w hb hg; obtain ⟨HB, GW208, GE208⟩ := HB; clear hb hg) | ((with_reducible refine gate_dst (N := 6) rfl ?_); refine boxM 6 #[.int .i64 a1_0, .int .i64 a1_1, .int .i64 a1_2, .int .i64 a1_3, .int .i64 a1_4, .int .i64 a1_5, .int .i64 a1_6, .slice A1_7 l1_7.length c1_7, .slice A1_8 l1_8.length c1_8] 37 ?_; intro gb209 hg w97 BK209 hb; replace HB := box_at w hb hg; obtain ⟨HB, GW209, GE209⟩ := HB; replace BK208 := box_on gb208 hb hg; obtain ⟨BK208, NB208_209, NB209_208⟩ := BK208; clear hb hg; have hnb98 := NB208_209.out; have hnc98 := NB209_208.out; obtain ⟨hcz99_0, hcz99_1, hcz99_2, hcz99_3, hfz99_0, hfz99_1, hfz99_2, hfz99_3⟩ := cells4 BK208.out) | ((with_reducible refine gate_dst (N := 11) rfl ?_); refine boxM 11 #[.int .i64 0, .int .i64 0, .int .i64 0] 31 ?_; intro gb210 hg w100 BK210 hb; replace HB := box_at w hb hg; obtain ⟨HB, GW210, GE210⟩ := HB; replace BK208 := box_on gb208 hb hg; obtain ⟨BK208, NB208_210, NB210_208⟩ := BK208; replace BK209 := box_on gb209 hb hg; obtain ⟨BK209, NB209_210, NB210_209⟩ := BK209; clear hb hg; have hnb101 := NB210_208.out; have hnc101 := NB208_210.out; have hnb102 := NB210_209.out; have hnc102 := NB209_210.out; obtain ⟨hcz103_0, hcz103_1, hcz103_2, hfz103_0, hfz103_1, hfz103_2⟩ := cells3 BK210.out; obtain ⟨hcz104_0, hcz104_1, hcz104_2, hcz104_3, hcz104_4, hcz104_5, hcz104_6, hcz104_7, hcz104_8, hfz104_0, hfz104_1, hfz104_2, hfz104_3, hfz104_4, hfz104_5, hfz104_6, hfz104_7, hfz104_8⟩ := cells9 BK209.out; obtain ⟨hcz105_0, hcz105_1, hcz105_2, hcz105_3, hfz105_0, hfz105_1, hfz105_2, hfz105_3⟩ := cells4 BK208.out) | (go_at_call 100; (with_reducible refine (spec_l03Pool.calls k a0_0 a0_1 a0_2 _ _ l0_3 a1_0 a1_1 a1_2 a1_3 a1_4 a1_5 a1_6 _ _ l1_7 _ _ l1_8 a2 a3 a4 t230 _ ?side1 ?side2 ?side3 ?side4 ?side5 ?side6 A95.out).mono ?_); (case side1 => exact C_now HR0_3.out); (case side2 => exact HC0_3.out); (case side3 => exact C_now HR1_7.out); (case side4 => exact HC1_7.out); (case side5 => exact C_now HR1_8.out); (case side6 => exact HC1_8.out); rintro e w106 ⟨v231, rfl, ho0, hb⟩; have n0_ := Aside0.mk (Kd.R_lower ho0 (below_size bel_now)); replace HB := bel_on w hb; replace BK208 := Aside0.mk (blk_below (g := gb208) (o := .cells #[.int .i64 a0_0, .int .i64 a0_1, .int .i64 a0_2, .slice A0_3 l0_3.length c0_3] 33 (0, 0)) (blk_fars BK208.out) hb); replace BK209 := Aside0.mk (blk_below (g := gb209) (o := .cells #[.int .i64 a1_0, .int .i64 a1_1, .int .i64 a1_2, .int .i64 a1_3, .int .i64 a1_4, .int .i64 a1_5, .int .i64 a1_6, .slice A1_7 l1_7.length c1_7, .slice A1_8 l1_8.length c1_8] 37 (0, 0)) (blk_fars BK209.out) hb); replace BK210 := Aside0.mk (blk_below (g := gb210) (o := .cells #[.int .i64 a0_0, .int .i64 a0_1, .int .i64 a0_2] 31 (0, 0)) (blk_fars (puts3 BK210.out)) hb); have HO232 := n0_; clear n0_; (try clear hb); (try clear ho0)))
   repeat (go_quiet (first | ((with_reducible refine gate_dst (N := 5) rfl ?_); refine boxM 5 #[.int .i64 a0_0, .int .i64 a0_1, .int .i64 a0_2, .slice A0_3 l0_3.length c0_3] 33 ?_; intro gb208 hg w96 BK208 hb; replace HB := box_at w hb hg; obtain ⟨HB, GW208, GE208⟩ := HB; clear hb hg) | ((with_reducible refine gate_dst (N := 6) rfl ?_); refine boxM 6 #[.int .i64 a1_0, .int .i64 a1_1, .int .i64 a1_2, .int .i64 a1_3, .int .i64 a1_4, .int .i64 a1_5, .int .i64 a1_6, .slice A1_7 l1_7.length c1_7, .slice A1_8 l1_8.length c1_8] 37 ?_; intro gb209 hg w97 BK209 hb; replace HB := box_at w hb hg; obtain ⟨HB, GW209, GE209⟩ := HB; replace BK208 := box_on gb208 hb hg; obtain ⟨BK208, NB208_209, NB209_208⟩ := BK208; clear hb hg; have hnb98 := NB208_209.out; have hnc98 := NB209_208.out; obtain ⟨hcz99_0, hcz99_1, hcz99_2, hcz99_3, hfz99_0, hfz99_1, hfz99_2, hfz99_3⟩ := cells4 BK208.out) | ((with_reducible refine gate_dst (N := 11) rfl ?_); refine boxM 11 #[.int .i64 0, .int .i64 0, .int .i64 0] 31 ?_; intro gb210 hg w100 BK210 hb; replace HB := box_at w hb hg; obtain ⟨HB, GW210, GE210⟩ := HB; replace BK208 := box_on gb208 hb hg; obtain ⟨BK208, NB208_210, NB210_208⟩ := BK208; replace BK209 := box_on gb209 hb hg; obtain ⟨BK209, NB209_210, NB210_209⟩ := BK209; clear hb hg; have hnb101 := NB210_208.out; have hnc101 := NB208_210.out; have hnb102 := NB210_209.out; have hnc102 := NB209_210.out; obtain ⟨hcz103_0, hcz103_1, hcz103_2, hfz103_0, hfz103_1, hfz103_2⟩ := cells3 BK210.out; obtain ⟨hcz104_0, hcz104_1, hcz104_2, hcz104_3, hcz104_4, hcz104_5, hcz104_6, hcz104_7, hcz104_8, hfz104_0, hfz104_1, hfz104_2, hfz104_3, hfz104_4, hfz104_5, hfz104_6, hfz104_7, hfz104_8⟩ := cells9 BK209.out; obtain ⟨hcz105_0, hcz105_1, hcz105_2, hcz105_3, hfz105_0, hfz105_1, hfz105_2, hfz105_3⟩ := cells4 BK208.out) | (go_at_call 100; (with_reducible refine (spec_l03Pool.calls k a0_0 a0_1 a0_2 _ _ l0_3 a1_0 a1_1 a1_2 a1_3 a1_4 a1_5 a1_6 _ _ l1_7 _ _ l1_8 a2 a3 a4 t230 _ ?side1 ?side2 ?side3 ?side4 ?side5 ?side6 A95.out).mono ?_); (case side1 => exact C_now HR0_3.out); (case side2 => exact HC0_3.out); (case side3 => exact C_now HR1_7.out); (case side4 => exact HC1_7.out); (case side5 => exact C_now HR1_8.out); (case side6 => exact HC1_8.out); rintro e w106 ⟨v231, rfl, ho0, hb⟩; have n0_ := Aside0.mk (Kd.R_lower ho0 (below_size bel_now)); replace HB := bel_on w hb; replace BK208 := Aside0.mk (blk_below (g := gb208) (o := .cells #[.int .i64 a0_0, .int .i64 a0_1, .int .i64 a0_2, .slice A0_3 l0_3.length c0_3] 33 (0, 0)) (blk_fars BK208.out) hb); replace BK209 := Aside0.mk (blk_below (g := gb209) (o := .cells #[.int .i64 a1_0, .int .i64 a1_1, .int .i64 a1_2, .int .i64 a1_3, .int .i64 a1_4, .int .i64 a1_5, .int .i64 a1_6, .slice A1_7 l1_7.length c1_7, .slice A1_8 l1_8.length c1_8] 37 (0, 0)) (blk_fars BK209.out) hb); replace BK210 := Aside0.mk (blk_below (g := gb210) (o := .cells #[.int .i64 a0_0, .int .i64 a0_1, .int .i64 a0_2] 31 (0, 0)) (blk_fars (puts3 BK210.out)) hb); have HO232 := n0_; clear n0_; (try clear hb); (try clear ho0))); try go_wp2_with (first | ((with_reducible refine gate_dst (N := 5) rfl ?_); refine boxM 5 #[.int .i64 a0_0, .int .i64 a0_1, .int .i64 a0_2, .slice A0_3 l0_3.length c0_3] 33 ?_; intro gb208 hg w96 BK208 hb; replace HB := box_at w hb hg; obtain ⟨HB, GW208, GE208⟩ := HB; clear hb hg) | ((with_reducible refine gate_dst (N := 6) rfl ?_); refine boxM 6 #[.int .i64 a1_0, .int .i64 a1_1, .int .i64 a1_2, .int .i64 a1_3, .int .i64 a1_4, .int .i64 a1_5, .int .i64 a1_6, .slice A1_7 l1_7.length c1_7, .slice A1_8 l1_8.length c1_8] 37 ?_; intro gb209 hg w97 BK209 hb; replace HB := box_at w hb hg; obtain ⟨HB, GW209, GE209⟩ := HB; replace BK208 := box_on gb208 hb hg; obtain ⟨BK208, NB208_209, NB209_208⟩ := BK208; clear hb hg; have hnb98 := NB208_209.out; have hnc98 := NB209_208.out; obtain ⟨hcz99_0, hcz99_1, hcz99_2, hcz99_3, hfz99_0, hfz99_1, hfz99_2, hfz99_3⟩ := cells4 BK208.out) | ((with_reducible refine gate_dst (N := 11) rfl ?_); refine boxM 11 #[.int .i64 0, .int .i64 0, .int .i64 0] 31 ?_; intro gb210 hg w100 BK210 hb; replace HB := box_at w hb hg; obtain ⟨HB, GW210, GE210⟩ := HB; replace BK208 := box_on gb208 hb hg; obtain ⟨BK208, NB208_210, NB210_208⟩ := BK208; replace BK209 := box_on gb209 hb hg; obtain ⟨BK209, NB209_210, NB210_209⟩ := BK209; clear hb hg; have hnb101 := NB210_208.out; have hnc101 := NB208_210.out; have hnb102 := NB210_209.out; have hnc102 := NB209_210.out; obtain ⟨hcz103_0, hcz103_1, hcz103_2, hfz103_0, hfz103_1, hfz103_2⟩ := cells3 BK210.out; obtain ⟨hcz104_0, hcz104_1, hcz104_2, hcz104_3, hcz104_4, hcz104_5, hcz104_6, hcz104_7, hcz104_8, hfz104_0, hfz104_1, hfz104_2, hfz104_3, hfz104_4, hfz104_5, hfz104_6, hfz104_7, hfz104_8⟩ := cells9 BK209.out; obtain ⟨hcz105_0, hcz105_1, hcz105_2, hcz105_3, hfz105_0, hfz105_1, hfz105_2, hfz105_3⟩ := cells4 BK208.out) | (go_at_call 100; (with_reducible refine (spec_l03Pool.calls k a0_0 a0_1 a0_2 _ _ l0_3 a1_0 a1_1 a1_2 a1_3 a1_4 a1_5 a1_6 _ _ l1_7 _ _ l1_8 a2 a3 a4 t230 _ ?side1 ?side2 ?side3 ?side4 ?side5 ?side6 A95.out).mono ?_); (case side1 => exact C_now HR0_3.out); (case side2 => exact HC0_3.out); (case side3 => exact C_now HR1_7.out); (case side4 => exact HC1_7.out); (case side5 => exact C_now HR1_8.out); (case side6 => exact HC1_8.out); rintro e w106 ⟨v231, rfl, ho0, hb⟩; have n0_ := Aside0.mk (Kd.R_lower ho0 (below_size bel_now)); replace HB := bel_on w hb; replace BK208 := Aside0.mk (blk_below (g := gb208) (o := .cells #[.int .i64 a0_0, .int .i64 a0_1, .int .i64 a0_2, .slice A0_3 l0_3.length c0_3] 33 (0, 0)) (blk_fars BK208.out) hb); replace BK209 := Aside0.mk (blk_below (g := gb209) (o := .cells #[.int .i64 a1_0, .int .i64 a1_1, .int .i64 a1_2, .int .i64 a1_3, .int .i64 a1_4, .int .i64 a1_5, .int .i64 a1_6, .slice A1_7 l1_7.length c1_7, .slice A1_8 l1_8.length c1_8] 37 (0, 0)) (blk_fars BK209.out) hb); replace BK210 := Aside0.mk (blk_below (g := gb210) (o := .cells #[.int .i64 a0_0, .int .i64 a0_1, .int .i64 a0_2] 31 (0, 0)) (blk_fars (puts3 BK210.out)) hb); have HO232 := n0_; clear n0_; (try clear hb); (try clear ho0))))
   go_loopg [23, 24] k (fun kq v23 v24 w' => ∃ (x23_1 : Int) (x24_1 : Int), v23 = .int .i64 x23_1 ∧ v24 = .int .i64 x24_1 ∧ Aside0 (spec_l03Item.l4 kq t230 x23_1 x24_1 = some r) ∧ Aside0 (kq ≤ k) ∧ Aside0 (Kd.R (Kd.int .i64) 3 w' w.heap.size (fun _ => True) v231 t230) ∧ Aside0 (w'.heap[gb208]? = some (.cells #[.int .i64 a0_0, .int .i64 a0_1, .int .i64 a0_2, (.slice A0_3 l0_3.length c0_3)] 33 (0, 0))) ∧ Aside0 (w'.heap[gb209]? = some (.cells #[.int .i64 a1_0, .int .i64 a1_1, .int .i64 a1_2, .int .i64 a1_3, .int .i64 a1_4, .int .i64 a1_5, .int .i64 a1_6, (.slice A1_7 l1_7.length c1_7), (.slice A1_8 l1_8.length c1_8)] 37 (0, 0))) ∧ Aside0 (w'.heap[gb210]? = some (.cells #[.int .i64 a0_0, .int .i64 a0_1, .int .i64 a0_2] 31 (0, 0))) ∧ Aside0 (Below w.heap.size w w'))
   case atStart => exact ⟨(0), (0), (by first | rfl | (simp; done) | (simp [*]; done)), (by first | rfl | (simp; done) | (simp [*]; done)), H', ⟨Nat.le_refl _⟩, ⟨by (with_reducible repeat (first | apply Kd.R_alloc | apply Kd.R_drewN | apply Kd.R_drew)); exact HO232.out⟩, ⟨bks BK208⟩, ⟨bks BK209⟩, ⟨bks BK210⟩, ⟨bel_now⟩⟩
   case round =>
    clear H'
    try clear c1
    try clear c2
    try clear p2 p2
    try clear q2 q2
    try clear hx2
    try clear qi2
    try clear c3
    try clear c4
    try clear c5
    try clear c6
    try clear c6b0
    try clear c6b1
    try clear p6 p6
    try clear c7
    try clear c8
    try clear c9
    try clear c9b0
    try clear c9b1
    try clear c10
    try clear c10b0
    try clear c10b1
    try clear c11
    try clear c11b0
    try clear c11b1
    try clear c13
    try clear c13b0
    try clear c14
    try clear c14b0
    try clear c19
    try clear p21 p21
    try clear q21 q21
    try clear hx21
    try clear c22
    try clear p22 p22
    try clear q22 q22
    try clear hx22
    try clear qi22
    try clear c23
    try clear c30
    try clear c30b0
    try clear c30b1
    try clear c33
    try clear c36
    try clear c37
    try clear c40
    try clear c40b0
    try clear c41
    try clear c42
    try clear c44
    try clear c44b0
    try clear c45
    try clear c46
    try clear c48
    try clear c48b0
    try clear c49
    try clear c51
    try clear c51b0
    try clear c52
    try clear c52b0
    try clear c54
    try clear c55
    try clear c57
    try clear c63
    try clear c64
    try clear p64 p64
    try clear c66
    try clear c67
    try clear c69
    try clear c69b0
    try clear c70
    try clear c70b0
    try clear c73
    try clear c74
    try clear c76
    try clear c76b0
    try clear c76b1
    try clear c78
    try clear c78b0
    try clear c78b1
    try clear c81
    try clear c84
    try clear c85
    try clear c91
    try clear c91b0
    try clear c92
    try clear c92b0
    try clear c93
    try clear c93b0
    try clear c94
    try clear c94b0
    try clear c94b1
    try clear c98
    try clear c101
    try clear c102
    try clear hcz103_0 hcz103_1 hcz103_2 hfz103_0 hfz103_1 hfz103_2
    try clear hcz104_0 hcz104_1 hcz104_2 hcz104_3 hcz104_4 hcz104_5 hcz104_6 hcz104_7 hcz104_8 hfz104_0 hfz104_1 hfz104_2 hfz104_3 hfz104_4 hfz104_5 hfz104_6 hfz104_7 hfz104_8
    try clear hcz105_0 hcz105_1 hcz105_2 hcz105_3 hfz105_0 hfz105_1 hfz105_2 hfz105_3
    try clear hcz20_0 hcz20_1 hcz20_2 hcz20_3 hfz20_0 hfz20_1 hfz20_2 hfz20_3
    try clear hcz24_0 hcz24_1 hcz24_2 hfz24_0 hfz24_1 hfz24_2
    try clear hcz25_0 hcz25_1 hcz25_2 hcz25_3 hcz25_4 hcz25_5 hcz25_6 hcz25_7 hcz25_8 hfz25_0 hfz25_1 hfz25_2 hfz25_3 hfz25_4 hfz25_5 hfz25_6 hfz25_7 hfz25_8
    try clear hcz27_0 hcz27_1 hcz27_2 hcz27_3 hfz27_0 hfz27_1 hfz27_2 hfz27_3
    try clear hcz28_0 hcz28_1 hcz28_2 hcz28_3 hcz28_4 hcz28_5 hcz28_6 hcz28_7 hcz28_8 hfz28_0 hfz28_1 hfz28_2 hfz28_3 hfz28_4 hfz28_5 hfz28_6 hfz28_7 hfz28_8
    try clear hcz34_0 hcz34_1 hcz34_2 hcz34_3 hfz34_0 hfz34_1 hfz34_2 hfz34_3
    try clear hcz38_0 hcz38_1 hcz38_2 hfz38_0 hfz38_1 hfz38_2
    try clear hcz39_0 hcz39_1 hcz39_2 hcz39_3 hcz39_4 hcz39_5 hcz39_6 hcz39_7 hcz39_8 hfz39_0 hfz39_1 hfz39_2 hfz39_3 hfz39_4 hfz39_5 hfz39_6 hfz39_7 hfz39_8
    try clear hcz43_0 hcz43_1 hcz43_2 hcz43_3 hcz43_4 hcz43_5 hcz43_6 hcz43_7 hcz43_8 hfz43_0 hfz43_1 hfz43_2 hfz43_3 hfz43_4 hfz43_5 hfz43_6 hfz43_7 hfz43_8
    try clear hcz47_0 hcz47_1 hcz47_2 hcz47_3 hcz47_4 hcz47_5 hcz47_6 hcz47_7 hcz47_8 hfz47_0 hfz47_1 hfz47_2 hfz47_3 hfz47_4 hfz47_5 hfz47_6 hfz47_7 hfz47_8
    try clear hcz56_0 hcz56_1 hcz56_2 hfz56_0 hfz56_1 hfz56_2
    try clear hcz58_0 hcz58_1 hcz58_2 hcz58_3 hfz58_0 hfz58_1 hfz58_2 hfz58_3
    try clear hcz59_0 hcz59_1 hcz59_2 hcz59_3 hcz59_4 hcz59_5 hcz59_6 hcz59_7 hcz59_8 hfz59_0 hfz59_1 hfz59_2 hfz59_3 hfz59_4 hfz59_5 hfz59_6 hfz59_7 hfz59_8
    try clear hcz61_0 hcz61_1 hcz61_2 hcz61_3 hcz61_4 hcz61_5 hcz61_6 hcz61_7 hcz61_8 hfz61_0 hfz61_1 hfz61_2 hfz61_3 hfz61_4 hfz61_5 hfz61_6 hfz61_7 hfz61_8
    try clear hcz62_0 hcz62_1 hcz62_2 hfz62_0 hfz62_1 hfz62_2
    try clear hcz65_0 hcz65_1 hcz65_2 hfz65_0 hfz65_1 hfz65_2
    try clear hcz68_0 hcz68_1 hcz68_2 hcz68_3 hcz68_4 hcz68_5 hcz68_6 hcz68_7 hcz68_8 hfz68_0 hfz68_1 hfz68_2 hfz68_3 hfz68_4 hfz68_5 hfz68_6 hfz68_7 hfz68_8
    try clear hcz75_0 hcz75_1 hcz75_2 hcz75_3 hcz75_4 hcz75_5 hcz75_6 hcz75_7 hcz75_8 hfz75_0 hfz75_1 hfz75_2 hfz75_3 hfz75_4 hfz75_5 hfz75_6 hfz75_7 hfz75_8
    try clear hcz82_0 hcz82_1 hcz82_2 hcz82_3 hfz82_0 hfz82_1 hfz82_2 hfz82_3
    try clear hcz86_0 hcz86_1 hcz86_2 hfz86_0 hfz86_1 hfz86_2
    try clear hcz87_0 hcz87_1 hcz87_2 hcz87_3 hcz87_4 hcz87_5 hcz87_6 hcz87_7 hcz87_8 hfz87_0 hfz87_1 hfz87_2 hfz87_3 hfz87_4 hfz87_5 hfz87_6 hfz87_7 hfz87_8
    try clear hcz88_0 hcz88_1 hcz88_2 hcz88_3 hfz88_0 hfz88_1 hfz88_2 hfz88_3
    try clear hcz99_0 hcz99_1 hcz99_2 hcz99_3 hfz99_0 hfz99_1 hfz99_2 hfz99_3
    try clear hx214_0
    try clear hx217_0
    try clear hx222_0
    try clear hx227_0
    try clear hx228_0
    try clear hx229_0
    try clear p214
    try clear p217
    try clear p222
    try clear p227
    try clear p228
    try clear p229
    try clear q214
    try clear q217
    try clear q222
    try clear q227
    try clear q228
    try clear q229
    obtain ⟨x23_1, x24_1, rfl, rfl, HA, HK1, HO_22, BK208, BK209, BK210, HB⟩ := hrel
    cases gk with
    | zero => exact absurd HA.out (by simp [spec_l03Item.l4])
    | succ k1 =>
     have H := HA.out
     clear HA
     simp only [spec_l03Item.l4] at H
     by_cases c107 : x24_1 < (t230.length : Int)
     ·rw [if_pos c107] at H
      have c107b0 : decide (x24_1 < (t230.length : Int)) = true := decide_eq_true c107
      clear c107
      by_cases c108 : 0 ≤ x24_1
      rotate_left
      ·rw [if_neg c108] at H
       exact absurd H (by simp)
      rw [if_pos c108] at H
      have c108b0 : decide (0 ≤ x24_1) = true := decide_eq_true c108
      clear c108
      have H' := Aside0.mk H
      clear H
      obtain ⟨Ao109, co109, eo109⟩ := Kd.R_slice HO_22.out
      subst eo109
      have p233 : 0 ≤ (x24_1 : Int) := of_decide_eq_true (by first | (with_reducible assumption) | assumption)
      have q233 : x24_1 < (t230.length : Int) := of_decide_eq_true (by first | (with_reducible assumption) | assumption)
      obtain ⟨ad233, e233, hx233_0⟩ := Kd.at_int (Kd.R_reads' HO_22.out).2.2 x24_1 p233 q233
      cases e233
      replace p233 := eq_true p233
      replace q233 := eq_true q233
      go_wp2
      repeat (go_quiet (fail); try go_wp2)
      go_roundg k1
      case measure => have := HK1.out; omega
      case rel => exact ⟨(wrap64 (x23_1 + (rd t230 x24_1))), (wrap64 (x24_1 + 1)), (by first | rfl | (simp; done) | (simp [*]; done)), (by first | rfl | (simp; done) | (simp [*]; done)), H', ⟨by have := HK1.out; omega⟩, ⟨by (with_reducible repeat (first | apply Kd.R_alloc | apply Kd.R_drewN | apply Kd.R_drew)); exact HO_22.out⟩, ⟨bks BK208⟩, ⟨bks BK209⟩, ⟨bks BK210⟩, ⟨bel_now⟩⟩
     rw [if_neg c107] at H
     have c107b0 : decide (x24_1 < (t230.length : Int)) = false := decide_eq_false c107
     clear c107
     by_cases c110 : x23_1 < 0
     ·rw [if_pos c110] at H
      have c110b0 : decide (x23_1 < 0) = true := decide_eq_true c110
      clear c110
      by_cases c111 : (wrap64 (2 * (t230.length : Int))) = 0
      ·rw [if_pos c111] at H
       exact absurd H (by simp)
      rw [if_neg c111] at H
      have c111b0 : ((wrap64 (2 * (t230.length : Int))) == 0) = false := beq_eq_false_iff_ne.mpr c111
      have c111b1 : ((wrap64 (2 * (t230.length : Int))) != 0) = true := bne_iff_ne.mpr c111
      obtain rfl := Option.some.inj H
      obtain ⟨Ao112, co112, eo112⟩ := Kd.R_slice HO_22.out
      subst eo112
      go_wp2
      repeat (go_quiet (fail); try go_wp2)
      go_ret
      exact ⟨eqN, bel_now⟩
     rw [if_neg c110] at H
     have c110b0 : decide (x23_1 < 0) = false := decide_eq_false c110
     clear c110
     by_cases c113 : (wrap64 (2 * (t230.length : Int))) = 0
     ·rw [if_pos c113] at H
      exact absurd H (by simp)
     rw [if_neg c113] at H
     have c113b0 : ((wrap64 (2 * (t230.length : Int))) == 0) = false := beq_eq_false_iff_ne.mpr c113
     have c113b1 : ((wrap64 (2 * (t230.length : Int))) != 0) = true := bne_iff_ne.mpr c113
     obtain rfl := Option.some.inj H
     obtain ⟨Ao114, co114, eo114⟩ := Kd.R_slice HO_22.out
     subst eo114
     go_wp2
     repeat (go_quiet (fail); try go_wp2)
     go_ret
     exact ⟨eqN, bel_now⟩
  rw [if_neg c94] at H
  have c94b0 : (a1_0 == 3) = false := beq_eq_false_iff_ne.mpr c94
  have c94b1 : (a1_0 != 3) = true := bne_iff_ne.mpr c94
  by_cases c115 : a1_0 = 4
  rotate_left
  ·rw [if_neg c115] at H
   have c115b0 : (a1_0 == 4) = false := beq_eq_false_iff_ne.mpr c115
   have c115b1 : (a1_0 != 4) = true := bne_iff_ne.mpr c115
   by_cases c142 : 0 ≤ a4
   rotate_left
   ·rw [if_neg c142] at H
    exact absurd H (by simp)
   rw [if_pos c142] at H
   have c142b0 : decide (0 ≤ a4) = true := decide_eq_true c142
   clear c142
   by_cases c143 : a4 < (l0_3.length : Int)
   rotate_left
   ·rw [if_neg c143] at H
    exact absurd H (by simp)
   rw [if_pos c143] at H
   have c143b0 : decide (a4 < (l0_3.length : Int)) = true := decide_eq_true c143
   clear c143
   obtain rfl := Option.some.inj H
   go_enter Try.func49, Try.ntmps49
   go_wp2_with (first | ((with_reducible refine gate_dst (N := 5) rfl ?_); refine boxM 5 #[.int .i64 a0_0, .int .i64 a0_1, .int .i64 a0_2, .slice A0_3 l0_3.length c0_3] 33 ?_; intro gb208 hg w144 BK208 hb; replace HB := box_at w hb hg; obtain ⟨HB, GW208, GE208⟩ := HB; clear hb hg) | ((with_reducible refine gate_dst (N := 6) rfl ?_); refine boxM 6 #[.int .i64 a1_0, .int .i64 a1_1, .int .i64 a1_2, .int .i64 a1_3, .int .i64 a1_4, .int .i64 a1_5, .int .i64 a1_6, .slice A1_7 l1_7.length c1_7, .slice A1_8 l1_8.length c1_8] 37 ?_; intro gb209 hg w145 BK209 hb; replace HB := box_at w hb hg; obtain ⟨HB, GW209, GE209⟩ := HB; replace BK208 := box_on gb208 hb hg; obtain ⟨BK208, NB208_209, NB209_208⟩ := BK208; clear hb hg; have hnb146 := NB208_209.out; have hnc146 := NB209_208.out; obtain ⟨hcz147_0, hcz147_1, hcz147_2, hcz147_3, hfz147_0, hfz147_1, hfz147_2, hfz147_3⟩ := cells4 BK208.out) | ((with_reducible refine gate_dst (N := 11) rfl ?_); refine boxM 11 #[.int .i64 0, .int .i64 0, .int .i64 0] 31 ?_; intro gb210 hg w148 BK210 hb; replace HB := box_at w hb hg; obtain ⟨HB, GW210, GE210⟩ := HB; replace BK208 := box_on gb208 hb hg; obtain ⟨BK208, NB208_210, NB210_208⟩ := BK208; replace BK209 := box_on gb209 hb hg; obtain ⟨BK209, NB209_210, NB210_209⟩ := BK209; clear hb hg; have hnb149 := NB210_208.out; have hnc149 := NB208_210.out; have hnb150 := NB210_209.out; have hnc150 := NB209_210.out; obtain ⟨hcz151_0, hcz151_1, hcz151_2, hfz151_0, hfz151_1, hfz151_2⟩ := cells3 BK210.out; obtain ⟨hcz152_0, hcz152_1, hcz152_2, hcz152_3, hcz152_4, hcz152_5, hcz152_6, hcz152_7, hcz152_8, hfz152_0, hfz152_1, hfz152_2, hfz152_3, hfz152_4, hfz152_5, hfz152_6, hfz152_7, hfz152_8⟩ := cells9 BK209.out; obtain ⟨hcz153_0, hcz153_1, hcz153_2, hcz153_3, hfz153_0, hfz153_1, hfz153_2, hfz153_3⟩ := cells4 BK208.out; have p236 : 0 ≤ (a4 : Int) := of_decide_eq_true (by first | (with_reducible assumption) | assumption); have q236 : a4 < (l0_3.length : Int) := of_decide_eq_true (by first | (with_reducible assumption) | assumption); obtain ⟨ad236, e236, hx236_0⟩ := Kd.at_int HR0_3.out a4 p236 q236; cases e236; have hn236_0 : ad236.block ≠ gb210 := Nat.ne_of_lt (Nat.lt_of_lt_of_le (by have := World.block_lt_of_cell? _ _ hx236_0; first | rwa [add_block] at this | exact this) GW210.out); have hn236_1 : ad236.block ≠ gb210 := Nat.ne_of_lt (Nat.lt_of_lt_of_le (by have := World.block_lt_of_cell? _ _ hx236_0; first | rwa [add_block] at this | exact this) GW210.out); have hn236_2 : ad236.block ≠ gb210 := Nat.ne_of_lt (Nat.lt_of_lt_of_le (by have := World.block_lt_of_cell? _ _ hx236_0; first | rwa [add_block] at this | exact this) GW210.out); replace hx236_0 := (HB.out.cell (World.block_lt_of_cell? w _ hx236_0)).trans hx236_0; replace hx236_0 := (cell_far (p := ⟨gb210, 0, none⟩) (by first | (rw [add_block]; exact hn236_0) | (show (Addr.add _ _).block ≠ _; rw [add_block]; exact hn236_0) | exact hn236_0) (.int .i64 a0_0)).trans hx236_0; replace hx236_0 := (cell_far (p := ⟨gb210, 1, none⟩) (by first | (rw [add_block]; exact hn236_1) | (show (Addr.add _ _).block ≠ _; rw [add_block]; exact hn236_1) | exact hn236_1) (.int .i64 a0_1)).trans hx236_0; replace hx236_0 := (cell_far (p := ⟨gb210, 2, none⟩) (by first | (rw [add_block]; exact hn236_2) | (show (Addr.add _ _).block ≠ _; rw [add_block]; exact hn236_2) | exact hn236_2) (.int .i64 a0_2)).trans hx236_0; (try have hy236_0 := fun (n_ : Nat) => (show (((((w148.drewN n_).setCell ⟨gb210, 0, none⟩ (.int .i64 a0_0)).setCell ⟨gb210, 1, none⟩ (.int .i64 a0_1)).setCell ⟨gb210, 2, none⟩ (.int .i64 a0_2))).cell? _ = some _ from hx236_0)); clear hn236_0; clear hn236_1; clear hn236_2; replace p236 := eq_true p236; replace q236 := eq_true q236))
   repeat (go_quiet (first | ((with_reducible refine gate_dst (N := 5) rfl ?_); refine boxM 5 #[.int .i64 a0_0, .int .i64 a0_1, .int .i64 a0_2, .slice A0_3 l0_3.length c0_3] 33 ?_; intro gb208 hg w144 BK208 hb; replace HB := box_at w hb hg; obtain ⟨HB, GW208, GE208⟩ := HB; clear hb hg) | ((with_reducible refine gate_dst (N := 6) rfl ?_); refine boxM 6 #[.int .i64 a1_0, .int .i64 a1_1, .int .i64 a1_2, .int .i64 a1_3, .int .i64 a1_4, .int .i64 a1_5, .int .i64 a1_6, .slice A1_7 l1_7.length c1_7, .slice A1_8 l1_8.length c1_8] 37 ?_; intro gb209 hg w145 BK209 hb; replace HB := box_at w hb hg; obtain ⟨HB, GW209, GE209⟩ := HB; replace BK208 := box_on gb208 hb hg; obtain ⟨BK208, NB208_209, NB209_208⟩ := BK208; clear hb hg; have hnb146 := NB208_209.out; have hnc146 := NB209_208.out; obtain ⟨hcz147_0, hcz147_1, hcz147_2, hcz147_3, hfz147_0, hfz147_1, hfz147_2, hfz147_3⟩ := cells4 BK208.out) | ((with_reducible refine gate_dst (N := 11) rfl ?_); refine boxM 11 #[.int .i64 0, .int .i64 0, .int .i64 0] 31 ?_; intro gb210 hg w148 BK210 hb; replace HB := box_at w hb hg; obtain ⟨HB, GW210, GE210⟩ := HB; replace BK208 := box_on gb208 hb hg; obtain ⟨BK208, NB208_210, NB210_208⟩ := BK208; replace BK209 := box_on gb209 hb hg; obtain ⟨BK209, NB209_210, NB210_209⟩ := BK209; clear hb hg; have hnb149 := NB210_208.out; have hnc149 := NB208_210.out; have hnb150 := NB210_209.out; have hnc150 := NB209_210.out; obtain ⟨hcz151_0, hcz151_1, hcz151_2, hfz151_0, hfz151_1, hfz151_2⟩ := cells3 BK210.out; obtain ⟨hcz152_0, hcz152_1, hcz152_2, hcz152_3, hcz152_4, hcz152_5, hcz152_6, hcz152_7, hcz152_8, hfz152_0, hfz152_1, hfz152_2, hfz152_3, hfz152_4, hfz152_5, hfz152_6, hfz152_7, hfz152_8⟩ := cells9 BK209.out; obtain ⟨hcz153_0, hcz153_1, hcz153_2, hcz153_3, hfz153_0, hfz153_1, hfz153_2, hfz153_3⟩ := cells4 BK208.out; have p236 : 0 ≤ (a4 : Int) := of_decide_eq_true (by first | (with_reducible assumption) | assumption); have q236 : a4 < (l0_3.length : Int) := of_decide_eq_true (by first | (with_reducible assumption) | assumption); obtain ⟨ad236, e236, hx236_0⟩ := Kd.at_int HR0_3.out a4 p236 q236; cases e236; have hn236_0 : ad236.block ≠ gb210 := Nat.ne_of_lt (Nat.lt_of_lt_of_le (by have := World.block_lt_of_cell? _ _ hx236_0; first | rwa [add_block] at this | exact this) GW210.out); have hn236_1 : ad236.block ≠ gb210 := Nat.ne_of_lt (Nat.lt_of_lt_of_le (by have := World.block_lt_of_cell? _ _ hx236_0; first | rwa [add_block] at this | exact this) GW210.out); have hn236_2 : ad236.block ≠ gb210 := Nat.ne_of_lt (Nat.lt_of_lt_of_le (by have := World.block_lt_of_cell? _ _ hx236_0; first | rwa [add_block] at this | exact this) GW210.out); replace hx236_0 := (HB.out.cell (World.block_lt_of_cell? w _ hx236_0)).trans hx236_0; replace hx236_0 := (cell_far (p := ⟨gb210, 0, none⟩) (by first | (rw [add_block]; exact hn236_0) | (show (Addr.add _ _).block ≠ _; rw [add_block]; exact hn236_0) | exact hn236_0) (.int .i64 a0_0)).trans hx236_0; replace hx236_0 := (cell_far (p := ⟨gb210, 1, none⟩) (by first | (rw [add_block]; exact hn236_1) | (show (Addr.add _ _).block ≠ _; rw [add_block]; exact hn236_1) | exact hn236_1) (.int .i64 a0_1)).trans hx236_0; replace hx236_0 := (cell_far (p := ⟨gb210, 2, none⟩) (by first | (rw [add_block]; exact hn236_2) | (show (Addr.add _ _).block ≠ _; rw [add_block]; exact hn236_2) | exact hn236_2) (.int .i64 a0_2)).trans hx236_0; (try have hy236_0 := fun (n_ : Nat) => (show (((((w148.drewN n_).setCell ⟨gb210, 0, none⟩ (.int .i64 a0_0)).setCell ⟨gb210, 1, none⟩ (.int .i64 a0_1)).setCell ⟨gb210, 2, none⟩ (.int .i64 a0_2))).cell? _ = some _ from hx236_0)); clear hn236_0; clear hn236_1; clear hn236_2; replace p236 := eq_true p236; replace q236 := eq_true q236)); try go_wp2_with (first | ((with_reducible refine gate_dst (N := 5) rfl ?_); refine boxM 5 #[.int .i64 a0_0, .int .i64 a0_1, .int .i64 a0_2, .slice A0_3 l0_3.length c0_3] 33 ?_; intro gb208 hg w144 BK208 hb; replace HB := box_at w hb hg; obtain ⟨HB, GW208, GE208⟩ := HB; clear hb hg) | ((with_reducible refine gate_dst (N := 6) rfl ?_); refine boxM 6 #[.int .i64 a1_0, .int .i64 a1_1, .int .i64 a1_2, .int .i64 a1_3, .int .i64 a1_4, .int .i64 a1_5, .int .i64 a1_6, .slice A1_7 l1_7.length c1_7, .slice A1_8 l1_8.length c1_8] 37 ?_; intro gb209 hg w145 BK209 hb; replace HB := box_at w hb hg; obtain ⟨HB, GW209, GE209⟩ := HB; replace BK208 := box_on gb208 hb hg; obtain ⟨BK208, NB208_209, NB209_208⟩ := BK208; clear hb hg; have hnb146 := NB208_209.out; have hnc146 := NB209_208.out; obtain ⟨hcz147_0, hcz147_1, hcz147_2, hcz147_3, hfz147_0, hfz147_1, hfz147_2, hfz147_3⟩ := cells4 BK208.out) | ((with_reducible refine gate_dst (N := 11) rfl ?_); refine boxM 11 #[.int .i64 0, .int .i64 0, .int .i64 0] 31 ?_; intro gb210 hg w148 BK210 hb; replace HB := box_at w hb hg; obtain ⟨HB, GW210, GE210⟩ := HB; replace BK208 := box_on gb208 hb hg; obtain ⟨BK208, NB208_210, NB210_208⟩ := BK208; replace BK209 := box_on gb209 hb hg; obtain ⟨BK209, NB209_210, NB210_209⟩ := BK209; clear hb hg; have hnb149 := NB210_208.out; have hnc149 := NB208_210.out; have hnb150 := NB210_209.out; have hnc150 := NB209_210.out; obtain ⟨hcz151_0, hcz151_1, hcz151_2, hfz151_0, hfz151_1, hfz151_2⟩ := cells3 BK210.out; obtain ⟨hcz152_0, hcz152_1, hcz152_2, hcz152_3, hcz152_4, hcz152_5, hcz152_6, hcz152_7, hcz152_8, hfz152_0, hfz152_1, hfz152_2, hfz152_3, hfz152_4, hfz152_5, hfz152_6, hfz152_7, hfz152_8⟩ := cells9 BK209.out; obtain ⟨hcz153_0, hcz153_1, hcz153_2, hcz153_3, hfz153_0, hfz153_1, hfz153_2, hfz153_3⟩ := cells4 BK208.out; have p236 : 0 ≤ (a4 : Int) := of_decide_eq_true (by first | (with_reducible assumption) | assumption); have q236 : a4 < (l0_3.length : Int) := of_decide_eq_true (by first | (with_reducible assumption) | assumption); obtain ⟨ad236, e236, hx236_0⟩ := Kd.at_int HR0_3.out a4 p236 q236; cases e236; have hn236_0 : ad236.block ≠ gb210 := Nat.ne_of_lt (Nat.lt_of_lt_of_le (by have := World.block_lt_of_cell? _ _ hx236_0; first | rwa [add_block] at this | exact this) GW210.out); have hn236_1 : ad236.block ≠ gb210 := Nat.ne_of_lt (Nat.lt_of_lt_of_le (by have := World.block_lt_of_cell? _ _ hx236_0; first | rwa [add_block] at this | exact this) GW210.out); have hn236_2 : ad236.block ≠ gb210 := Nat.ne_of_lt (Nat.lt_of_lt_of_le (by have := World.block_lt_of_cell? _ _ hx236_0; first | rwa [add_block] at this | exact this) GW210.out); replace hx236_0 := (HB.out.cell (World.block_lt_of_cell? w _ hx236_0)).trans hx236_0; replace hx236_0 := (cell_far (p := ⟨gb210, 0, none⟩) (by first | (rw [add_block]; exact hn236_0) | (show (Addr.add _ _).block ≠ _; rw [add_block]; exact hn236_0) | exact hn236_0) (.int .i64 a0_0)).trans hx236_0; replace hx236_0 := (cell_far (p := ⟨gb210, 1, none⟩) (by first | (rw [add_block]; exact hn236_1) | (show (Addr.add _ _).block ≠ _; rw [add_block]; exact hn236_1) | exact hn236_1) (.int .i64 a0_1)).trans hx236_0; replace hx236_0 := (cell_far (p := ⟨gb210, 2, none⟩) (by first | (rw [add_block]; exact hn236_2) | (show (Addr.add _ _).block ≠ _; rw [add_block]; exact hn236_2) | exact hn236_2) (.int .i64 a0_2)).trans hx236_0; (try have hy236_0 := fun (n_ : Nat) => (show (((((w148.drewN n_).setCell ⟨gb210, 0, none⟩ (.int .i64 a0_0)).setCell ⟨gb210, 1, none⟩ (.int .i64 a0_1)).setCell ⟨gb210, 2, none⟩ (.int .i64 a0_2))).cell? _ = some _ from hx236_0)); clear hn236_0; clear hn236_1; clear hn236_2; replace p236 := eq_true p236; replace q236 := eq_true q236)))
   go_ret
   exact ⟨eqN, bel_now⟩
  rw [if_pos c115] at H
  have c115b0 : (a1_0 == 4) = true := beq_iff_eq.mpr c115
  have c115b1 : (a1_0 != 4) = false := bne_eq_false_iff_eq.mpr c115
  clear c115
  replace H := Option.bind_eq_some_iff.mp H
  obtain ⟨⟨t234, t235⟩, A1160, H⟩ := H
  (try dsimp only at H)
  have A116 := Aside0.mk A1160
  clear A1160
  by_cases c117 : t234 < a1_6
  ·rw [if_pos c117] at H
   have c117b0 : decide (t234 < a1_6) = true := decide_eq_true c117
   clear c117
   obtain rfl := Option.some.inj H
   go_enter Try.func49, Try.ntmps49
   go_wp2_with (first | ((with_reducible refine gate_dst (N := 5) rfl ?_); refine boxM 5 #[.int .i64 a0_0, .int .i64 a0_1, .int .i64 a0_2, .slice A0_3 l0_3.length c0_3] 33 ?_; intro gb208 hg w118 BK208 hb; replace HB := box_at w hb hg; obtain ⟨HB, GW208, GE208⟩ := HB; clear hb hg) | ((with_reducible refine gate_dst (N := 6) rfl ?_); refine boxM 6 #[.int .i64 a1_0, .int .i64 a1_1, .int .i64 a1_2, .int .i64 a1_3, .int .i64 a1_4, .int .i64 a1_5, .int .i64 a1_6, .slice A1_7 l1_7.length c1_7, .slice A1_8 l1_8.length c1_8] 37 ?_; intro gb209 hg w119 BK209 hb; replace HB := box_at w hb hg; obtain ⟨HB, GW209, GE209⟩ := HB; replace BK208 := box_on gb208 hb hg; obtain ⟨BK208, NB208_209, NB209_208⟩ := BK208; clear hb hg; have hnb120 := NB208_209.out; have hnc120 := NB209_208.out; obtain ⟨hcz121_0, hcz121_1, hcz121_2, hcz121_3, hfz121_0, hfz121_1, hfz121_2, hfz121_3⟩ := cells4 BK208.out) | ((with_reducible refine gate_dst (N := 11) rfl ?_); refine boxM 11 #[.int .i64 0, .int .i64 0, .int .i64 0] 31 ?_; intro gb210 hg w122 BK210 hb; replace HB := box_at w hb hg; obtain ⟨HB, GW210, GE210⟩ := HB; replace BK208 := box_on gb208 hb hg; obtain ⟨BK208, NB208_210, NB210_208⟩ := BK208; replace BK209 := box_on gb209 hb hg; obtain ⟨BK209, NB209_210, NB210_209⟩ := BK209; clear hb hg; have hnb123 := NB210_208.out; have hnc123 := NB208_210.out; have hnb124 := NB210_209.out; have hnc124 := NB209_210.out; obtain ⟨hcz125_0, hcz125_1, hcz125_2, hfz125_0, hfz125_1, hfz125_2⟩ := cells3 BK210.out; obtain ⟨hcz126_0, hcz126_1, hcz126_2, hcz126_3, hcz126_4, hcz126_5, hcz126_6, hcz126_7, hcz126_8, hfz126_0, hfz126_1, hfz126_2, hfz126_3, hfz126_4, hfz126_5, hfz126_6, hfz126_7, hfz126_8⟩ := cells9 BK209.out; obtain ⟨hcz127_0, hcz127_1, hcz127_2, hcz127_3, hfz127_0, hfz127_1, hfz127_2, hfz127_3⟩ := cells4 BK208.out) | (go_at_call 99; (with_reducible refine (spec_ItemAt.calls k a0_0 a0_1 a0_2 _ _ l0_3 a2 a3 a4 t234 t235 _ ?side1 ?side2 A116.out).mono ?_); (case side1 => exact C_now HR0_3.out); (case side2 => exact HC0_3.out); rintro e w128 ⟨rfl, hb⟩; replace HB := bel_on w hb; replace BK208 := Aside0.mk (blk_below (g := gb208) (o := .cells #[.int .i64 a0_0, .int .i64 a0_1, .int .i64 a0_2, .slice A0_3 l0_3.length c0_3] 33 (0, 0)) (blk_fars BK208.out) hb); replace BK209 := Aside0.mk (blk_below (g := gb209) (o := .cells #[.int .i64 a1_0, .int .i64 a1_1, .int .i64 a1_2, .int .i64 a1_3, .int .i64 a1_4, .int .i64 a1_5, .int .i64 a1_6, .slice A1_7 l1_7.length c1_7, .slice A1_8 l1_8.length c1_8] 37 (0, 0)) (blk_fars BK209.out) hb); replace BK210 := Aside0.mk (blk_below (g := gb210) (o := .cells #[.int .i64 a0_0, .int .i64 a0_1, .int .i64 a0_2] 31 (0, 0)) (blk_fars (puts3 BK210.out)) hb); (try clear hb); obtain ⟨hcz129_0, hcz129_1, hcz129_2, hcz129_3, hcz129_4, hcz129_5, hcz129_6, hcz129_7, hcz129_8, hfz129_0, hfz129_1, hfz129_2, hfz129_3, hfz129_4, hfz129_5, hfz129_6, hfz129_7, hfz129_8⟩ := cells9 BK209.out))
   repeat (go_quiet (first | ((with_reducible refine gate_dst (N := 5) rfl ?_); refine boxM 5 #[.int .i64 a0_0, .int .i64 a0_1, .int .i64 a0_2, .slice A0_3 l0_3.length c0_3] 33 ?_; intro gb208 hg w118 BK208 hb; replace HB := box_at w hb hg; obtain ⟨HB, GW208, GE208⟩ := HB; clear hb hg) | ((with_reducible refine gate_dst (N := 6) rfl ?_); refine boxM 6 #[.int .i64 a1_0, .int .i64 a1_1, .int .i64 a1_2, .int .i64 a1_3, .int .i64 a1_4, .int .i64 a1_5, .int .i64 a1_6, .slice A1_7 l1_7.length c1_7, .slice A1_8 l1_8.length c1_8] 37 ?_; intro gb209 hg w119 BK209 hb; replace HB := box_at w hb hg; obtain ⟨HB, GW209, GE209⟩ := HB; replace BK208 := box_on gb208 hb hg; obtain ⟨BK208, NB208_209, NB209_208⟩ := BK208; clear hb hg; have hnb120 := NB208_209.out; have hnc120 := NB209_208.out; obtain ⟨hcz121_0, hcz121_1, hcz121_2, hcz121_3, hfz121_0, hfz121_1, hfz121_2, hfz121_3⟩ := cells4 BK208.out) | ((with_reducible refine gate_dst (N := 11) rfl ?_); refine boxM 11 #[.int .i64 0, .int .i64 0, .int .i64 0] 31 ?_; intro gb210 hg w122 BK210 hb; replace HB := box_at w hb hg; obtain ⟨HB, GW210, GE210⟩ := HB; replace BK208 := box_on gb208 hb hg; obtain ⟨BK208, NB208_210, NB210_208⟩ := BK208; replace BK209 := box_on gb209 hb hg; obtain ⟨BK209, NB209_210, NB210_209⟩ := BK209; clear hb hg; have hnb123 := NB210_208.out; have hnc123 := NB208_210.out; have hnb124 := NB210_209.out; have hnc124 := NB209_210.out; obtain ⟨hcz125_0, hcz125_1, hcz125_2, hfz125_0, hfz125_1, hfz125_2⟩ := cells3 BK210.out; obtain ⟨hcz126_0, hcz126_1, hcz126_2, hcz126_3, hcz126_4, hcz126_5, hcz126_6, hcz126_7, hcz126_8, hfz126_0, hfz126_1, hfz126_2, hfz126_3, hfz126_4, hfz126_5, hfz126_6, hfz126_7, hfz126_8⟩ := cells9 BK209.out; obtain ⟨hcz127_0, hcz127_1, hcz127_2, hcz127_3, hfz127_0, hfz127_1, hfz127_2, hfz127_3⟩ := cells4 BK208.out) | (go_at_call 99; (with_reducible refine (spec_ItemAt.calls k a0_0 a0_1 a0_2 _ _ l0_3 a2 a3 a4 t234 t235 _ ?side1 ?side2 A116.out).mono ?_); (case side1 => exact C_now HR0_3.out); (case side2 => exact HC0_3.out); rintro e w128 ⟨rfl, hb⟩; replace HB := bel_on w hb; replace BK208 := Aside0.mk (blk_below (g := gb208) (o := .cells #[.int .i64 a0_0, .int .i64 a0_1, .int .i64 a0_2, .slice A0_3 l0_3.length c0_3] 33 (0, 0)) (blk_fars BK208.out) hb); replace BK209 := Aside0.mk (blk_below (g := gb209) (o := .cells #[.int .i64 a1_0, .int .i64 a1_1, .int .i64 a1_2, .int .i64 a1_3, .int .i64 a1_4, .int .i64 a1_5, .int .i64 a1_6, .slice A1_7 l1_7.length c1_7, .slice A1_8 l1_8.length c1_8] 37 (0, 0)) (blk_fars BK209.out) hb); replace BK210 := Aside0.mk (blk_below (g := gb210) (o := .cells #[.int .i64 a0_0, .int .i64 a0_1, .int .i64 a0_2] 31 (0, 0)) (blk_fars (puts3 BK210.out)) hb); (try clear hb); obtain ⟨hcz129_0, hcz129_1, hcz129_2, hcz129_3, hcz129_4, hcz129_5, hcz129_6, hcz129_7, hcz129_8, hfz129_0, hfz129_1, hfz129_2, hfz129_3, hfz129_4, hfz129_5, hfz129_6, hfz129_7, hfz129_8⟩ := cells9 BK209.out)); try go_wp2_with (first | ((with_reducible refine gate_dst (N := 5) rfl ?_); refine boxM 5 #[.int .i64 a0_0, .int .i64 a0_1, .int .i64 a0_2, .slice A0_3 l0_3.length c0_3] 33 ?_; intro gb208 hg w118 BK208 hb; replace HB := box_at w hb hg; obtain ⟨HB, GW208, GE208⟩ := HB; clear hb hg) | ((with_reducible refine gate_dst (N := 6) rfl ?_); refine boxM 6 #[.int .i64 a1_0, .int .i64 a1_1, .int .i64 a1_2, .int .i64 a1_3, .int .i64 a1_4, .int .i64 a1_5, .int .i64 a1_6, .slice A1_7 l1_7.length c1_7, .slice A1_8 l1_8.length c1_8] 37 ?_; intro gb209 hg w119 BK209 hb; replace HB := box_at w hb hg; obtain ⟨HB, GW209, GE209⟩ := HB; replace BK208 := box_on gb208 hb hg; obtain ⟨BK208, NB208_209, NB209_208⟩ := BK208; clear hb hg; have hnb120 := NB208_209.out; have hnc120 := NB209_208.out; obtain ⟨hcz121_0, hcz121_1, hcz121_2, hcz121_3, hfz121_0, hfz121_1, hfz121_2, hfz121_3⟩ := cells4 BK208.out) | ((with_reducible refine gate_dst (N := 11) rfl ?_); refine boxM 11 #[.int .i64 0, .int .i64 0, .int .i64 0] 31 ?_; intro gb210 hg w122 BK210 hb; replace HB := box_at w hb hg; obtain ⟨HB, GW210, GE210⟩ := HB; replace BK208 := box_on gb208 hb hg; obtain ⟨BK208, NB208_210, NB210_208⟩ := BK208; replace BK209 := box_on gb209 hb hg; obtain ⟨BK209, NB209_210, NB210_209⟩ := BK209; clear hb hg; have hnb123 := NB210_208.out; have hnc123 := NB208_210.out; have hnb124 := NB210_209.out; have hnc124 := NB209_210.out; obtain ⟨hcz125_0, hcz125_1, hcz125_2, hfz125_0, hfz125_1, hfz125_2⟩ := cells3 BK210.out; obtain ⟨hcz126_0, hcz126_1, hcz126_2, hcz126_3, hcz126_4, hcz126_5, hcz126_6, hcz126_7, hcz126_8, hfz126_0, hfz126_1, hfz126_2, hfz126_3, hfz126_4, hfz126_5, hfz126_6, hfz126_7, hfz126_8⟩ := cells9 BK209.out; obtain ⟨hcz127_0, hcz127_1, hcz127_2, hcz127_3, hfz127_0, hfz127_1, hfz127_2, hfz127_3⟩ := cells4 BK208.out) | (go_at_call 99; (with_reducible refine (spec_ItemAt.calls k a0_0 a0_1 a0_2 _ _ l0_3 a2 a3 a4 t234 t235 _ ?side1 ?side2 A116.out).mono ?_); (case side1 => exact C_now HR0_3.out); (case side2 => exact HC0_3.out); rintro e w128 ⟨rfl, hb⟩; replace HB := bel_on w hb; replace BK208 := Aside0.mk (blk_below (g := gb208) (o := .cells #[.int .i64 a0_0, .int .i64 a0_1, .int .i64 a0_2, .slice A0_3 l0_3.length c0_3] 33 (0, 0)) (blk_fars BK208.out) hb); replace BK209 := Aside0.mk (blk_below (g := gb209) (o := .cells #[.int .i64 a1_0, .int .i64 a1_1, .int .i64 a1_2, .int .i64 a1_3, .int .i64 a1_4, .int .i64 a1_5, .int .i64 a1_6, .slice A1_7 l1_7.length c1_7, .slice A1_8 l1_8.length c1_8] 37 (0, 0)) (blk_fars BK209.out) hb); replace BK210 := Aside0.mk (blk_below (g := gb210) (o := .cells #[.int .i64 a0_0, .int .i64 a0_1, .int .i64 a0_2] 31 (0, 0)) (blk_fars (puts3 BK210.out)) hb); (try clear hb); obtain ⟨hcz129_0, hcz129_1, hcz129_2, hcz129_3, hcz129_4, hcz129_5, hcz129_6, hcz129_7, hcz129_8, hfz129_0, hfz129_1, hfz129_2, hfz129_3, hfz129_4, hfz129_5, hfz129_6, hfz129_7, hfz129_8⟩ := cells9 BK209.out)))
   go_ret
   exact ⟨eqN, bel_now⟩
  rw [if_neg c117] at H
  have c117b0 : decide (t234 < a1_6) = false := decide_eq_false c117
  clear c117
  obtain rfl := Option.some.inj H
  go_enter Try.func49, Try.ntmps49
  go_wp2_with (first | ((with_reducible refine gate_dst (N := 5) rfl ?_); refine boxM 5 #[.int .i64 a0_0, .int .i64 a0_1, .int .i64 a0_2, .slice A0_3 l0_3.length c0_3] 33 ?_; intro gb208 hg w130 BK208 hb; replace HB := box_at w hb hg; obtain ⟨HB, GW208, GE208⟩ := HB; clear hb hg) | ((with_reducible refine gate_dst (N := 6) rfl ?_); refine boxM 6 #[.int .i64 a1_0, .int .i64 a1_1, .int .i64 a1_2, .int .i64 a1_3, .int .i64 a1_4, .int .i64 a1_5, .int .i64 a1_6, .slice A1_7 l1_7.length c1_7, .slice A1_8 l1_8.length c1_8] 37 ?_; intro gb209 hg w131 BK209 hb; replace HB := box_at w hb hg; obtain ⟨HB, GW209, GE209⟩ := HB; replace BK208 := box_on gb208 hb hg; obtain ⟨BK208, NB208_209, NB209_208⟩ := BK208; clear hb hg; have hnb132 := NB208_209.out; have hnc132 := NB209_208.out; obtain ⟨hcz133_0, hcz133_1, hcz133_2, hcz133_3, hfz133_0, hfz133_1, hfz133_2, hfz133_3⟩ := cells4 BK208.out) | ((with_reducible refine gate_dst (N := 11) rfl ?_); refine boxM 11 #[.int .i64 0, .int .i64 0, .int .i64 0] 31 ?_; intro gb210 hg w134 BK210 hb; replace HB := box_at w hb hg; obtain ⟨HB, GW210, GE210⟩ := HB; replace BK208 := box_on gb208 hb hg; obtain ⟨BK208, NB208_210, NB210_208⟩ := BK208; replace BK209 := box_on gb209 hb hg; obtain ⟨BK209, NB209_210, NB210_209⟩ := BK209; clear hb hg; have hnb135 := NB210_208.out; have hnc135 := NB208_210.out; have hnb136 := NB210_209.out; have hnc136 := NB209_210.out; obtain ⟨hcz137_0, hcz137_1, hcz137_2, hfz137_0, hfz137_1, hfz137_2⟩ := cells3 BK210.out; obtain ⟨hcz138_0, hcz138_1, hcz138_2, hcz138_3, hcz138_4, hcz138_5, hcz138_6, hcz138_7, hcz138_8, hfz138_0, hfz138_1, hfz138_2, hfz138_3, hfz138_4, hfz138_5, hfz138_6, hfz138_7, hfz138_8⟩ := cells9 BK209.out; obtain ⟨hcz139_0, hcz139_1, hcz139_2, hcz139_3, hfz139_0, hfz139_1, hfz139_2, hfz139_3⟩ := cells4 BK208.out) | (go_at_call 99; (with_reducible refine (spec_ItemAt.calls k a0_0 a0_1 a0_2 _ _ l0_3 a2 a3 a4 t234 t235 _ ?side1 ?side2 A116.out).mono ?_); (case side1 => exact C_now HR0_3.out); (case side2 => exact HC0_3.out); rintro e w140 ⟨rfl, hb⟩; replace HB := bel_on w hb; replace BK208 := Aside0.mk (blk_below (g := gb208) (o := .cells #[.int .i64 a0_0, .int .i64 a0_1, .int .i64 a0_2, .slice A0_3 l0_3.length c0_3] 33 (0, 0)) (blk_fars BK208.out) hb); replace BK209 := Aside0.mk (blk_below (g := gb209) (o := .cells #[.int .i64 a1_0, .int .i64 a1_1, .int .i64 a1_2, .int .i64 a1_3, .int .i64 a1_4, .int .i64 a1_5, .int .i64 a1_6, .slice A1_7 l1_7.length c1_7, .slice A1_8 l1_8.length c1_8] 37 (0, 0)) (blk_fars BK209.out) hb); replace BK210 := Aside0.mk (blk_below (g := gb210) (o := .cells #[.int .i64 a0_0, .int .i64 a0_1, .int .i64 a0_2] 31 (0, 0)) (blk_fars (puts3 BK210.out)) hb); (try clear hb); obtain ⟨hcz141_0, hcz141_1, hcz141_2, hcz141_3, hcz141_4, hcz141_5, hcz141_6, hcz141_7, hcz141_8, hfz141_0, hfz141_1, hfz141_2, hfz141_3, hfz141_4, hfz141_5, hfz141_6, hfz141_7, hfz141_8⟩ := cells9 BK209.out))
  repeat (go_quiet (first | ((with_reducible refine gate_dst (N := 5) rfl ?_); refine boxM 5 #[.int .i64 a0_0, .int .i64 a0_1, .int .i64 a0_2, .slice A0_3 l0_3.length c0_3] 33 ?_; intro gb208 hg w130 BK208 hb; replace HB := box_at w hb hg; obtain ⟨HB, GW208, GE208⟩ := HB; clear hb hg) | ((with_reducible refine gate_dst (N := 6) rfl ?_); refine boxM 6 #[.int .i64 a1_0, .int .i64 a1_1, .int .i64 a1_2, .int .i64 a1_3, .int .i64 a1_4, .int .i64 a1_5, .int .i64 a1_6, .slice A1_7 l1_7.length c1_7, .slice A1_8 l1_8.length c1_8] 37 ?_; intro gb209 hg w131 BK209 hb; replace HB := box_at w hb hg; obtain ⟨HB, GW209, GE209⟩ := HB; replace BK208 := box_on gb208 hb hg; obtain ⟨BK208, NB208_209, NB209_208⟩ := BK208; clear hb hg; have hnb132 := NB208_209.out; have hnc132 := NB209_208.out; obtain ⟨hcz133_0, hcz133_1, hcz133_2, hcz133_3, hfz133_0, hfz133_1, hfz133_2, hfz133_3⟩ := cells4 BK208.out) | ((with_reducible refine gate_dst (N := 11) rfl ?_); refine boxM 11 #[.int .i64 0, .int .i64 0, .int .i64 0] 31 ?_; intro gb210 hg w134 BK210 hb; replace HB := box_at w hb hg; obtain ⟨HB, GW210, GE210⟩ := HB; replace BK208 := box_on gb208 hb hg; obtain ⟨BK208, NB208_210, NB210_208⟩ := BK208; replace BK209 := box_on gb209 hb hg; obtain ⟨BK209, NB209_210, NB210_209⟩ := BK209; clear hb hg; have hnb135 := NB210_208.out; have hnc135 := NB208_210.out; have hnb136 := NB210_209.out; have hnc136 := NB209_210.out; obtain ⟨hcz137_0, hcz137_1, hcz137_2, hfz137_0, hfz137_1, hfz137_2⟩ := cells3 BK210.out; obtain ⟨hcz138_0, hcz138_1, hcz138_2, hcz138_3, hcz138_4, hcz138_5, hcz138_6, hcz138_7, hcz138_8, hfz138_0, hfz138_1, hfz138_2, hfz138_3, hfz138_4, hfz138_5, hfz138_6, hfz138_7, hfz138_8⟩ := cells9 BK209.out; obtain ⟨hcz139_0, hcz139_1, hcz139_2, hcz139_3, hfz139_0, hfz139_1, hfz139_2, hfz139_3⟩ := cells4 BK208.out) | (go_at_call 99; (with_reducible refine (spec_ItemAt.calls k a0_0 a0_1 a0_2 _ _ l0_3 a2 a3 a4 t234 t235 _ ?side1 ?side2 A116.out).mono ?_); (case side1 => exact C_now HR0_3.out); (case side2 => exact HC0_3.out); rintro e w140 ⟨rfl, hb⟩; replace HB := bel_on w hb; replace BK208 := Aside0.mk (blk_below (g := gb208) (o := .cells #[.int .i64 a0_0, .int .i64 a0_1, .int .i64 a0_2, .slice A0_3 l0_3.length c0_3] 33 (0, 0)) (blk_fars BK208.out) hb); replace BK209 := Aside0.mk (blk_below (g := gb209) (o := .cells #[.int .i64 a1_0, .int .i64 a1_1, .int .i64 a1_2, .int .i64 a1_3, .int .i64 a1_4, .int .i64 a1_5, .int .i64 a1_6, .slice A1_7 l1_7.length c1_7, .slice A1_8 l1_8.length c1_8] 37 (0, 0)) (blk_fars BK209.out) hb); replace BK210 := Aside0.mk (blk_below (g := gb210) (o := .cells #[.int .i64 a0_0, .int .i64 a0_1, .int .i64 a0_2] 31 (0, 0)) (blk_fars (puts3 BK210.out)) hb); (try clear hb); obtain ⟨hcz141_0, hcz141_1, hcz141_2, hcz141_3, hcz141_4, hcz141_5, hcz141_6, hcz141_7, hcz141_8, hfz141_0, hfz141_1, hfz141_2, hfz141_3, hfz141_4, hfz141_5, hfz141_6, hfz141_7, hfz141_8⟩ := cells9 BK209.out)); try go_wp2_with (first | ((with_reducible refine gate_dst (N := 5) rfl ?_); refine boxM 5 #[.int .i64 a0_0, .int .i64 a0_1, .int .i64 a0_2, .slice A0_3 l0_3.length c0_3] 33 ?_; intro gb208 hg w130 BK208 hb; replace HB := box_at w hb hg; obtain ⟨HB, GW208, GE208⟩ := HB; clear hb hg) | ((with_reducible refine gate_dst (N := 6) rfl ?_); refine boxM 6 #[.int .i64 a1_0, .int .i64 a1_1, .int .i64 a1_2, .int .i64 a1_3, .int .i64 a1_4, .int .i64 a1_5, .int .i64 a1_6, .slice A1_7 l1_7.length c1_7, .slice A1_8 l1_8.length c1_8] 37 ?_; intro gb209 hg w131 BK209 hb; replace HB := box_at w hb hg; obtain ⟨HB, GW209, GE209⟩ := HB; replace BK208 := box_on gb208 hb hg; obtain ⟨BK208, NB208_209, NB209_208⟩ := BK208; clear hb hg; have hnb132 := NB208_209.out; have hnc132 := NB209_208.out; obtain ⟨hcz133_0, hcz133_1, hcz133_2, hcz133_3, hfz133_0, hfz133_1, hfz133_2, hfz133_3⟩ := cells4 BK208.out) | ((with_reducible refine gate_dst (N := 11) rfl ?_); refine boxM 11 #[.int .i64 0, .int .i64 0, .int .i64 0] 31 ?_; intro gb210 hg w134 BK210 hb; replace HB := box_at w hb hg; obtain ⟨HB, GW210, GE210⟩ := HB; replace BK208 := box_on gb208 hb hg; obtain ⟨BK208, NB208_210, NB210_208⟩ := BK208; replace BK209 := box_on gb209 hb hg; obtain ⟨BK209, NB209_210, NB210_209⟩ := BK209; clear hb hg; have hnb135 := NB210_208.out; have hnc135 := NB208_210.out; have hnb136 := NB210_209.out; have hnc136 := NB209_210.out; obtain ⟨hcz137_0, hcz137_1, hcz137_2, hfz137_0, hfz137_1, hfz137_2⟩ := cells3 BK210.out; obtain ⟨hcz138_0, hcz138_1, hcz138_2, hcz138_3, hcz138_4, hcz138_5, hcz138_6, hcz138_7, hcz138_8, hfz138_0, hfz138_1, hfz138_2, hfz138_3, hfz138_4, hfz138_5, hfz138_6, hfz138_7, hfz138_8⟩ := cells9 BK209.out; obtain ⟨hcz139_0, hcz139_1, hcz139_2, hcz139_3, hfz139_0, hfz139_1, hfz139_2, hfz139_3⟩ := cells4 BK208.out) | (go_at_call 99; (with_reducible refine (spec_ItemAt.calls k a0_0 a0_1 a0_2 _ _ l0_3 a2 a3 a4 t234 t235 _ ?side1 ?side2 A116.out).mono ?_); (case side1 => exact C_now HR0_3.out); (case side2 => exact HC0_3.out); rintro e w140 ⟨rfl, hb⟩; replace HB := bel_on w hb; replace BK208 := Aside0.mk (blk_below (g := gb208) (o := .cells #[.int .i64 a0_0, .int .i64 a0_1, .int .i64 a0_2, .slice A0_3 l0_3.length c0_3] 33 (0, 0)) (blk_fars BK208.out) hb); replace BK209 := Aside0.mk (blk_below (g := gb209) (o := .cells #[.int .i64 a1_0, .int .i64 a1_1, .int .i64 a1_2, .int .i64 a1_3, .int .i64 a1_4, .int .i64 a1_5, .int .i64 a1_6, .slice A1_7 l1_7.length c1_7, .slice A1_8 l1_8.length c1_8] 37 (0, 0)) (blk_fars BK209.out) hb); replace BK210 := Aside0.mk (blk_below (g := gb210) (o := .cells #[.int .i64 a0_0, .int .i64 a0_1, .int .i64 a0_2] 31 (0, 0)) (blk_fars (puts3 BK210.out)) hb); (try clear hb); obtain ⟨hcz141_0, hcz141_1, hcz141_2, hcz141_3, hcz141_4, hcz141_5, hcz141_6, hcz141_7, hcz141_8, hfz141_0, hfz141_1, hfz141_2, hfz141_3, hfz141_4, hfz141_5, hfz141_6, hfz141_7, hfz141_8⟩ := cells9 BK209.out)))
  go_ret
  exact ⟨eqN, bel_now⟩

end Go.Proofs.Ytclpojeofclbjaa.PFnExactRunLayer
