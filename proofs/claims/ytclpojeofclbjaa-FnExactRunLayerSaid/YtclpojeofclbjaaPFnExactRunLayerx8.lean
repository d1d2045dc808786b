-- Printed by the session's own program (wip/myprint.py) for this claim out of the translation. Not trusted: Lean checks it.
import Derived.Test.YtclpojeofclbjaaPFnExactRunLayerx0
import Derived.Test.YtclpojeofclbjaaPFnExactRunLayerx2
import Derived.Test.YtclpojeofclbjaaPFnExactRunLayerx4
import Derived.Test.YtclpojeofclbjaaPFnExactRunLayerx7
namespace Go.Proofs.Ytclpojeofclbjaa.PFnExactRunLayer
open Go.RowKit Go.Proofs.YtclpojeofclbjaaW.PrintWords Go.Proofs.YtclpojeofclbjaaW.PrintLast Go.Proofs.YtclpojeofclbjaaW.PrintMore
attribute [local go_sem] max2_int min2_int max_two min_two max_three min_three max_four min_four   -- for this text's walks alone
set_option linter.unusedVariables false
set_option linter.unusedSimpArgs false

/-! ### spec_RunLayer: function 10 -/
mutual
def spec_RunLayer.l0 : Nat → Int → Int → Int → Int → List Int → Int → Int → Int → Int → Int → Int → Int → List Int → List Int → Int → Int → Int → Int → Int → Int → List Int → Option (Int × Int × Int × List Int × Bool)
  | 0, _, _, _, _, _, _, _, _, _, _, _, _, _, _, _, _, _, _, _, _, _ => none
  | k + 1, x9, x238000, x238001, x238002, x238003, x239000, x239001, x239002, x239003, x239004, x239005, x239006, x239007, x239008, x246000, x246001, x246002, x247000, x247001, x247002, x247003 => if x9 < x246000 then (spec_RunLayer.l1 k x9 0 x238000 x238001 x238002 x238003 x239000 x239001 x239002 x239003 x239004 x239005 x239006 x239007 x239008 x246000 x246001 x246002 x247000 x247001 x247002 x247003) else (some (x247000, x247001, x247002, x247003, true))
def spec_RunLayer.l1 : Nat → Int → Int → Int → Int → Int → List Int → Int → Int → Int → Int → Int → Int → Int → List Int → List Int → Int → Int → Int → Int → Int → Int → List Int → Option (Int × Int × Int × List Int × Bool)
  | 0, _, _, _, _, _, _, _, _, _, _, _, _, _, _, _, _, _, _, _, _, _, _ => none
  | k + 1, x9, x10, x238000, x238001, x238002, x238003, x239000, x239001, x239002, x239003, x239004, x239005, x239006, x239007, x239008, x246000, x246001, x246002, x247000, x247001, x247002, x247003 => if x10 < x246001 then (spec_RunLayer.l2 k x9 x10 0 x238000 x238001 x238002 x238003 x239000 x239001 x239002 x239003 x239004 x239005 x239006 x239007 x239008 x246000 x246001 x246002 x247000 x247001 x247002 x247003) else (spec_RunLayer.l0 k (wrap64 (x9 + 1)) x238000 x238001 x238002 x238003 x239000 x239001 x239002 x239003 x239004 x239005 x239006 x239007 x239008 x246000 x246001 x246002 x247000 x247001 x247002 x247003)
def spec_RunLayer.l2 : Nat → Int → Int → Int → Int → Int → Int → List Int → Int → Int → Int → Int → Int → Int → Int → List Int → List Int → Int → Int → Int → Int → Int → Int → List Int → Option (Int × Int × Int × List Int × Bool)
  | 0, _, _, _, _, _, _, _, _, _, _, _, _, _, _, _, _, _, _, _, _, _, _, _ => none
  | k + 1, x9, x10, x11, x238000, x238001, x238002, x238003, x239000, x239001, x239002, x239003, x239004, x239005, x239006, x239007, x239008, x246000, x246001, x246002, x247000, x247001, x247002, x247003 => if x11 < x246002 then ((spec_l03Item.f k x238000 x238001 x238002 x238003 x239000 x239001 x239002 x239003 x239004 x239005 x239006 x239007 x239008 x9 x10 x11).bind fun t247 => (if x247003.length < 17592186044416 then (spec_RunLayer.l2 k x9 x10 (wrap64 (x11 + 1)) x238000 x238001 x238002 x238003 x239000 x239001 x239002 x239003 x239004 x239005 x239006 x239007 x239008 x246000 x246001 x246002 x247000 x247001 x247002 (x247003 ++ [t247])) else (none))) else (spec_RunLayer.l1 k x9 (wrap64 (x10 + 1)) x238000 x238001 x238002 x238003 x239000 x239001 x239002 x239003 x239004 x239005 x239006 x239007 x239008 x246000 x246001 x246002 x247000 x247001 x247002 x247003)
end
def spec_RunLayer.f (k : Nat) (a0_0 : Int) (a0_1 : Int) (a0_2 : Int) (l0_3 : List Int) (a1_0 : Int) (a1_1 : Int) (a1_2 : Int) (a1_3 : Int) (a1_4 : Int) (a1_5 : Int) (a1_6 : Int) (l1_7 : List Int) (l1_8 : List Int) : Option (Int × Int × Int × List Int × Bool) := (spec_TensorOk.f k a0_0 a0_1 a0_2 l0_3).bind fun t240 => (if t240 = true then ((spec_OutShape.f k a0_0 a0_1 a0_2 a1_0 a1_1 a1_2 a1_3 a1_4 a1_5 a1_6 l1_7 l1_8).bind fun bt241 => (if bt241.2.2.2 = true then (spec_RunLayer.l0 k 0 a0_0 a0_1 a0_2 l0_3 a1_0 a1_1 a1_2 a1_3 a1_4 a1_5 a1_6 l1_7 l1_8 bt241.1 bt241.2.1 bt241.2.2.1 bt241.1 bt241.2.1 bt241.2.2.1 ([] : List Int)) else (some (0, 0, 0, ([] : List Int), false)))) else (some (0, 0, 0, ([] : List Int), false)))
def spec_RunLayer.T16 : Bool × List (List Nat × List Nat) := (true, [([], []), ([0], [0]), ([], []), ([], []), ([], []), ([], []), ([], []), ([2, 3, 4, 5, 6], [2, 3, 4, 5, 6]), ([7], [7]), ([1, 8, 7], [1, 8]), ([0, 1, 2, 3, 4, 5, 6, 7, 8, 9], []), ([10, 9, 9, 0, 1, 2, 3, 4, 5, 6, 7, 8, 9], [9, 10])])
def spec_RunLayer.B16 : List Nat := [0, 1, 0, 0, 0, 0, 0, 124, 252, 511, 1023, 2047]
theorem spec_RunLayer.tab16 : rtab .any (opsOf Try.f10 16) = spec_RunLayer.T16 := by kernel_rfl
theorem spec_RunLayer.bits16 : waitsOk spec_RunLayer.T16.2 spec_RunLayer.B16 = true := by kernel_rfl
set_option maxHeartbeats 8000000 in
set_option maxRecDepth 100000 in
theorem spec_RunLayer.calls (k : Nat) (a0_0 : Int) (a0_1 : Int) (a0_2 : Int) (A0_3 : Option Addr) (c0_3 : Nat) (l0_3 : List Int) (a1_0 : Int) (a1_1 : Int) (a1_2 : Int) (a1_3 : Int) (a1_4 : Int) (a1_5 : Int) (a1_6 : Int) (A1_7 : Option Addr) (c1_7 : Nat) (l1_7 : List Int) (A1_8 : Option Addr) (c1_8 : Nat) (l1_8 : List Int) (r1 : Int) (r2 : Int) (r3 : Int) (r4 : List Int) (r5 : Bool) (w : World) (hr0_3 : Kd.C (Kd.int .i64) w A0_3 l0_3.length l0_3) (hc0_3 : l0_3.length ≤ c0_3) (hr1_7 : Kd.C (Kd.int .i64) w A1_7 l1_7.length l1_7) (hc1_7 : l1_7.length ≤ c1_7) (hr1_8 : Kd.C (Kd.int .i64) w A1_8 l1_8.length l1_8) (hc1_8 : l1_8.length ≤ c1_8) (h : spec_RunLayer.f k a0_0 a0_1 a0_2 l0_3 a1_0 a1_1 a1_2 a1_3 a1_4 a1_5 a1_6 l1_7 l1_8 = some (r1, r2, r3, r4, r5)) :
   Calls Try.prog 10 #[.agg #[.int .i64 a0_0, .int .i64 a0_1, .int .i64 a0_2, .slice A0_3 l0_3.length c0_3], .agg #[.int .i64 a1_0, .int .i64 a1_1, .int .i64 a1_2, .int .i64 a1_3, .int .i64 a1_4, .int .i64 a1_5, .int .i64 a1_6, .slice A1_7 l1_7.length c1_7, .slice A1_8 l1_8.length c1_8]] w fun e w' => ∃ v3_ : Value, e = .returned (.tuple #[.agg #[.int .i64 r1, .int .i64 r2, .int .i64 r3, v3_], .bool r5]) ∧ Kd.R (Kd.int .i64) 3 w' w.heap.size (fun _ => True) v3_ r4 ∧ Below w.heap.size w w' := by
  have hu33 := Try.underlying33
  have hu37 := Try.underlying37
  have hu31 := Try.underlying31
  have HR0_3 := Aside0.mk hr0_3
  have HC0_3 := Aside0.mk hc0_3
  clear hr0_3 hc0_3
  have HR1_7 := Aside0.mk hr1_7
  have HC1_7 := Aside0.mk hc1_7
  clear hr1_7 hc1_7
  have HR1_8 := Aside0.mk hr1_8
  have HC1_8 := Aside0.mk hc1_8
  clear hr1_8 hc1_8
  have HB := Aside0.mk (Below.refl w.heap.size w)
  have H : ((spec_TensorOk.f k a0_0 a0_1 a0_2 l0_3).bind fun t240 => (if t240 = true then ((spec_OutShape.f k a0_0 a0_1 a0_2 a1_0 a1_1 a1_2 a1_3 a1_4 a1_5 a1_6 l1_7 l1_8).bind fun bt241 => (if bt241.2.2.2 = true then (spec_RunLayer.l0 k 0 a0_0 a0_1 a0_2 l0_3 a1_0 a1_1 a1_2 a1_3 a1_4 a1_5 a1_6 l1_7 l1_8 bt241.1 bt241.2.1 bt241.2.2.1 bt241.1 bt241.2.1 bt241.2.2.1 ([] : List Int)) else (some (0, 0, 0, ([] : List Int), false)))) else (some (0, 0, 0, ([] : List Int), false)))) = some (r1, r2, r3, r4, r5) := h
  clear h
  replace H := Option.bind_eq_some_iff.mp H
  obtain ⟨t240, A30, H⟩ := H
  (try dsimp only at H)
  have A3 := Aside0.mk A30
  clear A30
  by_cases c4 : t240 = true
  rotate_left
  ·replace c4 := Bool.eq_false_iff.mpr c4
   subst c4
   rw [if_neg (show ¬ (false = true) by decide)] at H
   simp only [Option.some.injEq, Prod.mk.injEq] at H
   obtain ⟨rfl, rfl, rfl, rfl, rfl⟩ := H
   go_enter Try.func10, Try.ntmps10
   go_wp2_with (first | ((with_reducible refine gate_dst (N := 2) rfl ?_); refine boxM 2 #[.int .i64 a0_0, .int .i64 a0_1, .int .i64 a0_2, .slice A0_3 l0_3.length c0_3] 33 ?_; intro gb237 hg w94 BK237 hb; replace HB := box_at w hb hg; obtain ⟨HB, GW237, GE237⟩ := HB; clear hb hg) | ((with_reducible refine gate_dst (N := 3) rfl ?_); refine boxM 3 #[.int .i64 a1_0, .int .i64 a1_1, .int .i64 a1_2, .int .i64 a1_3, .int .i64 a1_4, .int .i64 a1_5, .int .i64 a1_6, .slice A1_7 l1_7.length c1_7, .slice A1_8 l1_8.length c1_8] 37 ?_; intro gb238 hg w95 BK238 hb; replace HB := box_at w hb hg; obtain ⟨HB, GW238, GE238⟩ := HB; replace BK237 := box_on gb237 hb hg; obtain ⟨BK237, NB237_238, NB238_237⟩ := BK237; clear hb hg) | ((with_reducible refine gate_dst (N := 4) rfl ?_); refine boxM 4 #[.int .i64 0, .int .i64 0, .int .i64 0, .slice none 0 0] 33 ?_; intro gb239 hg w96 BK239 hb; replace HB := box_at w hb hg; obtain ⟨HB, GW239, GE239⟩ := HB; replace BK237 := box_on gb237 hb hg; obtain ⟨BK237, NB237_239, NB239_237⟩ := BK237; replace BK238 := box_on gb238 hb hg; obtain ⟨BK238, NB238_239, NB239_238⟩ := BK238; clear hb hg; have hn97 := ne2 NB237_238; have hn98 := ne2 NB237_239; have hcz99 := cells4 BK237.out) | ((with_reducible refine gate_callee (f := 32) rfl ?_); refine goesM (some 13) rfl rfl Try.func32 (by kernel_rfl) rfl #[.agg #[.int .i64 a0_0, .int .i64 a0_1, .int .i64 a0_2, .slice A0_3 l0_3.length c0_3]] rfl ?_; (with_reducible refine (spec_TensorOk.calls k a0_0 a0_1 a0_2 _ _ l0_3 false _ ?side1 ?side2 A3.out).mono ?_); (case side1 => exact C_now HR0_3.out); (case side2 => exact HC0_3.out); rintro e w100 ⟨rfl, hb⟩; refine ⟨_, rfl, ?_⟩; replace HB := bel_on w hb; replace BK237 := blk_on gb237 hb; replace BK238 := blk_on gb238 hb; replace BK239 := blk_on gb239 hb; (try clear hb); have hn101 := ne2 NB239_238; have hcz102 := cells4 BK239.out))
   refine bodyPost_ret (results_ct rfl _ _ gb239 33 #[.int .i64 0, .int .i64 0, .int .i64 0, .slice none 0 0] (0, 0) _ rfl (blk_fars (puts4 BK239.out)) Try.underlying33 rfl (by kernel_rfl)) rfl ?_
   exact ⟨_, eqN, by first | exact Kd.R_nil _ _ _ _ _ | exact Kd.N_nil _ _ _ _ _ | exact Kd.V_nil _ _ _ _ _ | exact Kd.Q_nil _ _ _ _ _ | exact Kd.S_nil _ _ _ _ _, bel_now⟩
  subst c4
  rw [if_pos rfl] at H
  replace H := Option.bind_eq_some_iff.mp H
  obtain ⟨⟨t241, t242, t243, t244⟩, A50, H⟩ := H
  (try dsimp only at H)
  have A5 := Aside0.mk A50
  clear A50
  by_cases c6 : t244 = true
  rotate_left
  ·replace c6 := Bool.eq_false_iff.mpr c6
   subst c6
   rw [if_neg (show ¬ (false = true) by decide)] at H
   simp only [Option.some.injEq, Prod.mk.injEq] at H
   obtain ⟨rfl, rfl, rfl, rfl, rfl⟩ := H
   go_enter Try.func10, Try.ntmps10
   go_wp2_with (first | ((with_reducible refine gate_dst (N := 2) rfl ?_); refine boxM 2 #[.int .i64 a0_0, .int .i64 a0_1, .int .i64 a0_2, .slice A0_3 l0_3.length c0_3] 33 ?_; intro gb237 hg w77 BK237 hb; replace HB := box_at w hb hg; obtain ⟨HB, GW237, GE237⟩ := HB; clear hb hg) | ((with_reducible refine gate_dst (N := 3) rfl ?_); refine boxM 3 #[.int .i64 a1_0, .int .i64 a1_1, .int .i64 a1_2, .int .i64 a1_3, .int .i64 a1_4, .int .i64 a1_5, .int .i64 a1_6, .slice A1_7 l1_7.length c1_7, .slice A1_8 l1_8.length c1_8] 37 ?_; intro gb238 hg w78 BK238 hb; replace HB := box_at w hb hg; obtain ⟨HB, GW238, GE238⟩ := HB; replace BK237 := box_on gb237 hb hg; obtain ⟨BK237, NB237_238, NB238_237⟩ := BK237; clear hb hg) | ((with_reducible refine gate_dst (N := 4) rfl ?_); refine boxM 4 #[.int .i64 0, .int .i64 0, .int .i64 0, .slice none 0 0] 33 ?_; intro gb239 hg w79 BK239 hb; replace HB := box_at w hb hg; obtain ⟨HB, GW239, GE239⟩ := HB; replace BK237 := box_on gb237 hb hg; obtain ⟨BK237, NB237_239, NB239_237⟩ := BK237; replace BK238 := box_on gb238 hb hg; obtain ⟨BK238, NB238_239, NB239_238⟩ := BK238; clear hb hg; have hn80 := ne2 NB237_238; have hn81 := ne2 NB237_239; have hcz82 := cells4 BK237.out) | ((with_reducible refine gate_callee (f := 32) rfl ?_); refine goesM (some 13) rfl rfl Try.func32 (by kernel_rfl) rfl #[.agg #[.int .i64 a0_0, .int .i64 a0_1, .int .i64 a0_2, .slice A0_3 l0_3.length c0_3]] rfl ?_; (with_reducible refine (spec_TensorOk.calls k a0_0 a0_1 a0_2 _ _ l0_3 true _ ?side1 ?side2 A3.out).mono ?_); (case side1 => exact C_now HR0_3.out); (case side2 => exact HC0_3.out); rintro e w83 ⟨rfl, hb⟩; refine ⟨_, rfl, ?_⟩; replace HB := bel_on w hb; replace BK237 := blk_on gb237 hb; replace BK238 := blk_on gb238 hb; replace BK239 := blk_on gb239 hb; (try clear hb); have hcz84 := cells4 BK237.out; have hn85 := ne2 NB238_239; have hcz86 := cells9 BK238.out) | ((with_reducible refine gate_callee (f := 48) rfl ?_); refine goesM (some 20) rfl rfl Try.func48 (by kernel_rfl) rfl #[.agg #[.int .i64 a0_0, .int .i64 a0_1, .int .i64 a0_2], .agg #[.int .i64 a1_0, .int .i64 a1_1, .int .i64 a1_2, .int .i64 a1_3, .int .i64 a1_4, .int .i64 a1_5, .int .i64 a1_6, .slice A1_7 l1_7.length c1_7, .slice A1_8 l1_8.length c1_8]] rfl ?_; (with_reducible refine (spec_OutShape.calls k a0_0 a0_1 a0_2 a1_0 a1_1 a1_2 a1_3 a1_4 a1_5 a1_6 _ _ l1_7 _ _ l1_8 t241 t242 t243 false _ ?side1 ?side2 ?side3 ?side4 A5.out).mono ?_); (case side1 => exact C_now HR1_7.out); (case side2 => exact HC1_7.out); (case side3 => exact C_now HR1_8.out); (case side4 => exact HC1_8.out); rintro e w87 ⟨rfl, hb⟩; refine ⟨_, rfl, ?_⟩; replace HB := bel_on w hb; replace BK237 := blk_on gb237 hb; replace BK238 := blk_on gb238 hb; replace BK239 := blk_on gb239 hb; (try clear hb)) | ((with_reducible refine gate_dst (N := 6) rfl ?_); refine boxM 6 #[.int .i64 0, .int .i64 0, .int .i64 0] 31 ?_; intro gb245 hg w88 BK245 hb; replace HB := box_at w hb hg; obtain ⟨HB, GW245, GE245⟩ := HB; replace BK237 := box_on gb237 hb hg; obtain ⟨BK237, NB237_245, NB245_237⟩ := BK237; replace BK238 := box_on gb238 hb hg; obtain ⟨BK238, NB238_245, NB245_238⟩ := BK238; replace BK239 := box_on gb239 hb hg; obtain ⟨BK239, NB239_245, NB245_239⟩ := BK239; clear hb hg; have hn89 := ne2 NB245_237; have hn90 := ne2 NB245_238; have hn91 := ne2 NB245_239; have hcz92 := cells3 BK245.out; have hcz93 := cells4 BK239.out))
   refine bodyPost_ret (results_ct rfl _ _ gb239 33 #[.int .i64 0, .int .i64 0, .int .i64 0, .slice none 0 0] (0, 0) _ rfl (by (with_reducible repeat (first | refine blk_drewN ?_ _ | refine blk_drew ?_ | refine blk_alloc ?_ _)); refine blk_put (cs := #[.int .i64 0, .int .i64 0, .int .i64 0, .slice none 0 0]) ?_ 3 _ rfl; (with_reducible repeat (first | refine blk_drewN ?_ _ | refine blk_drew ?_ | refine blk_alloc ?_ _)); refine blk_put (cs := #[.int .i64 0, .int .i64 0, .int .i64 0, .slice none 0 0]) ?_ 2 _ rfl; (with_reducible repeat (first | refine blk_drewN ?_ _ | refine blk_drew ?_ | refine blk_alloc ?_ _)); refine blk_put (cs := #[.int .i64 0, .int .i64 0, .int .i64 0, .slice none 0 0]) ?_ 1 _ rfl; (with_reducible repeat (first | refine blk_drewN ?_ _ | refine blk_drew ?_ | refine blk_alloc ?_ _)); refine blk_put (cs := #[.int .i64 0, .int .i64 0, .int .i64 0, .slice none 0 0]) ?_ 0 _ rfl; (with_reducible repeat (first | refine blk_drewN ?_ _ | refine blk_drew ?_ | refine blk_alloc ?_ _)); refine blk_far ?_ NB239_245.out _; (with_reducible repeat (first | refine blk_drewN ?_ _ | refine blk_drew ?_ | refine blk_alloc ?_ _)); refine blk_far ?_ NB239_245.out _; (with_reducible repeat (first | refine blk_drewN ?_ _ | refine blk_drew ?_ | refine blk_alloc ?_ _)); refine blk_far ?_ NB239_245.out _; (with_reducible repeat (first | refine blk_drewN ?_ _ | refine blk_drew ?_ | refine blk_alloc ?_ _)); exact BK239.out) Try.underlying33 rfl (by kernel_rfl)) rfl ?_
   exact ⟨_, eqN, by first | exact Kd.R_nil _ _ _ _ _ | exact Kd.N_nil _ _ _ _ _ | exact Kd.V_nil _ _ _ _ _ | exact Kd.Q_nil _ _ _ _ _ | exact Kd.S_nil _ _ _ _ _, bel_now⟩
  subst c6
  rw [if_pos rfl] at H
  have H' := Aside0.mk H
  clear H
  go_enter Try.func10, Try.ntmps10
  go_wp2_with (first | ((with_reducible refine gate_dst (N := 2) rfl ?_); refine boxM 2 #[.int .i64 a0_0, .int .i64 a0_1, .int .i64 a0_2, .slice A0_3 l0_3.length c0_3] 33 ?_; intro gb237 hg w7 BK237 hb; replace HB := box_at w hb hg; obtain ⟨HB, GW237, GE237⟩ := HB; clear hb hg) | ((with_reducible refine gate_dst (N := 3) rfl ?_); refine boxM 3 #[.int .i64 a1_0, .int .i64 a1_1, .int .i64 a1_2, .int .i64 a1_3, .int .i64 a1_4, .int .i64 a1_5, .int .i64 a1_6, .slice A1_7 l1_7.length c1_7, .slice A1_8 l1_8.length c1_8] 37 ?_; intro gb238 hg w8 BK238 hb; replace HB := box_at w hb hg; obtain ⟨HB, GW238, GE238⟩ := HB; replace BK237 := box_on gb237 hb hg; obtain ⟨BK237, NB237_238, NB238_237⟩ := BK237; clear hb hg) | ((with_reducible refine gate_dst (N := 4) rfl ?_); refine boxM 4 #[.int .i64 0, .int .i64 0, .int .i64 0, .slice none 0 0] 33 ?_; intro gb239 hg w9 BK239 hb; replace HB := box_at w hb hg; obtain ⟨HB, GW239, GE239⟩ := HB; replace BK237 := box_on gb237 hb hg; obtain ⟨BK237, NB237_239, NB239_237⟩ := BK237; replace BK238 := box_on gb238 hb hg; obtain ⟨BK238, NB238_239, NB239_238⟩ := BK238; clear hb hg; have hn10 := ne2 NB237_238; have hn11 := ne2 NB237_239; have hcz12 := cells4 BK237.out) | ((with_reducible refine gate_callee (f := 32) rfl ?_); refine goesM (some 13) rfl rfl Try.func32 (by kernel_rfl) rfl #[.agg #[.int .i64 a0_0, .int .i64 a0_1, .int .i64 a0_2, .slice A0_3 l0_3.length c0_3]] rfl ?_; (with_reducible refine (spec_TensorOk.calls k a0_0 a0_1 a0_2 _ _ l0_3 true _ ?side1 ?side2 A3.out).mono ?_); (case side1 => exact C_now HR0_3.out); (case side2 => exact HC0_3.out); rintro e w13 ⟨rfl, hb⟩; refine ⟨_, rfl, ?_⟩; replace HB := bel_on w hb; replace BK237 := blk_on gb237 hb; replace BK238 := blk_on gb238 hb; replace BK239 := blk_on gb239 hb; (try clear hb); have hcz14 := cells4 BK237.out; have hn15 := ne2 NB238_239; have hcz16 := cells9 BK238.out) | ((with_reducible refine gate_callee (f := 48) rfl ?_); refine goesM (some 20) rfl rfl Try.func48 (by kernel_rfl) rfl #[.agg #[.int .i64 a0_0, .int .i64 a0_1, .int .i64 a0_2], .agg #[.int .i64 a1_0, .int .i64 a1_1, .int .i64 a1_2, .int .i64 a1_3, .int .i64 a1_4, .int .i64 a1_5, .int .i64 a1_6, .slice A1_7 l1_7.length c1_7, .slice A1_8 l1_8.length c1_8]] rfl ?_; (with_reducible refine (spec_OutShape.calls k a0_0 a0_1 a0_2 a1_0 a1_1 a1_2 a1_3 a1_4 a1_5 a1_6 _ _ l1_7 _ _ l1_8 t241 t242 t243 true _ ?side1 ?side2 ?side3 ?side4 A5.out).mono ?_); (case side1 => exact C_now HR1_7.out); (case side2 => exact HC1_7.out); (case side3 => exact C_now HR1_8.out); (case side4 => exact HC1_8.out); rintro e w17 ⟨rfl, hb⟩; refine ⟨_, rfl, ?_⟩; replace HB := bel_on w hb; replace BK237 := blk_on gb237 hb; replace BK238 := blk_on gb238 hb; replace BK239 := blk_on gb239 hb; (try clear hb)) | ((with_reducible refine gate_dst (N := 6) rfl ?_); refine boxM 6 #[.int .i64 0, .int .i64 0, .int .i64 0] 31 ?_; intro gb245 hg w18 BK245 hb; replace HB := box_at w hb hg; obtain ⟨HB, GW245, GE245⟩ := HB; replace BK237 := box_on gb237 hb hg; obtain ⟨BK237, NB237_245, NB245_237⟩ := BK237; replace BK238 := box_on gb238 hb hg; obtain ⟨BK238, NB238_245, NB245_238⟩ := BK238; replace BK239 := box_on gb239 hb hg; obtain ⟨BK239, NB239_245, NB245_239⟩ := BK239; clear hb hg; have hn19 := ne2 NB245_237; have hn20 := ne2 NB245_238; have hn21 := ne2 NB245_239; have hcz22 := cells3 BK245.out) | ((with_reducible refine gate_dst (N := 8) rfl ?_); refine box_event ?hg (N := 8) ?hd (cs := #[.int .i64 0, .int .i64 0, .int .i64 0, .slice none 0 0]) (t := 33) ?hr ?_; (case hd => rfl); (case hg => rfl); (case hr => first | (go_simp; done) | (go_simp; rfl)); intro gb246 hg w23 hbox hb; obtain ⟨n4_, n6_, n7_⟩ := box_sizes bel_now hb hg; obtain ⟨n0_, n8_, n9_⟩ := box_blk (g := gb237) (o := .cells #[.int .i64 a0_0, .int .i64 a0_1, .int .i64 a0_2, .slice A0_3 l0_3.length c0_3] 33 (0, 0)) (blk_fars BK237.out) hb hg; obtain ⟨n1_, n10_, n11_⟩ := box_blk (g := gb238) (o := .cells #[.int .i64 a1_0, .int .i64 a1_1, .int .i64 a1_2, .int .i64 a1_3, .int .i64 a1_4, .int .i64 a1_5, .int .i64 a1_6, .slice A1_7 l1_7.length c1_7, .slice A1_8 l1_8.length c1_8] 37 (0, 0)) (blk_fars BK238.out) hb hg; obtain ⟨n2_, n12_, n13_⟩ := box_blk (g := gb239) (o := .cells #[.int .i64 0, .int .i64 0, .int .i64 0, .slice none 0 0] 33 (0, 0)) (blk_fars BK239.out) hb hg; obtain ⟨n3_, n14_, n15_⟩ := box_blk (g := gb245) (o := .cells #[.int .i64 t241, .int .i64 t242, .int .i64 t243] 31 (0, 0)) (blk_fars (puts3 BK245.out)) hb hg; have n5_ := Aside0.mk (hbox); clear BK237; clear BK238; clear BK239; clear BK245; clear HB; have BK237 := n0_; have BK238 := n1_; have BK239 := n2_; have BK245 := n3_; have HB := n4_; have BK246 := n5_; have GW246 := n6_; have GE246 := n7_; have NB237_246 := n8_; have NB246_237 := n9_; have NB238_246 := n10_; have NB246_238 := n11_; have NB239_246 := n12_; have NB246_239 := n13_; have NB245_246 := n14_; have NB246_245 := n15_; clear n0_ n1_ n2_ n3_ n4_ n5_ n6_ n7_ n8_ n9_ n10_ n11_ n12_ n13_ n14_ n15_; clear hb hbox hg; have hn24 := ne2 NB246_237; have hn25 := ne2 NB246_238; have hn26 := ne2 NB246_239; have hn27 := ne2 NB246_245; have hcz28 := cells4 BK246.out))
  go_loopg [9] k (fun kq v9 w' => ∃ (x9_1 : Int) (x247003_1 : List Int) (u247003 : Value), v9 = .int .i64 x9_1 ∧ Aside0 (spec_RunLayer.l0 kq x9_1 a0_0 a0_1 a0_2 l0_3 a1_0 a1_1 a1_2 a1_3 a1_4 a1_5 a1_6 l1_7 l1_8 t241 t242 t243 t241 t242 t243 x247003_1 = some (r1, r2, r3, r4, r5)) ∧ Aside0 (kq ≤ k) ∧ Aside0 (Kd.R (Kd.int .i64) 3 w' w.heap.size (fun _ => True) u247003 x247003_1) ∧ Aside0 (w'.heap[gb237]? = some (.cells #[.int .i64 a0_0, .int .i64 a0_1, .int .i64 a0_2, (.slice A0_3 l0_3.length c0_3)] 33 (0, 0))) ∧ Aside0 (w'.heap[gb238]? = some (.cells #[.int .i64 a1_0, .int .i64 a1_1, .int .i64 a1_2, .int .i64 a1_3, .int .i64 a1_4, .int .i64 a1_5, .int .i64 a1_6, (.slice A1_7 l1_7.length c1_7), (.slice A1_8 l1_8.length c1_8)] 37 (0, 0))) ∧ Aside0 (w'.heap[gb239]? = some (.cells #[.int .i64 0, .int .i64 0, .int .i64 0, (.slice none 0 0)] 33 (0, 0))) ∧ Aside0 (w'.heap[gb245]? = some (.cells #[.int .i64 t241, .int .i64 t242, .int .i64 t243] 31 (0, 0))) ∧ Aside0 (w'.heap[gb246]? = some (.cells #[.int .i64 t241, .int .i64 t242, .int .i64 t243, u247003] 33 (0, 0))) ∧ Aside0 (Below w.heap.size w w'))
  case atStart => exact ⟨(0), (([] : List Int)), (.slice none 0 0), (by first | rfl | (simp; done) | (simp [*]; done)), H', ⟨Nat.le_refl _⟩, ⟨by first | exact Kd.R_nil _ _ _ _ _ | exact Kd.N_nil _ _ _ _ _ | exact Kd.V_nil _ _ _ _ _ | exact Kd.Q_nil _ _ _ _ _ | exact Kd.S_nil _ _ _ _ _⟩, ⟨by (with_reducible repeat (first | refine blk_drewN ?_ _ | refine blk_drew ?_ | refine blk_alloc ?_ _)); refine blk_far ?_ NB237_246.out _; (with_reducible repeat (first | refine blk_drewN ?_ _ | refine blk_drew ?_ | refine blk_alloc ?_ _)); refine blk_far ?_ NB237_246.out _; (with_reducible repeat (first | refine blk_drewN ?_ _ | refine blk_drew ?_ | refine blk_alloc ?_ _)); refine blk_far ?_ NB237_246.out _; (with_reducible repeat (first | refine blk_drewN ?_ _ | refine blk_drew ?_ | refine blk_alloc ?_ _)); refine blk_far ?_ NB237_246.out _; (with_reducible repeat (first | refine blk_drewN ?_ _ | refine blk_drew ?_ | refine blk_alloc ?_ _)); exact BK237.out⟩, ⟨by (with_reducible repeat (first | refine blk_drewN ?_ _ | refine blk_drew ?_ | refine blk_alloc ?_ _)); refine blk_far ?_ NB238_246.out _; (with_reducible repeat (first | refine blk_drewN ?_ _ | refine blk_drew ?_ | refine blk_alloc ?_ _)); refine blk_far ?_ NB238_246.out _; (with_reducible repeat (first | refine blk_drewN ?_ _ | refine blk_drew ?_ | refine blk_alloc ?_ _)); refine blk_far ?_ NB238_246.out _; (with_reducible repeat (first | refine blk_drewN ?_ _ | refine blk_drew ?_ | refine blk_alloc ?_ _)); refine blk_far ?_ NB238_246.out _; (with_reducible repeat (first | refine blk_drewN ?_ _ | refine blk_drew ?_ | refine blk_alloc ?_ _)); exact BK238.out⟩, ⟨by (with_reducible repeat (first | refine blk_drewN ?_ _ | refine blk_drew ?_ | refine blk_alloc ?_ _)); refine blk_far ?_ NB239_246.out _; (with_reducible repeat (first | refine blk_drewN ?_ _ | refine blk_drew ?_ | refine blk_alloc ?_ _)); refine blk_far ?_ NB239_246.out _; (with_reducible repeat (first | refine blk_drewN ?_ _ | refine blk_drew ?_ | refine blk_alloc ?_ _)); refine blk_far ?_ NB239_246.out _; (with_reducible repeat (first | refine blk_drewN ?_ _ | refine blk_drew ?_ | refine blk_alloc ?_ _)); refine blk_far ?_ NB239_246.out _; (with_reducible repeat (first | refine blk_drewN ?_ _ | refine blk_drew ?_ | refine blk_alloc ?_ _)); exact BK239.out⟩, ⟨by (with_reducible repeat (first | refine blk_drewN ?_ _ | refine blk_drew ?_ | refine blk_alloc ?_ _)); refine blk_far ?_ NB245_246.out _; (with_reducible repeat (first | refine blk_drewN ?_ _ | refine blk_drew ?_ | refine blk_alloc ?_ _)); refine blk_far ?_ NB245_246.out _; (with_reducible repeat (first | refine blk_drewN ?_ _ | refine blk_drew ?_ | refine blk_alloc ?_ _)); refine blk_far ?_ NB245_246.out _; (with_reducible repeat (first | refine blk_drewN ?_ _ | refine blk_drew ?_ | refine blk_alloc ?_ _)); refine blk_far ?_ NB245_246.out _; (with_reducible repeat (first | refine blk_drewN ?_ _ | refine blk_drew ?_ | refine blk_alloc ?_ _)); exact BK245.out⟩, ⟨by (with_reducible repeat (first | refine blk_drewN ?_ _ | refine blk_drew ?_ | refine blk_alloc ?_ _)); refine blk_put (cs := #[.int .i64 t241, .int .i64 t242, .int .i64 t243, .slice none 0 0]) ?_ 3 _ rfl; (with_reducible repeat (first | refine blk_drewN ?_ _ | refine blk_drew ?_ | refine blk_alloc ?_ _)); refine blk_put (cs := #[.int .i64 t241, .int .i64 t242, .int .i64 0, .slice none 0 0]) ?_ 2 _ rfl; (with_reducible repeat (first | refine blk_drewN ?_ _ | refine blk_drew ?_ | refine blk_alloc ?_ _)); refine blk_put (cs := #[.int .i64 t241, .int .i64 0, .int .i64 0, .slice none 0 0]) ?_ 1 _ rfl; (with_reducible repeat (first | refine blk_drewN ?_ _ | refine blk_drew ?_ | refine blk_alloc ?_ _)); refine blk_put (cs := #[.int .i64 0, .int .i64 0, .int .i64 0, .slice none 0 0]) ?_ 0 _ rfl; (with_reducible repeat (first | refine blk_drewN ?_ _ | refine blk_drew ?_ | refine blk_alloc ?_ _)); exact BK246.out⟩, ⟨bel_now⟩⟩
  case round =>
   clear H'
   try clear c1
   try clear c2
   try clear p2
   try clear c3
   try clear c4
   try clear c6
   try clear c10
   try clear c11
   try clear c15
   try clear c19
   try clear c20
   try clear c21
   try clear c24
   try clear c25
   try clear c26
   try clear c27
   try clear hcz12
   try clear hcz14
   try clear hcz16
   try clear hcz22
   try clear hcz28
   obtain ⟨x9_1, x247003_1, u247003, rfl, HA, HK1, HO_247003, BK237, BK238, BK239, BK245, BK246, HB⟩ := hrel
   cases gk with
   | zero => exact absurd HA.out (by simp [spec_RunLayer.l0])
   | succ k1 =>
    have H := HA.out
    clear HA
    simp only [spec_RunLayer.l0] at H
    by_cases c29 : x9_1 < t241
    rotate_left
    ·rw [if_neg c29] at H
     have c29b0 : decide (x9_1 < t241) = false := decide_eq_false c29
     clear c29
     simp only [Option.some.injEq, Prod.mk.injEq] at H
     obtain ⟨rfl, rfl, rfl, rfl, rfl⟩ := H
     have hn64 := ne2 NB245_237
     have hn65 := ne2 NB245_238
     have hn66 := ne2 NB245_239
     have hn67 := ne2 NB245_246
     have hcz68 := cells3 BK245.out
     have hn69 := ne2 NB246_237
     have hn70 := ne2 NB246_238
     have hn71 := ne2 NB246_239
     have hcz72 := cells4 BK246.out
     have hn73 := ne2 NB239_237
     have hn74 := ne2 NB239_238
     have hcz75 := cells4 BK239.out
     obtain ⟨Ao76, co76, eo76⟩ := Kd.R_slice HO_247003.out
     subst eo76
     go_wp2
     refine bodyPost_ret (results_ct rfl _ _ gb239 33 #[.int .i64 t241, .int .i64 t242, .int .i64 t243, .slice Ao76 x247003_1.length co76] (0, 0) _ rfl (blk_fars (puts4 BK239.out)) Try.underlying33 rfl (by kernel_rfl)) rfl ?_
     exact ⟨_, eqN, by (with_reducible repeat (first | apply Kd.R_alloc | apply Kd.R_drewN | apply Kd.R_drew)); exact Kd.R_mono (Kd.R_far (p := ⟨gb239, 3, none⟩) (Kd.R_far (p := ⟨gb239, 2, none⟩) (Kd.R_far (p := ⟨gb239, 1, none⟩) (Kd.R_far (p := ⟨gb239, 0, none⟩) (Kd.R_types HO_247003.out BK239.out (by decide)) (fun _ hk => hk.2) (.int .i64 t241)) (fun _ hk => hk.2) (.int .i64 t242)) (fun _ hk => hk.2) (.int .i64 t243)) (fun _ hk => hk.2) (.slice Ao76 x247003_1.length co76)) (fun _ hk => trivial), bel_now⟩
    rw [if_pos c29] at H
    have c29b0 : decide (x9_1 < t241) = true := decide_eq_true c29
    clear c29
    have H' := Aside0.mk H
    clear H
    have hn30 := ne2 NB245_237
    have hn31 := ne2 NB245_238
    have hn32 := ne2 NB245_239
    have hn33 := ne2 NB245_246
    have hcz34 := cells3 BK245.out
    go_wp2
    go_loopg [10] k1 (fun kq v10 w' => ∃ (x10_2 : Int) (x247003_2 : List Int) (u247003 : Value), v10 = .int .i64 x10_2 ∧ Aside0 (spec_RunLayer.l1 kq x9_1 x10_2 a0_0 a0_1 a0_2 l0_3 a1_0 a1_1 a1_2 a1_3 a1_4 a1_5 a1_6 l1_7 l1_8 t241 t242 t243 t241 t242 t243 x247003_2 = some (r1, r2, r3, r4, r5)) ∧ Aside0 (kq ≤ k1) ∧ Aside0 (Kd.R (Kd.int .i64) 3 w' w.heap.size (fun _ => True) u247003 x247003_2) ∧ Aside0 (w'.heap[gb237]? = some (.cells #[.int .i64 a0_0, .int .i64 a0_1, .int .i64 a0_2, (.slice A0_3 l0_3.length c0_3)] 33 (0, 0))) ∧ Aside0 (w'.heap[gb238]? = some (.cells #[.int .i64 a1_0, .int .i64 a1_1, .int .i64 a1_2, .int .i64 a1_3, .int .i64 a1_4, .int .i64 a1_5, .int .i64 a1_6, (.slice A1_7 l1_7.length c1_7), (.slice A1_8 l1_8.length c1_8)] 37 (0, 0))) ∧ Aside0 (w'.heap[gb239]? = some (.cells #[.int .i64 0, .int .i64 0, .int .i64 0, (.slice none 0 0)] 33 (0, 0))) ∧ Aside0 (w'.heap[gb245]? = some (.cells #[.int .i64 t241, .int .i64 t242, .int .i64 t243] 31 (0, 0))) ∧ Aside0 (w'.heap[gb246]? = some (.cells #[.int .i64 t241, .int .i64 t242, .int .i64 t243, u247003] 33 (0, 0))) ∧ Aside0 (Below w.heap.size w w'))
    case atStart => exact ⟨(0), (x247003_1), (u247003), (by first | rfl | (simp; done) | (simp [*]; done)), H', ⟨Nat.le_refl _⟩, ⟨by (with_reducible repeat (first | apply Kd.R_alloc | apply Kd.R_drewN | apply Kd.R_drew)); exact HO_247003.out⟩, ⟨bks BK237⟩, ⟨bks BK238⟩, ⟨bks BK239⟩, ⟨bks BK245⟩, ⟨bks BK246⟩, ⟨bel_now⟩⟩
    case round =>
     clear H'
     try clear c1
     try clear c2
     try clear p2 p2
     try clear c3
     try clear c4
     try clear c6
     try clear c10
     try clear c11
     try clear c15
     try clear c19
     try clear c20
     try clear c21
     try clear c24
     try clear c25
     try clear c26
     try clear c27
     try clear c29
     try clear c29b0
     try clear c30
     try clear c31
     try clear c32
     try clear c33
     try clear hcz12
     try clear hcz14
     try clear hcz16
     try clear hcz22
     try clear hcz28
     try clear hcz34
     obtain ⟨x10_2, x247003_2, u247003, rfl, HA, HK2, HO_247003, BK237, BK238, BK239, BK245, BK246, HB⟩ := hrel
     cases gk with
     | zero => exact absurd HA.out (by simp [spec_RunLayer.l1])
     | succ k2 =>
      have H := HA.out
      clear HA
      simp only [spec_RunLayer.l1] at H
      by_cases c35 : x10_2 < t242
      rotate_left
      ·rw [if_neg c35] at H
       have c35b0 : decide (x10_2 < t242) = false := decide_eq_false c35
       clear c35
       have H' := Aside0.mk H
       clear H
       have hn59 := ne2 NB245_237
       have hn60 := ne2 NB245_238
       have hn61 := ne2 NB245_239
       have hn62 := ne2 NB245_246
       have hcz63 := cells3 BK245.out
       go_wp2
       go_roundg k2
       case measure => have := HK1.out; have := HK2.out; omega
       case rel => exact ⟨(wrap64 (x9_1 + 1)), (x247003_2), (u247003), (by first | rfl | (simp; done) | (simp [*]; done)), H', ⟨by have := HK1.out; have := HK2.out; omega⟩, ⟨by (with_reducible repeat (first | apply Kd.R_alloc | apply Kd.R_drewN | apply Kd.R_drew)); exact HO_247003.out⟩, ⟨bks BK237⟩, ⟨bks BK238⟩, ⟨bks BK239⟩, ⟨bks BK245⟩, ⟨bks BK246⟩, ⟨bel_now⟩⟩
      rw [if_pos c35] at H
      have c35b0 : decide (x10_2 < t242) = true := decide_eq_true c35
      clear c35
      have H' := Aside0.mk H
      clear H
      have hn36 := ne2 NB245_237
      have hn37 := ne2 NB245_238
      have hn38 := ne2 NB245_239
      have hn39 := ne2 NB245_246
      have hcz40 := cells3 BK245.out
      go_wp2
      go_loopg [11] k2 (fun kq v11 w' => ∃ (x11_3 : Int) (x247003_3 : List Int) (u247003 : Value), v11 = .int .i64 x11_3 ∧ Aside0 (spec_RunLayer.l2 kq x9_1 x10_2 x11_3 a0_0 a0_1 a0_2 l0_3 a1_0 a1_1 a1_2 a1_3 a1_4 a1_5 a1_6 l1_7 l1_8 t241 t242 t243 t241 t242 t243 x247003_3 = some (r1, r2, r3, r4, r5)) ∧ Aside0 (kq ≤ k2) ∧ Aside0 (Kd.R (Kd.int .i64) 3 w' w.heap.size (fun _ => True) u247003 x247003_3) ∧ Aside0 (w'.heap[gb237]? = some (.cells #[.int .i64 a0_0, .int .i64 a0_1, .int .i64 a0_2, (.slice A0_3 l0_3.length c0_3)] 33 (0, 0))) ∧ Aside0 (w'.heap[gb238]? = some (.cells #[.int .i64 a1_0, .int .i64 a1_1, .int .i64 a1_2, .int .i64 a1_3, .int .i64 a1_4, .int .i64 a1_5, .int .i64 a1_6, (.slice A1_7 l1_7.length c1_7), (.slice A1_8 l1_8.length c1_8)] 37 (0, 0))) ∧ Aside0 (w'.heap[gb239]? = some (.cells #[.int .i64 0, .int .i64 0, .int .i64 0, (.slice none 0 0)] 33 (0, 0))) ∧ Aside0 (w'.heap[gb245]? = some (.cells #[.int .i64 t241, .int .i64 t242, .int .i64 t243] 31 (0, 0))) ∧ Aside0 (w'.heap[gb246]? = some (.cells #[.int .i64 t241, .int .i64 t242, .int .i64 t243, u247003] 33 (0, 0))) ∧ Aside0 (Below w.heap.size w w'))
      case atStart => exact ⟨(0), (x247003_2), (u247003), (by first | rfl | (simp; done) | (simp [*]; done)), H', ⟨Nat.le_refl _⟩, ⟨by (with_reducible repeat (first | apply Kd.R_alloc | apply Kd.R_drewN | apply Kd.R_drew)); exact HO_247003.out⟩, ⟨bks BK237⟩, ⟨bks BK238⟩, ⟨bks BK239⟩, ⟨bks BK245⟩, ⟨bks BK246⟩, ⟨bel_now⟩⟩
      case round =>
       clear H'
       try clear c1
       try clear c2
       try clear p2 p2
       try clear c3
       try clear c4
       try clear c6
       try clear c10
       try clear c11
       try clear c15
       try clear c19
       try clear c20
       try clear c21
       try clear c24
       try clear c25
       try clear c26
       try clear c27
       try clear c29
       try clear c29b0
       try clear c30
       try clear c31
       try clear c32
       try clear c33
       try clear c35
       try clear c35b0
       try clear c36
       try clear c37
       try clear c38
       try clear c39
       try clear hcz12
       try clear hcz14
       try clear hcz16
       try clear hcz22
       try clear hcz28
       try clear hcz34
       try clear hcz40
       obtain ⟨x11_3, x247003_3, u247003, rfl, HA, HK3, HO_247003, BK237, BK238, BK239, BK245, BK246, HB⟩ := hrel
       cases gk with
       | zero => exact absurd HA.out (by simp [spec_RunLayer.l2])
       | succ k3 =>
        have H := HA.out
        clear HA
        simp only [spec_RunLayer.l2] at H
        by_cases c41 : x11_3 < t243
        rotate_left
        ·rw [if_neg c41] at H
         have c41b0 : decide (x11_3 < t243) = false := decide_eq_false c41
         clear c41
         have H' := Aside0.mk H
         clear H
         have hn54 := ne2 NB245_237
         have hn55 := ne2 NB245_238
         have hn56 := ne2 NB245_239
         have hn57 := ne2 NB245_246
         have hcz58 := cells3 BK245.out
         go_wp2
         go_roundg k3
         case measure => have := HK1.out; have := HK2.out; have := HK3.out; omega
         case rel => exact ⟨(wrap64 (x10_2 + 1)), (x247003_3), (u247003), (by first | rfl | (simp; done) | (simp [*]; done)), H', ⟨by have := HK1.out; have := HK2.out; have := HK3.out; omega⟩, ⟨by (with_reducible repeat (first | apply Kd.R_alloc | apply Kd.R_drewN | apply Kd.R_drew)); exact HO_247003.out⟩, ⟨bks BK237⟩, ⟨bks BK238⟩, ⟨bks BK239⟩, ⟨bks BK245⟩, ⟨bks BK246⟩, ⟨bel_now⟩⟩
        rw [if_pos c41] at H
        have c41b0 : decide (x11_3 < t243) = true := decide_eq_true c41
        clear c41
        replace H := Option.bind_eq_some_iff.mp H
        obtain ⟨t247, A420, H⟩ := H
        (try dsimp only at H)
        have A42 := Aside0.mk A420
        clear A420
        by_cases c43 : x247003_3.length < 17592186044416
        rotate_left
        ·rw [if_neg c43] at H
         exact absurd H (by simp)
        rw [if_pos c43] at H
        have LMc43 := Aside0.mk c43
        clear c43
        obtain ⟨y248, hy248⟩ : ∃ y_ : List Int, y_ = (x247003_3 ++ [t247]) := ⟨_, rfl⟩
        replace H : (spec_RunLayer.l2 k3 x9_1 x10_2 (wrap64 (x11_3 + 1)) a0_0 a0_1 a0_2 l0_3 a1_0 a1_1 a1_2 a1_3 a1_4 a1_5 a1_6 l1_7 l1_8 t241 t242 t243 t241 t242 t243 y248) = some (r1, r2, r3, r4, r5) := by first | (rw [hy248]; with_reducible exact H) | (have H2_ := (Option.bind_some _ _).symm.trans H; rw [hy248]; with_reducible exact H2_) | (have H2_ := (Option.bind_some _ _).symm.trans H; with_reducible exact H2_) | with_reducible exact H | (rw [hy248]; exact H) | exact H
        have Ny248 := Aside0.mk hy248
        clear hy248
        have H' := Aside0.mk H
        clear H
        have hn44 := ne2 NB245_237
        have hn45 := ne2 NB245_238
        have hn46 := ne2 NB245_239
        have hn47 := ne2 NB245_246
        have hcz48 := cells3 BK245.out
        try go_wp2
        replace HO_247003 := Aside0.mk (Kd.R_drew HO_247003.out)
        replace BK237 := Aside0.mk (blk_drew BK237.out)
        replace BK238 := Aside0.mk (blk_drew BK238.out)
        replace BK239 := Aside0.mk (blk_drew BK239.out)
        replace BK245 := Aside0.mk (blk_drew BK245.out)
        replace BK246 := Aside0.mk (blk_drew BK246.out)
        replace HB := Aside0.mk (below_drew1 HB.out)
        refine start_ (n := 12) (S := fun w' => w'.cell? ⟨gb246, 0, none⟩ = some (.int .i64 t241) ∧ w'.cell? ⟨gb246, 1, none⟩ = some (.int .i64 t242) ∧ w'.cell? ⟨gb246, 2, none⟩ = some (.int .i64 t243) ∧ w'.cell? ⟨gb246, 3, none⟩ = some (u247003) ∧ w'.cell? ⟨gb237, 0, none⟩ = some (.int .i64 a0_0) ∧ w'.cell? ⟨gb237, 1, none⟩ = some (.int .i64 a0_1) ∧ w'.cell? ⟨gb237, 2, none⟩ = some (.int .i64 a0_2) ∧ w'.cell? ⟨gb237, 3, none⟩ = some (.slice A0_3 l0_3.length c0_3) ∧ w'.cell? ⟨gb238, 0, none⟩ = some (.int .i64 a1_0) ∧ w'.cell? ⟨gb238, 1, none⟩ = some (.int .i64 a1_1) ∧ w'.cell? ⟨gb238, 2, none⟩ = some (.int .i64 a1_2) ∧ w'.cell? ⟨gb238, 3, none⟩ = some (.int .i64 a1_3) ∧ w'.cell? ⟨gb238, 4, none⟩ = some (.int .i64 a1_4) ∧ w'.cell? ⟨gb238, 5, none⟩ = some (.int .i64 a1_5) ∧ w'.cell? ⟨gb238, 6, none⟩ = some (.int .i64 a1_6) ∧ w'.cell? ⟨gb238, 7, none⟩ = some (.slice A1_7 l1_7.length c1_7) ∧ w'.cell? ⟨gb238, 8, none⟩ = some (.slice A1_8 l1_8.length c1_8)) (ds := [11]) #[O, O, O, O, O, O, O, O, O, O, O, O] (by kernel_rfl) rfl rfl ⟨bc BK246 0, bc BK246 1, bc BK246 2, bc BK246 3, bc BK237 0, bc BK237 1, bc BK237 2, bc BK237 3, bc BK238 0, bc BK238 1, bc BK238 2, bc BK238 3, bc BK238 4, bc BK238 5, bc BK238 6, bc BK238 7, bc BK238 8⟩ (fun hHeld => ?_); refine with_tabW spec_RunLayer.tab16 spec_RunLayer.bits16 (fun HT_ HW_ => ?_)
        generalize wr.drew = w49 at HO_247003 BK237 BK238 BK239 BK245 BK246 HB hHeld ⊢
        refine stepP 0 (some 46) (tk 12 1) (any_of HT_.out (by kernel_rfl)) ?_
        refine stepP 4 (some 50) (tk 12 17) (any_of HT_.out (by kernel_rfl)) ?_
        refine stepP 5 (some 51) (tk 12 49) (any_of HT_.out (by kernel_rfl)) ?_
        refine stepP 6 (some 52) (tk 12 113) (any_of HT_.out (by kernel_rfl)) ?_
        refine stepT 1 (some 47) (tk 12 115) (take_ofW HT_.out HW_.out (by kernel_rfl)) hHeld ?_
        refine stepT 2 (some 48) (tk 12 119) (take_ofW HT_.out HW_.out (by kernel_rfl)) hHeld ?_
        refine stepT 3 (some 49) (tk 12 127) (take_ofW HT_.out HW_.out (by kernel_rfl)) hHeld ?_
        refine one_ (i := 7) (N := some 53) #[I, I, I, I, I, I, I, I, O, O, O, O] rfl rfl (one_of HT_.out (by kernel_rfl)) (by decide) (fun K hK => ?_)
        refine goes_ Try.func49 (by kernel_rfl) rfl #[.agg #[.int .i64 a0_0, .int .i64 a0_1, .int .i64 a0_2, .slice A0_3 l0_3.length c0_3], .agg #[.int .i64 a1_0, .int .i64 a1_1, .int .i64 a1_2, .int .i64 a1_3, .int .i64 a1_4, .int .i64 a1_5, .int .i64 a1_6, .slice A1_7 l1_7.length c1_7, .slice A1_8 l1_8.length c1_8], .int .i64 x9_1, .int .i64 x10_2, .int .i64 x11_3] (by rfl) rfl rfl (by (try simp only [List.map_toArray, List.map_cons, List.map_nil]); first | done | rfl | (simp only [List.length_drop, List.length_take]; rfl)) ?_
        with_reducible refine (spec_l03Item.calls k3 a0_0 a0_1 a0_2 _ _ l0_3 a1_0 a1_1 a1_2 a1_3 a1_4 a1_5 a1_6 _ _ l1_7 _ _ l1_8 x9_1 x10_2 x11_3 t247 _ ?side1 ?side2 ?side3 ?side4 ?side5 ?side6 A42.out).mono ?_
        (case side1 => exact C_now HR0_3.out)
        (case side2 => exact HC0_3.out)
        (case side3 => exact C_now HR1_7.out)
        (case side4 => exact HC1_7.out)
        (case side5 => exact C_now HR1_8.out)
        (case side6 => exact HC1_8.out)
        rintro e w50 ⟨rfl, hb⟩
        refine ⟨_, rfl, ?_⟩
        replace HO_247003 := Aside0.mk (Kd.R_below (R_at HO_247003.out) hb)
        replace BK237 := blk_on gb237 hb
        replace BK238 := blk_on gb238 hb
        replace BK239 := blk_on gb239 hb
        replace BK245 := blk_on gb245 hb
        replace BK246 := blk_on gb246 hb
        replace HB := bel_on w hb
        (try clear hb)
        refine hK.out _ _ ⟨bc BK246 0, bc BK246 1, bc BK246 2, bc BK246 3, bc BK237 0, bc BK237 1, bc BK237 2, bc BK237 3, bc BK238 0, bc BK238 1, bc BK238 2, bc BK238 3, bc BK238 4, bc BK238 5, bc BK238 6, bc BK238 7, bc BK238 8⟩ (fun hHeld => ?_)
        clear hK K
        refine normP 53 ?_
        refine one_ (i := 8) (N := some 54) #[I, I, I, I, I, I, I, I, I, O, O, O] rfl rfl (one_of HT_.out (by kernel_rfl)) (by decide) (fun K hK => ?_)
        refine value_ (w1 := ?_) (v := ?_) (by rfl) rfl ?_ ?_
        rotate_left 2
        ·go_simp
         constructor
         ·rfl
         rfl
        refine hK.out _ _ ⟨(blk_cell (blk_alloc BK246.out _) 0).trans rfl, (blk_cell (blk_alloc BK246.out _) 1).trans rfl, (blk_cell (blk_alloc BK246.out _) 2).trans rfl, (blk_cell (blk_alloc BK246.out _) 3).trans rfl, (blk_cell (blk_alloc BK237.out _) 0).trans rfl, (blk_cell (blk_alloc BK237.out _) 1).trans rfl, (blk_cell (blk_alloc BK237.out _) 2).trans rfl, (blk_cell (blk_alloc BK237.out _) 3).trans rfl, (blk_cell (blk_alloc BK238.out _) 0).trans rfl, (blk_cell (blk_alloc BK238.out _) 1).trans rfl, (blk_cell (blk_alloc BK238.out _) 2).trans rfl, (blk_cell (blk_alloc BK238.out _) 3).trans rfl, (blk_cell (blk_alloc BK238.out _) 4).trans rfl, (blk_cell (blk_alloc BK238.out _) 5).trans rfl, (blk_cell (blk_alloc BK238.out _) 6).trans rfl, (blk_cell (blk_alloc BK238.out _) 7).trans rfl, (blk_cell (blk_alloc BK238.out _) 8).trans rfl⟩ (fun hHeld => ?_)
        clear hK K
        refine normP 54 ?_
        refine one_ (i := 9) (N := some 55) #[I, I, I, I, I, I, I, I, I, I, O, O] rfl rfl (one_of HT_.out (by kernel_rfl)) (by decide) (fun K hK => ?_)
        refine Kd.R_append_step (Kd.int .i64) (w0 := w) w.heap.size (by rfl) (.tmp 47) (.tmp 54) 24 3 (.int .i64 0) 8 rfl Try.underlying24 info3 rfl (by decide) (by omega) u247003 x247003_3 t247 [.int .i64 t247] (fun _ => True) (fun _ => False) rfl rfl ?aP (fun _ hk => hk.elim) ?aF ?aO ?aB ?aS ?aL ?_
        (case aP => exact rfl)
        (case aB => exact bel_now)
        (case aF => exact (fun _ _ => trivial))
        (case aO => exact (R_at HO_247003.out))
        (case aS => exact (below_size bel_now))
        (case aL => have := LMc43.out; omega)
        intro v249 w51 ho hb hg hat
        rw [← Ny248.out] at ho
        have n6_ := Aside0.mk (ho)
        replace BK237 := Aside0.mk (blk_grown (g := gb237) blk_now hg (Kd.R_ne HO_247003.out BK237.out (by decide)))
        replace BK238 := Aside0.mk (blk_grown (g := gb238) blk_now hg (Kd.R_ne HO_247003.out BK238.out (by decide)))
        replace BK239 := Aside0.mk (blk_grown (g := gb239) blk_now hg (Kd.R_ne HO_247003.out BK239.out (by decide)))
        replace BK245 := Aside0.mk (blk_grown (g := gb245) blk_now hg (Kd.R_ne HO_247003.out BK245.out (by decide)))
        replace BK246 := Aside0.mk (blk_grown (g := gb246) blk_now hg (Kd.R_ne HO_247003.out BK246.out (by decide)))
        replace HB := Aside0.mk (hb)
        clear HO_247003
        have HO250 := n6_
        clear n6_
        clear ho hb hg hat
        obtain ⟨Ao52, co52, eo52⟩ := Kd.R_slice HO250.out
        (first | subst eo52 | (injection eo52 with f1_ f2_ f3_; have f4_ := f1_.symm; have f5_ := f3_.symm; clear f1_ f2_ f3_; subst f4_; subst f5_))
        refine hK.out _ _ ⟨bc BK246 0, bc BK246 1, bc BK246 2, bc BK246 3, bc BK237 0, bc BK237 1, bc BK237 2, bc BK237 3, bc BK238 0, bc BK238 1, bc BK238 2, bc BK238 3, bc BK238 4, bc BK238 5, bc BK238 6, bc BK238 7, bc BK238 8⟩ (fun hHeld => ?_)
        clear hK K
        refine normP 55 ?_
        refine stepP 10 (some 56) (tk 12 2047) (any_of HT_.out (by kernel_rfl)) ?_
        refine last_ (i := 11) (N := none) #[I, I, I, I, I, I, I, I, I, I, I, I] rfl rfl (one_of HT_.out (by kernel_rfl)) (by decide) (fun K hK => ?_)
        have hs53 : w51.cell? ⟨gb246, 3, none⟩ = some (u247003) := (blk_cell BK246.out 3).trans rfl
        have hfs53 := blk_frozen BK246.out 3
        have hns53_0 := NB237_246.out
        have hns53_1 := NB238_246.out
        have hns53_2 := NB239_246.out
        have hns53_3 := NB245_246.out
        have hms53_0 := NB246_237.out
        have hms53_1 := NB246_238.out
        have hms53_2 := NB246_239.out
        have hms53_3 := NB246_245.out
        refine skip_ (w1 := ?_) (by rfl) rfl ?_ ?_
        rotate_left
        ·go_simp
         rfl
        refine hK.out _ _ ?_
        clear hK K
        refine done_ (done_of HT_.out (by kernel_rfl)) ?_
        try go_wp2
        go_roundg k3
        case measure => have := HK1.out; have := HK2.out; have := HK3.out; omega
        case rel => exact ⟨(wrap64 (x11_3 + 1)), (y248), (.slice Ao52 y248.length co52), (by first | rfl | (simp; done) | (simp [*]; done)), H', ⟨by have := HK1.out; have := HK2.out; have := HK3.out; omega⟩, ⟨by (with_reducible repeat (first | apply Kd.R_alloc | apply Kd.R_drewN | apply Kd.R_drew)); exact Kd.R_mono (Kd.R_far (p := ⟨gb246, 3, none⟩) (Kd.R_types HO250.out BK246.out (by decide)) (fun _ hk => hk.2) (.slice Ao52 y248.length co52)) (fun _ hk => trivial)⟩, ⟨by (with_reducible repeat (first | refine blk_drewN ?_ _ | refine blk_drew ?_ | refine blk_alloc ?_ _)); refine blk_far ?_ NB237_246.out _; (with_reducible repeat (first | refine blk_drewN ?_ _ | refine blk_drew ?_ | refine blk_alloc ?_ _)); exact BK237.out⟩, ⟨by (with_reducible repeat (first | refine blk_drewN ?_ _ | refine blk_drew ?_ | refine blk_alloc ?_ _)); refine blk_far ?_ NB238_246.out _; (with_reducible repeat (first | refine blk_drewN ?_ _ | refine blk_drew ?_ | refine blk_alloc ?_ _)); exact BK238.out⟩, ⟨by (with_reducible repeat (first | refine blk_drewN ?_ _ | refine blk_drew ?_ | refine blk_alloc ?_ _)); refine blk_far ?_ NB239_246.out _; (with_reducible repeat (first | refine blk_drewN ?_ _ | refine blk_drew ?_ | refine blk_alloc ?_ _)); exact BK239.out⟩, ⟨by (with_reducible repeat (first | refine blk_drewN ?_ _ | refine blk_drew ?_ | refine blk_alloc ?_ _)); refine blk_far ?_ NB245_246.out _; (with_reducible repeat (first | refine blk_drewN ?_ _ | refine blk_drew ?_ | refine blk_alloc ?_ _)); exact BK245.out⟩, ⟨by (with_reducible repeat (first | refine blk_drewN ?_ _ | refine blk_drew ?_ | refine blk_alloc ?_ _)); refine blk_put (cs := #[.int .i64 t241, .int .i64 t242, .int .i64 t243, u247003]) ?_ 3 _ rfl; (with_reducible repeat (first | refine blk_drewN ?_ _ | refine blk_drew ?_ | refine blk_alloc ?_ _)); exact BK246.out⟩, ⟨bel_now⟩⟩

/-! ### impl_in: function 70 -/
def impl_in.f (a0 : Int) (a1 : Int) (a2 : Int) : Option (Bool) := if a1 ≤ a0 then (some (decide (a0 ≤ a2))) else (some false)
set_option maxHeartbeats 8000000 in
set_option maxRecDepth 100000 in
theorem impl_in.calls (a0 : Int) (a1 : Int) (a2 : Int) (r : Bool) (w : World) (h : impl_in.f a0 a1 a2 = some r) :
   Calls Try.prog 70 #[.int .i64 a0, .int .i64 a1, .int .i64 a2] w fun e w' => e = .returned (.bool r) ∧ Drawn0 w w' := by
  have H : (if a1 ≤ a0 then (some (decide (a0 ≤ a2))) else (some false)) = some r := h
  clear h
  by_cases c4 : a1 ≤ a0
  ·rw [if_pos c4] at H
   have c4b0 : decide (a1 ≤ a0) = true := decide_eq_true c4
   clear c4
   obtain rfl := Option.some.inj H
   go_enter Try.func70, Try.ntmps70
   go_wp2
   go_ret
   exact ⟨by first | rfl | (simp; done) | (simp [*]; done), by repeat (first | exact Drawn0.refl _ | apply Drawn0.step)⟩
  rw [if_neg c4] at H
  have c4b0 : decide (a1 ≤ a0) = false := decide_eq_false c4
  clear c4
  obtain rfl := Option.some.inj H
  go_enter Try.func70, Try.ntmps70
  go_wp2
  go_ret
  exact ⟨by first | rfl | (simp; done) | (simp [*]; done), by repeat (first | exact Drawn0.refl _ | apply Drawn0.step)⟩

end Go.Proofs.Ytclpojeofclbjaa.PFnExactRunLayer
