import Derived.Test.YtclpojeofclbjaaPFnLayersx0
import Derived.Test.YtclpojeofclbjaaPFnLayersx8
import Derived.Test.YtclpojeofclbjaaPFnLayersx10
import Derived.Test.YtclpojeofclbjaaPFnLayersx13
namespace Go.Proofs.Ytclpojeofclbjaa.PFnLayers
open Go.RowKit Go.Proofs.YtclpojeofclbjaaW.PrintWords Go.Proofs.YtclpojeofclbjaaW.PrintLast Go.Proofs.YtclpojeofclbjaaW.PrintMore
attribute [local go_sem] max2_int min2_int max_two min_two max_three min_three max_four min_four
set_option maxHeartbeats 8000000
set_option maxRecDepth 100000
set_option linter.unusedVariables false
set_option linter.unusedSimpArgs false

mutual
def spec_RunLayer.l0 : Nat → Int → Int → Int → Int → List Int → Int → Int → Int → Int → Int → Int → Int → List Int → List Int → Int → Int → Int → Int → Int → Int → List Int → Option (Int × Int × Int × List Int × Bool)
  | 0, _, _, _, _, _, _, _, _, _, _, _, _, _, _, _, _, _, _, _, _, _ => none
  | k + 1, x9, x530000, x530001, x530002, x530003, x531000, x531001, x531002, x531003, x531004, x531005, x531006, x531007, x531008, x538000, x538001, x538002, x539000, x539001, x539002, x539003 => if x9 < x538000 then (spec_RunLayer.l1 k x9 0 x530000 x530001 x530002 x530003 x531000 x531001 x531002 x531003 x531004 x531005 x531006 x531007 x531008 x538000 x538001 x538002 x539000 x539001 x539002 x539003) else (some (x539000, x539001, x539002, x539003, true))
def spec_RunLayer.l1 : Nat → Int → Int → Int → Int → Int → List Int → Int → Int → Int → Int → Int → Int → Int → List Int → List Int → Int → Int → Int → Int → Int → Int → List Int → Option (Int × Int × Int × List Int × Bool)
  | 0, _, _, _, _, _, _, _, _, _, _, _, _, _, _, _, _, _, _, _, _, _, _ => none
  | k + 1, x9, x10, x530000, x530001, x530002, x530003, x531000, x531001, x531002, x531003, x531004, x531005, x531006, x531007, x531008, x538000, x538001, x538002, x539000, x539001, x539002, x539003 => if x10 < x538001 then (spec_RunLayer.l2 k x9 x10 0 x530000 x530001 x530002 x530003 x531000 x531001 x531002 x531003 x531004 x531005 x531006 x531007 x531008 x538000 x538001 x538002 x539000 x539001 x539002 x539003) else (spec_RunLayer.l0 k (wrap64 (x9 + 1)) x530000 x530001 x530002 x530003 x531000 x531001 x531002 x531003 x531004 x531005 x531006 x531007 x531008 x538000 x538001 x538002 x539000 x539001 x539002 x539003)
def spec_RunLayer.l2 : Nat → Int → Int → Int → Int → Int → Int → List Int → Int → Int → Int → Int → Int → Int → Int → List Int → List Int → Int → Int → Int → Int → Int → Int → List Int → Option (Int × Int × Int × List Int × Bool)
  | 0, _, _, _, _, _, _, _, _, _, _, _, _, _, _, _, _, _, _, _, _, _, _, _ => none
  | k + 1, x9, x10, x11, x530000, x530001, x530002, x530003, x531000, x531001, x531002, x531003, x531004, x531005, x531006, x531007, x531008, x538000, x538001, x538002, x539000, x539001, x539002, x539003 => if x11 < x538002 then ((spec_l03Item.f k x530000 x530001 x530002 x530003 x531000 x531001 x531002 x531003 x531004 x531005 x531006 x531007 x531008 x9 x10 x11).bind fun t539 => (if x539003.length < 17592186044416 then (spec_RunLayer.l2 k x9 x10 (wrap64 (x11 + 1)) x530000 x530001 x530002 x530003 x531000 x531001 x531002 x531003 x531004 x531005 x531006 x531007 x531008 x538000 x538001 x538002 x539000 x539001 x539002 (x539003 ++ [t539])) else (none))) else (spec_RunLayer.l1 k x9 (wrap64 (x10 + 1)) x530000 x530001 x530002 x530003 x531000 x531001 x531002 x531003 x531004 x531005 x531006 x531007 x531008 x538000 x538001 x538002 x539000 x539001 x539002 x539003)
end
def spec_RunLayer.f (k : Nat) (a0_0 : Int) (a0_1 : Int) (a0_2 : Int) (l0_3 : List Int) (a1_0 : Int) (a1_1 : Int) (a1_2 : Int) (a1_3 : Int) (a1_4 : Int) (a1_5 : Int) (a1_6 : Int) (l1_7 : List Int) (l1_8 : List Int) : Option (Int × Int × Int × List Int × Bool) := (spec_TensorOk.f k a0_0 a0_1 a0_2 l0_3).bind fun t532 => (if t532 = true then ((spec_OutShape.f k a0_0 a0_1 a0_2 a1_0 a1_1 a1_2 a1_3 a1_4 a1_5 a1_6 l1_7 l1_8).bind fun bt533 => (if bt533.2.2.2 = true then (spec_RunLayer.l0 k 0 a0_0 a0_1 a0_2 l0_3 a1_0 a1_1 a1_2 a1_3 a1_4 a1_5 a1_6 l1_7 l1_8 bt533.1 bt533.2.1 bt533.2.2.1 bt533.1 bt533.2.1 bt533.2.2.1 ([] : List Int)) else (some (0, 0, 0, ([] : List Int), false)))) else (some (0, 0, 0, ([] : List Int), false)))
def spec_RunLayer.T16 : Bool × List (List Nat × List Nat) := (true, [([], []), ([0], [0]), ([], []), ([], []), ([], []), ([], []), ([], []), ([2, 3, 4, 5, 6], [2, 3, 4, 5, 6]), ([7], [7]), ([1, 8, 7], [1, 8]), ([0, 1, 2, 3, 4, 5, 6, 7, 8, 9], []), ([10, 9, 9, 0, 1, 2, 3, 4, 5, 6, 7, 8, 9], [9, 10])])
def spec_RunLayer.B16 : List Nat := [0, 1, 0, 0, 0, 0, 0, 124, 252, 511, 1023, 2047]
theorem spec_RunLayer.tab16 : rtab .any (opsOf Try.f10 16) = spec_RunLayer.T16 := by kernel_rfl
theorem spec_RunLayer.bits16 : waitsOk spec_RunLayer.T16.2 spec_RunLayer.B16 = true := by kernel_rfl
theorem spec_RunLayer.calls (k : Nat) (a0_0 : Int) (a0_1 : Int) (a0_2 : Int) (A0_3 : Option Addr) (c0_3 : Nat) (l0_3 : List Int) (a1_0 : Int) (a1_1 : Int) (a1_2 : Int) (a1_3 : Int) (a1_4 : Int) (a1_5 : Int) (a1_6 : Int) (A1_7 : Option Addr) (c1_7 : Nat) (l1_7 : List Int) (A1_8 : Option Addr) (c1_8 : Nat) (l1_8 : List Int) (r1 : Int) (r2 : Int) (r3 : Int) (r4 : List Int) (r5 : Bool) (w : World) (hr0_3 : Kd.C (Kd.int .i64) w A0_3 l0_3.length l0_3) (hc0_3 : l0_3.length ≤ c0_3) (hr1_7 : Kd.C (Kd.int .i64) w A1_7 l1_7.length l1_7) (hc1_7 : l1_7.length ≤ c1_7) (hr1_8 : Kd.C (Kd.int .i64) w A1_8 l1_8.length l1_8) (hc1_8 : l1_8.length ≤ c1_8) (h : spec_RunLayer.f k a0_0 a0_1 a0_2 l0_3 a1_0 a1_1 a1_2 a1_3 a1_4 a1_5 a1_6 l1_7 l1_8 = some (r1, r2, r3, r4, r5)) :
   Calls Try.prog 10 #[.agg #[.int .i64 a0_0, .int .i64 a0_1, .int .i64 a0_2, .slice A0_3 l0_3.length c0_3], .agg #[.int .i64 a1_0, .int .i64 a1_1, .int .i64 a1_2, .int .i64 a1_3, .int .i64 a1_4, .int .i64 a1_5, .int .i64 a1_6, .slice A1_7 l1_7.length c1_7, .slice A1_8 l1_8.length c1_8]] w fun e w' => ∃ v3_ : Value, e = .returned (.tuple #[.agg #[.int .i64 r1, .int .i64 r2, .int .i64 r3, v3_], .bool r5]) ∧ Kd.R (Kd.int .i64) 3 w' w.heap.size (fun _ => True) v3_ r4 ∧ Below w.heap.size w w' := by
  have hu33 := Try.underlying33;have hu37 := Try.underlying37;have hu31 := Try.underlying31;have HR0_3 := am hr0_3;have HC0_3 := am hc0_3;clear hr0_3 hc0_3;have HR1_7 := am hr1_7;have HC1_7 := am hc1_7;clear hr1_7 hc1_7;have HR1_8 := am hr1_8;have HC1_8 := am hc1_8;clear hr1_8 hc1_8;have HB := am (Below.refl w.heap.size w);have H : ((spec_TensorOk.f k a0_0 a0_1 a0_2 l0_3).bind fun t532 => (if t532 = true then ((spec_OutShape.f k a0_0 a0_1 a0_2 a1_0 a1_1 a1_2 a1_3 a1_4 a1_5 a1_6 l1_7 l1_8).bind fun bt533 => (if bt533.2.2.2 = true then (spec_RunLayer.l0 k 0 a0_0 a0_1 a0_2 l0_3 a1_0 a1_1 a1_2 a1_3 a1_4 a1_5 a1_6 l1_7 l1_8 bt533.1 bt533.2.1 bt533.2.2.1 bt533.1 bt533.2.1 bt533.2.2.1 ([] : List Int)) else (some (0, 0, 0, ([] : List Int), false)))) else (some (0, 0, 0, ([] : List Int), false)))) = some (r1, r2, r3, r4, r5) := h;clear h;obtain ⟨t532, A3, H⟩ := bnd H;(try dsimp only at H);by_cases c4 : t532 = true
  case' neg => skip
  replace c4 := Bool.eq_false_iff.mpr c4;subst c4
  rw [if_neg (show ¬ (false = true) by decide)] at H
  simp only [Option.some.injEq, Prod.mk.injEq] at H;obtain ⟨rfl, rfl, rfl, rfl, rfl⟩ := H;rotate_left;subst c4;rw [if_pos rfl] at H;replace H := Option.bind_eq_some_iff.mp H;obtain ⟨⟨t533, t534, t535, t536⟩, A50, H⟩ := H;(try dsimp only at H);have A5 := am A50;clear A50;by_cases c6 : t536 = true
  case' neg => skip
  replace c6 := Bool.eq_false_iff.mpr c6;subst c6
  rw [if_neg (show ¬ (false = true) by decide)] at H
  simp only [Option.some.injEq, Prod.mk.injEq] at H;obtain ⟨rfl, rfl, rfl, rfl, rfl⟩ := H;rotate_left;subst c6;rw [if_pos rfl] at H;have H' := am H;clear H;rotate_left
  all_goals (go_enter Try.func10, Try.ntmps10; go_wp2_with (first | ((with_reducible refine gate_dst (N := 2) rfl ?_); refine boxM 2 #[.int .i64 a0_0, .int .i64 a0_1, .int .i64 a0_2, .slice A0_3 l0_3.length c0_3] 33 ?_; intro gb529 hg w_ BK529 hb; obtain ⟨HB, GW529, GE529⟩ := box_at w hb hg; clear hb hg) | ((with_reducible refine gate_dst (N := 3) rfl ?_); refine boxM 3 #[.int .i64 a1_0, .int .i64 a1_1, .int .i64 a1_2, .int .i64 a1_3, .int .i64 a1_4, .int .i64 a1_5, .int .i64 a1_6, .slice A1_7 l1_7.length c1_7, .slice A1_8 l1_8.length c1_8] 37 ?_; intro gb530 hg w_ BK530 hb; obtain ⟨HB, GW530, GE530⟩ := box_at w hb hg; obtain ⟨BK529, NB529_530, NB530_529⟩ := box_on gb529 hb hg; clear hb hg) | ((with_reducible refine gate_dst (N := 4) rfl ?_); refine boxM 4 #[.int .i64 0, .int .i64 0, .int .i64 0, .slice none 0 0] 33 ?_; intro gb531 hg w_ BK531 hb; obtain ⟨HB, GW531, GE531⟩ := box_at w hb hg; obtain ⟨BK529, NB529_531, NB531_529⟩ := box_on gb529 hb hg; obtain ⟨BK530, NB530_531, NB531_530⟩ := box_on gb530 hb hg; clear hb hg; have hn_ := ne2 NB529_530; have hn_ := ne2 NB529_531; have hcz_ := cells4 BK529.out; have hcz12 := cells4 BK529.out) | ((with_reducible refine gate_callee (f := 32) rfl ?_); refine gM 13 Try.func32 #[.agg #[.int .i64 a0_0, .int .i64 a0_1, .int .i64 a0_2, .slice A0_3 l0_3.length c0_3]] rfl ?_; (with_reducible refine (spec_TensorOk.calls k a0_0 a0_1 a0_2 _ _ l0_3 false _ ?side1 HC0_3.out A3.out).mono ?_); (case side1 => exact C_now HR0_3.out); rintro e w_ ⟨rfl, hb⟩; refine ⟨_, rfl, ?_⟩; replace HB := bel_on w hb; replace BK529 := blk_on gb529 hb; replace BK530 := blk_on gb530 hb; replace BK531 := blk_on gb531 hb; (try clear hb); have hn_ := ne2 NB531_530; have hcz_ := cells4 BK531.out) | ((with_reducible refine gate_callee (f := 32) rfl ?_); refine gM 13 Try.func32 #[.agg #[.int .i64 a0_0, .int .i64 a0_1, .int .i64 a0_2, .slice A0_3 l0_3.length c0_3]] rfl ?_; (with_reducible refine (spec_TensorOk.calls k a0_0 a0_1 a0_2 _ _ l0_3 true _ ?side1 HC0_3.out A3.out).mono ?_); (case side1 => exact C_now HR0_3.out); rintro e w_ ⟨rfl, hb⟩; refine ⟨_, rfl, ?_⟩; replace HB := bel_on w hb; replace BK529 := blk_on gb529 hb; replace BK530 := blk_on gb530 hb; replace BK531 := blk_on gb531 hb; (try clear hb); have hcz_ := cells4 BK529.out; have hn_ := ne2 NB530_531; have hcz_ := cells9 BK530.out; have hcz14 := cells4 BK529.out; have hcz16 := cells9 BK530.out) | ((with_reducible refine gate_callee (f := 48) rfl ?_); refine gM 20 Try.func48 #[.agg #[.int .i64 a0_0, .int .i64 a0_1, .int .i64 a0_2], .agg #[.int .i64 a1_0, .int .i64 a1_1, .int .i64 a1_2, .int .i64 a1_3, .int .i64 a1_4, .int .i64 a1_5, .int .i64 a1_6, .slice A1_7 l1_7.length c1_7, .slice A1_8 l1_8.length c1_8]] rfl ?_; (with_reducible refine (spec_OutShape.calls k a0_0 a0_1 a0_2 a1_0 a1_1 a1_2 a1_3 a1_4 a1_5 a1_6 _ _ l1_7 _ _ l1_8 t533 t534 t535 false _ ?side1 HC1_7.out ?side3 HC1_8.out A5.out).mono ?_); (case side1 => exact C_now HR1_7.out); (case side3 => exact C_now HR1_8.out); rintro e w_ ⟨rfl, hb⟩; refine ⟨_, rfl, ?_⟩; replace HB := bel_on w hb; replace BK529 := blk_on gb529 hb; replace BK530 := blk_on gb530 hb; replace BK531 := blk_on gb531 hb; (try clear hb)) | ((with_reducible refine gate_dst (N := 6) rfl ?_); refine boxM 6 #[.int .i64 0, .int .i64 0, .int .i64 0] 31 ?_; intro gb537 hg w_ BK537 hb; obtain ⟨HB, GW537, GE537⟩ := box_at w hb hg; obtain ⟨BK529, NB529_537, NB537_529⟩ := box_on gb529 hb hg; obtain ⟨BK530, NB530_537, NB537_530⟩ := box_on gb530 hb hg; obtain ⟨BK531, NB531_537, NB537_531⟩ := box_on gb531 hb hg; clear hb hg; have hn_ := ne2 NB537_529; have hn_ := ne2 NB537_530; have hn_ := ne2 NB537_531; have hcz_ := cells3 BK537.out; have hcz_ := cells4 BK531.out; have hcz22 := cells3 BK537.out) | ((with_reducible refine gate_callee (f := 48) rfl ?_); refine gM 20 Try.func48 #[.agg #[.int .i64 a0_0, .int .i64 a0_1, .int .i64 a0_2], .agg #[.int .i64 a1_0, .int .i64 a1_1, .int .i64 a1_2, .int .i64 a1_3, .int .i64 a1_4, .int .i64 a1_5, .int .i64 a1_6, .slice A1_7 l1_7.length c1_7, .slice A1_8 l1_8.length c1_8]] rfl ?_; (with_reducible refine (spec_OutShape.calls k a0_0 a0_1 a0_2 a1_0 a1_1 a1_2 a1_3 a1_4 a1_5 a1_6 _ _ l1_7 _ _ l1_8 t533 t534 t535 true _ ?side1 HC1_7.out ?side3 HC1_8.out A5.out).mono ?_); (case side1 => exact C_now HR1_7.out); (case side3 => exact C_now HR1_8.out); rintro e w_ ⟨rfl, hb⟩; refine ⟨_, rfl, ?_⟩; replace HB := bel_on w hb; replace BK529 := blk_on gb529 hb; replace BK530 := blk_on gb530 hb; replace BK531 := blk_on gb531 hb; (try clear hb)) | ((with_reducible refine gate_dst (N := 8) rfl ?_); refine box_event ?hg (N := 8) ?hd (cs := #[.int .i64 0, .int .i64 0, .int .i64 0, .slice none 0 0]) (t := 33) ?hr ?_; (case hd => rfl); (case hg => rfl); (case hr => first | (go_simp; done) | (go_simp; rfl)); intro gb538 hg w_ hbox hb; obtain ⟨n4_, n6_, n7_⟩ := box_sizes bel_now hb hg; obtain ⟨n0_, n8_, n9_⟩ := box_blk (g := gb529) (o := .cells #[.int .i64 a0_0, .int .i64 a0_1, .int .i64 a0_2, .slice A0_3 l0_3.length c0_3] 33 (0, 0)) (blk_fars BK529.out) hb hg; obtain ⟨n1_, n10_, n11_⟩ := box_blk (g := gb530) (o := .cells #[.int .i64 a1_0, .int .i64 a1_1, .int .i64 a1_2, .int .i64 a1_3, .int .i64 a1_4, .int .i64 a1_5, .int .i64 a1_6, .slice A1_7 l1_7.length c1_7, .slice A1_8 l1_8.length c1_8] 37 (0, 0)) (blk_fars BK530.out) hb hg; obtain ⟨n2_, n12_, n13_⟩ := box_blk (g := gb531) (o := .cells #[.int .i64 0, .int .i64 0, .int .i64 0, .slice none 0 0] 33 (0, 0)) (blk_fars BK531.out) hb hg; obtain ⟨n3_, n14_, n15_⟩ := box_blk (g := gb537) (o := .cells #[.int .i64 t533, .int .i64 t534, .int .i64 t535] 31 (0, 0)) (blk_fars (puts3 BK537.out)) hb hg; have n5_ := am (hbox); clear BK529; clear BK530; clear BK531; clear BK537; clear HB; have BK529 := n0_; have BK530 := n1_; have BK531 := n2_; have BK537 := n3_; have HB := n4_; have BK538 := n5_; have GW538 := n6_; have GE538 := n7_; have NB529_538 := n8_; have NB538_529 := n9_; have NB530_538 := n10_; have NB538_530 := n11_; have NB531_538 := n12_; have NB538_531 := n13_; have NB537_538 := n14_; have NB538_537 := n15_; clear n0_ n1_ n2_ n3_ n4_ n5_ n6_ n7_ n8_ n9_ n10_ n11_ n12_ n13_ n14_ n15_; clear hb hbox hg; have hn_ := ne2 NB538_529; have hn_ := ne2 NB538_530; have hn_ := ne2 NB538_531; have hn_ := ne2 NB538_537; have hcz28 := cells4 BK538.out)))
  ·refine bodyPost_ret (results_ct rfl _ _ gb531 33 #[.int .i64 0, .int .i64 0, .int .i64 0, .slice none 0 0] (0, 0) _ rfl (blk_fars (puts4 BK531.out)) Try.underlying33 rfl (by kernel_rfl)) rfl ?_
   exact ⟨_, eqN, by first | exact Kd.R_nil _ _ _ _ _ | exact Kd.N_nil _ _ _ _ _ | exact Kd.V_nil _ _ _ _ _ | exact Kd.Q_nil _ _ _ _ _ | exact Kd.S_nil _ _ _ _ _, bel_now⟩
  ·refine bodyPost_ret (results_ct rfl _ _ gb531 33 #[.int .i64 0, .int .i64 0, .int .i64 0, .slice none 0 0] (0, 0) _ rfl blkN Try.underlying33 rfl (by kernel_rfl)) rfl ?_
   exact ⟨_, eqN, by first | exact Kd.R_nil _ _ _ _ _ | exact Kd.N_nil _ _ _ _ _ | exact Kd.V_nil _ _ _ _ _ | exact Kd.Q_nil _ _ _ _ _ | exact Kd.S_nil _ _ _ _ _, bel_now⟩
  ·go_loopg [9] k (fun kq v9 w' => ∃ (x9_1 : Int) (x539003_1 : List Int) (u539003 : Value), v9 = .int .i64 x9_1 ∧ Aside0 (spec_RunLayer.l0 kq x9_1 a0_0 a0_1 a0_2 l0_3 a1_0 a1_1 a1_2 a1_3 a1_4 a1_5 a1_6 l1_7 l1_8 t533 t534 t535 t533 t534 t535 x539003_1 = some (r1, r2, r3, r4, r5)) ∧ Aside0 (kq ≤ k) ∧ Aside0 (Kd.R (Kd.int .i64) 3 w' w.heap.size (fun _ => True) u539003 x539003_1) ∧ Aside0 (w'.heap[gb529]? = some (.cells #[.int .i64 a0_0, .int .i64 a0_1, .int .i64 a0_2, (.slice A0_3 l0_3.length c0_3)] 33 (0, 0))) ∧ Aside0 (w'.heap[gb530]? = some (.cells #[.int .i64 a1_0, .int .i64 a1_1, .int .i64 a1_2, .int .i64 a1_3, .int .i64 a1_4, .int .i64 a1_5, .int .i64 a1_6, (.slice A1_7 l1_7.length c1_7), (.slice A1_8 l1_8.length c1_8)] 37 (0, 0))) ∧ Aside0 (w'.heap[gb531]? = some (.cells #[.int .i64 0, .int .i64 0, .int .i64 0, (.slice none 0 0)] 33 (0, 0))) ∧ Aside0 (w'.heap[gb537]? = some (.cells #[.int .i64 t533, .int .i64 t534, .int .i64 t535] 31 (0, 0))) ∧ Aside0 (w'.heap[gb538]? = some (.cells #[.int .i64 t533, .int .i64 t534, .int .i64 t535, u539003] 33 (0, 0))) ∧ Aside0 (Below w.heap.size w w'))
   case atStart => exact ⟨(0), (([] : List Int)), (.slice none 0 0), pv, H', ⟨Nat.le_refl _⟩, ⟨by first | exact Kd.R_nil _ _ _ _ _ | exact Kd.N_nil _ _ _ _ _ | exact Kd.V_nil _ _ _ _ _ | exact Kd.Q_nil _ _ _ _ _ | exact Kd.S_nil _ _ _ _ _⟩, ⟨blkN⟩, ⟨blkN⟩, ⟨blkN⟩, ⟨blkN⟩, ⟨blkN⟩, ⟨bel_now⟩⟩
   case round =>
    clear H';try clear c4
    try clear c6
    try clear hcz12
    try clear hcz14
    try clear hcz16
    try clear hcz22
    try clear hcz28
    obtain ⟨x9_1, x539003_1, u539003, rfl, HA, HK1, HO_539003, BK529, BK530, BK531, BK537, BK538, HB⟩ := hrel
    cases gk with
    | zero => exact absurd HA.out (by simp [spec_RunLayer.l0])
    | succ k1 =>
     have H := HA.out;clear HA;simp only [spec_RunLayer.l0] at H;by_cases c29 : x9_1 < t533;rotate_left
     ·rw [if_neg c29] at H;have c29b0 : decide (x9_1 < t533) = false := decide_eq_false c29;clear c29;simp only [Option.some.injEq, Prod.mk.injEq] at H;obtain ⟨rfl, rfl, rfl, rfl, rfl⟩ := H;have hn_ := ne2 NB537_529;have hn_ := ne2 NB537_530;have hn_ := ne2 NB537_531;have hn_ := ne2 NB537_538;have hcz_ := cells3 BK537.out;have hn_ := ne2 NB538_529;have hn_ := ne2 NB538_530;have hn_ := ne2 NB538_531;have hcz_ := cells4 BK538.out;have hn_ := ne2 NB531_529;have hn_ := ne2 NB531_530;have hcz_ := cells4 BK531.out;obtain ⟨Ao76, co76, eo76⟩ := Kd.R_slice HO_539003.out;subst eo76
      go_wp2
      refine bodyPost_ret (results_ct rfl _ _ gb531 33 #[.int .i64 t533, .int .i64 t534, .int .i64 t535, .slice Ao76 x539003_1.length co76] (0, 0) _ rfl (blk_fars (puts4 BK531.out)) Try.underlying33 rfl (by kernel_rfl)) rfl ?_
      exact ⟨_, eqN, Kd.R_mono (R_atF HO_539003.out) (fun _ hk => trivial), bel_now⟩
     rw [if_pos c29] at H;have c29b0 : decide (x9_1 < t533) = true := decide_eq_true c29;clear c29;have H' := am H;clear H;have hn_ := ne2 NB537_529;have hn_ := ne2 NB537_530;have hn_ := ne2 NB537_531;have hn_ := ne2 NB537_538;have hcz34 := cells3 BK537.out
     go_wp2
     go_loopg [10] k1 (fun kq v10 w' => ∃ (x10_2 : Int) (x539003_2 : List Int) (u539003 : Value), v10 = .int .i64 x10_2 ∧ Aside0 (spec_RunLayer.l1 kq x9_1 x10_2 a0_0 a0_1 a0_2 l0_3 a1_0 a1_1 a1_2 a1_3 a1_4 a1_5 a1_6 l1_7 l1_8 t533 t534 t535 t533 t534 t535 x539003_2 = some (r1, r2, r3, r4, r5)) ∧ Aside0 (kq ≤ k1) ∧ Aside0 (Kd.R (Kd.int .i64) 3 w' w.heap.size (fun _ => True) u539003 x539003_2) ∧ Aside0 (w'.heap[gb529]? = some (.cells #[.int .i64 a0_0, .int .i64 a0_1, .int .i64 a0_2, (.slice A0_3 l0_3.length c0_3)] 33 (0, 0))) ∧ Aside0 (w'.heap[gb530]? = some (.cells #[.int .i64 a1_0, .int .i64 a1_1, .int .i64 a1_2, .int .i64 a1_3, .int .i64 a1_4, .int .i64 a1_5, .int .i64 a1_6, (.slice A1_7 l1_7.length c1_7), (.slice A1_8 l1_8.length c1_8)] 37 (0, 0))) ∧ Aside0 (w'.heap[gb531]? = some (.cells #[.int .i64 0, .int .i64 0, .int .i64 0, (.slice none 0 0)] 33 (0, 0))) ∧ Aside0 (w'.heap[gb537]? = some (.cells #[.int .i64 t533, .int .i64 t534, .int .i64 t535] 31 (0, 0))) ∧ Aside0 (w'.heap[gb538]? = some (.cells #[.int .i64 t533, .int .i64 t534, .int .i64 t535, u539003] 33 (0, 0))) ∧ Aside0 (Below w.heap.size w w'))
     case atStart => exact ⟨(0), (x539003_1), (u539003), pv, H', ⟨Nat.le_refl _⟩, ⟨R_at HO_539003.out⟩, ⟨bks BK529⟩, ⟨bks BK530⟩, ⟨bks BK531⟩, ⟨bks BK537⟩, ⟨bks BK538⟩, ⟨bel_now⟩⟩
     case round =>
      clear H';try clear c4
      try clear c6
      try clear c29
      try clear c29b0
      try clear hcz12
      try clear hcz14
      try clear hcz16
      try clear hcz22
      try clear hcz28
      try clear hcz34
      obtain ⟨x10_2, x539003_2, u539003, rfl, HA, HK2, HO_539003, BK529, BK530, BK531, BK537, BK538, HB⟩ := hrel
      cases gk with
      | zero => exact absurd HA.out (by simp [spec_RunLayer.l1])
      | succ k2 =>
       have H := HA.out;clear HA;simp only [spec_RunLayer.l1] at H;by_cases c35 : x10_2 < t534;rotate_left
       ·rw [if_neg c35] at H;have c35b0 : decide (x10_2 < t534) = false := decide_eq_false c35;clear c35;have H' := am H;clear H;have hn_ := ne2 NB537_529;have hn_ := ne2 NB537_530;have hn_ := ne2 NB537_531;have hn_ := ne2 NB537_538;have hcz_ := cells3 BK537.out
        go_wp2
        go_roundg k2
        case measure => have := HK1.out; have := HK2.out; omega
        case rel => exact ⟨(wrap64 (x9_1 + 1)), (x539003_2), (u539003), pv, H', ⟨by have := HK1.out; have := HK2.out; omega⟩, ⟨R_at HO_539003.out⟩, ⟨bks BK529⟩, ⟨bks BK530⟩, ⟨bks BK531⟩, ⟨bks BK537⟩, ⟨bks BK538⟩, ⟨bel_now⟩⟩
       rw [if_pos c35] at H;have c35b0 : decide (x10_2 < t534) = true := decide_eq_true c35;clear c35;have H' := am H;clear H;have hn_ := ne2 NB537_529;have hn_ := ne2 NB537_530;have hn_ := ne2 NB537_531;have hn_ := ne2 NB537_538;have hcz40 := cells3 BK537.out
       go_wp2
       go_loopg [11] k2 (fun kq v11 w' => ∃ (x11_3 : Int) (x539003_3 : List Int) (u539003 : Value), v11 = .int .i64 x11_3 ∧ Aside0 (spec_RunLayer.l2 kq x9_1 x10_2 x11_3 a0_0 a0_1 a0_2 l0_3 a1_0 a1_1 a1_2 a1_3 a1_4 a1_5 a1_6 l1_7 l1_8 t533 t534 t535 t533 t534 t535 x539003_3 = some (r1, r2, r3, r4, r5)) ∧ Aside0 (kq ≤ k2) ∧ Aside0 (Kd.R (Kd.int .i64) 3 w' w.heap.size (fun _ => True) u539003 x539003_3) ∧ Aside0 (w'.heap[gb529]? = some (.cells #[.int .i64 a0_0, .int .i64 a0_1, .int .i64 a0_2, (.slice A0_3 l0_3.length c0_3)] 33 (0, 0))) ∧ Aside0 (w'.heap[gb530]? = some (.cells #[.int .i64 a1_0, .int .i64 a1_1, .int .i64 a1_2, .int .i64 a1_3, .int .i64 a1_4, .int .i64 a1_5, .int .i64 a1_6, (.slice A1_7 l1_7.length c1_7), (.slice A1_8 l1_8.length c1_8)] 37 (0, 0))) ∧ Aside0 (w'.heap[gb531]? = some (.cells #[.int .i64 0, .int .i64 0, .int .i64 0, (.slice none 0 0)] 33 (0, 0))) ∧ Aside0 (w'.heap[gb537]? = some (.cells #[.int .i64 t533, .int .i64 t534, .int .i64 t535] 31 (0, 0))) ∧ Aside0 (w'.heap[gb538]? = some (.cells #[.int .i64 t533, .int .i64 t534, .int .i64 t535, u539003] 33 (0, 0))) ∧ Aside0 (Below w.heap.size w w'))
       case atStart => exact ⟨(0), (x539003_2), (u539003), pv, H', ⟨Nat.le_refl _⟩, ⟨R_at HO_539003.out⟩, ⟨bks BK529⟩, ⟨bks BK530⟩, ⟨bks BK531⟩, ⟨bks BK537⟩, ⟨bks BK538⟩, ⟨bel_now⟩⟩
       case round =>
        clear H';try clear c4
        try clear c6
        try clear c29
        try clear c29b0
        try clear c35
        try clear c35b0
        try clear hcz12
        try clear hcz14
        try clear hcz16
        try clear hcz22
        try clear hcz28
        try clear hcz34
        try clear hcz40
        obtain ⟨x11_3, x539003_3, u539003, rfl, HA, HK3, HO_539003, BK529, BK530, BK531, BK537, BK538, HB⟩ := hrel
        cases gk with
        | zero => exact absurd HA.out (by simp [spec_RunLayer.l2])
        | succ k3 =>
         have H := HA.out;clear HA;simp only [spec_RunLayer.l2] at H;by_cases c41 : x11_3 < t535;rotate_left
         ·rw [if_neg c41] at H;have c41b0 : decide (x11_3 < t535) = false := decide_eq_false c41;clear c41;have H' := am H;clear H;have hn_ := ne2 NB537_529;have hn_ := ne2 NB537_530;have hn_ := ne2 NB537_531;have hn_ := ne2 NB537_538;have hcz_ := cells3 BK537.out
          go_wp2
          go_roundg k3
          case measure => have := HK1.out; have := HK2.out; have := HK3.out; omega
          case rel => exact ⟨(wrap64 (x10_2 + 1)), (x539003_3), (u539003), pv, H', ⟨by have := HK1.out; have := HK2.out; have := HK3.out; omega⟩, ⟨R_at HO_539003.out⟩, ⟨bks BK529⟩, ⟨bks BK530⟩, ⟨bks BK531⟩, ⟨bks BK537⟩, ⟨bks BK538⟩, ⟨bel_now⟩⟩
         rw [if_pos c41] at H;have c41b0 : decide (x11_3 < t535) = true := decide_eq_true c41;clear c41;obtain ⟨t539, A42, H⟩ := bnd H;(try dsimp only at H);obtain ⟨c43, H⟩ := gd H;have LMc43 := am c43;clear c43;obtain ⟨y540, hy540⟩ : ∃ y_ : List Int, y_ = (x539003_3 ++ [t539]) := ⟨_, rfl⟩;replace H : (spec_RunLayer.l2 k3 x9_1 x10_2 (wrap64 (x11_3 + 1)) a0_0 a0_1 a0_2 l0_3 a1_0 a1_1 a1_2 a1_3 a1_4 a1_5 a1_6 l1_7 l1_8 t533 t534 t535 t533 t534 t535 y540) = some (r1, r2, r3, r4, r5) := by first | (rw [hy540]; with_reducible exact H) | (have H2_ := (Option.bind_some _ _).symm.trans H; rw [hy540]; with_reducible exact H2_) | (have H2_ := (Option.bind_some _ _).symm.trans H; with_reducible exact H2_) | with_reducible exact H | (rw [hy540]; exact H) | exact H
         have Ny540 := am hy540;clear hy540;have H' := am H;clear H;have hn_ := ne2 NB537_529;have hn_ := ne2 NB537_530;have hn_ := ne2 NB537_531;have hn_ := ne2 NB537_538;have hcz_ := cells3 BK537.out
         try go_wp2
         replace HO_539003 := am (Kd.R_drew HO_539003.out);replace BK529 := am (blk_drew BK529.out);replace BK530 := am (blk_drew BK530.out);replace BK531 := am (blk_drew BK531.out);replace BK537 := am (blk_drew BK537.out);replace BK538 := am (blk_drew BK538.out);replace HB := am (below_drew1 HB.out)
         refine start_ (n := 12) (S := fun w' => w'.cell? ⟨gb538, 0, none⟩ = some (.int .i64 t533) ∧ w'.cell? ⟨gb538, 1, none⟩ = some (.int .i64 t534) ∧ w'.cell? ⟨gb538, 2, none⟩ = some (.int .i64 t535) ∧ w'.cell? ⟨gb538, 3, none⟩ = some (u539003) ∧ w'.cell? ⟨gb529, 0, none⟩ = some (.int .i64 a0_0) ∧ w'.cell? ⟨gb529, 1, none⟩ = some (.int .i64 a0_1) ∧ w'.cell? ⟨gb529, 2, none⟩ = some (.int .i64 a0_2) ∧ w'.cell? ⟨gb529, 3, none⟩ = some (.slice A0_3 l0_3.length c0_3) ∧ w'.cell? ⟨gb530, 0, none⟩ = some (.int .i64 a1_0) ∧ w'.cell? ⟨gb530, 1, none⟩ = some (.int .i64 a1_1) ∧ w'.cell? ⟨gb530, 2, none⟩ = some (.int .i64 a1_2) ∧ w'.cell? ⟨gb530, 3, none⟩ = some (.int .i64 a1_3) ∧ w'.cell? ⟨gb530, 4, none⟩ = some (.int .i64 a1_4) ∧ w'.cell? ⟨gb530, 5, none⟩ = some (.int .i64 a1_5) ∧ w'.cell? ⟨gb530, 6, none⟩ = some (.int .i64 a1_6) ∧ w'.cell? ⟨gb530, 7, none⟩ = some (.slice A1_7 l1_7.length c1_7) ∧ w'.cell? ⟨gb530, 8, none⟩ = some (.slice A1_8 l1_8.length c1_8)) (ds := [11]) #[O, O, O, O, O, O, O, O, O, O, O, O] (by kernel_rfl) rfl rfl ⟨bc BK538 0, bc BK538 1, bc BK538 2, bc BK538 3, bc BK529 0, bc BK529 1, bc BK529 2, bc BK529 3, bc BK530 0, bc BK530 1, bc BK530 2, bc BK530 3, bc BK530 4, bc BK530 5, bc BK530 6, bc BK530 7, bc BK530 8⟩ (fun hHeld => ?_); refine with_tabW spec_RunLayer.tab16 spec_RunLayer.bits16 (fun HT_ HW_ => ?_)
         generalize wr.drew = w_ at HO_539003 BK529 BK530 BK531 BK537 BK538 HB hHeld ⊢
         refine stepP 0 (some 46) (tk 12 1) (any_of HT_.out (by kernel_rfl)) ?_
         refine stepP 4 (some 50) (tk 12 17) (any_of HT_.out (by kernel_rfl)) ?_
         refine stepP 5 (some 51) (tk 12 49) (any_of HT_.out (by kernel_rfl)) ?_
         refine stepP 6 (some 52) (tk 12 113) (any_of HT_.out (by kernel_rfl)) ?_
         refine stepT 1 (some 47) (tk 12 115) (take_ofW HT_.out HW_.out (by kernel_rfl)) hHeld ?_
         refine stepT 2 (some 48) (tk 12 119) (take_ofW HT_.out HW_.out (by kernel_rfl)) hHeld ?_
         refine stepT 3 (some 49) (tk 12 127) (take_ofW HT_.out HW_.out (by kernel_rfl)) hHeld ?_
         refine one_ (i := 7) (N := some 53) #[I, I, I, I, I, I, I, I, O, O, O, O] rfl rfl (one_of HT_.out (by kernel_rfl)) (by decide) (fun K hK => ?_)
         refine goes_ Try.func49 (by kernel_rfl) rfl #[.agg #[.int .i64 a0_0, .int .i64 a0_1, .int .i64 a0_2, .slice A0_3 l0_3.length c0_3], .agg #[.int .i64 a1_0, .int .i64 a1_1, .int .i64 a1_2, .int .i64 a1_3, .int .i64 a1_4, .int .i64 a1_5, .int .i64 a1_6, .slice A1_7 l1_7.length c1_7, .slice A1_8 l1_8.length c1_8], .int .i64 x9_1, .int .i64 x10_2, .int .i64 x11_3] (by rfl) rfl rfl (by (try simp only [List.map_toArray, List.map_cons, List.map_nil]); first | done | rfl | (simp only [List.length_drop, List.length_take]; rfl)) ?_
         with_reducible refine (spec_l03Item.calls k3 a0_0 a0_1 a0_2 _ _ l0_3 a1_0 a1_1 a1_2 a1_3 a1_4 a1_5 a1_6 _ _ l1_7 _ _ l1_8 x9_1 x10_2 x11_3 t539 _ ?side1 ?side2 ?side3 ?side4 ?side5 ?side6 A42.out).mono ?_
         (case side1 => exact C_now HR0_3.out)
         (case side2 => exact HC0_3.out)
         (case side3 => exact C_now HR1_7.out)
         (case side4 => exact HC1_7.out)
         (case side5 => exact C_now HR1_8.out)
         (case side6 => exact HC1_8.out)
         rintro e w_ ⟨rfl, hb⟩
         refine ⟨_, rfl, ?_⟩
         replace HO_539003 := am (Kd.R_below (R_at HO_539003.out) hb);replace BK529 := blk_on gb529 hb;replace BK530 := blk_on gb530 hb;replace BK531 := blk_on gb531 hb;replace BK537 := blk_on gb537 hb;replace BK538 := blk_on gb538 hb;replace HB := bel_on w hb;(try clear hb);(try clear hb2);(try clear hb3);(try clear hk);(try clear hi)
         refine hK.out _ _ ⟨bc BK538 0, bc BK538 1, bc BK538 2, bc BK538 3, bc BK529 0, bc BK529 1, bc BK529 2, bc BK529 3, bc BK530 0, bc BK530 1, bc BK530 2, bc BK530 3, bc BK530 4, bc BK530 5, bc BK530 6, bc BK530 7, bc BK530 8⟩ (fun hHeld => ?_)
         clear hK K
         refine normP 53 ?_
         refine one_ (i := 8) (N := some 54) #[I, I, I, I, I, I, I, I, I, O, O, O] rfl rfl (one_of HT_.out (by kernel_rfl)) (by decide) (fun K hK => ?_)
         refine value_ (w1 := ?_) (v := ?_) (by rfl) rfl ?_ ?_
         rotate_left 2
         ·go_simp
          constructor
          ·rfl
          rfl
         refine hK.out _ _ ⟨(blk_cell (blk_alloc BK538.out _) 0).trans rfl, (blk_cell (blk_alloc BK538.out _) 1).trans rfl, (blk_cell (blk_alloc BK538.out _) 2).trans rfl, (blk_cell (blk_alloc BK538.out _) 3).trans rfl, (blk_cell (blk_alloc BK529.out _) 0).trans rfl, (blk_cell (blk_alloc BK529.out _) 1).trans rfl, (blk_cell (blk_alloc BK529.out _) 2).trans rfl, (blk_cell (blk_alloc BK529.out _) 3).trans rfl, (blk_cell (blk_alloc BK530.out _) 0).trans rfl, (blk_cell (blk_alloc BK530.out _) 1).trans rfl, (blk_cell (blk_alloc BK530.out _) 2).trans rfl, (blk_cell (blk_alloc BK530.out _) 3).trans rfl, (blk_cell (blk_alloc BK530.out _) 4).trans rfl, (blk_cell (blk_alloc BK530.out _) 5).trans rfl, (blk_cell (blk_alloc BK530.out _) 6).trans rfl, (blk_cell (blk_alloc BK530.out _) 7).trans rfl, (blk_cell (blk_alloc BK530.out _) 8).trans rfl⟩ (fun hHeld => ?_)
         clear hK K
         refine normP 54 ?_
         refine one_ (i := 9) (N := some 55) #[I, I, I, I, I, I, I, I, I, I, O, O] rfl rfl (one_of HT_.out (by kernel_rfl)) (by decide) (fun K hK => ?_)
         refine Kd.R_append_step (Kd.int .i64) (w0 := w) w.heap.size (by rfl) (.tmp 47) (.tmp 54) 24 3 (.int .i64 0) 8 rfl Try.underlying24 info3 rfl (by decide) (by omega) u539003 x539003_3 t539 [.int .i64 t539] (fun _ => True) (fun _ => False) rfl rfl ?aP (fun _ hk => hk.elim) ?aF ?aO ?aB ?aS ?aL ?_
         (case aP => exact rfl)
         (case aB => exact bel_now)
         (case aF => exact (fun _ _ => trivial))
         (case aO => exact (R_at HO_539003.out))
         (case aS => exact (below_size bel_now))
         (case aL => have := LMc43.out; omega)
         intro v541 w51 ho hb hg hat;rw [← Ny540.out] at ho;have n6_ := am (ho);replace BK529 := am (blk_grown (g := gb529) blk_now hg (Kd.R_ne HO_539003.out BK529.out (by decide)));replace BK530 := am (blk_grown (g := gb530) blk_now hg (Kd.R_ne HO_539003.out BK530.out (by decide)));replace BK531 := am (blk_grown (g := gb531) blk_now hg (Kd.R_ne HO_539003.out BK531.out (by decide)));replace BK537 := am (blk_grown (g := gb537) blk_now hg (Kd.R_ne HO_539003.out BK537.out (by decide)));replace BK538 := am (blk_grown (g := gb538) blk_now hg (Kd.R_ne HO_539003.out BK538.out (by decide)));replace HB := am (hb);clear HO_539003;have HO542 := n6_;clear n6_;clear ho hb hg hat;obtain ⟨Ao52, co52, eo52⟩ := Kd.R_slice HO542.out
         (first | subst eo52 | (injection eo52 with f1_ f2_ f3_; have f4_ := f1_.symm; have f5_ := f3_.symm; clear f1_ f2_ f3_; subst f4_; subst f5_))
         refine hK.out _ _ ⟨bc BK538 0, bc BK538 1, bc BK538 2, bc BK538 3, bc BK529 0, bc BK529 1, bc BK529 2, bc BK529 3, bc BK530 0, bc BK530 1, bc BK530 2, bc BK530 3, bc BK530 4, bc BK530 5, bc BK530 6, bc BK530 7, bc BK530 8⟩ (fun hHeld => ?_)
         clear hK K
         refine normP 55 ?_
         refine stepP 10 (some 56) (tk 12 2047) (any_of HT_.out (by kernel_rfl)) ?_
         refine last_ (i := 11) (N := none) #[I, I, I, I, I, I, I, I, I, I, I, I] rfl rfl (one_of HT_.out (by kernel_rfl)) (by decide) (fun K hK => ?_)
         have hs53 : w51.cell? ⟨gb538, 3, none⟩ = some (u539003) := (blk_cell BK538.out 3).trans rfl;have hfs53 := blk_frozen BK538.out 3;have hns53_0 := NB529_538.out;have hns53_1 := NB530_538.out;have hns53_2 := NB531_538.out;have hns53_3 := NB537_538.out;have hms53_0 := NB538_529.out;have hms53_1 := NB538_530.out;have hms53_2 := NB538_531.out;have hms53_3 := NB538_537.out
         refine skip_ (w1 := ?_) (by rfl) rfl ?_ ?_
         rotate_left
         ·go_simp
          rfl
         refine hK.out _ _ ?_
         clear hK K
         refine done_ (done_of HT_.out (by kernel_rfl)) ?_
         try go_wp2
         go_roundg k3
         case measure => have := HK1.out; have := HK2.out; have := HK3.out; omega
         case rel => exact ⟨(wrap64 (x11_3 + 1)), (y540), (.slice Ao52 y540.length co52), pv, H', ⟨by have := HK1.out; have := HK2.out; have := HK3.out; omega⟩, ⟨Kd.R_mono (R_atF HO542.out) (fun _ hk => trivial)⟩, ⟨blkN⟩, ⟨blkN⟩, ⟨blkN⟩, ⟨blkN⟩, ⟨blkN⟩, ⟨bel_now⟩⟩

def impl_in.f (a0 : Int) (a1 : Int) (a2 : Int) : Option (Bool) := if a1 ≤ a0 then (some (decide (a0 ≤ a2))) else (some false)
theorem impl_in.calls (a0 : Int) (a1 : Int) (a2 : Int) (r : Bool) (w : World) (h : impl_in.f a0 a1 a2 = some r) :
   Calls Try.prog 70 #[.int .i64 a0, .int .i64 a1, .int .i64 a2] w fun e w' => e = .returned (.bool r) ∧ Drawn0 w w' := by
  have H : (if a1 ≤ a0 then (some (decide (a0 ≤ a2))) else (some false)) = some r := h;clear h;by_cases c4 : a1 ≤ a0
  ·rw [if_pos c4] at H;have c4b0 : decide (a1 ≤ a0) = true := decide_eq_true c4;clear c4;obtain rfl := Option.some.inj H
   go_enter Try.func70, Try.ntmps70
   go_wp2
   go_ret
   exact ⟨by first | rfl | (simp; done) | (simp [*]; done), by repeat (first | exact Drawn0.refl _ | apply Drawn0.step)⟩
  rw [if_neg c4] at H;have c4b0 : decide (a1 ≤ a0) = false := decide_eq_false c4;clear c4;obtain rfl := Option.some.inj H
  go_enter Try.func70, Try.ntmps70
  go_wp2
  go_ret
  exact ⟨by first | rfl | (simp; done) | (simp [*]; done), by repeat (first | exact Drawn0.refl _ | apply Drawn0.step)⟩

end Go.Proofs.Ytclpojeofclbjaa.PFnLayers
