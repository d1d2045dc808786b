import Derived.Test.YtclpojeofclbjaaPFnExactEvalModelx0
import Derived.Test.YtclpojeofclbjaaPFnExactEvalModelx15
import Derived.Test.YtclpojeofclbjaaPFnExactEvalModelx16
import Derived.Test.YtclpojeofclbjaaPFnExactEvalModelx19
namespace Go.Proofs.Ytclpojeofclbjaa.PFnExactEvalModel
open Go.RowKit Go.Proofs.YtclpojeofclbjaaW.PrintWords Go.Proofs.YtclpojeofclbjaaW.PrintLast Go.Proofs.YtclpojeofclbjaaW.PrintMore
attribute [local go_sem] max2_int min2_int max_two min_two max_three min_three max_four min_four
set_option maxHeartbeats 8000000
set_option maxRecDepth 100000
set_option linter.unusedVariables false
set_option linter.unusedSimpArgs false

mutual
def impl_RunLayer.j0 : Nat → Bool → Int → Int → Int → List Int → Int → Int → Int → Int → Int → Int → Int → List Int → List Int → Int → Int → Int → Option (Int × Int × Int × List Int × Bool)
  | 0, _, _, _, _, _, _, _, _, _, _, _, _, _, _, _, _, _ => none
  | k + 1, x25, x456000, x456001, x456002, x456003, x457000, x457001, x457002, x457003, x457004, x457005, x457006, x457007, x457008, x463000, x463001, x463002 => if x25 = true then (some (0, 0, 0, ([] : List Int), false)) else (impl_RunLayer.l0 k x463000 0 x456000 x456001 x456002 x456003 x457000 x457001 x457002 x457003 x457004 x457005 x457006 x457007 x457008 x463000 x463001 x463002 x463000 x463001 x463002 ([] : List Int))
def impl_RunLayer.l0 : Nat → Int → Int → Int → Int → Int → List Int → Int → Int → Int → Int → Int → Int → Int → List Int → List Int → Int → Int → Int → Int → Int → Int → List Int → Option (Int × Int × Int × List Int × Bool)
  | 0, _, _, _, _, _, _, _, _, _, _, _, _, _, _, _, _, _, _, _, _, _, _ => none
  | k + 1, x30, x31, x456000, x456001, x456002, x456003, x457000, x457001, x457002, x457003, x457004, x457005, x457006, x457007, x457008, x463000, x463001, x463002, x465000, x465001, x465002, x465003 => if x31 < x30 then (impl_RunLayer.l1 k x31 x30 x31 x463001 0 x456000 x456001 x456002 x456003 x457000 x457001 x457002 x457003 x457004 x457005 x457006 x457007 x457008 x463000 x463001 x463002 x465000 x465001 x465002 x465003) else (some (x465000, x465001, x465002, x465003, true))
def impl_RunLayer.l1 : Nat → Int → Int → Int → Int → Int → Int → Int → Int → List Int → Int → Int → Int → Int → Int → Int → Int → List Int → List Int → Int → Int → Int → Int → Int → Int → List Int → Option (Int × Int × Int × List Int × Bool)
  | 0, _, _, _, _, _, _, _, _, _, _, _, _, _, _, _, _, _, _, _, _, _, _, _, _, _ => none
  | k + 1, x9, x30, x31, x35, x36, x456000, x456001, x456002, x456003, x457000, x457001, x457002, x457003, x457004, x457005, x457006, x457007, x457008, x463000, x463001, x463002, x465000, x465001, x465002, x465003 => if x36 < x35 then (impl_RunLayer.l2 k x9 x36 x30 x31 x35 x36 x463002 0 x456000 x456001 x456002 x456003 x457000 x457001 x457002 x457003 x457004 x457005 x457006 x457007 x457008 x463000 x463001 x463002 x465000 x465001 x465002 x465003) else (impl_RunLayer.l0 k x30 (wrap64 (x31 + 1)) x456000 x456001 x456002 x456003 x457000 x457001 x457002 x457003 x457004 x457005 x457006 x457007 x457008 x463000 x463001 x463002 x465000 x465001 x465002 x465003)
def impl_RunLayer.l2 : Nat → Int → Int → Int → Int → Int → Int → Int → Int → Int → Int → Int → List Int → Int → Int → Int → Int → Int → Int → Int → List Int → List Int → Int → Int → Int → Int → Int → Int → List Int → Option (Int × Int × Int × List Int × Bool)
  | 0, _, _, _, _, _, _, _, _, _, _, _, _, _, _, _, _, _, _, _, _, _, _, _, _, _, _, _, _ => none
  | k + 1, x9, x10, x30, x31, x35, x36, x40, x41, x456000, x456001, x456002, x456003, x457000, x457001, x457002, x457003, x457004, x457005, x457006, x457007, x457008, x463000, x463001, x463002, x465000, x465001, x465002, x465003 => if x41 < x40 then ((impl_Layer_item.f k x457000 x457001 x457002 x457003 x457004 x457005 x457006 x457007 x457008 x456000 x456001 x456002 x456003 x9 x10 x41).bind fun t465 => (if x465003.length < 17592186044416 then (impl_RunLayer.l2 k x9 x10 x30 x31 x35 x36 x40 (wrap64 (x41 + 1)) x456000 x456001 x456002 x456003 x457000 x457001 x457002 x457003 x457004 x457005 x457006 x457007 x457008 x463000 x463001 x463002 x465000 x465001 x465002 (x465003 ++ [t465])) else (none))) else (impl_RunLayer.l1 k x9 x30 x31 x35 (wrap64 (x36 + 1)) x456000 x456001 x456002 x456003 x457000 x457001 x457002 x457003 x457004 x457005 x457006 x457007 x457008 x463000 x463001 x463002 x465000 x465001 x465002 x465003)
end
def impl_RunLayer.f (k : Nat) (a0_0 : Int) (a0_1 : Int) (a0_2 : Int) (l0_3 : List Int) (a1_0 : Int) (a1_1 : Int) (a1_2 : Int) (a1_3 : Int) (a1_4 : Int) (a1_5 : Int) (a1_6 : Int) (l1_7 : List Int) (l1_8 : List Int) : Option (Int × Int × Int × List Int × Bool) := (impl_OutShape.f k a0_0 a0_1 a0_2 a1_0 a1_1 a1_2 a1_3 a1_4 a1_5 a1_6 l1_7 l1_8).bind fun bt458 => (if bt458.2.2.2 = true then ((impl_TensorOk.f k a0_0 a0_1 a0_2 l0_3).bind fun t463 => (impl_RunLayer.j0 k (!t463) a0_0 a0_1 a0_2 l0_3 a1_0 a1_1 a1_2 a1_3 a1_4 a1_5 a1_6 l1_7 l1_8 bt458.1 bt458.2.1 bt458.2.2.1)) else (impl_RunLayer.j0 k true a0_0 a0_1 a0_2 l0_3 a1_0 a1_1 a1_2 a1_3 a1_4 a1_5 a1_6 l1_7 l1_8 bt458.1 bt458.2.1 bt458.2.2.1))
def impl_RunLayer.T14 : Bool × List (List Nat × List Nat) := (true, [([], []), ([0], [0]), ([], []), ([], []), ([], []), ([], []), ([], []), ([2, 3, 4, 5, 6], [2, 3, 4, 5, 6]), ([7], [7]), ([1, 8, 7], [1, 8]), ([0, 1, 2, 3, 4, 5, 6, 7, 8, 9], []), ([10, 9, 9, 0, 1, 2, 3, 4, 5, 6, 7, 8, 9], [9, 10])])
def impl_RunLayer.B14 : List Nat := [0, 1, 0, 0, 0, 0, 0, 124, 252, 511, 1023, 2047]
theorem impl_RunLayer.tab14 : rtab .any (opsOf Try.f13 14) = impl_RunLayer.T14 := by kernel_rfl
theorem impl_RunLayer.bits14 : waitsOk impl_RunLayer.T14.2 impl_RunLayer.B14 = true := by kernel_rfl
theorem impl_RunLayer.calls (k : Nat) (a0_0 : Int) (a0_1 : Int) (a0_2 : Int) (A0_3 : Option Addr) (c0_3 : Nat) (l0_3 : List Int) (a1_0 : Int) (a1_1 : Int) (a1_2 : Int) (a1_3 : Int) (a1_4 : Int) (a1_5 : Int) (a1_6 : Int) (A1_7 : Option Addr) (c1_7 : Nat) (l1_7 : List Int) (A1_8 : Option Addr) (c1_8 : Nat) (l1_8 : List Int) (r1 : Int) (r2 : Int) (r3 : Int) (r4 : List Int) (r5 : Bool) (w : World) (hr0_3 : Kd.C (Kd.int .i64) w A0_3 l0_3.length l0_3) (hc0_3 : l0_3.length ≤ c0_3) (hr1_7 : Kd.C (Kd.int .i64) w A1_7 l1_7.length l1_7) (hc1_7 : l1_7.length ≤ c1_7) (hr1_8 : Kd.C (Kd.int .i64) w A1_8 l1_8.length l1_8) (hc1_8 : l1_8.length ≤ c1_8) (h : impl_RunLayer.f k a0_0 a0_1 a0_2 l0_3 a1_0 a1_1 a1_2 a1_3 a1_4 a1_5 a1_6 l1_7 l1_8 = some (r1, r2, r3, r4, r5)) :
   Calls Try.prog 13 #[.agg #[.int .i64 a0_0, .int .i64 a0_1, .int .i64 a0_2, .slice A0_3 l0_3.length c0_3], .agg #[.int .i64 a1_0, .int .i64 a1_1, .int .i64 a1_2, .int .i64 a1_3, .int .i64 a1_4, .int .i64 a1_5, .int .i64 a1_6, .slice A1_7 l1_7.length c1_7, .slice A1_8 l1_8.length c1_8]] w fun e w' => ∃ v3_ : Value, e = .returned (.tuple #[.agg #[.int .i64 r1, .int .i64 r2, .int .i64 r3, v3_], .bool r5]) ∧ Kd.R (Kd.int .i64) 3 w' w.heap.size (fun _ => True) v3_ r4 ∧ Below w.heap.size w w' := by
  have hu33 := Try.underlying33;have hu37 := Try.underlying37;have hu31 := Try.underlying31;have HR0_3 := am hr0_3;have HC0_3 := am hc0_3;clear hr0_3 hc0_3;have HR1_7 := am hr1_7;have HC1_7 := am hc1_7;clear hr1_7 hc1_7;have HR1_8 := am hr1_8;have HC1_8 := am hc1_8;clear hr1_8 hc1_8;have HB := am (Below.refl w.heap.size w);have H : ((impl_OutShape.f k a0_0 a0_1 a0_2 a1_0 a1_1 a1_2 a1_3 a1_4 a1_5 a1_6 l1_7 l1_8).bind fun bt458 => (if bt458.2.2.2 = true then ((impl_TensorOk.f k a0_0 a0_1 a0_2 l0_3).bind fun t463 => (impl_RunLayer.j0 k (!t463) a0_0 a0_1 a0_2 l0_3 a1_0 a1_1 a1_2 a1_3 a1_4 a1_5 a1_6 l1_7 l1_8 bt458.1 bt458.2.1 bt458.2.2.1)) else (impl_RunLayer.j0 k true a0_0 a0_1 a0_2 l0_3 a1_0 a1_1 a1_2 a1_3 a1_4 a1_5 a1_6 l1_7 l1_8 bt458.1 bt458.2.1 bt458.2.2.1))) = some (r1, r2, r3, r4, r5) := h;clear h;replace H := Option.bind_eq_some_iff.mp H;obtain ⟨⟨t458, t459, t460, t461⟩, A30, H⟩ := H;(try dsimp only at H);have A3 := am A30;clear A30;have HC4 := am H;clear H
  go_enter Try.func13, Try.ntmps13
  go_upto_region 2 with (first | ((with_reducible refine gate_dst (N := 2) rfl ?_); refine boxM 2 #[.int .i64 a0_0, .int .i64 a0_1, .int .i64 a0_2, .slice A0_3 l0_3.length c0_3] 33 ?_; intro gb455 hg w5 BK455 hb; obtain ⟨HB, GW455, GE455⟩ := box_at w hb hg; clear hb hg) | ((with_reducible refine gate_dst (N := 3) rfl ?_); refine boxM 3 #[.int .i64 a1_0, .int .i64 a1_1, .int .i64 a1_2, .int .i64 a1_3, .int .i64 a1_4, .int .i64 a1_5, .int .i64 a1_6, .slice A1_7 l1_7.length c1_7, .slice A1_8 l1_8.length c1_8] 37 ?_; intro gb456 hg w6 BK456 hb; obtain ⟨HB, GW456, GE456⟩ := box_at w hb hg; obtain ⟨BK455, NB455_456, NB456_455⟩ := box_on gb455 hb hg; clear hb hg) | ((with_reducible refine gate_dst (N := 4) rfl ?_); refine boxM 4 #[.int .i64 0, .int .i64 0, .int .i64 0, .slice none 0 0] 33 ?_; intro gb457 hg w7 BK457 hb; obtain ⟨HB, GW457, GE457⟩ := box_at w hb hg; obtain ⟨BK455, NB455_457, NB457_455⟩ := box_on gb455 hb hg; obtain ⟨BK456, NB456_457, NB457_456⟩ := box_on gb456 hb hg; clear hb hg; have hn8 := ne2 NB455_456; have hn9 := ne2 NB455_457; have hcz10 := cells4 BK455.out; have hn11 := ne2 NB456_457; have hcz12 := cells9 BK456.out) | ((with_reducible refine gate_callee (f := 30) rfl ?_); refine gM 16 Try.func30 #[.agg #[.int .i64 a0_0, .int .i64 a0_1, .int .i64 a0_2], .agg #[.int .i64 a1_0, .int .i64 a1_1, .int .i64 a1_2, .int .i64 a1_3, .int .i64 a1_4, .int .i64 a1_5, .int .i64 a1_6, .slice A1_7 l1_7.length c1_7, .slice A1_8 l1_8.length c1_8]] rfl ?_; (with_reducible refine (impl_OutShape.calls k a0_0 a0_1 a0_2 a1_0 a1_1 a1_2 a1_3 a1_4 a1_5 a1_6 _ _ l1_7 _ _ l1_8 t458 t459 t460 t461 _ ?side1 HC1_7.out ?side3 HC1_8.out A3.out).mono ?_); (case side1 => exact C_now HR1_7.out); (case side3 => exact C_now HR1_8.out); rintro e w13 ⟨rfl, hb⟩; refine ⟨_, rfl, ?_⟩; replace HB := bel_on w hb; replace BK455 := blk_on gb455 hb; replace BK456 := blk_on gb456 hb; replace BK457 := blk_on gb457 hb; (try clear hb)) | ((with_reducible refine gate_dst (N := 6) rfl ?_); refine boxM 6 #[.int .i64 0, .int .i64 0, .int .i64 0] 31 ?_; intro gb462 hg w14 BK462 hb; obtain ⟨HB, GW462, GE462⟩ := box_at w hb hg; obtain ⟨BK455, NB455_462, NB462_455⟩ := box_on gb455 hb hg; obtain ⟨BK456, NB456_462, NB462_456⟩ := box_on gb456 hb hg; obtain ⟨BK457, NB457_462, NB462_457⟩ := box_on gb457 hb hg; clear hb hg; have hn15 := ne2 NB462_455; have hn16 := ne2 NB462_456; have hn17 := ne2 NB462_457; have hcz18 := cells3 BK462.out))
  (try simp only [Act.put, zA, zB, zC])
  go_cut [25] (fun v25 wc => ∃ (kq : Nat) (x25_3 : Bool), v25 = .bool x25_3 ∧ Aside0 (impl_RunLayer.j0 kq x25_3 a0_0 a0_1 a0_2 l0_3 a1_0 a1_1 a1_2 a1_3 a1_4 a1_5 a1_6 l1_7 l1_8 t458 t459 t460 = some (r1, r2, r3, r4, r5)) ∧ Aside0 (kq ≤ k) ∧ Aside0 (wc.heap[gb455]? = some (.cells #[.int .i64 a0_0, .int .i64 a0_1, .int .i64 a0_2, (.slice A0_3 l0_3.length c0_3)] 33 (0, 0))) ∧ Aside0 (wc.heap[gb456]? = some (.cells #[.int .i64 a1_0, .int .i64 a1_1, .int .i64 a1_2, .int .i64 a1_3, .int .i64 a1_4, .int .i64 a1_5, .int .i64 a1_6, (.slice A1_7 l1_7.length c1_7), (.slice A1_8 l1_8.length c1_8)] 37 (0, 0))) ∧ Aside0 (wc.heap[gb457]? = some (.cells #[.int .i64 0, .int .i64 0, .int .i64 0, (.slice none 0 0)] 33 (0, 0))) ∧ Aside0 (wc.heap[gb462]? = some (.cells #[.int .i64 t458, .int .i64 t459, .int .i64 t460] 31 (0, 0))) ∧ Aside0 (Below w.heap.size w wc))
  case first =>
   have H := HC4.out;clear HC4;by_cases c19 : t461 = true
   ·subst c19;rw [if_pos rfl] at H;obtain ⟨t463, A20, H⟩ := bnd H;(try dsimp only at H);have H' := am H;clear H;have hn21 := ne2 NB455_456;have hn22 := ne2 NB455_457;have hn23 := ne2 NB455_462;have hcz24 := cells4 BK455.out
    go_wp2_with (first | (go_at_call 52; (with_reducible refine (impl_TensorOk.calls k a0_0 a0_1 a0_2 _ _ l0_3 t463 _ ?side1 HC0_3.out A20.out).mono ?_); (case side1 => exact C_now HR0_3.out); rintro e w25 ⟨rfl, hb⟩; replace HB := bel_on w hb; replace BK455 := am (blk_below (g := gb455) (o := .cells #[.int .i64 a0_0, .int .i64 a0_1, .int .i64 a0_2, .slice A0_3 l0_3.length c0_3] 33 (0, 0)) (blk_fars BK455.out) hb); replace BK456 := am (blk_below (g := gb456) (o := .cells #[.int .i64 a1_0, .int .i64 a1_1, .int .i64 a1_2, .int .i64 a1_3, .int .i64 a1_4, .int .i64 a1_5, .int .i64 a1_6, .slice A1_7 l1_7.length c1_7, .slice A1_8 l1_8.length c1_8] 37 (0, 0)) (blk_fars BK456.out) hb); replace BK457 := am (blk_below (g := gb457) (o := .cells #[.int .i64 0, .int .i64 0, .int .i64 0, .slice none 0 0] 33 (0, 0)) (blk_fars BK457.out) hb); replace BK462 := am (blk_below (g := gb462) (o := .cells #[.int .i64 t458, .int .i64 t459, .int .i64 t460] 31 (0, 0)) (blk_fars (puts3 BK462.out)) hb); (try clear hb)))
    go_meet
    case rel => exact ⟨_, (!t463), pv, H', ⟨by first | omega | exact Nat.le_refl _⟩, ⟨bks BK455⟩, ⟨bks BK456⟩, ⟨bks BK457⟩, ⟨bks BK462⟩, ⟨bel_now⟩⟩
   replace c19 := Bool.eq_false_iff.mpr c19;subst c19
   rw [if_neg (show ¬ (false = true) by decide)] at H
   have H' := am H;clear H
   go_wp2
   go_meet
   case rel => exact ⟨_, (true), pv, H', ⟨by first | omega | exact Nat.le_refl _⟩, ⟨by (with_reducible repeat (first | refine blk_drewN ?_ _ | refine blk_drew ?_ | refine blk_alloc ?_ _)); refine blk_far ?_ NB455_462.out _; (with_reducible repeat (first | refine blk_drewN ?_ _ | refine blk_drew ?_ | refine blk_alloc ?_ _)); refine blk_far ?_ NB455_462.out _; (with_reducible repeat (first | refine blk_drewN ?_ _ | refine blk_drew ?_ | refine blk_alloc ?_ _)); refine blk_far ?_ NB455_462.out _; (with_reducible repeat (first | refine blk_drewN ?_ _ | refine blk_drew ?_ | refine blk_alloc ?_ _)); exact BK455.out⟩, ⟨by (with_reducible repeat (first | refine blk_drewN ?_ _ | refine blk_drew ?_ | refine blk_alloc ?_ _)); refine blk_far ?_ NB456_462.out _; (with_reducible repeat (first | refine blk_drewN ?_ _ | refine blk_drew ?_ | refine blk_alloc ?_ _)); refine blk_far ?_ NB456_462.out _; (with_reducible repeat (first | refine blk_drewN ?_ _ | refine blk_drew ?_ | refine blk_alloc ?_ _)); refine blk_far ?_ NB456_462.out _; (with_reducible repeat (first | refine blk_drewN ?_ _ | refine blk_drew ?_ | refine blk_alloc ?_ _)); exact BK456.out⟩, ⟨by (with_reducible repeat (first | refine blk_drewN ?_ _ | refine blk_drew ?_ | refine blk_alloc ?_ _)); refine blk_far ?_ NB457_462.out _; (with_reducible repeat (first | refine blk_drewN ?_ _ | refine blk_drew ?_ | refine blk_alloc ?_ _)); refine blk_far ?_ NB457_462.out _; (with_reducible repeat (first | refine blk_drewN ?_ _ | refine blk_drew ?_ | refine blk_alloc ?_ _)); refine blk_far ?_ NB457_462.out _; (with_reducible repeat (first | refine blk_drewN ?_ _ | refine blk_drew ?_ | refine blk_alloc ?_ _)); exact BK457.out⟩, ⟨by (with_reducible repeat (first | refine blk_drewN ?_ _ | refine blk_drew ?_ | refine blk_alloc ?_ _)); refine blk_put (cs := #[.int .i64 t458, .int .i64 t459, .int .i64 0]) ?_ 2 _ rfl; (with_reducible repeat (first | refine blk_drewN ?_ _ | refine blk_drew ?_ | refine blk_alloc ?_ _)); refine blk_put (cs := #[.int .i64 t458, .int .i64 0, .int .i64 0]) ?_ 1 _ rfl; (with_reducible repeat (first | refine blk_drewN ?_ _ | refine blk_drew ?_ | refine blk_alloc ?_ _)); refine blk_put (cs := #[.int .i64 0, .int .i64 0, .int .i64 0]) ?_ 0 _ rfl; (with_reducible repeat (first | refine blk_drewN ?_ _ | refine blk_drew ?_ | refine blk_alloc ?_ _)); exact BK462.out⟩, ⟨bel_now⟩⟩
  case rest =>
   clear HC4;try clear hcz10
   try clear hcz12
   try clear hcz18
   obtain ⟨kq, x25_3, rfl, HA, HJ3, BK455, BK456, BK457, BK462, HB⟩ := hcut
   cases kq with
   | zero => exact absurd HA.out (by simp [impl_RunLayer.j0])
   | succ kj3 =>
    have H := HA.out;clear HA;simp only [impl_RunLayer.j0] at H;by_cases c26 : x25_3 = true
    ·subst c26;rw [if_pos rfl] at H;simp only [Option.some.injEq, Prod.mk.injEq] at H;obtain ⟨rfl, rfl, rfl, rfl, rfl⟩ := H;have hn27 := ne2 NB457_455;have hn28 := ne2 NB457_456;have hn29 := ne2 NB457_462;have hcz30 := cells4 BK457.out
     go_wp2
     refine bodyPost_ret (results_ct rfl _ _ gb457 33 #[.int .i64 0, .int .i64 0, .int .i64 0, .slice none 0 0] (0, 0) _ rfl (blk_fars (puts4 BK457.out)) Try.underlying33 rfl (by kernel_rfl)) rfl ?_
     exact ⟨_, eqN, by first | exact Kd.R_nil _ _ _ _ _ | exact Kd.N_nil _ _ _ _ _ | exact Kd.V_nil _ _ _ _ _ | exact Kd.Q_nil _ _ _ _ _ | exact Kd.S_nil _ _ _ _ _, bel_now⟩
    replace c26 := Bool.eq_false_iff.mpr c26;subst c26
    rw [if_neg (show ¬ (false = true) by decide)] at H
    have H' := am H;clear H;have hn31 := ne2 NB462_455;have hn32 := ne2 NB462_456;have hn33 := ne2 NB462_457;have hcz34 := cells3 BK462.out
    go_wp2_with (first | ((with_reducible refine gate_dst (N := 8) rfl ?_); refine boxM 8 #[.int .i64 0, .int .i64 0, .int .i64 0, .slice none 0 0] 33 ?_; intro gb464 hg w35 BK464 hb; obtain ⟨HB, GW464, GE464⟩ := box_at w hb hg; obtain ⟨BK455, NB455_464, NB464_455⟩ := box_on gb455 hb hg; obtain ⟨BK456, NB456_464, NB464_456⟩ := box_on gb456 hb hg; obtain ⟨BK457, NB457_464, NB464_457⟩ := box_on gb457 hb hg; obtain ⟨BK462, NB462_464, NB464_462⟩ := box_on gb462 hb hg; clear hb hg; have hn36 := ne2 NB464_455; have hn37 := ne2 NB464_456; have hn38 := ne2 NB464_457; have hn39 := ne2 NB464_462; have hcz40 := cells4 BK464.out; have hcz41 := cells3 BK462.out))
    go_loopg [31] kj3 (fun kq v31 w' => ∃ (x31_2 : Int) (x465003_2 : List Int) (u465003 : Value), v31 = .int .i64 x31_2 ∧ Aside0 (impl_RunLayer.l0 kq t458 x31_2 a0_0 a0_1 a0_2 l0_3 a1_0 a1_1 a1_2 a1_3 a1_4 a1_5 a1_6 l1_7 l1_8 t458 t459 t460 t458 t459 t460 x465003_2 = some (r1, r2, r3, r4, r5)) ∧ Aside0 (kq ≤ kj3) ∧ Aside0 (Kd.R (Kd.int .i64) 3 w' w.heap.size (fun _ => True) u465003 x465003_2) ∧ Aside0 (w'.heap[gb455]? = some (.cells #[.int .i64 a0_0, .int .i64 a0_1, .int .i64 a0_2, (.slice A0_3 l0_3.length c0_3)] 33 (0, 0))) ∧ Aside0 (w'.heap[gb456]? = some (.cells #[.int .i64 a1_0, .int .i64 a1_1, .int .i64 a1_2, .int .i64 a1_3, .int .i64 a1_4, .int .i64 a1_5, .int .i64 a1_6, (.slice A1_7 l1_7.length c1_7), (.slice A1_8 l1_8.length c1_8)] 37 (0, 0))) ∧ Aside0 (w'.heap[gb457]? = some (.cells #[.int .i64 0, .int .i64 0, .int .i64 0, (.slice none 0 0)] 33 (0, 0))) ∧ Aside0 (w'.heap[gb462]? = some (.cells #[.int .i64 t458, .int .i64 t459, .int .i64 t460] 31 (0, 0))) ∧ Aside0 (w'.heap[gb464]? = some (.cells #[.int .i64 t458, .int .i64 t459, .int .i64 t460, u465003] 33 (0, 0))) ∧ Aside0 (Below w.heap.size w w'))
    case atStart => exact ⟨(0), (([] : List Int)), (.slice none 0 0), pv, H', ⟨Nat.le_refl _⟩, ⟨by first | exact Kd.R_nil _ _ _ _ _ | exact Kd.N_nil _ _ _ _ _ | exact Kd.V_nil _ _ _ _ _ | exact Kd.Q_nil _ _ _ _ _ | exact Kd.S_nil _ _ _ _ _⟩, ⟨by (with_reducible repeat (first | refine blk_drewN ?_ _ | refine blk_drew ?_ | refine blk_alloc ?_ _)); refine blk_far ?_ NB455_464.out _; (with_reducible repeat (first | refine blk_drewN ?_ _ | refine blk_drew ?_ | refine blk_alloc ?_ _)); refine blk_far ?_ NB455_464.out _; (with_reducible repeat (first | refine blk_drewN ?_ _ | refine blk_drew ?_ | refine blk_alloc ?_ _)); refine blk_far ?_ NB455_464.out _; (with_reducible repeat (first | refine blk_drewN ?_ _ | refine blk_drew ?_ | refine blk_alloc ?_ _)); refine blk_far ?_ NB455_464.out _; (with_reducible repeat (first | refine blk_drewN ?_ _ | refine blk_drew ?_ | refine blk_alloc ?_ _)); exact BK455.out⟩, ⟨by (with_reducible repeat (first | refine blk_drewN ?_ _ | refine blk_drew ?_ | refine blk_alloc ?_ _)); refine blk_far ?_ NB456_464.out _; (with_reducible repeat (first | refine blk_drewN ?_ _ | refine blk_drew ?_ | refine blk_alloc ?_ _)); refine blk_far ?_ NB456_464.out _; (with_reducible repeat (first | refine blk_drewN ?_ _ | refine blk_drew ?_ | refine blk_alloc ?_ _)); refine blk_far ?_ NB456_464.out _; (with_reducible repeat (first | refine blk_drewN ?_ _ | refine blk_drew ?_ | refine blk_alloc ?_ _)); refine blk_far ?_ NB456_464.out _; (with_reducible repeat (first | refine blk_drewN ?_ _ | refine blk_drew ?_ | refine blk_alloc ?_ _)); exact BK456.out⟩, ⟨by (with_reducible repeat (first | refine blk_drewN ?_ _ | refine blk_drew ?_ | refine blk_alloc ?_ _)); refine blk_far ?_ NB457_464.out _; (with_reducible repeat (first | refine blk_drewN ?_ _ | refine blk_drew ?_ | refine blk_alloc ?_ _)); refine blk_far ?_ NB457_464.out _; (with_reducible repeat (first | refine blk_drewN ?_ _ | refine blk_drew ?_ | refine blk_alloc ?_ _)); refine blk_far ?_ NB457_464.out _; (with_reducible repeat (first | refine blk_drewN ?_ _ | refine blk_drew ?_ | refine blk_alloc ?_ _)); refine blk_far ?_ NB457_464.out _; (with_reducible repeat (first | refine blk_drewN ?_ _ | refine blk_drew ?_ | refine blk_alloc ?_ _)); exact BK457.out⟩, ⟨by (with_reducible repeat (first | refine blk_drewN ?_ _ | refine blk_drew ?_ | refine blk_alloc ?_ _)); refine blk_far ?_ NB462_464.out _; (with_reducible repeat (first | refine blk_drewN ?_ _ | refine blk_drew ?_ | refine blk_alloc ?_ _)); refine blk_far ?_ NB462_464.out _; (with_reducible repeat (first | refine blk_drewN ?_ _ | refine blk_drew ?_ | refine blk_alloc ?_ _)); refine blk_far ?_ NB462_464.out _; (with_reducible repeat (first | refine blk_drewN ?_ _ | refine blk_drew ?_ | refine blk_alloc ?_ _)); refine blk_far ?_ NB462_464.out _; (with_reducible repeat (first | refine blk_drewN ?_ _ | refine blk_drew ?_ | refine blk_alloc ?_ _)); exact BK462.out⟩, ⟨by (with_reducible repeat (first | refine blk_drewN ?_ _ | refine blk_drew ?_ | refine blk_alloc ?_ _)); refine blk_put (cs := #[.int .i64 t458, .int .i64 t459, .int .i64 t460, .slice none 0 0]) ?_ 3 _ rfl; (with_reducible repeat (first | refine blk_drewN ?_ _ | refine blk_drew ?_ | refine blk_alloc ?_ _)); refine blk_put (cs := #[.int .i64 t458, .int .i64 t459, .int .i64 0, .slice none 0 0]) ?_ 2 _ rfl; (with_reducible repeat (first | refine blk_drewN ?_ _ | refine blk_drew ?_ | refine blk_alloc ?_ _)); refine blk_put (cs := #[.int .i64 t458, .int .i64 0, .int .i64 0, .slice none 0 0]) ?_ 1 _ rfl; (with_reducible repeat (first | refine blk_drewN ?_ _ | refine blk_drew ?_ | refine blk_alloc ?_ _)); refine blk_put (cs := #[.int .i64 0, .int .i64 0, .int .i64 0, .slice none 0 0]) ?_ 0 _ rfl; (with_reducible repeat (first | refine blk_drewN ?_ _ | refine blk_drew ?_ | refine blk_alloc ?_ _)); exact BK464.out⟩, ⟨bel_now⟩⟩
    case round =>
     clear H';try clear c26
     try clear hcz10
     try clear hcz12
     try clear hcz18
     try clear hcz34
     try clear hcz40
     try clear hcz41
     obtain ⟨x31_2, x465003_2, u465003, rfl, HA, HK2, HO_465003, BK455, BK456, BK457, BK462, BK464, HB⟩ := hrel
     cases gk with
     | zero => exact absurd HA.out (by simp [impl_RunLayer.l0])
     | succ k2 =>
      have H := HA.out;clear HA;simp only [impl_RunLayer.l0] at H;by_cases c42 : x31_2 < t458;rotate_left
      ·rw [if_neg c42] at H;have c42b0 : decide (x31_2 < t458) = false := decide_eq_false c42;clear c42;simp only [Option.some.injEq, Prod.mk.injEq] at H;obtain ⟨rfl, rfl, rfl, rfl, rfl⟩ := H;have hn62 := ne2 NB464_455;have hn63 := ne2 NB464_456;have hn64 := ne2 NB464_457;have hn65 := ne2 NB464_462;have hcz66 := cells4 BK464.out;have hn67 := ne2 NB457_455;have hn68 := ne2 NB457_456;have hn69 := ne2 NB457_462;have hcz70 := cells4 BK457.out;obtain ⟨Ao71, co71, eo71⟩ := Kd.R_slice HO_465003.out;subst eo71
       go_wp2
       refine bodyPost_ret (results_ct rfl _ _ gb457 33 #[.int .i64 t458, .int .i64 t459, .int .i64 t460, .slice Ao71 x465003_2.length co71] (0, 0) _ rfl (blk_fars (puts4 BK457.out)) Try.underlying33 rfl (by kernel_rfl)) rfl ?_
       exact ⟨_, eqN, by (with_reducible repeat (first | apply Kd.R_alloc | apply Kd.R_drewN | apply Kd.R_drew)); exact Kd.R_mono (Kd.R_far (p := ⟨gb457, 3, none⟩) (Kd.R_far (p := ⟨gb457, 2, none⟩) (Kd.R_far (p := ⟨gb457, 1, none⟩) (Kd.R_far (p := ⟨gb457, 0, none⟩) (Kd.R_types HO_465003.out BK457.out (by decide)) (fun _ hk => hk.2) (.int .i64 t458)) (fun _ hk => hk.2) (.int .i64 t459)) (fun _ hk => hk.2) (.int .i64 t460)) (fun _ hk => hk.2) (.slice Ao71 x465003_2.length co71)) (fun _ hk => trivial), bel_now⟩
      rw [if_pos c42] at H;have c42b0 : decide (x31_2 < t458) = true := decide_eq_true c42;clear c42;have H' := am H;clear H;have hn43 := ne2 NB462_455;have hn44 := ne2 NB462_456;have hn45 := ne2 NB462_457;have hn46 := ne2 NB462_464;have hcz47 := cells3 BK462.out
      go_wp2
      go_loopg [36] k2 (fun kq v36 w' => ∃ (x36_3 : Int) (x465003_3 : List Int) (u465003 : Value), v36 = .int .i64 x36_3 ∧ Aside0 (impl_RunLayer.l1 kq x31_2 t458 x31_2 t459 x36_3 a0_0 a0_1 a0_2 l0_3 a1_0 a1_1 a1_2 a1_3 a1_4 a1_5 a1_6 l1_7 l1_8 t458 t459 t460 t458 t459 t460 x465003_3 = some (r1, r2, r3, r4, r5)) ∧ Aside0 (kq ≤ k2) ∧ Aside0 (Kd.R (Kd.int .i64) 3 w' w.heap.size (fun _ => True) u465003 x465003_3) ∧ Aside0 (w'.heap[gb455]? = some (.cells #[.int .i64 a0_0, .int .i64 a0_1, .int .i64 a0_2, (.slice A0_3 l0_3.length c0_3)] 33 (0, 0))) ∧ Aside0 (w'.heap[gb456]? = some (.cells #[.int .i64 a1_0, .int .i64 a1_1, .int .i64 a1_2, .int .i64 a1_3, .int .i64 a1_4, .int .i64 a1_5, .int .i64 a1_6, (.slice A1_7 l1_7.length c1_7), (.slice A1_8 l1_8.length c1_8)] 37 (0, 0))) ∧ Aside0 (w'.heap[gb457]? = some (.cells #[.int .i64 0, .int .i64 0, .int .i64 0, (.slice none 0 0)] 33 (0, 0))) ∧ Aside0 (w'.heap[gb462]? = some (.cells #[.int .i64 t458, .int .i64 t459, .int .i64 t460] 31 (0, 0))) ∧ Aside0 (w'.heap[gb464]? = some (.cells #[.int .i64 t458, .int .i64 t459, .int .i64 t460, u465003] 33 (0, 0))) ∧ Aside0 (Below w.heap.size w w'))
      case atStart => exact ⟨(0), (x465003_2), (u465003), pv, H', ⟨Nat.le_refl _⟩, ⟨R_at HO_465003.out⟩, ⟨bks BK455⟩, ⟨bks BK456⟩, ⟨bks BK457⟩, ⟨bks BK462⟩, ⟨bks BK464⟩, ⟨bel_now⟩⟩
      case round =>
       clear H';try clear c26
       try clear c42
       try clear c42b0
       try clear hcz10
       try clear hcz12
       try clear hcz18
       try clear hcz34
       try clear hcz40
       try clear hcz41
       try clear hcz47
       obtain ⟨x36_3, x465003_3, u465003, rfl, HA, HK3, HO_465003, BK455, BK456, BK457, BK462, BK464, HB⟩ := hrel
       cases gk with
       | zero => exact absurd HA.out (by simp [impl_RunLayer.l1])
       | succ k3 =>
        have H := HA.out;clear HA;simp only [impl_RunLayer.l1] at H;by_cases c48 : x36_3 < t459;rotate_left
        ·rw [if_neg c48] at H;have c48b0 : decide (x36_3 < t459) = false := decide_eq_false c48;clear c48;have H' := am H;clear H
         go_wp2
         go_roundg k3
         case measure => have := HJ3.out; have := HK2.out; have := HK3.out; omega
         case rel => exact ⟨(wrap64 (x31_2 + 1)), (x465003_3), (u465003), pv, H', ⟨by have := HJ3.out; have := HK2.out; have := HK3.out; omega⟩, ⟨R_at HO_465003.out⟩, ⟨bks BK455⟩, ⟨bks BK456⟩, ⟨bks BK457⟩, ⟨bks BK462⟩, ⟨bks BK464⟩, ⟨bel_now⟩⟩
        rw [if_pos c48] at H;have c48b0 : decide (x36_3 < t459) = true := decide_eq_true c48;clear c48;have H' := am H;clear H;have hn49 := ne2 NB462_455;have hn50 := ne2 NB462_456;have hn51 := ne2 NB462_457;have hn52 := ne2 NB462_464;have hcz53 := cells3 BK462.out
        go_wp2
        go_loopg [41] k3 (fun kq v41 w' => ∃ (x41_4 : Int) (x465003_4 : List Int) (u465003 : Value), v41 = .int .i64 x41_4 ∧ Aside0 (impl_RunLayer.l2 kq x31_2 x36_3 t458 x31_2 t459 x36_3 t460 x41_4 a0_0 a0_1 a0_2 l0_3 a1_0 a1_1 a1_2 a1_3 a1_4 a1_5 a1_6 l1_7 l1_8 t458 t459 t460 t458 t459 t460 x465003_4 = some (r1, r2, r3, r4, r5)) ∧ Aside0 (kq ≤ k3) ∧ Aside0 (Kd.R (Kd.int .i64) 3 w' w.heap.size (fun _ => True) u465003 x465003_4) ∧ Aside0 (w'.heap[gb455]? = some (.cells #[.int .i64 a0_0, .int .i64 a0_1, .int .i64 a0_2, (.slice A0_3 l0_3.length c0_3)] 33 (0, 0))) ∧ Aside0 (w'.heap[gb456]? = some (.cells #[.int .i64 a1_0, .int .i64 a1_1, .int .i64 a1_2, .int .i64 a1_3, .int .i64 a1_4, .int .i64 a1_5, .int .i64 a1_6, (.slice A1_7 l1_7.length c1_7), (.slice A1_8 l1_8.length c1_8)] 37 (0, 0))) ∧ Aside0 (w'.heap[gb457]? = some (.cells #[.int .i64 0, .int .i64 0, .int .i64 0, (.slice none 0 0)] 33 (0, 0))) ∧ Aside0 (w'.heap[gb462]? = some (.cells #[.int .i64 t458, .int .i64 t459, .int .i64 t460] 31 (0, 0))) ∧ Aside0 (w'.heap[gb464]? = some (.cells #[.int .i64 t458, .int .i64 t459, .int .i64 t460, u465003] 33 (0, 0))) ∧ Aside0 (Below w.heap.size w w'))
        case atStart => exact ⟨(0), (x465003_3), (u465003), pv, H', ⟨Nat.le_refl _⟩, ⟨R_at HO_465003.out⟩, ⟨bks BK455⟩, ⟨bks BK456⟩, ⟨bks BK457⟩, ⟨bks BK462⟩, ⟨bks BK464⟩, ⟨bel_now⟩⟩
        case round =>
         clear H';try clear c26
         try clear c42
         try clear c42b0
         try clear c48
         try clear c48b0
         try clear hcz10
         try clear hcz12
         try clear hcz18
         try clear hcz34
         try clear hcz40
         try clear hcz41
         try clear hcz47
         try clear hcz53
         obtain ⟨x41_4, x465003_4, u465003, rfl, HA, HK4, HO_465003, BK455, BK456, BK457, BK462, BK464, HB⟩ := hrel
         cases gk with
         | zero => exact absurd HA.out (by simp [impl_RunLayer.l2])
         | succ k4 =>
          have H := HA.out;clear HA;simp only [impl_RunLayer.l2] at H;by_cases c54 : x41_4 < t460;rotate_left
          ·rw [if_neg c54] at H;have c54b0 : decide (x41_4 < t460) = false := decide_eq_false c54;clear c54;have H' := am H;clear H
           go_wp2
           go_roundg k4
           case measure => have := HJ3.out; have := HK2.out; have := HK3.out; have := HK4.out; omega
           case rel => exact ⟨(wrap64 (x36_3 + 1)), (x465003_4), (u465003), pv, H', ⟨by have := HJ3.out; have := HK2.out; have := HK3.out; have := HK4.out; omega⟩, ⟨R_at HO_465003.out⟩, ⟨bks BK455⟩, ⟨bks BK456⟩, ⟨bks BK457⟩, ⟨bks BK462⟩, ⟨bks BK464⟩, ⟨bel_now⟩⟩
          rw [if_pos c54] at H;have c54b0 : decide (x41_4 < t460) = true := decide_eq_true c54;clear c54;obtain ⟨t465, A55, H⟩ := bnd H;(try dsimp only at H);obtain ⟨c56, H⟩ := gd H;have LMc56 := am c56;clear c56;obtain ⟨y466, hy466⟩ : ∃ y_ : List Int, y_ = (x465003_4 ++ [t465]) := ⟨_, rfl⟩;replace H : (impl_RunLayer.l2 k4 x31_2 x36_3 t458 x31_2 t459 x36_3 t460 (wrap64 (x41_4 + 1)) a0_0 a0_1 a0_2 l0_3 a1_0 a1_1 a1_2 a1_3 a1_4 a1_5 a1_6 l1_7 l1_8 t458 t459 t460 t458 t459 t460 y466) = some (r1, r2, r3, r4, r5) := by first | (rw [hy466]; with_reducible exact H) | (have H2_ := (Option.bind_some _ _).symm.trans H; rw [hy466]; with_reducible exact H2_) | (have H2_ := (Option.bind_some _ _).symm.trans H; with_reducible exact H2_) | with_reducible exact H | (rw [hy466]; exact H) | exact H
          have Ny466 := am hy466;clear hy466;have H' := am H;clear H
          try go_wp2
          replace HO_465003 := am (Kd.R_drew HO_465003.out);replace BK455 := am (blk_drew BK455.out);replace BK456 := am (blk_drew BK456.out);replace BK457 := am (blk_drew BK457.out);replace BK462 := am (blk_drew BK462.out);replace BK464 := am (blk_drew BK464.out);replace HB := am (below_drew1 HB.out)
          refine start_ (n := 12) (S := fun w' => w'.cell? ⟨gb464, 0, none⟩ = some (.int .i64 t458) ∧ w'.cell? ⟨gb464, 1, none⟩ = some (.int .i64 t459) ∧ w'.cell? ⟨gb464, 2, none⟩ = some (.int .i64 t460) ∧ w'.cell? ⟨gb464, 3, none⟩ = some (u465003) ∧ w'.cell? ⟨gb456, 0, none⟩ = some (.int .i64 a1_0) ∧ w'.cell? ⟨gb456, 1, none⟩ = some (.int .i64 a1_1) ∧ w'.cell? ⟨gb456, 2, none⟩ = some (.int .i64 a1_2) ∧ w'.cell? ⟨gb456, 3, none⟩ = some (.int .i64 a1_3) ∧ w'.cell? ⟨gb456, 4, none⟩ = some (.int .i64 a1_4) ∧ w'.cell? ⟨gb456, 5, none⟩ = some (.int .i64 a1_5) ∧ w'.cell? ⟨gb456, 6, none⟩ = some (.int .i64 a1_6) ∧ w'.cell? ⟨gb456, 7, none⟩ = some (.slice A1_7 l1_7.length c1_7) ∧ w'.cell? ⟨gb456, 8, none⟩ = some (.slice A1_8 l1_8.length c1_8) ∧ w'.cell? ⟨gb455, 0, none⟩ = some (.int .i64 a0_0) ∧ w'.cell? ⟨gb455, 1, none⟩ = some (.int .i64 a0_1) ∧ w'.cell? ⟨gb455, 2, none⟩ = some (.int .i64 a0_2) ∧ w'.cell? ⟨gb455, 3, none⟩ = some (.slice A0_3 l0_3.length c0_3)) (ds := [11]) #[O, O, O, O, O, O, O, O, O, O, O, O] (by kernel_rfl) rfl rfl ⟨bc BK464 0, bc BK464 1, bc BK464 2, bc BK464 3, bc BK456 0, bc BK456 1, bc BK456 2, bc BK456 3, bc BK456 4, bc BK456 5, bc BK456 6, bc BK456 7, bc BK456 8, bc BK455 0, bc BK455 1, bc BK455 2, bc BK455 3⟩ (fun hHeld => ?_); refine with_tabW impl_RunLayer.tab14 impl_RunLayer.bits14 (fun HT_ HW_ => ?_)
          generalize wr.drew = w57 at HO_465003 BK455 BK456 BK457 BK462 BK464 HB hHeld ⊢
          refine stepP 0 (some 44) (tk 12 1) (any_of HT_.out (by kernel_rfl)) ?_
          refine stepP 4 (some 48) (tk 12 17) (any_of HT_.out (by kernel_rfl)) ?_
          refine stepP 5 (some 49) (tk 12 49) (any_of HT_.out (by kernel_rfl)) ?_
          refine stepP 6 (some 50) (tk 12 113) (any_of HT_.out (by kernel_rfl)) ?_
          refine stepT 1 (some 45) (tk 12 115) (take_ofW HT_.out HW_.out (by kernel_rfl)) hHeld ?_
          refine stepT 2 (some 46) (tk 12 119) (take_ofW HT_.out HW_.out (by kernel_rfl)) hHeld ?_
          refine stepT 3 (some 47) (tk 12 127) (take_ofW HT_.out HW_.out (by kernel_rfl)) hHeld ?_
          refine one_ (i := 7) (N := some 51) #[I, I, I, I, I, I, I, I, O, O, O, O] rfl rfl (one_of HT_.out (by kernel_rfl)) (by decide) (fun K hK => ?_)
          refine goes_ Try.func53 (by kernel_rfl) rfl #[.agg #[.int .i64 a1_0, .int .i64 a1_1, .int .i64 a1_2, .int .i64 a1_3, .int .i64 a1_4, .int .i64 a1_5, .int .i64 a1_6, .slice A1_7 l1_7.length c1_7, .slice A1_8 l1_8.length c1_8], .agg #[.int .i64 a0_0, .int .i64 a0_1, .int .i64 a0_2, .slice A0_3 l0_3.length c0_3], .int .i64 x31_2, .int .i64 x36_3, .int .i64 x41_4] (by rfl) rfl rfl (by (try simp only [List.map_toArray, List.map_cons, List.map_nil]); first | done | rfl | (simp only [List.length_drop, List.length_take]; rfl)) ?_
          with_reducible refine (impl_Layer_item.calls k4 a1_0 a1_1 a1_2 a1_3 a1_4 a1_5 a1_6 _ _ l1_7 _ _ l1_8 a0_0 a0_1 a0_2 _ _ l0_3 x31_2 x36_3 x41_4 t465 _ ?side1 ?side2 ?side3 ?side4 ?side5 ?side6 A55.out).mono ?_
          (case side1 => exact C_now HR1_7.out)
          (case side2 => exact HC1_7.out)
          (case side3 => exact C_now HR1_8.out)
          (case side4 => exact HC1_8.out)
          (case side5 => exact C_now HR0_3.out)
          (case side6 => exact HC0_3.out)
          rintro e w58 ⟨rfl, hb⟩
          refine ⟨_, rfl, ?_⟩
          replace HO_465003 := am (Kd.R_below (R_at HO_465003.out) hb);replace BK455 := blk_on gb455 hb;replace BK456 := blk_on gb456 hb;replace BK457 := blk_on gb457 hb;replace BK462 := blk_on gb462 hb;replace BK464 := blk_on gb464 hb;replace HB := bel_on w hb;(try clear hb)
          refine hK.out _ _ ⟨bc BK464 0, bc BK464 1, bc BK464 2, bc BK464 3, bc BK456 0, bc BK456 1, bc BK456 2, bc BK456 3, bc BK456 4, bc BK456 5, bc BK456 6, bc BK456 7, bc BK456 8, bc BK455 0, bc BK455 1, bc BK455 2, bc BK455 3⟩ (fun hHeld => ?_)
          clear hK K
          refine normP 51 ?_
          refine one_ (i := 8) (N := some 52) #[I, I, I, I, I, I, I, I, I, O, O, O] rfl rfl (one_of HT_.out (by kernel_rfl)) (by decide) (fun K hK => ?_)
          refine value_ (w1 := ?_) (v := ?_) (by rfl) rfl ?_ ?_
          rotate_left 2
          ·go_simp
           constructor
           ·rfl
           rfl
          refine hK.out _ _ ⟨(blk_cell (blk_alloc BK464.out _) 0).trans rfl, (blk_cell (blk_alloc BK464.out _) 1).trans rfl, (blk_cell (blk_alloc BK464.out _) 2).trans rfl, (blk_cell (blk_alloc BK464.out _) 3).trans rfl, (blk_cell (blk_alloc BK456.out _) 0).trans rfl, (blk_cell (blk_alloc BK456.out _) 1).trans rfl, (blk_cell (blk_alloc BK456.out _) 2).trans rfl, (blk_cell (blk_alloc BK456.out _) 3).trans rfl, (blk_cell (blk_alloc BK456.out _) 4).trans rfl, (blk_cell (blk_alloc BK456.out _) 5).trans rfl, (blk_cell (blk_alloc BK456.out _) 6).trans rfl, (blk_cell (blk_alloc BK456.out _) 7).trans rfl, (blk_cell (blk_alloc BK456.out _) 8).trans rfl, (blk_cell (blk_alloc BK455.out _) 0).trans rfl, (blk_cell (blk_alloc BK455.out _) 1).trans rfl, (blk_cell (blk_alloc BK455.out _) 2).trans rfl, (blk_cell (blk_alloc BK455.out _) 3).trans rfl⟩ (fun hHeld => ?_)
          clear hK K
          refine normP 52 ?_
          refine one_ (i := 9) (N := some 53) #[I, I, I, I, I, I, I, I, I, I, O, O] rfl rfl (one_of HT_.out (by kernel_rfl)) (by decide) (fun K hK => ?_)
          refine Kd.R_append_step (Kd.int .i64) (w0 := w) w.heap.size (by rfl) (.tmp 45) (.tmp 52) 24 3 (.int .i64 0) 8 rfl Try.underlying24 info3 rfl (by decide) (by omega) u465003 x465003_4 t465 [.int .i64 t465] (fun _ => True) (fun _ => False) rfl rfl ?aP (fun _ hk => hk.elim) ?aF ?aO ?aB ?aS ?aL ?_
          (case aP => exact rfl)
          (case aB => exact bel_now)
          (case aF => exact (fun _ _ => trivial))
          (case aO => exact (R_at HO_465003.out))
          (case aS => exact (below_size bel_now))
          (case aL => have := LMc56.out; omega)
          intro v467 w59 ho hb hg hat;rw [← Ny466.out] at ho;have n6_ := am (ho);replace BK455 := am (blk_grown (g := gb455) blk_now hg (Kd.R_ne HO_465003.out BK455.out (by decide)));replace BK456 := am (blk_grown (g := gb456) blk_now hg (Kd.R_ne HO_465003.out BK456.out (by decide)));replace BK457 := am (blk_grown (g := gb457) blk_now hg (Kd.R_ne HO_465003.out BK457.out (by decide)));replace BK462 := am (blk_grown (g := gb462) blk_now hg (Kd.R_ne HO_465003.out BK462.out (by decide)));replace BK464 := am (blk_grown (g := gb464) blk_now hg (Kd.R_ne HO_465003.out BK464.out (by decide)));replace HB := am (hb);clear HO_465003;have HO468 := n6_;clear n6_;clear ho hb hg hat;obtain ⟨Ao60, co60, eo60⟩ := Kd.R_slice HO468.out
          (first | subst eo60 | (injection eo60 with f1_ f2_ f3_; have f4_ := f1_.symm; have f5_ := f3_.symm; clear f1_ f2_ f3_; subst f4_; subst f5_))
          refine hK.out _ _ ⟨bc BK464 0, bc BK464 1, bc BK464 2, bc BK464 3, bc BK456 0, bc BK456 1, bc BK456 2, bc BK456 3, bc BK456 4, bc BK456 5, bc BK456 6, bc BK456 7, bc BK456 8, bc BK455 0, bc BK455 1, bc BK455 2, bc BK455 3⟩ (fun hHeld => ?_)
          clear hK K
          refine normP 53 ?_
          refine stepP 10 (some 54) (tk 12 2047) (any_of HT_.out (by kernel_rfl)) ?_
          refine last_ (i := 11) (N := none) #[I, I, I, I, I, I, I, I, I, I, I, I] rfl rfl (one_of HT_.out (by kernel_rfl)) (by decide) (fun K hK => ?_)
          have hs61 : w59.cell? ⟨gb464, 3, none⟩ = some (u465003) := (blk_cell BK464.out 3).trans rfl;have hfs61 := blk_frozen BK464.out 3;have hns61_0 := NB455_464.out;have hns61_1 := NB456_464.out;have hns61_2 := NB457_464.out;have hns61_3 := NB462_464.out;have hms61_0 := NB464_455.out;have hms61_1 := NB464_456.out;have hms61_2 := NB464_457.out;have hms61_3 := NB464_462.out
          refine skip_ (w1 := ?_) (by rfl) rfl ?_ ?_
          rotate_left
          ·go_simp
           rfl
          refine hK.out _ _ ?_
          clear hK K
          refine done_ (done_of HT_.out (by kernel_rfl)) ?_
          try go_wp2
          go_roundg k4
          case measure => have := HJ3.out; have := HK2.out; have := HK3.out; have := HK4.out; omega
          case rel => exact ⟨(wrap64 (x41_4 + 1)), (y466), (.slice Ao60 y466.length co60), pv, H', ⟨by have := HJ3.out; have := HK2.out; have := HK3.out; have := HK4.out; omega⟩, ⟨by (with_reducible repeat (first | apply Kd.R_alloc | apply Kd.R_drewN | apply Kd.R_drew)); exact Kd.R_mono (Kd.R_far (p := ⟨gb464, 3, none⟩) (Kd.R_types HO468.out BK464.out (by decide)) (fun _ hk => hk.2) (.slice Ao60 y466.length co60)) (fun _ hk => trivial)⟩, ⟨by (with_reducible repeat (first | refine blk_drewN ?_ _ | refine blk_drew ?_ | refine blk_alloc ?_ _)); refine blk_far ?_ NB455_464.out _; (with_reducible repeat (first | refine blk_drewN ?_ _ | refine blk_drew ?_ | refine blk_alloc ?_ _)); exact BK455.out⟩, ⟨by (with_reducible repeat (first | refine blk_drewN ?_ _ | refine blk_drew ?_ | refine blk_alloc ?_ _)); refine blk_far ?_ NB456_464.out _; (with_reducible repeat (first | refine blk_drewN ?_ _ | refine blk_drew ?_ | refine blk_alloc ?_ _)); exact BK456.out⟩, ⟨by (with_reducible repeat (first | refine blk_drewN ?_ _ | refine blk_drew ?_ | refine blk_alloc ?_ _)); refine blk_far ?_ NB457_464.out _; (with_reducible repeat (first | refine blk_drewN ?_ _ | refine blk_drew ?_ | refine blk_alloc ?_ _)); exact BK457.out⟩, ⟨by (with_reducible repeat (first | refine blk_drewN ?_ _ | refine blk_drew ?_ | refine blk_alloc ?_ _)); refine blk_far ?_ NB462_464.out _; (with_reducible repeat (first | refine blk_drewN ?_ _ | refine blk_drew ?_ | refine blk_alloc ?_ _)); exact BK462.out⟩, ⟨by (with_reducible repeat (first | refine blk_drewN ?_ _ | refine blk_drew ?_ | refine blk_alloc ?_ _)); refine blk_put (cs := #[.int .i64 t458, .int .i64 t459, .int .i64 t460, u465003]) ?_ 3 _ rfl; (with_reducible repeat (first | refine blk_drewN ?_ _ | refine blk_drew ?_ | refine blk_alloc ?_ _)); exact BK464.out⟩, ⟨bel_now⟩⟩

end Go.Proofs.Ytclpojeofclbjaa.PFnExactEvalModel
