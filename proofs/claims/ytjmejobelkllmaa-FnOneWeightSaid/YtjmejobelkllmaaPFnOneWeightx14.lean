import Derived.Test.YtjmejobelkllmaaPFnOneWeightx0
import Derived.Test.YtjmejobelkllmaaPFnOneWeightx9
import Derived.Test.YtjmejobelkllmaaPFnOneWeightx10
import Derived.Test.YtjmejobelkllmaaPFnOneWeightx13
namespace Go.Proofs.Ytjmejobelkllmaa.PFnOneWeight
open Go.RowKit Go.Proofs.YtjmejobelkllmaaW.PrintWords Go.Proofs.YtjmejobelkllmaaW.PrintLast Go.Proofs.YtjmejobelkllmaaW.PrintMore
attribute [local go_sem] max2_int min2_int max_two min_two max_three min_three max_four min_four
set_option maxHeartbeats 8000000
set_option maxRecDepth 100000
set_option linter.unusedVariables false
set_option linter.unusedSimpArgs false

mutual
def impl_RunLayer.j0 : Nat → Bool → Int → Int → Int → List Int → Int → Int → Int → Int → Int → Int → Int → List Int → List Int → Int → Int → Int → Option (Int × Int × Int × List Int × Bool)
  | 0, _, _, _, _, _, _, _, _, _, _, _, _, _, _, _, _, _ => none
  | k + 1, x25, x558000, x558001, x558002, x558003, x559000, x559001, x559002, x559003, x559004, x559005, x559006, x559007, x559008, x565000, x565001, x565002 => if x25 = true then (some (0, 0, 0, ([] : List Int), false)) else (impl_RunLayer.l0 k x565000 0 x558000 x558001 x558002 x558003 x559000 x559001 x559002 x559003 x559004 x559005 x559006 x559007 x559008 x565000 x565001 x565002 x565000 x565001 x565002 ([] : List Int))
def impl_RunLayer.l0 : Nat → Int → Int → Int → Int → Int → List Int → Int → Int → Int → Int → Int → Int → Int → List Int → List Int → Int → Int → Int → Int → Int → Int → List Int → Option (Int × Int × Int × List Int × Bool)
  | 0, _, _, _, _, _, _, _, _, _, _, _, _, _, _, _, _, _, _, _, _, _, _ => none
  | k + 1, x30, x31, x558000, x558001, x558002, x558003, x559000, x559001, x559002, x559003, x559004, x559005, x559006, x559007, x559008, x565000, x565001, x565002, x567000, x567001, x567002, x567003 => if x31 < x30 then (impl_RunLayer.l1 k x31 x30 x31 x565001 0 x558000 x558001 x558002 x558003 x559000 x559001 x559002 x559003 x559004 x559005 x559006 x559007 x559008 x565000 x565001 x565002 x567000 x567001 x567002 x567003) else (some (x567000, x567001, x567002, x567003, true))
def impl_RunLayer.l1 : Nat → Int → Int → Int → Int → Int → Int → Int → Int → List Int → Int → Int → Int → Int → Int → Int → Int → List Int → List Int → Int → Int → Int → Int → Int → Int → List Int → Option (Int × Int × Int × List Int × Bool)
  | 0, _, _, _, _, _, _, _, _, _, _, _, _, _, _, _, _, _, _, _, _, _, _, _, _, _ => none
  | k + 1, x9, x30, x31, x35, x36, x558000, x558001, x558002, x558003, x559000, x559001, x559002, x559003, x559004, x559005, x559006, x559007, x559008, x565000, x565001, x565002, x567000, x567001, x567002, x567003 => if x36 < x35 then (impl_RunLayer.l2 k x9 x36 x30 x31 x35 x36 x565002 0 x558000 x558001 x558002 x558003 x559000 x559001 x559002 x559003 x559004 x559005 x559006 x559007 x559008 x565000 x565001 x565002 x567000 x567001 x567002 x567003) else (impl_RunLayer.l0 k x30 (wrap64 (x31 + 1)) x558000 x558001 x558002 x558003 x559000 x559001 x559002 x559003 x559004 x559005 x559006 x559007 x559008 x565000 x565001 x565002 x567000 x567001 x567002 x567003)
def impl_RunLayer.l2 : Nat → Int → Int → Int → Int → Int → Int → Int → Int → Int → Int → Int → List Int → Int → Int → Int → Int → Int → Int → Int → List Int → List Int → Int → Int → Int → Int → Int → Int → List Int → Option (Int × Int × Int × List Int × Bool)
  | 0, _, _, _, _, _, _, _, _, _, _, _, _, _, _, _, _, _, _, _, _, _, _, _, _, _, _, _, _ => none
  | k + 1, x9, x10, x30, x31, x35, x36, x40, x41, x558000, x558001, x558002, x558003, x559000, x559001, x559002, x559003, x559004, x559005, x559006, x559007, x559008, x565000, x565001, x565002, x567000, x567001, x567002, x567003 => if x41 < x40 then ((impl_Layer_item.f k x559000 x559001 x559002 x559003 x559004 x559005 x559006 x559007 x559008 x558000 x558001 x558002 x558003 x9 x10 x41).bind fun t567 => (if x567003.length < 17592186044416 then (impl_RunLayer.l2 k x9 x10 x30 x31 x35 x36 x40 (wrap64 (x41 + 1)) x558000 x558001 x558002 x558003 x559000 x559001 x559002 x559003 x559004 x559005 x559006 x559007 x559008 x565000 x565001 x565002 x567000 x567001 x567002 (x567003 ++ [t567])) else (none))) else (impl_RunLayer.l1 k x9 x30 x31 x35 (wrap64 (x36 + 1)) x558000 x558001 x558002 x558003 x559000 x559001 x559002 x559003 x559004 x559005 x559006 x559007 x559008 x565000 x565001 x565002 x567000 x567001 x567002 x567003)
end
def impl_RunLayer.f (k : Nat) (a0_0 : Int) (a0_1 : Int) (a0_2 : Int) (l0_3 : List Int) (a1_0 : Int) (a1_1 : Int) (a1_2 : Int) (a1_3 : Int) (a1_4 : Int) (a1_5 : Int) (a1_6 : Int) (l1_7 : List Int) (l1_8 : List Int) : Option (Int × Int × Int × List Int × Bool) := (impl_OutShape.f k a0_0 a0_1 a0_2 a1_0 a1_1 a1_2 a1_3 a1_4 a1_5 a1_6 l1_7 l1_8).bind fun bt560 => (if bt560.2.2.2 = true then ((impl_TensorOk.f k a0_0 a0_1 a0_2 l0_3).bind fun t565 => (impl_RunLayer.j0 k (!t565) a0_0 a0_1 a0_2 l0_3 a1_0 a1_1 a1_2 a1_3 a1_4 a1_5 a1_6 l1_7 l1_8 bt560.1 bt560.2.1 bt560.2.2.1)) else (impl_RunLayer.j0 k true a0_0 a0_1 a0_2 l0_3 a1_0 a1_1 a1_2 a1_3 a1_4 a1_5 a1_6 l1_7 l1_8 bt560.1 bt560.2.1 bt560.2.2.1))
def impl_RunLayer.T14 : Bool × List (List Nat × List Nat) := (true, [([], []), ([0], [0]), ([], []), ([], []), ([], []), ([], []), ([], []), ([2, 3, 4, 5, 6], [2, 3, 4, 5, 6]), ([7], [7]), ([1, 8, 7], [1, 8]), ([0, 1, 2, 3, 4, 5, 6, 7, 8, 9], []), ([10, 9, 9, 0, 1, 2, 3, 4, 5, 6, 7, 8, 9], [9, 10])])
def impl_RunLayer.B14 : List Nat := [0, 1, 0, 0, 0, 0, 0, 124, 252, 511, 1023, 2047]
theorem impl_RunLayer.tab14 : rtab .any (opsOf Try.f22 14) = impl_RunLayer.T14 := by kernel_rfl
theorem impl_RunLayer.bits14 : waitsOk impl_RunLayer.T14.2 impl_RunLayer.B14 = true := by kernel_rfl
theorem impl_RunLayer.calls (k : Nat) (a0_0 : Int) (a0_1 : Int) (a0_2 : Int) (A0_3 : Option Addr) (c0_3 : Nat) (l0_3 : List Int) (a1_0 : Int) (a1_1 : Int) (a1_2 : Int) (a1_3 : Int) (a1_4 : Int) (a1_5 : Int) (a1_6 : Int) (A1_7 : Option Addr) (c1_7 : Nat) (l1_7 : List Int) (A1_8 : Option Addr) (c1_8 : Nat) (l1_8 : List Int) (r1 : Int) (r2 : Int) (r3 : Int) (r4 : List Int) (r5 : Bool) (w : World) (hr0_3 : Kd.C (Kd.int .i64) w A0_3 l0_3.length l0_3) (hc0_3 : l0_3.length ≤ c0_3) (hr1_7 : Kd.C (Kd.int .i64) w A1_7 l1_7.length l1_7) (hc1_7 : l1_7.length ≤ c1_7) (hr1_8 : Kd.C (Kd.int .i64) w A1_8 l1_8.length l1_8) (hc1_8 : l1_8.length ≤ c1_8) (h : impl_RunLayer.f k a0_0 a0_1 a0_2 l0_3 a1_0 a1_1 a1_2 a1_3 a1_4 a1_5 a1_6 l1_7 l1_8 = some (r1, r2, r3, r4, r5)) :
   Calls Try.prog 22 #[.agg #[.int .i64 a0_0, .int .i64 a0_1, .int .i64 a0_2, .slice A0_3 l0_3.length c0_3], .agg #[.int .i64 a1_0, .int .i64 a1_1, .int .i64 a1_2, .int .i64 a1_3, .int .i64 a1_4, .int .i64 a1_5, .int .i64 a1_6, .slice A1_7 l1_7.length c1_7, .slice A1_8 l1_8.length c1_8]] w fun e w' => ∃ v3_ : Value, e = .returned (.tuple #[.agg #[.int .i64 r1, .int .i64 r2, .int .i64 r3, v3_], .bool r5]) ∧ Kd.R (Kd.int .i64) 3 w' w.heap.size (fun _ => True) v3_ r4 ∧ Below w.heap.size w w' := by
  have hu44 := Try.underlying44;have hu46 := Try.underlying46;have hu24 := Try.underlying24;have HR0_3 := am hr0_3;have HC0_3 := am hc0_3;clear hr0_3 hc0_3;have HR1_7 := am hr1_7;have HC1_7 := am hc1_7;clear hr1_7 hc1_7;have HR1_8 := am hr1_8;have HC1_8 := am hc1_8;clear hr1_8 hc1_8;have HB := am (Below.refl w.heap.size w);have H : ((impl_OutShape.f k a0_0 a0_1 a0_2 a1_0 a1_1 a1_2 a1_3 a1_4 a1_5 a1_6 l1_7 l1_8).bind fun bt560 => (if bt560.2.2.2 = true then ((impl_TensorOk.f k a0_0 a0_1 a0_2 l0_3).bind fun t565 => (impl_RunLayer.j0 k (!t565) a0_0 a0_1 a0_2 l0_3 a1_0 a1_1 a1_2 a1_3 a1_4 a1_5 a1_6 l1_7 l1_8 bt560.1 bt560.2.1 bt560.2.2.1)) else (impl_RunLayer.j0 k true a0_0 a0_1 a0_2 l0_3 a1_0 a1_1 a1_2 a1_3 a1_4 a1_5 a1_6 l1_7 l1_8 bt560.1 bt560.2.1 bt560.2.2.1))) = some (r1, r2, r3, r4, r5) := h;clear h;replace H := Option.bind_eq_some_iff.mp H;obtain ⟨⟨t560, t561, t562, t563⟩, A30, H⟩ := H;(try dsimp only at H);have A3 := am A30;clear A30;have HC4 := am H;clear H
  go_enter Try.func22, Try.ntmps22
  go_upto_region 2 with (first | ((with_reducible refine gate_dst (N := 2) rfl ?_); refine boxM 2 #[.int .i64 a0_0, .int .i64 a0_1, .int .i64 a0_2, .slice A0_3 l0_3.length c0_3] 44 ?_; intro gb557 hg w5 BK557 hb; obtain ⟨HB, GW557, GE557⟩ := box_at w hb hg; clear hb hg) | ((with_reducible refine gate_dst (N := 3) rfl ?_); refine boxM 3 #[.int .i64 a1_0, .int .i64 a1_1, .int .i64 a1_2, .int .i64 a1_3, .int .i64 a1_4, .int .i64 a1_5, .int .i64 a1_6, .slice A1_7 l1_7.length c1_7, .slice A1_8 l1_8.length c1_8] 46 ?_; intro gb558 hg w6 BK558 hb; obtain ⟨HB, GW558, GE558⟩ := box_at w hb hg; obtain ⟨BK557, NB557_558, NB558_557⟩ := box_on gb557 hb hg; clear hb hg) | ((with_reducible refine gate_dst (N := 4) rfl ?_); refine boxM 4 #[.int .i64 0, .int .i64 0, .int .i64 0, .slice none 0 0] 44 ?_; intro gb559 hg w7 BK559 hb; obtain ⟨HB, GW559, GE559⟩ := box_at w hb hg; obtain ⟨BK557, NB557_559, NB559_557⟩ := box_on gb557 hb hg; obtain ⟨BK558, NB558_559, NB559_558⟩ := box_on gb558 hb hg; clear hb hg; have hn8 := ne2 NB557_558; have hn9 := ne2 NB557_559; have hcz10 := cells4 BK557.out; have hn11 := ne2 NB558_559; have hcz12 := cells9 BK558.out) | ((with_reducible refine gate_callee (f := 48) rfl ?_); refine gM 16 Try.func48 #[.agg #[.int .i64 a0_0, .int .i64 a0_1, .int .i64 a0_2], .agg #[.int .i64 a1_0, .int .i64 a1_1, .int .i64 a1_2, .int .i64 a1_3, .int .i64 a1_4, .int .i64 a1_5, .int .i64 a1_6, .slice A1_7 l1_7.length c1_7, .slice A1_8 l1_8.length c1_8]] rfl ?_; (with_reducible refine (impl_OutShape.calls k a0_0 a0_1 a0_2 a1_0 a1_1 a1_2 a1_3 a1_4 a1_5 a1_6 _ _ l1_7 _ _ l1_8 t560 t561 t562 t563 _ ?side1 HC1_7.out ?side3 HC1_8.out A3.out).mono ?_); (case side1 => exact C_now HR1_7.out); (case side3 => exact C_now HR1_8.out); rintro e w13 ⟨rfl, hb⟩; refine ⟨_, rfl, ?_⟩; replace HB := bel_on w hb; replace BK557 := blk_on gb557 hb; replace BK558 := blk_on gb558 hb; replace BK559 := blk_on gb559 hb; (try clear hb); (try clear hb2); (try clear hb3); (try clear hk); (try clear hi)) | ((with_reducible refine gate_dst (N := 6) rfl ?_); refine boxM 6 #[.int .i64 0, .int .i64 0, .int .i64 0] 24 ?_; intro gb564 hg w14 BK564 hb; obtain ⟨HB, GW564, GE564⟩ := box_at w hb hg; obtain ⟨BK557, NB557_564, NB564_557⟩ := box_on gb557 hb hg; obtain ⟨BK558, NB558_564, NB564_558⟩ := box_on gb558 hb hg; obtain ⟨BK559, NB559_564, NB564_559⟩ := box_on gb559 hb hg; clear hb hg; have hn15 := ne2 NB564_557; have hn16 := ne2 NB564_558; have hn17 := ne2 NB564_559; have hcz18 := cells3 BK564.out))
  (try simp only [Act.put, zA, zB, zC])
  go_cut [25] (fun v25 wc => ∃ (kq : Nat) (x25_3 : Bool), v25 = .bool x25_3 ∧ Aside0 (impl_RunLayer.j0 kq x25_3 a0_0 a0_1 a0_2 l0_3 a1_0 a1_1 a1_2 a1_3 a1_4 a1_5 a1_6 l1_7 l1_8 t560 t561 t562 = some (r1, r2, r3, r4, r5)) ∧ Aside0 (kq ≤ k) ∧ Aside0 (wc.heap[gb557]? = some (.cells #[.int .i64 a0_0, .int .i64 a0_1, .int .i64 a0_2, (.slice A0_3 l0_3.length c0_3)] 44 (0, 0))) ∧ Aside0 (wc.heap[gb558]? = some (.cells #[.int .i64 a1_0, .int .i64 a1_1, .int .i64 a1_2, .int .i64 a1_3, .int .i64 a1_4, .int .i64 a1_5, .int .i64 a1_6, (.slice A1_7 l1_7.length c1_7), (.slice A1_8 l1_8.length c1_8)] 46 (0, 0))) ∧ Aside0 (wc.heap[gb559]? = some (.cells #[.int .i64 0, .int .i64 0, .int .i64 0, (.slice none 0 0)] 44 (0, 0))) ∧ Aside0 (wc.heap[gb564]? = some (.cells #[.int .i64 t560, .int .i64 t561, .int .i64 t562] 24 (0, 0))) ∧ Aside0 (Below w.heap.size w wc))
  case first =>
   have H := HC4.out;clear HC4;by_cases c19 : t563 = true
   ·subst c19;rw [if_pos rfl] at H;obtain ⟨t565, A20, H⟩ := bnd H;(try dsimp only at H);have H' := am H;clear H;have hn21 := ne2 NB557_558;have hn22 := ne2 NB557_559;have hn23 := ne2 NB557_564;have hcz24 := cells4 BK557.out
    go_wp2_with (first | (go_at_call 49; (with_reducible refine (impl_TensorOk.calls k a0_0 a0_1 a0_2 _ _ l0_3 t565 _ ?side1 HC0_3.out A20.out).mono ?_); (case side1 => exact C_now HR0_3.out); rintro e w25 ⟨rfl, hb⟩; replace HB := bel_on w hb; replace BK557 := am (blk_below (g := gb557) (o := .cells #[.int .i64 a0_0, .int .i64 a0_1, .int .i64 a0_2, .slice A0_3 l0_3.length c0_3] 44 (0, 0)) (blk_fars BK557.out) hb); replace BK558 := am (blk_below (g := gb558) (o := .cells #[.int .i64 a1_0, .int .i64 a1_1, .int .i64 a1_2, .int .i64 a1_3, .int .i64 a1_4, .int .i64 a1_5, .int .i64 a1_6, .slice A1_7 l1_7.length c1_7, .slice A1_8 l1_8.length c1_8] 46 (0, 0)) (blk_fars BK558.out) hb); replace BK559 := am (blk_below (g := gb559) (o := .cells #[.int .i64 0, .int .i64 0, .int .i64 0, .slice none 0 0] 44 (0, 0)) (blk_fars BK559.out) hb); replace BK564 := am (blk_below (g := gb564) (o := .cells #[.int .i64 t560, .int .i64 t561, .int .i64 t562] 24 (0, 0)) (blk_fars (puts3 BK564.out)) hb); (try clear hb); (try clear hb2); (try clear hb3); (try clear hk); (try clear hi)))
    go_meet
    case rel => exact ⟨_, (!t565), pv, H', ⟨by first | omega | exact Nat.le_refl _⟩, ⟨bks BK557⟩, ⟨bks BK558⟩, ⟨bks BK559⟩, ⟨bks BK564⟩, ⟨bel_now⟩⟩
   replace c19 := Bool.eq_false_iff.mpr c19;subst c19
   rw [if_neg (show ¬ (false = true) by decide)] at H
   have H' := am H;clear H
   go_wp2
   go_meet
   case rel => exact ⟨_, (true), pv, H', ⟨by first | omega | exact Nat.le_refl _⟩, ⟨by (with_reducible repeat (first | refine blk_drewN ?_ _ | refine blk_drew ?_ | refine blk_alloc ?_ _)); refine blk_far ?_ NB557_564.out _; (with_reducible repeat (first | refine blk_drewN ?_ _ | refine blk_drew ?_ | refine blk_alloc ?_ _)); refine blk_far ?_ NB557_564.out _; (with_reducible repeat (first | refine blk_drewN ?_ _ | refine blk_drew ?_ | refine blk_alloc ?_ _)); refine blk_far ?_ NB557_564.out _; (with_reducible repeat (first | refine blk_drewN ?_ _ | refine blk_drew ?_ | refine blk_alloc ?_ _)); exact BK557.out⟩, ⟨by (with_reducible repeat (first | refine blk_drewN ?_ _ | refine blk_drew ?_ | refine blk_alloc ?_ _)); refine blk_far ?_ NB558_564.out _; (with_reducible repeat (first | refine blk_drewN ?_ _ | refine blk_drew ?_ | refine blk_alloc ?_ _)); refine blk_far ?_ NB558_564.out _; (with_reducible repeat (first | refine blk_drewN ?_ _ | refine blk_drew ?_ | refine blk_alloc ?_ _)); refine blk_far ?_ NB558_564.out _; (with_reducible repeat (first | refine blk_drewN ?_ _ | refine blk_drew ?_ | refine blk_alloc ?_ _)); exact BK558.out⟩, ⟨by (with_reducible repeat (first | refine blk_drewN ?_ _ | refine blk_drew ?_ | refine blk_alloc ?_ _)); refine blk_far ?_ NB559_564.out _; (with_reducible repeat (first | refine blk_drewN ?_ _ | refine blk_drew ?_ | refine blk_alloc ?_ _)); refine blk_far ?_ NB559_564.out _; (with_reducible repeat (first | refine blk_drewN ?_ _ | refine blk_drew ?_ | refine blk_alloc ?_ _)); refine blk_far ?_ NB559_564.out _; (with_reducible repeat (first | refine blk_drewN ?_ _ | refine blk_drew ?_ | refine blk_alloc ?_ _)); exact BK559.out⟩, ⟨by (with_reducible repeat (first | refine blk_drewN ?_ _ | refine blk_drew ?_ | refine blk_alloc ?_ _)); refine blk_put (cs := #[.int .i64 t560, .int .i64 t561, .int .i64 0]) ?_ 2 _ rfl; (with_reducible repeat (first | refine blk_drewN ?_ _ | refine blk_drew ?_ | refine blk_alloc ?_ _)); refine blk_put (cs := #[.int .i64 t560, .int .i64 0, .int .i64 0]) ?_ 1 _ rfl; (with_reducible repeat (first | refine blk_drewN ?_ _ | refine blk_drew ?_ | refine blk_alloc ?_ _)); refine blk_put (cs := #[.int .i64 0, .int .i64 0, .int .i64 0]) ?_ 0 _ rfl; (with_reducible repeat (first | refine blk_drewN ?_ _ | refine blk_drew ?_ | refine blk_alloc ?_ _)); exact BK564.out⟩, ⟨bel_now⟩⟩
  case rest =>
   clear HC4;try clear hcz10
   try clear hcz12
   try clear hcz18
   obtain ⟨kq, x25_3, rfl, HA, HJ3, BK557, BK558, BK559, BK564, HB⟩ := hcut
   cases kq with
   | zero => exact absurd HA.out (by simp [impl_RunLayer.j0])
   | succ kj3 =>
    have H := HA.out;clear HA;simp only [impl_RunLayer.j0] at H;by_cases c26 : x25_3 = true
    ·subst c26;rw [if_pos rfl] at H;simp only [Option.some.injEq, Prod.mk.injEq] at H;obtain ⟨rfl, rfl, rfl, rfl, rfl⟩ := H;have hn27 := ne2 NB559_557;have hn28 := ne2 NB559_558;have hn29 := ne2 NB559_564;have hcz30 := cells4 BK559.out
     go_wp2
     refine bodyPost_ret (results_ct rfl _ _ gb559 44 #[.int .i64 0, .int .i64 0, .int .i64 0, .slice none 0 0] (0, 0) _ rfl (blk_fars (puts4 BK559.out)) Try.underlying44 rfl (by kernel_rfl)) rfl ?_
     exact ⟨_, eqN, by first | exact Kd.R_nil _ _ _ _ _ | exact Kd.N_nil _ _ _ _ _ | exact Kd.V_nil _ _ _ _ _ | exact Kd.Q_nil _ _ _ _ _ | exact Kd.S_nil _ _ _ _ _, bel_now⟩
    replace c26 := Bool.eq_false_iff.mpr c26;subst c26
    rw [if_neg (show ¬ (false = true) by decide)] at H
    have H' := am H;clear H;have hn31 := ne2 NB564_557;have hn32 := ne2 NB564_558;have hn33 := ne2 NB564_559;have hcz34 := cells3 BK564.out
    go_wp2_with (first | ((with_reducible refine gate_dst (N := 8) rfl ?_); refine boxM 8 #[.int .i64 0, .int .i64 0, .int .i64 0, .slice none 0 0] 44 ?_; intro gb566 hg w35 BK566 hb; obtain ⟨HB, GW566, GE566⟩ := box_at w hb hg; obtain ⟨BK557, NB557_566, NB566_557⟩ := box_on gb557 hb hg; obtain ⟨BK558, NB558_566, NB566_558⟩ := box_on gb558 hb hg; obtain ⟨BK559, NB559_566, NB566_559⟩ := box_on gb559 hb hg; obtain ⟨BK564, NB564_566, NB566_564⟩ := box_on gb564 hb hg; clear hb hg; have hn36 := ne2 NB566_557; have hn37 := ne2 NB566_558; have hn38 := ne2 NB566_559; have hn39 := ne2 NB566_564; have hcz40 := cells4 BK566.out; have hcz41 := cells3 BK564.out))
    go_loopg [31] kj3 (fun kq v31 w' => ∃ (x31_2 : Int) (x567003_2 : List Int) (u567003 : Value), v31 = .int .i64 x31_2 ∧ Aside0 (impl_RunLayer.l0 kq t560 x31_2 a0_0 a0_1 a0_2 l0_3 a1_0 a1_1 a1_2 a1_3 a1_4 a1_5 a1_6 l1_7 l1_8 t560 t561 t562 t560 t561 t562 x567003_2 = some (r1, r2, r3, r4, r5)) ∧ Aside0 (kq ≤ kj3) ∧ Aside0 (Kd.R (Kd.int .i64) 3 w' w.heap.size (fun _ => True) u567003 x567003_2) ∧ Aside0 (w'.heap[gb557]? = some (.cells #[.int .i64 a0_0, .int .i64 a0_1, .int .i64 a0_2, (.slice A0_3 l0_3.length c0_3)] 44 (0, 0))) ∧ Aside0 (w'.heap[gb558]? = some (.cells #[.int .i64 a1_0, .int .i64 a1_1, .int .i64 a1_2, .int .i64 a1_3, .int .i64 a1_4, .int .i64 a1_5, .int .i64 a1_6, (.slice A1_7 l1_7.length c1_7), (.slice A1_8 l1_8.length c1_8)] 46 (0, 0))) ∧ Aside0 (w'.heap[gb559]? = some (.cells #[.int .i64 0, .int .i64 0, .int .i64 0, (.slice none 0 0)] 44 (0, 0))) ∧ Aside0 (w'.heap[gb564]? = some (.cells #[.int .i64 t560, .int .i64 t561, .int .i64 t562] 24 (0, 0))) ∧ Aside0 (w'.heap[gb566]? = some (.cells #[.int .i64 t560, .int .i64 t561, .int .i64 t562, u567003] 44 (0, 0))) ∧ Aside0 (Below w.heap.size w w'))
    case atStart => exact ⟨(0), (([] : List Int)), (.slice none 0 0), pv, H', ⟨Nat.le_refl _⟩, ⟨by first | exact Kd.R_nil _ _ _ _ _ | exact Kd.N_nil _ _ _ _ _ | exact Kd.V_nil _ _ _ _ _ | exact Kd.Q_nil _ _ _ _ _ | exact Kd.S_nil _ _ _ _ _⟩, ⟨by (with_reducible repeat (first | refine blk_drewN ?_ _ | refine blk_drew ?_ | refine blk_alloc ?_ _)); refine blk_far ?_ NB557_566.out _; (with_reducible repeat (first | refine blk_drewN ?_ _ | refine blk_drew ?_ | refine blk_alloc ?_ _)); refine blk_far ?_ NB557_566.out _; (with_reducible repeat (first | refine blk_drewN ?_ _ | refine blk_drew ?_ | refine blk_alloc ?_ _)); refine blk_far ?_ NB557_566.out _; (with_reducible repeat (first | refine blk_drewN ?_ _ | refine blk_drew ?_ | refine blk_alloc ?_ _)); refine blk_far ?_ NB557_566.out _; (with_reducible repeat (first | refine blk_drewN ?_ _ | refine blk_drew ?_ | refine blk_alloc ?_ _)); exact BK557.out⟩, ⟨by (with_reducible repeat (first | refine blk_drewN ?_ _ | refine blk_drew ?_ | refine blk_alloc ?_ _)); refine blk_far ?_ NB558_566.out _; (with_reducible repeat (first | refine blk_drewN ?_ _ | refine blk_drew ?_ | refine blk_alloc ?_ _)); refine blk_far ?_ NB558_566.out _; (with_reducible repeat (first | refine blk_drewN ?_ _ | refine blk_drew ?_ | refine blk_alloc ?_ _)); refine blk_far ?_ NB558_566.out _; (with_reducible repeat (first | refine blk_drewN ?_ _ | refine blk_drew ?_ | refine blk_alloc ?_ _)); refine blk_far ?_ NB558_566.out _; (with_reducible repeat (first | refine blk_drewN ?_ _ | refine blk_drew ?_ | refine blk_alloc ?_ _)); exact BK558.out⟩, ⟨by (with_reducible repeat (first | refine blk_drewN ?_ _ | refine blk_drew ?_ | refine blk_alloc ?_ _)); refine blk_far ?_ NB559_566.out _; (with_reducible repeat (first | refine blk_drewN ?_ _ | refine blk_drew ?_ | refine blk_alloc ?_ _)); refine blk_far ?_ NB559_566.out _; (with_reducible repeat (first | refine blk_drewN ?_ _ | refine blk_drew ?_ | refine blk_alloc ?_ _)); refine blk_far ?_ NB559_566.out _; (with_reducible repeat (first | refine blk_drewN ?_ _ | refine blk_drew ?_ | refine blk_alloc ?_ _)); refine blk_far ?_ NB559_566.out _; (with_reducible repeat (first | refine blk_drewN ?_ _ | refine blk_drew ?_ | refine blk_alloc ?_ _)); exact BK559.out⟩, ⟨by (with_reducible repeat (first | refine blk_drewN ?_ _ | refine blk_drew ?_ | refine blk_alloc ?_ _)); refine blk_far ?_ NB564_566.out _; (with_reducible repeat (first | refine blk_drewN ?_ _ | refine blk_drew ?_ | refine blk_alloc ?_ _)); refine blk_far ?_ NB564_566.out _; (with_reducible repeat (first | refine blk_drewN ?_ _ | refine blk_drew ?_ | refine blk_alloc ?_ _)); refine blk_far ?_ NB564_566.out _; (with_reducible repeat (first | refine blk_drewN ?_ _ | refine blk_drew ?_ | refine blk_alloc ?_ _)); refine blk_far ?_ NB564_566.out _; (with_reducible repeat (first | refine blk_drewN ?_ _ | refine blk_drew ?_ | refine blk_alloc ?_ _)); exact BK564.out⟩, ⟨by (with_reducible repeat (first | refine blk_drewN ?_ _ | refine blk_drew ?_ | refine blk_alloc ?_ _)); refine blk_put (cs := #[.int .i64 t560, .int .i64 t561, .int .i64 t562, .slice none 0 0]) ?_ 3 _ rfl; (with_reducible repeat (first | refine blk_drewN ?_ _ | refine blk_drew ?_ | refine blk_alloc ?_ _)); refine blk_put (cs := #[.int .i64 t560, .int .i64 t561, .int .i64 0, .slice none 0 0]) ?_ 2 _ rfl; (with_reducible repeat (first | refine blk_drewN ?_ _ | refine blk_drew ?_ | refine blk_alloc ?_ _)); refine blk_put (cs := #[.int .i64 t560, .int .i64 0, .int .i64 0, .slice none 0 0]) ?_ 1 _ rfl; (with_reducible repeat (first | refine blk_drewN ?_ _ | refine blk_drew ?_ | refine blk_alloc ?_ _)); refine blk_put (cs := #[.int .i64 0, .int .i64 0, .int .i64 0, .slice none 0 0]) ?_ 0 _ rfl; (with_reducible repeat (first | refine blk_drewN ?_ _ | refine blk_drew ?_ | refine blk_alloc ?_ _)); exact BK566.out⟩, ⟨bel_now⟩⟩
    case round =>
     clear H';try clear c26
     try clear hcz10
     try clear hcz12
     try clear hcz18
     try clear hcz34
     try clear hcz40
     try clear hcz41
     obtain ⟨x31_2, x567003_2, u567003, rfl, HA, HK2, HO_567003, BK557, BK558, BK559, BK564, BK566, HB⟩ := hrel
     cases gk with
     | zero => exact absurd HA.out (by simp [impl_RunLayer.l0])
     | succ k2 =>
      have H := HA.out;clear HA;simp only [impl_RunLayer.l0] at H;by_cases c42 : x31_2 < t560;rotate_left
      ·rw [if_neg c42] at H;have c42b0 : decide (x31_2 < t560) = false := decide_eq_false c42;clear c42;simp only [Option.some.injEq, Prod.mk.injEq] at H;obtain ⟨rfl, rfl, rfl, rfl, rfl⟩ := H;have hn62 := ne2 NB566_557;have hn63 := ne2 NB566_558;have hn64 := ne2 NB566_559;have hn65 := ne2 NB566_564;have hcz66 := cells4 BK566.out;have hn67 := ne2 NB559_557;have hn68 := ne2 NB559_558;have hn69 := ne2 NB559_564;have hcz70 := cells4 BK559.out;obtain ⟨Ao71, co71, eo71⟩ := Kd.R_slice HO_567003.out;subst eo71
       go_wp2
       refine bodyPost_ret (results_ct rfl _ _ gb559 44 #[.int .i64 t560, .int .i64 t561, .int .i64 t562, .slice Ao71 x567003_2.length co71] (0, 0) _ rfl (blk_fars (puts4 BK559.out)) Try.underlying44 rfl (by kernel_rfl)) rfl ?_
       exact ⟨_, eqN, by (with_reducible repeat (first | apply Kd.R_alloc | apply Kd.R_drewN | apply Kd.R_drew)); exact Kd.R_mono (Kd.R_far (p := ⟨gb559, 3, none⟩) (Kd.R_far (p := ⟨gb559, 2, none⟩) (Kd.R_far (p := ⟨gb559, 1, none⟩) (Kd.R_far (p := ⟨gb559, 0, none⟩) (Kd.R_types HO_567003.out BK559.out (by decide)) (fun _ hk => hk.2) (.int .i64 t560)) (fun _ hk => hk.2) (.int .i64 t561)) (fun _ hk => hk.2) (.int .i64 t562)) (fun _ hk => hk.2) (.slice Ao71 x567003_2.length co71)) (fun _ hk => trivial), bel_now⟩
      rw [if_pos c42] at H;have c42b0 : decide (x31_2 < t560) = true := decide_eq_true c42;clear c42;have H' := am H;clear H;have hn43 := ne2 NB564_557;have hn44 := ne2 NB564_558;have hn45 := ne2 NB564_559;have hn46 := ne2 NB564_566;have hcz47 := cells3 BK564.out
      go_wp2
      go_loopg [36] k2 (fun kq v36 w' => ∃ (x36_3 : Int) (x567003_3 : List Int) (u567003 : Value), v36 = .int .i64 x36_3 ∧ Aside0 (impl_RunLayer.l1 kq x31_2 t560 x31_2 t561 x36_3 a0_0 a0_1 a0_2 l0_3 a1_0 a1_1 a1_2 a1_3 a1_4 a1_5 a1_6 l1_7 l1_8 t560 t561 t562 t560 t561 t562 x567003_3 = some (r1, r2, r3, r4, r5)) ∧ Aside0 (kq ≤ k2) ∧ Aside0 (Kd.R (Kd.int .i64) 3 w' w.heap.size (fun _ => True) u567003 x567003_3) ∧ Aside0 (w'.heap[gb557]? = some (.cells #[.int .i64 a0_0, .int .i64 a0_1, .int .i64 a0_2, (.slice A0_3 l0_3.length c0_3)] 44 (0, 0))) ∧ Aside0 (w'.heap[gb558]? = some (.cells #[.int .i64 a1_0, .int .i64 a1_1, .int .i64 a1_2, .int .i64 a1_3, .int .i64 a1_4, .int .i64 a1_5, .int .i64 a1_6, (.slice A1_7 l1_7.length c1_7), (.slice A1_8 l1_8.length c1_8)] 46 (0, 0))) ∧ Aside0 (w'.heap[gb559]? = some (.cells #[.int .i64 0, .int .i64 0, .int .i64 0, (.slice none 0 0)] 44 (0, 0))) ∧ Aside0 (w'.heap[gb564]? = some (.cells #[.int .i64 t560, .int .i64 t561, .int .i64 t562] 24 (0, 0))) ∧ Aside0 (w'.heap[gb566]? = some (.cells #[.int .i64 t560, .int .i64 t561, .int .i64 t562, u567003] 44 (0, 0))) ∧ Aside0 (Below w.heap.size w w'))
      case atStart => exact ⟨(0), (x567003_2), (u567003), pv, H', ⟨Nat.le_refl _⟩, ⟨R_at HO_567003.out⟩, ⟨bks BK557⟩, ⟨bks BK558⟩, ⟨bks BK559⟩, ⟨bks BK564⟩, ⟨bks BK566⟩, ⟨bel_now⟩⟩
      case round =>
       clear H';try clear c26
       try clear c42
       try clear c42b0
       try clear hcz10
       try clear hcz12
       try clear hcz18
       try clear hcz34
       try clear hcz40
       try clear hcz41
       try clear hcz47
       obtain ⟨x36_3, x567003_3, u567003, rfl, HA, HK3, HO_567003, BK557, BK558, BK559, BK564, BK566, HB⟩ := hrel
       cases gk with
       | zero => exact absurd HA.out (by simp [impl_RunLayer.l1])
       | succ k3 =>
        have H := HA.out;clear HA;simp only [impl_RunLayer.l1] at H;by_cases c48 : x36_3 < t561;rotate_left
        ·rw [if_neg c48] at H;have c48b0 : decide (x36_3 < t561) = false := decide_eq_false c48;clear c48;have H' := am H;clear H
         go_wp2
         go_roundg k3
         case measure => have := HJ3.out; have := HK2.out; have := HK3.out; omega
         case rel => exact ⟨(wrap64 (x31_2 + 1)), (x567003_3), (u567003), pv, H', ⟨by have := HJ3.out; have := HK2.out; have := HK3.out; omega⟩, ⟨R_at HO_567003.out⟩, ⟨bks BK557⟩, ⟨bks BK558⟩, ⟨bks BK559⟩, ⟨bks BK564⟩, ⟨bks BK566⟩, ⟨bel_now⟩⟩
        rw [if_pos c48] at H;have c48b0 : decide (x36_3 < t561) = true := decide_eq_true c48;clear c48;have H' := am H;clear H;have hn49 := ne2 NB564_557;have hn50 := ne2 NB564_558;have hn51 := ne2 NB564_559;have hn52 := ne2 NB564_566;have hcz53 := cells3 BK564.out
        go_wp2
        go_loopg [41] k3 (fun kq v41 w' => ∃ (x41_4 : Int) (x567003_4 : List Int) (u567003 : Value), v41 = .int .i64 x41_4 ∧ Aside0 (impl_RunLayer.l2 kq x31_2 x36_3 t560 x31_2 t561 x36_3 t562 x41_4 a0_0 a0_1 a0_2 l0_3 a1_0 a1_1 a1_2 a1_3 a1_4 a1_5 a1_6 l1_7 l1_8 t560 t561 t562 t560 t561 t562 x567003_4 = some (r1, r2, r3, r4, r5)) ∧ Aside0 (kq ≤ k3) ∧ Aside0 (Kd.R (Kd.int .i64) 3 w' w.heap.size (fun _ => True) u567003 x567003_4) ∧ Aside0 (w'.heap[gb557]? = some (.cells #[.int .i64 a0_0, .int .i64 a0_1, .int .i64 a0_2, (.slice A0_3 l0_3.length c0_3)] 44 (0, 0))) ∧ Aside0 (w'.heap[gb558]? = some (.cells #[.int .i64 a1_0, .int .i64 a1_1, .int .i64 a1_2, .int .i64 a1_3, .int .i64 a1_4, .int .i64 a1_5, .int .i64 a1_6, (.slice A1_7 l1_7.length c1_7), (.slice A1_8 l1_8.length c1_8)] 46 (0, 0))) ∧ Aside0 (w'.heap[gb559]? = some (.cells #[.int .i64 0, .int .i64 0, .int .i64 0, (.slice none 0 0)] 44 (0, 0))) ∧ Aside0 (w'.heap[gb564]? = some (.cells #[.int .i64 t560, .int .i64 t561, .int .i64 t562] 24 (0, 0))) ∧ Aside0 (w'.heap[gb566]? = some (.cells #[.int .i64 t560, .int .i64 t561, .int .i64 t562, u567003] 44 (0, 0))) ∧ Aside0 (Below w.heap.size w w'))
        case atStart => exact ⟨(0), (x567003_3), (u567003), pv, H', ⟨Nat.le_refl _⟩, ⟨R_at HO_567003.out⟩, ⟨bks BK557⟩, ⟨bks BK558⟩, ⟨bks BK559⟩, ⟨bks BK564⟩, ⟨bks BK566⟩, ⟨bel_now⟩⟩
        case round =>
         clear H';try clear c26
         try clear c42
         try clear c42b0
         try clear c48
         try clear c48b0
         try clear hcz10
         try clear hcz12
         try clear hcz18
         try clear hcz34
         try clear hcz40
         try clear hcz41
         try clear hcz47
         try clear hcz53
         obtain ⟨x41_4, x567003_4, u567003, rfl, HA, HK4, HO_567003, BK557, BK558, BK559, BK564, BK566, HB⟩ := hrel
         cases gk with
         | zero => exact absurd HA.out (by simp [impl_RunLayer.l2])
         | succ k4 =>
          have H := HA.out;clear HA;simp only [impl_RunLayer.l2] at H;by_cases c54 : x41_4 < t562;rotate_left
          ·rw [if_neg c54] at H;have c54b0 : decide (x41_4 < t562) = false := decide_eq_false c54;clear c54;have H' := am H;clear H
           go_wp2
           go_roundg k4
           case measure => have := HJ3.out; have := HK2.out; have := HK3.out; have := HK4.out; omega
           case rel => exact ⟨(wrap64 (x36_3 + 1)), (x567003_4), (u567003), pv, H', ⟨by have := HJ3.out; have := HK2.out; have := HK3.out; have := HK4.out; omega⟩, ⟨R_at HO_567003.out⟩, ⟨bks BK557⟩, ⟨bks BK558⟩, ⟨bks BK559⟩, ⟨bks BK564⟩, ⟨bks BK566⟩, ⟨bel_now⟩⟩
          rw [if_pos c54] at H;have c54b0 : decide (x41_4 < t562) = true := decide_eq_true c54;clear c54;obtain ⟨t567, A55, H⟩ := bnd H;(try dsimp only at H);obtain ⟨c56, H⟩ := gd H;have LMc56 := am c56;clear c56;obtain ⟨y568, hy568⟩ : ∃ y_ : List Int, y_ = (x567003_4 ++ [t567]) := ⟨_, rfl⟩;replace H : (impl_RunLayer.l2 k4 x31_2 x36_3 t560 x31_2 t561 x36_3 t562 (wrap64 (x41_4 + 1)) a0_0 a0_1 a0_2 l0_3 a1_0 a1_1 a1_2 a1_3 a1_4 a1_5 a1_6 l1_7 l1_8 t560 t561 t562 t560 t561 t562 y568) = some (r1, r2, r3, r4, r5) := by first | (rw [hy568]; with_reducible exact H) | (have H2_ := (Option.bind_some _ _).symm.trans H; rw [hy568]; with_reducible exact H2_) | (have H2_ := (Option.bind_some _ _).symm.trans H; with_reducible exact H2_) | with_reducible exact H | (rw [hy568]; exact H) | exact H
          have Ny568 := am hy568;clear hy568;have H' := am H;clear H
          try go_wp2
          replace HO_567003 := am (Kd.R_drew HO_567003.out);replace BK557 := am (blk_drew BK557.out);replace BK558 := am (blk_drew BK558.out);replace BK559 := am (blk_drew BK559.out);replace BK564 := am (blk_drew BK564.out);replace BK566 := am (blk_drew BK566.out);replace HB := am (below_drew1 HB.out)
          refine start_ (n := 12) (S := fun w' => w'.cell? ⟨gb566, 0, none⟩ = some (.int .i64 t560) ∧ w'.cell? ⟨gb566, 1, none⟩ = some (.int .i64 t561) ∧ w'.cell? ⟨gb566, 2, none⟩ = some (.int .i64 t562) ∧ w'.cell? ⟨gb566, 3, none⟩ = some (u567003) ∧ w'.cell? ⟨gb558, 0, none⟩ = some (.int .i64 a1_0) ∧ w'.cell? ⟨gb558, 1, none⟩ = some (.int .i64 a1_1) ∧ w'.cell? ⟨gb558, 2, none⟩ = some (.int .i64 a1_2) ∧ w'.cell? ⟨gb558, 3, none⟩ = some (.int .i64 a1_3) ∧ w'.cell? ⟨gb558, 4, none⟩ = some (.int .i64 a1_4) ∧ w'.cell? ⟨gb558, 5, none⟩ = some (.int .i64 a1_5) ∧ w'.cell? ⟨gb558, 6, none⟩ = some (.int .i64 a1_6) ∧ w'.cell? ⟨gb558, 7, none⟩ = some (.slice A1_7 l1_7.length c1_7) ∧ w'.cell? ⟨gb558, 8, none⟩ = some (.slice A1_8 l1_8.length c1_8) ∧ w'.cell? ⟨gb557, 0, none⟩ = some (.int .i64 a0_0) ∧ w'.cell? ⟨gb557, 1, none⟩ = some (.int .i64 a0_1) ∧ w'.cell? ⟨gb557, 2, none⟩ = some (.int .i64 a0_2) ∧ w'.cell? ⟨gb557, 3, none⟩ = some (.slice A0_3 l0_3.length c0_3)) (ds := [11]) #[O, O, O, O, O, O, O, O, O, O, O, O] (by kernel_rfl) rfl rfl ⟨bc BK566 0, bc BK566 1, bc BK566 2, bc BK566 3, bc BK558 0, bc BK558 1, bc BK558 2, bc BK558 3, bc BK558 4, bc BK558 5, bc BK558 6, bc BK558 7, bc BK558 8, bc BK557 0, bc BK557 1, bc BK557 2, bc BK557 3⟩ (fun hHeld => ?_); refine with_tabW impl_RunLayer.tab14 impl_RunLayer.bits14 (fun HT_ HW_ => ?_)
          generalize wr.drew = w57 at HO_567003 BK557 BK558 BK559 BK564 BK566 HB hHeld ⊢
          refine stepP 0 (some 44) (tk 12 1) (any_of HT_.out (by kernel_rfl)) ?_
          refine stepP 4 (some 48) (tk 12 17) (any_of HT_.out (by kernel_rfl)) ?_
          refine stepP 5 (some 49) (tk 12 49) (any_of HT_.out (by kernel_rfl)) ?_
          refine stepP 6 (some 50) (tk 12 113) (any_of HT_.out (by kernel_rfl)) ?_
          refine stepT 1 (some 45) (tk 12 115) (take_ofW HT_.out HW_.out (by kernel_rfl)) hHeld ?_
          refine stepT 2 (some 46) (tk 12 119) (take_ofW HT_.out HW_.out (by kernel_rfl)) hHeld ?_
          refine stepT 3 (some 47) (tk 12 127) (take_ofW HT_.out HW_.out (by kernel_rfl)) hHeld ?_
          refine one_ (i := 7) (N := some 51) #[I, I, I, I, I, I, I, I, O, O, O, O] rfl rfl (one_of HT_.out (by kernel_rfl)) (by decide) (fun K hK => ?_)
          refine goes_ Try.func50 (by kernel_rfl) rfl #[.agg #[.int .i64 a1_0, .int .i64 a1_1, .int .i64 a1_2, .int .i64 a1_3, .int .i64 a1_4, .int .i64 a1_5, .int .i64 a1_6, .slice A1_7 l1_7.length c1_7, .slice A1_8 l1_8.length c1_8], .agg #[.int .i64 a0_0, .int .i64 a0_1, .int .i64 a0_2, .slice A0_3 l0_3.length c0_3], .int .i64 x31_2, .int .i64 x36_3, .int .i64 x41_4] (by rfl) rfl rfl (by (try simp only [List.map_toArray, List.map_cons, List.map_nil]); first | done | rfl | (simp only [List.length_drop, List.length_take]; rfl)) ?_
          with_reducible refine (impl_Layer_item.calls k4 a1_0 a1_1 a1_2 a1_3 a1_4 a1_5 a1_6 _ _ l1_7 _ _ l1_8 a0_0 a0_1 a0_2 _ _ l0_3 x31_2 x36_3 x41_4 t567 _ ?side1 ?side2 ?side3 ?side4 ?side5 ?side6 A55.out).mono ?_
          (case side1 => exact C_now HR1_7.out)
          (case side2 => exact HC1_7.out)
          (case side3 => exact C_now HR1_8.out)
          (case side4 => exact HC1_8.out)
          (case side5 => exact C_now HR0_3.out)
          (case side6 => exact HC0_3.out)
          rintro e w58 ⟨rfl, hb⟩
          refine ⟨_, rfl, ?_⟩
          replace HO_567003 := am (Kd.R_below (R_at HO_567003.out) hb);replace BK557 := blk_on gb557 hb;replace BK558 := blk_on gb558 hb;replace BK559 := blk_on gb559 hb;replace BK564 := blk_on gb564 hb;replace BK566 := blk_on gb566 hb;replace HB := bel_on w hb;(try clear hb);(try clear hb2);(try clear hb3);(try clear hk);(try clear hi)
          refine hK.out _ _ ⟨bc BK566 0, bc BK566 1, bc BK566 2, bc BK566 3, bc BK558 0, bc BK558 1, bc BK558 2, bc BK558 3, bc BK558 4, bc BK558 5, bc BK558 6, bc BK558 7, bc BK558 8, bc BK557 0, bc BK557 1, bc BK557 2, bc BK557 3⟩ (fun hHeld => ?_)
          clear hK K
          refine normP 51 ?_
          refine one_ (i := 8) (N := some 52) #[I, I, I, I, I, I, I, I, I, O, O, O] rfl rfl (one_of HT_.out (by kernel_rfl)) (by decide) (fun K hK => ?_)
          refine value_ (w1 := ?_) (v := ?_) (by rfl) rfl ?_ ?_
          rotate_left 2
          ·go_simp
           constructor
           ·rfl
           rfl
          refine hK.out _ _ ⟨(blk_cell (blk_alloc BK566.out _) 0).trans rfl, (blk_cell (blk_alloc BK566.out _) 1).trans rfl, (blk_cell (blk_alloc BK566.out _) 2).trans rfl, (blk_cell (blk_alloc BK566.out _) 3).trans rfl, (blk_cell (blk_alloc BK558.out _) 0).trans rfl, (blk_cell (blk_alloc BK558.out _) 1).trans rfl, (blk_cell (blk_alloc BK558.out _) 2).trans rfl, (blk_cell (blk_alloc BK558.out _) 3).trans rfl, (blk_cell (blk_alloc BK558.out _) 4).trans rfl, (blk_cell (blk_alloc BK558.out _) 5).trans rfl, (blk_cell (blk_alloc BK558.out _) 6).trans rfl, (blk_cell (blk_alloc BK558.out _) 7).trans rfl, (blk_cell (blk_alloc BK558.out _) 8).trans rfl, (blk_cell (blk_alloc BK557.out _) 0).trans rfl, (blk_cell (blk_alloc BK557.out _) 1).trans rfl, (blk_cell (blk_alloc BK557.out _) 2).trans rfl, (blk_cell (blk_alloc BK557.out _) 3).trans rfl⟩ (fun hHeld => ?_)
          clear hK K
          refine normP 52 ?_
          refine one_ (i := 9) (N := some 53) #[I, I, I, I, I, I, I, I, I, I, O, O] rfl rfl (one_of HT_.out (by kernel_rfl)) (by decide) (fun K hK => ?_)
          refine Kd.R_append_step (Kd.int .i64) (w0 := w) w.heap.size (by rfl) (.tmp 45) (.tmp 52) 42 3 (.int .i64 0) 8 rfl Try.underlying42 info3 rfl (by decide) (by omega) u567003 x567003_4 t567 [.int .i64 t567] (fun _ => True) (fun _ => False) rfl rfl ?aP (fun _ hk => hk.elim) ?aF ?aO ?aB ?aS ?aL ?_
          (case aP => exact rfl)
          (case aB => exact bel_now)
          (case aF => exact (fun _ _ => trivial))
          (case aO => exact (R_at HO_567003.out))
          (case aS => exact (below_size bel_now))
          (case aL => have := LMc56.out; omega)
          intro v569 w59 ho hb hg hat;rw [← Ny568.out] at ho;have n6_ := am (ho);replace BK557 := am (blk_grown (g := gb557) blk_now hg (Kd.R_ne HO_567003.out BK557.out (by decide)));replace BK558 := am (blk_grown (g := gb558) blk_now hg (Kd.R_ne HO_567003.out BK558.out (by decide)));replace BK559 := am (blk_grown (g := gb559) blk_now hg (Kd.R_ne HO_567003.out BK559.out (by decide)));replace BK564 := am (blk_grown (g := gb564) blk_now hg (Kd.R_ne HO_567003.out BK564.out (by decide)));replace BK566 := am (blk_grown (g := gb566) blk_now hg (Kd.R_ne HO_567003.out BK566.out (by decide)));replace HB := am (hb);clear HO_567003;have HO570 := n6_;clear n6_;clear ho hb hg hat;obtain ⟨Ao60, co60, eo60⟩ := Kd.R_slice HO570.out
          (first | subst eo60 | (injection eo60 with f1_ f2_ f3_; have f4_ := f1_.symm; have f5_ := f3_.symm; clear f1_ f2_ f3_; subst f4_; subst f5_))
          refine hK.out _ _ ⟨bc BK566 0, bc BK566 1, bc BK566 2, bc BK566 3, bc BK558 0, bc BK558 1, bc BK558 2, bc BK558 3, bc BK558 4, bc BK558 5, bc BK558 6, bc BK558 7, bc BK558 8, bc BK557 0, bc BK557 1, bc BK557 2, bc BK557 3⟩ (fun hHeld => ?_)
          clear hK K
          refine normP 53 ?_
          refine stepP 10 (some 54) (tk 12 2047) (any_of HT_.out (by kernel_rfl)) ?_
          refine last_ (i := 11) (N := none) #[I, I, I, I, I, I, I, I, I, I, I, I] rfl rfl (one_of HT_.out (by kernel_rfl)) (by decide) (fun K hK => ?_)
          have hs61 : w59.cell? ⟨gb566, 3, none⟩ = some (u567003) := (blk_cell BK566.out 3).trans rfl;have hfs61 := blk_frozen BK566.out 3;have hns61_0 := NB557_566.out;have hns61_1 := NB558_566.out;have hns61_2 := NB559_566.out;have hns61_3 := NB564_566.out;have hms61_0 := NB566_557.out;have hms61_1 := NB566_558.out;have hms61_2 := NB566_559.out;have hms61_3 := NB566_564.out
          refine skip_ (w1 := ?_) (by rfl) rfl ?_ ?_
          rotate_left
          ·go_simp
           rfl
          refine hK.out _ _ ?_
          clear hK K
          refine done_ (done_of HT_.out (by kernel_rfl)) ?_
          try go_wp2
          go_roundg k4
          case measure => have := HJ3.out; have := HK2.out; have := HK3.out; have := HK4.out; omega
          case rel => exact ⟨(wrap64 (x41_4 + 1)), (y568), (.slice Ao60 y568.length co60), pv, H', ⟨by have := HJ3.out; have := HK2.out; have := HK3.out; have := HK4.out; omega⟩, ⟨by (with_reducible repeat (first | apply Kd.R_alloc | apply Kd.R_drewN | apply Kd.R_drew)); exact Kd.R_mono (Kd.R_far (p := ⟨gb566, 3, none⟩) (Kd.R_types HO570.out BK566.out (by decide)) (fun _ hk => hk.2) (.slice Ao60 y568.length co60)) (fun _ hk => trivial)⟩, ⟨by (with_reducible repeat (first | refine blk_drewN ?_ _ | refine blk_drew ?_ | refine blk_alloc ?_ _)); refine blk_far ?_ NB557_566.out _; (with_reducible repeat (first | refine blk_drewN ?_ _ | refine blk_drew ?_ | refine blk_alloc ?_ _)); exact BK557.out⟩, ⟨by (with_reducible repeat (first | refine blk_drewN ?_ _ | refine blk_drew ?_ | refine blk_alloc ?_ _)); refine blk_far ?_ NB558_566.out _; (with_reducible repeat (first | refine blk_drewN ?_ _ | refine blk_drew ?_ | refine blk_alloc ?_ _)); exact BK558.out⟩, ⟨by (with_reducible repeat (first | refine blk_drewN ?_ _ | refine blk_drew ?_ | refine blk_alloc ?_ _)); refine blk_far ?_ NB559_566.out _; (with_reducible repeat (first | refine blk_drewN ?_ _ | refine blk_drew ?_ | refine blk_alloc ?_ _)); exact BK559.out⟩, ⟨by (with_reducible repeat (first | refine blk_drewN ?_ _ | refine blk_drew ?_ | refine blk_alloc ?_ _)); refine blk_far ?_ NB564_566.out _; (with_reducible repeat (first | refine blk_drewN ?_ _ | refine blk_drew ?_ | refine blk_alloc ?_ _)); exact BK564.out⟩, ⟨by (with_reducible repeat (first | refine blk_drewN ?_ _ | refine blk_drew ?_ | refine blk_alloc ?_ _)); refine blk_put (cs := #[.int .i64 t560, .int .i64 t561, .int .i64 t562, u567003]) ?_ 3 _ rfl; (with_reducible repeat (first | refine blk_drewN ?_ _ | refine blk_drew ?_ | refine blk_alloc ?_ _)); exact BK566.out⟩, ⟨bel_now⟩⟩

end Go.Proofs.Ytjmejobelkllmaa.PFnOneWeight
