import Derived.Test.YtclpojeofclbjaaPFnLayersx0
import Derived.Test.YtclpojeofclbjaaPFnLayersx17
import Derived.Test.YtclpojeofclbjaaPFnLayersx18
import Derived.Test.YtclpojeofclbjaaPFnLayersx21
namespace Go.Proofs.Ytclpojeofclbjaa.PFnLayers
open Go.RowKit Go.Proofs.YtclpojeofclbjaaW.PrintWords Go.Proofs.YtclpojeofclbjaaW.PrintLast Go.Proofs.YtclpojeofclbjaaW.PrintMore
attribute [local go_sem] max2_int min2_int max_two min_two max_three min_three max_four min_four
set_option maxHeartbeats 8000000
set_option maxRecDepth 100000
set_option linter.unusedVariables false
set_option linter.unusedSimpArgs false

mutual
def impl_RunLayer.j0 : Nat → Bool → Int → Int → Int → List Int → Int → Int → Int → Int → Int → Int → Int → List Int → List Int → Int → Int → Int → Option (Int × Int × Int × List Int × Bool)
  | 0, _, _, _, _, _, _, _, _, _, _, _, _, _, _, _, _, _ => none
  | k + 1, x25, x664000, x664001, x664002, x664003, x665000, x665001, x665002, x665003, x665004, x665005, x665006, x665007, x665008, x671000, x671001, x671002 => if x25 = true then (some (0, 0, 0, ([] : List Int), false)) else (impl_RunLayer.l0 k x671000 0 x664000 x664001 x664002 x664003 x665000 x665001 x665002 x665003 x665004 x665005 x665006 x665007 x665008 x671000 x671001 x671002 x671000 x671001 x671002 ([] : List Int))
def impl_RunLayer.l0 : Nat → Int → Int → Int → Int → Int → List Int → Int → Int → Int → Int → Int → Int → Int → List Int → List Int → Int → Int → Int → Int → Int → Int → List Int → Option (Int × Int × Int × List Int × Bool)
  | 0, _, _, _, _, _, _, _, _, _, _, _, _, _, _, _, _, _, _, _, _, _, _ => none
  | k + 1, x30, x31, x664000, x664001, x664002, x664003, x665000, x665001, x665002, x665003, x665004, x665005, x665006, x665007, x665008, x671000, x671001, x671002, x673000, x673001, x673002, x673003 => if x31 < x30 then (impl_RunLayer.l1 k x31 x30 x31 x671001 0 x664000 x664001 x664002 x664003 x665000 x665001 x665002 x665003 x665004 x665005 x665006 x665007 x665008 x671000 x671001 x671002 x673000 x673001 x673002 x673003) else (some (x673000, x673001, x673002, x673003, true))
def impl_RunLayer.l1 : Nat → Int → Int → Int → Int → Int → Int → Int → Int → List Int → Int → Int → Int → Int → Int → Int → Int → List Int → List Int → Int → Int → Int → Int → Int → Int → List Int → Option (Int × Int × Int × List Int × Bool)
  | 0, _, _, _, _, _, _, _, _, _, _, _, _, _, _, _, _, _, _, _, _, _, _, _, _, _ => none
  | k + 1, x9, x30, x31, x35, x36, x664000, x664001, x664002, x664003, x665000, x665001, x665002, x665003, x665004, x665005, x665006, x665007, x665008, x671000, x671001, x671002, x673000, x673001, x673002, x673003 => if x36 < x35 then (impl_RunLayer.l2 k x9 x36 x30 x31 x35 x36 x671002 0 x664000 x664001 x664002 x664003 x665000 x665001 x665002 x665003 x665004 x665005 x665006 x665007 x665008 x671000 x671001 x671002 x673000 x673001 x673002 x673003) else (impl_RunLayer.l0 k x30 (wrap64 (x31 + 1)) x664000 x664001 x664002 x664003 x665000 x665001 x665002 x665003 x665004 x665005 x665006 x665007 x665008 x671000 x671001 x671002 x673000 x673001 x673002 x673003)
def impl_RunLayer.l2 : Nat → Int → Int → Int → Int → Int → Int → Int → Int → Int → Int → Int → List Int → Int → Int → Int → Int → Int → Int → Int → List Int → List Int → Int → Int → Int → Int → Int → Int → List Int → Option (Int × Int × Int × List Int × Bool)
  | 0, _, _, _, _, _, _, _, _, _, _, _, _, _, _, _, _, _, _, _, _, _, _, _, _, _, _, _, _ => none
  | k + 1, x9, x10, x30, x31, x35, x36, x40, x41, x664000, x664001, x664002, x664003, x665000, x665001, x665002, x665003, x665004, x665005, x665006, x665007, x665008, x671000, x671001, x671002, x673000, x673001, x673002, x673003 => if x41 < x40 then ((impl_Layer_item.f k x665000 x665001 x665002 x665003 x665004 x665005 x665006 x665007 x665008 x664000 x664001 x664002 x664003 x9 x10 x41).bind fun t673 => (if x673003.length < 17592186044416 then (impl_RunLayer.l2 k x9 x10 x30 x31 x35 x36 x40 (wrap64 (x41 + 1)) x664000 x664001 x664002 x664003 x665000 x665001 x665002 x665003 x665004 x665005 x665006 x665007 x665008 x671000 x671001 x671002 x673000 x673001 x673002 (x673003 ++ [t673])) else (none))) else (impl_RunLayer.l1 k x9 x30 x31 x35 (wrap64 (x36 + 1)) x664000 x664001 x664002 x664003 x665000 x665001 x665002 x665003 x665004 x665005 x665006 x665007 x665008 x671000 x671001 x671002 x673000 x673001 x673002 x673003)
end
def impl_RunLayer.f (k : Nat) (a0_0 : Int) (a0_1 : Int) (a0_2 : Int) (l0_3 : List Int) (a1_0 : Int) (a1_1 : Int) (a1_2 : Int) (a1_3 : Int) (a1_4 : Int) (a1_5 : Int) (a1_6 : Int) (l1_7 : List Int) (l1_8 : List Int) : Option (Int × Int × Int × List Int × Bool) := (impl_OutShape.f k a0_0 a0_1 a0_2 a1_0 a1_1 a1_2 a1_3 a1_4 a1_5 a1_6 l1_7 l1_8).bind fun bt666 => (if bt666.2.2.2 = true then ((impl_TensorOk.f k a0_0 a0_1 a0_2 l0_3).bind fun t671 => (impl_RunLayer.j0 k (!t671) a0_0 a0_1 a0_2 l0_3 a1_0 a1_1 a1_2 a1_3 a1_4 a1_5 a1_6 l1_7 l1_8 bt666.1 bt666.2.1 bt666.2.2.1)) else (impl_RunLayer.j0 k true a0_0 a0_1 a0_2 l0_3 a1_0 a1_1 a1_2 a1_3 a1_4 a1_5 a1_6 l1_7 l1_8 bt666.1 bt666.2.1 bt666.2.2.1))
def impl_RunLayer.T14 : Bool × List (List Nat × List Nat) := (true, [([], []), ([0], [0]), ([], []), ([], []), ([], []), ([], []), ([], []), ([2, 3, 4, 5, 6], [2, 3, 4, 5, 6]), ([7], [7]), ([1, 8, 7], [1, 8]), ([0, 1, 2, 3, 4, 5, 6, 7, 8, 9], []), ([10, 9, 9, 0, 1, 2, 3, 4, 5, 6, 7, 8, 9], [9, 10])])
def impl_RunLayer.B14 : List Nat := [0, 1, 0, 0, 0, 0, 0, 124, 252, 511, 1023, 2047]
theorem impl_RunLayer.tab14 : rtab .any (opsOf Try.f13 14) = impl_RunLayer.T14 := by kernel_rfl
theorem impl_RunLayer.bits14 : waitsOk impl_RunLayer.T14.2 impl_RunLayer.B14 = true := by kernel_rfl
theorem impl_RunLayer.calls (k : Nat) (a0_0 : Int) (a0_1 : Int) (a0_2 : Int) (A0_3 : Option Addr) (c0_3 : Nat) (l0_3 : List Int) (a1_0 : Int) (a1_1 : Int) (a1_2 : Int) (a1_3 : Int) (a1_4 : Int) (a1_5 : Int) (a1_6 : Int) (A1_7 : Option Addr) (c1_7 : Nat) (l1_7 : List Int) (A1_8 : Option Addr) (c1_8 : Nat) (l1_8 : List Int) (r1 : Int) (r2 : Int) (r3 : Int) (r4 : List Int) (r5 : Bool) (w : World) (hr0_3 : Kd.C (Kd.int .i64) w A0_3 l0_3.length l0_3) (hc0_3 : l0_3.length ≤ c0_3) (hr1_7 : Kd.C (Kd.int .i64) w A1_7 l1_7.length l1_7) (hc1_7 : l1_7.length ≤ c1_7) (hr1_8 : Kd.C (Kd.int .i64) w A1_8 l1_8.length l1_8) (hc1_8 : l1_8.length ≤ c1_8) (h : impl_RunLayer.f k a0_0 a0_1 a0_2 l0_3 a1_0 a1_1 a1_2 a1_3 a1_4 a1_5 a1_6 l1_7 l1_8 = some (r1, r2, r3, r4, r5)) :
   Calls Try.prog 13 #[.agg #[.int .i64 a0_0, .int .i64 a0_1, .int .i64 a0_2, .slice A0_3 l0_3.length c0_3], .agg #[.int .i64 a1_0, .int .i64 a1_1, .int .i64 a1_2, .int .i64 a1_3, .int .i64 a1_4, .int .i64 a1_5, .int .i64 a1_6, .slice A1_7 l1_7.length c1_7, .slice A1_8 l1_8.length c1_8]] w fun e w' => ∃ v3_ : Value, e = .returned (.tuple #[.agg #[.int .i64 r1, .int .i64 r2, .int .i64 r3, v3_], .bool r5]) ∧ Kd.R (Kd.int .i64) 3 w' w.heap.size (fun _ => True) v3_ r4 ∧ Below w.heap.size w w' := by
  have hu33 := Try.underlying33;have hu37 := Try.underlying37;have hu31 := Try.underlying31;have HR0_3 := am hr0_3;have HC0_3 := am hc0_3;clear hr0_3 hc0_3;have HR1_7 := am hr1_7;have HC1_7 := am hc1_7;clear hr1_7 hc1_7;have HR1_8 := am hr1_8;have HC1_8 := am hc1_8;clear hr1_8 hc1_8;have HB := am (Below.refl w.heap.size w);have H : ((impl_OutShape.f k a0_0 a0_1 a0_2 a1_0 a1_1 a1_2 a1_3 a1_4 a1_5 a1_6 l1_7 l1_8).bind fun bt666 => (if bt666.2.2.2 = true then ((impl_TensorOk.f k a0_0 a0_1 a0_2 l0_3).bind fun t671 => (impl_RunLayer.j0 k (!t671) a0_0 a0_1 a0_2 l0_3 a1_0 a1_1 a1_2 a1_3 a1_4 a1_5 a1_6 l1_7 l1_8 bt666.1 bt666.2.1 bt666.2.2.1)) else (impl_RunLayer.j0 k true a0_0 a0_1 a0_2 l0_3 a1_0 a1_1 a1_2 a1_3 a1_4 a1_5 a1_6 l1_7 l1_8 bt666.1 bt666.2.1 bt666.2.2.1))) = some (r1, r2, r3, r4, r5) := h;clear h;replace H := Option.bind_eq_some_iff.mp H;obtain ⟨⟨t666, t667, t668, t669⟩, A30, H⟩ := H;(try dsimp only at H);have A3 := am A30;clear A30;have HC4 := am H;clear H
  go_enter Try.func13, Try.ntmps13
  go_upto_region 2 with (first | ((with_reducible refine gate_dst (N := 2) rfl ?_); refine boxM 2 #[.int .i64 a0_0, .int .i64 a0_1, .int .i64 a0_2, .slice A0_3 l0_3.length c0_3] 33 ?_; intro gb663 hg w5 BK663 hb; obtain ⟨HB, GW663, GE663⟩ := box_at w hb hg; clear hb hg) | ((with_reducible refine gate_dst (N := 3) rfl ?_); refine boxM 3 #[.int .i64 a1_0, .int .i64 a1_1, .int .i64 a1_2, .int .i64 a1_3, .int .i64 a1_4, .int .i64 a1_5, .int .i64 a1_6, .slice A1_7 l1_7.length c1_7, .slice A1_8 l1_8.length c1_8] 37 ?_; intro gb664 hg w6 BK664 hb; obtain ⟨HB, GW664, GE664⟩ := box_at w hb hg; obtain ⟨BK663, NB663_664, NB664_663⟩ := box_on gb663 hb hg; clear hb hg) | ((with_reducible refine gate_dst (N := 4) rfl ?_); refine boxM 4 #[.int .i64 0, .int .i64 0, .int .i64 0, .slice none 0 0] 33 ?_; intro gb665 hg w7 BK665 hb; obtain ⟨HB, GW665, GE665⟩ := box_at w hb hg; obtain ⟨BK663, NB663_665, NB665_663⟩ := box_on gb663 hb hg; obtain ⟨BK664, NB664_665, NB665_664⟩ := box_on gb664 hb hg; clear hb hg; have hn8 := ne2 NB663_664; have hn9 := ne2 NB663_665; have hcz10 := cells4 BK663.out; have hn11 := ne2 NB664_665; have hcz12 := cells9 BK664.out) | ((with_reducible refine gate_callee (f := 30) rfl ?_); refine gM 16 Try.func30 #[.agg #[.int .i64 a0_0, .int .i64 a0_1, .int .i64 a0_2], .agg #[.int .i64 a1_0, .int .i64 a1_1, .int .i64 a1_2, .int .i64 a1_3, .int .i64 a1_4, .int .i64 a1_5, .int .i64 a1_6, .slice A1_7 l1_7.length c1_7, .slice A1_8 l1_8.length c1_8]] rfl ?_; (with_reducible refine (impl_OutShape.calls k a0_0 a0_1 a0_2 a1_0 a1_1 a1_2 a1_3 a1_4 a1_5 a1_6 _ _ l1_7 _ _ l1_8 t666 t667 t668 t669 _ ?side1 HC1_7.out ?side3 HC1_8.out A3.out).mono ?_); (case side1 => exact C_now HR1_7.out); (case side3 => exact C_now HR1_8.out); rintro e w13 ⟨rfl, hb⟩; refine ⟨_, rfl, ?_⟩; replace HB := bel_on w hb; replace BK663 := blk_on gb663 hb; replace BK664 := blk_on gb664 hb; replace BK665 := blk_on gb665 hb; (try clear hb)) | ((with_reducible refine gate_dst (N := 6) rfl ?_); refine boxM 6 #[.int .i64 0, .int .i64 0, .int .i64 0] 31 ?_; intro gb670 hg w14 BK670 hb; obtain ⟨HB, GW670, GE670⟩ := box_at w hb hg; obtain ⟨BK663, NB663_670, NB670_663⟩ := box_on gb663 hb hg; obtain ⟨BK664, NB664_670, NB670_664⟩ := box_on gb664 hb hg; obtain ⟨BK665, NB665_670, NB670_665⟩ := box_on gb665 hb hg; clear hb hg; have hn15 := ne2 NB670_663; have hn16 := ne2 NB670_664; have hn17 := ne2 NB670_665; have hcz18 := cells3 BK670.out))
  (try simp only [Act.put, zA, zB, zC])
  go_cut [25] (fun v25 wc => ∃ (kq : Nat) (x25_3 : Bool), v25 = .bool x25_3 ∧ Aside0 (impl_RunLayer.j0 kq x25_3 a0_0 a0_1 a0_2 l0_3 a1_0 a1_1 a1_2 a1_3 a1_4 a1_5 a1_6 l1_7 l1_8 t666 t667 t668 = some (r1, r2, r3, r4, r5)) ∧ Aside0 (kq ≤ k) ∧ Aside0 (wc.heap[gb663]? = some (.cells #[.int .i64 a0_0, .int .i64 a0_1, .int .i64 a0_2, (.slice A0_3 l0_3.length c0_3)] 33 (0, 0))) ∧ Aside0 (wc.heap[gb664]? = some (.cells #[.int .i64 a1_0, .int .i64 a1_1, .int .i64 a1_2, .int .i64 a1_3, .int .i64 a1_4, .int .i64 a1_5, .int .i64 a1_6, (.slice A1_7 l1_7.length c1_7), (.slice A1_8 l1_8.length c1_8)] 37 (0, 0))) ∧ Aside0 (wc.heap[gb665]? = some (.cells #[.int .i64 0, .int .i64 0, .int .i64 0, (.slice none 0 0)] 33 (0, 0))) ∧ Aside0 (wc.heap[gb670]? = some (.cells #[.int .i64 t666, .int .i64 t667, .int .i64 t668] 31 (0, 0))) ∧ Aside0 (Below w.heap.size w wc))
  case first =>
   have H := HC4.out;clear HC4;by_cases c19 : t669 = true
   ·subst c19;rw [if_pos rfl] at H;obtain ⟨t671, A20, H⟩ := bnd H;(try dsimp only at H);have H' := am H;clear H;have hn21 := ne2 NB663_664;have hn22 := ne2 NB663_665;have hn23 := ne2 NB663_670;have hcz24 := cells4 BK663.out
    go_wp2_with (first | (go_at_call 52; (with_reducible refine (impl_TensorOk.calls k a0_0 a0_1 a0_2 _ _ l0_3 t671 _ ?side1 HC0_3.out A20.out).mono ?_); (case side1 => exact C_now HR0_3.out); rintro e w25 ⟨rfl, hb⟩; replace HB := bel_on w hb; replace BK663 := blk_onP gb663 hb; replace BK664 := blk_onP gb664 hb; replace BK665 := blk_onP gb665 hb; replace BK670 := blk_onP gb670 hb; (try clear hb)))
    go_meet
    case rel => exact ⟨_, (!t671), pv, H', ⟨by first | omega | exact Nat.le_refl _⟩, ⟨bks BK663⟩, ⟨bks BK664⟩, ⟨bks BK665⟩, ⟨bks BK670⟩, ⟨bel_now⟩⟩
   replace c19 := Bool.eq_false_iff.mpr c19;subst c19
   rw [if_neg (show ¬ (false = true) by decide)] at H
   have H' := am H;clear H
   go_wp2
   go_meet
   case rel => exact ⟨_, (true), pv, H', ⟨by first | omega | exact Nat.le_refl _⟩, ⟨blkN⟩, ⟨blkN⟩, ⟨blkN⟩, ⟨blkN⟩, ⟨bel_now⟩⟩
  case rest =>
   clear HC4;try clear hcz10
   try clear hcz12
   try clear hcz18
   obtain ⟨kq, x25_3, rfl, HA, HJ3, BK663, BK664, BK665, BK670, HB⟩ := hcut
   cases kq with
   | zero => exact absurd HA.out (by simp [impl_RunLayer.j0])
   | succ kj3 =>
    have H := HA.out;clear HA;simp only [impl_RunLayer.j0] at H;by_cases c26 : x25_3 = true
    ·subst c26;rw [if_pos rfl] at H;simp only [Option.some.injEq, Prod.mk.injEq] at H;obtain ⟨rfl, rfl, rfl, rfl, rfl⟩ := H;have hn27 := ne2 NB665_663;have hn28 := ne2 NB665_664;have hn29 := ne2 NB665_670;have hcz30 := cells4 BK665.out
     go_wp2
     refine bodyPost_ret (results_ct rfl _ _ gb665 33 #[.int .i64 0, .int .i64 0, .int .i64 0, .slice none 0 0] (0, 0) _ rfl (blk_fars (puts4 BK665.out)) Try.underlying33 rfl (by kernel_rfl)) rfl ?_
     exact ⟨_, eqN, by first | exact Kd.R_nil _ _ _ _ _ | exact Kd.N_nil _ _ _ _ _ | exact Kd.V_nil _ _ _ _ _ | exact Kd.Q_nil _ _ _ _ _ | exact Kd.S_nil _ _ _ _ _, bel_now⟩
    replace c26 := Bool.eq_false_iff.mpr c26;subst c26
    rw [if_neg (show ¬ (false = true) by decide)] at H
    have H' := am H;clear H;have hn31 := ne2 NB670_663;have hn32 := ne2 NB670_664;have hn33 := ne2 NB670_665;have hcz34 := cells3 BK670.out
    go_wp2_with (first | ((with_reducible refine gate_dst (N := 8) rfl ?_); refine boxM 8 #[.int .i64 0, .int .i64 0, .int .i64 0, .slice none 0 0] 33 ?_; intro gb672 hg w35 BK672 hb; obtain ⟨HB, GW672, GE672⟩ := box_at w hb hg; obtain ⟨BK663, NB663_672, NB672_663⟩ := box_on gb663 hb hg; obtain ⟨BK664, NB664_672, NB672_664⟩ := box_on gb664 hb hg; obtain ⟨BK665, NB665_672, NB672_665⟩ := box_on gb665 hb hg; obtain ⟨BK670, NB670_672, NB672_670⟩ := box_on gb670 hb hg; clear hb hg; have hn36 := ne2 NB672_663; have hn37 := ne2 NB672_664; have hn38 := ne2 NB672_665; have hn39 := ne2 NB672_670; have hcz40 := cells4 BK672.out; have hcz41 := cells3 BK670.out))
    go_loopg [31] kj3 (fun kq v31 w' => ∃ (x31_2 : Int) (x673003_2 : List Int) (u673003 : Value), v31 = .int .i64 x31_2 ∧ Aside0 (impl_RunLayer.l0 kq t666 x31_2 a0_0 a0_1 a0_2 l0_3 a1_0 a1_1 a1_2 a1_3 a1_4 a1_5 a1_6 l1_7 l1_8 t666 t667 t668 t666 t667 t668 x673003_2 = some (r1, r2, r3, r4, r5)) ∧ Aside0 (kq ≤ kj3) ∧ Aside0 (Kd.R (Kd.int .i64) 3 w' w.heap.size (fun _ => True) u673003 x673003_2) ∧ Aside0 (w'.heap[gb663]? = some (.cells #[.int .i64 a0_0, .int .i64 a0_1, .int .i64 a0_2, (.slice A0_3 l0_3.length c0_3)] 33 (0, 0))) ∧ Aside0 (w'.heap[gb664]? = some (.cells #[.int .i64 a1_0, .int .i64 a1_1, .int .i64 a1_2, .int .i64 a1_3, .int .i64 a1_4, .int .i64 a1_5, .int .i64 a1_6, (.slice A1_7 l1_7.length c1_7), (.slice A1_8 l1_8.length c1_8)] 37 (0, 0))) ∧ Aside0 (w'.heap[gb665]? = some (.cells #[.int .i64 0, .int .i64 0, .int .i64 0, (.slice none 0 0)] 33 (0, 0))) ∧ Aside0 (w'.heap[gb670]? = some (.cells #[.int .i64 t666, .int .i64 t667, .int .i64 t668] 31 (0, 0))) ∧ Aside0 (w'.heap[gb672]? = some (.cells #[.int .i64 t666, .int .i64 t667, .int .i64 t668, u673003] 33 (0, 0))) ∧ Aside0 (Below w.heap.size w w'))
    case atStart => exact ⟨(0), (([] : List Int)), (.slice none 0 0), pv, H', ⟨Nat.le_refl _⟩, ⟨by first | exact Kd.R_nil _ _ _ _ _ | exact Kd.N_nil _ _ _ _ _ | exact Kd.V_nil _ _ _ _ _ | exact Kd.Q_nil _ _ _ _ _ | exact Kd.S_nil _ _ _ _ _⟩, ⟨blkN⟩, ⟨blkN⟩, ⟨blkN⟩, ⟨blkN⟩, ⟨blkN⟩, ⟨bel_now⟩⟩
    case round =>
     clear H';try clear c26
     try clear hcz10
     try clear hcz12
     try clear hcz18
     try clear hcz34
     try clear hcz40
     try clear hcz41
     obtain ⟨x31_2, x673003_2, u673003, rfl, HA, HK2, HO_673003, BK663, BK664, BK665, BK670, BK672, HB⟩ := hrel
     cases gk with
     | zero => exact absurd HA.out (by simp [impl_RunLayer.l0])
     | succ k2 =>
      have H := HA.out;clear HA;simp only [impl_RunLayer.l0] at H;by_cases c42 : x31_2 < t666;rotate_left
      ·rw [if_neg c42] at H;have c42b0 : decide (x31_2 < t666) = false := decide_eq_false c42;clear c42;simp only [Option.some.injEq, Prod.mk.injEq] at H;obtain ⟨rfl, rfl, rfl, rfl, rfl⟩ := H;have hn62 := ne2 NB672_663;have hn63 := ne2 NB672_664;have hn64 := ne2 NB672_665;have hn65 := ne2 NB672_670;have hcz66 := cells4 BK672.out;have hn67 := ne2 NB665_663;have hn68 := ne2 NB665_664;have hn69 := ne2 NB665_670;have hcz70 := cells4 BK665.out;obtain ⟨Ao71, co71, eo71⟩ := Kd.R_slice HO_673003.out;subst eo71
       go_wp2
       refine bodyPost_ret (results_ct rfl _ _ gb665 33 #[.int .i64 t666, .int .i64 t667, .int .i64 t668, .slice Ao71 x673003_2.length co71] (0, 0) _ rfl (blk_fars (puts4 BK665.out)) Try.underlying33 rfl (by kernel_rfl)) rfl ?_
       exact ⟨_, eqN, Kd.R_mono (R_atF HO_673003.out) (fun _ hk => trivial), bel_now⟩
      rw [if_pos c42] at H;have c42b0 : decide (x31_2 < t666) = true := decide_eq_true c42;clear c42;have H' := am H;clear H;have hn43 := ne2 NB670_663;have hn44 := ne2 NB670_664;have hn45 := ne2 NB670_665;have hn46 := ne2 NB670_672;have hcz47 := cells3 BK670.out
      go_wp2
      go_loopg [36] k2 (fun kq v36 w' => ∃ (x36_3 : Int) (x673003_3 : List Int) (u673003 : Value), v36 = .int .i64 x36_3 ∧ Aside0 (impl_RunLayer.l1 kq x31_2 t666 x31_2 t667 x36_3 a0_0 a0_1 a0_2 l0_3 a1_0 a1_1 a1_2 a1_3 a1_4 a1_5 a1_6 l1_7 l1_8 t666 t667 t668 t666 t667 t668 x673003_3 = some (r1, r2, r3, r4, r5)) ∧ Aside0 (kq ≤ k2) ∧ Aside0 (Kd.R (Kd.int .i64) 3 w' w.heap.size (fun _ => True) u673003 x673003_3) ∧ Aside0 (w'.heap[gb663]? = some (.cells #[.int .i64 a0_0, .int .i64 a0_1, .int .i64 a0_2, (.slice A0_3 l0_3.length c0_3)] 33 (0, 0))) ∧ Aside0 (w'.heap[gb664]? = some (.cells #[.int .i64 a1_0, .int .i64 a1_1, .int .i64 a1_2, .int .i64 a1_3, .int .i64 a1_4, .int .i64 a1_5, .int .i64 a1_6, (.slice A1_7 l1_7.length c1_7), (.slice A1_8 l1_8.length c1_8)] 37 (0, 0))) ∧ Aside0 (w'.heap[gb665]? = some (.cells #[.int .i64 0, .int .i64 0, .int .i64 0, (.slice none 0 0)] 33 (0, 0))) ∧ Aside0 (w'.heap[gb670]? = some (.cells #[.int .i64 t666, .int .i64 t667, .int .i64 t668] 31 (0, 0))) ∧ Aside0 (w'.heap[gb672]? = some (.cells #[.int .i64 t666, .int .i64 t667, .int .i64 t668, u673003] 33 (0, 0))) ∧ Aside0 (Below w.heap.size w w'))
      case atStart => exact ⟨(0), (x673003_2), (u673003), pv, H', ⟨Nat.le_refl _⟩, ⟨R_at HO_673003.out⟩, ⟨bks BK663⟩, ⟨bks BK664⟩, ⟨bks BK665⟩, ⟨bks BK670⟩, ⟨bks BK672⟩, ⟨bel_now⟩⟩
      case round =>
       clear H';try clear c26
       try clear c42
       try clear c42b0
       try clear hcz10
       try clear hcz12
       try clear hcz18
       try clear hcz34
       try clear hcz40
       try clear hcz41
       try clear hcz47
       obtain ⟨x36_3, x673003_3, u673003, rfl, HA, HK3, HO_673003, BK663, BK664, BK665, BK670, BK672, HB⟩ := hrel
       cases gk with
       | zero => exact absurd HA.out (by simp [impl_RunLayer.l1])
       | succ k3 =>
        have H := HA.out;clear HA;simp only [impl_RunLayer.l1] at H;by_cases c48 : x36_3 < t667;rotate_left
        ·rw [if_neg c48] at H;have c48b0 : decide (x36_3 < t667) = false := decide_eq_false c48;clear c48;have H' := am H;clear H
         go_wp2
         go_roundg k3
         case measure => have := HJ3.out; have := HK2.out; have := HK3.out; omega
         case rel => exact ⟨(wrap64 (x31_2 + 1)), (x673003_3), (u673003), pv, H', ⟨by have := HJ3.out; have := HK2.out; have := HK3.out; omega⟩, ⟨R_at HO_673003.out⟩, ⟨bks BK663⟩, ⟨bks BK664⟩, ⟨bks BK665⟩, ⟨bks BK670⟩, ⟨bks BK672⟩, ⟨bel_now⟩⟩
        rw [if_pos c48] at H;have c48b0 : decide (x36_3 < t667) = true := decide_eq_true c48;clear c48;have H' := am H;clear H;have hn49 := ne2 NB670_663;have hn50 := ne2 NB670_664;have hn51 := ne2 NB670_665;have hn52 := ne2 NB670_672;have hcz53 := cells3 BK670.out
        go_wp2
        go_loopg [41] k3 (fun kq v41 w' => ∃ (x41_4 : Int) (x673003_4 : List Int) (u673003 : Value), v41 = .int .i64 x41_4 ∧ Aside0 (impl_RunLayer.l2 kq x31_2 x36_3 t666 x31_2 t667 x36_3 t668 x41_4 a0_0 a0_1 a0_2 l0_3 a1_0 a1_1 a1_2 a1_3 a1_4 a1_5 a1_6 l1_7 l1_8 t666 t667 t668 t666 t667 t668 x673003_4 = some (r1, r2, r3, r4, r5)) ∧ Aside0 (kq ≤ k3) ∧ Aside0 (Kd.R (Kd.int .i64) 3 w' w.heap.size (fun _ => True) u673003 x673003_4) ∧ Aside0 (w'.heap[gb663]? = some (.cells #[.int .i64 a0_0, .int .i64 a0_1, .int .i64 a0_2, (.slice A0_3 l0_3.length c0_3)] 33 (0, 0))) ∧ Aside0 (w'.heap[gb664]? = some (.cells #[.int .i64 a1_0, .int .i64 a1_1, .int .i64 a1_2, .int .i64 a1_3, .int .i64 a1_4, .int .i64 a1_5, .int .i64 a1_6, (.slice A1_7 l1_7.length c1_7), (.slice A1_8 l1_8.length c1_8)] 37 (0, 0))) ∧ Aside0 (w'.heap[gb665]? = some (.cells #[.int .i64 0, .int .i64 0, .int .i64 0, (.slice none 0 0)] 33 (0, 0))) ∧ Aside0 (w'.heap[gb670]? = some (.cells #[.int .i64 t666, .int .i64 t667, .int .i64 t668] 31 (0, 0))) ∧ Aside0 (w'.heap[gb672]? = some (.cells #[.int .i64 t666, .int .i64 t667, .int .i64 t668, u673003] 33 (0, 0))) ∧ Aside0 (Below w.heap.size w w'))
        case atStart => exact ⟨(0), (x673003_3), (u673003), pv, H', ⟨Nat.le_refl _⟩, ⟨R_at HO_673003.out⟩, ⟨bks BK663⟩, ⟨bks BK664⟩, ⟨bks BK665⟩, ⟨bks BK670⟩, ⟨bks BK672⟩, ⟨bel_now⟩⟩
        case round =>
         clear H';try clear c26
         try clear c42
         try clear c42b0
         try clear c48
         try clear c48b0
         try clear hcz10
         try clear hcz12
         try clear hcz18
         try clear hcz34
         try clear hcz40
         try clear hcz41
         try clear hcz47
         try clear hcz53
         obtain ⟨x41_4, x673003_4, u673003, rfl, HA, HK4, HO_673003, BK663, BK664, BK665, BK670, BK672, HB⟩ := hrel
         cases gk with
         | zero => exact absurd HA.out (by simp [impl_RunLayer.l2])
         | succ k4 =>
          have H := HA.out;clear HA;simp only [impl_RunLayer.l2] at H;by_cases c54 : x41_4 < t668;rotate_left
          ·rw [if_neg c54] at H;have c54b0 : decide (x41_4 < t668) = false := decide_eq_false c54;clear c54;have H' := am H;clear H
           go_wp2
           go_roundg k4
           case measure => have := HJ3.out; have := HK2.out; have := HK3.out; have := HK4.out; omega
           case rel => exact ⟨(wrap64 (x36_3 + 1)), (x673003_4), (u673003), pv, H', ⟨by have := HJ3.out; have := HK2.out; have := HK3.out; have := HK4.out; omega⟩, ⟨R_at HO_673003.out⟩, ⟨bks BK663⟩, ⟨bks BK664⟩, ⟨bks BK665⟩, ⟨bks BK670⟩, ⟨bks BK672⟩, ⟨bel_now⟩⟩
          rw [if_pos c54] at H;have c54b0 : decide (x41_4 < t668) = true := decide_eq_true c54;clear c54;obtain ⟨t673, A55, H⟩ := bnd H;(try dsimp only at H);obtain ⟨c56, H⟩ := gd H;have LMc56 := am c56;clear c56;obtain ⟨y674, hy674⟩ : ∃ y_ : List Int, y_ = (x673003_4 ++ [t673]) := ⟨_, rfl⟩;replace H : (impl_RunLayer.l2 k4 x31_2 x36_3 t666 x31_2 t667 x36_3 t668 (wrap64 (x41_4 + 1)) a0_0 a0_1 a0_2 l0_3 a1_0 a1_1 a1_2 a1_3 a1_4 a1_5 a1_6 l1_7 l1_8 t666 t667 t668 t666 t667 t668 y674) = some (r1, r2, r3, r4, r5) := by first | (rw [hy674]; with_reducible exact H) | (have H2_ := (Option.bind_some _ _).symm.trans H; rw [hy674]; with_reducible exact H2_) | (have H2_ := (Option.bind_some _ _).symm.trans H; with_reducible exact H2_) | with_reducible exact H | (rw [hy674]; exact H) | exact H
          have Ny674 := am hy674;clear hy674;have H' := am H;clear H
          try go_wp2
          replace HO_673003 := am (Kd.R_drew HO_673003.out);replace BK663 := am (blk_drew BK663.out);replace BK664 := am (blk_drew BK664.out);replace BK665 := am (blk_drew BK665.out);replace BK670 := am (blk_drew BK670.out);replace BK672 := am (blk_drew BK672.out);replace HB := am (below_drew1 HB.out)
          refine start_ (n := 12) (S := fun w' => w'.cell? ⟨gb672, 0, none⟩ = some (.int .i64 t666) ∧ w'.cell? ⟨gb672, 1, none⟩ = some (.int .i64 t667) ∧ w'.cell? ⟨gb672, 2, none⟩ = some (.int .i64 t668) ∧ w'.cell? ⟨gb672, 3, none⟩ = some (u673003) ∧ w'.cell? ⟨gb664, 0, none⟩ = some (.int .i64 a1_0) ∧ w'.cell? ⟨gb664, 1, none⟩ = some (.int .i64 a1_1) ∧ w'.cell? ⟨gb664, 2, none⟩ = some (.int .i64 a1_2) ∧ w'.cell? ⟨gb664, 3, none⟩ = some (.int .i64 a1_3) ∧ w'.cell? ⟨gb664, 4, none⟩ = some (.int .i64 a1_4) ∧ w'.cell? ⟨gb664, 5, none⟩ = some (.int .i64 a1_5) ∧ w'.cell? ⟨gb664, 6, none⟩ = some (.int .i64 a1_6) ∧ w'.cell? ⟨gb664, 7, none⟩ = some (.slice A1_7 l1_7.length c1_7) ∧ w'.cell? ⟨gb664, 8, none⟩ = some (.slice A1_8 l1_8.length c1_8) ∧ w'.cell? ⟨gb663, 0, none⟩ = some (.int .i64 a0_0) ∧ w'.cell? ⟨gb663, 1, none⟩ = some (.int .i64 a0_1) ∧ w'.cell? ⟨gb663, 2, none⟩ = some (.int .i64 a0_2) ∧ w'.cell? ⟨gb663, 3, none⟩ = some (.slice A0_3 l0_3.length c0_3)) (ds := [11]) #[O, O, O, O, O, O, O, O, O, O, O, O] (by kernel_rfl) rfl rfl ⟨bc BK672 0, bc BK672 1, bc BK672 2, bc BK672 3, bc BK664 0, bc BK664 1, bc BK664 2, bc BK664 3, bc BK664 4, bc BK664 5, bc BK664 6, bc BK664 7, bc BK664 8, bc BK663 0, bc BK663 1, bc BK663 2, bc BK663 3⟩ (fun hHeld => ?_); refine with_tabW impl_RunLayer.tab14 impl_RunLayer.bits14 (fun HT_ HW_ => ?_)
          generalize wr.drew = w57 at HO_673003 BK663 BK664 BK665 BK670 BK672 HB hHeld ⊢
          refine stepP 0 (some 44) (tk 12 1) (any_of HT_.out (by kernel_rfl)) ?_
          refine stepP 4 (some 48) (tk 12 17) (any_of HT_.out (by kernel_rfl)) ?_
          refine stepP 5 (some 49) (tk 12 49) (any_of HT_.out (by kernel_rfl)) ?_
          refine stepP 6 (some 50) (tk 12 113) (any_of HT_.out (by kernel_rfl)) ?_
          refine stepT 1 (some 45) (tk 12 115) (take_ofW HT_.out HW_.out (by kernel_rfl)) hHeld ?_
          refine stepT 2 (some 46) (tk 12 119) (take_ofW HT_.out HW_.out (by kernel_rfl)) hHeld ?_
          refine stepT 3 (some 47) (tk 12 127) (take_ofW HT_.out HW_.out (by kernel_rfl)) hHeld ?_
          refine one_ (i := 7) (N := some 51) #[I, I, I, I, I, I, I, I, O, O, O, O] rfl rfl (one_of HT_.out (by kernel_rfl)) (by decide) (fun K hK => ?_)
          refine goes_ Try.func53 (by kernel_rfl) rfl #[.agg #[.int .i64 a1_0, .int .i64 a1_1, .int .i64 a1_2, .int .i64 a1_3, .int .i64 a1_4, .int .i64 a1_5, .int .i64 a1_6, .slice A1_7 l1_7.length c1_7, .slice A1_8 l1_8.length c1_8], .agg #[.int .i64 a0_0, .int .i64 a0_1, .int .i64 a0_2, .slice A0_3 l0_3.length c0_3], .int .i64 x31_2, .int .i64 x36_3, .int .i64 x41_4] (by rfl) rfl rfl (by (try simp only [List.map_toArray, List.map_cons, List.map_nil]); first | done | rfl | (simp only [List.length_drop, List.length_take]; rfl)) ?_
          with_reducible refine (impl_Layer_item.calls k4 a1_0 a1_1 a1_2 a1_3 a1_4 a1_5 a1_6 _ _ l1_7 _ _ l1_8 a0_0 a0_1 a0_2 _ _ l0_3 x31_2 x36_3 x41_4 t673 _ ?side1 ?side2 ?side3 ?side4 ?side5 ?side6 A55.out).mono ?_
          (case side1 => exact C_now HR1_7.out)
          (case side2 => exact HC1_7.out)
          (case side3 => exact C_now HR1_8.out)
          (case side4 => exact HC1_8.out)
          (case side5 => exact C_now HR0_3.out)
          (case side6 => exact HC0_3.out)
          rintro e w58 ⟨rfl, hb⟩
          refine ⟨_, rfl, ?_⟩
          replace HO_673003 := am (Kd.R_below (R_at HO_673003.out) hb);replace BK663 := blk_on gb663 hb;replace BK664 := blk_on gb664 hb;replace BK665 := blk_on gb665 hb;replace BK670 := blk_on gb670 hb;replace BK672 := blk_on gb672 hb;replace HB := bel_on w hb;(try clear hb);(try clear hb2);(try clear hb3);(try clear hk);(try clear hi)
          refine hK.out _ _ ⟨bc BK672 0, bc BK672 1, bc BK672 2, bc BK672 3, bc BK664 0, bc BK664 1, bc BK664 2, bc BK664 3, bc BK664 4, bc BK664 5, bc BK664 6, bc BK664 7, bc BK664 8, bc BK663 0, bc BK663 1, bc BK663 2, bc BK663 3⟩ (fun hHeld => ?_)
          clear hK K
          refine normP 51 ?_
          refine one_ (i := 8) (N := some 52) #[I, I, I, I, I, I, I, I, I, O, O, O] rfl rfl (one_of HT_.out (by kernel_rfl)) (by decide) (fun K hK => ?_)
          refine value_ (w1 := ?_) (v := ?_) (by rfl) rfl ?_ ?_
          rotate_left 2
          ·go_simp
           constructor
           ·rfl
           rfl
          refine hK.out _ _ ⟨(blk_cell (blk_alloc BK672.out _) 0).trans rfl, (blk_cell (blk_alloc BK672.out _) 1).trans rfl, (blk_cell (blk_alloc BK672.out _) 2).trans rfl, (blk_cell (blk_alloc BK672.out _) 3).trans rfl, (blk_cell (blk_alloc BK664.out _) 0).trans rfl, (blk_cell (blk_alloc BK664.out _) 1).trans rfl, (blk_cell (blk_alloc BK664.out _) 2).trans rfl, (blk_cell (blk_alloc BK664.out _) 3).trans rfl, (blk_cell (blk_alloc BK664.out _) 4).trans rfl, (blk_cell (blk_alloc BK664.out _) 5).trans rfl, (blk_cell (blk_alloc BK664.out _) 6).trans rfl, (blk_cell (blk_alloc BK664.out _) 7).trans rfl, (blk_cell (blk_alloc BK664.out _) 8).trans rfl, (blk_cell (blk_alloc BK663.out _) 0).trans rfl, (blk_cell (blk_alloc BK663.out _) 1).trans rfl, (blk_cell (blk_alloc BK663.out _) 2).trans rfl, (blk_cell (blk_alloc BK663.out _) 3).trans rfl⟩ (fun hHeld => ?_)
          clear hK K
          refine normP 52 ?_
          refine one_ (i := 9) (N := some 53) #[I, I, I, I, I, I, I, I, I, I, O, O] rfl rfl (one_of HT_.out (by kernel_rfl)) (by decide) (fun K hK => ?_)
          refine Kd.R_append_step (Kd.int .i64) (w0 := w) w.heap.size (by rfl) (.tmp 45) (.tmp 52) 24 3 (.int .i64 0) 8 rfl Try.underlying24 info3 rfl (by decide) (by omega) u673003 x673003_4 t673 [.int .i64 t673] (fun _ => True) (fun _ => False) rfl rfl ?aP (fun _ hk => hk.elim) ?aF ?aO ?aB ?aS ?aL ?_
          (case aP => exact rfl)
          (case aB => exact bel_now)
          (case aF => exact (fun _ _ => trivial))
          (case aO => exact (R_at HO_673003.out))
          (case aS => exact (below_size bel_now))
          (case aL => have := LMc56.out; omega)
          intro v675 w59 ho hb hg hat;rw [← Ny674.out] at ho;have n6_ := am (ho);replace BK663 := am (blk_grown (g := gb663) blk_now hg (Kd.R_ne HO_673003.out BK663.out (by decide)));replace BK664 := am (blk_grown (g := gb664) blk_now hg (Kd.R_ne HO_673003.out BK664.out (by decide)));replace BK665 := am (blk_grown (g := gb665) blk_now hg (Kd.R_ne HO_673003.out BK665.out (by decide)));replace BK670 := am (blk_grown (g := gb670) blk_now hg (Kd.R_ne HO_673003.out BK670.out (by decide)));replace BK672 := am (blk_grown (g := gb672) blk_now hg (Kd.R_ne HO_673003.out BK672.out (by decide)));replace HB := am (hb);clear HO_673003;have HO676 := n6_;clear n6_;clear ho hb hg hat;obtain ⟨Ao60, co60, eo60⟩ := Kd.R_slice HO676.out
          (first | subst eo60 | (injection eo60 with f1_ f2_ f3_; have f4_ := f1_.symm; have f5_ := f3_.symm; clear f1_ f2_ f3_; subst f4_; subst f5_))
          refine hK.out _ _ ⟨bc BK672 0, bc BK672 1, bc BK672 2, bc BK672 3, bc BK664 0, bc BK664 1, bc BK664 2, bc BK664 3, bc BK664 4, bc BK664 5, bc BK664 6, bc BK664 7, bc BK664 8, bc BK663 0, bc BK663 1, bc BK663 2, bc BK663 3⟩ (fun hHeld => ?_)
          clear hK K
          refine normP 53 ?_
          refine stepP 10 (some 54) (tk 12 2047) (any_of HT_.out (by kernel_rfl)) ?_
          refine last_ (i := 11) (N := none) #[I, I, I, I, I, I, I, I, I, I, I, I] rfl rfl (one_of HT_.out (by kernel_rfl)) (by decide) (fun K hK => ?_)
          have hs61 : w59.cell? ⟨gb672, 3, none⟩ = some (u673003) := (blk_cell BK672.out 3).trans rfl;have hfs61 := blk_frozen BK672.out 3;have hns61_0 := NB663_672.out;have hns61_1 := NB664_672.out;have hns61_2 := NB665_672.out;have hns61_3 := NB670_672.out;have hms61_0 := NB672_663.out;have hms61_1 := NB672_664.out;have hms61_2 := NB672_665.out;have hms61_3 := NB672_670.out
          refine skip_ (w1 := ?_) (by rfl) rfl ?_ ?_
          rotate_left
          ·go_simp
           rfl
          refine hK.out _ _ ?_
          clear hK K
          refine done_ (done_of HT_.out (by kernel_rfl)) ?_
          try go_wp2
          go_roundg k4
          case measure => have := HJ3.out; have := HK2.out; have := HK3.out; have := HK4.out; omega
          case rel => exact ⟨(wrap64 (x41_4 + 1)), (y674), (.slice Ao60 y674.length co60), pv, H', ⟨by have := HJ3.out; have := HK2.out; have := HK3.out; have := HK4.out; omega⟩, ⟨Kd.R_mono (R_atF HO676.out) (fun _ hk => trivial)⟩, ⟨blkN⟩, ⟨blkN⟩, ⟨blkN⟩, ⟨blkN⟩, ⟨blkN⟩, ⟨bel_now⟩⟩

end Go.Proofs.Ytclpojeofclbjaa.PFnLayers
