import Derived.Test.YtclpojeofclbjaaPFnLayersx0
import Derived.Test.YtclpojeofclbjaaPFnLayersx2
import Derived.Test.YtclpojeofclbjaaPFnLayersx9
namespace Go.Proofs.Ytclpojeofclbjaa.PFnLayers
open Go.RowKit Go.Proofs.YtclpojeofclbjaaW.PrintWords Go.Proofs.YtclpojeofclbjaaW.PrintLast Go.Proofs.YtclpojeofclbjaaW.PrintMore
attribute [local go_sem] max2_int min2_int max_two min_two max_three min_three max_four min_four
set_option maxHeartbeats 8000000
set_option maxRecDepth 100000
set_option linter.unusedVariables false
set_option linter.unusedSimpArgs false

mutual
def spec_OutShape.j0 : Nat → Bool → Int → Int → Int → Int → Int → Int → Int → Int → Int → Int → List Int → List Int → Int → Int → Int → Option (Int × Int × Int × Bool)
  | 0, _, _, _, _, _, _, _, _, _, _, _, _, _, _, _, _ => none
  | k + 1, x18, x449000, x449001, x449002, x450000, x450001, x450002, x450003, x450004, x450005, x450006, x450007, x450008, x452000, x452001, x452002 => if x18 = true then (some (x452000, x452001, x452002, false)) else ((spec_l01In.f x450000 1 3).bind fun t454 => ((spec_l03Plain.f k x450000 x450001 x450002 x450003 x450004 x450005 x450006 x450007 x450008 t454 (decide (x450000 ≤ 1))).bind fun t455 => (if t455 = true then (if t454 = true then (if x450002 > x449000 then (some (x452000, x452001, x452002, false)) else (if x450002 > x449001 then (some (x452000, x452001, x452002, false)) else (if x450003 = 0 then (none) else (spec_OutShape.j1 k x449000 x449001 x449002 x450000 x450001 x450002 x450003 x450004 x450005 x450006 x450007 x450008 x452000 x452001 x452002 (wrap64 ((wrap64 (Int.tdiv (wrap64 (x449000 - x450002)) x450003)) + 1)) (wrap64 ((wrap64 (Int.tdiv (wrap64 (x449001 - x450002)) x450003)) + 1)) x449002)))) else (spec_OutShape.j1 k x449000 x449001 x449002 x450000 x450001 x450002 x450003 x450004 x450005 x450006 x450007 x450008 x452000 x452001 x452002 x449000 x449001 x449002)) else (some (x452000, x452001, x452002, false)))))
def spec_OutShape.j1 : Nat → Int → Int → Int → Int → Int → Int → Int → Int → Int → Int → List Int → List Int → Int → Int → Int → Int → Int → Int → Option (Int × Int × Int × Bool)
  | 0, _, _, _, _, _, _, _, _, _, _, _, _, _, _, _, _, _, _ => none
  | k + 1, x449000, x449001, x449002, x450000, x450001, x450002, x450003, x450004, x450005, x450006, x450007, x450008, x452000, x452001, x452002, x457000, x457001, x457002 => if x450000 = 0 then ((spec_SizeOf.f x449000 x449001 x449002).bind fun t457 => (if t457 > 64 then (some (x452000, x452001, x452002, false)) else ((spec_SizeOf.f x449000 x449001 x449002).bind fun t458 => (if (x450007.length : Int) = (wrap64 (x450001 * t458)) then (some (1, 1, x450001, true)) else (some (x452000, x452001, x452002, false)))))) else (if x450000 = 1 then (if (x450007.length : Int) = (wrap64 ((wrap64 ((wrap64 (x450001 * x450002)) * x450002)) * x449002)) then (if (x450007.length : Int) > 600 then (some (x452000, x452001, x452002, false)) else (some (x457000, x457001, x450001, true))) else (some (x452000, x452001, x452002, false))) else (if x450000 = 5 then ((spec_SizeOf.f x449000 x449001 x449002).bind fun t459 => (if t459 > 8 then (some (x452000, x452001, x452002, false)) else ((spec_SizeOf.f x449000 x449001 x449002).bind fun t460 => (some (1, 1, t460, true))))) else (some (x457000, x457001, x457002, true))))
end
def spec_OutShape.f (k : Nat) (a0_0 : Int) (a0_1 : Int) (a0_2 : Int) (a1_0 : Int) (a1_1 : Int) (a1_2 : Int) (a1_3 : Int) (a1_4 : Int) (a1_5 : Int) (a1_6 : Int) (l1_7 : List Int) (l1_8 : List Int) : Option (Int × Int × Int × Bool) := (spec_ShapeOk.f a0_0 a0_1 a0_2).bind fun t452 => (if t452 = true then ((spec_l01In.f a1_0 0 5).bind fun t453 => (spec_OutShape.j0 k (!t453) a0_0 a0_1 a0_2 a1_0 a1_1 a1_2 a1_3 a1_4 a1_5 a1_6 l1_7 l1_8 0 0 0)) else (spec_OutShape.j0 k true a0_0 a0_1 a0_2 a1_0 a1_1 a1_2 a1_3 a1_4 a1_5 a1_6 l1_7 l1_8 0 0 0))
def spec_OutShape.T15 : Bool × List (List Nat × List Nat) := (true, [([], []), ([0], [0]), ([1], [1]), ([2, 1], [2]), ([3], [3]), ([4, 3], [3, 4]), ([5, 3], [3, 5]), ([3], [3]), ([7, 3], [3, 7]), ([3], [3]), ([9, 3, 3], [3, 9]), ([8, 10, 3], [3, 8, 10]), ([6, 11, 3], [3, 6, 11]), ([3, 12], [3, 12])])
def spec_OutShape.B15 : List Nat := [0, 1, 3, 7, 15, 31, 63, 15, 143, 15, 527, 1935, 4095, 8191]
theorem spec_OutShape.tab15 : rtab .any (opsOf Try.f48 15) = spec_OutShape.T15 := by kernel_rfl
theorem spec_OutShape.bits15 : waitsOk spec_OutShape.T15.2 spec_OutShape.B15 = true := by kernel_rfl
theorem spec_OutShape.calls (k : Nat) (a0_0 : Int) (a0_1 : Int) (a0_2 : Int) (a1_0 : Int) (a1_1 : Int) (a1_2 : Int) (a1_3 : Int) (a1_4 : Int) (a1_5 : Int) (a1_6 : Int) (A1_7 : Option Addr) (c1_7 : Nat) (l1_7 : List Int) (A1_8 : Option Addr) (c1_8 : Nat) (l1_8 : List Int) (r1 : Int) (r2 : Int) (r3 : Int) (r4 : Bool) (w : World) (hr1_7 : Kd.C (Kd.int .i64) w A1_7 l1_7.length l1_7) (hc1_7 : l1_7.length ≤ c1_7) (hr1_8 : Kd.C (Kd.int .i64) w A1_8 l1_8.length l1_8) (hc1_8 : l1_8.length ≤ c1_8) (h : spec_OutShape.f k a0_0 a0_1 a0_2 a1_0 a1_1 a1_2 a1_3 a1_4 a1_5 a1_6 l1_7 l1_8 = some (r1, r2, r3, r4)) :
   Calls Try.prog 48 #[.agg #[.int .i64 a0_0, .int .i64 a0_1, .int .i64 a0_2], .agg #[.int .i64 a1_0, .int .i64 a1_1, .int .i64 a1_2, .int .i64 a1_3, .int .i64 a1_4, .int .i64 a1_5, .int .i64 a1_6, .slice A1_7 l1_7.length c1_7, .slice A1_8 l1_8.length c1_8]] w fun e w' => e = .returned (.tuple #[.agg #[.int .i64 r1, .int .i64 r2, .int .i64 r3], .bool r4]) ∧ Below w.heap.size w w' := by
  have hu31 := Try.underlying31;have hu37 := Try.underlying37;have HR1_7 := am hr1_7;have HC1_7 := am hc1_7;clear hr1_7 hc1_7;have HR1_8 := am hr1_8;have HC1_8 := am hc1_8;clear hr1_8 hc1_8;have HB := am (Below.refl w.heap.size w);have H : ((spec_ShapeOk.f a0_0 a0_1 a0_2).bind fun t452 => (if t452 = true then ((spec_l01In.f a1_0 0 5).bind fun t453 => (spec_OutShape.j0 k (!t453) a0_0 a0_1 a0_2 a1_0 a1_1 a1_2 a1_3 a1_4 a1_5 a1_6 l1_7 l1_8 0 0 0)) else (spec_OutShape.j0 k true a0_0 a0_1 a0_2 a1_0 a1_1 a1_2 a1_3 a1_4 a1_5 a1_6 l1_7 l1_8 0 0 0))) = some (r1, r2, r3, r4) := h;clear h;have HC3 := am H;clear H
  go_enter Try.func48, Try.ntmps48
  go_upto_region 2 with (first | ((with_reducible refine gate_dst (N := 2) rfl ?_); (try (refine gate_guard (by rfl) ?_; dsimp only)); refine boxM 2 #[.int .i64 a0_0, .int .i64 a0_1, .int .i64 a0_2] 31 ?_; intro gb448 hg w4 BK448 hb; obtain ⟨HB, GW448, GE448⟩ := box_at w hb hg; clear hb hg) | ((with_reducible refine gate_dst (N := 3) rfl ?_); (try (refine gate_guard (by rfl) ?_; dsimp only)); refine boxM 3 #[.int .i64 a1_0, .int .i64 a1_1, .int .i64 a1_2, .int .i64 a1_3, .int .i64 a1_4, .int .i64 a1_5, .int .i64 a1_6, .slice A1_7 l1_7.length c1_7, .slice A1_8 l1_8.length c1_8] 37 ?_; intro gb449 hg w5 BK449 hb; obtain ⟨HB, GW449, GE449⟩ := box_at w hb hg; obtain ⟨BK448, NB448_449, NB449_448⟩ := box_on gb448 hb hg; clear hb hg) | ((with_reducible refine gate_dst (N := 4) rfl ?_); (try (refine gate_guard (by rfl) ?_; dsimp only)); refine boxM 4 #[.int .i64 0, .int .i64 0, .int .i64 0] 31 ?_; intro gb450 hg w6 BK450 hb; obtain ⟨HB, GW450, GE450⟩ := box_at w hb hg; obtain ⟨BK448, NB448_450, NB450_448⟩ := box_on gb448 hb hg; obtain ⟨BK449, NB449_450, NB450_449⟩ := box_on gb449 hb hg; clear hb hg) | ((with_reducible refine gate_dst (N := 6) rfl ?_); (try (refine gate_guard (by rfl) ?_; dsimp only)); refine boxM 6 #[.int .i64 0, .int .i64 0, .int .i64 0] 31 ?_; intro gb451 hg w7 BK451 hb; obtain ⟨HB, GW451, GE451⟩ := box_at w hb hg; obtain ⟨BK448, NB448_451, NB451_448⟩ := box_on gb448 hb hg; obtain ⟨BK449, NB449_451, NB451_449⟩ := box_on gb449 hb hg; obtain ⟨BK450, NB450_451, NB451_450⟩ := box_on gb450 hb hg; clear hb hg; have hn8 := ne2 NB451_448; have hn9 := ne2 NB451_449; have hn10 := ne2 NB451_450; have hcz11 := cells3 BK451.out))
  (try simp only [Act.put, zA, zB, zC])
  go_cut [18] (fun v18 wc => ∃ (kq : Nat) (x18_2 : Bool), v18 = .bool x18_2 ∧ Aside0 (spec_OutShape.j0 kq x18_2 a0_0 a0_1 a0_2 a1_0 a1_1 a1_2 a1_3 a1_4 a1_5 a1_6 l1_7 l1_8 0 0 0 = some (r1, r2, r3, r4)) ∧ Aside0 (kq ≤ k) ∧ Aside0 (wc.heap[gb448]? = some (.cells #[.int .i64 a0_0, .int .i64 a0_1, .int .i64 a0_2] 31 (0, 0))) ∧ Aside0 (wc.heap[gb449]? = some (.cells #[.int .i64 a1_0, .int .i64 a1_1, .int .i64 a1_2, .int .i64 a1_3, .int .i64 a1_4, .int .i64 a1_5, .int .i64 a1_6, (.slice A1_7 l1_7.length c1_7), (.slice A1_8 l1_8.length c1_8)] 37 (0, 0))) ∧ Aside0 (wc.heap[gb450]? = some (.cells #[.int .i64 0, .int .i64 0, .int .i64 0] 31 (0, 0))) ∧ Aside0 (wc.heap[gb451]? = some (.cells #[.int .i64 0, .int .i64 0, .int .i64 0] 31 (0, 0))) ∧ Aside0 (Below w.heap.size w wc))
  case first =>
   have H := HC3.out;clear HC3;obtain ⟨t452, A12, H⟩ := bnd H;(try dsimp only at H);by_cases c13 : t452 = true;rotate_left
   ·replace c13 := Bool.eq_false_iff.mpr c13;subst c13
    rw [if_neg (show ¬ (false = true) by decide)] at H
    have H' := am H;clear H;have hn23 := ne2 NB448_449;have hn24 := ne2 NB448_450;have hn25 := ne2 NB448_451;have hcz26 := cells3 BK448.out
    go_wp2_with (first | ((with_reducible refine gate_callee (f := 72) rfl ?_); refine gM 11 Try.func72 #[.agg #[.int .i64 a0_0, .int .i64 a0_1, .int .i64 a0_2]] rfl ?_; (with_reducible refine (spec_ShapeOk.calls a0_0 a0_1 a0_2 false _ A12.out).mono ?_); rintro e w27 ⟨rfl, hb⟩; refine ⟨_, rfl, ?_⟩; replace HB := bel_on w hb; replace BK448 := blk_onP gb448 hb; replace BK449 := blk_onP gb449 hb; replace BK450 := blk_onP gb450 hb; replace BK451 := blk_onP gb451 hb; (try clear hb)))
    go_meet
    case rel => exact ⟨_, (true), pv, H', ⟨by first | omega | exact Nat.le_refl _⟩, ⟨bks BK448⟩, ⟨bks BK449⟩, ⟨bks BK450⟩, ⟨bks BK451⟩, ⟨bel_now⟩⟩
   subst c13;rw [if_pos rfl] at H;obtain ⟨t453, A14, H⟩ := bnd H;(try dsimp only at H);have H' := am H;clear H;have hn15 := ne2 NB448_449;have hn16 := ne2 NB448_450;have hn17 := ne2 NB448_451;have hcz18 := cells3 BK448.out
   go_wp2_with (first | ((with_reducible refine gate_callee (f := 72) rfl ?_); refine gM 11 Try.func72 #[.agg #[.int .i64 a0_0, .int .i64 a0_1, .int .i64 a0_2]] rfl ?_; (with_reducible refine (spec_ShapeOk.calls a0_0 a0_1 a0_2 true _ A12.out).mono ?_); rintro e w19 ⟨rfl, hb⟩; refine ⟨_, rfl, ?_⟩; replace HB := bel_on w hb; replace BK448 := blk_onP gb448 hb; replace BK449 := blk_onP gb449 hb; replace BK450 := blk_onP gb450 hb; replace BK451 := blk_onP gb451 hb; (try clear hb); have hn20 := ne2 NB449_450; have hn21 := ne2 NB449_451; have hcz22 := cells9 BK449.out) | (go_at_call 94; (with_reducible refine (spec_l01In.calls a1_0 0 5 t453 _ A14.out).mono ?_); rintro e w' ⟨rfl, ⟨nd, rfl⟩⟩))
   go_meet
   case rel => exact ⟨_, (!t453), pv, H', ⟨by first | omega | exact Nat.le_refl _⟩, ⟨bks BK448⟩, ⟨bks BK449⟩, ⟨bks BK450⟩, ⟨bks BK451⟩, ⟨bel_now⟩⟩
  case rest =>
   clear HC3;try clear hcz11
   obtain ⟨kq, x18_2, rfl, HA, HJ2, BK448, BK449, BK450, BK451, HB⟩ := hcut
   cases kq with
   | zero => exact absurd HA.out (by simp [spec_OutShape.j0])
   | succ kj2 =>
    have H := HA.out;clear HA;simp only [spec_OutShape.j0] at H;by_cases c28 : x18_2 = true
    ·subst c28;rw [if_pos rfl] at H;simp only [Option.some.injEq, Prod.mk.injEq] at H;obtain ⟨rfl, rfl, rfl, rfl⟩ := H;have hn29 := ne2 NB451_448;have hn30 := ne2 NB451_449;have hn31 := ne2 NB451_450;have hcz32 := cells3 BK451.out;have hn33 := ne2 NB450_448;have hn34 := ne2 NB450_449;have hcz35 := cells3 BK450.out
     go_wp2
     refine bodyPost_ret (results_ct rfl _ _ gb450 31 #[.int .i64 0, .int .i64 0, .int .i64 0] (0, 0) _ rfl (blk_fars (puts3 BK450.out)) Try.underlying31 rfl (by kernel_rfl)) rfl ?_
     exact ⟨eqN, bel_now⟩
    replace c28 := Bool.eq_false_iff.mpr c28;subst c28
    rw [if_neg (show ¬ (false = true) by decide)] at H
    obtain ⟨t454, A36, H⟩ := bnd H;(try dsimp only at H);obtain ⟨t455, A37, H⟩ := bnd H;(try dsimp only at H);by_cases c38 : t455 = true;rotate_left
    ·replace c38 := Bool.eq_false_iff.mpr c38;subst c38
     rw [if_neg (show ¬ (false = true) by decide)] at H
     simp only [Option.some.injEq, Prod.mk.injEq] at H;obtain ⟨rfl, rfl, rfl, rfl⟩ := H;have hn236 := ne2 NB449_448;have hn237 := ne2 NB449_450;have hn238 := ne2 NB449_451;have hcz239 := cells9 BK449.out
     go_wp2_with (first | ((with_reducible refine gate_callee (f := 94) rfl ?_); refine gM 22 Try.func94 #[.int .i64 a1_0, .int .i64 1, .int .i64 3] rfl ?_; (with_reducible refine (spec_l01In.calls a1_0 1 3 t454 _ A36.out).mono ?_); rintro e w' ⟨rfl, ⟨nd, rfl⟩⟩; refine ⟨_, rfl, ?_⟩; (try (rw [drewN_self wc]; generalize hq_ : World.drewN wc _ = wc; have n0_ : Aside0 (wc.heap[gb448]? = some (.cells #[.int .i64 a0_0, .int .i64 a0_1, .int .i64 a0_2] 31 (0, 0))) := ⟨by rw [← hq_]; exact blk_now⟩; have n1_ : Aside0 (wc.heap[gb449]? = some (.cells #[.int .i64 a1_0, .int .i64 a1_1, .int .i64 a1_2, .int .i64 a1_3, .int .i64 a1_4, .int .i64 a1_5, .int .i64 a1_6, .slice A1_7 l1_7.length c1_7, .slice A1_8 l1_8.length c1_8] 37 (0, 0))) := ⟨by rw [← hq_]; exact blk_now⟩; have n2_ : Aside0 (wc.heap[gb450]? = some (.cells #[.int .i64 0, .int .i64 0, .int .i64 0] 31 (0, 0))) := ⟨by rw [← hq_]; exact blk_now⟩; have n3_ : Aside0 (wc.heap[gb451]? = some (.cells #[.int .i64 0, .int .i64 0, .int .i64 0] 31 (0, 0))) := ⟨by rw [← hq_]; exact blk_now⟩; have n4_ : Aside0 (Below w.heap.size w wc) := ⟨by rw [← hq_]; exact bel_now⟩; clear BK448 BK449 BK450 BK451 HB hq_; have BK448 := n0_; have BK449 := n1_; have BK450 := n2_; have BK451 := n3_; have HB := n4_; clear n0_ n1_ n2_ n3_ n4_; (try obtain ⟨hcuBK449_0, hcuBK449_1, hcuBK449_2, hcuBK449_3, hcuBK449_4, hcuBK449_5, hcuBK449_6, hcuBK449_7, hcuBK449_8, hcuBK449_9, hcuBK449_10, hcuBK449_11, hcuBK449_12, hcuBK449_13, hcuBK449_14, hcuBK449_15, hcuBK449_16, hcuBK449_17⟩ := cells9 BK449.out)))) | ((with_reducible refine gate_callee (f := 95) rfl ?_); refine gM 28 Try.func95 #[.agg #[.int .i64 a1_0, .int .i64 a1_1, .int .i64 a1_2, .int .i64 a1_3, .int .i64 a1_4, .int .i64 a1_5, .int .i64 a1_6, .slice A1_7 l1_7.length c1_7, .slice A1_8 l1_8.length c1_8], .bool t454, .bool (decide (a1_0 ≤ 1))] rfl ?_; (with_reducible refine (spec_l03Plain.calls kj2 a1_0 a1_1 a1_2 a1_3 a1_4 a1_5 a1_6 _ _ l1_7 _ _ l1_8 t454 (decide (a1_0 ≤ 1)) false _ ?side1 HC1_7.out ?side3 HC1_8.out A37.out).mono ?_); (case side1 => exact C_now HR1_7.out); (case side3 => exact C_now HR1_8.out); rintro e w240 ⟨rfl, hb⟩; refine ⟨_, rfl, ?_⟩; replace HB := bel_on w hb; replace BK448 := blk_on gb448 hb; replace BK449 := blk_on gb449 hb; replace BK450 := blk_on gb450 hb; replace BK451 := blk_on gb451 hb; (try clear hb); have hn241 := ne2 NB451_448; have hn242 := ne2 NB451_450; have hcz243 := cells3 BK451.out; have hn244 := ne2 NB450_448; have hcz245 := cells3 BK450.out))
     refine bodyPost_ret (results_ct rfl _ _ gb450 31 #[.int .i64 0, .int .i64 0, .int .i64 0] (0, 0) _ rfl (blk_fars (puts3 BK450.out)) Try.underlying31 rfl (by kernel_rfl)) rfl ?_
     exact ⟨eqN, bel_now⟩
    subst c38;rw [if_pos rfl] at H;have HC39 := am H;clear H;have hn40 := ne2 NB449_448;have hn41 := ne2 NB449_450;have hn42 := ne2 NB449_451;have hcz43 := cells9 BK449.out
    go_upto_if 32 with (first | ((with_reducible refine gate_callee (f := 94) rfl ?_); refine gM 22 Try.func94 #[.int .i64 a1_0, .int .i64 1, .int .i64 3] rfl ?_; (with_reducible refine (spec_l01In.calls a1_0 1 3 t454 _ A36.out).mono ?_); rintro e w' ⟨rfl, ⟨nd, rfl⟩⟩; refine ⟨_, rfl, ?_⟩; (try (rw [drewN_self wc]; generalize hq_ : World.drewN wc _ = wc; have n0_ : Aside0 (wc.heap[gb448]? = some (.cells #[.int .i64 a0_0, .int .i64 a0_1, .int .i64 a0_2] 31 (0, 0))) := ⟨by rw [← hq_]; exact blk_now⟩; have n1_ : Aside0 (wc.heap[gb449]? = some (.cells #[.int .i64 a1_0, .int .i64 a1_1, .int .i64 a1_2, .int .i64 a1_3, .int .i64 a1_4, .int .i64 a1_5, .int .i64 a1_6, .slice A1_7 l1_7.length c1_7, .slice A1_8 l1_8.length c1_8] 37 (0, 0))) := ⟨by rw [← hq_]; exact blk_now⟩; have n2_ : Aside0 (wc.heap[gb450]? = some (.cells #[.int .i64 0, .int .i64 0, .int .i64 0] 31 (0, 0))) := ⟨by rw [← hq_]; exact blk_now⟩; have n3_ : Aside0 (wc.heap[gb451]? = some (.cells #[.int .i64 0, .int .i64 0, .int .i64 0] 31 (0, 0))) := ⟨by rw [← hq_]; exact blk_now⟩; have n4_ : Aside0 (Below w.heap.size w wc) := ⟨by rw [← hq_]; exact bel_now⟩; clear BK448 BK449 BK450 BK451 HB hq_; have BK448 := n0_; have BK449 := n1_; have BK450 := n2_; have BK451 := n3_; have HB := n4_; clear n0_ n1_ n2_ n3_ n4_; (try obtain ⟨hcuBK449_0, hcuBK449_1, hcuBK449_2, hcuBK449_3, hcuBK449_4, hcuBK449_5, hcuBK449_6, hcuBK449_7, hcuBK449_8, hcuBK449_9, hcuBK449_10, hcuBK449_11, hcuBK449_12, hcuBK449_13, hcuBK449_14, hcuBK449_15, hcuBK449_16, hcuBK449_17⟩ := cells9 BK449.out)))) | ((with_reducible refine gate_callee (f := 95) rfl ?_); refine gM 28 Try.func95 #[.agg #[.int .i64 a1_0, .int .i64 a1_1, .int .i64 a1_2, .int .i64 a1_3, .int .i64 a1_4, .int .i64 a1_5, .int .i64 a1_6, .slice A1_7 l1_7.length c1_7, .slice A1_8 l1_8.length c1_8], .bool t454, .bool (decide (a1_0 ≤ 1))] rfl ?_; (with_reducible refine (spec_l03Plain.calls kj2 a1_0 a1_1 a1_2 a1_3 a1_4 a1_5 a1_6 _ _ l1_7 _ _ l1_8 t454 (decide (a1_0 ≤ 1)) true _ ?side1 HC1_7.out ?side3 HC1_8.out A37.out).mono ?_); (case side1 => exact C_now HR1_7.out); (case side3 => exact C_now HR1_8.out); rintro e w44 ⟨rfl, hb⟩; refine ⟨_, rfl, ?_⟩; replace HB := bel_on w hb; replace BK448 := blk_on gb448 hb; replace BK449 := blk_on gb449 hb; replace BK450 := blk_on gb450 hb; replace BK451 := blk_on gb451 hb; (try clear hb); have hn45 := ne2 NB448_450; have hn46 := ne2 NB448_451; have hcz47 := cells3 BK448.out) | ((with_reducible refine gate_dst (N := 8) rfl ?_); (try (refine gate_guard (by rfl) ?_; dsimp only)); refine boxM 8 #[.int .i64 0, .int .i64 0, .int .i64 0] 31 ?_; intro gb456 hg w48 BK456 hb; obtain ⟨HB, GW456, GE456⟩ := box_at w hb hg; obtain ⟨BK448, NB448_456, NB456_448⟩ := box_on gb448 hb hg; obtain ⟨BK449, NB449_456, NB456_449⟩ := box_on gb449 hb hg; obtain ⟨BK450, NB450_456, NB456_450⟩ := box_on gb450 hb hg; obtain ⟨BK451, NB451_456, NB456_451⟩ := box_on gb451 hb hg; clear hb hg; have hn49 := ne2 NB456_448; have hn50 := ne2 NB456_449; have hn51 := ne2 NB456_450; have hn52 := ne2 NB456_451; have hcz53 := cells3 BK456.out))
    (try simp only [Act.put, zA, zB, zC])
    go_cut [] (fun wc => ∃ (kq : Nat) (x451000_38 : Int) (x451001_38 : Int) (x451002_38 : Int) (x457000_38 : Int) (x457001_38 : Int), Aside0 (spec_OutShape.j1 kq a0_0 a0_1 a0_2 a1_0 a1_1 a1_2 a1_3 a1_4 a1_5 a1_6 l1_7 l1_8 0 0 0 x457000_38 x457001_38 a0_2 = some (r1, r2, r3, r4)) ∧ Aside0 (kq ≤ kj2) ∧ Aside0 (wc.heap[gb448]? = some (.cells #[.int .i64 a0_0, .int .i64 a0_1, .int .i64 a0_2] 31 (0, 0))) ∧ Aside0 (wc.heap[gb449]? = some (.cells #[.int .i64 a1_0, .int .i64 a1_1, .int .i64 a1_2, .int .i64 a1_3, .int .i64 a1_4, .int .i64 a1_5, .int .i64 a1_6, (.slice A1_7 l1_7.length c1_7), (.slice A1_8 l1_8.length c1_8)] 37 (0, 0))) ∧ Aside0 (wc.heap[gb450]? = some (.cells #[.int .i64 x451000_38, .int .i64 x451001_38, .int .i64 x451002_38] 31 (0, 0))) ∧ Aside0 (wc.heap[gb451]? = some (.cells #[.int .i64 0, .int .i64 0, .int .i64 0] 31 (0, 0))) ∧ Aside0 (wc.heap[gb456]? = some (.cells #[.int .i64 x457000_38, .int .i64 x457001_38, .int .i64 a0_2] 31 (0, 0))) ∧ Aside0 (Below w.heap.size w wc))
    case first =>
     have H := HC39.out;clear HC39;by_cases c54 : t454 = true;rotate_left
     ·replace c54 := Bool.eq_false_iff.mpr c54;subst c54
      rw [if_neg (show ¬ (false = true) by decide)] at H
      have H' := am H;clear H
      go_wp2
      go_meet
      case rel => exact ⟨_, (0), (0), (0), (a0_0), (a0_1), H', ⟨by have := HJ2.out; first | omega | exact Nat.le_refl _⟩, ⟨blkN⟩, ⟨blkN⟩, ⟨blkN⟩, ⟨blkN⟩, ⟨blkN⟩, ⟨bel_now⟩⟩
     subst c54;rw [if_pos rfl] at H;by_cases c55 : a1_2 > a0_0
     ·rw [if_pos c55] at H;have c55b0 : decide (a0_0 < a1_2) = true := decide_eq_true c55;clear c55
      (first | rw [c55b0] | (simp only [i64_w, i32_w]; rw [c55b0]) | skip)
      simp only [Option.some.injEq, Prod.mk.injEq] at H;obtain ⟨rfl, rfl, rfl, rfl⟩ := H;have hn56 := ne2 NB449_448;have hn57 := ne2 NB449_450;have hn58 := ne2 NB449_451;have hn59 := ne2 NB449_456;have hcz60 := cells9 BK449.out;have hn61 := ne2 NB448_450;have hn62 := ne2 NB448_451;have hn63 := ne2 NB448_456;have hcz64 := cells3 BK448.out;have hn65 := ne2 NB451_450;have hn66 := ne2 NB451_456;have hcz67 := cells3 BK451.out;have hn68 := ne2 NB450_456;have hcz69 := cells3 BK450.out
      go_wp2
      refine bodyPost_ret (results_ct rfl _ _ gb450 31 #[.int .i64 0, .int .i64 0, .int .i64 0] (0, 0) _ rfl blkN Try.underlying31 rfl (by kernel_rfl)) rfl ?_
      exact ⟨eqN, bel_now⟩
     rw [if_neg c55] at H;have c55b0 : decide (a0_0 < a1_2) = false := decide_eq_false c55;clear c55
     (first | rw [c55b0] | (simp only [i64_w, i32_w]; rw [c55b0]) | skip)
     by_cases c70 : a1_2 > a0_1
     ·rw [if_pos c70] at H;have c70b0 : decide (a0_1 < a1_2) = true := decide_eq_true c70;clear c70;simp only [Option.some.injEq, Prod.mk.injEq] at H;obtain ⟨rfl, rfl, rfl, rfl⟩ := H;have hn71 := ne2 NB449_448;have hn72 := ne2 NB449_450;have hn73 := ne2 NB449_451;have hn74 := ne2 NB449_456;have hcz75 := cells9 BK449.out;have hn76 := ne2 NB448_450;have hn77 := ne2 NB448_451;have hn78 := ne2 NB448_456;have hcz79 := cells3 BK448.out;have hn80 := ne2 NB451_450;have hn81 := ne2 NB451_456;have hcz82 := cells3 BK451.out;have hn83 := ne2 NB450_456;have hcz84 := cells3 BK450.out
      go_wp2
      refine bodyPost_ret (results_ct rfl _ _ gb450 31 #[.int .i64 0, .int .i64 0, .int .i64 0] (0, 0) _ rfl blkN Try.underlying31 rfl (by kernel_rfl)) rfl ?_
      exact ⟨eqN, bel_now⟩
     rw [if_neg c70] at H;have c70b0 : decide (a0_1 < a1_2) = false := decide_eq_false c70;clear c70;by_cases c85 : a1_3 = 0
     ·rw [if_pos c85] at H;exact absurd H (by simp)
     rw [if_neg c85] at H;have c85b0 : (a1_3 == 0) = false := beq_eq_false_iff_ne.mpr c85;have c85b1 : (a1_3 != 0) = true := bne_iff_ne.mpr c85;have H' := am H;clear H;have hn86 := ne2 NB449_448;have hn87 := ne2 NB449_450;have hn88 := ne2 NB449_451;have hn89 := ne2 NB449_456;have hcz90 := cells9 BK449.out;have hn91 := ne2 NB448_450;have hn92 := ne2 NB448_451;have hn93 := ne2 NB448_456;have hcz94 := cells3 BK448.out;have hn95 := ne2 NB456_450;have hn96 := ne2 NB456_451;have hcz97 := cells3 BK456.out
     go_wp2
     go_meet
     case rel => exact ⟨_, (0), (0), (0), (wrap64 ((wrap64 (Int.tdiv (wrap64 (a0_0 - a1_2)) a1_3)) + 1)), (wrap64 ((wrap64 (Int.tdiv (wrap64 (a0_1 - a1_2)) a1_3)) + 1)), H', ⟨by have := HJ2.out; first | omega | exact Nat.le_refl _⟩, ⟨blkN⟩, ⟨blkN⟩, ⟨blkN⟩, ⟨blkN⟩, ⟨blkN⟩, ⟨bel_now⟩⟩
    case rest =>
     clear HC39;try clear c28
     try clear c38
     try clear hcz11
     try clear hcz43
     try clear hcz47
     try clear hcz53
     obtain ⟨kq, x451000_38, x451001_38, x451002_38, x457000_38, x457001_38, HA, HJ38, BK448, BK449, BK450, BK451, BK456, HB⟩ := hcut
     cases kq with
     | zero => exact absurd HA.out (by simp [spec_OutShape.j1])
     | succ kj38 =>
      have H := HA.out;clear HA;simp only [spec_OutShape.j1] at H;by_cases c98 : a1_0 = 0;rotate_left
      ·rw [if_neg c98] at H;have c98b0 : (a1_0 == 0) = false := beq_eq_false_iff_ne.mpr c98;have c98b1 : (a1_0 != 0) = true := bne_iff_ne.mpr c98;by_cases c145 : a1_0 = 1
       ·rw [if_pos c145] at H;have c145b0 : (a1_0 == 1) = true := beq_iff_eq.mpr c145;have c145b1 : (a1_0 != 1) = false := bne_eq_false_iff_eq.mpr c145;clear c145;by_cases c146 : (l1_7.length : Int) = (wrap64 ((wrap64 ((wrap64 (a1_1 * a1_2)) * a1_2)) * a0_2));rotate_left
        ·rw [if_neg c146] at H;have c146b0 : ((l1_7.length : Int) == (wrap64 ((wrap64 ((wrap64 (a1_1 * a1_2)) * a1_2)) * a0_2))) = false := beq_eq_false_iff_ne.mpr c146;have c146b1 : ((l1_7.length : Int) != (wrap64 ((wrap64 ((wrap64 (a1_1 * a1_2)) * a1_2)) * a0_2))) = true := bne_iff_ne.mpr c146;simp only [Option.some.injEq, Prod.mk.injEq] at H;obtain ⟨rfl, rfl, rfl, rfl⟩ := H;have hn176 := ne2 NB449_448;have hn177 := ne2 NB449_450;have hn178 := ne2 NB449_451;have hn179 := ne2 NB449_456;have hcz180 := cells9 BK449.out;have hn181 := ne2 NB448_450;have hn182 := ne2 NB448_451;have hn183 := ne2 NB448_456;have hcz184 := cells3 BK448.out;have hn185 := ne2 NB451_450;have hn186 := ne2 NB451_456;have hcz187 := cells3 BK451.out;have hn188 := ne2 NB450_456;have hcz189 := cells3 BK450.out
         go_wp2
         refine bodyPost_ret (results_ct rfl _ _ gb450 31 #[.int .i64 0, .int .i64 0, .int .i64 0] (0, 0) _ rfl (blk_fars (puts3 BK450.out)) Try.underlying31 rfl (by kernel_rfl)) rfl ?_
         exact ⟨eqN, bel_now⟩
        rw [if_pos c146] at H;have c146b0 : ((l1_7.length : Int) == (wrap64 ((wrap64 ((wrap64 (a1_1 * a1_2)) * a1_2)) * a0_2))) = true := beq_iff_eq.mpr c146;have c146b1 : ((l1_7.length : Int) != (wrap64 ((wrap64 ((wrap64 (a1_1 * a1_2)) * a1_2)) * a0_2))) = false := bne_eq_false_iff_eq.mpr c146;clear c146;by_cases c147 : (l1_7.length : Int) > 600
        ·rw [if_pos c147] at H;have c147b0 : decide (600 < (l1_7.length : Int)) = true := decide_eq_true c147;have c147b1 : decide (600 < l1_7.length) = true := decide_eq_true (by omega);clear c147;simp only [Option.some.injEq, Prod.mk.injEq] at H;obtain ⟨rfl, rfl, rfl, rfl⟩ := H;have hn148 := ne2 NB449_448;have hn149 := ne2 NB449_450;have hn150 := ne2 NB449_451;have hn151 := ne2 NB449_456;have hcz152 := cells9 BK449.out;have hn153 := ne2 NB448_450;have hn154 := ne2 NB448_451;have hn155 := ne2 NB448_456;have hcz156 := cells3 BK448.out;have hn157 := ne2 NB451_450;have hn158 := ne2 NB451_456;have hcz159 := cells3 BK451.out;have hn160 := ne2 NB450_456;have hcz161 := cells3 BK450.out
         go_wp2
         refine bodyPost_ret (results_ct rfl _ _ gb450 31 #[.int .i64 0, .int .i64 0, .int .i64 0] (0, 0) _ rfl (blk_fars (puts3 BK450.out)) Try.underlying31 rfl (by kernel_rfl)) rfl ?_
         exact ⟨eqN, bel_now⟩
        rw [if_neg c147] at H;have c147b0 : decide (600 < (l1_7.length : Int)) = false := decide_eq_false c147;have c147b1 : decide (600 < l1_7.length) = false := decide_eq_false (by omega);clear c147;simp only [Option.some.injEq, Prod.mk.injEq] at H;obtain ⟨rfl, rfl, rfl, rfl⟩ := H;have hn162 := ne2 NB449_448;have hn163 := ne2 NB449_450;have hn164 := ne2 NB449_451;have hn165 := ne2 NB449_456;have hcz166 := cells9 BK449.out;have hn167 := ne2 NB448_450;have hn168 := ne2 NB448_451;have hn169 := ne2 NB448_456;have hcz170 := cells3 BK448.out;have hn171 := ne2 NB456_450;have hn172 := ne2 NB456_451;have hcz173 := cells3 BK456.out;have hn174 := ne2 NB450_451;have hcz175 := cells3 BK450.out
        go_wp2
        refine bodyPost_ret (results_ct rfl _ _ gb450 31 #[.int .i64 x457000_38, .int .i64 x457001_38, .int .i64 a1_1] (0, 0) _ rfl blkN Try.underlying31 rfl (by kernel_rfl)) rfl ?_
        exact ⟨eqN, bel_now⟩
       rw [if_neg c145] at H;have c145b0 : (a1_0 == 1) = false := beq_eq_false_iff_ne.mpr c145;have c145b1 : (a1_0 != 1) = true := bne_iff_ne.mpr c145;by_cases c190 : a1_0 = 5;rotate_left
       ·rw [if_neg c190] at H;have c190b0 : (a1_0 == 5) = false := beq_eq_false_iff_ne.mpr c190;have c190b1 : (a1_0 != 5) = true := bne_iff_ne.mpr c190;simp only [Option.some.injEq, Prod.mk.injEq] at H;obtain ⟨rfl, rfl, rfl, rfl⟩ := H;have hn224 := ne2 NB449_448;have hn225 := ne2 NB449_450;have hn226 := ne2 NB449_451;have hn227 := ne2 NB449_456;have hcz228 := cells9 BK449.out;have hn229 := ne2 NB456_448;have hn230 := ne2 NB456_450;have hn231 := ne2 NB456_451;have hcz232 := cells3 BK456.out;have hn233 := ne2 NB450_448;have hn234 := ne2 NB450_451;have hcz235 := cells3 BK450.out
        go_wp2
        refine bodyPost_ret (results_ct rfl _ _ gb450 31 #[.int .i64 x457000_38, .int .i64 x457001_38, .int .i64 a0_2] (0, 0) _ rfl (blk_fars (puts3 BK450.out)) Try.underlying31 rfl (by kernel_rfl)) rfl ?_
        exact ⟨eqN, bel_now⟩
       rw [if_pos c190] at H;have c190b0 : (a1_0 == 5) = true := beq_iff_eq.mpr c190;have c190b1 : (a1_0 != 5) = false := bne_eq_false_iff_eq.mpr c190;clear c190;obtain ⟨t459, A191, H⟩ := bnd H;(try dsimp only at H);by_cases c192 : t459 > 8
       ·rw [if_pos c192] at H;have c192b0 : decide (8 < t459) = true := decide_eq_true c192;clear c192;simp only [Option.some.injEq, Prod.mk.injEq] at H;obtain ⟨rfl, rfl, rfl, rfl⟩ := H;have hn193 := ne2 NB449_448;have hn194 := ne2 NB449_450;have hn195 := ne2 NB449_451;have hn196 := ne2 NB449_456;have hcz197 := cells9 BK449.out;have hn198 := ne2 NB448_450;have hn199 := ne2 NB448_451;have hn200 := ne2 NB448_456;have hcz201 := cells3 BK448.out
        go_wp2_with (first | ((with_reducible refine gate_callee (f := 73) rfl ?_); refine gM 118 Try.func73 #[.agg #[.int .i64 a0_0, .int .i64 a0_1, .int .i64 a0_2]] rfl ?_; (with_reducible refine (spec_SizeOf.calls a0_0 a0_1 a0_2 t459 _ A191.out).mono ?_); rintro e w202 ⟨rfl, hb⟩; refine ⟨_, rfl, ?_⟩; replace HB := bel_on w hb; replace BK448 := blk_on gb448 hb; replace BK449 := blk_on gb449 hb; replace BK450 := blk_on gb450 hb; replace BK451 := blk_on gb451 hb; replace BK456 := blk_on gb456 hb; (try clear hb); have hn203 := ne2 NB451_450; have hn204 := ne2 NB451_456; have hcz205 := cells3 BK451.out; have hn206 := ne2 NB450_456; have hcz207 := cells3 BK450.out))
        refine bodyPost_ret (results_ct rfl _ _ gb450 31 #[.int .i64 0, .int .i64 0, .int .i64 0] (0, 0) _ rfl (blk_fars (puts3 BK450.out)) Try.underlying31 rfl (by kernel_rfl)) rfl ?_
        exact ⟨eqN, bel_now⟩
       rw [if_neg c192] at H;have c192b0 : decide (8 < t459) = false := decide_eq_false c192;clear c192;obtain ⟨t460, A208, H⟩ := bnd H;(try dsimp only at H);simp only [Option.some.injEq, Prod.mk.injEq] at H;obtain ⟨rfl, rfl, rfl, rfl⟩ := H;have hn209 := ne2 NB449_448;have hn210 := ne2 NB449_450;have hn211 := ne2 NB449_451;have hn212 := ne2 NB449_456;have hcz213 := cells9 BK449.out;have hn214 := ne2 NB448_450;have hn215 := ne2 NB448_451;have hn216 := ne2 NB448_456;have hcz217 := cells3 BK448.out
       go_wp2_with (first | ((with_reducible refine gate_callee (f := 73) rfl ?_); refine gM 118 Try.func73 #[.agg #[.int .i64 a0_0, .int .i64 a0_1, .int .i64 a0_2]] rfl ?_; (with_reducible refine (spec_SizeOf.calls a0_0 a0_1 a0_2 t459 _ A191.out).mono ?_); rintro e w218 ⟨rfl, hb⟩; refine ⟨_, rfl, ?_⟩; replace HB := bel_on w hb; replace BK448 := blk_on gb448 hb; replace BK449 := blk_on gb449 hb; replace BK450 := blk_on gb450 hb; replace BK451 := blk_on gb451 hb; replace BK456 := blk_on gb456 hb; (try clear hb); have hcz219 := cells3 BK448.out) | ((with_reducible refine gate_callee (f := 73) rfl ?_); refine gM 122 Try.func73 #[.agg #[.int .i64 a0_0, .int .i64 a0_1, .int .i64 a0_2]] rfl ?_; (with_reducible refine (spec_SizeOf.calls a0_0 a0_1 a0_2 t460 _ A208.out).mono ?_); rintro e w220 ⟨rfl, hb⟩; refine ⟨_, rfl, ?_⟩; replace HB := bel_on w hb; replace BK448 := blk_on gb448 hb; replace BK449 := blk_on gb449 hb; replace BK450 := blk_on gb450 hb; replace BK451 := blk_on gb451 hb; replace BK456 := blk_on gb456 hb; (try clear hb); have hn221 := ne2 NB450_451; have hn222 := ne2 NB450_456; have hcz223 := cells3 BK450.out))
       refine bodyPost_ret (results_ct rfl _ _ gb450 31 #[.int .i64 1, .int .i64 1, .int .i64 t460] (0, 0) _ rfl (blk_fars (puts3 BK450.out)) Try.underlying31 rfl (by kernel_rfl)) rfl ?_
       exact ⟨eqN, bel_now⟩
      rw [if_pos c98] at H;have c98b0 : (a1_0 == 0) = true := beq_iff_eq.mpr c98;have c98b1 : (a1_0 != 0) = false := bne_eq_false_iff_eq.mpr c98;clear c98;obtain ⟨t457, A99, H⟩ := bnd H;(try dsimp only at H);by_cases c100 : t457 > 64
      ·rw [if_pos c100] at H;have c100b0 : decide (64 < t457) = true := decide_eq_true c100;clear c100;simp only [Option.some.injEq, Prod.mk.injEq] at H;obtain ⟨rfl, rfl, rfl, rfl⟩ := H;have hn101 := ne2 NB449_448;have hn102 := ne2 NB449_450;have hn103 := ne2 NB449_451;have hn104 := ne2 NB449_456;have hcz105 := cells9 BK449.out
       try go_wp2
       replace BK448 := am (blk_drew BK448.out);replace BK449 := am (blk_drew BK449.out);replace BK450 := am (blk_drew BK450.out);replace BK451 := am (blk_drew BK451.out);replace BK456 := am (blk_drew BK456.out);replace HB := am (below_drew1 HB.out)
       refine start_ (n := 14) (S := fun w' => w'.cell? ⟨gb448, 0, none⟩ = some (.int .i64 a0_0) ∧ w'.cell? ⟨gb448, 1, none⟩ = some (.int .i64 a0_1) ∧ w'.cell? ⟨gb448, 2, none⟩ = some (.int .i64 a0_2)) (ds := []) #[O, O, O, O, O, O, O, O, O, O, O, O, O, O] (by kernel_rfl) rfl rfl ⟨bc BK448 0, bc BK448 1, bc BK448 2⟩ (fun hHeld => ?_); refine with_tabW spec_OutShape.tab15 spec_OutShape.bits15 (fun HT_ HW_ => ?_)
       generalize wc.drew = w106 at BK448 BK449 BK450 BK451 BK456 HB hHeld ⊢
       refine stepT 0 (some 70) (tk 14 1) (take_ofW HT_.out HW_.out (by kernel_rfl)) hHeld ?_
       refine one_ (i := 1) (N := some 71) #[I, I, O, O, O, O, O, O, O, O, O, O, O, O] rfl rfl (one_of HT_.out (by kernel_rfl)) (by decide) (fun K hK => ?_)
       refine goes_ Try.func73 (by kernel_rfl) rfl #[.agg #[.int .i64 a0_0, .int .i64 a0_1, .int .i64 a0_2]] (by rfl) rfl rfl (by (try simp only [List.map_toArray, List.map_cons, List.map_nil]); first | done | rfl | (simp only [List.length_drop, List.length_take]; rfl)) ?_
       with_reducible refine (spec_SizeOf.calls a0_0 a0_1 a0_2 t457 _ A99.out).mono ?_
       rintro e w107 ⟨rfl, hb⟩
       refine ⟨_, rfl, ?_⟩
       replace BK448 := blk_on gb448 hb;replace BK449 := blk_on gb449 hb;replace BK450 := blk_on gb450 hb;replace BK451 := blk_on gb451 hb;replace BK456 := blk_on gb456 hb;replace HB := bel_on w hb;(try clear hb);(try clear hb2);(try clear hb3);(try clear hk);(try clear hi)
       refine hK.out _ _ ⟨bc BK448 0, bc BK448 1, bc BK448 2⟩ (fun hHeld => ?_)
       clear hK K
       refine normP 71 ?_
       refine stepP 2 (some 72) (tk 14 7) (any_of HT_.out (by kernel_rfl)) ?_
       refine stepP 3 (some 73) (tk 14 15) (any_of HT_.out (by kernel_rfl)) ?_
       refine stepU 4 (some 74) (tk 14 31) (any_of HT_.out (by kernel_rfl)) ?_
       refine stepU 5 (some 75) (tk 14 63) (any_of HT_.out (by kernel_rfl)) ?_
       refine stepU 6 (some 76) (tk 14 127) (any_of HT_.out (by kernel_rfl)) ?_
       refine stepU 7 (some 77) (tk 14 255) (any_of HT_.out (by kernel_rfl)) ?_
       refine stepU 8 (some 78) (tk 14 511) (any_of HT_.out (by kernel_rfl)) ?_
       refine stepU 9 (some 79) (tk 14 1023) (any_of HT_.out (by kernel_rfl)) ?_
       refine stepU 10 (some 80) (tk 14 2047) (any_of HT_.out (by kernel_rfl)) ?_
       refine stepU 11 (some 81) (tk 14 4095) (any_of HT_.out (by kernel_rfl)) ?_
       refine stepU 12 (some 82) (tk 14 8191) (any_of HT_.out (by kernel_rfl)) ?_
       refine stepP 13 (some 83) (tk 14 16383) (any_of HT_.out (by kernel_rfl)) ?_
       refine done_ (done_of HT_.out (by kernel_rfl)) ?_
       have hn108 := ne2 NB451_448;have hn109 := ne2 NB451_450;have hn110 := ne2 NB451_456;have hcz111 := cells3 BK451.out;have hn112 := ne2 NB450_448;have hn113 := ne2 NB450_456;have hcz114 := cells3 BK450.out
       try go_wp2
       refine bodyPost_ret (results_ct rfl _ _ gb450 31 #[.int .i64 0, .int .i64 0, .int .i64 0] (0, 0) _ rfl (blk_fars (puts3 BK450.out)) Try.underlying31 rfl (by kernel_rfl)) rfl ?_
       exact ⟨eqN, bel_now⟩
      rw [if_neg c100] at H;have c100b0 : decide (64 < t457) = false := decide_eq_false c100;clear c100;obtain ⟨t458, A115, H⟩ := bnd H;(try dsimp only at H);by_cases c116 : (l1_7.length : Int) = (wrap64 (a1_1 * t458))
      ·rw [if_pos c116] at H;have c116b0 : ((l1_7.length : Int) == (wrap64 (a1_1 * t458))) = true := beq_iff_eq.mpr c116;have c116b1 : ((l1_7.length : Int) != (wrap64 (a1_1 * t458))) = false := bne_eq_false_iff_eq.mpr c116;clear c116;simp only [Option.some.injEq, Prod.mk.injEq] at H;obtain ⟨rfl, rfl, rfl, rfl⟩ := H;have hn117 := ne2 NB449_448;have hn118 := ne2 NB449_450;have hn119 := ne2 NB449_451;have hn120 := ne2 NB449_456;have hcz121 := cells9 BK449.out
       try go_wp2
       replace BK448 := am (blk_drew BK448.out);replace BK449 := am (blk_drew BK449.out);replace BK450 := am (blk_drew BK450.out);replace BK451 := am (blk_drew BK451.out);replace BK456 := am (blk_drew BK456.out);replace HB := am (below_drew1 HB.out)
       refine start_ (n := 14) (S := fun w' => w'.cell? ⟨gb448, 0, none⟩ = some (.int .i64 a0_0) ∧ w'.cell? ⟨gb448, 1, none⟩ = some (.int .i64 a0_1) ∧ w'.cell? ⟨gb448, 2, none⟩ = some (.int .i64 a0_2) ∧ w'.cell? ⟨gb449, 0, none⟩ = some (.int .i64 a1_0) ∧ w'.cell? ⟨gb449, 1, none⟩ = some (.int .i64 a1_1) ∧ w'.cell? ⟨gb449, 2, none⟩ = some (.int .i64 a1_2) ∧ w'.cell? ⟨gb449, 3, none⟩ = some (.int .i64 a1_3) ∧ w'.cell? ⟨gb449, 4, none⟩ = some (.int .i64 a1_4) ∧ w'.cell? ⟨gb449, 5, none⟩ = some (.int .i64 a1_5) ∧ w'.cell? ⟨gb449, 6, none⟩ = some (.int .i64 a1_6) ∧ w'.cell? ⟨gb449, 7, none⟩ = some (.slice A1_7 l1_7.length c1_7) ∧ w'.cell? ⟨gb449, 8, none⟩ = some (.slice A1_8 l1_8.length c1_8)) (ds := []) #[O, O, O, O, O, O, O, O, O, O, O, O, O, O] (by kernel_rfl) rfl rfl ⟨bc BK448 0, bc BK448 1, bc BK448 2, bc BK449 0, bc BK449 1, bc BK449 2, bc BK449 3, bc BK449 4, bc BK449 5, bc BK449 6, bc BK449 7, bc BK449 8⟩ (fun hHeld => ?_); refine with_tabW spec_OutShape.tab15 spec_OutShape.bits15 (fun HT_ HW_ => ?_)
       generalize wc.drew = w122 at BK448 BK449 BK450 BK451 BK456 HB hHeld ⊢
       refine stepT 0 (some 70) (tk 14 1) (take_ofW HT_.out HW_.out (by kernel_rfl)) hHeld ?_
       refine one_ (i := 1) (N := some 71) #[I, I, O, O, O, O, O, O, O, O, O, O, O, O] rfl rfl (one_of HT_.out (by kernel_rfl)) (by decide) (fun K hK => ?_)
       refine goes_ Try.func73 (by kernel_rfl) rfl #[.agg #[.int .i64 a0_0, .int .i64 a0_1, .int .i64 a0_2]] (by rfl) rfl rfl (by (try simp only [List.map_toArray, List.map_cons, List.map_nil]); first | done | rfl | (simp only [List.length_drop, List.length_take]; rfl)) ?_
       with_reducible refine (spec_SizeOf.calls a0_0 a0_1 a0_2 t457 _ A99.out).mono ?_
       rintro e w123 ⟨rfl, hb⟩
       refine ⟨_, rfl, ?_⟩
       replace BK448 := blk_on gb448 hb;replace BK449 := blk_on gb449 hb;replace BK450 := blk_on gb450 hb;replace BK451 := blk_on gb451 hb;replace BK456 := blk_on gb456 hb;replace HB := bel_on w hb;(try clear hb);(try clear hb2);(try clear hb3);(try clear hk);(try clear hi)
       refine hK.out _ _ ⟨bc BK448 0, bc BK448 1, bc BK448 2, bc BK449 0, bc BK449 1, bc BK449 2, bc BK449 3, bc BK449 4, bc BK449 5, bc BK449 6, bc BK449 7, bc BK449 8⟩ (fun hHeld => ?_)
       clear hK K
       refine normP 71 ?_
       refine stepP 2 (some 72) (tk 14 7) (any_of HT_.out (by kernel_rfl)) ?_
       refine stepP 3 (some 73) (tk 14 15) (any_of HT_.out (by kernel_rfl)) ?_
       refine stepP 4 (some 74) (tk 14 31) (any_of HT_.out (by kernel_rfl)) ?_
       refine stepP 7 (some 77) (tk 14 159) (any_of HT_.out (by kernel_rfl)) ?_
       refine stepT 5 (some 75) (tk 14 191) (take_ofW HT_.out HW_.out (by kernel_rfl)) hHeld ?_
       refine stepP 6 (some 76) (tk 14 255) (any_of HT_.out (by kernel_rfl)) ?_
       refine stepT 8 (some 78) (tk 14 511) (take_ofW HT_.out HW_.out (by kernel_rfl)) hHeld ?_
       refine stepT 9 (some 79) (tk 14 1023) (take_ofW HT_.out HW_.out (by kernel_rfl)) hHeld ?_
       refine one_ (i := 10) (N := some 80) #[I, I, I, I, I, I, I, I, I, I, I, O, O, O] rfl rfl (one_of HT_.out (by kernel_rfl)) (by decide) (fun K hK => ?_)
       refine goes_ Try.func73 (by kernel_rfl) rfl #[.agg #[.int .i64 a0_0, .int .i64 a0_1, .int .i64 a0_2]] (by rfl) rfl rfl (by (try simp only [List.map_toArray, List.map_cons, List.map_nil]); first | done | rfl | (simp only [List.length_drop, List.length_take]; rfl)) ?_
       with_reducible refine (spec_SizeOf.calls a0_0 a0_1 a0_2 t458 _ A115.out).mono ?_
       rintro e w124 ⟨rfl, hb⟩
       refine ⟨_, rfl, ?_⟩
       replace BK448 := blk_on gb448 hb;replace BK449 := blk_on gb449 hb;replace BK450 := blk_on gb450 hb;replace BK451 := blk_on gb451 hb;replace BK456 := blk_on gb456 hb;replace HB := bel_on w hb;(try clear hb);(try clear hb2);(try clear hb3);(try clear hk);(try clear hi)
       refine hK.out _ _ ⟨bc BK448 0, bc BK448 1, bc BK448 2, bc BK449 0, bc BK449 1, bc BK449 2, bc BK449 3, bc BK449 4, bc BK449 5, bc BK449 6, bc BK449 7, bc BK449 8⟩ (fun hHeld => ?_)
       clear hK K
       refine normP 80 ?_
       refine stepP 11 (some 81) (tk 14 4095) (any_of HT_.out (by kernel_rfl)) ?_
       refine stepP 12 (some 82) (tk 14 8191) (any_of HT_.out (by kernel_rfl)) ?_
       refine stepP 13 (some 83) (tk 14 16383) (any_of HT_.out (by kernel_rfl)) ?_
       refine done_ (done_of HT_.out (by kernel_rfl)) ?_
       have hcz125 := cells9 BK449.out;have hn126 := ne2 NB450_448;have hn127 := ne2 NB450_451;have hn128 := ne2 NB450_456;have hcz129 := cells3 BK450.out
       try go_wp2
       refine bodyPost_ret (results_ct rfl _ _ gb450 31 #[.int .i64 1, .int .i64 1, .int .i64 a1_1] (0, 0) _ rfl (blk_fars (puts3 BK450.out)) Try.underlying31 rfl (by kernel_rfl)) rfl ?_
       exact ⟨eqN, bel_now⟩
      rw [if_neg c116] at H;have c116b0 : ((l1_7.length : Int) == (wrap64 (a1_1 * t458))) = false := beq_eq_false_iff_ne.mpr c116;have c116b1 : ((l1_7.length : Int) != (wrap64 (a1_1 * t458))) = true := bne_iff_ne.mpr c116;simp only [Option.some.injEq, Prod.mk.injEq] at H;obtain ⟨rfl, rfl, rfl, rfl⟩ := H;have hn130 := ne2 NB449_448;have hn131 := ne2 NB449_450;have hn132 := ne2 NB449_451;have hn133 := ne2 NB449_456;have hcz134 := cells9 BK449.out
      try go_wp2
      replace BK448 := am (blk_drew BK448.out);replace BK449 := am (blk_drew BK449.out);replace BK450 := am (blk_drew BK450.out);replace BK451 := am (blk_drew BK451.out);replace BK456 := am (blk_drew BK456.out);replace HB := am (below_drew1 HB.out)
      refine start_ (n := 14) (S := fun w' => w'.cell? ⟨gb448, 0, none⟩ = some (.int .i64 a0_0) ∧ w'.cell? ⟨gb448, 1, none⟩ = some (.int .i64 a0_1) ∧ w'.cell? ⟨gb448, 2, none⟩ = some (.int .i64 a0_2) ∧ w'.cell? ⟨gb449, 0, none⟩ = some (.int .i64 a1_0) ∧ w'.cell? ⟨gb449, 1, none⟩ = some (.int .i64 a1_1) ∧ w'.cell? ⟨gb449, 2, none⟩ = some (.int .i64 a1_2) ∧ w'.cell? ⟨gb449, 3, none⟩ = some (.int .i64 a1_3) ∧ w'.cell? ⟨gb449, 4, none⟩ = some (.int .i64 a1_4) ∧ w'.cell? ⟨gb449, 5, none⟩ = some (.int .i64 a1_5) ∧ w'.cell? ⟨gb449, 6, none⟩ = some (.int .i64 a1_6) ∧ w'.cell? ⟨gb449, 7, none⟩ = some (.slice A1_7 l1_7.length c1_7) ∧ w'.cell? ⟨gb449, 8, none⟩ = some (.slice A1_8 l1_8.length c1_8)) (ds := []) #[O, O, O, O, O, O, O, O, O, O, O, O, O, O] (by kernel_rfl) rfl rfl ⟨bc BK448 0, bc BK448 1, bc BK448 2, bc BK449 0, bc BK449 1, bc BK449 2, bc BK449 3, bc BK449 4, bc BK449 5, bc BK449 6, bc BK449 7, bc BK449 8⟩ (fun hHeld => ?_); refine with_tabW spec_OutShape.tab15 spec_OutShape.bits15 (fun HT_ HW_ => ?_)
      generalize wc.drew = w135 at BK448 BK449 BK450 BK451 BK456 HB hHeld ⊢
      refine stepT 0 (some 70) (tk 14 1) (take_ofW HT_.out HW_.out (by kernel_rfl)) hHeld ?_
      refine one_ (i := 1) (N := some 71) #[I, I, O, O, O, O, O, O, O, O, O, O, O, O] rfl rfl (one_of HT_.out (by kernel_rfl)) (by decide) (fun K hK => ?_)
      refine goes_ Try.func73 (by kernel_rfl) rfl #[.agg #[.int .i64 a0_0, .int .i64 a0_1, .int .i64 a0_2]] (by rfl) rfl rfl (by (try simp only [List.map_toArray, List.map_cons, List.map_nil]); first | done | rfl | (simp only [List.length_drop, List.length_take]; rfl)) ?_
      with_reducible refine (spec_SizeOf.calls a0_0 a0_1 a0_2 t457 _ A99.out).mono ?_
      rintro e w136 ⟨rfl, hb⟩
      refine ⟨_, rfl, ?_⟩
      replace BK448 := blk_on gb448 hb;replace BK449 := blk_on gb449 hb;replace BK450 := blk_on gb450 hb;replace BK451 := blk_on gb451 hb;replace BK456 := blk_on gb456 hb;replace HB := bel_on w hb;(try clear hb);(try clear hb2);(try clear hb3);(try clear hk);(try clear hi)
      refine hK.out _ _ ⟨bc BK448 0, bc BK448 1, bc BK448 2, bc BK449 0, bc BK449 1, bc BK449 2, bc BK449 3, bc BK449 4, bc BK449 5, bc BK449 6, bc BK449 7, bc BK449 8⟩ (fun hHeld => ?_)
      clear hK K
      refine normP 71 ?_
      refine stepP 2 (some 72) (tk 14 7) (any_of HT_.out (by kernel_rfl)) ?_
      refine stepP 3 (some 73) (tk 14 15) (any_of HT_.out (by kernel_rfl)) ?_
      refine stepP 4 (some 74) (tk 14 31) (any_of HT_.out (by kernel_rfl)) ?_
      refine stepP 7 (some 77) (tk 14 159) (any_of HT_.out (by kernel_rfl)) ?_
      refine stepT 5 (some 75) (tk 14 191) (take_ofW HT_.out HW_.out (by kernel_rfl)) hHeld ?_
      refine stepP 6 (some 76) (tk 14 255) (any_of HT_.out (by kernel_rfl)) ?_
      refine stepT 8 (some 78) (tk 14 511) (take_ofW HT_.out HW_.out (by kernel_rfl)) hHeld ?_
      refine stepT 9 (some 79) (tk 14 1023) (take_ofW HT_.out HW_.out (by kernel_rfl)) hHeld ?_
      refine one_ (i := 10) (N := some 80) #[I, I, I, I, I, I, I, I, I, I, I, O, O, O] rfl rfl (one_of HT_.out (by kernel_rfl)) (by decide) (fun K hK => ?_)
      refine goes_ Try.func73 (by kernel_rfl) rfl #[.agg #[.int .i64 a0_0, .int .i64 a0_1, .int .i64 a0_2]] (by rfl) rfl rfl (by (try simp only [List.map_toArray, List.map_cons, List.map_nil]); first | done | rfl | (simp only [List.length_drop, List.length_take]; rfl)) ?_
      with_reducible refine (spec_SizeOf.calls a0_0 a0_1 a0_2 t458 _ A115.out).mono ?_
      rintro e w137 ⟨rfl, hb⟩
      refine ⟨_, rfl, ?_⟩
      replace BK448 := blk_on gb448 hb;replace BK449 := blk_on gb449 hb;replace BK450 := blk_on gb450 hb;replace BK451 := blk_on gb451 hb;replace BK456 := blk_on gb456 hb;replace HB := bel_on w hb;(try clear hb);(try clear hb2);(try clear hb3);(try clear hk);(try clear hi)
      refine hK.out _ _ ⟨bc BK448 0, bc BK448 1, bc BK448 2, bc BK449 0, bc BK449 1, bc BK449 2, bc BK449 3, bc BK449 4, bc BK449 5, bc BK449 6, bc BK449 7, bc BK449 8⟩ (fun hHeld => ?_)
      clear hK K
      refine normP 80 ?_
      refine stepP 11 (some 81) (tk 14 4095) (any_of HT_.out (by kernel_rfl)) ?_
      refine stepP 12 (some 82) (tk 14 8191) (any_of HT_.out (by kernel_rfl)) ?_
      refine stepP 13 (some 83) (tk 14 16383) (any_of HT_.out (by kernel_rfl)) ?_
      refine done_ (done_of HT_.out (by kernel_rfl)) ?_
      have hn138 := ne2 NB451_448;have hn139 := ne2 NB451_450;have hn140 := ne2 NB451_456;have hcz141 := cells3 BK451.out;have hn142 := ne2 NB450_448;have hn143 := ne2 NB450_456;have hcz144 := cells3 BK450.out
      try go_wp2
      refine bodyPost_ret (results_ct rfl _ _ gb450 31 #[.int .i64 0, .int .i64 0, .int .i64 0] (0, 0) _ rfl (blk_fars (puts3 BK450.out)) Try.underlying31 rfl (by kernel_rfl)) rfl ?_
      exact ⟨eqN, bel_now⟩

end Go.Proofs.Ytclpojeofclbjaa.PFnLayers
