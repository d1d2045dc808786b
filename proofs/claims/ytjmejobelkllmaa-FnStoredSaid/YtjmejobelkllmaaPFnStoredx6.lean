import Derived.Test.YtjmejobelkllmaaPFnStoredx0
import Derived.Test.YtjmejobelkllmaaPFnStoredx2
import Derived.Test.YtjmejobelkllmaaPFnStoredx5
namespace Go.Proofs.Ytjmejobelkllmaa.PFnStored
open Go.RowKit Go.Proofs.YtjmejobelkllmaaW.PrintWords Go.Proofs.YtjmejobelkllmaaW.PrintLast Go.Proofs.YtjmejobelkllmaaW.PrintMore
attribute [local go_sem] max2_int min2_int max_two min_two max_three min_three max_four min_four
set_option maxHeartbeats 8000000
set_option maxRecDepth 100000
set_option linter.unusedVariables false
set_option linter.unusedSimpArgs false

mutual
def spec_OutShape.j0 : Nat → Bool → Int → Int → Int → Int → Int → Int → Int → Int → Int → Int → List Int → List Int → Int → Int → Int → Option (Int × Int × Int × Bool)
  | 0, _, _, _, _, _, _, _, _, _, _, _, _, _, _, _, _ => none
  | k + 1, x18, x219000, x219001, x219002, x220000, x220001, x220002, x220003, x220004, x220005, x220006, x220007, x220008, x222000, x222001, x222002 => if x18 = true then (some (x222000, x222001, x222002, false)) else ((spec_l01In.f x220000 1 3).bind fun t224 => ((spec_l03Plain.f k x220000 x220001 x220002 x220003 x220004 x220005 x220006 x220007 x220008 t224 (decide (x220000 ≤ 1))).bind fun t225 => (if t225 = true then (if t224 = true then (if x220002 > x219000 then (some (x222000, x222001, x222002, false)) else (if x220002 > x219001 then (some (x222000, x222001, x222002, false)) else (if x220003 = 0 then (none) else (spec_OutShape.j1 k x219000 x219001 x219002 x220000 x220001 x220002 x220003 x220004 x220005 x220006 x220007 x220008 x222000 x222001 x222002 (wrap64 ((wrap64 (Int.tdiv (wrap64 (x219000 - x220002)) x220003)) + 1)) (wrap64 ((wrap64 (Int.tdiv (wrap64 (x219001 - x220002)) x220003)) + 1)) x219002)))) else (spec_OutShape.j1 k x219000 x219001 x219002 x220000 x220001 x220002 x220003 x220004 x220005 x220006 x220007 x220008 x222000 x222001 x222002 x219000 x219001 x219002)) else (some (x222000, x222001, x222002, false)))))
def spec_OutShape.j1 : Nat → Int → Int → Int → Int → Int → Int → Int → Int → Int → Int → List Int → List Int → Int → Int → Int → Int → Int → Int → Option (Int × Int × Int × Bool)
  | 0, _, _, _, _, _, _, _, _, _, _, _, _, _, _, _, _, _, _ => none
  | k + 1, x219000, x219001, x219002, x220000, x220001, x220002, x220003, x220004, x220005, x220006, x220007, x220008, x222000, x222001, x222002, x227000, x227001, x227002 => if x220000 = 0 then ((spec_SizeOf.f x219000 x219001 x219002).bind fun t227 => (if t227 > 64 then (some (x222000, x222001, x222002, false)) else ((spec_SizeOf.f x219000 x219001 x219002).bind fun t228 => (if (x220007.length : Int) = (wrap64 (x220001 * t228)) then (some (1, 1, x220001, true)) else (some (x222000, x222001, x222002, false)))))) else (if x220000 = 1 then (if (x220007.length : Int) = (wrap64 ((wrap64 ((wrap64 (x220001 * x220002)) * x220002)) * x219002)) then (if (x220007.length : Int) > 600 then (some (x222000, x222001, x222002, false)) else (some (x227000, x227001, x220001, true))) else (some (x222000, x222001, x222002, false))) else (if x220000 = 5 then ((spec_SizeOf.f x219000 x219001 x219002).bind fun t229 => (if t229 > 8 then (some (x222000, x222001, x222002, false)) else ((spec_SizeOf.f x219000 x219001 x219002).bind fun t230 => (some (1, 1, t230, true))))) else (some (x227000, x227001, x227002, true))))
end
def spec_OutShape.f (k : Nat) (a0_0 : Int) (a0_1 : Int) (a0_2 : Int) (a1_0 : Int) (a1_1 : Int) (a1_2 : Int) (a1_3 : Int) (a1_4 : Int) (a1_5 : Int) (a1_6 : Int) (l1_7 : List Int) (l1_8 : List Int) : Option (Int × Int × Int × Bool) := (spec_ShapeOk.f a0_0 a0_1 a0_2).bind fun t222 => (if t222 = true then ((spec_l01In.f a1_0 0 5).bind fun t223 => (spec_OutShape.j0 k (!t223) a0_0 a0_1 a0_2 a1_0 a1_1 a1_2 a1_3 a1_4 a1_5 a1_6 l1_7 l1_8 0 0 0)) else (spec_OutShape.j0 k true a0_0 a0_1 a0_2 a1_0 a1_1 a1_2 a1_3 a1_4 a1_5 a1_6 l1_7 l1_8 0 0 0))
def spec_OutShape.T15 : Bool × List (List Nat × List Nat) := (true, [([], []), ([0], [0]), ([1], [1]), ([2, 1], [2]), ([3], [3]), ([4, 3], [3, 4]), ([5, 3], [3, 5]), ([3], [3]), ([7, 3], [3, 7]), ([3], [3]), ([9, 3, 3], [3, 9]), ([8, 10, 3], [3, 8, 10]), ([6, 11, 3], [3, 6, 11]), ([3, 12], [3, 12])])
def spec_OutShape.B15 : List Nat := [0, 1, 3, 7, 15, 31, 63, 15, 143, 15, 527, 1935, 4095, 8191]
theorem spec_OutShape.tab15 : rtab .any (opsOf Try.f84 15) = spec_OutShape.T15 := by kernel_rfl
theorem spec_OutShape.bits15 : waitsOk spec_OutShape.T15.2 spec_OutShape.B15 = true := by kernel_rfl
theorem spec_OutShape.calls (k : Nat) (a0_0 : Int) (a0_1 : Int) (a0_2 : Int) (a1_0 : Int) (a1_1 : Int) (a1_2 : Int) (a1_3 : Int) (a1_4 : Int) (a1_5 : Int) (a1_6 : Int) (A1_7 : Option Addr) (c1_7 : Nat) (l1_7 : List Int) (A1_8 : Option Addr) (c1_8 : Nat) (l1_8 : List Int) (r1 : Int) (r2 : Int) (r3 : Int) (r4 : Bool) (w : World) (hr1_7 : Kd.C (Kd.int .i64) w A1_7 l1_7.length l1_7) (hc1_7 : l1_7.length ≤ c1_7) (hr1_8 : Kd.C (Kd.int .i64) w A1_8 l1_8.length l1_8) (hc1_8 : l1_8.length ≤ c1_8) (h : spec_OutShape.f k a0_0 a0_1 a0_2 a1_0 a1_1 a1_2 a1_3 a1_4 a1_5 a1_6 l1_7 l1_8 = some (r1, r2, r3, r4)) :
   Calls Try.prog 84 #[.agg #[.int .i64 a0_0, .int .i64 a0_1, .int .i64 a0_2], .agg #[.int .i64 a1_0, .int .i64 a1_1, .int .i64 a1_2, .int .i64 a1_3, .int .i64 a1_4, .int .i64 a1_5, .int .i64 a1_6, .slice A1_7 l1_7.length c1_7, .slice A1_8 l1_8.length c1_8]] w fun e w' => e = .returned (.tuple #[.agg #[.int .i64 r1, .int .i64 r2, .int .i64 r3], .bool r4]) ∧ Below w.heap.size w w' := by
  have hu24 := Try.underlying24;have hu46 := Try.underlying46;have HR1_7 := am hr1_7;have HC1_7 := am hc1_7;clear hr1_7 hc1_7;have HR1_8 := am hr1_8;have HC1_8 := am hc1_8;clear hr1_8 hc1_8;have HB := am (Below.refl w.heap.size w);have H : ((spec_ShapeOk.f a0_0 a0_1 a0_2).bind fun t222 => (if t222 = true then ((spec_l01In.f a1_0 0 5).bind fun t223 => (spec_OutShape.j0 k (!t223) a0_0 a0_1 a0_2 a1_0 a1_1 a1_2 a1_3 a1_4 a1_5 a1_6 l1_7 l1_8 0 0 0)) else (spec_OutShape.j0 k true a0_0 a0_1 a0_2 a1_0 a1_1 a1_2 a1_3 a1_4 a1_5 a1_6 l1_7 l1_8 0 0 0))) = some (r1, r2, r3, r4) := h;clear h;have HC3 := am H;clear H
  go_enter Try.func84, Try.ntmps84
  go_upto_region 2 with (first | ((with_reducible refine gate_dst (N := 2) rfl ?_); (try (refine gate_guard (by rfl) ?_; dsimp only)); refine boxM 2 #[.int .i64 a0_0, .int .i64 a0_1, .int .i64 a0_2] 24 ?_; intro gb218 hg w4 BK218 hb; obtain ⟨HB, GW218, GE218⟩ := box_at w hb hg; clear hb hg) | ((with_reducible refine gate_dst (N := 3) rfl ?_); (try (refine gate_guard (by rfl) ?_; dsimp only)); refine boxM 3 #[.int .i64 a1_0, .int .i64 a1_1, .int .i64 a1_2, .int .i64 a1_3, .int .i64 a1_4, .int .i64 a1_5, .int .i64 a1_6, .slice A1_7 l1_7.length c1_7, .slice A1_8 l1_8.length c1_8] 46 ?_; intro gb219 hg w5 BK219 hb; obtain ⟨HB, GW219, GE219⟩ := box_at w hb hg; obtain ⟨BK218, NB218_219, NB219_218⟩ := box_on gb218 hb hg; clear hb hg) | ((with_reducible refine gate_dst (N := 4) rfl ?_); (try (refine gate_guard (by rfl) ?_; dsimp only)); refine boxM 4 #[.int .i64 0, .int .i64 0, .int .i64 0] 24 ?_; intro gb220 hg w6 BK220 hb; obtain ⟨HB, GW220, GE220⟩ := box_at w hb hg; obtain ⟨BK218, NB218_220, NB220_218⟩ := box_on gb218 hb hg; obtain ⟨BK219, NB219_220, NB220_219⟩ := box_on gb219 hb hg; clear hb hg) | ((with_reducible refine gate_dst (N := 6) rfl ?_); (try (refine gate_guard (by rfl) ?_; dsimp only)); refine boxM 6 #[.int .i64 0, .int .i64 0, .int .i64 0] 24 ?_; intro gb221 hg w7 BK221 hb; obtain ⟨HB, GW221, GE221⟩ := box_at w hb hg; obtain ⟨BK218, NB218_221, NB221_218⟩ := box_on gb218 hb hg; obtain ⟨BK219, NB219_221, NB221_219⟩ := box_on gb219 hb hg; obtain ⟨BK220, NB220_221, NB221_220⟩ := box_on gb220 hb hg; clear hb hg; have hn8 := ne2 NB221_218; have hn9 := ne2 NB221_219; have hn10 := ne2 NB221_220; have hcz11 := cells3 BK221.out))
  (try simp only [Act.put, zA, zB, zC])
  go_cut [18] (fun v18 wc => ∃ (kq : Nat) (x18_2 : Bool), v18 = .bool x18_2 ∧ Aside0 (spec_OutShape.j0 kq x18_2 a0_0 a0_1 a0_2 a1_0 a1_1 a1_2 a1_3 a1_4 a1_5 a1_6 l1_7 l1_8 0 0 0 = some (r1, r2, r3, r4)) ∧ Aside0 (kq ≤ k) ∧ Aside0 (wc.heap[gb218]? = some (.cells #[.int .i64 a0_0, .int .i64 a0_1, .int .i64 a0_2] 24 (0, 0))) ∧ Aside0 (wc.heap[gb219]? = some (.cells #[.int .i64 a1_0, .int .i64 a1_1, .int .i64 a1_2, .int .i64 a1_3, .int .i64 a1_4, .int .i64 a1_5, .int .i64 a1_6, (.slice A1_7 l1_7.length c1_7), (.slice A1_8 l1_8.length c1_8)] 46 (0, 0))) ∧ Aside0 (wc.heap[gb220]? = some (.cells #[.int .i64 0, .int .i64 0, .int .i64 0] 24 (0, 0))) ∧ Aside0 (wc.heap[gb221]? = some (.cells #[.int .i64 0, .int .i64 0, .int .i64 0] 24 (0, 0))) ∧ Aside0 (Below w.heap.size w wc))
  case first =>
   have H := HC3.out;clear HC3;obtain ⟨t222, A12, H⟩ := bnd H;(try dsimp only at H);by_cases c13 : t222 = true;rotate_left
   ·replace c13 := Bool.eq_false_iff.mpr c13;subst c13
    rw [if_neg (show ¬ (false = true) by decide)] at H
    have H' := am H;clear H;have hn23 := ne2 NB218_219;have hn24 := ne2 NB218_220;have hn25 := ne2 NB218_221;have hcz26 := cells3 BK218.out
    go_wp2_with (first | ((with_reducible refine gate_callee (f := 45) rfl ?_); refine gM 11 Try.func45 #[.agg #[.int .i64 a0_0, .int .i64 a0_1, .int .i64 a0_2]] rfl ?_; (with_reducible refine (spec_ShapeOk.calls a0_0 a0_1 a0_2 false _ A12.out).mono ?_); rintro e w27 ⟨rfl, hb⟩; refine ⟨_, rfl, ?_⟩; replace HB := bel_on w hb; replace BK218 := blk_onP gb218 hb; replace BK219 := blk_onP gb219 hb; replace BK220 := blk_onP gb220 hb; replace BK221 := blk_onP gb221 hb; (try clear hb)))
    go_meet
    case rel => exact ⟨_, (true), pv, H', ⟨by first | omega | exact Nat.le_refl _⟩, ⟨bks BK218⟩, ⟨bks BK219⟩, ⟨bks BK220⟩, ⟨bks BK221⟩, ⟨bel_now⟩⟩
   subst c13;rw [if_pos rfl] at H;obtain ⟨t223, A14, H⟩ := bnd H;(try dsimp only at H);have H' := am H;clear H;have hn15 := ne2 NB218_219;have hn16 := ne2 NB218_220;have hn17 := ne2 NB218_221;have hcz18 := cells3 BK218.out
   go_wp2_with (first | ((with_reducible refine gate_callee (f := 45) rfl ?_); refine gM 11 Try.func45 #[.agg #[.int .i64 a0_0, .int .i64 a0_1, .int .i64 a0_2]] rfl ?_; (with_reducible refine (spec_ShapeOk.calls a0_0 a0_1 a0_2 true _ A12.out).mono ?_); rintro e w19 ⟨rfl, hb⟩; refine ⟨_, rfl, ?_⟩; replace HB := bel_on w hb; replace BK218 := blk_onP gb218 hb; replace BK219 := blk_onP gb219 hb; replace BK220 := blk_onP gb220 hb; replace BK221 := blk_onP gb221 hb; (try clear hb); have hn20 := ne2 NB219_220; have hn21 := ne2 NB219_221; have hcz22 := cells9 BK219.out) | (go_at_call 68; (with_reducible refine (spec_l01In.calls a1_0 0 5 t223 _ A14.out).mono ?_); rintro e w' ⟨rfl, ⟨nd, rfl⟩⟩))
   go_meet
   case rel => exact ⟨_, (!t223), pv, H', ⟨by first | omega | exact Nat.le_refl _⟩, ⟨bks BK218⟩, ⟨bks BK219⟩, ⟨bks BK220⟩, ⟨bks BK221⟩, ⟨bel_now⟩⟩
  case rest =>
   clear HC3;try clear hcz11
   obtain ⟨kq, x18_2, rfl, HA, HJ2, BK218, BK219, BK220, BK221, HB⟩ := hcut
   cases kq with
   | zero => exact absurd HA.out (by simp [spec_OutShape.j0])
   | succ kj2 =>
    have H := HA.out;clear HA;simp only [spec_OutShape.j0] at H;by_cases c28 : x18_2 = true
    ·subst c28;rw [if_pos rfl] at H;simp only [Option.some.injEq, Prod.mk.injEq] at H;obtain ⟨rfl, rfl, rfl, rfl⟩ := H;have hn29 := ne2 NB221_218;have hn30 := ne2 NB221_219;have hn31 := ne2 NB221_220;have hcz32 := cells3 BK221.out;have hn33 := ne2 NB220_218;have hn34 := ne2 NB220_219;have hcz35 := cells3 BK220.out
     go_wp2
     refine bodyPost_ret (results_ct rfl _ _ gb220 24 #[.int .i64 0, .int .i64 0, .int .i64 0] (0, 0) _ rfl (blk_fars (puts3 BK220.out)) Try.underlying24 rfl (by kernel_rfl)) rfl ?_
     exact ⟨eqN, bel_now⟩
    replace c28 := Bool.eq_false_iff.mpr c28;subst c28
    rw [if_neg (show ¬ (false = true) by decide)] at H
    obtain ⟨t224, A36, H⟩ := bnd H;(try dsimp only at H);obtain ⟨t225, A37, H⟩ := bnd H;(try dsimp only at H);by_cases c38 : t225 = true;rotate_left
    ·replace c38 := Bool.eq_false_iff.mpr c38;subst c38
     rw [if_neg (show ¬ (false = true) by decide)] at H
     simp only [Option.some.injEq, Prod.mk.injEq] at H;obtain ⟨rfl, rfl, rfl, rfl⟩ := H;have hn236 := ne2 NB219_218;have hn237 := ne2 NB219_220;have hn238 := ne2 NB219_221;have hcz239 := cells9 BK219.out
     go_wp2_with (first | ((with_reducible refine gate_callee (f := 68) rfl ?_); refine gM 22 Try.func68 #[.int .i64 a1_0, .int .i64 1, .int .i64 3] rfl ?_; (with_reducible refine (spec_l01In.calls a1_0 1 3 t224 _ A36.out).mono ?_); rintro e w' ⟨rfl, ⟨nd, rfl⟩⟩; refine ⟨_, rfl, ?_⟩; (try (rw [drewN_self wc]; generalize hq_ : World.drewN wc _ = wc; have n0_ : Aside0 (wc.heap[gb218]? = some (.cells #[.int .i64 a0_0, .int .i64 a0_1, .int .i64 a0_2] 24 (0, 0))) := ⟨by rw [← hq_]; exact blk_now⟩; have n1_ : Aside0 (wc.heap[gb219]? = some (.cells #[.int .i64 a1_0, .int .i64 a1_1, .int .i64 a1_2, .int .i64 a1_3, .int .i64 a1_4, .int .i64 a1_5, .int .i64 a1_6, .slice A1_7 l1_7.length c1_7, .slice A1_8 l1_8.length c1_8] 46 (0, 0))) := ⟨by rw [← hq_]; exact blk_now⟩; have n2_ : Aside0 (wc.heap[gb220]? = some (.cells #[.int .i64 0, .int .i64 0, .int .i64 0] 24 (0, 0))) := ⟨by rw [← hq_]; exact blk_now⟩; have n3_ : Aside0 (wc.heap[gb221]? = some (.cells #[.int .i64 0, .int .i64 0, .int .i64 0] 24 (0, 0))) := ⟨by rw [← hq_]; exact blk_now⟩; have n4_ : Aside0 (Below w.heap.size w wc) := ⟨by rw [← hq_]; exact bel_now⟩; clear BK218 BK219 BK220 BK221 HB hq_; have BK218 := n0_; have BK219 := n1_; have BK220 := n2_; have BK221 := n3_; have HB := n4_; clear n0_ n1_ n2_ n3_ n4_; (try obtain ⟨hcuBK219_0, hcuBK219_1, hcuBK219_2, hcuBK219_3, hcuBK219_4, hcuBK219_5, hcuBK219_6, hcuBK219_7, hcuBK219_8, hcuBK219_9, hcuBK219_10, hcuBK219_11, hcuBK219_12, hcuBK219_13, hcuBK219_14, hcuBK219_15, hcuBK219_16, hcuBK219_17⟩ := cells9 BK219.out)))) | ((with_reducible refine gate_callee (f := 93) rfl ?_); refine gM 28 Try.func93 #[.agg #[.int .i64 a1_0, .int .i64 a1_1, .int .i64 a1_2, .int .i64 a1_3, .int .i64 a1_4, .int .i64 a1_5, .int .i64 a1_6, .slice A1_7 l1_7.length c1_7, .slice A1_8 l1_8.length c1_8], .bool t224, .bool (decide (a1_0 ≤ 1))] rfl ?_; (with_reducible refine (spec_l03Plain.calls kj2 a1_0 a1_1 a1_2 a1_3 a1_4 a1_5 a1_6 _ _ l1_7 _ _ l1_8 t224 (decide (a1_0 ≤ 1)) false _ ?side1 HC1_7.out ?side3 HC1_8.out A37.out).mono ?_); (case side1 => exact C_now HR1_7.out); (case side3 => exact C_now HR1_8.out); rintro e w240 ⟨rfl, hb⟩; refine ⟨_, rfl, ?_⟩; replace HB := bel_on w hb; replace BK218 := blk_on gb218 hb; replace BK219 := blk_on gb219 hb; replace BK220 := blk_on gb220 hb; replace BK221 := blk_on gb221 hb; (try clear hb); have hn241 := ne2 NB221_218; have hn242 := ne2 NB221_220; have hcz243 := cells3 BK221.out; have hn244 := ne2 NB220_218; have hcz245 := cells3 BK220.out))
     refine bodyPost_ret (results_ct rfl _ _ gb220 24 #[.int .i64 0, .int .i64 0, .int .i64 0] (0, 0) _ rfl (blk_fars (puts3 BK220.out)) Try.underlying24 rfl (by kernel_rfl)) rfl ?_
     exact ⟨eqN, bel_now⟩
    subst c38;rw [if_pos rfl] at H;have HC39 := am H;clear H;have hn40 := ne2 NB219_218;have hn41 := ne2 NB219_220;have hn42 := ne2 NB219_221;have hcz43 := cells9 BK219.out
    go_upto_if 32 with (first | ((with_reducible refine gate_callee (f := 68) rfl ?_); refine gM 22 Try.func68 #[.int .i64 a1_0, .int .i64 1, .int .i64 3] rfl ?_; (with_reducible refine (spec_l01In.calls a1_0 1 3 t224 _ A36.out).mono ?_); rintro e w' ⟨rfl, ⟨nd, rfl⟩⟩; refine ⟨_, rfl, ?_⟩; (try (rw [drewN_self wc]; generalize hq_ : World.drewN wc _ = wc; have n0_ : Aside0 (wc.heap[gb218]? = some (.cells #[.int .i64 a0_0, .int .i64 a0_1, .int .i64 a0_2] 24 (0, 0))) := ⟨by rw [← hq_]; exact blk_now⟩; have n1_ : Aside0 (wc.heap[gb219]? = some (.cells #[.int .i64 a1_0, .int .i64 a1_1, .int .i64 a1_2, .int .i64 a1_3, .int .i64 a1_4, .int .i64 a1_5, .int .i64 a1_6, .slice A1_7 l1_7.length c1_7, .slice A1_8 l1_8.length c1_8] 46 (0, 0))) := ⟨by rw [← hq_]; exact blk_now⟩; have n2_ : Aside0 (wc.heap[gb220]? = some (.cells #[.int .i64 0, .int .i64 0, .int .i64 0] 24 (0, 0))) := ⟨by rw [← hq_]; exact blk_now⟩; have n3_ : Aside0 (wc.heap[gb221]? = some (.cells #[.int .i64 0, .int .i64 0, .int .i64 0] 24 (0, 0))) := ⟨by rw [← hq_]; exact blk_now⟩; have n4_ : Aside0 (Below w.heap.size w wc) := ⟨by rw [← hq_]; exact bel_now⟩; clear BK218 BK219 BK220 BK221 HB hq_; have BK218 := n0_; have BK219 := n1_; have BK220 := n2_; have BK221 := n3_; have HB := n4_; clear n0_ n1_ n2_ n3_ n4_; (try obtain ⟨hcuBK219_0, hcuBK219_1, hcuBK219_2, hcuBK219_3, hcuBK219_4, hcuBK219_5, hcuBK219_6, hcuBK219_7, hcuBK219_8, hcuBK219_9, hcuBK219_10, hcuBK219_11, hcuBK219_12, hcuBK219_13, hcuBK219_14, hcuBK219_15, hcuBK219_16, hcuBK219_17⟩ := cells9 BK219.out)))) | ((with_reducible refine gate_callee (f := 93) rfl ?_); refine gM 28 Try.func93 #[.agg #[.int .i64 a1_0, .int .i64 a1_1, .int .i64 a1_2, .int .i64 a1_3, .int .i64 a1_4, .int .i64 a1_5, .int .i64 a1_6, .slice A1_7 l1_7.length c1_7, .slice A1_8 l1_8.length c1_8], .bool t224, .bool (decide (a1_0 ≤ 1))] rfl ?_; (with_reducible refine (spec_l03Plain.calls kj2 a1_0 a1_1 a1_2 a1_3 a1_4 a1_5 a1_6 _ _ l1_7 _ _ l1_8 t224 (decide (a1_0 ≤ 1)) true _ ?side1 HC1_7.out ?side3 HC1_8.out A37.out).mono ?_); (case side1 => exact C_now HR1_7.out); (case side3 => exact C_now HR1_8.out); rintro e w44 ⟨rfl, hb⟩; refine ⟨_, rfl, ?_⟩; replace HB := bel_on w hb; replace BK218 := blk_on gb218 hb; replace BK219 := blk_on gb219 hb; replace BK220 := blk_on gb220 hb; replace BK221 := blk_on gb221 hb; (try clear hb); have hn45 := ne2 NB218_220; have hn46 := ne2 NB218_221; have hcz47 := cells3 BK218.out) | ((with_reducible refine gate_dst (N := 8) rfl ?_); (try (refine gate_guard (by rfl) ?_; dsimp only)); refine boxM 8 #[.int .i64 0, .int .i64 0, .int .i64 0] 24 ?_; intro gb226 hg w48 BK226 hb; obtain ⟨HB, GW226, GE226⟩ := box_at w hb hg; obtain ⟨BK218, NB218_226, NB226_218⟩ := box_on gb218 hb hg; obtain ⟨BK219, NB219_226, NB226_219⟩ := box_on gb219 hb hg; obtain ⟨BK220, NB220_226, NB226_220⟩ := box_on gb220 hb hg; obtain ⟨BK221, NB221_226, NB226_221⟩ := box_on gb221 hb hg; clear hb hg; have hn49 := ne2 NB226_218; have hn50 := ne2 NB226_219; have hn51 := ne2 NB226_220; have hn52 := ne2 NB226_221; have hcz53 := cells3 BK226.out))
    (try simp only [Act.put, zA, zB, zC])
    go_cut [] (fun wc => ∃ (kq : Nat) (x221000_38 : Int) (x221001_38 : Int) (x221002_38 : Int) (x227000_38 : Int) (x227001_38 : Int), Aside0 (spec_OutShape.j1 kq a0_0 a0_1 a0_2 a1_0 a1_1 a1_2 a1_3 a1_4 a1_5 a1_6 l1_7 l1_8 0 0 0 x227000_38 x227001_38 a0_2 = some (r1, r2, r3, r4)) ∧ Aside0 (kq ≤ kj2) ∧ Aside0 (wc.heap[gb218]? = some (.cells #[.int .i64 a0_0, .int .i64 a0_1, .int .i64 a0_2] 24 (0, 0))) ∧ Aside0 (wc.heap[gb219]? = some (.cells #[.int .i64 a1_0, .int .i64 a1_1, .int .i64 a1_2, .int .i64 a1_3, .int .i64 a1_4, .int .i64 a1_5, .int .i64 a1_6, (.slice A1_7 l1_7.length c1_7), (.slice A1_8 l1_8.length c1_8)] 46 (0, 0))) ∧ Aside0 (wc.heap[gb220]? = some (.cells #[.int .i64 x221000_38, .int .i64 x221001_38, .int .i64 x221002_38] 24 (0, 0))) ∧ Aside0 (wc.heap[gb221]? = some (.cells #[.int .i64 0, .int .i64 0, .int .i64 0] 24 (0, 0))) ∧ Aside0 (wc.heap[gb226]? = some (.cells #[.int .i64 x227000_38, .int .i64 x227001_38, .int .i64 a0_2] 24 (0, 0))) ∧ Aside0 (Below w.heap.size w wc))
    case first =>
     have H := HC39.out;clear HC39;by_cases c54 : t224 = true;rotate_left
     ·replace c54 := Bool.eq_false_iff.mpr c54;subst c54
      rw [if_neg (show ¬ (false = true) by decide)] at H
      have H' := am H;clear H
      go_wp2
      go_meet
      case rel => exact ⟨_, (0), (0), (0), (a0_0), (a0_1), H', ⟨by have := HJ2.out; first | omega | exact Nat.le_refl _⟩, ⟨blkN⟩, ⟨blkN⟩, ⟨blkN⟩, ⟨blkN⟩, ⟨blkN⟩, ⟨bel_now⟩⟩
     subst c54;rw [if_pos rfl] at H;by_cases c55 : a1_2 > a0_0
     ·rw [if_pos c55] at H;have c55b0 : decide (a0_0 < a1_2) = true := decide_eq_true c55;clear c55
      (first | rw [c55b0] | (simp only [i64_w, i32_w]; rw [c55b0]) | skip)
      simp only [Option.some.injEq, Prod.mk.injEq] at H;obtain ⟨rfl, rfl, rfl, rfl⟩ := H;have hn56 := ne2 NB219_218;have hn57 := ne2 NB219_220;have hn58 := ne2 NB219_221;have hn59 := ne2 NB219_226;have hcz60 := cells9 BK219.out;have hn61 := ne2 NB218_220;have hn62 := ne2 NB218_221;have hn63 := ne2 NB218_226;have hcz64 := cells3 BK218.out;have hn65 := ne2 NB221_220;have hn66 := ne2 NB221_226;have hcz67 := cells3 BK221.out;have hn68 := ne2 NB220_226;have hcz69 := cells3 BK220.out
      go_wp2
      refine bodyPost_ret (results_ct rfl _ _ gb220 24 #[.int .i64 0, .int .i64 0, .int .i64 0] (0, 0) _ rfl blkN Try.underlying24 rfl (by kernel_rfl)) rfl ?_
      exact ⟨eqN, bel_now⟩
     rw [if_neg c55] at H;have c55b0 : decide (a0_0 < a1_2) = false := decide_eq_false c55;clear c55
     (first | rw [c55b0] | (simp only [i64_w, i32_w]; rw [c55b0]) | skip)
     by_cases c70 : a1_2 > a0_1
     ·rw [if_pos c70] at H;have c70b0 : decide (a0_1 < a1_2) = true := decide_eq_true c70;clear c70;simp only [Option.some.injEq, Prod.mk.injEq] at H;obtain ⟨rfl, rfl, rfl, rfl⟩ := H;have hn71 := ne2 NB219_218;have hn72 := ne2 NB219_220;have hn73 := ne2 NB219_221;have hn74 := ne2 NB219_226;have hcz75 := cells9 BK219.out;have hn76 := ne2 NB218_220;have hn77 := ne2 NB218_221;have hn78 := ne2 NB218_226;have hcz79 := cells3 BK218.out;have hn80 := ne2 NB221_220;have hn81 := ne2 NB221_226;have hcz82 := cells3 BK221.out;have hn83 := ne2 NB220_226;have hcz84 := cells3 BK220.out
      go_wp2
      refine bodyPost_ret (results_ct rfl _ _ gb220 24 #[.int .i64 0, .int .i64 0, .int .i64 0] (0, 0) _ rfl blkN Try.underlying24 rfl (by kernel_rfl)) rfl ?_
      exact ⟨eqN, bel_now⟩
     rw [if_neg c70] at H;have c70b0 : decide (a0_1 < a1_2) = false := decide_eq_false c70;clear c70;by_cases c85 : a1_3 = 0
     ·rw [if_pos c85] at H;exact absurd H (by simp)
     rw [if_neg c85] at H;have c85b0 : (a1_3 == 0) = false := beq_eq_false_iff_ne.mpr c85;have c85b1 : (a1_3 != 0) = true := bne_iff_ne.mpr c85;have H' := am H;clear H;have hn86 := ne2 NB219_218;have hn87 := ne2 NB219_220;have hn88 := ne2 NB219_221;have hn89 := ne2 NB219_226;have hcz90 := cells9 BK219.out;have hn91 := ne2 NB218_220;have hn92 := ne2 NB218_221;have hn93 := ne2 NB218_226;have hcz94 := cells3 BK218.out;have hn95 := ne2 NB226_220;have hn96 := ne2 NB226_221;have hcz97 := cells3 BK226.out
     go_wp2
     go_meet
     case rel => exact ⟨_, (0), (0), (0), (wrap64 ((wrap64 (Int.tdiv (wrap64 (a0_0 - a1_2)) a1_3)) + 1)), (wrap64 ((wrap64 (Int.tdiv (wrap64 (a0_1 - a1_2)) a1_3)) + 1)), H', ⟨by have := HJ2.out; first | omega | exact Nat.le_refl _⟩, ⟨blkN⟩, ⟨blkN⟩, ⟨blkN⟩, ⟨blkN⟩, ⟨blkN⟩, ⟨bel_now⟩⟩
    case rest =>
     clear HC39;try clear c28
     try clear c38
     try clear hcz11
     try clear hcz43
     try clear hcz47
     try clear hcz53
     obtain ⟨kq, x221000_38, x221001_38, x221002_38, x227000_38, x227001_38, HA, HJ38, BK218, BK219, BK220, BK221, BK226, HB⟩ := hcut
     cases kq with
     | zero => exact absurd HA.out (by simp [spec_OutShape.j1])
     | succ kj38 =>
      have H := HA.out;clear HA;simp only [spec_OutShape.j1] at H;by_cases c98 : a1_0 = 0;rotate_left
      ·rw [if_neg c98] at H;have c98b0 : (a1_0 == 0) = false := beq_eq_false_iff_ne.mpr c98;have c98b1 : (a1_0 != 0) = true := bne_iff_ne.mpr c98;by_cases c145 : a1_0 = 1
       ·rw [if_pos c145] at H;have c145b0 : (a1_0 == 1) = true := beq_iff_eq.mpr c145;have c145b1 : (a1_0 != 1) = false := bne_eq_false_iff_eq.mpr c145;clear c145;by_cases c146 : (l1_7.length : Int) = (wrap64 ((wrap64 ((wrap64 (a1_1 * a1_2)) * a1_2)) * a0_2));rotate_left
        ·rw [if_neg c146] at H;have c146b0 : ((l1_7.length : Int) == (wrap64 ((wrap64 ((wrap64 (a1_1 * a1_2)) * a1_2)) * a0_2))) = false := beq_eq_false_iff_ne.mpr c146;have c146b1 : ((l1_7.length : Int) != (wrap64 ((wrap64 ((wrap64 (a1_1 * a1_2)) * a1_2)) * a0_2))) = true := bne_iff_ne.mpr c146;simp only [Option.some.injEq, Prod.mk.injEq] at H;obtain ⟨rfl, rfl, rfl, rfl⟩ := H;have hn176 := ne2 NB219_218;have hn177 := ne2 NB219_220;have hn178 := ne2 NB219_221;have hn179 := ne2 NB219_226;have hcz180 := cells9 BK219.out;have hn181 := ne2 NB218_220;have hn182 := ne2 NB218_221;have hn183 := ne2 NB218_226;have hcz184 := cells3 BK218.out;have hn185 := ne2 NB221_220;have hn186 := ne2 NB221_226;have hcz187 := cells3 BK221.out;have hn188 := ne2 NB220_226;have hcz189 := cells3 BK220.out
         go_wp2
         refine bodyPost_ret (results_ct rfl _ _ gb220 24 #[.int .i64 0, .int .i64 0, .int .i64 0] (0, 0) _ rfl (blk_fars (puts3 BK220.out)) Try.underlying24 rfl (by kernel_rfl)) rfl ?_
         exact ⟨eqN, bel_now⟩
        rw [if_pos c146] at H;have c146b0 : ((l1_7.length : Int) == (wrap64 ((wrap64 ((wrap64 (a1_1 * a1_2)) * a1_2)) * a0_2))) = true := beq_iff_eq.mpr c146;have c146b1 : ((l1_7.length : Int) != (wrap64 ((wrap64 ((wrap64 (a1_1 * a1_2)) * a1_2)) * a0_2))) = false := bne_eq_false_iff_eq.mpr c146;clear c146;by_cases c147 : (l1_7.length : Int) > 600
        ·rw [if_pos c147] at H;have c147b0 : decide (600 < (l1_7.length : Int)) = true := decide_eq_true c147;have c147b1 : decide (600 < l1_7.length) = true := decide_eq_true (by omega);clear c147;simp only [Option.some.injEq, Prod.mk.injEq] at H;obtain ⟨rfl, rfl, rfl, rfl⟩ := H;have hn148 := ne2 NB219_218;have hn149 := ne2 NB219_220;have hn150 := ne2 NB219_221;have hn151 := ne2 NB219_226;have hcz152 := cells9 BK219.out;have hn153 := ne2 NB218_220;have hn154 := ne2 NB218_221;have hn155 := ne2 NB218_226;have hcz156 := cells3 BK218.out;have hn157 := ne2 NB221_220;have hn158 := ne2 NB221_226;have hcz159 := cells3 BK221.out;have hn160 := ne2 NB220_226;have hcz161 := cells3 BK220.out
         go_wp2
         refine bodyPost_ret (results_ct rfl _ _ gb220 24 #[.int .i64 0, .int .i64 0, .int .i64 0] (0, 0) _ rfl (blk_fars (puts3 BK220.out)) Try.underlying24 rfl (by kernel_rfl)) rfl ?_
         exact ⟨eqN, bel_now⟩
        rw [if_neg c147] at H;have c147b0 : decide (600 < (l1_7.length : Int)) = false := decide_eq_false c147;have c147b1 : decide (600 < l1_7.length) = false := decide_eq_false (by omega);clear c147;simp only [Option.some.injEq, Prod.mk.injEq] at H;obtain ⟨rfl, rfl, rfl, rfl⟩ := H;have hn162 := ne2 NB219_218;have hn163 := ne2 NB219_220;have hn164 := ne2 NB219_221;have hn165 := ne2 NB219_226;have hcz166 := cells9 BK219.out;have hn167 := ne2 NB218_220;have hn168 := ne2 NB218_221;have hn169 := ne2 NB218_226;have hcz170 := cells3 BK218.out;have hn171 := ne2 NB226_220;have hn172 := ne2 NB226_221;have hcz173 := cells3 BK226.out;have hn174 := ne2 NB220_221;have hcz175 := cells3 BK220.out
        go_wp2
        refine bodyPost_ret (results_ct rfl _ _ gb220 24 #[.int .i64 x227000_38, .int .i64 x227001_38, .int .i64 a1_1] (0, 0) _ rfl blkN Try.underlying24 rfl (by kernel_rfl)) rfl ?_
        exact ⟨eqN, bel_now⟩
       rw [if_neg c145] at H;have c145b0 : (a1_0 == 1) = false := beq_eq_false_iff_ne.mpr c145;have c145b1 : (a1_0 != 1) = true := bne_iff_ne.mpr c145;by_cases c190 : a1_0 = 5;rotate_left
       ·rw [if_neg c190] at H;have c190b0 : (a1_0 == 5) = false := beq_eq_false_iff_ne.mpr c190;have c190b1 : (a1_0 != 5) = true := bne_iff_ne.mpr c190;simp only [Option.some.injEq, Prod.mk.injEq] at H;obtain ⟨rfl, rfl, rfl, rfl⟩ := H;have hn224 := ne2 NB219_218;have hn225 := ne2 NB219_220;have hn226 := ne2 NB219_221;have hn227 := ne2 NB219_226;have hcz228 := cells9 BK219.out;have hn229 := ne2 NB226_218;have hn230 := ne2 NB226_220;have hn231 := ne2 NB226_221;have hcz232 := cells3 BK226.out;have hn233 := ne2 NB220_218;have hn234 := ne2 NB220_221;have hcz235 := cells3 BK220.out
        go_wp2
        refine bodyPost_ret (results_ct rfl _ _ gb220 24 #[.int .i64 x227000_38, .int .i64 x227001_38, .int .i64 a0_2] (0, 0) _ rfl (blk_fars (puts3 BK220.out)) Try.underlying24 rfl (by kernel_rfl)) rfl ?_
        exact ⟨eqN, bel_now⟩
       rw [if_pos c190] at H;have c190b0 : (a1_0 == 5) = true := beq_iff_eq.mpr c190;have c190b1 : (a1_0 != 5) = false := bne_eq_false_iff_eq.mpr c190;clear c190;obtain ⟨t229, A191, H⟩ := bnd H;(try dsimp only at H);by_cases c192 : t229 > 8
       ·rw [if_pos c192] at H;have c192b0 : decide (8 < t229) = true := decide_eq_true c192;clear c192;simp only [Option.some.injEq, Prod.mk.injEq] at H;obtain ⟨rfl, rfl, rfl, rfl⟩ := H;have hn193 := ne2 NB219_218;have hn194 := ne2 NB219_220;have hn195 := ne2 NB219_221;have hn196 := ne2 NB219_226;have hcz197 := cells9 BK219.out;have hn198 := ne2 NB218_220;have hn199 := ne2 NB218_221;have hn200 := ne2 NB218_226;have hcz201 := cells3 BK218.out
        go_wp2_with (first | ((with_reducible refine gate_callee (f := 46) rfl ?_); refine gM 118 Try.func46 #[.agg #[.int .i64 a0_0, .int .i64 a0_1, .int .i64 a0_2]] rfl ?_; (with_reducible refine (spec_SizeOf.calls a0_0 a0_1 a0_2 t229 _ A191.out).mono ?_); rintro e w202 ⟨rfl, hb⟩; refine ⟨_, rfl, ?_⟩; replace HB := bel_on w hb; replace BK218 := blk_on gb218 hb; replace BK219 := blk_on gb219 hb; replace BK220 := blk_on gb220 hb; replace BK221 := blk_on gb221 hb; replace BK226 := blk_on gb226 hb; (try clear hb); have hn203 := ne2 NB221_220; have hn204 := ne2 NB221_226; have hcz205 := cells3 BK221.out; have hn206 := ne2 NB220_226; have hcz207 := cells3 BK220.out))
        refine bodyPost_ret (results_ct rfl _ _ gb220 24 #[.int .i64 0, .int .i64 0, .int .i64 0] (0, 0) _ rfl (blk_fars (puts3 BK220.out)) Try.underlying24 rfl (by kernel_rfl)) rfl ?_
        exact ⟨eqN, bel_now⟩
       rw [if_neg c192] at H;have c192b0 : decide (8 < t229) = false := decide_eq_false c192;clear c192;obtain ⟨t230, A208, H⟩ := bnd H;(try dsimp only at H);simp only [Option.some.injEq, Prod.mk.injEq] at H;obtain ⟨rfl, rfl, rfl, rfl⟩ := H;have hn209 := ne2 NB219_218;have hn210 := ne2 NB219_220;have hn211 := ne2 NB219_221;have hn212 := ne2 NB219_226;have hcz213 := cells9 BK219.out;have hn214 := ne2 NB218_220;have hn215 := ne2 NB218_221;have hn216 := ne2 NB218_226;have hcz217 := cells3 BK218.out
       go_wp2_with (first | ((with_reducible refine gate_callee (f := 46) rfl ?_); refine gM 118 Try.func46 #[.agg #[.int .i64 a0_0, .int .i64 a0_1, .int .i64 a0_2]] rfl ?_; (with_reducible refine (spec_SizeOf.calls a0_0 a0_1 a0_2 t229 _ A191.out).mono ?_); rintro e w218 ⟨rfl, hb⟩; refine ⟨_, rfl, ?_⟩; replace HB := bel_on w hb; replace BK218 := blk_on gb218 hb; replace BK219 := blk_on gb219 hb; replace BK220 := blk_on gb220 hb; replace BK221 := blk_on gb221 hb; replace BK226 := blk_on gb226 hb; (try clear hb); have hcz219 := cells3 BK218.out) | ((with_reducible refine gate_callee (f := 46) rfl ?_); refine gM 122 Try.func46 #[.agg #[.int .i64 a0_0, .int .i64 a0_1, .int .i64 a0_2]] rfl ?_; (with_reducible refine (spec_SizeOf.calls a0_0 a0_1 a0_2 t230 _ A208.out).mono ?_); rintro e w220 ⟨rfl, hb⟩; refine ⟨_, rfl, ?_⟩; replace HB := bel_on w hb; replace BK218 := blk_on gb218 hb; replace BK219 := blk_on gb219 hb; replace BK220 := blk_on gb220 hb; replace BK221 := blk_on gb221 hb; replace BK226 := blk_on gb226 hb; (try clear hb); have hn221 := ne2 NB220_221; have hn222 := ne2 NB220_226; have hcz223 := cells3 BK220.out))
       refine bodyPost_ret (results_ct rfl _ _ gb220 24 #[.int .i64 1, .int .i64 1, .int .i64 t230] (0, 0) _ rfl (blk_fars (puts3 BK220.out)) Try.underlying24 rfl (by kernel_rfl)) rfl ?_
       exact ⟨eqN, bel_now⟩
      rw [if_pos c98] at H;have c98b0 : (a1_0 == 0) = true := beq_iff_eq.mpr c98;have c98b1 : (a1_0 != 0) = false := bne_eq_false_iff_eq.mpr c98;clear c98;obtain ⟨t227, A99, H⟩ := bnd H;(try dsimp only at H);by_cases c100 : t227 > 64
      ·rw [if_pos c100] at H;have c100b0 : decide (64 < t227) = true := decide_eq_true c100;clear c100;simp only [Option.some.injEq, Prod.mk.injEq] at H;obtain ⟨rfl, rfl, rfl, rfl⟩ := H;have hn101 := ne2 NB219_218;have hn102 := ne2 NB219_220;have hn103 := ne2 NB219_221;have hn104 := ne2 NB219_226;have hcz105 := cells9 BK219.out
       try go_wp2
       replace BK218 := am (blk_drew BK218.out);replace BK219 := am (blk_drew BK219.out);replace BK220 := am (blk_drew BK220.out);replace BK221 := am (blk_drew BK221.out);replace BK226 := am (blk_drew BK226.out);replace HB := am (below_drew1 HB.out)
       refine start_ (n := 14) (S := fun w' => w'.cell? ⟨gb218, 0, none⟩ = some (.int .i64 a0_0) ∧ w'.cell? ⟨gb218, 1, none⟩ = some (.int .i64 a0_1) ∧ w'.cell? ⟨gb218, 2, none⟩ = some (.int .i64 a0_2)) (ds := []) #[O, O, O, O, O, O, O, O, O, O, O, O, O, O] (by kernel_rfl) rfl rfl ⟨bc BK218 0, bc BK218 1, bc BK218 2⟩ (fun hHeld => ?_); refine with_tabW spec_OutShape.tab15 spec_OutShape.bits15 (fun HT_ HW_ => ?_)
       generalize wc.drew = w106 at BK218 BK219 BK220 BK221 BK226 HB hHeld ⊢
       refine stepT 0 (some 70) (tk 14 1) (take_ofW HT_.out HW_.out (by kernel_rfl)) hHeld ?_
       refine one_ (i := 1) (N := some 71) #[I, I, O, O, O, O, O, O, O, O, O, O, O, O] rfl rfl (one_of HT_.out (by kernel_rfl)) (by decide) (fun K hK => ?_)
       refine goes_ Try.func46 (by kernel_rfl) rfl #[.agg #[.int .i64 a0_0, .int .i64 a0_1, .int .i64 a0_2]] (by rfl) rfl rfl (by (try simp only [List.map_toArray, List.map_cons, List.map_nil]); first | done | rfl | (simp only [List.length_drop, List.length_take]; rfl)) ?_
       with_reducible refine (spec_SizeOf.calls a0_0 a0_1 a0_2 t227 _ A99.out).mono ?_
       rintro e w107 ⟨rfl, hb⟩
       refine ⟨_, rfl, ?_⟩
       replace BK218 := blk_on gb218 hb;replace BK219 := blk_on gb219 hb;replace BK220 := blk_on gb220 hb;replace BK221 := blk_on gb221 hb;replace BK226 := blk_on gb226 hb;replace HB := bel_on w hb;(try clear hb);(try clear hb2);(try clear hb3);(try clear hk);(try clear hi)
       refine hK.out _ _ ⟨bc BK218 0, bc BK218 1, bc BK218 2⟩ (fun hHeld => ?_)
       clear hK K
       refine normP 71 ?_
       refine stepP 2 (some 72) (tk 14 7) (any_of HT_.out (by kernel_rfl)) ?_
       refine stepP 3 (some 73) (tk 14 15) (any_of HT_.out (by kernel_rfl)) ?_
       refine stepU 4 (some 74) (tk 14 31) (any_of HT_.out (by kernel_rfl)) ?_
       refine stepU 5 (some 75) (tk 14 63) (any_of HT_.out (by kernel_rfl)) ?_
       refine stepU 6 (some 76) (tk 14 127) (any_of HT_.out (by kernel_rfl)) ?_
       refine stepU 7 (some 77) (tk 14 255) (any_of HT_.out (by kernel_rfl)) ?_
       refine stepU 8 (some 78) (tk 14 511) (any_of HT_.out (by kernel_rfl)) ?_
       refine stepU 9 (some 79) (tk 14 1023) (any_of HT_.out (by kernel_rfl)) ?_
       refine stepU 10 (some 80) (tk 14 2047) (any_of HT_.out (by kernel_rfl)) ?_
       refine stepU 11 (some 81) (tk 14 4095) (any_of HT_.out (by kernel_rfl)) ?_
       refine stepU 12 (some 82) (tk 14 8191) (any_of HT_.out (by kernel_rfl)) ?_
       refine stepP 13 (some 83) (tk 14 16383) (any_of HT_.out (by kernel_rfl)) ?_
       refine done_ (done_of HT_.out (by kernel_rfl)) ?_
       have hn108 := ne2 NB221_218;have hn109 := ne2 NB221_220;have hn110 := ne2 NB221_226;have hcz111 := cells3 BK221.out;have hn112 := ne2 NB220_218;have hn113 := ne2 NB220_226;have hcz114 := cells3 BK220.out
       try go_wp2
       refine bodyPost_ret (results_ct rfl _ _ gb220 24 #[.int .i64 0, .int .i64 0, .int .i64 0] (0, 0) _ rfl (blk_fars (puts3 BK220.out)) Try.underlying24 rfl (by kernel_rfl)) rfl ?_
       exact ⟨eqN, bel_now⟩
      rw [if_neg c100] at H;have c100b0 : decide (64 < t227) = false := decide_eq_false c100;clear c100;obtain ⟨t228, A115, H⟩ := bnd H;(try dsimp only at H);by_cases c116 : (l1_7.length : Int) = (wrap64 (a1_1 * t228))
      ·rw [if_pos c116] at H;have c116b0 : ((l1_7.length : Int) == (wrap64 (a1_1 * t228))) = true := beq_iff_eq.mpr c116;have c116b1 : ((l1_7.length : Int) != (wrap64 (a1_1 * t228))) = false := bne_eq_false_iff_eq.mpr c116;clear c116;simp only [Option.some.injEq, Prod.mk.injEq] at H;obtain ⟨rfl, rfl, rfl, rfl⟩ := H;have hn117 := ne2 NB219_218;have hn118 := ne2 NB219_220;have hn119 := ne2 NB219_221;have hn120 := ne2 NB219_226;have hcz121 := cells9 BK219.out
       try go_wp2
       replace BK218 := am (blk_drew BK218.out);replace BK219 := am (blk_drew BK219.out);replace BK220 := am (blk_drew BK220.out);replace BK221 := am (blk_drew BK221.out);replace BK226 := am (blk_drew BK226.out);replace HB := am (below_drew1 HB.out)
       refine start_ (n := 14) (S := fun w' => w'.cell? ⟨gb218, 0, none⟩ = some (.int .i64 a0_0) ∧ w'.cell? ⟨gb218, 1, none⟩ = some (.int .i64 a0_1) ∧ w'.cell? ⟨gb218, 2, none⟩ = some (.int .i64 a0_2) ∧ w'.cell? ⟨gb219, 0, none⟩ = some (.int .i64 a1_0) ∧ w'.cell? ⟨gb219, 1, none⟩ = some (.int .i64 a1_1) ∧ w'.cell? ⟨gb219, 2, none⟩ = some (.int .i64 a1_2) ∧ w'.cell? ⟨gb219, 3, none⟩ = some (.int .i64 a1_3) ∧ w'.cell? ⟨gb219, 4, none⟩ = some (.int .i64 a1_4) ∧ w'.cell? ⟨gb219, 5, none⟩ = some (.int .i64 a1_5) ∧ w'.cell? ⟨gb219, 6, none⟩ = some (.int .i64 a1_6) ∧ w'.cell? ⟨gb219, 7, none⟩ = some (.slice A1_7 l1_7.length c1_7) ∧ w'.cell? ⟨gb219, 8, none⟩ = some (.slice A1_8 l1_8.length c1_8)) (ds := []) #[O, O, O, O, O, O, O, O, O, O, O, O, O, O] (by kernel_rfl) rfl rfl ⟨bc BK218 0, bc BK218 1, bc BK218 2, bc BK219 0, bc BK219 1, bc BK219 2, bc BK219 3, bc BK219 4, bc BK219 5, bc BK219 6, bc BK219 7, bc BK219 8⟩ (fun hHeld => ?_); refine with_tabW spec_OutShape.tab15 spec_OutShape.bits15 (fun HT_ HW_ => ?_)
       generalize wc.drew = w122 at BK218 BK219 BK220 BK221 BK226 HB hHeld ⊢
       refine stepT 0 (some 70) (tk 14 1) (take_ofW HT_.out HW_.out (by kernel_rfl)) hHeld ?_
       refine one_ (i := 1) (N := some 71) #[I, I, O, O, O, O, O, O, O, O, O, O, O, O] rfl rfl (one_of HT_.out (by kernel_rfl)) (by decide) (fun K hK => ?_)
       refine goes_ Try.func46 (by kernel_rfl) rfl #[.agg #[.int .i64 a0_0, .int .i64 a0_1, .int .i64 a0_2]] (by rfl) rfl rfl (by (try simp only [List.map_toArray, List.map_cons, List.map_nil]); first | done | rfl | (simp only [List.length_drop, List.length_take]; rfl)) ?_
       with_reducible refine (spec_SizeOf.calls a0_0 a0_1 a0_2 t227 _ A99.out).mono ?_
       rintro e w123 ⟨rfl, hb⟩
       refine ⟨_, rfl, ?_⟩
       replace BK218 := blk_on gb218 hb;replace BK219 := blk_on gb219 hb;replace BK220 := blk_on gb220 hb;replace BK221 := blk_on gb221 hb;replace BK226 := blk_on gb226 hb;replace HB := bel_on w hb;(try clear hb);(try clear hb2);(try clear hb3);(try clear hk);(try clear hi)
       refine hK.out _ _ ⟨bc BK218 0, bc BK218 1, bc BK218 2, bc BK219 0, bc BK219 1, bc BK219 2, bc BK219 3, bc BK219 4, bc BK219 5, bc BK219 6, bc BK219 7, bc BK219 8⟩ (fun hHeld => ?_)
       clear hK K
       refine normP 71 ?_
       refine stepP 2 (some 72) (tk 14 7) (any_of HT_.out (by kernel_rfl)) ?_
       refine stepP 3 (some 73) (tk 14 15) (any_of HT_.out (by kernel_rfl)) ?_
       refine stepP 4 (some 74) (tk 14 31) (any_of HT_.out (by kernel_rfl)) ?_
       refine stepP 7 (some 77) (tk 14 159) (any_of HT_.out (by kernel_rfl)) ?_
       refine stepT 5 (some 75) (tk 14 191) (take_ofW HT_.out HW_.out (by kernel_rfl)) hHeld ?_
       refine stepP 6 (some 76) (tk 14 255) (any_of HT_.out (by kernel_rfl)) ?_
       refine stepT 8 (some 78) (tk 14 511) (take_ofW HT_.out HW_.out (by kernel_rfl)) hHeld ?_
       refine stepT 9 (some 79) (tk 14 1023) (take_ofW HT_.out HW_.out (by kernel_rfl)) hHeld ?_
       refine one_ (i := 10) (N := some 80) #[I, I, I, I, I, I, I, I, I, I, I, O, O, O] rfl rfl (one_of HT_.out (by kernel_rfl)) (by decide) (fun K hK => ?_)
       refine goes_ Try.func46 (by kernel_rfl) rfl #[.agg #[.int .i64 a0_0, .int .i64 a0_1, .int .i64 a0_2]] (by rfl) rfl rfl (by (try simp only [List.map_toArray, List.map_cons, List.map_nil]); first | done | rfl | (simp only [List.length_drop, List.length_take]; rfl)) ?_
       with_reducible refine (spec_SizeOf.calls a0_0 a0_1 a0_2 t228 _ A115.out).mono ?_
       rintro e w124 ⟨rfl, hb⟩
       refine ⟨_, rfl, ?_⟩
       replace BK218 := blk_on gb218 hb;replace BK219 := blk_on gb219 hb;replace BK220 := blk_on gb220 hb;replace BK221 := blk_on gb221 hb;replace BK226 := blk_on gb226 hb;replace HB := bel_on w hb;(try clear hb);(try clear hb2);(try clear hb3);(try clear hk);(try clear hi)
       refine hK.out _ _ ⟨bc BK218 0, bc BK218 1, bc BK218 2, bc BK219 0, bc BK219 1, bc BK219 2, bc BK219 3, bc BK219 4, bc BK219 5, bc BK219 6, bc BK219 7, bc BK219 8⟩ (fun hHeld => ?_)
       clear hK K
       refine normP 80 ?_
       refine stepP 11 (some 81) (tk 14 4095) (any_of HT_.out (by kernel_rfl)) ?_
       refine stepP 12 (some 82) (tk 14 8191) (any_of HT_.out (by kernel_rfl)) ?_
       refine stepP 13 (some 83) (tk 14 16383) (any_of HT_.out (by kernel_rfl)) ?_
       refine done_ (done_of HT_.out (by kernel_rfl)) ?_
       have hcz125 := cells9 BK219.out;have hn126 := ne2 NB220_218;have hn127 := ne2 NB220_221;have hn128 := ne2 NB220_226;have hcz129 := cells3 BK220.out
       try go_wp2
       refine bodyPost_ret (results_ct rfl _ _ gb220 24 #[.int .i64 1, .int .i64 1, .int .i64 a1_1] (0, 0) _ rfl (blk_fars (puts3 BK220.out)) Try.underlying24 rfl (by kernel_rfl)) rfl ?_
       exact ⟨eqN, bel_now⟩
      rw [if_neg c116] at H;have c116b0 : ((l1_7.length : Int) == (wrap64 (a1_1 * t228))) = false := beq_eq_false_iff_ne.mpr c116;have c116b1 : ((l1_7.length : Int) != (wrap64 (a1_1 * t228))) = true := bne_iff_ne.mpr c116;simp only [Option.some.injEq, Prod.mk.injEq] at H;obtain ⟨rfl, rfl, rfl, rfl⟩ := H;have hn130 := ne2 NB219_218;have hn131 := ne2 NB219_220;have hn132 := ne2 NB219_221;have hn133 := ne2 NB219_226;have hcz134 := cells9 BK219.out
      try go_wp2
      replace BK218 := am (blk_drew BK218.out);replace BK219 := am (blk_drew BK219.out);replace BK220 := am (blk_drew BK220.out);replace BK221 := am (blk_drew BK221.out);replace BK226 := am (blk_drew BK226.out);replace HB := am (below_drew1 HB.out)
      refine start_ (n := 14) (S := fun w' => w'.cell? ⟨gb218, 0, none⟩ = some (.int .i64 a0_0) ∧ w'.cell? ⟨gb218, 1, none⟩ = some (.int .i64 a0_1) ∧ w'.cell? ⟨gb218, 2, none⟩ = some (.int .i64 a0_2) ∧ w'.cell? ⟨gb219, 0, none⟩ = some (.int .i64 a1_0) ∧ w'.cell? ⟨gb219, 1, none⟩ = some (.int .i64 a1_1) ∧ w'.cell? ⟨gb219, 2, none⟩ = some (.int .i64 a1_2) ∧ w'.cell? ⟨gb219, 3, none⟩ = some (.int .i64 a1_3) ∧ w'.cell? ⟨gb219, 4, none⟩ = some (.int .i64 a1_4) ∧ w'.cell? ⟨gb219, 5, none⟩ = some (.int .i64 a1_5) ∧ w'.cell? ⟨gb219, 6, none⟩ = some (.int .i64 a1_6) ∧ w'.cell? ⟨gb219, 7, none⟩ = some (.slice A1_7 l1_7.length c1_7) ∧ w'.cell? ⟨gb219, 8, none⟩ = some (.slice A1_8 l1_8.length c1_8)) (ds := []) #[O, O, O, O, O, O, O, O, O, O, O, O, O, O] (by kernel_rfl) rfl rfl ⟨bc BK218 0, bc BK218 1, bc BK218 2, bc BK219 0, bc BK219 1, bc BK219 2, bc BK219 3, bc BK219 4, bc BK219 5, bc BK219 6, bc BK219 7, bc BK219 8⟩ (fun hHeld => ?_); refine with_tabW spec_OutShape.tab15 spec_OutShape.bits15 (fun HT_ HW_ => ?_)
      generalize wc.drew = w135 at BK218 BK219 BK220 BK221 BK226 HB hHeld ⊢
      refine stepT 0 (some 70) (tk 14 1) (take_ofW HT_.out HW_.out (by kernel_rfl)) hHeld ?_
      refine one_ (i := 1) (N := some 71) #[I, I, O, O, O, O, O, O, O, O, O, O, O, O] rfl rfl (one_of HT_.out (by kernel_rfl)) (by decide) (fun K hK => ?_)
      refine goes_ Try.func46 (by kernel_rfl) rfl #[.agg #[.int .i64 a0_0, .int .i64 a0_1, .int .i64 a0_2]] (by rfl) rfl rfl (by (try simp only [List.map_toArray, List.map_cons, List.map_nil]); first | done | rfl | (simp only [List.length_drop, List.length_take]; rfl)) ?_
      with_reducible refine (spec_SizeOf.calls a0_0 a0_1 a0_2 t227 _ A99.out).mono ?_
      rintro e w136 ⟨rfl, hb⟩
      refine ⟨_, rfl, ?_⟩
      replace BK218 := blk_on gb218 hb;replace BK219 := blk_on gb219 hb;replace BK220 := blk_on gb220 hb;replace BK221 := blk_on gb221 hb;replace BK226 := blk_on gb226 hb;replace HB := bel_on w hb;(try clear hb);(try clear hb2);(try clear hb3);(try clear hk);(try clear hi)
      refine hK.out _ _ ⟨bc BK218 0, bc BK218 1, bc BK218 2, bc BK219 0, bc BK219 1, bc BK219 2, bc BK219 3, bc BK219 4, bc BK219 5, bc BK219 6, bc BK219 7, bc BK219 8⟩ (fun hHeld => ?_)
      clear hK K
      refine normP 71 ?_
      refine stepP 2 (some 72) (tk 14 7) (any_of HT_.out (by kernel_rfl)) ?_
      refine stepP 3 (some 73) (tk 14 15) (any_of HT_.out (by kernel_rfl)) ?_
      refine stepP 4 (some 74) (tk 14 31) (any_of HT_.out (by kernel_rfl)) ?_
      refine stepP 7 (some 77) (tk 14 159) (any_of HT_.out (by kernel_rfl)) ?_
      refine stepT 5 (some 75) (tk 14 191) (take_ofW HT_.out HW_.out (by kernel_rfl)) hHeld ?_
      refine stepP 6 (some 76) (tk 14 255) (any_of HT_.out (by kernel_rfl)) ?_
      refine stepT 8 (some 78) (tk 14 511) (take_ofW HT_.out HW_.out (by kernel_rfl)) hHeld ?_
      refine stepT 9 (some 79) (tk 14 1023) (take_ofW HT_.out HW_.out (by kernel_rfl)) hHeld ?_
      refine one_ (i := 10) (N := some 80) #[I, I, I, I, I, I, I, I, I, I, I, O, O, O] rfl rfl (one_of HT_.out (by kernel_rfl)) (by decide) (fun K hK => ?_)
      refine goes_ Try.func46 (by kernel_rfl) rfl #[.agg #[.int .i64 a0_0, .int .i64 a0_1, .int .i64 a0_2]] (by rfl) rfl rfl (by (try simp only [List.map_toArray, List.map_cons, List.map_nil]); first | done | rfl | (simp only [List.length_drop, List.length_take]; rfl)) ?_
      with_reducible refine (spec_SizeOf.calls a0_0 a0_1 a0_2 t228 _ A115.out).mono ?_
      rintro e w137 ⟨rfl, hb⟩
      refine ⟨_, rfl, ?_⟩
      replace BK218 := blk_on gb218 hb;replace BK219 := blk_on gb219 hb;replace BK220 := blk_on gb220 hb;replace BK221 := blk_on gb221 hb;replace BK226 := blk_on gb226 hb;replace HB := bel_on w hb;(try clear hb);(try clear hb2);(try clear hb3);(try clear hk);(try clear hi)
      refine hK.out _ _ ⟨bc BK218 0, bc BK218 1, bc BK218 2, bc BK219 0, bc BK219 1, bc BK219 2, bc BK219 3, bc BK219 4, bc BK219 5, bc BK219 6, bc BK219 7, bc BK219 8⟩ (fun hHeld => ?_)
      clear hK K
      refine normP 80 ?_
      refine stepP 11 (some 81) (tk 14 4095) (any_of HT_.out (by kernel_rfl)) ?_
      refine stepP 12 (some 82) (tk 14 8191) (any_of HT_.out (by kernel_rfl)) ?_
      refine stepP 13 (some 83) (tk 14 16383) (any_of HT_.out (by kernel_rfl)) ?_
      refine done_ (done_of HT_.out (by kernel_rfl)) ?_
      have hn138 := ne2 NB221_218;have hn139 := ne2 NB221_220;have hn140 := ne2 NB221_226;have hcz141 := cells3 BK221.out;have hn142 := ne2 NB220_218;have hn143 := ne2 NB220_226;have hcz144 := cells3 BK220.out
      try go_wp2
      refine bodyPost_ret (results_ct rfl _ _ gb220 24 #[.int .i64 0, .int .i64 0, .int .i64 0] (0, 0) _ rfl (blk_fars (puts3 BK220.out)) Try.underlying24 rfl (by kernel_rfl)) rfl ?_
      exact ⟨eqN, bel_now⟩

end Go.Proofs.Ytjmejobelkllmaa.PFnStored
