-- Printed by the session's own program (wip/myprint.py) for this claim out of the translation. Not trusted: Lean checks it.
import Derived.Test.YtclpojeofclbjaaDoorPFnExactModelTextx0
import Derived.Test.YtclpojeofclbjaaDoorPFnExactModelTextx1
import Derived.Test.YtclpojeofclbjaaDoorPFnExactModelTextx2
import Derived.Test.YtclpojeofclbjaaDoorPFnExactModelTextx3
namespace Go.Proofs.YtclpojeofclbjaaDoor.PFnExactModelText
open Go.RowKit Go.Proofs.YtclpojeofclbjaaDoorW.PrintWords Go.Proofs.YtclpojeofclbjaaDoorW.PrintLast Go.Proofs.YtclpojeofclbjaaDoorW.PrintMore
attribute [local go_sem] max2_int min2_int max_two min_two max_three min_three max_four min_four   -- for this text's walks alone
set_option linter.unusedVariables false
set_option linter.unusedSimpArgs false

/-! ### spec_OutShape: function 59 -/
mutual
def spec_OutShape.j0 : Nat → Bool → Int → Int → Int → Int → Int → Int → Int → Int → Int → Int → List Int → List Int → Int → Int → Int → Option (Int × Int × Int × Bool)
  | 0, _, _, _, _, _, _, _, _, _, _, _, _, _, _, _, _ => none
  | k + 1, x18, x172000, x172001, x172002, x173000, x173001, x173002, x173003, x173004, x173005, x173006, x173007, x173008, x175000, x175001, x175002 => if x18 = true then (some (x175000, x175001, x175002, false)) else ((spec_l01In.f x173000 1 3).bind fun t177 => ((spec_l03Plain.f k x173000 x173001 x173002 x173003 x173004 x173005 x173006 x173007 x173008 t177 (decide (x173000 ≤ 1))).bind fun t178 => (if t178 = true then (if t177 = true then (if x173002 > x172000 then (some (x175000, x175001, x175002, false)) else (if x173002 > x172001 then (some (x175000, x175001, x175002, false)) else (if x173003 = 0 then (none) else (spec_OutShape.j1 k x172000 x172001 x172002 x173000 x173001 x173002 x173003 x173004 x173005 x173006 x173007 x173008 x175000 x175001 x175002 (wrap64 ((wrap64 (Int.tdiv (wrap64 (x172000 - x173002)) x173003)) + 1)) (wrap64 ((wrap64 (Int.tdiv (wrap64 (x172001 - x173002)) x173003)) + 1)) x172002)))) else (spec_OutShape.j1 k x172000 x172001 x172002 x173000 x173001 x173002 x173003 x173004 x173005 x173006 x173007 x173008 x175000 x175001 x175002 x172000 x172001 x172002)) else (some (x175000, x175001, x175002, false)))))
def spec_OutShape.j1 : Nat → Int → Int → Int → Int → Int → Int → Int → Int → Int → Int → List Int → List Int → Int → Int → Int → Int → Int → Int → Option (Int × Int × Int × Bool)
  | 0, _, _, _, _, _, _, _, _, _, _, _, _, _, _, _, _, _, _ => none
  | k + 1, x172000, x172001, x172002, x173000, x173001, x173002, x173003, x173004, x173005, x173006, x173007, x173008, x175000, x175001, x175002, x180000, x180001, x180002 => if x173000 = 0 then ((spec_SizeOf.f x172000 x172001 x172002).bind fun t180 => (if t180 > 64 then (some (x175000, x175001, x175002, false)) else ((spec_SizeOf.f x172000 x172001 x172002).bind fun t181 => (if (x173007.length : Int) = (wrap64 (x173001 * t181)) then (some (1, 1, x173001, true)) else (some (x175000, x175001, x175002, false)))))) else (if x173000 = 1 then (if (x173007.length : Int) = (wrap64 ((wrap64 ((wrap64 (x173001 * x173002)) * x173002)) * x172002)) then (if (x173007.length : Int) > 600 then (some (x175000, x175001, x175002, false)) else (some (x180000, x180001, x173001, true))) else (some (x175000, x175001, x175002, false))) else (if x173000 = 5 then ((spec_SizeOf.f x172000 x172001 x172002).bind fun t182 => (if t182 > 8 then (some (x175000, x175001, x175002, false)) else ((spec_SizeOf.f x172000 x172001 x172002).bind fun t183 => (some (1, 1, t183, true))))) else (some (x180000, x180001, x180002, true))))
end
def spec_OutShape.f (k : Nat) (a0_0 : Int) (a0_1 : Int) (a0_2 : Int) (a1_0 : Int) (a1_1 : Int) (a1_2 : Int) (a1_3 : Int) (a1_4 : Int) (a1_5 : Int) (a1_6 : Int) (l1_7 : List Int) (l1_8 : List Int) : Option (Int × Int × Int × Bool) := (spec_ShapeOk.f a0_0 a0_1 a0_2).bind fun t175 => (if t175 = true then ((spec_l01In.f a1_0 0 5).bind fun t176 => (spec_OutShape.j0 k (!t176) a0_0 a0_1 a0_2 a1_0 a1_1 a1_2 a1_3 a1_4 a1_5 a1_6 l1_7 l1_8 0 0 0)) else (spec_OutShape.j0 k true a0_0 a0_1 a0_2 a1_0 a1_1 a1_2 a1_3 a1_4 a1_5 a1_6 l1_7 l1_8 0 0 0))
def spec_OutShape.T15 : Bool × List (List Nat × List Nat) := (true, [([], []), ([0], [0]), ([1], [1]), ([2, 1], [2]), ([3], [3]), ([4, 3], [3, 4]), ([5, 3], [3, 5]), ([3], [3]), ([7, 3], [3, 7]), ([3], [3]), ([9, 3, 3], [3, 9]), ([8, 10, 3], [3, 8, 10]), ([6, 11, 3], [3, 6, 11]), ([3, 12], [3, 12])])
def spec_OutShape.B15 : List Nat := [0, 1, 3, 7, 15, 31, 63, 15, 143, 15, 527, 1935, 4095, 8191]
theorem spec_OutShape.tab15 : rtab .any (opsOf Tryd.f59 15) = spec_OutShape.T15 := by kernel_rfl
theorem spec_OutShape.bits15 : waitsOk spec_OutShape.T15.2 spec_OutShape.B15 = true := by kernel_rfl
set_option maxHeartbeats 8000000 in
set_option maxRecDepth 100000 in
theorem spec_OutShape.calls (k : Nat) (a0_0 : Int) (a0_1 : Int) (a0_2 : Int) (a1_0 : Int) (a1_1 : Int) (a1_2 : Int) (a1_3 : Int) (a1_4 : Int) (a1_5 : Int) (a1_6 : Int) (A1_7 : Option Addr) (c1_7 : Nat) (l1_7 : List Int) (A1_8 : Option Addr) (c1_8 : Nat) (l1_8 : List Int) (r1 : Int) (r2 : Int) (r3 : Int) (r4 : Bool) (w : World) (hr1_7 : Kd.C (Kd.int .i64) w A1_7 l1_7.length l1_7) (hc1_7 : l1_7.length ≤ c1_7) (hr1_8 : Kd.C (Kd.int .i64) w A1_8 l1_8.length l1_8) (hc1_8 : l1_8.length ≤ c1_8) (h : spec_OutShape.f k a0_0 a0_1 a0_2 a1_0 a1_1 a1_2 a1_3 a1_4 a1_5 a1_6 l1_7 l1_8 = some (r1, r2, r3, r4)) :
   Calls Tryd.prog 59 #[.agg #[.int .i64 a0_0, .int .i64 a0_1, .int .i64 a0_2], .agg #[.int .i64 a1_0, .int .i64 a1_1, .int .i64 a1_2, .int .i64 a1_3, .int .i64 a1_4, .int .i64 a1_5, .int .i64 a1_6, .slice A1_7 l1_7.length c1_7, .slice A1_8 l1_8.length c1_8]] w fun e w' => e = .returned (.tuple #[.agg #[.int .i64 r1, .int .i64 r2, .int .i64 r3], .bool r4]) ∧ Below w.heap.size w w' := by
  have hu29 := Tryd.underlying29
  have hu49 := Tryd.underlying49
  have HR1_7 := Aside0.mk hr1_7
  have HC1_7 := Aside0.mk hc1_7
  clear hr1_7 hc1_7
  have HR1_8 := Aside0.mk hr1_8
  have HC1_8 := Aside0.mk hc1_8
  clear hr1_8 hc1_8
  have HB := Aside0.mk (Below.refl w.heap.size w)
  have H : ((spec_ShapeOk.f a0_0 a0_1 a0_2).bind fun t175 => (if t175 = true then ((spec_l01In.f a1_0 0 5).bind fun t176 => (spec_OutShape.j0 k (!t176) a0_0 a0_1 a0_2 a1_0 a1_1 a1_2 a1_3 a1_4 a1_5 a1_6 l1_7 l1_8 0 0 0)) else (spec_OutShape.j0 k true a0_0 a0_1 a0_2 a1_0 a1_1 a1_2 a1_3 a1_4 a1_5 a1_6 l1_7 l1_8 0 0 0))) = some (r1, r2, r3, r4) := h
  clear h
  have HC3 := Aside0.mk H
  clear H
  go_enter Tryd.func59, Tryd.ntmps59
  go_upto_region 2 with (first | ((with_reducible refine gate_dst (N := 2) rfl ?_); (try (refine gate_guard (by rfl) ?_; dsimp only)); refine boxM 2 #[.int .i64 a0_0, .int .i64 a0_1, .int .i64 a0_2] 29 ?_; intro gb171 hg w4 BK171 hb; replace HB := box_at w hb hg; obtain ⟨HB, GW171, GE171⟩ := HB; clear hb hg) | ((with_reducible refine gate_dst (N := 3) rfl ?_); (try (refine gate_guard (by rfl) ?_; dsimp only)); refine boxM 3 #[.int .i64 a1_0, .int .i64 a1_1, .int .i64 a1_2, .int .i64 a1_3, .int .i64 a1_4, .int .i64 a1_5, .int .i64 a1_6, .slice A1_7 l1_7.length c1_7, .slice A1_8 l1_8.length c1_8] 49 ?_; intro gb172 hg w5 BK172 hb; replace HB := box_at w hb hg; obtain ⟨HB, GW172, GE172⟩ := HB; replace BK171 := box_on gb171 hb hg; obtain ⟨BK171, NB171_172, NB172_171⟩ := BK171; clear hb hg) | ((with_reducible refine gate_dst (N := 4) rfl ?_); (try (refine gate_guard (by rfl) ?_; dsimp only)); refine boxM 4 #[.int .i64 0, .int .i64 0, .int .i64 0] 29 ?_; intro gb173 hg w6 BK173 hb; replace HB := box_at w hb hg; obtain ⟨HB, GW173, GE173⟩ := HB; replace BK171 := box_on gb171 hb hg; obtain ⟨BK171, NB171_173, NB173_171⟩ := BK171; replace BK172 := box_on gb172 hb hg; obtain ⟨BK172, NB172_173, NB173_172⟩ := BK172; clear hb hg) | ((with_reducible refine gate_dst (N := 6) rfl ?_); (try (refine gate_guard (by rfl) ?_; dsimp only)); refine boxM 6 #[.int .i64 0, .int .i64 0, .int .i64 0] 29 ?_; intro gb174 hg w7 BK174 hb; replace HB := box_at w hb hg; obtain ⟨HB, GW174, GE174⟩ := HB; replace BK171 := box_on gb171 hb hg; obtain ⟨BK171, NB171_174, NB174_171⟩ := BK171; replace BK172 := box_on gb172 hb hg; obtain ⟨BK172, NB172_174, NB174_172⟩ := BK172; replace BK173 := box_on gb173 hb hg; obtain ⟨BK173, NB173_174, NB174_173⟩ := BK173; clear hb hg; have hn8 := ne2 NB174_171; have hn9 := ne2 NB174_172; have hn10 := ne2 NB174_173; have hcz11 := cells3 BK174.out))
  (try simp only [Act.put, zA, zB, zC])
  go_cut [18] (fun v18 wc => ∃ (kq : Nat) (x18_2 : Bool), v18 = .bool x18_2 ∧ Aside0 (spec_OutShape.j0 kq x18_2 a0_0 a0_1 a0_2 a1_0 a1_1 a1_2 a1_3 a1_4 a1_5 a1_6 l1_7 l1_8 0 0 0 = some (r1, r2, r3, r4)) ∧ Aside0 (kq ≤ k) ∧ Aside0 (wc.heap[gb171]? = some (.cells #[.int .i64 a0_0, .int .i64 a0_1, .int .i64 a0_2] 29 (0, 0))) ∧ Aside0 (wc.heap[gb172]? = some (.cells #[.int .i64 a1_0, .int .i64 a1_1, .int .i64 a1_2, .int .i64 a1_3, .int .i64 a1_4, .int .i64 a1_5, .int .i64 a1_6, (.slice A1_7 l1_7.length c1_7), (.slice A1_8 l1_8.length c1_8)] 49 (0, 0))) ∧ Aside0 (wc.heap[gb173]? = some (.cells #[.int .i64 0, .int .i64 0, .int .i64 0] 29 (0, 0))) ∧ Aside0 (wc.heap[gb174]? = some (.cells #[.int .i64 0, .int .i64 0, .int .i64 0] 29 (0, 0))) ∧ Aside0 (Below w.heap.size w wc))
  case first =>
   have H := HC3.out
   clear HC3
   replace H := Option.bind_eq_some_iff.mp H
   obtain ⟨t175, A120, H⟩ := H
   (try dsimp only at H)
   have A12 := Aside0.mk A120
   clear A120
   by_cases c13 : t175 = true
   rotate_left
   ·replace c13 := Bool.eq_false_iff.mpr c13
    subst c13
    rw [if_neg (show ¬ (false = true) by decide)] at H
    have H' := Aside0.mk H
    clear H
    have hn23 := ne2 NB171_172
    have hn24 := ne2 NB171_173
    have hn25 := ne2 NB171_174
    have hcz26 := cells3 BK171.out
    go_wp2_with (first | ((with_reducible refine gate_callee (f := 50) rfl ?_); refine goesM (some 11) rfl rfl Tryd.func50 (by kernel_rfl) rfl #[.agg #[.int .i64 a0_0, .int .i64 a0_1, .int .i64 a0_2]] rfl ?_; (with_reducible refine (spec_ShapeOk.calls a0_0 a0_1 a0_2 false _ A12.out).mono ?_); rintro e w27 ⟨rfl, hb⟩; refine ⟨_, rfl, ?_⟩; replace HB := bel_on w hb; replace BK171 := Aside0.mk (blk_below (g := gb171) (o := .cells #[.int .i64 a0_0, .int .i64 a0_1, .int .i64 a0_2] 29 (0, 0)) (blk_fars BK171.out) hb); replace BK172 := Aside0.mk (blk_below (g := gb172) (o := .cells #[.int .i64 a1_0, .int .i64 a1_1, .int .i64 a1_2, .int .i64 a1_3, .int .i64 a1_4, .int .i64 a1_5, .int .i64 a1_6, .slice A1_7 l1_7.length c1_7, .slice A1_8 l1_8.length c1_8] 49 (0, 0)) (blk_fars BK172.out) hb); replace BK173 := Aside0.mk (blk_below (g := gb173) (o := .cells #[.int .i64 0, .int .i64 0, .int .i64 0] 29 (0, 0)) (blk_fars BK173.out) hb); replace BK174 := Aside0.mk (blk_below (g := gb174) (o := .cells #[.int .i64 0, .int .i64 0, .int .i64 0] 29 (0, 0)) (blk_fars (puts3 BK174.out)) hb); (try clear hb)))
    go_meet
    case rel => exact ⟨_, (true), (by first | rfl | (simp; done) | (simp [*]; done)), H', ⟨by first | omega | exact Nat.le_refl _⟩, ⟨bks BK171⟩, ⟨bks BK172⟩, ⟨bks BK173⟩, ⟨bks BK174⟩, ⟨bel_now⟩⟩
   subst c13
   rw [if_pos rfl] at H
   replace H := Option.bind_eq_some_iff.mp H
   obtain ⟨t176, A140, H⟩ := H
   (try dsimp only at H)
   have A14 := Aside0.mk A140
   clear A140
   have H' := Aside0.mk H
   clear H
   have hn15 := ne2 NB171_172
   have hn16 := ne2 NB171_173
   have hn17 := ne2 NB171_174
   have hcz18 := cells3 BK171.out
   go_wp2_with (first | ((with_reducible refine gate_callee (f := 50) rfl ?_); refine goesM (some 11) rfl rfl Tryd.func50 (by kernel_rfl) rfl #[.agg #[.int .i64 a0_0, .int .i64 a0_1, .int .i64 a0_2]] rfl ?_; (with_reducible refine (spec_ShapeOk.calls a0_0 a0_1 a0_2 true _ A12.out).mono ?_); rintro e w19 ⟨rfl, hb⟩; refine ⟨_, rfl, ?_⟩; replace HB := bel_on w hb; replace BK171 := Aside0.mk (blk_below (g := gb171) (o := .cells #[.int .i64 a0_0, .int .i64 a0_1, .int .i64 a0_2] 29 (0, 0)) (blk_fars BK171.out) hb); replace BK172 := Aside0.mk (blk_below (g := gb172) (o := .cells #[.int .i64 a1_0, .int .i64 a1_1, .int .i64 a1_2, .int .i64 a1_3, .int .i64 a1_4, .int .i64 a1_5, .int .i64 a1_6, .slice A1_7 l1_7.length c1_7, .slice A1_8 l1_8.length c1_8] 49 (0, 0)) (blk_fars BK172.out) hb); replace BK173 := Aside0.mk (blk_below (g := gb173) (o := .cells #[.int .i64 0, .int .i64 0, .int .i64 0] 29 (0, 0)) (blk_fars BK173.out) hb); replace BK174 := Aside0.mk (blk_below (g := gb174) (o := .cells #[.int .i64 0, .int .i64 0, .int .i64 0] 29 (0, 0)) (blk_fars (puts3 BK174.out)) hb); (try clear hb); have hn20 := ne2 NB172_173; have hn21 := ne2 NB172_174; have hcz22 := cells9 BK172.out) | (go_at_call 39; (with_reducible refine (spec_l01In.calls a1_0 0 5 t176 _ A14.out).mono ?_); rintro e w' ⟨rfl, ⟨nd, rfl⟩⟩))
   go_meet
   case rel => exact ⟨_, (!t176), (by first | rfl | (simp; done) | (simp [*]; done)), H', ⟨by first | omega | exact Nat.le_refl _⟩, ⟨bks BK171⟩, ⟨bks BK172⟩, ⟨bks BK173⟩, ⟨bks BK174⟩, ⟨bel_now⟩⟩
  case rest =>
   clear HC3
   try clear c1
   try clear c2
   try clear p2
   try clear c5
   try clear c8
   try clear c9
   try clear c10
   try clear c13
   try clear c15
   try clear c16
   try clear c17
   try clear c20
   try clear c21
   try clear c23
   try clear c24
   try clear c25
   try clear hcz11
   try clear hcz18
   try clear hcz22
   try clear hcz26
   obtain ⟨kq, x18_2, rfl, HA, HJ2, BK171, BK172, BK173, BK174, HB⟩ := hcut
   cases kq with
   | zero => exact absurd HA.out (by simp [spec_OutShape.j0])
   | succ kj2 =>
    have H := HA.out
    clear HA
    simp only [spec_OutShape.j0] at H
    by_cases c28 : x18_2 = true
    ·subst c28
     rw [if_pos rfl] at H
     simp only [Option.some.injEq, Prod.mk.injEq] at H
     obtain ⟨rfl, rfl, rfl, rfl⟩ := H
     have hn29 := ne2 NB174_171
     have hn30 := ne2 NB174_172
     have hn31 := ne2 NB174_173
     have hcz32 := cells3 BK174.out
     have hn33 := ne2 NB173_171
     have hn34 := ne2 NB173_172
     have hcz35 := cells3 BK173.out
     go_wp2
     refine bodyPost_ret (results_ct rfl _ _ gb173 29 #[.int .i64 0, .int .i64 0, .int .i64 0] (0, 0) _ rfl (blk_fars (puts3 BK173.out)) Tryd.underlying29 rfl (by kernel_rfl)) rfl ?_
     exact ⟨eqN, bel_now⟩
    replace c28 := Bool.eq_false_iff.mpr c28
    subst c28
    rw [if_neg (show ¬ (false = true) by decide)] at H
    replace H := Option.bind_eq_some_iff.mp H
    obtain ⟨t177, A360, H⟩ := H
    (try dsimp only at H)
    have A36 := Aside0.mk A360
    clear A360
    replace H := Option.bind_eq_some_iff.mp H
    obtain ⟨t178, A370, H⟩ := H
    (try dsimp only at H)
    have A37 := Aside0.mk A370
    clear A370
    by_cases c38 : t178 = true
    rotate_left
    ·replace c38 := Bool.eq_false_iff.mpr c38
     subst c38
     rw [if_neg (show ¬ (false = true) by decide)] at H
     simp only [Option.some.injEq, Prod.mk.injEq] at H
     obtain ⟨rfl, rfl, rfl, rfl⟩ := H
     have hn236 := ne2 NB172_171
     have hn237 := ne2 NB172_173
     have hn238 := ne2 NB172_174
     have hcz239 := cells9 BK172.out
     go_wp2_with (first | ((with_reducible refine gate_callee (f := 39) rfl ?_); refine goesM (some 22) rfl rfl Tryd.func39 (by kernel_rfl) rfl #[.int .i64 a1_0, .int .i64 1, .int .i64 3] rfl ?_; (with_reducible refine (spec_l01In.calls a1_0 1 3 t177 _ A36.out).mono ?_); rintro e w' ⟨rfl, ⟨nd, rfl⟩⟩; refine ⟨_, rfl, ?_⟩; (try (rw [drewN_self wc]; generalize hq_ : World.drewN wc _ = wc; have n0_ : Aside0 (wc.heap[gb171]? = some (.cells #[.int .i64 a0_0, .int .i64 a0_1, .int .i64 a0_2] 29 (0, 0))) := ⟨by rw [← hq_]; exact blk_now⟩; have n1_ : Aside0 (wc.heap[gb172]? = some (.cells #[.int .i64 a1_0, .int .i64 a1_1, .int .i64 a1_2, .int .i64 a1_3, .int .i64 a1_4, .int .i64 a1_5, .int .i64 a1_6, .slice A1_7 l1_7.length c1_7, .slice A1_8 l1_8.length c1_8] 49 (0, 0))) := ⟨by rw [← hq_]; exact blk_now⟩; have n2_ : Aside0 (wc.heap[gb173]? = some (.cells #[.int .i64 0, .int .i64 0, .int .i64 0] 29 (0, 0))) := ⟨by rw [← hq_]; exact blk_now⟩; have n3_ : Aside0 (wc.heap[gb174]? = some (.cells #[.int .i64 0, .int .i64 0, .int .i64 0] 29 (0, 0))) := ⟨by rw [← hq_]; exact blk_now⟩; have n4_ : Aside0 (Below w.heap.size w wc) := ⟨by rw [← hq_]; exact bel_now⟩; clear BK171 BK172 BK173 BK174 HB hq_; have BK171 := n0_; have BK172 := n1_; have BK173 := n2_; have BK174 := n3_; have HB := n4_; clear n0_ n1_ n2_ n3_ n4_; (try obtain ⟨hcuBK172_0, hcuBK172_1, hcuBK172_2, hcuBK172_3, hcuBK172_4, hcuBK172_5, hcuBK172_6, hcuBK172_7, hcuBK172_8, hcuBK172_9, hcuBK172_10, hcuBK172_11, hcuBK172_12, hcuBK172_13, hcuBK172_14, hcuBK172_15, hcuBK172_16, hcuBK172_17⟩ := cells9 BK172.out)))) | ((with_reducible refine gate_callee (f := 77) rfl ?_); refine goesM (some 28) rfl rfl Tryd.func77 (by kernel_rfl) rfl #[.agg #[.int .i64 a1_0, .int .i64 a1_1, .int .i64 a1_2, .int .i64 a1_3, .int .i64 a1_4, .int .i64 a1_5, .int .i64 a1_6, .slice A1_7 l1_7.length c1_7, .slice A1_8 l1_8.length c1_8], .bool t177, .bool (decide (a1_0 ≤ 1))] rfl ?_; (with_reducible refine (spec_l03Plain.calls kj2 a1_0 a1_1 a1_2 a1_3 a1_4 a1_5 a1_6 _ _ l1_7 _ _ l1_8 t177 (decide (a1_0 ≤ 1)) false _ ?side1 ?side2 ?side3 ?side4 A37.out).mono ?_); (case side1 => exact C_now HR1_7.out); (case side2 => exact HC1_7.out); (case side3 => exact C_now HR1_8.out); (case side4 => exact HC1_8.out); rintro e w240 ⟨rfl, hb⟩; refine ⟨_, rfl, ?_⟩; replace HB := bel_on w hb; replace BK171 := blk_on gb171 hb; replace BK172 := blk_on gb172 hb; replace BK173 := blk_on gb173 hb; replace BK174 := blk_on gb174 hb; (try clear hb); have hn241 := ne2 NB174_171; have hn242 := ne2 NB174_173; have hcz243 := cells3 BK174.out; have hn244 := ne2 NB173_171; have hcz245 := cells3 BK173.out))
     refine bodyPost_ret (results_ct rfl _ _ gb173 29 #[.int .i64 0, .int .i64 0, .int .i64 0] (0, 0) _ rfl (blk_fars (puts3 BK173.out)) Tryd.underlying29 rfl (by kernel_rfl)) rfl ?_
     exact ⟨eqN, bel_now⟩
    subst c38
    rw [if_pos rfl] at H
    have HC39 := Aside0.mk H
    clear H
    have hn40 := ne2 NB172_171
    have hn41 := ne2 NB172_173
    have hn42 := ne2 NB172_174
    have hcz43 := cells9 BK172.out
    go_upto_if 32 with (first | ((with_reducible refine gate_callee (f := 39) rfl ?_); refine goesM (some 22) rfl rfl Tryd.func39 (by kernel_rfl) rfl #[.int .i64 a1_0, .int .i64 1, .int .i64 3] rfl ?_; (with_reducible refine (spec_l01In.calls a1_0 1 3 t177 _ A36.out).mono ?_); rintro e w' ⟨rfl, ⟨nd, rfl⟩⟩; refine ⟨_, rfl, ?_⟩; (try (rw [drewN_self wc]; generalize hq_ : World.drewN wc _ = wc; have n0_ : Aside0 (wc.heap[gb171]? = some (.cells #[.int .i64 a0_0, .int .i64 a0_1, .int .i64 a0_2] 29 (0, 0))) := ⟨by rw [← hq_]; exact blk_now⟩; have n1_ : Aside0 (wc.heap[gb172]? = some (.cells #[.int .i64 a1_0, .int .i64 a1_1, .int .i64 a1_2, .int .i64 a1_3, .int .i64 a1_4, .int .i64 a1_5, .int .i64 a1_6, .slice A1_7 l1_7.length c1_7, .slice A1_8 l1_8.length c1_8] 49 (0, 0))) := ⟨by rw [← hq_]; exact blk_now⟩; have n2_ : Aside0 (wc.heap[gb173]? = some (.cells #[.int .i64 0, .int .i64 0, .int .i64 0] 29 (0, 0))) := ⟨by rw [← hq_]; exact blk_now⟩; have n3_ : Aside0 (wc.heap[gb174]? = some (.cells #[.int .i64 0, .int .i64 0, .int .i64 0] 29 (0, 0))) := ⟨by rw [← hq_]; exact blk_now⟩; have n4_ : Aside0 (Below w.heap.size w wc) := ⟨by rw [← hq_]; exact bel_now⟩; clear BK171 BK172 BK173 BK174 HB hq_; have BK171 := n0_; have BK172 := n1_; have BK173 := n2_; have BK174 := n3_; have HB := n4_; clear n0_ n1_ n2_ n3_ n4_; (try obtain ⟨hcuBK172_0, hcuBK172_1, hcuBK172_2, hcuBK172_3, hcuBK172_4, hcuBK172_5, hcuBK172_6, hcuBK172_7, hcuBK172_8, hcuBK172_9, hcuBK172_10, hcuBK172_11, hcuBK172_12, hcuBK172_13, hcuBK172_14, hcuBK172_15, hcuBK172_16, hcuBK172_17⟩ := cells9 BK172.out)))) | ((with_reducible refine gate_callee (f := 77) rfl ?_); refine goesM (some 28) rfl rfl Tryd.func77 (by kernel_rfl) rfl #[.agg #[.int .i64 a1_0, .int .i64 a1_1, .int .i64 a1_2, .int .i64 a1_3, .int .i64 a1_4, .int .i64 a1_5, .int .i64 a1_6, .slice A1_7 l1_7.length c1_7, .slice A1_8 l1_8.length c1_8], .bool t177, .bool (decide (a1_0 ≤ 1))] rfl ?_; (with_reducible refine (spec_l03Plain.calls kj2 a1_0 a1_1 a1_2 a1_3 a1_4 a1_5 a1_6 _ _ l1_7 _ _ l1_8 t177 (decide (a1_0 ≤ 1)) true _ ?side1 ?side2 ?side3 ?side4 A37.out).mono ?_); (case side1 => exact C_now HR1_7.out); (case side2 => exact HC1_7.out); (case side3 => exact C_now HR1_8.out); (case side4 => exact HC1_8.out); rintro e w44 ⟨rfl, hb⟩; refine ⟨_, rfl, ?_⟩; replace HB := bel_on w hb; replace BK171 := blk_on gb171 hb; replace BK172 := blk_on gb172 hb; replace BK173 := blk_on gb173 hb; replace BK174 := blk_on gb174 hb; (try clear hb); have hn45 := ne2 NB171_173; have hn46 := ne2 NB171_174; have hcz47 := cells3 BK171.out) | ((with_reducible refine gate_dst (N := 8) rfl ?_); (try (refine gate_guard (by rfl) ?_; dsimp only)); refine boxM 8 #[.int .i64 0, .int .i64 0, .int .i64 0] 29 ?_; intro gb179 hg w48 BK179 hb; replace HB := box_at w hb hg; obtain ⟨HB, GW179, GE179⟩ := HB; replace BK171 := box_on gb171 hb hg; obtain ⟨BK171, NB171_179, NB179_171⟩ := BK171; replace BK172 := box_on gb172 hb hg; obtain ⟨BK172, NB172_179, NB179_172⟩ := BK172; replace BK173 := box_on gb173 hb hg; obtain ⟨BK173, NB173_179, NB179_173⟩ := BK173; replace BK174 := box_on gb174 hb hg; obtain ⟨BK174, NB174_179, NB179_174⟩ := BK174; clear hb hg; have hn49 := ne2 NB179_171; have hn50 := ne2 NB179_172; have hn51 := ne2 NB179_173; have hn52 := ne2 NB179_174; have hcz53 := cells3 BK179.out))
    (try simp only [Act.put, zA, zB, zC])
    go_cut [] (fun wc => ∃ (kq : Nat) (x174000_38 : Int) (x174001_38 : Int) (x174002_38 : Int) (x180000_38 : Int) (x180001_38 : Int), Aside0 (spec_OutShape.j1 kq a0_0 a0_1 a0_2 a1_0 a1_1 a1_2 a1_3 a1_4 a1_5 a1_6 l1_7 l1_8 0 0 0 x180000_38 x180001_38 a0_2 = some (r1, r2, r3, r4)) ∧ Aside0 (kq ≤ kj2) ∧ Aside0 (wc.heap[gb171]? = some (.cells #[.int .i64 a0_0, .int .i64 a0_1, .int .i64 a0_2] 29 (0, 0))) ∧ Aside0 (wc.heap[gb172]? = some (.cells #[.int .i64 a1_0, .int .i64 a1_1, .int .i64 a1_2, .int .i64 a1_3, .int .i64 a1_4, .int .i64 a1_5, .int .i64 a1_6, (.slice A1_7 l1_7.length c1_7), (.slice A1_8 l1_8.length c1_8)] 49 (0, 0))) ∧ Aside0 (wc.heap[gb173]? = some (.cells #[.int .i64 x174000_38, .int .i64 x174001_38, .int .i64 x174002_38] 29 (0, 0))) ∧ Aside0 (wc.heap[gb174]? = some (.cells #[.int .i64 0, .int .i64 0, .int .i64 0] 29 (0, 0))) ∧ Aside0 (wc.heap[gb179]? = some (.cells #[.int .i64 x180000_38, .int .i64 x180001_38, .int .i64 a0_2] 29 (0, 0))) ∧ Aside0 (Below w.heap.size w wc))
    case first =>
     have H := HC39.out
     clear HC39
     by_cases c54 : t177 = true
     rotate_left
     ·replace c54 := Bool.eq_false_iff.mpr c54
      subst c54
      rw [if_neg (show ¬ (false = true) by decide)] at H
      have H' := Aside0.mk H
      clear H
      go_wp2
      go_meet
      case rel => exact ⟨_, (0), (0), (0), (a0_0), (a0_1), H', ⟨by have := HJ2.out; first | omega | exact Nat.le_refl _⟩, ⟨by (with_reducible repeat (first | refine blk_drewN ?_ _ | refine blk_drew ?_ | refine blk_alloc ?_ _)); refine blk_far ?_ NB171_179.out _; (with_reducible repeat (first | refine blk_drewN ?_ _ | refine blk_drew ?_ | refine blk_alloc ?_ _)); refine blk_far ?_ NB171_179.out _; (with_reducible repeat (first | refine blk_drewN ?_ _ | refine blk_drew ?_ | refine blk_alloc ?_ _)); refine blk_far ?_ NB171_179.out _; (with_reducible repeat (first | refine blk_drewN ?_ _ | refine blk_drew ?_ | refine blk_alloc ?_ _)); exact BK171.out⟩, ⟨by (with_reducible repeat (first | refine blk_drewN ?_ _ | refine blk_drew ?_ | refine blk_alloc ?_ _)); refine blk_far ?_ NB172_179.out _; (with_reducible repeat (first | refine blk_drewN ?_ _ | refine blk_drew ?_ | refine blk_alloc ?_ _)); refine blk_far ?_ NB172_179.out _; (with_reducible repeat (first | refine blk_drewN ?_ _ | refine blk_drew ?_ | refine blk_alloc ?_ _)); refine blk_far ?_ NB172_179.out _; (with_reducible repeat (first | refine blk_drewN ?_ _ | refine blk_drew ?_ | refine blk_alloc ?_ _)); exact BK172.out⟩, ⟨by (with_reducible repeat (first | refine blk_drewN ?_ _ | refine blk_drew ?_ | refine blk_alloc ?_ _)); refine blk_far ?_ NB173_179.out _; (with_reducible repeat (first | refine blk_drewN ?_ _ | refine blk_drew ?_ | refine blk_alloc ?_ _)); refine blk_far ?_ NB173_179.out _; (with_reducible repeat (first | refine blk_drewN ?_ _ | refine blk_drew ?_ | refine blk_alloc ?_ _)); refine blk_far ?_ NB173_179.out _; (with_reducible repeat (first | refine blk_drewN ?_ _ | refine blk_drew ?_ | refine blk_alloc ?_ _)); exact BK173.out⟩, ⟨by (with_reducible repeat (first | refine blk_drewN ?_ _ | refine blk_drew ?_ | refine blk_alloc ?_ _)); refine blk_far ?_ NB174_179.out _; (with_reducible repeat (first | refine blk_drewN ?_ _ | refine blk_drew ?_ | refine blk_alloc ?_ _)); refine blk_far ?_ NB174_179.out _; (with_reducible repeat (first | refine blk_drewN ?_ _ | refine blk_drew ?_ | refine blk_alloc ?_ _)); refine blk_far ?_ NB174_179.out _; (with_reducible repeat (first | refine blk_drewN ?_ _ | refine blk_drew ?_ | refine blk_alloc ?_ _)); exact BK174.out⟩, ⟨by (with_reducible repeat (first | refine blk_drewN ?_ _ | refine blk_drew ?_ | refine blk_alloc ?_ _)); refine blk_put (cs := #[.int .i64 a0_0, .int .i64 a0_1, .int .i64 0]) ?_ 2 _ rfl; (with_reducible repeat (first | refine blk_drewN ?_ _ | refine blk_drew ?_ | refine blk_alloc ?_ _)); refine blk_put (cs := #[.int .i64 a0_0, .int .i64 0, .int .i64 0]) ?_ 1 _ rfl; (with_reducible repeat (first | refine blk_drewN ?_ _ | refine blk_drew ?_ | refine blk_alloc ?_ _)); refine blk_put (cs := #[.int .i64 0, .int .i64 0, .int .i64 0]) ?_ 0 _ rfl; (with_reducible repeat (first | refine blk_drewN ?_ _ | refine blk_drew ?_ | refine blk_alloc ?_ _)); exact BK179.out⟩, ⟨bel_now⟩⟩
     subst c54
     rw [if_pos rfl] at H
     by_cases c55 : a1_2 > a0_0
     ·rw [if_pos c55] at H
      have c55b0 : decide (a0_0 < a1_2) = true := decide_eq_true c55
      clear c55
      (first | rw [c55b0] | (simp only [i64_w, i32_w]; rw [c55b0]) | skip)
      simp only [Option.some.injEq, Prod.mk.injEq] at H
      obtain ⟨rfl, rfl, rfl, rfl⟩ := H
      have hn56 := ne2 NB172_171
      have hn57 := ne2 NB172_173
      have hn58 := ne2 NB172_174
      have hn59 := ne2 NB172_179
      have hcz60 := cells9 BK172.out
      have hn61 := ne2 NB171_173
      have hn62 := ne2 NB171_174
      have hn63 := ne2 NB171_179
      have hcz64 := cells3 BK171.out
      have hn65 := ne2 NB174_173
      have hn66 := ne2 NB174_179
      have hcz67 := cells3 BK174.out
      have hn68 := ne2 NB173_179
      have hcz69 := cells3 BK173.out
      go_wp2
      refine bodyPost_ret (results_ct rfl _ _ gb173 29 #[.int .i64 0, .int .i64 0, .int .i64 0] (0, 0) _ rfl (by (with_reducible repeat (first | refine blk_drewN ?_ _ | refine blk_drew ?_ | refine blk_alloc ?_ _)); refine blk_put (cs := #[.int .i64 0, .int .i64 0, .int .i64 0]) ?_ 2 _ rfl; (with_reducible repeat (first | refine blk_drewN ?_ _ | refine blk_drew ?_ | refine blk_alloc ?_ _)); refine blk_put (cs := #[.int .i64 0, .int .i64 0, .int .i64 0]) ?_ 1 _ rfl; (with_reducible repeat (first | refine blk_drewN ?_ _ | refine blk_drew ?_ | refine blk_alloc ?_ _)); refine blk_put (cs := #[.int .i64 0, .int .i64 0, .int .i64 0]) ?_ 0 _ rfl; (with_reducible repeat (first | refine blk_drewN ?_ _ | refine blk_drew ?_ | refine blk_alloc ?_ _)); refine blk_far ?_ NB173_179.out _; (with_reducible repeat (first | refine blk_drewN ?_ _ | refine blk_drew ?_ | refine blk_alloc ?_ _)); refine blk_far ?_ NB173_179.out _; (with_reducible repeat (first | refine blk_drewN ?_ _ | refine blk_drew ?_ | refine blk_alloc ?_ _)); refine blk_far ?_ NB173_179.out _; (with_reducible repeat (first | refine blk_drewN ?_ _ | refine blk_drew ?_ | refine blk_alloc ?_ _)); exact BK173.out) Tryd.underlying29 rfl (by kernel_rfl)) rfl ?_
      exact ⟨eqN, bel_now⟩
     rw [if_neg c55] at H
     have c55b0 : decide (a0_0 < a1_2) = false := decide_eq_false c55
     clear c55
     (first | rw [c55b0] | (simp only [i64_w, i32_w]; rw [c55b0]) | skip)
     by_cases c70 : a1_2 > a0_1
     ·rw [if_pos c70] at H
      have c70b0 : decide (a0_1 < a1_2) = true := decide_eq_true c70
      clear c70
      simp only [Option.some.injEq, Prod.mk.injEq] at H
      obtain ⟨rfl, rfl, rfl, rfl⟩ := H
      have hn71 := ne2 NB172_171
      have hn72 := ne2 NB172_173
      have hn73 := ne2 NB172_174
      have hn74 := ne2 NB172_179
      have hcz75 := cells9 BK172.out
      have hn76 := ne2 NB171_173
      have hn77 := ne2 NB171_174
      have hn78 := ne2 NB171_179
      have hcz79 := cells3 BK171.out
      have hn80 := ne2 NB174_173
      have hn81 := ne2 NB174_179
      have hcz82 := cells3 BK174.out
      have hn83 := ne2 NB173_179
      have hcz84 := cells3 BK173.out
      go_wp2
      refine bodyPost_ret (results_ct rfl _ _ gb173 29 #[.int .i64 0, .int .i64 0, .int .i64 0] (0, 0) _ rfl (by (with_reducible repeat (first | refine blk_drewN ?_ _ | refine blk_drew ?_ | refine blk_alloc ?_ _)); refine blk_put (cs := #[.int .i64 0, .int .i64 0, .int .i64 0]) ?_ 2 _ rfl; (with_reducible repeat (first | refine blk_drewN ?_ _ | refine blk_drew ?_ | refine blk_alloc ?_ _)); refine blk_put (cs := #[.int .i64 0, .int .i64 0, .int .i64 0]) ?_ 1 _ rfl; (with_reducible repeat (first | refine blk_drewN ?_ _ | refine blk_drew ?_ | refine blk_alloc ?_ _)); refine blk_put (cs := #[.int .i64 0, .int .i64 0, .int .i64 0]) ?_ 0 _ rfl; (with_reducible repeat (first | refine blk_drewN ?_ _ | refine blk_drew ?_ | refine blk_alloc ?_ _)); refine blk_far ?_ NB173_179.out _; (with_reducible repeat (first | refine blk_drewN ?_ _ | refine blk_drew ?_ | refine blk_alloc ?_ _)); refine blk_far ?_ NB173_179.out _; (with_reducible repeat (first | refine blk_drewN ?_ _ | refine blk_drew ?_ | refine blk_alloc ?_ _)); refine blk_far ?_ NB173_179.out _; (with_reducible repeat (first | refine blk_drewN ?_ _ | refine blk_drew ?_ | refine blk_alloc ?_ _)); exact BK173.out) Tryd.underlying29 rfl (by kernel_rfl)) rfl ?_
      exact ⟨eqN, bel_now⟩
     rw [if_neg c70] at H
     have c70b0 : decide (a0_1 < a1_2) = false := decide_eq_false c70
     clear c70
     by_cases c85 : a1_3 = 0
     ·rw [if_pos c85] at H
      exact absurd H (by simp)
     rw [if_neg c85] at H
     have c85b0 : (a1_3 == 0) = false := beq_eq_false_iff_ne.mpr c85
     have c85b1 : (a1_3 != 0) = true := bne_iff_ne.mpr c85
     have H' := Aside0.mk H
     clear H
     have hn86 := ne2 NB172_171
     have hn87 := ne2 NB172_173
     have hn88 := ne2 NB172_174
     have hn89 := ne2 NB172_179
     have hcz90 := cells9 BK172.out
     have hn91 := ne2 NB171_173
     have hn92 := ne2 NB171_174
     have hn93 := ne2 NB171_179
     have hcz94 := cells3 BK171.out
     have hn95 := ne2 NB179_173
     have hn96 := ne2 NB179_174
     have hcz97 := cells3 BK179.out
     go_wp2
     go_meet
     case rel => exact ⟨_, (0), (0), (0), (wrap64 ((wrap64 (Int.tdiv (wrap64 (a0_0 - a1_2)) a1_3)) + 1)), (wrap64 ((wrap64 (Int.tdiv (wrap64 (a0_1 - a1_2)) a1_3)) + 1)), H', ⟨by have := HJ2.out; first | omega | exact Nat.le_refl _⟩, ⟨by (with_reducible repeat (first | refine blk_drewN ?_ _ | refine blk_drew ?_ | refine blk_alloc ?_ _)); refine blk_far ?_ NB171_179.out _; (with_reducible repeat (first | refine blk_drewN ?_ _ | refine blk_drew ?_ | refine blk_alloc ?_ _)); refine blk_far ?_ NB171_179.out _; (with_reducible repeat (first | refine blk_drewN ?_ _ | refine blk_drew ?_ | refine blk_alloc ?_ _)); refine blk_far ?_ NB171_179.out _; (with_reducible repeat (first | refine blk_drewN ?_ _ | refine blk_drew ?_ | refine blk_alloc ?_ _)); refine blk_far ?_ NB171_179.out _; (with_reducible repeat (first | refine blk_drewN ?_ _ | refine blk_drew ?_ | refine blk_alloc ?_ _)); refine blk_far ?_ NB171_179.out _; (with_reducible repeat (first | refine blk_drewN ?_ _ | refine blk_drew ?_ | refine blk_alloc ?_ _)); exact BK171.out⟩, ⟨by (with_reducible repeat (first | refine blk_drewN ?_ _ | refine blk_drew ?_ | refine blk_alloc ?_ _)); refine blk_far ?_ NB172_179.out _; (with_reducible repeat (first | refine blk_drewN ?_ _ | refine blk_drew ?_ | refine blk_alloc ?_ _)); refine blk_far ?_ NB172_179.out _; (with_reducible repeat (first | refine blk_drewN ?_ _ | refine blk_drew ?_ | refine blk_alloc ?_ _)); refine blk_far ?_ NB172_179.out _; (with_reducible repeat (first | refine blk_drewN ?_ _ | refine blk_drew ?_ | refine blk_alloc ?_ _)); refine blk_far ?_ NB172_179.out _; (with_reducible repeat (first | refine blk_drewN ?_ _ | refine blk_drew ?_ | refine blk_alloc ?_ _)); refine blk_far ?_ NB172_179.out _; (with_reducible repeat (first | refine blk_drewN ?_ _ | refine blk_drew ?_ | refine blk_alloc ?_ _)); exact BK172.out⟩, ⟨by (with_reducible repeat (first | refine blk_drewN ?_ _ | refine blk_drew ?_ | refine blk_alloc ?_ _)); refine blk_far ?_ NB173_179.out _; (with_reducible repeat (first | refine blk_drewN ?_ _ | refine blk_drew ?_ | refine blk_alloc ?_ _)); refine blk_far ?_ NB173_179.out _; (with_reducible repeat (first | refine blk_drewN ?_ _ | refine blk_drew ?_ | refine blk_alloc ?_ _)); refine blk_far ?_ NB173_179.out _; (with_reducible repeat (first | refine blk_drewN ?_ _ | refine blk_drew ?_ | refine blk_alloc ?_ _)); refine blk_far ?_ NB173_179.out _; (with_reducible repeat (first | refine blk_drewN ?_ _ | refine blk_drew ?_ | refine blk_alloc ?_ _)); refine blk_far ?_ NB173_179.out _; (with_reducible repeat (first | refine blk_drewN ?_ _ | refine blk_drew ?_ | refine blk_alloc ?_ _)); exact BK173.out⟩, ⟨by (with_reducible repeat (first | refine blk_drewN ?_ _ | refine blk_drew ?_ | refine blk_alloc ?_ _)); refine blk_far ?_ NB174_179.out _; (with_reducible repeat (first | refine blk_drewN ?_ _ | refine blk_drew ?_ | refine blk_alloc ?_ _)); refine blk_far ?_ NB174_179.out _; (with_reducible repeat (first | refine blk_drewN ?_ _ | refine blk_drew ?_ | refine blk_alloc ?_ _)); refine blk_far ?_ NB174_179.out _; (with_reducible repeat (first | refine blk_drewN ?_ _ | refine blk_drew ?_ | refine blk_alloc ?_ _)); refine blk_far ?_ NB174_179.out _; (with_reducible repeat (first | refine blk_drewN ?_ _ | refine blk_drew ?_ | refine blk_alloc ?_ _)); refine blk_far ?_ NB174_179.out _; (with_reducible repeat (first | refine blk_drewN ?_ _ | refine blk_drew ?_ | refine blk_alloc ?_ _)); exact BK174.out⟩, ⟨by (with_reducible repeat (first | refine blk_drewN ?_ _ | refine blk_drew ?_ | refine blk_alloc ?_ _)); refine blk_put (cs := #[.int .i64 (wrap64 ((wrap64 (Int.tdiv (wrap64 (a0_0 - a1_2)) a1_3)) + 1)), .int .i64 a0_1, .int .i64 a0_2]) ?_ 1 _ rfl; (with_reducible repeat (first | refine blk_drewN ?_ _ | refine blk_drew ?_ | refine blk_alloc ?_ _)); refine blk_put (cs := #[.int .i64 a0_0, .int .i64 a0_1, .int .i64 a0_2]) ?_ 0 _ rfl; (with_reducible repeat (first | refine blk_drewN ?_ _ | refine blk_drew ?_ | refine blk_alloc ?_ _)); refine blk_put (cs := #[.int .i64 a0_0, .int .i64 a0_1, .int .i64 0]) ?_ 2 _ rfl; (with_reducible repeat (first | refine blk_drewN ?_ _ | refine blk_drew ?_ | refine blk_alloc ?_ _)); refine blk_put (cs := #[.int .i64 a0_0, .int .i64 0, .int .i64 0]) ?_ 1 _ rfl; (with_reducible repeat (first | refine blk_drewN ?_ _ | refine blk_drew ?_ | refine blk_alloc ?_ _)); refine blk_put (cs := #[.int .i64 0, .int .i64 0, .int .i64 0]) ?_ 0 _ rfl; (with_reducible repeat (first | refine blk_drewN ?_ _ | refine blk_drew ?_ | refine blk_alloc ?_ _)); exact BK179.out⟩, ⟨bel_now⟩⟩
    case rest =>
     clear HC39
     try clear c1
     try clear c2
     try clear p2 p2
     try clear c3
     try clear c4
     try clear c5
     try clear c6
     try clear p6
     try clear c7
     try clear c8
     try clear c9
     try clear c10
     try clear c13
     try clear c15
     try clear c16
     try clear c17
     try clear c20
     try clear c21
     try clear c23
     try clear c24
     try clear c25
     try clear c28
     try clear c29
     try clear c30
     try clear c31
     try clear c33
     try clear c34
     try clear c38
     try clear c39
     try clear c40
     try clear c41
     try clear c42
     try clear c45
     try clear c46
     try clear c49
     try clear c50
     try clear c51
     try clear c52
     try clear c54
     try clear c55
     try clear c55b0
     try clear c56
     try clear c57
     try clear c58
     try clear c59
     try clear c61
     try clear c62
     try clear c63
     try clear p64
     try clear c65
     try clear c66
     try clear c68
     try clear c70
     try clear c70b0
     try clear c71
     try clear c72
     try clear c73
     try clear c74
     try clear c76
     try clear c77
     try clear c78
     try clear c80
     try clear c81
     try clear c83
     try clear c85
     try clear c85b0
     try clear c85b1
     try clear c86
     try clear c87
     try clear c88
     try clear c89
     try clear c91
     try clear c92
     try clear c93
     try clear c95
     try clear c96
     try clear hcz11
     try clear hcz18
     try clear hcz22
     try clear hcz26
     try clear hcz32
     try clear hcz35
     try clear hcz43
     try clear hcz47
     try clear hcz53
     try clear hcz60
     try clear hcz64
     try clear hcz67
     try clear hcz69
     try clear hcz75
     try clear hcz79
     try clear hcz82
     try clear hcz84
     try clear hcz90
     try clear hcz94
     try clear hcz97
     obtain ⟨kq, x174000_38, x174001_38, x174002_38, x180000_38, x180001_38, HA, HJ38, BK171, BK172, BK173, BK174, BK179, HB⟩ := hcut
     cases kq with
     | zero => exact absurd HA.out (by simp [spec_OutShape.j1])
     | succ kj38 =>
      have H := HA.out
      clear HA
      simp only [spec_OutShape.j1] at H
      by_cases c98 : a1_0 = 0
      rotate_left
      ·rw [if_neg c98] at H
       have c98b0 : (a1_0 == 0) = false := beq_eq_false_iff_ne.mpr c98
       have c98b1 : (a1_0 != 0) = true := bne_iff_ne.mpr c98
       by_cases c145 : a1_0 = 1
       ·rw [if_pos c145] at H
        have c145b0 : (a1_0 == 1) = true := beq_iff_eq.mpr c145
        have c145b1 : (a1_0 != 1) = false := bne_eq_false_iff_eq.mpr c145
        clear c145
        by_cases c146 : (l1_7.length : Int) = (wrap64 ((wrap64 ((wrap64 (a1_1 * a1_2)) * a1_2)) * a0_2))
        rotate_left
        ·rw [if_neg c146] at H
         have c146b0 : ((l1_7.length : Int) == (wrap64 ((wrap64 ((wrap64 (a1_1 * a1_2)) * a1_2)) * a0_2))) = false := beq_eq_false_iff_ne.mpr c146
         have c146b1 : ((l1_7.length : Int) != (wrap64 ((wrap64 ((wrap64 (a1_1 * a1_2)) * a1_2)) * a0_2))) = true := bne_iff_ne.mpr c146
         simp only [Option.some.injEq, Prod.mk.injEq] at H
         obtain ⟨rfl, rfl, rfl, rfl⟩ := H
         have hn176 := ne2 NB172_171
         have hn177 := ne2 NB172_173
         have hn178 := ne2 NB172_174
         have hn179 := ne2 NB172_179
         have hcz180 := cells9 BK172.out
         have hn181 := ne2 NB171_173
         have hn182 := ne2 NB171_174
         have hn183 := ne2 NB171_179
         have hcz184 := cells3 BK171.out
         have hn185 := ne2 NB174_173
         have hn186 := ne2 NB174_179
         have hcz187 := cells3 BK174.out
         have hn188 := ne2 NB173_179
         have hcz189 := cells3 BK173.out
         go_wp2
         refine bodyPost_ret (results_ct rfl _ _ gb173 29 #[.int .i64 0, .int .i64 0, .int .i64 0] (0, 0) _ rfl (blk_fars (puts3 BK173.out)) Tryd.underlying29 rfl (by kernel_rfl)) rfl ?_
         exact ⟨eqN, bel_now⟩
        rw [if_pos c146] at H
        have c146b0 : ((l1_7.length : Int) == (wrap64 ((wrap64 ((wrap64 (a1_1 * a1_2)) * a1_2)) * a0_2))) = true := beq_iff_eq.mpr c146
        have c146b1 : ((l1_7.length : Int) != (wrap64 ((wrap64 ((wrap64 (a1_1 * a1_2)) * a1_2)) * a0_2))) = false := bne_eq_false_iff_eq.mpr c146
        clear c146
        by_cases c147 : (l1_7.length : Int) > 600
        ·rw [if_pos c147] at H
         have c147b0 : decide (600 < (l1_7.length : Int)) = true := decide_eq_true c147
         have c147b1 : decide (600 < l1_7.length) = true := decide_eq_true (by omega)
         clear c147
         simp only [Option.some.injEq, Prod.mk.injEq] at H
         obtain ⟨rfl, rfl, rfl, rfl⟩ := H
         have hn148 := ne2 NB172_171
         have hn149 := ne2 NB172_173
         have hn150 := ne2 NB172_174
         have hn151 := ne2 NB172_179
         have hcz152 := cells9 BK172.out
         have hn153 := ne2 NB171_173
         have hn154 := ne2 NB171_174
         have hn155 := ne2 NB171_179
         have hcz156 := cells3 BK171.out
         have hn157 := ne2 NB174_173
         have hn158 := ne2 NB174_179
         have hcz159 := cells3 BK174.out
         have hn160 := ne2 NB173_179
         have hcz161 := cells3 BK173.out
         go_wp2
         refine bodyPost_ret (results_ct rfl _ _ gb173 29 #[.int .i64 0, .int .i64 0, .int .i64 0] (0, 0) _ rfl (blk_fars (puts3 BK173.out)) Tryd.underlying29 rfl (by kernel_rfl)) rfl ?_
         exact ⟨eqN, bel_now⟩
        rw [if_neg c147] at H
        have c147b0 : decide (600 < (l1_7.length : Int)) = false := decide_eq_false c147
        have c147b1 : decide (600 < l1_7.length) = false := decide_eq_false (by omega)
        clear c147
        simp only [Option.some.injEq, Prod.mk.injEq] at H
        obtain ⟨rfl, rfl, rfl, rfl⟩ := H
        have hn162 := ne2 NB172_171
        have hn163 := ne2 NB172_173
        have hn164 := ne2 NB172_174
        have hn165 := ne2 NB172_179
        have hcz166 := cells9 BK172.out
        have hn167 := ne2 NB171_173
        have hn168 := ne2 NB171_174
        have hn169 := ne2 NB171_179
        have hcz170 := cells3 BK171.out
        have hn171 := ne2 NB179_173
        have hn172 := ne2 NB179_174
        have hcz173 := cells3 BK179.out
        have hn174 := ne2 NB173_174
        have hcz175 := cells3 BK173.out
        go_wp2
        refine bodyPost_ret (results_ct rfl _ _ gb173 29 #[.int .i64 x180000_38, .int .i64 x180001_38, .int .i64 a1_1] (0, 0) _ rfl (by (with_reducible repeat (first | refine blk_drewN ?_ _ | refine blk_drew ?_ | refine blk_alloc ?_ _)); refine blk_put (cs := #[.int .i64 x180000_38, .int .i64 x180001_38, .int .i64 x174002_38]) ?_ 2 _ rfl; (with_reducible repeat (first | refine blk_drewN ?_ _ | refine blk_drew ?_ | refine blk_alloc ?_ _)); refine blk_put (cs := #[.int .i64 x180000_38, .int .i64 x174001_38, .int .i64 x174002_38]) ?_ 1 _ rfl; (with_reducible repeat (first | refine blk_drewN ?_ _ | refine blk_drew ?_ | refine blk_alloc ?_ _)); refine blk_put (cs := #[.int .i64 x174000_38, .int .i64 x174001_38, .int .i64 x174002_38]) ?_ 0 _ rfl; (with_reducible repeat (first | refine blk_drewN ?_ _ | refine blk_drew ?_ | refine blk_alloc ?_ _)); refine blk_far ?_ NB173_179.out _; (with_reducible repeat (first | refine blk_drewN ?_ _ | refine blk_drew ?_ | refine blk_alloc ?_ _)); exact BK173.out) Tryd.underlying29 rfl (by kernel_rfl)) rfl ?_
        exact ⟨eqN, bel_now⟩
       rw [if_neg c145] at H
       have c145b0 : (a1_0 == 1) = false := beq_eq_false_iff_ne.mpr c145
       have c145b1 : (a1_0 != 1) = true := bne_iff_ne.mpr c145
       by_cases c190 : a1_0 = 5
       rotate_left
       ·rw [if_neg c190] at H
        have c190b0 : (a1_0 == 5) = false := beq_eq_false_iff_ne.mpr c190
        have c190b1 : (a1_0 != 5) = true := bne_iff_ne.mpr c190
        simp only [Option.some.injEq, Prod.mk.injEq] at H
        obtain ⟨rfl, rfl, rfl, rfl⟩ := H
        have hn224 := ne2 NB172_171
        have hn225 := ne2 NB172_173
        have hn226 := ne2 NB172_174
        have hn227 := ne2 NB172_179
        have hcz228 := cells9 BK172.out
        have hn229 := ne2 NB179_171
        have hn230 := ne2 NB179_173
        have hn231 := ne2 NB179_174
        have hcz232 := cells3 BK179.out
        have hn233 := ne2 NB173_171
        have hn234 := ne2 NB173_174
        have hcz235 := cells3 BK173.out
        go_wp2
        refine bodyPost_ret (results_ct rfl _ _ gb173 29 #[.int .i64 x180000_38, .int .i64 x180001_38, .int .i64 a0_2] (0, 0) _ rfl (blk_fars (puts3 BK173.out)) Tryd.underlying29 rfl (by kernel_rfl)) rfl ?_
        exact ⟨eqN, bel_now⟩
       rw [if_pos c190] at H
       have c190b0 : (a1_0 == 5) = true := beq_iff_eq.mpr c190
       have c190b1 : (a1_0 != 5) = false := bne_eq_false_iff_eq.mpr c190
       clear c190
       replace H := Option.bind_eq_some_iff.mp H
       obtain ⟨t182, A1910, H⟩ := H
       (try dsimp only at H)
       have A191 := Aside0.mk A1910
       clear A1910
       by_cases c192 : t182 > 8
       ·rw [if_pos c192] at H
        have c192b0 : decide (8 < t182) = true := decide_eq_true c192
        clear c192
        simp only [Option.some.injEq, Prod.mk.injEq] at H
        obtain ⟨rfl, rfl, rfl, rfl⟩ := H
        have hn193 := ne2 NB172_171
        have hn194 := ne2 NB172_173
        have hn195 := ne2 NB172_174
        have hn196 := ne2 NB172_179
        have hcz197 := cells9 BK172.out
        have hn198 := ne2 NB171_173
        have hn199 := ne2 NB171_174
        have hn200 := ne2 NB171_179
        have hcz201 := cells3 BK171.out
        go_wp2_with (first | ((with_reducible refine gate_callee (f := 51) rfl ?_); refine goesM (some 118) rfl rfl Tryd.func51 (by kernel_rfl) rfl #[.agg #[.int .i64 a0_0, .int .i64 a0_1, .int .i64 a0_2]] rfl ?_; (with_reducible refine (spec_SizeOf.calls a0_0 a0_1 a0_2 t182 _ A191.out).mono ?_); rintro e w202 ⟨rfl, hb⟩; refine ⟨_, rfl, ?_⟩; replace HB := bel_on w hb; replace BK171 := blk_on gb171 hb; replace BK172 := blk_on gb172 hb; replace BK173 := blk_on gb173 hb; replace BK174 := blk_on gb174 hb; replace BK179 := blk_on gb179 hb; (try clear hb); have hn203 := ne2 NB174_173; have hn204 := ne2 NB174_179; have hcz205 := cells3 BK174.out; have hn206 := ne2 NB173_179; have hcz207 := cells3 BK173.out))
        refine bodyPost_ret (results_ct rfl _ _ gb173 29 #[.int .i64 0, .int .i64 0, .int .i64 0] (0, 0) _ rfl (blk_fars (puts3 BK173.out)) Tryd.underlying29 rfl (by kernel_rfl)) rfl ?_
        exact ⟨eqN, bel_now⟩
       rw [if_neg c192] at H
       have c192b0 : decide (8 < t182) = false := decide_eq_false c192
       clear c192
       replace H := Option.bind_eq_some_iff.mp H
       obtain ⟨t183, A2080, H⟩ := H
       (try dsimp only at H)
       have A208 := Aside0.mk A2080
       clear A2080
       simp only [Option.some.injEq, Prod.mk.injEq] at H
       obtain ⟨rfl, rfl, rfl, rfl⟩ := H
       have hn209 := ne2 NB172_171
       have hn210 := ne2 NB172_173
       have hn211 := ne2 NB172_174
       have hn212 := ne2 NB172_179
       have hcz213 := cells9 BK172.out
       have hn214 := ne2 NB171_173
       have hn215 := ne2 NB171_174
       have hn216 := ne2 NB171_179
       have hcz217 := cells3 BK171.out
       go_wp2_with (first | ((with_reducible refine gate_callee (f := 51) rfl ?_); refine goesM (some 118) rfl rfl Tryd.func51 (by kernel_rfl) rfl #[.agg #[.int .i64 a0_0, .int .i64 a0_1, .int .i64 a0_2]] rfl ?_; (with_reducible refine (spec_SizeOf.calls a0_0 a0_1 a0_2 t182 _ A191.out).mono ?_); rintro e w218 ⟨rfl, hb⟩; refine ⟨_, rfl, ?_⟩; replace HB := bel_on w hb; replace BK171 := blk_on gb171 hb; replace BK172 := blk_on gb172 hb; replace BK173 := blk_on gb173 hb; replace BK174 := blk_on gb174 hb; replace BK179 := blk_on gb179 hb; (try clear hb); have hcz219 := cells3 BK171.out) | ((with_reducible refine gate_callee (f := 51) rfl ?_); refine goesM (some 122) rfl rfl Tryd.func51 (by kernel_rfl) rfl #[.agg #[.int .i64 a0_0, .int .i64 a0_1, .int .i64 a0_2]] rfl ?_; (with_reducible refine (spec_SizeOf.calls a0_0 a0_1 a0_2 t183 _ A208.out).mono ?_); rintro e w220 ⟨rfl, hb⟩; refine ⟨_, rfl, ?_⟩; replace HB := bel_on w hb; replace BK171 := blk_on gb171 hb; replace BK172 := blk_on gb172 hb; replace BK173 := blk_on gb173 hb; replace BK174 := blk_on gb174 hb; replace BK179 := blk_on gb179 hb; (try clear hb); have hn221 := ne2 NB173_174; have hn222 := ne2 NB173_179; have hcz223 := cells3 BK173.out))
       refine bodyPost_ret (results_ct rfl _ _ gb173 29 #[.int .i64 1, .int .i64 1, .int .i64 t183] (0, 0) _ rfl (blk_fars (puts3 BK173.out)) Tryd.underlying29 rfl (by kernel_rfl)) rfl ?_
       exact ⟨eqN, bel_now⟩
      rw [if_pos c98] at H
      have c98b0 : (a1_0 == 0) = true := beq_iff_eq.mpr c98
      have c98b1 : (a1_0 != 0) = false := bne_eq_false_iff_eq.mpr c98
      clear c98
      replace H := Option.bind_eq_some_iff.mp H
      obtain ⟨t180, A990, H⟩ := H
      (try dsimp only at H)
      have A99 := Aside0.mk A990
      clear A990
      by_cases c100 : t180 > 64
      ·rw [if_pos c100] at H
       have c100b0 : decide (64 < t180) = true := decide_eq_true c100
       clear c100
       simp only [Option.some.injEq, Prod.mk.injEq] at H
       obtain ⟨rfl, rfl, rfl, rfl⟩ := H
       have hn101 := ne2 NB172_171
       have hn102 := ne2 NB172_173
       have hn103 := ne2 NB172_174
       have hn104 := ne2 NB172_179
       have hcz105 := cells9 BK172.out
       try go_wp2
       replace BK171 := Aside0.mk (blk_drew BK171.out)
       replace BK172 := Aside0.mk (blk_drew BK172.out)
       replace BK173 := Aside0.mk (blk_drew BK173.out)
       replace BK174 := Aside0.mk (blk_drew BK174.out)
       replace BK179 := Aside0.mk (blk_drew BK179.out)
       replace HB := Aside0.mk (below_drew1 HB.out)
       refine start_ (n := 14) (S := fun w' => w'.cell? ⟨gb171, 0, none⟩ = some (.int .i64 a0_0) ∧ w'.cell? ⟨gb171, 1, none⟩ = some (.int .i64 a0_1) ∧ w'.cell? ⟨gb171, 2, none⟩ = some (.int .i64 a0_2)) (ds := []) #[O, O, O, O, O, O, O, O, O, O, O, O, O, O] (by kernel_rfl) rfl rfl ⟨bc BK171 0, bc BK171 1, bc BK171 2⟩ (fun hHeld => ?_); refine with_tabW spec_OutShape.tab15 spec_OutShape.bits15 (fun HT_ HW_ => ?_)
       generalize wc.drew = w106 at BK171 BK172 BK173 BK174 BK179 HB hHeld ⊢
       refine stepT 0 (some 70) (tk 14 1) (take_ofW HT_.out HW_.out (by kernel_rfl)) hHeld ?_
       refine one_ (i := 1) (N := some 71) #[I, I, O, O, O, O, O, O, O, O, O, O, O, O] rfl rfl (one_of HT_.out (by kernel_rfl)) (by decide) (fun K hK => ?_)
       refine goes_ Tryd.func51 (by kernel_rfl) rfl #[.agg #[.int .i64 a0_0, .int .i64 a0_1, .int .i64 a0_2]] (by rfl) rfl rfl (by (try simp only [List.map_toArray, List.map_cons, List.map_nil]); first | done | rfl | (simp only [List.length_drop, List.length_take]; rfl)) ?_
       with_reducible refine (spec_SizeOf.calls a0_0 a0_1 a0_2 t180 _ A99.out).mono ?_
       rintro e w107 ⟨rfl, hb⟩
       refine ⟨_, rfl, ?_⟩
       replace BK171 := blk_on gb171 hb
       replace BK172 := blk_on gb172 hb
       replace BK173 := blk_on gb173 hb
       replace BK174 := blk_on gb174 hb
       replace BK179 := blk_on gb179 hb
       replace HB := bel_on w hb
       (try clear hb)
       refine hK.out _ _ ⟨bc BK171 0, bc BK171 1, bc BK171 2⟩ (fun hHeld => ?_)
       clear hK K
       refine normP 71 ?_
       refine stepP 2 (some 72) (tk 14 7) (any_of HT_.out (by kernel_rfl)) ?_
       refine stepP 3 (some 73) (tk 14 15) (any_of HT_.out (by kernel_rfl)) ?_
       refine stepU 4 (some 74) (tk 14 31) (any_of HT_.out (by kernel_rfl)) ?_
       refine stepU 5 (some 75) (tk 14 63) (any_of HT_.out (by kernel_rfl)) ?_
       refine stepU 6 (some 76) (tk 14 127) (any_of HT_.out (by kernel_rfl)) ?_
       refine stepU 7 (some 77) (tk 14 255) (any_of HT_.out (by kernel_rfl)) ?_
       refine stepU 8 (some 78) (tk 14 511) (any_of HT_.out (by kernel_rfl)) ?_
       refine stepU 9 (some 79) (tk 14 1023) (any_of HT_.out (by kernel_rfl)) ?_
       refine stepU 10 (some 80) (tk 14 2047) (any_of HT_.out (by kernel_rfl)) ?_
       refine stepU 11 (some 81) (tk 14 4095) (any_of HT_.out (by kernel_rfl)) ?_
       refine stepU 12 (some 82) (tk 14 8191) (any_of HT_.out (by kernel_rfl)) ?_
       refine stepP 13 (some 83) (tk 14 16383) (any_of HT_.out (by kernel_rfl)) ?_
       refine done_ (done_of HT_.out (by kernel_rfl)) ?_
       have hn108 := ne2 NB174_171
       have hn109 := ne2 NB174_173
       have hn110 := ne2 NB174_179
       have hcz111 := cells3 BK174.out
       have hn112 := ne2 NB173_171
       have hn113 := ne2 NB173_179
       have hcz114 := cells3 BK173.out
       try go_wp2
       refine bodyPost_ret (results_ct rfl _ _ gb173 29 #[.int .i64 0, .int .i64 0, .int .i64 0] (0, 0) _ rfl (blk_fars (puts3 BK173.out)) Tryd.underlying29 rfl (by kernel_rfl)) rfl ?_
       exact ⟨eqN, bel_now⟩
      rw [if_neg c100] at H
      have c100b0 : decide (64 < t180) = false := decide_eq_false c100
      clear c100
      replace H := Option.bind_eq_some_iff.mp H
      obtain ⟨t181, A1150, H⟩ := H
      (try dsimp only at H)
      have A115 := Aside0.mk A1150
      clear A1150
      by_cases c116 : (l1_7.length : Int) = (wrap64 (a1_1 * t181))
      ·rw [if_pos c116] at H
       have c116b0 : ((l1_7.length : Int) == (wrap64 (a1_1 * t181))) = true := beq_iff_eq.mpr c116
       have c116b1 : ((l1_7.length : Int) != (wrap64 (a1_1 * t181))) = false := bne_eq_false_iff_eq.mpr c116
       clear c116
       simp only [Option.some.injEq, Prod.mk.injEq] at H
       obtain ⟨rfl, rfl, rfl, rfl⟩ := H
       have hn117 := ne2 NB172_171
       have hn118 := ne2 NB172_173
       have hn119 := ne2 NB172_174
       have hn120 := ne2 NB172_179
       have hcz121 := cells9 BK172.out
       try go_wp2
       replace BK171 := Aside0.mk (blk_drew BK171.out)
       replace BK172 := Aside0.mk (blk_drew BK172.out)
       replace BK173 := Aside0.mk (blk_drew BK173.out)
       replace BK174 := Aside0.mk (blk_drew BK174.out)
       replace BK179 := Aside0.mk (blk_drew BK179.out)
       replace HB := Aside0.mk (below_drew1 HB.out)
       refine start_ (n := 14) (S := fun w' => w'.cell? ⟨gb171, 0, none⟩ = some (.int .i64 a0_0) ∧ w'.cell? ⟨gb171, 1, none⟩ = some (.int .i64 a0_1) ∧ w'.cell? ⟨gb171, 2, none⟩ = some (.int .i64 a0_2) ∧ w'.cell? ⟨gb172, 0, none⟩ = some (.int .i64 a1_0) ∧ w'.cell? ⟨gb172, 1, none⟩ = some (.int .i64 a1_1) ∧ w'.cell? ⟨gb172, 2, none⟩ = some (.int .i64 a1_2) ∧ w'.cell? ⟨gb172, 3, none⟩ = some (.int .i64 a1_3) ∧ w'.cell? ⟨gb172, 4, none⟩ = some (.int .i64 a1_4) ∧ w'.cell? ⟨gb172, 5, none⟩ = some (.int .i64 a1_5) ∧ w'.cell? ⟨gb172, 6, none⟩ = some (.int .i64 a1_6) ∧ w'.cell? ⟨gb172, 7, none⟩ = some (.slice A1_7 l1_7.length c1_7) ∧ w'.cell? ⟨gb172, 8, none⟩ = some (.slice A1_8 l1_8.length c1_8)) (ds := []) #[O, O, O, O, O, O, O, O, O, O, O, O, O, O] (by kernel_rfl) rfl rfl ⟨bc BK171 0, bc BK171 1, bc BK171 2, bc BK172 0, bc BK172 1, bc BK172 2, bc BK172 3, bc BK172 4, bc BK172 5, bc BK172 6, bc BK172 7, bc BK172 8⟩ (fun hHeld => ?_); refine with_tabW spec_OutShape.tab15 spec_OutShape.bits15 (fun HT_ HW_ => ?_)
       generalize wc.drew = w122 at BK171 BK172 BK173 BK174 BK179 HB hHeld ⊢
       refine stepT 0 (some 70) (tk 14 1) (take_ofW HT_.out HW_.out (by kernel_rfl)) hHeld ?_
       refine one_ (i := 1) (N := some 71) #[I, I, O, O, O, O, O, O, O, O, O, O, O, O] rfl rfl (one_of HT_.out (by kernel_rfl)) (by decide) (fun K hK => ?_)
       refine goes_ Tryd.func51 (by kernel_rfl) rfl #[.agg #[.int .i64 a0_0, .int .i64 a0_1, .int .i64 a0_2]] (by rfl) rfl rfl (by (try simp only [List.map_toArray, List.map_cons, List.map_nil]); first | done | rfl | (simp only [List.length_drop, List.length_take]; rfl)) ?_
       with_reducible refine (spec_SizeOf.calls a0_0 a0_1 a0_2 t180 _ A99.out).mono ?_
       rintro e w123 ⟨rfl, hb⟩
       refine ⟨_, rfl, ?_⟩
       replace BK171 := blk_on gb171 hb
       replace BK172 := blk_on gb172 hb
       replace BK173 := blk_on gb173 hb
       replace BK174 := blk_on gb174 hb
       replace BK179 := blk_on gb179 hb
       replace HB := bel_on w hb
       (try clear hb)
       refine hK.out _ _ ⟨bc BK171 0, bc BK171 1, bc BK171 2, bc BK172 0, bc BK172 1, bc BK172 2, bc BK172 3, bc BK172 4, bc BK172 5, bc BK172 6, bc BK172 7, bc BK172 8⟩ (fun hHeld => ?_)
       clear hK K
       refine normP 71 ?_
       refine stepP 2 (some 72) (tk 14 7) (any_of HT_.out (by kernel_rfl)) ?_
       refine stepP 3 (some 73) (tk 14 15) (any_of HT_.out (by kernel_rfl)) ?_
       refine stepP 4 (some 74) (tk 14 31) (any_of HT_.out (by kernel_rfl)) ?_
       refine stepP 7 (some 77) (tk 14 159) (any_of HT_.out (by kernel_rfl)) ?_
       refine stepT 5 (some 75) (tk 14 191) (take_ofW HT_.out HW_.out (by kernel_rfl)) hHeld ?_
       refine stepP 6 (some 76) (tk 14 255) (any_of HT_.out (by kernel_rfl)) ?_
       refine stepT 8 (some 78) (tk 14 511) (take_ofW HT_.out HW_.out (by kernel_rfl)) hHeld ?_
       refine stepT 9 (some 79) (tk 14 1023) (take_ofW HT_.out HW_.out (by kernel_rfl)) hHeld ?_
       refine one_ (i := 10) (N := some 80) #[I, I, I, I, I, I, I, I, I, I, I, O, O, O] rfl rfl (one_of HT_.out (by kernel_rfl)) (by decide) (fun K hK => ?_)
       refine goes_ Tryd.func51 (by kernel_rfl) rfl #[.agg #[.int .i64 a0_0, .int .i64 a0_1, .int .i64 a0_2]] (by rfl) rfl rfl (by (try simp only [List.map_toArray, List.map_cons, List.map_nil]); first | done | rfl | (simp only [List.length_drop, List.length_take]; rfl)) ?_
       with_reducible refine (spec_SizeOf.calls a0_0 a0_1 a0_2 t181 _ A115.out).mono ?_
       rintro e w124 ⟨rfl, hb⟩
       refine ⟨_, rfl, ?_⟩
       replace BK171 := blk_on gb171 hb
       replace BK172 := blk_on gb172 hb
       replace BK173 := blk_on gb173 hb
       replace BK174 := blk_on gb174 hb
       replace BK179 := blk_on gb179 hb
       replace HB := bel_on w hb
       (try clear hb)
       refine hK.out _ _ ⟨bc BK171 0, bc BK171 1, bc BK171 2, bc BK172 0, bc BK172 1, bc BK172 2, bc BK172 3, bc BK172 4, bc BK172 5, bc BK172 6, bc BK172 7, bc BK172 8⟩ (fun hHeld => ?_)
       clear hK K
       refine normP 80 ?_
       refine stepP 11 (some 81) (tk 14 4095) (any_of HT_.out (by kernel_rfl)) ?_
       refine stepP 12 (some 82) (tk 14 8191) (any_of HT_.out (by kernel_rfl)) ?_
       refine stepP 13 (some 83) (tk 14 16383) (any_of HT_.out (by kernel_rfl)) ?_
       refine done_ (done_of HT_.out (by kernel_rfl)) ?_
       have hcz125 := cells9 BK172.out
       have hn126 := ne2 NB173_171
       have hn127 := ne2 NB173_174
       have hn128 := ne2 NB173_179
       have hcz129 := cells3 BK173.out
       try go_wp2
       refine bodyPost_ret (results_ct rfl _ _ gb173 29 #[.int .i64 1, .int .i64 1, .int .i64 a1_1] (0, 0) _ rfl (blk_fars (puts3 BK173.out)) Tryd.underlying29 rfl (by kernel_rfl)) rfl ?_
       exact ⟨eqN, bel_now⟩
      rw [if_neg c116] at H
      have c116b0 : ((l1_7.length : Int) == (wrap64 (a1_1 * t181))) = false := beq_eq_false_iff_ne.mpr c116
      have c116b1 : ((l1_7.length : Int) != (wrap64 (a1_1 * t181))) = true := bne_iff_ne.mpr c116
      simp only [Option.some.injEq, Prod.mk.injEq] at H
      obtain ⟨rfl, rfl, rfl, rfl⟩ := H
      have hn130 := ne2 NB172_171
      have hn131 := ne2 NB172_173
      have hn132 := ne2 NB172_174
      have hn133 := ne2 NB172_179
      have hcz134 := cells9 BK172.out
      try go_wp2
      replace BK171 := Aside0.mk (blk_drew BK171.out)
      replace BK172 := Aside0.mk (blk_drew BK172.out)
      replace BK173 := Aside0.mk (blk_drew BK173.out)
      replace BK174 := Aside0.mk (blk_drew BK174.out)
      replace BK179 := Aside0.mk (blk_drew BK179.out)
      replace HB := Aside0.mk (below_drew1 HB.out)
      refine start_ (n := 14) (S := fun w' => w'.cell? ⟨gb171, 0, none⟩ = some (.int .i64 a0_0) ∧ w'.cell? ⟨gb171, 1, none⟩ = some (.int .i64 a0_1) ∧ w'.cell? ⟨gb171, 2, none⟩ = some (.int .i64 a0_2) ∧ w'.cell? ⟨gb172, 0, none⟩ = some (.int .i64 a1_0) ∧ w'.cell? ⟨gb172, 1, none⟩ = some (.int .i64 a1_1) ∧ w'.cell? ⟨gb172, 2, none⟩ = some (.int .i64 a1_2) ∧ w'.cell? ⟨gb172, 3, none⟩ = some (.int .i64 a1_3) ∧ w'.cell? ⟨gb172, 4, none⟩ = some (.int .i64 a1_4) ∧ w'.cell? ⟨gb172, 5, none⟩ = some (.int .i64 a1_5) ∧ w'.cell? ⟨gb172, 6, none⟩ = some (.int .i64 a1_6) ∧ w'.cell? ⟨gb172, 7, none⟩ = some (.slice A1_7 l1_7.length c1_7) ∧ w'.cell? ⟨gb172, 8, none⟩ = some (.slice A1_8 l1_8.length c1_8)) (ds := []) #[O, O, O, O, O, O, O, O, O, O, O, O, O, O] (by kernel_rfl) rfl rfl ⟨bc BK171 0, bc BK171 1, bc BK171 2, bc BK172 0, bc BK172 1, bc BK172 2, bc BK172 3, bc BK172 4, bc BK172 5, bc BK172 6, bc BK172 7, bc BK172 8⟩ (fun hHeld => ?_); refine with_tabW spec_OutShape.tab15 spec_OutShape.bits15 (fun HT_ HW_ => ?_)
      generalize wc.drew = w135 at BK171 BK172 BK173 BK174 BK179 HB hHeld ⊢
      refine stepT 0 (some 70) (tk 14 1) (take_ofW HT_.out HW_.out (by kernel_rfl)) hHeld ?_
      refine one_ (i := 1) (N := some 71) #[I, I, O, O, O, O, O, O, O, O, O, O, O, O] rfl rfl (one_of HT_.out (by kernel_rfl)) (by decide) (fun K hK => ?_)
      refine goes_ Tryd.func51 (by kernel_rfl) rfl #[.agg #[.int .i64 a0_0, .int .i64 a0_1, .int .i64 a0_2]] (by rfl) rfl rfl (by (try simp only [List.map_toArray, List.map_cons, List.map_nil]); first | done | rfl | (simp only [List.length_drop, List.length_take]; rfl)) ?_
      with_reducible refine (spec_SizeOf.calls a0_0 a0_1 a0_2 t180 _ A99.out).mono ?_
      rintro e w136 ⟨rfl, hb⟩
      refine ⟨_, rfl, ?_⟩
      replace BK171 := blk_on gb171 hb
      replace BK172 := blk_on gb172 hb
      replace BK173 := blk_on gb173 hb
      replace BK174 := blk_on gb174 hb
      replace BK179 := blk_on gb179 hb
      replace HB := bel_on w hb
      (try clear hb)
      refine hK.out _ _ ⟨bc BK171 0, bc BK171 1, bc BK171 2, bc BK172 0, bc BK172 1, bc BK172 2, bc BK172 3, bc BK172 4, bc BK172 5, bc BK172 6, bc BK172 7, bc BK172 8⟩ (fun hHeld => ?_)
      clear hK K
      refine normP 71 ?_
      refine stepP 2 (some 72) (tk 14 7) (any_of HT_.out (by kernel_rfl)) ?_
      refine stepP 3 (some 73) (tk 14 15) (any_of HT_.out (by kernel_rfl)) ?_
      refine stepP 4 (some 74) (tk 14 31) (any_of HT_.out (by kernel_rfl)) ?_
      refine stepP 7 (some 77) (tk 14 159) (any_of HT_.out (by kernel_rfl)) ?_
      refine stepT 5 (some 75) (tk 14 191) (take_ofW HT_.out HW_.out (by kernel_rfl)) hHeld ?_
      refine stepP 6 (some 76) (tk 14 255) (any_of HT_.out (by kernel_rfl)) ?_
      refine stepT 8 (some 78) (tk 14 511) (take_ofW HT_.out HW_.out (by kernel_rfl)) hHeld ?_
      refine stepT 9 (some 79) (tk 14 1023) (take_ofW HT_.out HW_.out (by kernel_rfl)) hHeld ?_
      refine one_ (i := 10) (N := some 80) #[I, I, I, I, I, I, I, I, I, I, I, O, O, O] rfl rfl (one_of HT_.out (by kernel_rfl)) (by decide) (fun K hK => ?_)
      refine goes_ Tryd.func51 (by kernel_rfl) rfl #[.agg #[.int .i64 a0_0, .int .i64 a0_1, .int .i64 a0_2]] (by rfl) rfl rfl (by (try simp only [List.map_toArray, List.map_cons, List.map_nil]); first | done | rfl | (simp only [List.length_drop, List.length_take]; rfl)) ?_
      with_reducible refine (spec_SizeOf.calls a0_0 a0_1 a0_2 t181 _ A115.out).mono ?_
      rintro e w137 ⟨rfl, hb⟩
      refine ⟨_, rfl, ?_⟩
      replace BK171 := blk_on gb171 hb
      replace BK172 := blk_on gb172 hb
      replace BK173 := blk_on gb173 hb
      replace BK174 := blk_on gb174 hb
      replace BK179 := blk_on gb179 hb
      replace HB := bel_on w hb
      (try clear hb)
      refine hK.out _ _ ⟨bc BK171 0, bc BK171 1, bc BK171 2, bc BK172 0, bc BK172 1, bc BK172 2, bc BK172 3, bc BK172 4, bc BK172 5, bc BK172 6, bc BK172 7, bc BK172 8⟩ (fun hHeld => ?_)
      clear hK K
      refine normP 80 ?_
      refine stepP 11 (some 81) (tk 14 4095) (any_of HT_.out (by kernel_rfl)) ?_
      refine stepP 12 (some 82) (tk 14 8191) (any_of HT_.out (by kernel_rfl)) ?_
      refine stepP 13 (some 83) (tk 14 16383) (any_of HT_.out (by kernel_rfl)) ?_
      refine done_ (done_of HT_.out (by kernel_rfl)) ?_
      have hn138 := ne2 NB174_171
      have hn139 := ne2 NB174_173
      have hn140 := ne2 NB174_179
      have hcz141 := cells3 BK174.out
      have hn142 := ne2 NB173_171
      have hn143 := ne2 NB173_179
      have hcz144 := cells3 BK173.out
      try go_wp2
      refine bodyPost_ret (results_ct rfl _ _ gb173 29 #[.int .i64 0, .int .i64 0, .int .i64 0] (0, 0) _ rfl (blk_fars (puts3 BK173.out)) Tryd.underlying29 rfl (by kernel_rfl)) rfl ?_
      exact ⟨eqN, bel_now⟩

end Go.Proofs.YtclpojeofclbjaaDoor.PFnExactModelText
