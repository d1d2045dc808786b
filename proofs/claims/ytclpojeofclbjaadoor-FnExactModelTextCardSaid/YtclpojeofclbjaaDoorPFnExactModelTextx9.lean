-- Printed by the session's own program (wip/myprint.py) for this claim out of the translation. Not trusted: Lean checks it.
import Derived.Test.YtclpojeofclbjaaDoorPFnExactModelTextx0
import Derived.Test.YtclpojeofclbjaaDoorPFnExactModelTextx6
import Derived.Test.YtclpojeofclbjaaDoorPFnExactModelTextx7
import Derived.Test.YtclpojeofclbjaaDoorPFnExactModelTextx8
namespace Go.Proofs.YtclpojeofclbjaaDoor.PFnExactModelText
open Go.RowKit Go.Proofs.YtclpojeofclbjaaDoorW.PrintWords Go.Proofs.YtclpojeofclbjaaDoorW.PrintLast Go.Proofs.YtclpojeofclbjaaDoorW.PrintMore
attribute [local go_sem] max2_int min2_int max_two min_two max_three min_three max_four min_four   -- for this text's walks alone
set_option linter.unusedVariables false
set_option linter.unusedSimpArgs false

/-! ### impl_OutShape: function 61 -/
def impl_OutShape.j0 : Nat → Int → Int → Bool → Int → Int → Int → Int → Int → Int → Int → Int → Int → Int → List Int → List Int → Option (Int × Int × Int × Bool)
  | 0, _, _, _, _, _, _, _, _, _, _, _, _, _, _, _ => none
  | k + 1, x6, x14, x59, x261000, x261001, x261002, x262000, x262001, x262002, x262003, x262004, x262005, x262006, x262007, x262008 => if x59 = true then ((impl_Layer_isWindow.f x262000 x262001 x262002 x262003 x262004 x262005 x262006 x262007 x262008 x261000 x261001 x261002).bind fun t272 => (if t272 = true then ((impl_Layer_isBare.f x262000 x262001 x262002 x262003 x262004 x262005 x262006 x262007 x262008).bind fun t273 => (if t273 = true then (if x262006 = 0 then ((impl_Layer_windows.f x262000 x262001 x262002 x262003 x262004 x262005 x262006 x262007 x262008 x261000 x261001 x261002 x261002).bind fun bt274 => (some (bt274.1, bt274.2.1, bt274.2.2, true))) else (some (0, 0, 0, false))) else (some (0, 0, 0, false)))) else (some (0, 0, 0, false)))) else (if x14 = 4 then ((impl_Layer_hasNone.f x262000 x262001 x262002 x262003 x262004 x262005 x262006 x262007 x262008).bind fun t277 => (if t277 = true then ((impl_Layer_isBare.f x262000 x262001 x262002 x262003 x262004 x262005 x262006 x262007 x262008).bind fun t278 => (if t278 = true then ((impl_in.f x262006 (-128) 127).bind fun t279 => (if t279 = true then (some (x261000, x261001, x261002, true)) else (some (0, 0, 0, false)))) else (some (0, 0, 0, false)))) else (some (0, 0, 0, false)))) else (if x14 = 5 then ((impl_Layer_hasNone.f x262000 x262001 x262002 x262003 x262004 x262005 x262006 x262007 x262008).bind fun t280 => (if t280 = true then ((impl_Layer_isBare.f x262000 x262001 x262002 x262003 x262004 x262005 x262006 x262007 x262008).bind fun t281 => (if t281 = true then (if x262006 = 0 then (if x6 ≤ 8 then (some (1, 1, x6, true)) else (some (0, 0, 0, false))) else (some (0, 0, 0, false))) else (some (0, 0, 0, false)))) else (some (0, 0, 0, false)))) else (some (0, 0, 0, false))))
def impl_OutShape.f (k : Nat) (a0_0 : Int) (a0_1 : Int) (a0_2 : Int) (a1_0 : Int) (a1_1 : Int) (a1_2 : Int) (a1_3 : Int) (a1_4 : Int) (a1_5 : Int) (a1_6 : Int) (l1_7 : List Int) (l1_8 : List Int) : Option (Int × Int × Int × Bool) := (impl_ShapeOk.f a0_0 a0_1 a0_2).bind fun t263 => (if t263 = true then ((impl_SizeOf.f a0_0 a0_1 a0_2).bind fun t264 => (if a1_0 = 0 then (if t264 ≤ 64 then ((impl_Layer_hasNone.f a1_0 a1_1 a1_2 a1_3 a1_4 a1_5 a1_6 l1_7 l1_8).bind fun t265 => (if t265 = true then ((impl_Layer_isScaled.f k a1_0 a1_1 a1_2 a1_3 a1_4 a1_5 a1_6 l1_7 l1_8 t264).bind fun t266 => (if t266 = true then (some (1, 1, a1_1, true)) else (some (0, 0, 0, false)))) else (some (0, 0, 0, false)))) else (some (0, 0, 0, false))) else (if a1_0 = 1 then ((impl_Layer_isWindow.f a1_0 a1_1 a1_2 a1_3 a1_4 a1_5 a1_6 l1_7 l1_8 a0_0 a0_1 a0_2).bind fun t267 => (if t267 = true then (if (l1_7.length : Int) ≤ 600 then ((impl_Layer_isScaled.f k a1_0 a1_1 a1_2 a1_3 a1_4 a1_5 a1_6 l1_7 l1_8 (wrap64 ((wrap64 (a1_2 * a1_2)) * a0_2))).bind fun t268 => (if t268 = true then ((impl_Layer_windows.f a1_0 a1_1 a1_2 a1_3 a1_4 a1_5 a1_6 l1_7 l1_8 a0_0 a0_1 a0_2 a1_1).bind fun bt269 => (some (bt269.1, bt269.2.1, bt269.2.2, true))) else (some (0, 0, 0, false)))) else (some (0, 0, 0, false))) else (some (0, 0, 0, false)))) else (if a1_0 = 2 then (impl_OutShape.j0 k t264 a1_0 (a1_0 == 2) a0_0 a0_1 a0_2 a1_0 a1_1 a1_2 a1_3 a1_4 a1_5 a1_6 l1_7 l1_8) else (impl_OutShape.j0 k t264 a1_0 (a1_0 == 3) a0_0 a0_1 a0_2 a1_0 a1_1 a1_2 a1_3 a1_4 a1_5 a1_6 l1_7 l1_8))))) else (some (0, 0, 0, false)))
set_option maxHeartbeats 8000000 in
set_option maxRecDepth 100000 in
theorem impl_OutShape.calls (k : Nat) (a0_0 : Int) (a0_1 : Int) (a0_2 : Int) (a1_0 : Int) (a1_1 : Int) (a1_2 : Int) (a1_3 : Int) (a1_4 : Int) (a1_5 : Int) (a1_6 : Int) (A1_7 : Option Addr) (c1_7 : Nat) (l1_7 : List Int) (A1_8 : Option Addr) (c1_8 : Nat) (l1_8 : List Int) (r1 : Int) (r2 : Int) (r3 : Int) (r4 : Bool) (w : World) (hr1_7 : Kd.C (Kd.int .i64) w A1_7 l1_7.length l1_7) (hc1_7 : l1_7.length ≤ c1_7) (hr1_8 : Kd.C (Kd.int .i64) w A1_8 l1_8.length l1_8) (hc1_8 : l1_8.length ≤ c1_8) (h : impl_OutShape.f k a0_0 a0_1 a0_2 a1_0 a1_1 a1_2 a1_3 a1_4 a1_5 a1_6 l1_7 l1_8 = some (r1, r2, r3, r4)) :
   Calls Tryd.prog 61 #[.agg #[.int .i64 a0_0, .int .i64 a0_1, .int .i64 a0_2], .agg #[.int .i64 a1_0, .int .i64 a1_1, .int .i64 a1_2, .int .i64 a1_3, .int .i64 a1_4, .int .i64 a1_5, .int .i64 a1_6, .slice A1_7 l1_7.length c1_7, .slice A1_8 l1_8.length c1_8]] w fun e w' => e = .returned (.tuple #[.agg #[.int .i64 r1, .int .i64 r2, .int .i64 r3], .bool r4]) ∧ Below w.heap.size w w' := by
  have hu29 := Tryd.underlying29
  have hu49 := Tryd.underlying49
  have HR1_7 := Aside0.mk hr1_7
  have HC1_7 := Aside0.mk hc1_7
  clear hr1_7 hc1_7
  have HR1_8 := Aside0.mk hr1_8
  have HC1_8 := Aside0.mk hc1_8
  clear hr1_8 hc1_8
  have HB := Aside0.mk (Below.refl w.heap.size w)
  have H : ((impl_ShapeOk.f a0_0 a0_1 a0_2).bind fun t263 => (if t263 = true then ((impl_SizeOf.f a0_0 a0_1 a0_2).bind fun t264 => (if a1_0 = 0 then (if t264 ≤ 64 then ((impl_Layer_hasNone.f a1_0 a1_1 a1_2 a1_3 a1_4 a1_5 a1_6 l1_7 l1_8).bind fun t265 => (if t265 = true then ((impl_Layer_isScaled.f k a1_0 a1_1 a1_2 a1_3 a1_4 a1_5 a1_6 l1_7 l1_8 t264).bind fun t266 => (if t266 = true then (some (1, 1, a1_1, true)) else (some (0, 0, 0, false)))) else (some (0, 0, 0, false)))) else (some (0, 0, 0, false))) else (if a1_0 = 1 then ((impl_Layer_isWindow.f a1_0 a1_1 a1_2 a1_3 a1_4 a1_5 a1_6 l1_7 l1_8 a0_0 a0_1 a0_2).bind fun t267 => (if t267 = true then (if (l1_7.length : Int) ≤ 600 then ((impl_Layer_isScaled.f k a1_0 a1_1 a1_2 a1_3 a1_4 a1_5 a1_6 l1_7 l1_8 (wrap64 ((wrap64 (a1_2 * a1_2)) * a0_2))).bind fun t268 => (if t268 = true then ((impl_Layer_windows.f a1_0 a1_1 a1_2 a1_3 a1_4 a1_5 a1_6 l1_7 l1_8 a0_0 a0_1 a0_2 a1_1).bind fun bt269 => (some (bt269.1, bt269.2.1, bt269.2.2, true))) else (some (0, 0, 0, false)))) else (some (0, 0, 0, false))) else (some (0, 0, 0, false)))) else (if a1_0 = 2 then (impl_OutShape.j0 k t264 a1_0 (a1_0 == 2) a0_0 a0_1 a0_2 a1_0 a1_1 a1_2 a1_3 a1_4 a1_5 a1_6 l1_7 l1_8) else (impl_OutShape.j0 k t264 a1_0 (a1_0 == 3) a0_0 a0_1 a0_2 a1_0 a1_1 a1_2 a1_3 a1_4 a1_5 a1_6 l1_7 l1_8))))) else (some (0, 0, 0, false)))) = some (r1, r2, r3, r4) := h
  clear h
  replace H := Option.bind_eq_some_iff.mp H
  obtain ⟨t263, A30, H⟩ := H
  (try dsimp only at H)
  have A3 := Aside0.mk A30
  clear A30
  by_cases c4 : t263 = true
  rotate_left
  ·replace c4 := Bool.eq_false_iff.mpr c4
   subst c4
   rw [if_neg (show ¬ (false = true) by decide)] at H
   simp only [Option.some.injEq, Prod.mk.injEq] at H
   obtain ⟨rfl, rfl, rfl, rfl⟩ := H
   go_enter Tryd.func61, Tryd.ntmps61
   go_wp2_with (first | ((with_reducible refine gate_dst (N := 2) rfl ?_); (try (refine gate_guard (by rfl) ?_; dsimp only)); refine boxM 2 #[.int .i64 a0_0, .int .i64 a0_1, .int .i64 a0_2] 29 ?_; intro gb260 hg w290 BK260 hb; replace HB := box_at w hb hg; obtain ⟨HB, GW260, GE260⟩ := HB; clear hb hg) | ((with_reducible refine gate_dst (N := 3) rfl ?_); (try (refine gate_guard (by rfl) ?_; dsimp only)); refine boxM 3 #[.int .i64 a1_0, .int .i64 a1_1, .int .i64 a1_2, .int .i64 a1_3, .int .i64 a1_4, .int .i64 a1_5, .int .i64 a1_6, .slice A1_7 l1_7.length c1_7, .slice A1_8 l1_8.length c1_8] 49 ?_; intro gb261 hg w291 BK261 hb; replace HB := box_at w hb hg; obtain ⟨HB, GW261, GE261⟩ := HB; replace BK260 := box_on gb260 hb hg; obtain ⟨BK260, NB260_261, NB261_260⟩ := BK260; clear hb hg) | ((with_reducible refine gate_dst (N := 4) rfl ?_); (try (refine gate_guard (by rfl) ?_; dsimp only)); refine boxM 4 #[.int .i64 0, .int .i64 0, .int .i64 0] 29 ?_; intro gb262 hg w292 BK262 hb; replace HB := box_at w hb hg; obtain ⟨HB, GW262, GE262⟩ := HB; replace BK260 := box_on gb260 hb hg; obtain ⟨BK260, NB260_262, NB262_260⟩ := BK260; replace BK261 := box_on gb261 hb hg; obtain ⟨BK261, NB261_262, NB262_261⟩ := BK261; clear hb hg; have hn293 := ne2 NB260_261; have hn294 := ne2 NB260_262; have hcz295 := cells3 BK260.out) | ((with_reducible refine gate_callee (f := 74) rfl ?_); refine goesM (some 8) rfl rfl Tryd.func74 (by kernel_rfl) rfl #[.agg #[.int .i64 a0_0, .int .i64 a0_1, .int .i64 a0_2]] rfl ?_; (with_reducible refine (impl_ShapeOk.calls a0_0 a0_1 a0_2 false _ A3.out).mono ?_); rintro e w296 ⟨rfl, hb⟩; refine ⟨_, rfl, ?_⟩; replace HB := bel_on w hb; replace BK260 := blk_on gb260 hb; replace BK261 := blk_on gb261 hb; replace BK262 := blk_on gb262 hb; (try clear hb); have hn297 := ne2 NB262_261; have hcz298 := cells3 BK262.out))
   refine bodyPost_ret (results_ct rfl _ _ gb262 29 #[.int .i64 0, .int .i64 0, .int .i64 0] (0, 0) _ rfl (blk_fars (puts3 BK262.out)) Tryd.underlying29 rfl (by kernel_rfl)) rfl ?_
   exact ⟨eqN, bel_now⟩
  subst c4
  rw [if_pos rfl] at H
  replace H := Option.bind_eq_some_iff.mp H
  obtain ⟨t264, A50, H⟩ := H
  (try dsimp only at H)
  have A5 := Aside0.mk A50
  clear A50
  by_cases c6 : a1_0 = 0
  ·rw [if_pos c6] at H
   have c6b0 : (a1_0 == 0) = true := beq_iff_eq.mpr c6
   have c6b1 : (a1_0 != 0) = false := bne_eq_false_iff_eq.mpr c6
   clear c6
   by_cases c7 : t264 ≤ 64
   rotate_left
   ·rw [if_neg c7] at H
    have c7b0 : decide (t264 ≤ 64) = false := decide_eq_false c7
    clear c7
    simp only [Option.some.injEq, Prod.mk.injEq] at H
    obtain ⟨rfl, rfl, rfl, rfl⟩ := H
    go_enter Tryd.func61, Tryd.ntmps61
    go_wp2_with (first | ((with_reducible refine gate_dst (N := 2) rfl ?_); (try (refine gate_guard (by rfl) ?_; dsimp only)); refine boxM 2 #[.int .i64 a0_0, .int .i64 a0_1, .int .i64 a0_2] 29 ?_; intro gb260 hg w56 BK260 hb; replace HB := box_at w hb hg; obtain ⟨HB, GW260, GE260⟩ := HB; clear hb hg) | ((with_reducible refine gate_dst (N := 3) rfl ?_); (try (refine gate_guard (by rfl) ?_; dsimp only)); refine boxM 3 #[.int .i64 a1_0, .int .i64 a1_1, .int .i64 a1_2, .int .i64 a1_3, .int .i64 a1_4, .int .i64 a1_5, .int .i64 a1_6, .slice A1_7 l1_7.length c1_7, .slice A1_8 l1_8.length c1_8] 49 ?_; intro gb261 hg w57 BK261 hb; replace HB := box_at w hb hg; obtain ⟨HB, GW261, GE261⟩ := HB; replace BK260 := box_on gb260 hb hg; obtain ⟨BK260, NB260_261, NB261_260⟩ := BK260; clear hb hg) | ((with_reducible refine gate_dst (N := 4) rfl ?_); (try (refine gate_guard (by rfl) ?_; dsimp only)); refine boxM 4 #[.int .i64 0, .int .i64 0, .int .i64 0] 29 ?_; intro gb262 hg w58 BK262 hb; replace HB := box_at w hb hg; obtain ⟨HB, GW262, GE262⟩ := HB; replace BK260 := box_on gb260 hb hg; obtain ⟨BK260, NB260_262, NB262_260⟩ := BK260; replace BK261 := box_on gb261 hb hg; obtain ⟨BK261, NB261_262, NB262_261⟩ := BK261; clear hb hg; have hn59 := ne2 NB260_261; have hn60 := ne2 NB260_262; have hcz61 := cells3 BK260.out) | ((with_reducible refine gate_callee (f := 74) rfl ?_); refine goesM (some 8) rfl rfl Tryd.func74 (by kernel_rfl) rfl #[.agg #[.int .i64 a0_0, .int .i64 a0_1, .int .i64 a0_2]] rfl ?_; (with_reducible refine (impl_ShapeOk.calls a0_0 a0_1 a0_2 true _ A3.out).mono ?_); rintro e w62 ⟨rfl, hb⟩; refine ⟨_, rfl, ?_⟩; replace HB := bel_on w hb; replace BK260 := blk_on gb260 hb; replace BK261 := blk_on gb261 hb; replace BK262 := blk_on gb262 hb; (try clear hb); have hcz63 := cells3 BK260.out) | ((with_reducible refine gate_callee (f := 75) rfl ?_); refine goesM (some 12) rfl rfl Tryd.func75 (by kernel_rfl) rfl #[.agg #[.int .i64 a0_0, .int .i64 a0_1, .int .i64 a0_2]] rfl ?_; (with_reducible refine (impl_SizeOf.calls a0_0 a0_1 a0_2 t264 _ A5.out).mono ?_); rintro e w64 ⟨rfl, hb⟩; refine ⟨_, rfl, ?_⟩; replace HB := bel_on w hb; replace BK260 := blk_on gb260 hb; replace BK261 := blk_on gb261 hb; replace BK262 := blk_on gb262 hb; (try clear hb); have hn65 := ne2 NB261_262; have hcz66 := cells9 BK261.out; have hcz67 := cells3 BK262.out))
    refine bodyPost_ret (results_ct rfl _ _ gb262 29 #[.int .i64 0, .int .i64 0, .int .i64 0] (0, 0) _ rfl (blk_fars (puts3 BK262.out)) Tryd.underlying29 rfl (by kernel_rfl)) rfl ?_
    exact ⟨eqN, bel_now⟩
   rw [if_pos c7] at H
   have c7b0 : decide (t264 ≤ 64) = true := decide_eq_true c7
   clear c7
   replace H := Option.bind_eq_some_iff.mp H
   obtain ⟨t265, A80, H⟩ := H
   (try dsimp only at H)
   have A8 := Aside0.mk A80
   clear A80
   by_cases c9 : t265 = true
   rotate_left
   ·replace c9 := Bool.eq_false_iff.mpr c9
    subst c9
    rw [if_neg (show ¬ (false = true) by decide)] at H
    simp only [Option.some.injEq, Prod.mk.injEq] at H
    obtain ⟨rfl, rfl, rfl, rfl⟩ := H
    go_enter Tryd.func61, Tryd.ntmps61
    go_wp2_with (first | ((with_reducible refine gate_dst (N := 2) rfl ?_); (try (refine gate_guard (by rfl) ?_; dsimp only)); refine boxM 2 #[.int .i64 a0_0, .int .i64 a0_1, .int .i64 a0_2] 29 ?_; intro gb260 hg w43 BK260 hb; replace HB := box_at w hb hg; obtain ⟨HB, GW260, GE260⟩ := HB; clear hb hg) | ((with_reducible refine gate_dst (N := 3) rfl ?_); (try (refine gate_guard (by rfl) ?_; dsimp only)); refine boxM 3 #[.int .i64 a1_0, .int .i64 a1_1, .int .i64 a1_2, .int .i64 a1_3, .int .i64 a1_4, .int .i64 a1_5, .int .i64 a1_6, .slice A1_7 l1_7.length c1_7, .slice A1_8 l1_8.length c1_8] 49 ?_; intro gb261 hg w44 BK261 hb; replace HB := box_at w hb hg; obtain ⟨HB, GW261, GE261⟩ := HB; replace BK260 := box_on gb260 hb hg; obtain ⟨BK260, NB260_261, NB261_260⟩ := BK260; clear hb hg) | ((with_reducible refine gate_dst (N := 4) rfl ?_); (try (refine gate_guard (by rfl) ?_; dsimp only)); refine boxM 4 #[.int .i64 0, .int .i64 0, .int .i64 0] 29 ?_; intro gb262 hg w45 BK262 hb; replace HB := box_at w hb hg; obtain ⟨HB, GW262, GE262⟩ := HB; replace BK260 := box_on gb260 hb hg; obtain ⟨BK260, NB260_262, NB262_260⟩ := BK260; replace BK261 := box_on gb261 hb hg; obtain ⟨BK261, NB261_262, NB262_261⟩ := BK261; clear hb hg; have hn46 := ne2 NB260_261; have hn47 := ne2 NB260_262; have hcz48 := cells3 BK260.out) | ((with_reducible refine gate_callee (f := 74) rfl ?_); refine goesM (some 8) rfl rfl Tryd.func74 (by kernel_rfl) rfl #[.agg #[.int .i64 a0_0, .int .i64 a0_1, .int .i64 a0_2]] rfl ?_; (with_reducible refine (impl_ShapeOk.calls a0_0 a0_1 a0_2 true _ A3.out).mono ?_); rintro e w49 ⟨rfl, hb⟩; refine ⟨_, rfl, ?_⟩; replace HB := bel_on w hb; replace BK260 := blk_on gb260 hb; replace BK261 := blk_on gb261 hb; replace BK262 := blk_on gb262 hb; (try clear hb); have hcz50 := cells3 BK260.out) | ((with_reducible refine gate_callee (f := 75) rfl ?_); refine goesM (some 12) rfl rfl Tryd.func75 (by kernel_rfl) rfl #[.agg #[.int .i64 a0_0, .int .i64 a0_1, .int .i64 a0_2]] rfl ?_; (with_reducible refine (impl_SizeOf.calls a0_0 a0_1 a0_2 t264 _ A5.out).mono ?_); rintro e w51 ⟨rfl, hb⟩; refine ⟨_, rfl, ?_⟩; replace HB := bel_on w hb; replace BK260 := blk_on gb260 hb; replace BK261 := blk_on gb261 hb; replace BK262 := blk_on gb262 hb; (try clear hb); have hn52 := ne2 NB261_262; have hcz53 := cells9 BK261.out) | (go_at_call 78; (with_reducible refine (impl_Layer_hasNone.calls a1_0 a1_1 a1_2 a1_3 a1_4 a1_5 a1_6 _ _ l1_7 _ _ l1_8 false _ ?side1 ?side2 ?side3 ?side4 A8.out).mono ?_); (case side1 => exact C_now HR1_7.out); (case side2 => exact HC1_7.out); (case side3 => exact C_now HR1_8.out); (case side4 => exact HC1_8.out); rintro e w54 ⟨rfl, hb⟩; replace HB := bel_on w hb; replace BK260 := blk_on gb260 hb; replace BK261 := blk_on gb261 hb; replace BK262 := blk_on gb262 hb; (try clear hb); have hcz55 := cells3 BK262.out))
    refine bodyPost_ret (results_ct rfl _ _ gb262 29 #[.int .i64 0, .int .i64 0, .int .i64 0] (0, 0) _ rfl (blk_fars (puts3 BK262.out)) Tryd.underlying29 rfl (by kernel_rfl)) rfl ?_
    exact ⟨eqN, bel_now⟩
   subst c9
   rw [if_pos rfl] at H
   replace H := Option.bind_eq_some_iff.mp H
   obtain ⟨t266, A100, H⟩ := H
   (try dsimp only at H)
   have A10 := Aside0.mk A100
   clear A100
   by_cases c11 : t266 = true
   ·subst c11
    rw [if_pos rfl] at H
    simp only [Option.some.injEq, Prod.mk.injEq] at H
    obtain ⟨rfl, rfl, rfl, rfl⟩ := H
    go_enter Tryd.func61, Tryd.ntmps61
    go_wp2_with (first | ((with_reducible refine gate_dst (N := 2) rfl ?_); (try (refine gate_guard (by rfl) ?_; dsimp only)); refine boxM 2 #[.int .i64 a0_0, .int .i64 a0_1, .int .i64 a0_2] 29 ?_; intro gb260 hg w12 BK260 hb; replace HB := box_at w hb hg; obtain ⟨HB, GW260, GE260⟩ := HB; clear hb hg) | ((with_reducible refine gate_dst (N := 3) rfl ?_); (try (refine gate_guard (by rfl) ?_; dsimp only)); refine boxM 3 #[.int .i64 a1_0, .int .i64 a1_1, .int .i64 a1_2, .int .i64 a1_3, .int .i64 a1_4, .int .i64 a1_5, .int .i64 a1_6, .slice A1_7 l1_7.length c1_7, .slice A1_8 l1_8.length c1_8] 49 ?_; intro gb261 hg w13 BK261 hb; replace HB := box_at w hb hg; obtain ⟨HB, GW261, GE261⟩ := HB; replace BK260 := box_on gb260 hb hg; obtain ⟨BK260, NB260_261, NB261_260⟩ := BK260; clear hb hg) | ((with_reducible refine gate_dst (N := 4) rfl ?_); (try (refine gate_guard (by rfl) ?_; dsimp only)); refine boxM 4 #[.int .i64 0, .int .i64 0, .int .i64 0] 29 ?_; intro gb262 hg w14 BK262 hb; replace HB := box_at w hb hg; obtain ⟨HB, GW262, GE262⟩ := HB; replace BK260 := box_on gb260 hb hg; obtain ⟨BK260, NB260_262, NB262_260⟩ := BK260; replace BK261 := box_on gb261 hb hg; obtain ⟨BK261, NB261_262, NB262_261⟩ := BK261; clear hb hg; have hn15 := ne2 NB260_261; have hn16 := ne2 NB260_262; have hcz17 := cells3 BK260.out) | ((with_reducible refine gate_callee (f := 74) rfl ?_); refine goesM (some 8) rfl rfl Tryd.func74 (by kernel_rfl) rfl #[.agg #[.int .i64 a0_0, .int .i64 a0_1, .int .i64 a0_2]] rfl ?_; (with_reducible refine (impl_ShapeOk.calls a0_0 a0_1 a0_2 true _ A3.out).mono ?_); rintro e w18 ⟨rfl, hb⟩; refine ⟨_, rfl, ?_⟩; replace HB := bel_on w hb; replace BK260 := blk_on gb260 hb; replace BK261 := blk_on gb261 hb; replace BK262 := blk_on gb262 hb; (try clear hb); have hcz19 := cells3 BK260.out) | ((with_reducible refine gate_callee (f := 75) rfl ?_); refine goesM (some 12) rfl rfl Tryd.func75 (by kernel_rfl) rfl #[.agg #[.int .i64 a0_0, .int .i64 a0_1, .int .i64 a0_2]] rfl ?_; (with_reducible refine (impl_SizeOf.calls a0_0 a0_1 a0_2 t264 _ A5.out).mono ?_); rintro e w20 ⟨rfl, hb⟩; refine ⟨_, rfl, ?_⟩; replace HB := bel_on w hb; replace BK260 := blk_on gb260 hb; replace BK261 := blk_on gb261 hb; replace BK262 := blk_on gb262 hb; (try clear hb); have hn21 := ne2 NB261_262; have hcz22 := cells9 BK261.out) | (go_at_call 78; (with_reducible refine (impl_Layer_hasNone.calls a1_0 a1_1 a1_2 a1_3 a1_4 a1_5 a1_6 _ _ l1_7 _ _ l1_8 true _ ?side1 ?side2 ?side3 ?side4 A8.out).mono ?_); (case side1 => exact C_now HR1_7.out); (case side2 => exact HC1_7.out); (case side3 => exact C_now HR1_8.out); (case side4 => exact HC1_8.out); rintro e w23 ⟨rfl, hb⟩; replace HB := bel_on w hb; replace BK260 := blk_on gb260 hb; replace BK261 := blk_on gb261 hb; replace BK262 := blk_on gb262 hb; (try clear hb); have hcz24 := cells9 BK261.out) | (go_at_call 79; (with_reducible refine (impl_Layer_isScaled.calls k a1_0 a1_1 a1_2 a1_3 a1_4 a1_5 a1_6 _ _ l1_7 _ _ l1_8 t264 true _ ?side1 ?side2 ?side3 ?side4 A10.out).mono ?_); (case side1 => exact C_now HR1_7.out); (case side2 => exact HC1_7.out); (case side3 => exact C_now HR1_8.out); (case side4 => exact HC1_8.out); rintro e w25 ⟨rfl, hb⟩; replace HB := bel_on w hb; replace BK260 := blk_on gb260 hb; replace BK261 := blk_on gb261 hb; replace BK262 := blk_on gb262 hb; (try clear hb); have hcz26 := cells9 BK261.out; have hcz27 := cells3 BK262.out))
    refine bodyPost_ret (results_ct rfl _ _ gb262 29 #[.int .i64 1, .int .i64 1, .int .i64 a1_1] (0, 0) _ rfl (blk_fars (puts3 BK262.out)) Tryd.underlying29 rfl (by kernel_rfl)) rfl ?_
    exact ⟨eqN, bel_now⟩
   replace c11 := Bool.eq_false_iff.mpr c11
   subst c11
   rw [if_neg (show ¬ (false = true) by decide)] at H
   simp only [Option.some.injEq, Prod.mk.injEq] at H
   obtain ⟨rfl, rfl, rfl, rfl⟩ := H
   go_enter Tryd.func61, Tryd.ntmps61
   go_wp2_with (first | ((with_reducible refine gate_dst (N := 2) rfl ?_); (try (refine gate_guard (by rfl) ?_; dsimp only)); refine boxM 2 #[.int .i64 a0_0, .int .i64 a0_1, .int .i64 a0_2] 29 ?_; intro gb260 hg w28 BK260 hb; replace HB := box_at w hb hg; obtain ⟨HB, GW260, GE260⟩ := HB; clear hb hg) | ((with_reducible refine gate_dst (N := 3) rfl ?_); (try (refine gate_guard (by rfl) ?_; dsimp only)); refine boxM 3 #[.int .i64 a1_0, .int .i64 a1_1, .int .i64 a1_2, .int .i64 a1_3, .int .i64 a1_4, .int .i64 a1_5, .int .i64 a1_6, .slice A1_7 l1_7.length c1_7, .slice A1_8 l1_8.length c1_8] 49 ?_; intro gb261 hg w29 BK261 hb; replace HB := box_at w hb hg; obtain ⟨HB, GW261, GE261⟩ := HB; replace BK260 := box_on gb260 hb hg; obtain ⟨BK260, NB260_261, NB261_260⟩ := BK260; clear hb hg) | ((with_reducible refine gate_dst (N := 4) rfl ?_); (try (refine gate_guard (by rfl) ?_; dsimp only)); refine boxM 4 #[.int .i64 0, .int .i64 0, .int .i64 0] 29 ?_; intro gb262 hg w30 BK262 hb; replace HB := box_at w hb hg; obtain ⟨HB, GW262, GE262⟩ := HB; replace BK260 := box_on gb260 hb hg; obtain ⟨BK260, NB260_262, NB262_260⟩ := BK260; replace BK261 := box_on gb261 hb hg; obtain ⟨BK261, NB261_262, NB262_261⟩ := BK261; clear hb hg; have hn31 := ne2 NB260_261; have hn32 := ne2 NB260_262; have hcz33 := cells3 BK260.out) | ((with_reducible refine gate_callee (f := 74) rfl ?_); refine goesM (some 8) rfl rfl Tryd.func74 (by kernel_rfl) rfl #[.agg #[.int .i64 a0_0, .int .i64 a0_1, .int .i64 a0_2]] rfl ?_; (with_reducible refine (impl_ShapeOk.calls a0_0 a0_1 a0_2 true _ A3.out).mono ?_); rintro e w34 ⟨rfl, hb⟩; refine ⟨_, rfl, ?_⟩; replace HB := bel_on w hb; replace BK260 := blk_on gb260 hb; replace BK261 := blk_on gb261 hb; replace BK262 := blk_on gb262 hb; (try clear hb); have hcz35 := cells3 BK260.out) | ((with_reducible refine gate_callee (f := 75) rfl ?_); refine goesM (some 12) rfl rfl Tryd.func75 (by kernel_rfl) rfl #[.agg #[.int .i64 a0_0, .int .i64 a0_1, .int .i64 a0_2]] rfl ?_; (with_reducible refine (impl_SizeOf.calls a0_0 a0_1 a0_2 t264 _ A5.out).mono ?_); rintro e w36 ⟨rfl, hb⟩; refine ⟨_, rfl, ?_⟩; replace HB := bel_on w hb; replace BK260 := blk_on gb260 hb; replace BK261 := blk_on gb261 hb; replace BK262 := blk_on gb262 hb; (try clear hb); have hn37 := ne2 NB261_262; have hcz38 := cells9 BK261.out) | (go_at_call 78; (with_reducible refine (impl_Layer_hasNone.calls a1_0 a1_1 a1_2 a1_3 a1_4 a1_5 a1_6 _ _ l1_7 _ _ l1_8 true _ ?side1 ?side2 ?side3 ?side4 A8.out).mono ?_); (case side1 => exact C_now HR1_7.out); (case side2 => exact HC1_7.out); (case side3 => exact C_now HR1_8.out); (case side4 => exact HC1_8.out); rintro e w39 ⟨rfl, hb⟩; replace HB := bel_on w hb; replace BK260 := blk_on gb260 hb; replace BK261 := blk_on gb261 hb; replace BK262 := blk_on gb262 hb; (try clear hb); have hcz40 := cells9 BK261.out) | (go_at_call 79; (with_reducible refine (impl_Layer_isScaled.calls k a1_0 a1_1 a1_2 a1_3 a1_4 a1_5 a1_6 _ _ l1_7 _ _ l1_8 t264 false _ ?side1 ?side2 ?side3 ?side4 A10.out).mono ?_); (case side1 => exact C_now HR1_7.out); (case side2 => exact HC1_7.out); (case side3 => exact C_now HR1_8.out); (case side4 => exact HC1_8.out); rintro e w41 ⟨rfl, hb⟩; replace HB := bel_on w hb; replace BK260 := blk_on gb260 hb; replace BK261 := blk_on gb261 hb; replace BK262 := blk_on gb262 hb; (try clear hb); have hcz42 := cells3 BK262.out))
   refine bodyPost_ret (results_ct rfl _ _ gb262 29 #[.int .i64 0, .int .i64 0, .int .i64 0] (0, 0) _ rfl (blk_fars (puts3 BK262.out)) Tryd.underlying29 rfl (by kernel_rfl)) rfl ?_
   exact ⟨eqN, bel_now⟩
  rw [if_neg c6] at H
  have c6b0 : (a1_0 == 0) = false := beq_eq_false_iff_ne.mpr c6
  have c6b1 : (a1_0 != 0) = true := bne_iff_ne.mpr c6
  by_cases c68 : a1_0 = 1
  ·rw [if_pos c68] at H
   have c68b0 : (a1_0 == 1) = true := beq_iff_eq.mpr c68
   have c68b1 : (a1_0 != 1) = false := bne_eq_false_iff_eq.mpr c68
   clear c68
   replace H := Option.bind_eq_some_iff.mp H
   obtain ⟨t267, A690, H⟩ := H
   (try dsimp only at H)
   have A69 := Aside0.mk A690
   clear A690
   by_cases c70 : t267 = true
   rotate_left
   ·replace c70 := Bool.eq_false_iff.mpr c70
    subst c70
    rw [if_neg (show ¬ (false = true) by decide)] at H
    simp only [Option.some.injEq, Prod.mk.injEq] at H
    obtain ⟨rfl, rfl, rfl, rfl⟩ := H
    go_enter Tryd.func61, Tryd.ntmps61
    go_wp2_with (first | ((with_reducible refine gate_dst (N := 2) rfl ?_); (try (refine gate_guard (by rfl) ?_; dsimp only)); refine boxM 2 #[.int .i64 a0_0, .int .i64 a0_1, .int .i64 a0_2] 29 ?_; intro gb260 hg w127 BK260 hb; replace HB := box_at w hb hg; obtain ⟨HB, GW260, GE260⟩ := HB; clear hb hg) | ((with_reducible refine gate_dst (N := 3) rfl ?_); (try (refine gate_guard (by rfl) ?_; dsimp only)); refine boxM 3 #[.int .i64 a1_0, .int .i64 a1_1, .int .i64 a1_2, .int .i64 a1_3, .int .i64 a1_4, .int .i64 a1_5, .int .i64 a1_6, .slice A1_7 l1_7.length c1_7, .slice A1_8 l1_8.length c1_8] 49 ?_; intro gb261 hg w128 BK261 hb; replace HB := box_at w hb hg; obtain ⟨HB, GW261, GE261⟩ := HB; replace BK260 := box_on gb260 hb hg; obtain ⟨BK260, NB260_261, NB261_260⟩ := BK260; clear hb hg) | ((with_reducible refine gate_dst (N := 4) rfl ?_); (try (refine gate_guard (by rfl) ?_; dsimp only)); refine boxM 4 #[.int .i64 0, .int .i64 0, .int .i64 0] 29 ?_; intro gb262 hg w129 BK262 hb; replace HB := box_at w hb hg; obtain ⟨HB, GW262, GE262⟩ := HB; replace BK260 := box_on gb260 hb hg; obtain ⟨BK260, NB260_262, NB262_260⟩ := BK260; replace BK261 := box_on gb261 hb hg; obtain ⟨BK261, NB261_262, NB262_261⟩ := BK261; clear hb hg; have hn130 := ne2 NB260_261; have hn131 := ne2 NB260_262; have hcz132 := cells3 BK260.out) | ((with_reducible refine gate_callee (f := 74) rfl ?_); refine goesM (some 8) rfl rfl Tryd.func74 (by kernel_rfl) rfl #[.agg #[.int .i64 a0_0, .int .i64 a0_1, .int .i64 a0_2]] rfl ?_; (with_reducible refine (impl_ShapeOk.calls a0_0 a0_1 a0_2 true _ A3.out).mono ?_); rintro e w133 ⟨rfl, hb⟩; refine ⟨_, rfl, ?_⟩; replace HB := bel_on w hb; replace BK260 := blk_on gb260 hb; replace BK261 := blk_on gb261 hb; replace BK262 := blk_on gb262 hb; (try clear hb); have hcz134 := cells3 BK260.out) | ((with_reducible refine gate_callee (f := 75) rfl ?_); refine goesM (some 12) rfl rfl Tryd.func75 (by kernel_rfl) rfl #[.agg #[.int .i64 a0_0, .int .i64 a0_1, .int .i64 a0_2]] rfl ?_; (with_reducible refine (impl_SizeOf.calls a0_0 a0_1 a0_2 t264 _ A5.out).mono ?_); rintro e w135 ⟨rfl, hb⟩; refine ⟨_, rfl, ?_⟩; replace HB := bel_on w hb; replace BK260 := blk_on gb260 hb; replace BK261 := blk_on gb261 hb; replace BK262 := blk_on gb262 hb; (try clear hb); have hn136 := ne2 NB261_262; have hcz137 := cells9 BK261.out; have hcz138 := cells3 BK260.out) | ((with_reducible refine gate_callee (f := 80) rfl ?_); refine goesM (some 35) rfl rfl Tryd.func80 (by kernel_rfl) rfl #[.agg #[.int .i64 a1_0, .int .i64 a1_1, .int .i64 a1_2, .int .i64 a1_3, .int .i64 a1_4, .int .i64 a1_5, .int .i64 a1_6, .slice A1_7 l1_7.length c1_7, .slice A1_8 l1_8.length c1_8], .agg #[.int .i64 a0_0, .int .i64 a0_1, .int .i64 a0_2]] rfl ?_; (with_reducible refine (impl_Layer_isWindow.calls a1_0 a1_1 a1_2 a1_3 a1_4 a1_5 a1_6 _ _ l1_7 _ _ l1_8 a0_0 a0_1 a0_2 false _ ?side1 ?side2 ?side3 ?side4 A69.out).mono ?_); (case side1 => exact C_now HR1_7.out); (case side2 => exact HC1_7.out); (case side3 => exact C_now HR1_8.out); (case side4 => exact HC1_8.out); rintro e w139 ⟨rfl, hb⟩; refine ⟨_, rfl, ?_⟩; replace HB := bel_on w hb; replace BK260 := blk_on gb260 hb; replace BK261 := blk_on gb261 hb; replace BK262 := blk_on gb262 hb; (try clear hb); have hcz140 := cells3 BK262.out))
    refine bodyPost_ret (results_ct rfl _ _ gb262 29 #[.int .i64 0, .int .i64 0, .int .i64 0] (0, 0) _ rfl (blk_fars (puts3 BK262.out)) Tryd.underlying29 rfl (by kernel_rfl)) rfl ?_
    exact ⟨eqN, bel_now⟩
   subst c70
   rw [if_pos rfl] at H
   by_cases c71 : (l1_7.length : Int) ≤ 600
   rotate_left
   ·rw [if_neg c71] at H
    have c71b0 : decide ((l1_7.length : Int) ≤ 600) = false := decide_eq_false c71
    have c71b1 : decide (l1_7.length ≤ 600) = false := decide_eq_false (by omega)
    clear c71
    simp only [Option.some.injEq, Prod.mk.injEq] at H
    obtain ⟨rfl, rfl, rfl, rfl⟩ := H
    go_enter Tryd.func61, Tryd.ntmps61
    go_wp2_with (first | ((with_reducible refine gate_dst (N := 2) rfl ?_); (try (refine gate_guard (by rfl) ?_; dsimp only)); refine boxM 2 #[.int .i64 a0_0, .int .i64 a0_1, .int .i64 a0_2] 29 ?_; intro gb260 hg w112 BK260 hb; replace HB := box_at w hb hg; obtain ⟨HB, GW260, GE260⟩ := HB; clear hb hg) | ((with_reducible refine gate_dst (N := 3) rfl ?_); (try (refine gate_guard (by rfl) ?_; dsimp only)); refine boxM 3 #[.int .i64 a1_0, .int .i64 a1_1, .int .i64 a1_2, .int .i64 a1_3, .int .i64 a1_4, .int .i64 a1_5, .int .i64 a1_6, .slice A1_7 l1_7.length c1_7, .slice A1_8 l1_8.length c1_8] 49 ?_; intro gb261 hg w113 BK261 hb; replace HB := box_at w hb hg; obtain ⟨HB, GW261, GE261⟩ := HB; replace BK260 := box_on gb260 hb hg; obtain ⟨BK260, NB260_261, NB261_260⟩ := BK260; clear hb hg) | ((with_reducible refine gate_dst (N := 4) rfl ?_); (try (refine gate_guard (by rfl) ?_; dsimp only)); refine boxM 4 #[.int .i64 0, .int .i64 0, .int .i64 0] 29 ?_; intro gb262 hg w114 BK262 hb; replace HB := box_at w hb hg; obtain ⟨HB, GW262, GE262⟩ := HB; replace BK260 := box_on gb260 hb hg; obtain ⟨BK260, NB260_262, NB262_260⟩ := BK260; replace BK261 := box_on gb261 hb hg; obtain ⟨BK261, NB261_262, NB262_261⟩ := BK261; clear hb hg; have hn115 := ne2 NB260_261; have hn116 := ne2 NB260_262; have hcz117 := cells3 BK260.out) | ((with_reducible refine gate_callee (f := 74) rfl ?_); refine goesM (some 8) rfl rfl Tryd.func74 (by kernel_rfl) rfl #[.agg #[.int .i64 a0_0, .int .i64 a0_1, .int .i64 a0_2]] rfl ?_; (with_reducible refine (impl_ShapeOk.calls a0_0 a0_1 a0_2 true _ A3.out).mono ?_); rintro e w118 ⟨rfl, hb⟩; refine ⟨_, rfl, ?_⟩; replace HB := bel_on w hb; replace BK260 := blk_on gb260 hb; replace BK261 := blk_on gb261 hb; replace BK262 := blk_on gb262 hb; (try clear hb); have hcz119 := cells3 BK260.out) | ((with_reducible refine gate_callee (f := 75) rfl ?_); refine goesM (some 12) rfl rfl Tryd.func75 (by kernel_rfl) rfl #[.agg #[.int .i64 a0_0, .int .i64 a0_1, .int .i64 a0_2]] rfl ?_; (with_reducible refine (impl_SizeOf.calls a0_0 a0_1 a0_2 t264 _ A5.out).mono ?_); rintro e w120 ⟨rfl, hb⟩; refine ⟨_, rfl, ?_⟩; replace HB := bel_on w hb; replace BK260 := blk_on gb260 hb; replace BK261 := blk_on gb261 hb; replace BK262 := blk_on gb262 hb; (try clear hb); have hn121 := ne2 NB261_262; have hcz122 := cells9 BK261.out; have hcz123 := cells3 BK260.out) | ((with_reducible refine gate_callee (f := 80) rfl ?_); refine goesM (some 35) rfl rfl Tryd.func80 (by kernel_rfl) rfl #[.agg #[.int .i64 a1_0, .int .i64 a1_1, .int .i64 a1_2, .int .i64 a1_3, .int .i64 a1_4, .int .i64 a1_5, .int .i64 a1_6, .slice A1_7 l1_7.length c1_7, .slice A1_8 l1_8.length c1_8], .agg #[.int .i64 a0_0, .int .i64 a0_1, .int .i64 a0_2]] rfl ?_; (with_reducible refine (impl_Layer_isWindow.calls a1_0 a1_1 a1_2 a1_3 a1_4 a1_5 a1_6 _ _ l1_7 _ _ l1_8 a0_0 a0_1 a0_2 true _ ?side1 ?side2 ?side3 ?side4 A69.out).mono ?_); (case side1 => exact C_now HR1_7.out); (case side2 => exact HC1_7.out); (case side3 => exact C_now HR1_8.out); (case side4 => exact HC1_8.out); rintro e w124 ⟨rfl, hb⟩; refine ⟨_, rfl, ?_⟩; replace HB := bel_on w hb; replace BK260 := blk_on gb260 hb; replace BK261 := blk_on gb261 hb; replace BK262 := blk_on gb262 hb; (try clear hb); have hcz125 := cells9 BK261.out; have hcz126 := cells3 BK262.out))
    refine bodyPost_ret (results_ct rfl _ _ gb262 29 #[.int .i64 0, .int .i64 0, .int .i64 0] (0, 0) _ rfl (blk_fars (puts3 BK262.out)) Tryd.underlying29 rfl (by kernel_rfl)) rfl ?_
    exact ⟨eqN, bel_now⟩
   rw [if_pos c71] at H
   have c71b0 : decide ((l1_7.length : Int) ≤ 600) = true := decide_eq_true c71
   have c71b1 : decide (l1_7.length ≤ 600) = true := decide_eq_true (by omega)
   clear c71
   replace H := Option.bind_eq_some_iff.mp H
   obtain ⟨t268, A720, H⟩ := H
   (try dsimp only at H)
   have A72 := Aside0.mk A720
   clear A720
   by_cases c73 : t268 = true
   rotate_left
   ·replace c73 := Bool.eq_false_iff.mpr c73
    subst c73
    rw [if_neg (show ¬ (false = true) by decide)] at H
    simp only [Option.some.injEq, Prod.mk.injEq] at H
    obtain ⟨rfl, rfl, rfl, rfl⟩ := H
    go_enter Tryd.func61, Tryd.ntmps61
    go_wp2_with (first | ((with_reducible refine gate_dst (N := 2) rfl ?_); (try (refine gate_guard (by rfl) ?_; dsimp only)); refine boxM 2 #[.int .i64 a0_0, .int .i64 a0_1, .int .i64 a0_2] 29 ?_; intro gb260 hg w95 BK260 hb; replace HB := box_at w hb hg; obtain ⟨HB, GW260, GE260⟩ := HB; clear hb hg) | ((with_reducible refine gate_dst (N := 3) rfl ?_); (try (refine gate_guard (by rfl) ?_; dsimp only)); refine boxM 3 #[.int .i64 a1_0, .int .i64 a1_1, .int .i64 a1_2, .int .i64 a1_3, .int .i64 a1_4, .int .i64 a1_5, .int .i64 a1_6, .slice A1_7 l1_7.length c1_7, .slice A1_8 l1_8.length c1_8] 49 ?_; intro gb261 hg w96 BK261 hb; replace HB := box_at w hb hg; obtain ⟨HB, GW261, GE261⟩ := HB; replace BK260 := box_on gb260 hb hg; obtain ⟨BK260, NB260_261, NB261_260⟩ := BK260; clear hb hg) | ((with_reducible refine gate_dst (N := 4) rfl ?_); (try (refine gate_guard (by rfl) ?_; dsimp only)); refine boxM 4 #[.int .i64 0, .int .i64 0, .int .i64 0] 29 ?_; intro gb262 hg w97 BK262 hb; replace HB := box_at w hb hg; obtain ⟨HB, GW262, GE262⟩ := HB; replace BK260 := box_on gb260 hb hg; obtain ⟨BK260, NB260_262, NB262_260⟩ := BK260; replace BK261 := box_on gb261 hb hg; obtain ⟨BK261, NB261_262, NB262_261⟩ := BK261; clear hb hg; have hn98 := ne2 NB260_261; have hn99 := ne2 NB260_262; have hcz100 := cells3 BK260.out) | ((with_reducible refine gate_callee (f := 74) rfl ?_); refine goesM (some 8) rfl rfl Tryd.func74 (by kernel_rfl) rfl #[.agg #[.int .i64 a0_0, .int .i64 a0_1, .int .i64 a0_2]] rfl ?_; (with_reducible refine (impl_ShapeOk.calls a0_0 a0_1 a0_2 true _ A3.out).mono ?_); rintro e w101 ⟨rfl, hb⟩; refine ⟨_, rfl, ?_⟩; replace HB := bel_on w hb; replace BK260 := blk_on gb260 hb; replace BK261 := blk_on gb261 hb; replace BK262 := blk_on gb262 hb; (try clear hb); have hcz102 := cells3 BK260.out) | ((with_reducible refine gate_callee (f := 75) rfl ?_); refine goesM (some 12) rfl rfl Tryd.func75 (by kernel_rfl) rfl #[.agg #[.int .i64 a0_0, .int .i64 a0_1, .int .i64 a0_2]] rfl ?_; (with_reducible refine (impl_SizeOf.calls a0_0 a0_1 a0_2 t264 _ A5.out).mono ?_); rintro e w103 ⟨rfl, hb⟩; refine ⟨_, rfl, ?_⟩; replace HB := bel_on w hb; replace BK260 := blk_on gb260 hb; replace BK261 := blk_on gb261 hb; replace BK262 := blk_on gb262 hb; (try clear hb); have hn104 := ne2 NB261_262; have hcz105 := cells9 BK261.out; have hcz106 := cells3 BK260.out) | ((with_reducible refine gate_callee (f := 80) rfl ?_); refine goesM (some 35) rfl rfl Tryd.func80 (by kernel_rfl) rfl #[.agg #[.int .i64 a1_0, .int .i64 a1_1, .int .i64 a1_2, .int .i64 a1_3, .int .i64 a1_4, .int .i64 a1_5, .int .i64 a1_6, .slice A1_7 l1_7.length c1_7, .slice A1_8 l1_8.length c1_8], .agg #[.int .i64 a0_0, .int .i64 a0_1, .int .i64 a0_2]] rfl ?_; (with_reducible refine (impl_Layer_isWindow.calls a1_0 a1_1 a1_2 a1_3 a1_4 a1_5 a1_6 _ _ l1_7 _ _ l1_8 a0_0 a0_1 a0_2 true _ ?side1 ?side2 ?side3 ?side4 A69.out).mono ?_); (case side1 => exact C_now HR1_7.out); (case side2 => exact HC1_7.out); (case side3 => exact C_now HR1_8.out); (case side4 => exact HC1_8.out); rintro e w107 ⟨rfl, hb⟩; refine ⟨_, rfl, ?_⟩; replace HB := bel_on w hb; replace BK260 := blk_on gb260 hb; replace BK261 := blk_on gb261 hb; replace BK262 := blk_on gb262 hb; (try clear hb); have hcz108 := cells9 BK261.out; have hcz109 := cells3 BK260.out) | (go_at_call 79; (with_reducible refine (impl_Layer_isScaled.calls k a1_0 a1_1 a1_2 a1_3 a1_4 a1_5 a1_6 _ _ l1_7 _ _ l1_8 (wrap64 ((wrap64 (a1_2 * a1_2)) * a0_2)) false _ ?side1 ?side2 ?side3 ?side4 A72.out).mono ?_); (case side1 => exact C_now HR1_7.out); (case side2 => exact HC1_7.out); (case side3 => exact C_now HR1_8.out); (case side4 => exact HC1_8.out); rintro e w110 ⟨rfl, hb⟩; replace HB := bel_on w hb; replace BK260 := blk_on gb260 hb; replace BK261 := blk_on gb261 hb; replace BK262 := blk_on gb262 hb; (try clear hb); have hcz111 := cells3 BK262.out))
    refine bodyPost_ret (results_ct rfl _ _ gb262 29 #[.int .i64 0, .int .i64 0, .int .i64 0] (0, 0) _ rfl (blk_fars (puts3 BK262.out)) Tryd.underlying29 rfl (by kernel_rfl)) rfl ?_
    exact ⟨eqN, bel_now⟩
   subst c73
   rw [if_pos rfl] at H
   replace H := Option.bind_eq_some_iff.mp H
   obtain ⟨⟨t269, t270, t271⟩, A740, H⟩ := H
   (try dsimp only at H)
   have A74 := Aside0.mk A740
   clear A740
   simp only [Option.some.injEq, Prod.mk.injEq] at H
   obtain ⟨rfl, rfl, rfl, rfl⟩ := H
   go_enter Tryd.func61, Tryd.ntmps61
   go_wp2_with (first | ((with_reducible refine gate_dst (N := 2) rfl ?_); (try (refine gate_guard (by rfl) ?_; dsimp only)); refine boxM 2 #[.int .i64 a0_0, .int .i64 a0_1, .int .i64 a0_2] 29 ?_; intro gb260 hg w75 BK260 hb; replace HB := box_at w hb hg; obtain ⟨HB, GW260, GE260⟩ := HB; clear hb hg) | ((with_reducible refine gate_dst (N := 3) rfl ?_); (try (refine gate_guard (by rfl) ?_; dsimp only)); refine boxM 3 #[.int .i64 a1_0, .int .i64 a1_1, .int .i64 a1_2, .int .i64 a1_3, .int .i64 a1_4, .int .i64 a1_5, .int .i64 a1_6, .slice A1_7 l1_7.length c1_7, .slice A1_8 l1_8.length c1_8] 49 ?_; intro gb261 hg w76 BK261 hb; replace HB := box_at w hb hg; obtain ⟨HB, GW261, GE261⟩ := HB; replace BK260 := box_on gb260 hb hg; obtain ⟨BK260, NB260_261, NB261_260⟩ := BK260; clear hb hg) | ((with_reducible refine gate_dst (N := 4) rfl ?_); (try (refine gate_guard (by rfl) ?_; dsimp only)); refine boxM 4 #[.int .i64 0, .int .i64 0, .int .i64 0] 29 ?_; intro gb262 hg w77 BK262 hb; replace HB := box_at w hb hg; obtain ⟨HB, GW262, GE262⟩ := HB; replace BK260 := box_on gb260 hb hg; obtain ⟨BK260, NB260_262, NB262_260⟩ := BK260; replace BK261 := box_on gb261 hb hg; obtain ⟨BK261, NB261_262, NB262_261⟩ := BK261; clear hb hg; have hn78 := ne2 NB260_261; have hn79 := ne2 NB260_262; have hcz80 := cells3 BK260.out) | ((with_reducible refine gate_callee (f := 74) rfl ?_); refine goesM (some 8) rfl rfl Tryd.func74 (by kernel_rfl) rfl #[.agg #[.int .i64 a0_0, .int .i64 a0_1, .int .i64 a0_2]] rfl ?_; (with_reducible refine (impl_ShapeOk.calls a0_0 a0_1 a0_2 true _ A3.out).mono ?_); rintro e w81 ⟨rfl, hb⟩; refine ⟨_, rfl, ?_⟩; replace HB := bel_on w hb; replace BK260 := blk_on gb260 hb; replace BK261 := blk_on gb261 hb; replace BK262 := blk_on gb262 hb; (try clear hb); have hcz82 := cells3 BK260.out) | ((with_reducible refine gate_callee (f := 75) rfl ?_); refine goesM (some 12) rfl rfl Tryd.func75 (by kernel_rfl) rfl #[.agg #[.int .i64 a0_0, .int .i64 a0_1, .int .i64 a0_2]] rfl ?_; (with_reducible refine (impl_SizeOf.calls a0_0 a0_1 a0_2 t264 _ A5.out).mono ?_); rintro e w83 ⟨rfl, hb⟩; refine ⟨_, rfl, ?_⟩; replace HB := bel_on w hb; replace BK260 := blk_on gb260 hb; replace BK261 := blk_on gb261 hb; replace BK262 := blk_on gb262 hb; (try clear hb); have hn84 := ne2 NB261_262; have hcz85 := cells9 BK261.out; have hcz86 := cells3 BK260.out) | ((with_reducible refine gate_callee (f := 80) rfl ?_); refine goesM (some 35) rfl rfl Tryd.func80 (by kernel_rfl) rfl #[.agg #[.int .i64 a1_0, .int .i64 a1_1, .int .i64 a1_2, .int .i64 a1_3, .int .i64 a1_4, .int .i64 a1_5, .int .i64 a1_6, .slice A1_7 l1_7.length c1_7, .slice A1_8 l1_8.length c1_8], .agg #[.int .i64 a0_0, .int .i64 a0_1, .int .i64 a0_2]] rfl ?_; (with_reducible refine (impl_Layer_isWindow.calls a1_0 a1_1 a1_2 a1_3 a1_4 a1_5 a1_6 _ _ l1_7 _ _ l1_8 a0_0 a0_1 a0_2 true _ ?side1 ?side2 ?side3 ?side4 A69.out).mono ?_); (case side1 => exact C_now HR1_7.out); (case side2 => exact HC1_7.out); (case side3 => exact C_now HR1_8.out); (case side4 => exact HC1_8.out); rintro e w87 ⟨rfl, hb⟩; refine ⟨_, rfl, ?_⟩; replace HB := bel_on w hb; replace BK260 := blk_on gb260 hb; replace BK261 := blk_on gb261 hb; replace BK262 := blk_on gb262 hb; (try clear hb); have hcz88 := cells9 BK261.out; have hcz89 := cells3 BK260.out) | (go_at_call 79; (with_reducible refine (impl_Layer_isScaled.calls k a1_0 a1_1 a1_2 a1_3 a1_4 a1_5 a1_6 _ _ l1_7 _ _ l1_8 (wrap64 ((wrap64 (a1_2 * a1_2)) * a0_2)) true _ ?side1 ?side2 ?side3 ?side4 A72.out).mono ?_); (case side1 => exact C_now HR1_7.out); (case side2 => exact HC1_7.out); (case side3 => exact C_now HR1_8.out); (case side4 => exact HC1_8.out); rintro e w90 ⟨rfl, hb⟩; replace HB := bel_on w hb; replace BK260 := blk_on gb260 hb; replace BK261 := blk_on gb261 hb; replace BK262 := blk_on gb262 hb; (try clear hb); have hcz91 := cells9 BK261.out; have hcz92 := cells3 BK260.out) | ((with_reducible refine gate_callee (f := 81) rfl ?_); refine goesM (some 58) rfl rfl Tryd.func81 (by kernel_rfl) rfl #[.agg #[.int .i64 a1_0, .int .i64 a1_1, .int .i64 a1_2, .int .i64 a1_3, .int .i64 a1_4, .int .i64 a1_5, .int .i64 a1_6, .slice A1_7 l1_7.length c1_7, .slice A1_8 l1_8.length c1_8], .agg #[.int .i64 a0_0, .int .i64 a0_1, .int .i64 a0_2], .int .i64 a1_1] rfl ?_; (with_reducible refine (impl_Layer_windows.calls a1_0 a1_1 a1_2 a1_3 a1_4 a1_5 a1_6 _ _ l1_7 _ _ l1_8 a0_0 a0_1 a0_2 a1_1 t269 t270 t271 _ ?side1 ?side2 ?side3 ?side4 A74.out).mono ?_); (case side1 => exact C_now HR1_7.out); (case side2 => exact HC1_7.out); (case side3 => exact C_now HR1_8.out); (case side4 => exact HC1_8.out); rintro e w93 ⟨rfl, hb⟩; refine ⟨_, rfl, ?_⟩; replace HB := bel_on w hb; replace BK260 := blk_on gb260 hb; replace BK261 := blk_on gb261 hb; replace BK262 := blk_on gb262 hb; (try clear hb); have hcz94 := cells3 BK262.out))
   refine bodyPost_ret (results_ct rfl _ _ gb262 29 #[.int .i64 t269, .int .i64 t270, .int .i64 t271] (0, 0) _ rfl (blk_fars (puts3 BK262.out)) Tryd.underlying29 rfl (by kernel_rfl)) rfl ?_
   exact ⟨eqN, bel_now⟩
  rw [if_neg c68] at H
  have c68b0 : (a1_0 == 1) = false := beq_eq_false_iff_ne.mpr c68
  have c68b1 : (a1_0 != 1) = true := bne_iff_ne.mpr c68
  have HC141 := Aside0.mk H
  clear H
  go_enter Tryd.func61, Tryd.ntmps61
  go_upto_if 59 with (first | ((with_reducible refine gate_dst (N := 2) rfl ?_); (try (refine gate_guard (by rfl) ?_; dsimp only)); refine boxM 2 #[.int .i64 a0_0, .int .i64 a0_1, .int .i64 a0_2] 29 ?_; intro gb260 hg w142 BK260 hb; replace HB := box_at w hb hg; obtain ⟨HB, GW260, GE260⟩ := HB; clear hb hg) | ((with_reducible refine gate_dst (N := 3) rfl ?_); (try (refine gate_guard (by rfl) ?_; dsimp only)); refine boxM 3 #[.int .i64 a1_0, .int .i64 a1_1, .int .i64 a1_2, .int .i64 a1_3, .int .i64 a1_4, .int .i64 a1_5, .int .i64 a1_6, .slice A1_7 l1_7.length c1_7, .slice A1_8 l1_8.length c1_8] 49 ?_; intro gb261 hg w143 BK261 hb; replace HB := box_at w hb hg; obtain ⟨HB, GW261, GE261⟩ := HB; replace BK260 := box_on gb260 hb hg; obtain ⟨BK260, NB260_261, NB261_260⟩ := BK260; clear hb hg) | ((with_reducible refine gate_dst (N := 4) rfl ?_); (try (refine gate_guard (by rfl) ?_; dsimp only)); refine boxM 4 #[.int .i64 0, .int .i64 0, .int .i64 0] 29 ?_; intro gb262 hg w144 BK262 hb; replace HB := box_at w hb hg; obtain ⟨HB, GW262, GE262⟩ := HB; replace BK260 := box_on gb260 hb hg; obtain ⟨BK260, NB260_262, NB262_260⟩ := BK260; replace BK261 := box_on gb261 hb hg; obtain ⟨BK261, NB261_262, NB262_261⟩ := BK261; clear hb hg; have hn145 := ne2 NB260_261; have hn146 := ne2 NB260_262; have hcz147 := cells3 BK260.out) | ((with_reducible refine gate_callee (f := 74) rfl ?_); refine goesM (some 8) rfl rfl Tryd.func74 (by kernel_rfl) rfl #[.agg #[.int .i64 a0_0, .int .i64 a0_1, .int .i64 a0_2]] rfl ?_; (with_reducible refine (impl_ShapeOk.calls a0_0 a0_1 a0_2 true _ A3.out).mono ?_); rintro e w148 ⟨rfl, hb⟩; refine ⟨_, rfl, ?_⟩; replace HB := bel_on w hb; replace BK260 := blk_on gb260 hb; replace BK261 := blk_on gb261 hb; replace BK262 := blk_on gb262 hb; (try clear hb); have hcz149 := cells3 BK260.out) | ((with_reducible refine gate_callee (f := 75) rfl ?_); refine goesM (some 12) rfl rfl Tryd.func75 (by kernel_rfl) rfl #[.agg #[.int .i64 a0_0, .int .i64 a0_1, .int .i64 a0_2]] rfl ?_; (with_reducible refine (impl_SizeOf.calls a0_0 a0_1 a0_2 t264 _ A5.out).mono ?_); rintro e w150 ⟨rfl, hb⟩; refine ⟨_, rfl, ?_⟩; replace HB := bel_on w hb; replace BK260 := blk_on gb260 hb; replace BK261 := blk_on gb261 hb; replace BK262 := blk_on gb262 hb; (try clear hb); have hn151 := ne2 NB261_262; have hcz152 := cells9 BK261.out))
  (try simp only [Act.put, zA, zB, zC])
  go_cut [59] (fun v59 wc => ∃ (kq : Nat) (x59_140 : Bool), v59 = .bool x59_140 ∧ Aside0 (impl_OutShape.j0 kq t264 a1_0 x59_140 a0_0 a0_1 a0_2 a1_0 a1_1 a1_2 a1_3 a1_4 a1_5 a1_6 l1_7 l1_8 = some (r1, r2, r3, r4)) ∧ Aside0 (kq ≤ k) ∧ Aside0 (wc.heap[gb260]? = some (.cells #[.int .i64 a0_0, .int .i64 a0_1, .int .i64 a0_2] 29 (0, 0))) ∧ Aside0 (wc.heap[gb261]? = some (.cells #[.int .i64 a1_0, .int .i64 a1_1, .int .i64 a1_2, .int .i64 a1_3, .int .i64 a1_4, .int .i64 a1_5, .int .i64 a1_6, (.slice A1_7 l1_7.length c1_7), (.slice A1_8 l1_8.length c1_8)] 49 (0, 0))) ∧ Aside0 (wc.heap[gb262]? = some (.cells #[.int .i64 0, .int .i64 0, .int .i64 0] 29 (0, 0))) ∧ Aside0 (Below w.heap.size w wc))
  case first =>
   have H := HC141.out
   clear HC141
   by_cases c153 : a1_0 = 2
   ·rw [if_pos c153] at H
    have c153b0 : (a1_0 == 2) = true := beq_iff_eq.mpr c153
    have c153b1 : (a1_0 != 2) = false := bne_eq_false_iff_eq.mpr c153
    clear c153
    (first | rw [c153b0] | (simp only [i64_w, i32_w]; rw [c153b0]) | skip)
    have H' := Aside0.mk H
    clear H
    go_wp2
    go_meet
    case rel => exact ⟨_, ((a1_0 == 2)), (by first | rfl | (simp; done) | (simp [*]; done)), H', ⟨by first | omega | exact Nat.le_refl _⟩, ⟨bks BK260⟩, ⟨bks BK261⟩, ⟨bks BK262⟩, ⟨bel_now⟩⟩
   rw [if_neg c153] at H
   have c153b0 : (a1_0 == 2) = false := beq_eq_false_iff_ne.mpr c153
   have c153b1 : (a1_0 != 2) = true := bne_iff_ne.mpr c153
   (first | rw [c153b0] | (simp only [i64_w, i32_w]; rw [c153b0]) | skip)
   have H' := Aside0.mk H
   clear H
   go_wp2
   go_meet
   case rel => exact ⟨_, ((a1_0 == 3)), (by first | rfl | (simp; done) | (simp [*]; done)), H', ⟨by first | omega | exact Nat.le_refl _⟩, ⟨bks BK260⟩, ⟨bks BK261⟩, ⟨bks BK262⟩, ⟨bel_now⟩⟩
  case rest =>
   clear HC141
   try clear c1
   try clear c2
   try clear p2
   try clear c3
   try clear c4
   try clear c5
   try clear c6
   try clear c6b0
   try clear c6b1
   try clear p6
   try clear c7
   try clear c7b0
   try clear c8
   try clear c9
   try clear c10
   try clear c11
   try clear c12
   try clear c13
   try clear c14
   try clear c15
   try clear c16
   try clear c21
   try clear c31
   try clear c32
   try clear c37
   try clear c46
   try clear c47
   try clear c52
   try clear c59
   try clear c60
   try clear c61
   try clear p64
   try clear c65
   try clear c68
   try clear c68b0
   try clear c68b1
   try clear c70
   try clear c71
   try clear c71b0
   try clear c71b1
   try clear c73
   try clear c74
   try clear c75
   try clear c78
   try clear c79
   try clear c80
   try clear c81
   try clear c84
   try clear c98
   try clear c99
   try clear c104
   try clear c115
   try clear c116
   try clear c121
   try clear c130
   try clear c131
   try clear c136
   try clear c145
   try clear c146
   try clear c151
   try clear c153
   try clear c153b0
   try clear c153b1
   try clear hcz100
   try clear hcz102
   try clear hcz105
   try clear hcz106
   try clear hcz108
   try clear hcz109
   try clear hcz111
   try clear hcz117
   try clear hcz119
   try clear hcz122
   try clear hcz123
   try clear hcz125
   try clear hcz126
   try clear hcz132
   try clear hcz134
   try clear hcz137
   try clear hcz138
   try clear hcz140
   try clear hcz147
   try clear hcz149
   try clear hcz152
   try clear hcz17
   try clear hcz19
   try clear hcz22
   try clear hcz24
   try clear hcz26
   try clear hcz27
   try clear hcz33
   try clear hcz35
   try clear hcz38
   try clear hcz40
   try clear hcz42
   try clear hcz48
   try clear hcz50
   try clear hcz53
   try clear hcz55
   try clear hcz61
   try clear hcz63
   try clear hcz66
   try clear hcz67
   try clear hcz80
   try clear hcz82
   try clear hcz85
   try clear hcz86
   try clear hcz88
   try clear hcz89
   try clear hcz91
   try clear hcz92
   try clear hcz94
   obtain ⟨kq, x59_140, rfl, HA, HJ140, BK260, BK261, BK262, HB⟩ := hcut
   cases kq with
   | zero => exact absurd HA.out (by simp [impl_OutShape.j0])
   | succ kj140 =>
    have H := HA.out
    clear HA
    simp only [impl_OutShape.j0] at H
    by_cases c154 : x59_140 = true
    ·subst c154
     rw [if_pos rfl] at H
     replace H := Option.bind_eq_some_iff.mp H
     obtain ⟨t272, A1550, H⟩ := H
     (try dsimp only at H)
     have A155 := Aside0.mk A1550
     clear A1550
     by_cases c156 : t272 = true
     rotate_left
     ·replace c156 := Bool.eq_false_iff.mpr c156
      subst c156
      rw [if_neg (show ¬ (false = true) by decide)] at H
      simp only [Option.some.injEq, Prod.mk.injEq] at H
      obtain ⟨rfl, rfl, rfl, rfl⟩ := H
      have hn192 := ne2 NB261_260
      have hn193 := ne2 NB261_262
      have hcz194 := cells9 BK261.out
      have hn195 := ne2 NB260_262
      have hcz196 := cells3 BK260.out
      go_wp2_with (first | ((with_reducible refine gate_callee (f := 80) rfl ?_); refine goesM (some 64) rfl rfl Tryd.func80 (by kernel_rfl) rfl #[.agg #[.int .i64 a1_0, .int .i64 a1_1, .int .i64 a1_2, .int .i64 a1_3, .int .i64 a1_4, .int .i64 a1_5, .int .i64 a1_6, .slice A1_7 l1_7.length c1_7, .slice A1_8 l1_8.length c1_8], .agg #[.int .i64 a0_0, .int .i64 a0_1, .int .i64 a0_2]] rfl ?_; (with_reducible refine (impl_Layer_isWindow.calls a1_0 a1_1 a1_2 a1_3 a1_4 a1_5 a1_6 _ _ l1_7 _ _ l1_8 a0_0 a0_1 a0_2 false _ ?side1 ?side2 ?side3 ?side4 A155.out).mono ?_); (case side1 => exact C_now HR1_7.out); (case side2 => exact HC1_7.out); (case side3 => exact C_now HR1_8.out); (case side4 => exact HC1_8.out); rintro e w197 ⟨rfl, hb⟩; refine ⟨_, rfl, ?_⟩; replace HB := bel_on w hb; replace BK260 := blk_on gb260 hb; replace BK261 := blk_on gb261 hb; replace BK262 := blk_on gb262 hb; (try clear hb); have hcz198 := cells3 BK262.out))
      refine bodyPost_ret (results_ct rfl _ _ gb262 29 #[.int .i64 0, .int .i64 0, .int .i64 0] (0, 0) _ rfl (blk_fars (puts3 BK262.out)) Tryd.underlying29 rfl (by kernel_rfl)) rfl ?_
      exact ⟨eqN, bel_now⟩
     subst c156
     rw [if_pos rfl] at H
     replace H := Option.bind_eq_some_iff.mp H
     obtain ⟨t273, A1570, H⟩ := H
     (try dsimp only at H)
     have A157 := Aside0.mk A1570
     clear A1570
     by_cases c158 : t273 = true
     rotate_left
     ·replace c158 := Bool.eq_false_iff.mpr c158
      subst c158
      rw [if_neg (show ¬ (false = true) by decide)] at H
      simp only [Option.some.injEq, Prod.mk.injEq] at H
      obtain ⟨rfl, rfl, rfl, rfl⟩ := H
      have hn183 := ne2 NB261_260
      have hn184 := ne2 NB261_262
      have hcz185 := cells9 BK261.out
      have hn186 := ne2 NB260_262
      have hcz187 := cells3 BK260.out
      go_wp2_with (first | ((with_reducible refine gate_callee (f := 80) rfl ?_); refine goesM (some 64) rfl rfl Tryd.func80 (by kernel_rfl) rfl #[.agg #[.int .i64 a1_0, .int .i64 a1_1, .int .i64 a1_2, .int .i64 a1_3, .int .i64 a1_4, .int .i64 a1_5, .int .i64 a1_6, .slice A1_7 l1_7.length c1_7, .slice A1_8 l1_8.length c1_8], .agg #[.int .i64 a0_0, .int .i64 a0_1, .int .i64 a0_2]] rfl ?_; (with_reducible refine (impl_Layer_isWindow.calls a1_0 a1_1 a1_2 a1_3 a1_4 a1_5 a1_6 _ _ l1_7 _ _ l1_8 a0_0 a0_1 a0_2 true _ ?side1 ?side2 ?side3 ?side4 A155.out).mono ?_); (case side1 => exact C_now HR1_7.out); (case side2 => exact HC1_7.out); (case side3 => exact C_now HR1_8.out); (case side4 => exact HC1_8.out); rintro e w188 ⟨rfl, hb⟩; refine ⟨_, rfl, ?_⟩; replace HB := bel_on w hb; replace BK260 := blk_on gb260 hb; replace BK261 := blk_on gb261 hb; replace BK262 := blk_on gb262 hb; (try clear hb); have hcz189 := cells9 BK261.out) | (go_at_call 82; (with_reducible refine (impl_Layer_isBare.calls a1_0 a1_1 a1_2 a1_3 a1_4 a1_5 a1_6 _ _ l1_7 _ _ l1_8 false _ ?side1 ?side2 ?side3 ?side4 A157.out).mono ?_); (case side1 => exact C_now HR1_7.out); (case side2 => exact HC1_7.out); (case side3 => exact C_now HR1_8.out); (case side4 => exact HC1_8.out); rintro e w190 ⟨rfl, hb⟩; replace HB := bel_on w hb; replace BK260 := blk_on gb260 hb; replace BK261 := blk_on gb261 hb; replace BK262 := blk_on gb262 hb; (try clear hb); have hcz191 := cells3 BK262.out))
      refine bodyPost_ret (results_ct rfl _ _ gb262 29 #[.int .i64 0, .int .i64 0, .int .i64 0] (0, 0) _ rfl (blk_fars (puts3 BK262.out)) Tryd.underlying29 rfl (by kernel_rfl)) rfl ?_
      exact ⟨eqN, bel_now⟩
     subst c158
     rw [if_pos rfl] at H
     by_cases c159 : a1_6 = 0
     rotate_left
     ·rw [if_neg c159] at H
      have c159b0 : (a1_6 == 0) = false := beq_eq_false_iff_ne.mpr c159
      have c159b1 : (a1_6 != 0) = true := bne_iff_ne.mpr c159
      simp only [Option.some.injEq, Prod.mk.injEq] at H
      obtain ⟨rfl, rfl, rfl, rfl⟩ := H
      have hn173 := ne2 NB261_260
      have hn174 := ne2 NB261_262
      have hcz175 := cells9 BK261.out
      have hn176 := ne2 NB260_262
      have hcz177 := cells3 BK260.out
      go_wp2_with (first | ((with_reducible refine gate_callee (f := 80) rfl ?_); refine goesM (some 64) rfl rfl Tryd.func80 (by kernel_rfl) rfl #[.agg #[.int .i64 a1_0, .int .i64 a1_1, .int .i64 a1_2, .int .i64 a1_3, .int .i64 a1_4, .int .i64 a1_5, .int .i64 a1_6, .slice A1_7 l1_7.length c1_7, .slice A1_8 l1_8.length c1_8], .agg #[.int .i64 a0_0, .int .i64 a0_1, .int .i64 a0_2]] rfl ?_; (with_reducible refine (impl_Layer_isWindow.calls a1_0 a1_1 a1_2 a1_3 a1_4 a1_5 a1_6 _ _ l1_7 _ _ l1_8 a0_0 a0_1 a0_2 true _ ?side1 ?side2 ?side3 ?side4 A155.out).mono ?_); (case side1 => exact C_now HR1_7.out); (case side2 => exact HC1_7.out); (case side3 => exact C_now HR1_8.out); (case side4 => exact HC1_8.out); rintro e w178 ⟨rfl, hb⟩; refine ⟨_, rfl, ?_⟩; replace HB := bel_on w hb; replace BK260 := blk_on gb260 hb; replace BK261 := blk_on gb261 hb; replace BK262 := blk_on gb262 hb; (try clear hb); have hcz179 := cells9 BK261.out) | (go_at_call 82; (with_reducible refine (impl_Layer_isBare.calls a1_0 a1_1 a1_2 a1_3 a1_4 a1_5 a1_6 _ _ l1_7 _ _ l1_8 true _ ?side1 ?side2 ?side3 ?side4 A157.out).mono ?_); (case side1 => exact C_now HR1_7.out); (case side2 => exact HC1_7.out); (case side3 => exact C_now HR1_8.out); (case side4 => exact HC1_8.out); rintro e w180 ⟨rfl, hb⟩; replace HB := bel_on w hb; replace BK260 := blk_on gb260 hb; replace BK261 := blk_on gb261 hb; replace BK262 := blk_on gb262 hb; (try clear hb); have hcz181 := cells9 BK261.out; have hcz182 := cells3 BK262.out))
      refine bodyPost_ret (results_ct rfl _ _ gb262 29 #[.int .i64 0, .int .i64 0, .int .i64 0] (0, 0) _ rfl (blk_fars (puts3 BK262.out)) Tryd.underlying29 rfl (by kernel_rfl)) rfl ?_
      exact ⟨eqN, bel_now⟩
     rw [if_pos c159] at H
     have c159b0 : (a1_6 == 0) = true := beq_iff_eq.mpr c159
     have c159b1 : (a1_6 != 0) = false := bne_eq_false_iff_eq.mpr c159
     clear c159
     replace H := Option.bind_eq_some_iff.mp H
     obtain ⟨⟨t274, t275, t276⟩, A1600, H⟩ := H
     (try dsimp only at H)
     have A160 := Aside0.mk A1600
     clear A1600
     simp only [Option.some.injEq, Prod.mk.injEq] at H
     obtain ⟨rfl, rfl, rfl, rfl⟩ := H
     have hn161 := ne2 NB261_260
     have hn162 := ne2 NB261_262
     have hcz163 := cells9 BK261.out
     have hn164 := ne2 NB260_262
     have hcz165 := cells3 BK260.out
     go_wp2_with (first | ((with_reducible refine gate_callee (f := 80) rfl ?_); refine goesM (some 64) rfl rfl Tryd.func80 (by kernel_rfl) rfl #[.agg #[.int .i64 a1_0, .int .i64 a1_1, .int .i64 a1_2, .int .i64 a1_3, .int .i64 a1_4, .int .i64 a1_5, .int .i64 a1_6, .slice A1_7 l1_7.length c1_7, .slice A1_8 l1_8.length c1_8], .agg #[.int .i64 a0_0, .int .i64 a0_1, .int .i64 a0_2]] rfl ?_; (with_reducible refine (impl_Layer_isWindow.calls a1_0 a1_1 a1_2 a1_3 a1_4 a1_5 a1_6 _ _ l1_7 _ _ l1_8 a0_0 a0_1 a0_2 true _ ?side1 ?side2 ?side3 ?side4 A155.out).mono ?_); (case side1 => exact C_now HR1_7.out); (case side2 => exact HC1_7.out); (case side3 => exact C_now HR1_8.out); (case side4 => exact HC1_8.out); rintro e w166 ⟨rfl, hb⟩; refine ⟨_, rfl, ?_⟩; replace HB := bel_on w hb; replace BK260 := blk_on gb260 hb; replace BK261 := blk_on gb261 hb; replace BK262 := blk_on gb262 hb; (try clear hb); have hcz167 := cells9 BK261.out) | (go_at_call 82; (with_reducible refine (impl_Layer_isBare.calls a1_0 a1_1 a1_2 a1_3 a1_4 a1_5 a1_6 _ _ l1_7 _ _ l1_8 true _ ?side1 ?side2 ?side3 ?side4 A157.out).mono ?_); (case side1 => exact C_now HR1_7.out); (case side2 => exact HC1_7.out); (case side3 => exact C_now HR1_8.out); (case side4 => exact HC1_8.out); rintro e w168 ⟨rfl, hb⟩; replace HB := bel_on w hb; replace BK260 := blk_on gb260 hb; replace BK261 := blk_on gb261 hb; replace BK262 := blk_on gb262 hb; (try clear hb); have hcz169 := cells9 BK261.out; have hcz170 := cells3 BK260.out) | ((with_reducible refine gate_callee (f := 81) rfl ?_); refine goesM (some 78) rfl rfl Tryd.func81 (by kernel_rfl) rfl #[.agg #[.int .i64 a1_0, .int .i64 a1_1, .int .i64 a1_2, .int .i64 a1_3, .int .i64 a1_4, .int .i64 a1_5, .int .i64 a1_6, .slice A1_7 l1_7.length c1_7, .slice A1_8 l1_8.length c1_8], .agg #[.int .i64 a0_0, .int .i64 a0_1, .int .i64 a0_2], .int .i64 a0_2] rfl ?_; (with_reducible refine (impl_Layer_windows.calls a1_0 a1_1 a1_2 a1_3 a1_4 a1_5 a1_6 _ _ l1_7 _ _ l1_8 a0_0 a0_1 a0_2 a0_2 t274 t275 t276 _ ?side1 ?side2 ?side3 ?side4 A160.out).mono ?_); (case side1 => exact C_now HR1_7.out); (case side2 => exact HC1_7.out); (case side3 => exact C_now HR1_8.out); (case side4 => exact HC1_8.out); rintro e w171 ⟨rfl, hb⟩; refine ⟨_, rfl, ?_⟩; replace HB := bel_on w hb; replace BK260 := blk_on gb260 hb; replace BK261 := blk_on gb261 hb; replace BK262 := blk_on gb262 hb; (try clear hb); have hcz172 := cells3 BK262.out))
     refine bodyPost_ret (results_ct rfl _ _ gb262 29 #[.int .i64 t274, .int .i64 t275, .int .i64 t276] (0, 0) _ rfl (blk_fars (puts3 BK262.out)) Tryd.underlying29 rfl (by kernel_rfl)) rfl ?_
     exact ⟨eqN, bel_now⟩
    replace c154 := Bool.eq_false_iff.mpr c154
    subst c154
    rw [if_neg (show ¬ (false = true) by decide)] at H
    by_cases c199 : a1_0 = 4
    ·rw [if_pos c199] at H
     have c199b0 : (a1_0 == 4) = true := beq_iff_eq.mpr c199
     have c199b1 : (a1_0 != 4) = false := bne_eq_false_iff_eq.mpr c199
     clear c199
     replace H := Option.bind_eq_some_iff.mp H
     obtain ⟨t277, A2000, H⟩ := H
     (try dsimp only at H)
     have A200 := Aside0.mk A2000
     clear A2000
     by_cases c201 : t277 = true
     rotate_left
     ·replace c201 := Bool.eq_false_iff.mpr c201
      subst c201
      rw [if_neg (show ¬ (false = true) by decide)] at H
      simp only [Option.some.injEq, Prod.mk.injEq] at H
      obtain ⟨rfl, rfl, rfl, rfl⟩ := H
      have hn233 := ne2 NB261_260
      have hn234 := ne2 NB261_262
      have hcz235 := cells9 BK261.out
      go_wp2_with (first | ((with_reducible refine gate_callee (f := 78) rfl ?_); refine goesM (some 82) rfl rfl Tryd.func78 (by kernel_rfl) rfl #[.agg #[.int .i64 a1_0, .int .i64 a1_1, .int .i64 a1_2, .int .i64 a1_3, .int .i64 a1_4, .int .i64 a1_5, .int .i64 a1_6, .slice A1_7 l1_7.length c1_7, .slice A1_8 l1_8.length c1_8]] rfl ?_; (with_reducible refine (impl_Layer_hasNone.calls a1_0 a1_1 a1_2 a1_3 a1_4 a1_5 a1_6 _ _ l1_7 _ _ l1_8 false _ ?side1 ?side2 ?side3 ?side4 A200.out).mono ?_); (case side1 => exact C_now HR1_7.out); (case side2 => exact HC1_7.out); (case side3 => exact C_now HR1_8.out); (case side4 => exact HC1_8.out); rintro e w236 ⟨rfl, hb⟩; refine ⟨_, rfl, ?_⟩; replace HB := bel_on w hb; replace BK260 := blk_on gb260 hb; replace BK261 := blk_on gb261 hb; replace BK262 := blk_on gb262 hb; (try clear hb); have hn237 := ne2 NB262_260; have hcz238 := cells3 BK262.out))
      refine bodyPost_ret (results_ct rfl _ _ gb262 29 #[.int .i64 0, .int .i64 0, .int .i64 0] (0, 0) _ rfl (blk_fars (puts3 BK262.out)) Tryd.underlying29 rfl (by kernel_rfl)) rfl ?_
      exact ⟨eqN, bel_now⟩
     subst c201
     rw [if_pos rfl] at H
     replace H := Option.bind_eq_some_iff.mp H
     obtain ⟨t278, A2020, H⟩ := H
     (try dsimp only at H)
     have A202 := Aside0.mk A2020
     clear A2020
     by_cases c203 : t278 = true
     rotate_left
     ·replace c203 := Bool.eq_false_iff.mpr c203
      subst c203
      rw [if_neg (show ¬ (false = true) by decide)] at H
      simp only [Option.some.injEq, Prod.mk.injEq] at H
      obtain ⟨rfl, rfl, rfl, rfl⟩ := H
      have hn225 := ne2 NB261_260
      have hn226 := ne2 NB261_262
      have hcz227 := cells9 BK261.out
      go_wp2_with (first | ((with_reducible refine gate_callee (f := 78) rfl ?_); refine goesM (some 82) rfl rfl Tryd.func78 (by kernel_rfl) rfl #[.agg #[.int .i64 a1_0, .int .i64 a1_1, .int .i64 a1_2, .int .i64 a1_3, .int .i64 a1_4, .int .i64 a1_5, .int .i64 a1_6, .slice A1_7 l1_7.length c1_7, .slice A1_8 l1_8.length c1_8]] rfl ?_; (with_reducible refine (impl_Layer_hasNone.calls a1_0 a1_1 a1_2 a1_3 a1_4 a1_5 a1_6 _ _ l1_7 _ _ l1_8 true _ ?side1 ?side2 ?side3 ?side4 A200.out).mono ?_); (case side1 => exact C_now HR1_7.out); (case side2 => exact HC1_7.out); (case side3 => exact C_now HR1_8.out); (case side4 => exact HC1_8.out); rintro e w228 ⟨rfl, hb⟩; refine ⟨_, rfl, ?_⟩; replace HB := bel_on w hb; replace BK260 := blk_on gb260 hb; replace BK261 := blk_on gb261 hb; replace BK262 := blk_on gb262 hb; (try clear hb); have hcz229 := cells9 BK261.out) | (go_at_call 82; (with_reducible refine (impl_Layer_isBare.calls a1_0 a1_1 a1_2 a1_3 a1_4 a1_5 a1_6 _ _ l1_7 _ _ l1_8 false _ ?side1 ?side2 ?side3 ?side4 A202.out).mono ?_); (case side1 => exact C_now HR1_7.out); (case side2 => exact HC1_7.out); (case side3 => exact C_now HR1_8.out); (case side4 => exact HC1_8.out); rintro e w230 ⟨rfl, hb⟩; replace HB := bel_on w hb; replace BK260 := blk_on gb260 hb; replace BK261 := blk_on gb261 hb; replace BK262 := blk_on gb262 hb; (try clear hb); have hn231 := ne2 NB262_260; have hcz232 := cells3 BK262.out))
      refine bodyPost_ret (results_ct rfl _ _ gb262 29 #[.int .i64 0, .int .i64 0, .int .i64 0] (0, 0) _ rfl (blk_fars (puts3 BK262.out)) Tryd.underlying29 rfl (by kernel_rfl)) rfl ?_
      exact ⟨eqN, bel_now⟩
     subst c203
     rw [if_pos rfl] at H
     replace H := Option.bind_eq_some_iff.mp H
     obtain ⟨t279, A2040, H⟩ := H
     (try dsimp only at H)
     have A204 := Aside0.mk A2040
     clear A2040
     by_cases c205 : t279 = true
     ·subst c205
      rw [if_pos rfl] at H
      simp only [Option.some.injEq, Prod.mk.injEq] at H
      obtain ⟨rfl, rfl, rfl, rfl⟩ := H
      have hn206 := ne2 NB261_260
      have hn207 := ne2 NB261_262
      have hcz208 := cells9 BK261.out
      go_wp2_with (first | ((with_reducible refine gate_callee (f := 78) rfl ?_); refine goesM (some 82) rfl rfl Tryd.func78 (by kernel_rfl) rfl #[.agg #[.int .i64 a1_0, .int .i64 a1_1, .int .i64 a1_2, .int .i64 a1_3, .int .i64 a1_4, .int .i64 a1_5, .int .i64 a1_6, .slice A1_7 l1_7.length c1_7, .slice A1_8 l1_8.length c1_8]] rfl ?_; (with_reducible refine (impl_Layer_hasNone.calls a1_0 a1_1 a1_2 a1_3 a1_4 a1_5 a1_6 _ _ l1_7 _ _ l1_8 true _ ?side1 ?side2 ?side3 ?side4 A200.out).mono ?_); (case side1 => exact C_now HR1_7.out); (case side2 => exact HC1_7.out); (case side3 => exact C_now HR1_8.out); (case side4 => exact HC1_8.out); rintro e w209 ⟨rfl, hb⟩; refine ⟨_, rfl, ?_⟩; replace HB := bel_on w hb; replace BK260 := blk_on gb260 hb; replace BK261 := blk_on gb261 hb; replace BK262 := blk_on gb262 hb; (try clear hb); have hcz210 := cells9 BK261.out) | (go_at_call 82; (with_reducible refine (impl_Layer_isBare.calls a1_0 a1_1 a1_2 a1_3 a1_4 a1_5 a1_6 _ _ l1_7 _ _ l1_8 true _ ?side1 ?side2 ?side3 ?side4 A202.out).mono ?_); (case side1 => exact C_now HR1_7.out); (case side2 => exact HC1_7.out); (case side3 => exact C_now HR1_8.out); (case side4 => exact HC1_8.out); rintro e w211 ⟨rfl, hb⟩; replace HB := bel_on w hb; replace BK260 := blk_on gb260 hb; replace BK261 := blk_on gb261 hb; replace BK262 := blk_on gb262 hb; (try clear hb); have hcz212 := cells9 BK261.out) | (go_at_call 41; (with_reducible refine (impl_in.calls a1_6 (-128) 127 true _ A204.out).mono ?_); rintro e w' ⟨rfl, ⟨nd, rfl⟩⟩; (try (rw [drewN_self w211]; generalize hq_ : World.drewN w211 _ = w211; have n0_ : Aside0 (w211.heap[gb260]? = some (.cells #[.int .i64 a0_0, .int .i64 a0_1, .int .i64 a0_2] 29 (0, 0))) := ⟨by rw [← hq_]; exact blk_now⟩; have n1_ : Aside0 (w211.heap[gb261]? = some (.cells #[.int .i64 a1_0, .int .i64 a1_1, .int .i64 a1_2, .int .i64 a1_3, .int .i64 a1_4, .int .i64 a1_5, .int .i64 a1_6, .slice A1_7 l1_7.length c1_7, .slice A1_8 l1_8.length c1_8] 49 (0, 0))) := ⟨by rw [← hq_]; exact blk_now⟩; have n2_ : Aside0 (w211.heap[gb262]? = some (.cells #[.int .i64 0, .int .i64 0, .int .i64 0] 29 (0, 0))) := ⟨by rw [← hq_]; exact blk_now⟩; have n3_ : Aside0 (Below w.heap.size w w211) := ⟨by rw [← hq_]; exact bel_now⟩; clear BK260 BK261 BK262 HB hq_; have BK260 := n0_; have BK261 := n1_; have BK262 := n2_; have HB := n3_; clear n0_ n1_ n2_ n3_; (try obtain ⟨hcuBK261_0, hcuBK261_1, hcuBK261_2, hcuBK261_3, hcuBK261_4, hcuBK261_5, hcuBK261_6, hcuBK261_7, hcuBK261_8, hcuBK261_9, hcuBK261_10, hcuBK261_11, hcuBK261_12, hcuBK261_13, hcuBK261_14, hcuBK261_15, hcuBK261_16, hcuBK261_17⟩ := cells9 BK261.out))); have hn213 := ne2 NB260_262; have hcz214 := cells3 BK260.out; have hcz215 := cells3 BK262.out))
      refine bodyPost_ret (results_ct rfl _ _ gb262 29 #[.int .i64 a0_0, .int .i64 a0_1, .int .i64 a0_2] (0, 0) _ rfl (blk_fars (puts3 BK262.out)) Tryd.underlying29 rfl (by kernel_rfl)) rfl ?_
      exact ⟨eqN, bel_now⟩
     replace c205 := Bool.eq_false_iff.mpr c205
     subst c205
     rw [if_neg (show ¬ (false = true) by decide)] at H
     simp only [Option.some.injEq, Prod.mk.injEq] at H
     obtain ⟨rfl, rfl, rfl, rfl⟩ := H
     have hn216 := ne2 NB261_260
     have hn217 := ne2 NB261_262
     have hcz218 := cells9 BK261.out
     go_wp2_with (first | ((with_reducible refine gate_callee (f := 78) rfl ?_); refine goesM (some 82) rfl rfl Tryd.func78 (by kernel_rfl) rfl #[.agg #[.int .i64 a1_0, .int .i64 a1_1, .int .i64 a1_2, .int .i64 a1_3, .int .i64 a1_4, .int .i64 a1_5, .int .i64 a1_6, .slice A1_7 l1_7.length c1_7, .slice A1_8 l1_8.length c1_8]] rfl ?_; (with_reducible refine (impl_Layer_hasNone.calls a1_0 a1_1 a1_2 a1_3 a1_4 a1_5 a1_6 _ _ l1_7 _ _ l1_8 true _ ?side1 ?side2 ?side3 ?side4 A200.out).mono ?_); (case side1 => exact C_now HR1_7.out); (case side2 => exact HC1_7.out); (case side3 => exact C_now HR1_8.out); (case side4 => exact HC1_8.out); rintro e w219 ⟨rfl, hb⟩; refine ⟨_, rfl, ?_⟩; replace HB := bel_on w hb; replace BK260 := blk_on gb260 hb; replace BK261 := blk_on gb261 hb; replace BK262 := blk_on gb262 hb; (try clear hb); have hcz220 := cells9 BK261.out) | (go_at_call 82; (with_reducible refine (impl_Layer_isBare.calls a1_0 a1_1 a1_2 a1_3 a1_4 a1_5 a1_6 _ _ l1_7 _ _ l1_8 true _ ?side1 ?side2 ?side3 ?side4 A202.out).mono ?_); (case side1 => exact C_now HR1_7.out); (case side2 => exact HC1_7.out); (case side3 => exact C_now HR1_8.out); (case side4 => exact HC1_8.out); rintro e w221 ⟨rfl, hb⟩; replace HB := bel_on w hb; replace BK260 := blk_on gb260 hb; replace BK261 := blk_on gb261 hb; replace BK262 := blk_on gb262 hb; (try clear hb); have hcz222 := cells9 BK261.out) | (go_at_call 41; (with_reducible refine (impl_in.calls a1_6 (-128) 127 false _ A204.out).mono ?_); rintro e w' ⟨rfl, ⟨nd, rfl⟩⟩; (try (rw [drewN_self w221]; generalize hq_ : World.drewN w221 _ = w221; have n0_ : Aside0 (w221.heap[gb260]? = some (.cells #[.int .i64 a0_0, .int .i64 a0_1, .int .i64 a0_2] 29 (0, 0))) := ⟨by rw [← hq_]; exact blk_now⟩; have n1_ : Aside0 (w221.heap[gb261]? = some (.cells #[.int .i64 a1_0, .int .i64 a1_1, .int .i64 a1_2, .int .i64 a1_3, .int .i64 a1_4, .int .i64 a1_5, .int .i64 a1_6, .slice A1_7 l1_7.length c1_7, .slice A1_8 l1_8.length c1_8] 49 (0, 0))) := ⟨by rw [← hq_]; exact blk_now⟩; have n2_ : Aside0 (w221.heap[gb262]? = some (.cells #[.int .i64 0, .int .i64 0, .int .i64 0] 29 (0, 0))) := ⟨by rw [← hq_]; exact blk_now⟩; have n3_ : Aside0 (Below w.heap.size w w221) := ⟨by rw [← hq_]; exact bel_now⟩; clear BK260 BK261 BK262 HB hq_; have BK260 := n0_; have BK261 := n1_; have BK262 := n2_; have HB := n3_; clear n0_ n1_ n2_ n3_; (try obtain ⟨hcuBK261_0, hcuBK261_1, hcuBK261_2, hcuBK261_3, hcuBK261_4, hcuBK261_5, hcuBK261_6, hcuBK261_7, hcuBK261_8, hcuBK261_9, hcuBK261_10, hcuBK261_11, hcuBK261_12, hcuBK261_13, hcuBK261_14, hcuBK261_15, hcuBK261_16, hcuBK261_17⟩ := cells9 BK261.out))); have hn223 := ne2 NB262_260; have hcz224 := cells3 BK262.out))
     refine bodyPost_ret (results_ct rfl _ _ gb262 29 #[.int .i64 0, .int .i64 0, .int .i64 0] (0, 0) _ rfl (blk_fars (puts3 BK262.out)) Tryd.underlying29 rfl (by kernel_rfl)) rfl ?_
     exact ⟨eqN, bel_now⟩
    rw [if_neg c199] at H
    have c199b0 : (a1_0 == 4) = false := beq_eq_false_iff_ne.mpr c199
    have c199b1 : (a1_0 != 4) = true := bne_iff_ne.mpr c199
    by_cases c239 : a1_0 = 5
    rotate_left
    ·rw [if_neg c239] at H
     have c239b0 : (a1_0 == 5) = false := beq_eq_false_iff_ne.mpr c239
     have c239b1 : (a1_0 != 5) = true := bne_iff_ne.mpr c239
     simp only [Option.some.injEq, Prod.mk.injEq] at H
     obtain ⟨rfl, rfl, rfl, rfl⟩ := H
     have hn287 := ne2 NB262_260
     have hn288 := ne2 NB262_261
     have hcz289 := cells3 BK262.out
     go_wp2
     refine bodyPost_ret (results_ct rfl _ _ gb262 29 #[.int .i64 0, .int .i64 0, .int .i64 0] (0, 0) _ rfl (blk_fars (puts3 BK262.out)) Tryd.underlying29 rfl (by kernel_rfl)) rfl ?_
     exact ⟨eqN, bel_now⟩
    rw [if_pos c239] at H
    have c239b0 : (a1_0 == 5) = true := beq_iff_eq.mpr c239
    have c239b1 : (a1_0 != 5) = false := bne_eq_false_iff_eq.mpr c239
    clear c239
    replace H := Option.bind_eq_some_iff.mp H
    obtain ⟨t280, A2400, H⟩ := H
    (try dsimp only at H)
    have A240 := Aside0.mk A2400
    clear A2400
    by_cases c241 : t280 = true
    rotate_left
    ·replace c241 := Bool.eq_false_iff.mpr c241
     subst c241
     rw [if_neg (show ¬ (false = true) by decide)] at H
     simp only [Option.some.injEq, Prod.mk.injEq] at H
     obtain ⟨rfl, rfl, rfl, rfl⟩ := H
     have hn281 := ne2 NB261_260
     have hn282 := ne2 NB261_262
     have hcz283 := cells9 BK261.out
     go_wp2_with (first | ((with_reducible refine gate_callee (f := 78) rfl ?_); refine goesM (some 96) rfl rfl Tryd.func78 (by kernel_rfl) rfl #[.agg #[.int .i64 a1_0, .int .i64 a1_1, .int .i64 a1_2, .int .i64 a1_3, .int .i64 a1_4, .int .i64 a1_5, .int .i64 a1_6, .slice A1_7 l1_7.length c1_7, .slice A1_8 l1_8.length c1_8]] rfl ?_; (with_reducible refine (impl_Layer_hasNone.calls a1_0 a1_1 a1_2 a1_3 a1_4 a1_5 a1_6 _ _ l1_7 _ _ l1_8 false _ ?side1 ?side2 ?side3 ?side4 A240.out).mono ?_); (case side1 => exact C_now HR1_7.out); (case side2 => exact HC1_7.out); (case side3 => exact C_now HR1_8.out); (case side4 => exact HC1_8.out); rintro e w284 ⟨rfl, hb⟩; refine ⟨_, rfl, ?_⟩; replace HB := bel_on w hb; replace BK260 := blk_on gb260 hb; replace BK261 := blk_on gb261 hb; replace BK262 := blk_on gb262 hb; (try clear hb); have hn285 := ne2 NB262_260; have hcz286 := cells3 BK262.out))
     refine bodyPost_ret (results_ct rfl _ _ gb262 29 #[.int .i64 0, .int .i64 0, .int .i64 0] (0, 0) _ rfl (blk_fars (puts3 BK262.out)) Tryd.underlying29 rfl (by kernel_rfl)) rfl ?_
     exact ⟨eqN, bel_now⟩
    subst c241
    rw [if_pos rfl] at H
    replace H := Option.bind_eq_some_iff.mp H
    obtain ⟨t281, A2420, H⟩ := H
    (try dsimp only at H)
    have A242 := Aside0.mk A2420
    clear A2420
    by_cases c243 : t281 = true
    rotate_left
    ·replace c243 := Bool.eq_false_iff.mpr c243
     subst c243
     rw [if_neg (show ¬ (false = true) by decide)] at H
     simp only [Option.some.injEq, Prod.mk.injEq] at H
     obtain ⟨rfl, rfl, rfl, rfl⟩ := H
     have hn273 := ne2 NB261_260
     have hn274 := ne2 NB261_262
     have hcz275 := cells9 BK261.out
     go_wp2_with (first | ((with_reducible refine gate_callee (f := 78) rfl ?_); refine goesM (some 96) rfl rfl Tryd.func78 (by kernel_rfl) rfl #[.agg #[.int .i64 a1_0, .int .i64 a1_1, .int .i64 a1_2, .int .i64 a1_3, .int .i64 a1_4, .int .i64 a1_5, .int .i64 a1_6, .slice A1_7 l1_7.length c1_7, .slice A1_8 l1_8.length c1_8]] rfl ?_; (with_reducible refine (impl_Layer_hasNone.calls a1_0 a1_1 a1_2 a1_3 a1_4 a1_5 a1_6 _ _ l1_7 _ _ l1_8 true _ ?side1 ?side2 ?side3 ?side4 A240.out).mono ?_); (case side1 => exact C_now HR1_7.out); (case side2 => exact HC1_7.out); (case side3 => exact C_now HR1_8.out); (case side4 => exact HC1_8.out); rintro e w276 ⟨rfl, hb⟩; refine ⟨_, rfl, ?_⟩; replace HB := bel_on w hb; replace BK260 := blk_on gb260 hb; replace BK261 := blk_on gb261 hb; replace BK262 := blk_on gb262 hb; (try clear hb); have hcz277 := cells9 BK261.out) | (go_at_call 82; (with_reducible refine (impl_Layer_isBare.calls a1_0 a1_1 a1_2 a1_3 a1_4 a1_5 a1_6 _ _ l1_7 _ _ l1_8 false _ ?side1 ?side2 ?side3 ?side4 A242.out).mono ?_); (case side1 => exact C_now HR1_7.out); (case side2 => exact HC1_7.out); (case side3 => exact C_now HR1_8.out); (case side4 => exact HC1_8.out); rintro e w278 ⟨rfl, hb⟩; replace HB := bel_on w hb; replace BK260 := blk_on gb260 hb; replace BK261 := blk_on gb261 hb; replace BK262 := blk_on gb262 hb; (try clear hb); have hn279 := ne2 NB262_260; have hcz280 := cells3 BK262.out))
     refine bodyPost_ret (results_ct rfl _ _ gb262 29 #[.int .i64 0, .int .i64 0, .int .i64 0] (0, 0) _ rfl (blk_fars (puts3 BK262.out)) Tryd.underlying29 rfl (by kernel_rfl)) rfl ?_
     exact ⟨eqN, bel_now⟩
    subst c243
    rw [if_pos rfl] at H
    by_cases c244 : a1_6 = 0
    rotate_left
    ·rw [if_neg c244] at H
     have c244b0 : (a1_6 == 0) = false := beq_eq_false_iff_ne.mpr c244
     have c244b1 : (a1_6 != 0) = true := bne_iff_ne.mpr c244
     simp only [Option.some.injEq, Prod.mk.injEq] at H
     obtain ⟨rfl, rfl, rfl, rfl⟩ := H
     have hn264 := ne2 NB261_260
     have hn265 := ne2 NB261_262
     have hcz266 := cells9 BK261.out
     go_wp2_with (first | ((with_reducible refine gate_callee (f := 78) rfl ?_); refine goesM (some 96) rfl rfl Tryd.func78 (by kernel_rfl) rfl #[.agg #[.int .i64 a1_0, .int .i64 a1_1, .int .i64 a1_2, .int .i64 a1_3, .int .i64 a1_4, .int .i64 a1_5, .int .i64 a1_6, .slice A1_7 l1_7.length c1_7, .slice A1_8 l1_8.length c1_8]] rfl ?_; (with_reducible refine (impl_Layer_hasNone.calls a1_0 a1_1 a1_2 a1_3 a1_4 a1_5 a1_6 _ _ l1_7 _ _ l1_8 true _ ?side1 ?side2 ?side3 ?side4 A240.out).mono ?_); (case side1 => exact C_now HR1_7.out); (case side2 => exact HC1_7.out); (case side3 => exact C_now HR1_8.out); (case side4 => exact HC1_8.out); rintro e w267 ⟨rfl, hb⟩; refine ⟨_, rfl, ?_⟩; replace HB := bel_on w hb; replace BK260 := blk_on gb260 hb; replace BK261 := blk_on gb261 hb; replace BK262 := blk_on gb262 hb; (try clear hb); have hcz268 := cells9 BK261.out) | (go_at_call 82; (with_reducible refine (impl_Layer_isBare.calls a1_0 a1_1 a1_2 a1_3 a1_4 a1_5 a1_6 _ _ l1_7 _ _ l1_8 true _ ?side1 ?side2 ?side3 ?side4 A242.out).mono ?_); (case side1 => exact C_now HR1_7.out); (case side2 => exact HC1_7.out); (case side3 => exact C_now HR1_8.out); (case side4 => exact HC1_8.out); rintro e w269 ⟨rfl, hb⟩; replace HB := bel_on w hb; replace BK260 := blk_on gb260 hb; replace BK261 := blk_on gb261 hb; replace BK262 := blk_on gb262 hb; (try clear hb); have hcz270 := cells9 BK261.out; have hn271 := ne2 NB262_260; have hcz272 := cells3 BK262.out))
     refine bodyPost_ret (results_ct rfl _ _ gb262 29 #[.int .i64 0, .int .i64 0, .int .i64 0] (0, 0) _ rfl (blk_fars (puts3 BK262.out)) Tryd.underlying29 rfl (by kernel_rfl)) rfl ?_
     exact ⟨eqN, bel_now⟩
    rw [if_pos c244] at H
    have c244b0 : (a1_6 == 0) = true := beq_iff_eq.mpr c244
    have c244b1 : (a1_6 != 0) = false := bne_eq_false_iff_eq.mpr c244
    clear c244
    by_cases c245 : t264 ≤ 8
    ·rw [if_pos c245] at H
     have c245b0 : decide (t264 ≤ 8) = true := decide_eq_true c245
     clear c245
     simp only [Option.some.injEq, Prod.mk.injEq] at H
     obtain ⟨rfl, rfl, rfl, rfl⟩ := H
     have hn246 := ne2 NB261_260
     have hn247 := ne2 NB261_262
     have hcz248 := cells9 BK261.out
     go_wp2_with (first | ((with_reducible refine gate_callee (f := 78) rfl ?_); refine goesM (some 96) rfl rfl Tryd.func78 (by kernel_rfl) rfl #[.agg #[.int .i64 a1_0, .int .i64 a1_1, .int .i64 a1_2, .int .i64 a1_3, .int .i64 a1_4, .int .i64 a1_5, .int .i64 a1_6, .slice A1_7 l1_7.length c1_7, .slice A1_8 l1_8.length c1_8]] rfl ?_; (with_reducible refine (impl_Layer_hasNone.calls a1_0 a1_1 a1_2 a1_3 a1_4 a1_5 a1_6 _ _ l1_7 _ _ l1_8 true _ ?side1 ?side2 ?side3 ?side4 A240.out).mono ?_); (case side1 => exact C_now HR1_7.out); (case side2 => exact HC1_7.out); (case side3 => exact C_now HR1_8.out); (case side4 => exact HC1_8.out); rintro e w249 ⟨rfl, hb⟩; refine ⟨_, rfl, ?_⟩; replace HB := bel_on w hb; replace BK260 := blk_on gb260 hb; replace BK261 := blk_on gb261 hb; replace BK262 := blk_on gb262 hb; (try clear hb); have hcz250 := cells9 BK261.out) | (go_at_call 82; (with_reducible refine (impl_Layer_isBare.calls a1_0 a1_1 a1_2 a1_3 a1_4 a1_5 a1_6 _ _ l1_7 _ _ l1_8 true _ ?side1 ?side2 ?side3 ?side4 A242.out).mono ?_); (case side1 => exact C_now HR1_7.out); (case side2 => exact HC1_7.out); (case side3 => exact C_now HR1_8.out); (case side4 => exact HC1_8.out); rintro e w251 ⟨rfl, hb⟩; replace HB := bel_on w hb; replace BK260 := blk_on gb260 hb; replace BK261 := blk_on gb261 hb; replace BK262 := blk_on gb262 hb; (try clear hb); have hcz252 := cells9 BK261.out; have hn253 := ne2 NB262_260; have hcz254 := cells3 BK262.out))
     refine bodyPost_ret (results_ct rfl _ _ gb262 29 #[.int .i64 1, .int .i64 1, .int .i64 t264] (0, 0) _ rfl (blk_fars (puts3 BK262.out)) Tryd.underlying29 rfl (by kernel_rfl)) rfl ?_
     exact ⟨eqN, bel_now⟩
    rw [if_neg c245] at H
    have c245b0 : decide (t264 ≤ 8) = false := decide_eq_false c245
    clear c245
    simp only [Option.some.injEq, Prod.mk.injEq] at H
    obtain ⟨rfl, rfl, rfl, rfl⟩ := H
    have hn255 := ne2 NB261_260
    have hn256 := ne2 NB261_262
    have hcz257 := cells9 BK261.out
    go_wp2_with (first | ((with_reducible refine gate_callee (f := 78) rfl ?_); refine goesM (some 96) rfl rfl Tryd.func78 (by kernel_rfl) rfl #[.agg #[.int .i64 a1_0, .int .i64 a1_1, .int .i64 a1_2, .int .i64 a1_3, .int .i64 a1_4, .int .i64 a1_5, .int .i64 a1_6, .slice A1_7 l1_7.length c1_7, .slice A1_8 l1_8.length c1_8]] rfl ?_; (with_reducible refine (impl_Layer_hasNone.calls a1_0 a1_1 a1_2 a1_3 a1_4 a1_5 a1_6 _ _ l1_7 _ _ l1_8 true _ ?side1 ?side2 ?side3 ?side4 A240.out).mono ?_); (case side1 => exact C_now HR1_7.out); (case side2 => exact HC1_7.out); (case side3 => exact C_now HR1_8.out); (case side4 => exact HC1_8.out); rintro e w258 ⟨rfl, hb⟩; refine ⟨_, rfl, ?_⟩; replace HB := bel_on w hb; replace BK260 := blk_on gb260 hb; replace BK261 := blk_on gb261 hb; replace BK262 := blk_on gb262 hb; (try clear hb); have hcz259 := cells9 BK261.out) | (go_at_call 82; (with_reducible refine (impl_Layer_isBare.calls a1_0 a1_1 a1_2 a1_3 a1_4 a1_5 a1_6 _ _ l1_7 _ _ l1_8 true _ ?side1 ?side2 ?side3 ?side4 A242.out).mono ?_); (case side1 => exact C_now HR1_7.out); (case side2 => exact HC1_7.out); (case side3 => exact C_now HR1_8.out); (case side4 => exact HC1_8.out); rintro e w260 ⟨rfl, hb⟩; replace HB := bel_on w hb; replace BK260 := blk_on gb260 hb; replace BK261 := blk_on gb261 hb; replace BK262 := blk_on gb262 hb; (try clear hb); have hcz261 := cells9 BK261.out; have hn262 := ne2 NB262_260; have hcz263 := cells3 BK262.out))
    refine bodyPost_ret (results_ct rfl _ _ gb262 29 #[.int .i64 0, .int .i64 0, .int .i64 0] (0, 0) _ rfl (blk_fars (puts3 BK262.out)) Tryd.underlying29 rfl (by kernel_rfl)) rfl ?_
    exact ⟨eqN, bel_now⟩

end Go.Proofs.YtclpojeofclbjaaDoor.PFnExactModelText
