-- Printed by the session's own program (wip/myprint.py) for this claim out of the translation. Not trusted: Lean checks it.
import Derived.Test.YtclpojeofclbjaaPFnExactLeftOfx0
import Derived.Test.YtclpojeofclbjaaPFnExactLeftOfx12
import Derived.Test.YtclpojeofclbjaaPFnExactLeftOfx14
import Derived.Test.YtclpojeofclbjaaPFnExactLeftOfx16
namespace Go.Proofs.Ytclpojeofclbjaa.PFnExactLeftOf
open Go.RowKit Go.Proofs.YtclpojeofclbjaaW.PrintWords Go.Proofs.YtclpojeofclbjaaW.PrintLast Go.Proofs.YtclpojeofclbjaaW.PrintMore
attribute [local go_sem] max2_int min2_int max_two min_two max_three min_three max_four min_four   -- for this text's walks alone
set_option linter.unusedVariables false
set_option linter.unusedSimpArgs false

/-! ### impl_CostOf: function 33 -/
def impl_CostOf.f (k : Nat) (a0_0 : Int) (a0_1 : Int) (a0_2 : Int) (a1_0 : Int) (a1_1 : Int) (a1_2 : Int) (a1_3 : Int) (a1_4 : Int) (a1_5 : Int) (a1_6 : Int) (l1_7 : List Int) (l1_8 : List Int) : Option (Int) := (impl_OutShape.f k a0_0 a0_1 a0_2 a1_0 a1_1 a1_2 a1_3 a1_4 a1_5 a1_6 l1_7 l1_8).bind fun bt371 => (if bt371.2.2.2 = true then ((impl_SizeOf.f a0_0 a0_1 a0_2).bind fun t376 => (if a1_0 = 0 then ((impl_SizeOf.f bt371.1 bt371.2.1 bt371.2.2.1).bind fun t377 => (some (wrap64 (1 + (wrap64 (Int.tdiv (wrap64 (t376 * t377)) 16)))))) else (if a1_0 = 1 then ((impl_SizeOf.f bt371.1 bt371.2.1 bt371.2.2.1).bind fun t378 => (some (wrap64 (1 + (wrap64 (Int.tdiv (wrap64 ((wrap64 ((wrap64 (t378 * a1_2)) * a1_2)) * a0_2)) 16)))))) else (if a1_0 = 2 then ((impl_SizeOf.f bt371.1 bt371.2.1 bt371.2.2.1).bind fun t379 => (some (wrap64 (1 + (wrap64 (Int.tdiv (wrap64 ((wrap64 (t379 * a1_2)) * a1_2)) 16)))))) else (if a1_0 = 3 then ((impl_SizeOf.f bt371.1 bt371.2.1 bt371.2.2.1).bind fun t380 => (some (wrap64 (1 + (wrap64 (Int.tdiv (wrap64 ((wrap64 (t380 * a1_2)) * a1_2)) 16)))))) else (some (wrap64 (1 + (wrap64 (Int.tdiv t376 16)))))))))) else (some 0))
def impl_CostOf.T9 : Bool × List (List Nat × List Nat) := (true, [([], []), ([0], [0]), ([], []), ([2], [2]), ([1, 3], [1, 3]), ([], []), ([5], [5]), ([4, 6], [4, 6]), ([], []), ([8], [8]), ([7, 9], [7, 9]), ([10, 1, 0, 1, 2, 3, 4, 5, 6, 7, 8, 9, 10], [10])])
def impl_CostOf.B9 : List Nat := [0, 1, 0, 4, 15, 0, 32, 127, 0, 256, 1023, 2047]
theorem impl_CostOf.tab9 : rtab .any (opsOf Try.f33 9) = impl_CostOf.T9 := by kernel_rfl
theorem impl_CostOf.bits9 : waitsOk impl_CostOf.T9.2 impl_CostOf.B9 = true := by kernel_rfl
def impl_CostOf.T12 : Bool × List (List Nat × List Nat) := (true, [([], []), ([0], [0]), ([], []), ([2], [2]), ([1, 3], [1, 3]), ([], []), ([5], [5]), ([4, 6], [4, 6]), ([7, 1, 0, 1, 2, 3, 4, 5, 6, 7], [7])])
def impl_CostOf.B12 : List Nat := [0, 1, 0, 4, 15, 0, 32, 127, 255]
theorem impl_CostOf.tab12 : rtab .any (opsOf Try.f33 12) = impl_CostOf.T12 := by kernel_rfl
theorem impl_CostOf.bits12 : waitsOk impl_CostOf.T12.2 impl_CostOf.B12 = true := by kernel_rfl
set_option maxHeartbeats 8000000 in
set_option maxRecDepth 100000 in
theorem impl_CostOf.calls (k : Nat) (a0_0 : Int) (a0_1 : Int) (a0_2 : Int) (a1_0 : Int) (a1_1 : Int) (a1_2 : Int) (a1_3 : Int) (a1_4 : Int) (a1_5 : Int) (a1_6 : Int) (A1_7 : Option Addr) (c1_7 : Nat) (l1_7 : List Int) (A1_8 : Option Addr) (c1_8 : Nat) (l1_8 : List Int) (r : Int) (w : World) (hr1_7 : Kd.C (Kd.int .i64) w A1_7 l1_7.length l1_7) (hc1_7 : l1_7.length ≤ c1_7) (hr1_8 : Kd.C (Kd.int .i64) w A1_8 l1_8.length l1_8) (hc1_8 : l1_8.length ≤ c1_8) (h : impl_CostOf.f k a0_0 a0_1 a0_2 a1_0 a1_1 a1_2 a1_3 a1_4 a1_5 a1_6 l1_7 l1_8 = some r) :
   Calls Try.prog 33 #[.agg #[.int .i64 a0_0, .int .i64 a0_1, .int .i64 a0_2], .agg #[.int .i64 a1_0, .int .i64 a1_1, .int .i64 a1_2, .int .i64 a1_3, .int .i64 a1_4, .int .i64 a1_5, .int .i64 a1_6, .slice A1_7 l1_7.length c1_7, .slice A1_8 l1_8.length c1_8]] w fun e w' => e = .returned (.int .i64 r) ∧ Below w.heap.size w w' := by
  have hu31 := Try.underlying31
  have hu37 := Try.underlying37
  have HR1_7 := Aside0.mk hr1_7
  have HC1_7 := Aside0.mk hc1_7
  clear hr1_7 hc1_7
  have HR1_8 := Aside0.mk hr1_8
  have HC1_8 := Aside0.mk hc1_8
  clear hr1_8 hc1_8
  have HB := Aside0.mk (Below.refl w.heap.size w)
  have H : ((impl_OutShape.f k a0_0 a0_1 a0_2 a1_0 a1_1 a1_2 a1_3 a1_4 a1_5 a1_6 l1_7 l1_8).bind fun bt371 => (if bt371.2.2.2 = true then ((impl_SizeOf.f a0_0 a0_1 a0_2).bind fun t376 => (if a1_0 = 0 then ((impl_SizeOf.f bt371.1 bt371.2.1 bt371.2.2.1).bind fun t377 => (some (wrap64 (1 + (wrap64 (Int.tdiv (wrap64 (t376 * t377)) 16)))))) else (if a1_0 = 1 then ((impl_SizeOf.f bt371.1 bt371.2.1 bt371.2.2.1).bind fun t378 => (some (wrap64 (1 + (wrap64 (Int.tdiv (wrap64 ((wrap64 ((wrap64 (t378 * a1_2)) * a1_2)) * a0_2)) 16)))))) else (if a1_0 = 2 then ((impl_SizeOf.f bt371.1 bt371.2.1 bt371.2.2.1).bind fun t379 => (some (wrap64 (1 + (wrap64 (Int.tdiv (wrap64 ((wrap64 (t379 * a1_2)) * a1_2)) 16)))))) else (if a1_0 = 3 then ((impl_SizeOf.f bt371.1 bt371.2.1 bt371.2.2.1).bind fun t380 => (some (wrap64 (1 + (wrap64 (Int.tdiv (wrap64 ((wrap64 (t380 * a1_2)) * a1_2)) 16)))))) else (some (wrap64 (1 + (wrap64 (Int.tdiv t376 16)))))))))) else (some 0))) = some r := h
  clear h
  replace H := Option.bind_eq_some_iff.mp H
  obtain ⟨⟨t371, t372, t373, t374⟩, A30, H⟩ := H
  (try dsimp only at H)
  have A3 := Aside0.mk A30
  clear A30
  by_cases c4 : t374 = true
  rotate_left
  ·replace c4 := Bool.eq_false_iff.mpr c4
   subst c4
   rw [if_neg (show ¬ (false = true) by decide)] at H
   obtain rfl := Option.some.inj H
   go_enter Try.func33, Try.ntmps33
   go_wp2_with (first | ((with_reducible refine gate_dst (N := 2) rfl ?_); refine boxM 2 #[.int .i64 a0_0, .int .i64 a0_1, .int .i64 a0_2] 31 ?_; intro gb369 hg w87 BK369 hb; replace HB := box_at w hb hg; obtain ⟨HB, GW369, GE369⟩ := HB; clear hb hg) | ((with_reducible refine gate_dst (N := 3) rfl ?_); refine boxM 3 #[.int .i64 a1_0, .int .i64 a1_1, .int .i64 a1_2, .int .i64 a1_3, .int .i64 a1_4, .int .i64 a1_5, .int .i64 a1_6, .slice A1_7 l1_7.length c1_7, .slice A1_8 l1_8.length c1_8] 37 ?_; intro gb370 hg w88 BK370 hb; replace HB := box_at w hb hg; obtain ⟨HB, GW370, GE370⟩ := HB; replace BK369 := box_on gb369 hb hg; obtain ⟨BK369, NB369_370, NB370_369⟩ := BK369; clear hb hg; have hn89 := ne2 NB369_370; have hcz90 := cells3 BK369.out; have hcz91 := cells9 BK370.out) | ((with_reducible refine gate_callee (f := 30) rfl ?_); refine goesM (some 11) rfl rfl Try.func30 (by kernel_rfl) rfl #[.agg #[.int .i64 a0_0, .int .i64 a0_1, .int .i64 a0_2], .agg #[.int .i64 a1_0, .int .i64 a1_1, .int .i64 a1_2, .int .i64 a1_3, .int .i64 a1_4, .int .i64 a1_5, .int .i64 a1_6, .slice A1_7 l1_7.length c1_7, .slice A1_8 l1_8.length c1_8]] rfl ?_; (with_reducible refine (impl_OutShape.calls k a0_0 a0_1 a0_2 a1_0 a1_1 a1_2 a1_3 a1_4 a1_5 a1_6 _ _ l1_7 _ _ l1_8 t371 t372 t373 false _ ?side1 ?side2 ?side3 ?side4 A3.out).mono ?_); (case side1 => exact C_now HR1_7.out); (case side2 => exact HC1_7.out); (case side3 => exact C_now HR1_8.out); (case side4 => exact HC1_8.out); rintro e w92 ⟨rfl, hb⟩; refine ⟨_, rfl, ?_⟩; replace HB := bel_on w hb; replace BK369 := blk_on gb369 hb; replace BK370 := blk_on gb370 hb; (try clear hb)) | ((with_reducible refine gate_dst (N := 5) rfl ?_); refine boxM 5 #[.int .i64 0, .int .i64 0, .int .i64 0] 31 ?_; intro gb375 hg w93 BK375 hb; replace HB := box_at w hb hg; obtain ⟨HB, GW375, GE375⟩ := HB; replace BK369 := box_on gb369 hb hg; obtain ⟨BK369, NB369_375, NB375_369⟩ := BK369; replace BK370 := box_on gb370 hb hg; obtain ⟨BK370, NB370_375, NB375_370⟩ := BK370; clear hb hg; have hn94 := ne2 NB375_369; have hn95 := ne2 NB375_370; have hcz96 := cells3 BK375.out))
   go_ret
   exact ⟨eqN, bel_now⟩
  subst c4
  rw [if_pos rfl] at H
  replace H := Option.bind_eq_some_iff.mp H
  obtain ⟨t376, A50, H⟩ := H
  (try dsimp only at H)
  have A5 := Aside0.mk A50
  clear A50
  by_cases c6 : a1_0 = 0
  ·rw [if_pos c6] at H
   have c6b0 : (a1_0 == 0) = true := beq_iff_eq.mpr c6
   have c6b1 : (a1_0 != 0) = false := bne_eq_false_iff_eq.mpr c6
   clear c6
   replace H := Option.bind_eq_some_iff.mp H
   obtain ⟨t377, A70, H⟩ := H
   (try dsimp only at H)
   have A7 := Aside0.mk A70
   clear A70
   obtain rfl := Option.some.inj H
   go_enter Try.func33, Try.ntmps33
   go_wp2_with (first | ((with_reducible refine gate_dst (N := 2) rfl ?_); refine boxM 2 #[.int .i64 a0_0, .int .i64 a0_1, .int .i64 a0_2] 31 ?_; intro gb369 hg w8 BK369 hb; replace HB := box_at w hb hg; obtain ⟨HB, GW369, GE369⟩ := HB; clear hb hg) | ((with_reducible refine gate_dst (N := 3) rfl ?_); refine boxM 3 #[.int .i64 a1_0, .int .i64 a1_1, .int .i64 a1_2, .int .i64 a1_3, .int .i64 a1_4, .int .i64 a1_5, .int .i64 a1_6, .slice A1_7 l1_7.length c1_7, .slice A1_8 l1_8.length c1_8] 37 ?_; intro gb370 hg w9 BK370 hb; replace HB := box_at w hb hg; obtain ⟨HB, GW370, GE370⟩ := HB; replace BK369 := box_on gb369 hb hg; obtain ⟨BK369, NB369_370, NB370_369⟩ := BK369; clear hb hg; have hn10 := ne2 NB369_370; have hcz11 := cells3 BK369.out; have hcz12 := cells9 BK370.out) | ((with_reducible refine gate_callee (f := 30) rfl ?_); refine goesM (some 11) rfl rfl Try.func30 (by kernel_rfl) rfl #[.agg #[.int .i64 a0_0, .int .i64 a0_1, .int .i64 a0_2], .agg #[.int .i64 a1_0, .int .i64 a1_1, .int .i64 a1_2, .int .i64 a1_3, .int .i64 a1_4, .int .i64 a1_5, .int .i64 a1_6, .slice A1_7 l1_7.length c1_7, .slice A1_8 l1_8.length c1_8]] rfl ?_; (with_reducible refine (impl_OutShape.calls k a0_0 a0_1 a0_2 a1_0 a1_1 a1_2 a1_3 a1_4 a1_5 a1_6 _ _ l1_7 _ _ l1_8 t371 t372 t373 true _ ?side1 ?side2 ?side3 ?side4 A3.out).mono ?_); (case side1 => exact C_now HR1_7.out); (case side2 => exact HC1_7.out); (case side3 => exact C_now HR1_8.out); (case side4 => exact HC1_8.out); rintro e w13 ⟨rfl, hb⟩; refine ⟨_, rfl, ?_⟩; replace HB := bel_on w hb; replace BK369 := blk_on gb369 hb; replace BK370 := blk_on gb370 hb; (try clear hb)) | ((with_reducible refine gate_dst (N := 5) rfl ?_); refine boxM 5 #[.int .i64 0, .int .i64 0, .int .i64 0] 31 ?_; intro gb375 hg w14 BK375 hb; replace HB := box_at w hb hg; obtain ⟨HB, GW375, GE375⟩ := HB; replace BK369 := box_on gb369 hb hg; obtain ⟨BK369, NB369_375, NB375_369⟩ := BK369; replace BK370 := box_on gb370 hb hg; obtain ⟨BK370, NB370_375, NB375_370⟩ := BK370; clear hb hg; have hn15 := ne2 NB375_369; have hn16 := ne2 NB375_370; have hcz17 := cells3 BK375.out; have hcz18 := cells3 BK369.out) | ((with_reducible refine gate_callee (f := 64) rfl ?_); refine goesM (some 17) rfl rfl Try.func64 (by kernel_rfl) rfl #[.agg #[.int .i64 a0_0, .int .i64 a0_1, .int .i64 a0_2]] rfl ?_; (with_reducible refine (impl_SizeOf.calls a0_0 a0_1 a0_2 t376 _ A5.out).mono ?_); rintro e w19 ⟨rfl, hb⟩; refine ⟨_, rfl, ?_⟩; replace HB := bel_on w hb; replace BK369 := Aside0.mk (blk_below (g := gb369) (o := .cells #[.int .i64 a0_0, .int .i64 a0_1, .int .i64 a0_2] 31 (0, 0)) (blk_fars BK369.out) hb); replace BK370 := Aside0.mk (blk_below (g := gb370) (o := .cells #[.int .i64 a1_0, .int .i64 a1_1, .int .i64 a1_2, .int .i64 a1_3, .int .i64 a1_4, .int .i64 a1_5, .int .i64 a1_6, .slice A1_7 l1_7.length c1_7, .slice A1_8 l1_8.length c1_8] 37 (0, 0)) (blk_fars BK370.out) hb); replace BK375 := Aside0.mk (blk_below (g := gb375) (o := .cells #[.int .i64 t371, .int .i64 t372, .int .i64 t373] 31 (0, 0)) (blk_fars (puts3 BK375.out)) hb); (try clear hb); have hcz20 := cells9 BK370.out; have hcz21 := cells3 BK375.out) | ((with_reducible refine gate_callee (f := 64) rfl ?_); refine goesM (some 24) rfl rfl Try.func64 (by kernel_rfl) rfl #[.agg #[.int .i64 t371, .int .i64 t372, .int .i64 t373]] rfl ?_; (with_reducible refine (impl_SizeOf.calls t371 t372 t373 t377 _ A7.out).mono ?_); rintro e w22 ⟨rfl, hb⟩; refine ⟨_, rfl, ?_⟩; replace HB := bel_on w hb; replace BK369 := blk_on gb369 hb; replace BK370 := blk_on gb370 hb; replace BK375 := blk_on gb375 hb; (try clear hb)))
   go_ret
   exact ⟨eqN, bel_now⟩
  rw [if_neg c6] at H
  have c6b0 : (a1_0 == 0) = false := beq_eq_false_iff_ne.mpr c6
  have c6b1 : (a1_0 != 0) = true := bne_iff_ne.mpr c6
  by_cases c23 : a1_0 = 1
  ·rw [if_pos c23] at H
   have c23b0 : (a1_0 == 1) = true := beq_iff_eq.mpr c23
   have c23b1 : (a1_0 != 1) = false := bne_eq_false_iff_eq.mpr c23
   clear c23
   replace H := Option.bind_eq_some_iff.mp H
   obtain ⟨t378, A240, H⟩ := H
   (try dsimp only at H)
   have A24 := Aside0.mk A240
   clear A240
   obtain rfl := Option.some.inj H
   go_enter Try.func33, Try.ntmps33
   try go_wp2_with (first | ((with_reducible refine gate_dst (N := 2) rfl ?_); refine boxM 2 #[.int .i64 a0_0, .int .i64 a0_1, .int .i64 a0_2] 31 ?_; intro gb369 hg w25 BK369 hb; replace HB := box_at w hb hg; obtain ⟨HB, GW369, GE369⟩ := HB; clear hb hg) | ((with_reducible refine gate_dst (N := 3) rfl ?_); refine boxM 3 #[.int .i64 a1_0, .int .i64 a1_1, .int .i64 a1_2, .int .i64 a1_3, .int .i64 a1_4, .int .i64 a1_5, .int .i64 a1_6, .slice A1_7 l1_7.length c1_7, .slice A1_8 l1_8.length c1_8] 37 ?_; intro gb370 hg w26 BK370 hb; replace HB := box_at w hb hg; obtain ⟨HB, GW370, GE370⟩ := HB; replace BK369 := box_on gb369 hb hg; obtain ⟨BK369, NB369_370, NB370_369⟩ := BK369; clear hb hg; have hn27 := ne2 NB369_370; have hcz28 := cells3 BK369.out; have hcz29 := cells9 BK370.out) | ((with_reducible refine gate_callee (f := 30) rfl ?_); refine goesM (some 11) rfl rfl Try.func30 (by kernel_rfl) rfl #[.agg #[.int .i64 a0_0, .int .i64 a0_1, .int .i64 a0_2], .agg #[.int .i64 a1_0, .int .i64 a1_1, .int .i64 a1_2, .int .i64 a1_3, .int .i64 a1_4, .int .i64 a1_5, .int .i64 a1_6, .slice A1_7 l1_7.length c1_7, .slice A1_8 l1_8.length c1_8]] rfl ?_; (with_reducible refine (impl_OutShape.calls k a0_0 a0_1 a0_2 a1_0 a1_1 a1_2 a1_3 a1_4 a1_5 a1_6 _ _ l1_7 _ _ l1_8 t371 t372 t373 true _ ?side1 ?side2 ?side3 ?side4 A3.out).mono ?_); (case side1 => exact C_now HR1_7.out); (case side2 => exact HC1_7.out); (case side3 => exact C_now HR1_8.out); (case side4 => exact HC1_8.out); rintro e w30 ⟨rfl, hb⟩; refine ⟨_, rfl, ?_⟩; replace HB := bel_on w hb; replace BK369 := blk_on gb369 hb; replace BK370 := blk_on gb370 hb; (try clear hb)) | ((with_reducible refine gate_dst (N := 5) rfl ?_); refine boxM 5 #[.int .i64 0, .int .i64 0, .int .i64 0] 31 ?_; intro gb375 hg w31 BK375 hb; replace HB := box_at w hb hg; obtain ⟨HB, GW375, GE375⟩ := HB; replace BK369 := box_on gb369 hb hg; obtain ⟨BK369, NB369_375, NB375_369⟩ := BK369; replace BK370 := box_on gb370 hb hg; obtain ⟨BK370, NB370_375, NB375_370⟩ := BK370; clear hb hg; have hn32 := ne2 NB375_369; have hn33 := ne2 NB375_370; have hcz34 := cells3 BK375.out; have hcz35 := cells3 BK369.out) | ((with_reducible refine gate_callee (f := 64) rfl ?_); refine goesM (some 17) rfl rfl Try.func64 (by kernel_rfl) rfl #[.agg #[.int .i64 a0_0, .int .i64 a0_1, .int .i64 a0_2]] rfl ?_; (with_reducible refine (impl_SizeOf.calls a0_0 a0_1 a0_2 t376 _ A5.out).mono ?_); rintro e w36 ⟨rfl, hb⟩; refine ⟨_, rfl, ?_⟩; replace HB := bel_on w hb; replace BK369 := Aside0.mk (blk_below (g := gb369) (o := .cells #[.int .i64 a0_0, .int .i64 a0_1, .int .i64 a0_2] 31 (0, 0)) (blk_fars BK369.out) hb); replace BK370 := Aside0.mk (blk_below (g := gb370) (o := .cells #[.int .i64 a1_0, .int .i64 a1_1, .int .i64 a1_2, .int .i64 a1_3, .int .i64 a1_4, .int .i64 a1_5, .int .i64 a1_6, .slice A1_7 l1_7.length c1_7, .slice A1_8 l1_8.length c1_8] 37 (0, 0)) (blk_fars BK370.out) hb); replace BK375 := Aside0.mk (blk_below (g := gb375) (o := .cells #[.int .i64 t371, .int .i64 t372, .int .i64 t373] 31 (0, 0)) (blk_fars (puts3 BK375.out)) hb); (try clear hb); have hcz37 := cells9 BK370.out))
   replace BK369 := Aside0.mk (blk_drew BK369.out)
   replace BK370 := Aside0.mk (blk_drew BK370.out)
   replace BK375 := Aside0.mk (blk_drew BK375.out)
   replace HB := Aside0.mk (below_drew1 HB.out)
   refine start_ (n := 12) (S := fun w' => w'.cell? ⟨gb375, 0, none⟩ = some (.int .i64 t371) ∧ w'.cell? ⟨gb375, 1, none⟩ = some (.int .i64 t372) ∧ w'.cell? ⟨gb375, 2, none⟩ = some (.int .i64 t373) ∧ w'.cell? ⟨gb370, 0, none⟩ = some (.int .i64 a1_0) ∧ w'.cell? ⟨gb370, 1, none⟩ = some (.int .i64 a1_1) ∧ w'.cell? ⟨gb370, 2, none⟩ = some (.int .i64 a1_2) ∧ w'.cell? ⟨gb370, 3, none⟩ = some (.int .i64 a1_3) ∧ w'.cell? ⟨gb370, 4, none⟩ = some (.int .i64 a1_4) ∧ w'.cell? ⟨gb370, 5, none⟩ = some (.int .i64 a1_5) ∧ w'.cell? ⟨gb370, 6, none⟩ = some (.int .i64 a1_6) ∧ w'.cell? ⟨gb370, 7, none⟩ = some (.slice A1_7 l1_7.length c1_7) ∧ w'.cell? ⟨gb370, 8, none⟩ = some (.slice A1_8 l1_8.length c1_8) ∧ w'.cell? ⟨gb369, 0, none⟩ = some (.int .i64 a0_0) ∧ w'.cell? ⟨gb369, 1, none⟩ = some (.int .i64 a0_1) ∧ w'.cell? ⟨gb369, 2, none⟩ = some (.int .i64 a0_2)) (ds := []) #[O, O, O, O, O, O, O, O, O, O, O, O] (by kernel_rfl) rfl rfl ⟨bc BK375 0, bc BK375 1, bc BK375 2, bc BK370 0, bc BK370 1, bc BK370 2, bc BK370 3, bc BK370 4, bc BK370 5, bc BK370 6, bc BK370 7, bc BK370 8, bc BK369 0, bc BK369 1, bc BK369 2⟩ (fun hHeld => ?_); refine with_tabW impl_CostOf.tab9 impl_CostOf.bits9 (fun HT_ HW_ => ?_)
   generalize w36.drew = w38 at BK369 BK370 BK375 HB hHeld ⊢
   refine stepP 2 (some 30) (tk 12 4) (any_of HT_.out (by kernel_rfl)) ?_
   refine stepP 5 (some 33) (tk 12 36) (any_of HT_.out (by kernel_rfl)) ?_
   refine stepP 8 (some 36) (tk 12 292) (any_of HT_.out (by kernel_rfl)) ?_
   refine stepT 0 (some 28) (tk 12 293) (take_ofW HT_.out HW_.out (by kernel_rfl)) hHeld ?_
   refine stepT 3 (some 31) (tk 12 301) (take_ofW HT_.out HW_.out (by kernel_rfl)) hHeld ?_
   refine stepT 6 (some 34) (tk 12 365) (take_ofW HT_.out HW_.out (by kernel_rfl)) hHeld ?_
   refine stepT 9 (some 37) (tk 12 877) (take_ofW HT_.out HW_.out (by kernel_rfl)) hHeld ?_
   refine one_ (i := 1) (N := some 29) #[I, I, I, I, O, I, I, O, I, I, O, O] rfl rfl (one_of HT_.out (by kernel_rfl)) (by decide) (fun K hK => ?_)
   refine goes_ Try.func64 (by kernel_rfl) rfl #[.agg #[.int .i64 t371, .int .i64 t372, .int .i64 t373]] (by rfl) rfl rfl (by (try simp only [List.map_toArray, List.map_cons, List.map_nil]); first | done | rfl | (simp only [List.length_drop, List.length_take]; rfl)) ?_
   with_reducible refine (impl_SizeOf.calls t371 t372 t373 t378 _ A24.out).mono ?_
   rintro e w39 ⟨rfl, hb⟩
   refine ⟨_, rfl, ?_⟩
   replace BK369 := blk_on gb369 hb
   replace BK370 := blk_on gb370 hb
   replace BK375 := blk_on gb375 hb
   replace HB := bel_on w hb
   (try clear hb)
   refine hK.out _ _ ⟨bc BK375 0, bc BK375 1, bc BK375 2, bc BK370 0, bc BK370 1, bc BK370 2, bc BK370 3, bc BK370 4, bc BK370 5, bc BK370 6, bc BK370 7, bc BK370 8, bc BK369 0, bc BK369 1, bc BK369 2⟩ (fun hHeld => ?_)
   clear hK K
   refine normP 29 ?_
   refine stepP 4 (some 32) (tk 12 895) (any_of HT_.out (by kernel_rfl)) ?_
   refine stepP 7 (some 35) (tk 12 1023) (any_of HT_.out (by kernel_rfl)) ?_
   refine stepP 10 (some 38) (tk 12 2047) (any_of HT_.out (by kernel_rfl)) ?_
   refine stepP 11 (some 7) (tk 12 4095) (any_of HT_.out (by kernel_rfl)) ?_
   refine done_ (done_of HT_.out (by kernel_rfl)) ?_
   try go_wp2
   go_ret
   exact ⟨eqN, bel_now⟩
  rw [if_neg c23] at H
  have c23b0 : (a1_0 == 1) = false := beq_eq_false_iff_ne.mpr c23
  have c23b1 : (a1_0 != 1) = true := bne_iff_ne.mpr c23
  by_cases c40 : a1_0 = 2
  ·rw [if_pos c40] at H
   have c40b0 : (a1_0 == 2) = true := beq_iff_eq.mpr c40
   have c40b1 : (a1_0 != 2) = false := bne_eq_false_iff_eq.mpr c40
   clear c40
   replace H := Option.bind_eq_some_iff.mp H
   obtain ⟨t379, A410, H⟩ := H
   (try dsimp only at H)
   have A41 := Aside0.mk A410
   clear A410
   obtain rfl := Option.some.inj H
   go_enter Try.func33, Try.ntmps33
   try go_wp2_with (first | ((with_reducible refine gate_dst (N := 2) rfl ?_); refine boxM 2 #[.int .i64 a0_0, .int .i64 a0_1, .int .i64 a0_2] 31 ?_; intro gb369 hg w42 BK369 hb; replace HB := box_at w hb hg; obtain ⟨HB, GW369, GE369⟩ := HB; clear hb hg) | ((with_reducible refine gate_dst (N := 3) rfl ?_); refine boxM 3 #[.int .i64 a1_0, .int .i64 a1_1, .int .i64 a1_2, .int .i64 a1_3, .int .i64 a1_4, .int .i64 a1_5, .int .i64 a1_6, .slice A1_7 l1_7.length c1_7, .slice A1_8 l1_8.length c1_8] 37 ?_; intro gb370 hg w43 BK370 hb; replace HB := box_at w hb hg; obtain ⟨HB, GW370, GE370⟩ := HB; replace BK369 := box_on gb369 hb hg; obtain ⟨BK369, NB369_370, NB370_369⟩ := BK369; clear hb hg; have hn44 := ne2 NB369_370; have hcz45 := cells3 BK369.out; have hcz46 := cells9 BK370.out) | ((with_reducible refine gate_callee (f := 30) rfl ?_); refine goesM (some 11) rfl rfl Try.func30 (by kernel_rfl) rfl #[.agg #[.int .i64 a0_0, .int .i64 a0_1, .int .i64 a0_2], .agg #[.int .i64 a1_0, .int .i64 a1_1, .int .i64 a1_2, .int .i64 a1_3, .int .i64 a1_4, .int .i64 a1_5, .int .i64 a1_6, .slice A1_7 l1_7.length c1_7, .slice A1_8 l1_8.length c1_8]] rfl ?_; (with_reducible refine (impl_OutShape.calls k a0_0 a0_1 a0_2 a1_0 a1_1 a1_2 a1_3 a1_4 a1_5 a1_6 _ _ l1_7 _ _ l1_8 t371 t372 t373 true _ ?side1 ?side2 ?side3 ?side4 A3.out).mono ?_); (case side1 => exact C_now HR1_7.out); (case side2 => exact HC1_7.out); (case side3 => exact C_now HR1_8.out); (case side4 => exact HC1_8.out); rintro e w47 ⟨rfl, hb⟩; refine ⟨_, rfl, ?_⟩; replace HB := bel_on w hb; replace BK369 := blk_on gb369 hb; replace BK370 := blk_on gb370 hb; (try clear hb)) | ((with_reducible refine gate_dst (N := 5) rfl ?_); refine boxM 5 #[.int .i64 0, .int .i64 0, .int .i64 0] 31 ?_; intro gb375 hg w48 BK375 hb; replace HB := box_at w hb hg; obtain ⟨HB, GW375, GE375⟩ := HB; replace BK369 := box_on gb369 hb hg; obtain ⟨BK369, NB369_375, NB375_369⟩ := BK369; replace BK370 := box_on gb370 hb hg; obtain ⟨BK370, NB370_375, NB375_370⟩ := BK370; clear hb hg; have hn49 := ne2 NB375_369; have hn50 := ne2 NB375_370; have hcz51 := cells3 BK375.out; have hcz52 := cells3 BK369.out) | ((with_reducible refine gate_callee (f := 64) rfl ?_); refine goesM (some 17) rfl rfl Try.func64 (by kernel_rfl) rfl #[.agg #[.int .i64 a0_0, .int .i64 a0_1, .int .i64 a0_2]] rfl ?_; (with_reducible refine (impl_SizeOf.calls a0_0 a0_1 a0_2 t376 _ A5.out).mono ?_); rintro e w53 ⟨rfl, hb⟩; refine ⟨_, rfl, ?_⟩; replace HB := bel_on w hb; replace BK369 := Aside0.mk (blk_below (g := gb369) (o := .cells #[.int .i64 a0_0, .int .i64 a0_1, .int .i64 a0_2] 31 (0, 0)) (blk_fars BK369.out) hb); replace BK370 := Aside0.mk (blk_below (g := gb370) (o := .cells #[.int .i64 a1_0, .int .i64 a1_1, .int .i64 a1_2, .int .i64 a1_3, .int .i64 a1_4, .int .i64 a1_5, .int .i64 a1_6, .slice A1_7 l1_7.length c1_7, .slice A1_8 l1_8.length c1_8] 37 (0, 0)) (blk_fars BK370.out) hb); replace BK375 := Aside0.mk (blk_below (g := gb375) (o := .cells #[.int .i64 t371, .int .i64 t372, .int .i64 t373] 31 (0, 0)) (blk_fars (puts3 BK375.out)) hb); (try clear hb); have hcz54 := cells9 BK370.out))
   replace BK369 := Aside0.mk (blk_drew BK369.out)
   replace BK370 := Aside0.mk (blk_drew BK370.out)
   replace BK375 := Aside0.mk (blk_drew BK375.out)
   replace HB := Aside0.mk (below_drew1 HB.out)
   refine start_ (n := 9) (S := fun w' => w'.cell? ⟨gb375, 0, none⟩ = some (.int .i64 t371) ∧ w'.cell? ⟨gb375, 1, none⟩ = some (.int .i64 t372) ∧ w'.cell? ⟨gb375, 2, none⟩ = some (.int .i64 t373) ∧ w'.cell? ⟨gb370, 0, none⟩ = some (.int .i64 a1_0) ∧ w'.cell? ⟨gb370, 1, none⟩ = some (.int .i64 a1_1) ∧ w'.cell? ⟨gb370, 2, none⟩ = some (.int .i64 a1_2) ∧ w'.cell? ⟨gb370, 3, none⟩ = some (.int .i64 a1_3) ∧ w'.cell? ⟨gb370, 4, none⟩ = some (.int .i64 a1_4) ∧ w'.cell? ⟨gb370, 5, none⟩ = some (.int .i64 a1_5) ∧ w'.cell? ⟨gb370, 6, none⟩ = some (.int .i64 a1_6) ∧ w'.cell? ⟨gb370, 7, none⟩ = some (.slice A1_7 l1_7.length c1_7) ∧ w'.cell? ⟨gb370, 8, none⟩ = some (.slice A1_8 l1_8.length c1_8)) (ds := []) #[O, O, O, O, O, O, O, O, O] (by kernel_rfl) rfl rfl ⟨bc BK375 0, bc BK375 1, bc BK375 2, bc BK370 0, bc BK370 1, bc BK370 2, bc BK370 3, bc BK370 4, bc BK370 5, bc BK370 6, bc BK370 7, bc BK370 8⟩ (fun hHeld => ?_); refine with_tabW impl_CostOf.tab12 impl_CostOf.bits12 (fun HT_ HW_ => ?_)
   generalize w53.drew = w55 at BK369 BK370 BK375 HB hHeld ⊢
   refine stepP 2 (some 44) (tk 9 4) (any_of HT_.out (by kernel_rfl)) ?_
   refine stepP 5 (some 47) (tk 9 36) (any_of HT_.out (by kernel_rfl)) ?_
   refine stepT 0 (some 42) (tk 9 37) (take_ofW HT_.out HW_.out (by kernel_rfl)) hHeld ?_
   refine stepT 3 (some 45) (tk 9 45) (take_ofW HT_.out HW_.out (by kernel_rfl)) hHeld ?_
   refine stepT 6 (some 48) (tk 9 109) (take_ofW HT_.out HW_.out (by kernel_rfl)) hHeld ?_
   refine one_ (i := 1) (N := some 43) #[I, I, I, I, O, I, I, O, O] rfl rfl (one_of HT_.out (by kernel_rfl)) (by decide) (fun K hK => ?_)
   refine goes_ Try.func64 (by kernel_rfl) rfl #[.agg #[.int .i64 t371, .int .i64 t372, .int .i64 t373]] (by rfl) rfl rfl (by (try simp only [List.map_toArray, List.map_cons, List.map_nil]); first | done | rfl | (simp only [List.length_drop, List.length_take]; rfl)) ?_
   with_reducible refine (impl_SizeOf.calls t371 t372 t373 t379 _ A41.out).mono ?_
   rintro e w56 ⟨rfl, hb⟩
   refine ⟨_, rfl, ?_⟩
   replace BK369 := blk_on gb369 hb
   replace BK370 := blk_on gb370 hb
   replace BK375 := blk_on gb375 hb
   replace HB := bel_on w hb
   (try clear hb)
   refine hK.out _ _ ⟨bc BK375 0, bc BK375 1, bc BK375 2, bc BK370 0, bc BK370 1, bc BK370 2, bc BK370 3, bc BK370 4, bc BK370 5, bc BK370 6, bc BK370 7, bc BK370 8⟩ (fun hHeld => ?_)
   clear hK K
   refine normP 43 ?_
   refine stepP 4 (some 46) (tk 9 127) (any_of HT_.out (by kernel_rfl)) ?_
   refine stepP 7 (some 49) (tk 9 255) (any_of HT_.out (by kernel_rfl)) ?_
   refine stepP 8 (some 7) (tk 9 511) (any_of HT_.out (by kernel_rfl)) ?_
   refine done_ (done_of HT_.out (by kernel_rfl)) ?_
   try go_wp2
   go_ret
   exact ⟨eqN, bel_now⟩
  rw [if_neg c40] at H
  have c40b0 : (a1_0 == 2) = false := beq_eq_false_iff_ne.mpr c40
  have c40b1 : (a1_0 != 2) = true := bne_iff_ne.mpr c40
  by_cases c57 : a1_0 = 3
  rotate_left
  ·rw [if_neg c57] at H
   have c57b0 : (a1_0 == 3) = false := beq_eq_false_iff_ne.mpr c57
   have c57b1 : (a1_0 != 3) = true := bne_iff_ne.mpr c57
   obtain rfl := Option.some.inj H
   go_enter Try.func33, Try.ntmps33
   go_wp2_with (first | ((with_reducible refine gate_dst (N := 2) rfl ?_); refine boxM 2 #[.int .i64 a0_0, .int .i64 a0_1, .int .i64 a0_2] 31 ?_; intro gb369 hg w74 BK369 hb; replace HB := box_at w hb hg; obtain ⟨HB, GW369, GE369⟩ := HB; clear hb hg) | ((with_reducible refine gate_dst (N := 3) rfl ?_); refine boxM 3 #[.int .i64 a1_0, .int .i64 a1_1, .int .i64 a1_2, .int .i64 a1_3, .int .i64 a1_4, .int .i64 a1_5, .int .i64 a1_6, .slice A1_7 l1_7.length c1_7, .slice A1_8 l1_8.length c1_8] 37 ?_; intro gb370 hg w75 BK370 hb; replace HB := box_at w hb hg; obtain ⟨HB, GW370, GE370⟩ := HB; replace BK369 := box_on gb369 hb hg; obtain ⟨BK369, NB369_370, NB370_369⟩ := BK369; clear hb hg; have hn76 := ne2 NB369_370; have hcz77 := cells3 BK369.out; have hcz78 := cells9 BK370.out) | ((with_reducible refine gate_callee (f := 30) rfl ?_); refine goesM (some 11) rfl rfl Try.func30 (by kernel_rfl) rfl #[.agg #[.int .i64 a0_0, .int .i64 a0_1, .int .i64 a0_2], .agg #[.int .i64 a1_0, .int .i64 a1_1, .int .i64 a1_2, .int .i64 a1_3, .int .i64 a1_4, .int .i64 a1_5, .int .i64 a1_6, .slice A1_7 l1_7.length c1_7, .slice A1_8 l1_8.length c1_8]] rfl ?_; (with_reducible refine (impl_OutShape.calls k a0_0 a0_1 a0_2 a1_0 a1_1 a1_2 a1_3 a1_4 a1_5 a1_6 _ _ l1_7 _ _ l1_8 t371 t372 t373 true _ ?side1 ?side2 ?side3 ?side4 A3.out).mono ?_); (case side1 => exact C_now HR1_7.out); (case side2 => exact HC1_7.out); (case side3 => exact C_now HR1_8.out); (case side4 => exact HC1_8.out); rintro e w79 ⟨rfl, hb⟩; refine ⟨_, rfl, ?_⟩; replace HB := bel_on w hb; replace BK369 := blk_on gb369 hb; replace BK370 := blk_on gb370 hb; (try clear hb)) | ((with_reducible refine gate_dst (N := 5) rfl ?_); refine boxM 5 #[.int .i64 0, .int .i64 0, .int .i64 0] 31 ?_; intro gb375 hg w80 BK375 hb; replace HB := box_at w hb hg; obtain ⟨HB, GW375, GE375⟩ := HB; replace BK369 := box_on gb369 hb hg; obtain ⟨BK369, NB369_375, NB375_369⟩ := BK369; replace BK370 := box_on gb370 hb hg; obtain ⟨BK370, NB370_375, NB375_370⟩ := BK370; clear hb hg; have hn81 := ne2 NB375_369; have hn82 := ne2 NB375_370; have hcz83 := cells3 BK375.out; have hcz84 := cells3 BK369.out) | ((with_reducible refine gate_callee (f := 64) rfl ?_); refine goesM (some 17) rfl rfl Try.func64 (by kernel_rfl) rfl #[.agg #[.int .i64 a0_0, .int .i64 a0_1, .int .i64 a0_2]] rfl ?_; (with_reducible refine (impl_SizeOf.calls a0_0 a0_1 a0_2 t376 _ A5.out).mono ?_); rintro e w85 ⟨rfl, hb⟩; refine ⟨_, rfl, ?_⟩; replace HB := bel_on w hb; replace BK369 := Aside0.mk (blk_below (g := gb369) (o := .cells #[.int .i64 a0_0, .int .i64 a0_1, .int .i64 a0_2] 31 (0, 0)) (blk_fars BK369.out) hb); replace BK370 := Aside0.mk (blk_below (g := gb370) (o := .cells #[.int .i64 a1_0, .int .i64 a1_1, .int .i64 a1_2, .int .i64 a1_3, .int .i64 a1_4, .int .i64 a1_5, .int .i64 a1_6, .slice A1_7 l1_7.length c1_7, .slice A1_8 l1_8.length c1_8] 37 (0, 0)) (blk_fars BK370.out) hb); replace BK375 := Aside0.mk (blk_below (g := gb375) (o := .cells #[.int .i64 t371, .int .i64 t372, .int .i64 t373] 31 (0, 0)) (blk_fars (puts3 BK375.out)) hb); (try clear hb); have hcz86 := cells9 BK370.out))
   go_ret
   exact ⟨eqN, bel_now⟩
  rw [if_pos c57] at H
  have c57b0 : (a1_0 == 3) = true := beq_iff_eq.mpr c57
  have c57b1 : (a1_0 != 3) = false := bne_eq_false_iff_eq.mpr c57
  clear c57
  replace H := Option.bind_eq_some_iff.mp H
  obtain ⟨t380, A580, H⟩ := H
  (try dsimp only at H)
  have A58 := Aside0.mk A580
  clear A580
  obtain rfl := Option.some.inj H
  go_enter Try.func33, Try.ntmps33
  try go_wp2_with (first | ((with_reducible refine gate_dst (N := 2) rfl ?_); refine boxM 2 #[.int .i64 a0_0, .int .i64 a0_1, .int .i64 a0_2] 31 ?_; intro gb369 hg w59 BK369 hb; replace HB := box_at w hb hg; obtain ⟨HB, GW369, GE369⟩ := HB; clear hb hg) | ((with_reducible refine gate_dst (N := 3) rfl ?_); refine boxM 3 #[.int .i64 a1_0, .int .i64 a1_1, .int .i64 a1_2, .int .i64 a1_3, .int .i64 a1_4, .int .i64 a1_5, .int .i64 a1_6, .slice A1_7 l1_7.length c1_7, .slice A1_8 l1_8.length c1_8] 37 ?_; intro gb370 hg w60 BK370 hb; replace HB := box_at w hb hg; obtain ⟨HB, GW370, GE370⟩ := HB; replace BK369 := box_on gb369 hb hg; obtain ⟨BK369, NB369_370, NB370_369⟩ := BK369; clear hb hg; have hn61 := ne2 NB369_370; have hcz62 := cells3 BK369.out; have hcz63 := cells9 BK370.out) | ((with_reducible refine gate_callee (f := 30) rfl ?_); refine goesM (some 11) rfl rfl Try.func30 (by kernel_rfl) rfl #[.agg #[.int .i64 a0_0, .int .i64 a0_1, .int .i64 a0_2], .agg #[.int .i64 a1_0, .int .i64 a1_1, .int .i64 a1_2, .int .i64 a1_3, .int .i64 a1_4, .int .i64 a1_5, .int .i64 a1_6, .slice A1_7 l1_7.length c1_7, .slice A1_8 l1_8.length c1_8]] rfl ?_; (with_reducible refine (impl_OutShape.calls k a0_0 a0_1 a0_2 a1_0 a1_1 a1_2 a1_3 a1_4 a1_5 a1_6 _ _ l1_7 _ _ l1_8 t371 t372 t373 true _ ?side1 ?side2 ?side3 ?side4 A3.out).mono ?_); (case side1 => exact C_now HR1_7.out); (case side2 => exact HC1_7.out); (case side3 => exact C_now HR1_8.out); (case side4 => exact HC1_8.out); rintro e w64 ⟨rfl, hb⟩; refine ⟨_, rfl, ?_⟩; replace HB := bel_on w hb; replace BK369 := blk_on gb369 hb; replace BK370 := blk_on gb370 hb; (try clear hb)) | ((with_reducible refine gate_dst (N := 5) rfl ?_); refine boxM 5 #[.int .i64 0, .int .i64 0, .int .i64 0] 31 ?_; intro gb375 hg w65 BK375 hb; replace HB := box_at w hb hg; obtain ⟨HB, GW375, GE375⟩ := HB; replace BK369 := box_on gb369 hb hg; obtain ⟨BK369, NB369_375, NB375_369⟩ := BK369; replace BK370 := box_on gb370 hb hg; obtain ⟨BK370, NB370_375, NB375_370⟩ := BK370; clear hb hg; have hn66 := ne2 NB375_369; have hn67 := ne2 NB375_370; have hcz68 := cells3 BK375.out; have hcz69 := cells3 BK369.out) | ((with_reducible refine gate_callee (f := 64) rfl ?_); refine goesM (some 17) rfl rfl Try.func64 (by kernel_rfl) rfl #[.agg #[.int .i64 a0_0, .int .i64 a0_1, .int .i64 a0_2]] rfl ?_; (with_reducible refine (impl_SizeOf.calls a0_0 a0_1 a0_2 t376 _ A5.out).mono ?_); rintro e w70 ⟨rfl, hb⟩; refine ⟨_, rfl, ?_⟩; replace HB := bel_on w hb; replace BK369 := Aside0.mk (blk_below (g := gb369) (o := .cells #[.int .i64 a0_0, .int .i64 a0_1, .int .i64 a0_2] 31 (0, 0)) (blk_fars BK369.out) hb); replace BK370 := Aside0.mk (blk_below (g := gb370) (o := .cells #[.int .i64 a1_0, .int .i64 a1_1, .int .i64 a1_2, .int .i64 a1_3, .int .i64 a1_4, .int .i64 a1_5, .int .i64 a1_6, .slice A1_7 l1_7.length c1_7, .slice A1_8 l1_8.length c1_8] 37 (0, 0)) (blk_fars BK370.out) hb); replace BK375 := Aside0.mk (blk_below (g := gb375) (o := .cells #[.int .i64 t371, .int .i64 t372, .int .i64 t373] 31 (0, 0)) (blk_fars (puts3 BK375.out)) hb); (try clear hb); have hcz71 := cells9 BK370.out))
  replace BK369 := Aside0.mk (blk_drew BK369.out)
  replace BK370 := Aside0.mk (blk_drew BK370.out)
  replace BK375 := Aside0.mk (blk_drew BK375.out)
  replace HB := Aside0.mk (below_drew1 HB.out)
  refine start_ (n := 9) (S := fun w' => w'.cell? ⟨gb375, 0, none⟩ = some (.int .i64 t371) ∧ w'.cell? ⟨gb375, 1, none⟩ = some (.int .i64 t372) ∧ w'.cell? ⟨gb375, 2, none⟩ = some (.int .i64 t373) ∧ w'.cell? ⟨gb370, 0, none⟩ = some (.int .i64 a1_0) ∧ w'.cell? ⟨gb370, 1, none⟩ = some (.int .i64 a1_1) ∧ w'.cell? ⟨gb370, 2, none⟩ = some (.int .i64 a1_2) ∧ w'.cell? ⟨gb370, 3, none⟩ = some (.int .i64 a1_3) ∧ w'.cell? ⟨gb370, 4, none⟩ = some (.int .i64 a1_4) ∧ w'.cell? ⟨gb370, 5, none⟩ = some (.int .i64 a1_5) ∧ w'.cell? ⟨gb370, 6, none⟩ = some (.int .i64 a1_6) ∧ w'.cell? ⟨gb370, 7, none⟩ = some (.slice A1_7 l1_7.length c1_7) ∧ w'.cell? ⟨gb370, 8, none⟩ = some (.slice A1_8 l1_8.length c1_8)) (ds := []) #[O, O, O, O, O, O, O, O, O] (by kernel_rfl) rfl rfl ⟨bc BK375 0, bc BK375 1, bc BK375 2, bc BK370 0, bc BK370 1, bc BK370 2, bc BK370 3, bc BK370 4, bc BK370 5, bc BK370 6, bc BK370 7, bc BK370 8⟩ (fun hHeld => ?_); refine with_tabW impl_CostOf.tab12 impl_CostOf.bits12 (fun HT_ HW_ => ?_)
  generalize w70.drew = w72 at BK369 BK370 BK375 HB hHeld ⊢
  refine stepP 2 (some 44) (tk 9 4) (any_of HT_.out (by kernel_rfl)) ?_
  refine stepP 5 (some 47) (tk 9 36) (any_of HT_.out (by kernel_rfl)) ?_
  refine stepT 0 (some 42) (tk 9 37) (take_ofW HT_.out HW_.out (by kernel_rfl)) hHeld ?_
  refine stepT 3 (some 45) (tk 9 45) (take_ofW HT_.out HW_.out (by kernel_rfl)) hHeld ?_
  refine stepT 6 (some 48) (tk 9 109) (take_ofW HT_.out HW_.out (by kernel_rfl)) hHeld ?_
  refine one_ (i := 1) (N := some 43) #[I, I, I, I, O, I, I, O, O] rfl rfl (one_of HT_.out (by kernel_rfl)) (by decide) (fun K hK => ?_)
  refine goes_ Try.func64 (by kernel_rfl) rfl #[.agg #[.int .i64 t371, .int .i64 t372, .int .i64 t373]] (by rfl) rfl rfl (by (try simp only [List.map_toArray, List.map_cons, List.map_nil]); first | done | rfl | (simp only [List.length_drop, List.length_take]; rfl)) ?_
  with_reducible refine (impl_SizeOf.calls t371 t372 t373 t380 _ A58.out).mono ?_
  rintro e w73 ⟨rfl, hb⟩
  refine ⟨_, rfl, ?_⟩
  replace BK369 := blk_on gb369 hb
  replace BK370 := blk_on gb370 hb
  replace BK375 := blk_on gb375 hb
  replace HB := bel_on w hb
  (try clear hb)
  refine hK.out _ _ ⟨bc BK375 0, bc BK375 1, bc BK375 2, bc BK370 0, bc BK370 1, bc BK370 2, bc BK370 3, bc BK370 4, bc BK370 5, bc BK370 6, bc BK370 7, bc BK370 8⟩ (fun hHeld => ?_)
  clear hK K
  refine normP 43 ?_
  refine stepP 4 (some 46) (tk 9 127) (any_of HT_.out (by kernel_rfl)) ?_
  refine stepP 7 (some 49) (tk 9 255) (any_of HT_.out (by kernel_rfl)) ?_
  refine stepP 8 (some 7) (tk 9 511) (any_of HT_.out (by kernel_rfl)) ?_
  refine done_ (done_of HT_.out (by kernel_rfl)) ?_
  try go_wp2
  go_ret
  exact ⟨eqN, bel_now⟩

/-! ### impl_CostsOf: function 58 -/
def impl_CostsOf.l0 : Nat → List Int → List (S31) → Int → Int → Int → Int → Int → List (S37) → Option (List Int)
  | 0, _, _, _, _, _, _, _, _ => none
  | k + 1, x3, x8, x9, x10, x382000, x382001, x382002, x382003 => if x10 < x9 then (if 0 ≤ x10 then (if x10 < (x8.length : Int) then (if x10 < (x382003.length : Int) then ((impl_CostOf.f k ((rd_T31 x8 x10).f0) ((rd_T31 x8 x10).f1) ((rd_T31 x8 x10).f2) ((rd_T37 x382003 x10).f0) ((rd_T37 x382003 x10).f1) ((rd_T37 x382003 x10).f2) ((rd_T37 x382003 x10).f3) ((rd_T37 x382003 x10).f4) ((rd_T37 x382003 x10).f5) ((rd_T37 x382003 x10).f6) ((rd_T37 x382003 x10).f7) ((rd_T37 x382003 x10).f8)).bind fun t391 => (if x3.length < 17592186044416 then (impl_CostsOf.l0 k (x3 ++ [t391]) x8 x9 (wrap64 (x10 + 1)) x382000 x382001 x382002 x382003) else (none))) else (impl_CostsOf.l0 k x3 x8 x9 (wrap64 (x10 + 1)) x382000 x382001 x382002 x382003)) else (none)) else (none)) else (some x3)
def impl_CostsOf.f (k : Nat) (a0_0 : Int) (a0_1 : Int) (a0_2 : Int) (l0_3 : List (S37)) : Option (List Int) := (impl_ShapesOf.f k a0_0 a0_1 a0_2 l0_3).bind fun t385 => (impl_CostsOf.l0 k (([] : List Int)) t385 (t385.length : Int) 0 a0_0 a0_1 a0_2 l0_3)
def impl_CostsOf.T6 : Bool × List (List Nat × List Nat) := (true, [([], []), ([], []), ([], []), ([2], [2]), ([], []), ([3, 4], [3, 4]), ([5], [5]), ([1, 6], [1, 6]), ([7], [7]), ([0, 8, 7], [0, 8]), ([9, 9, 0, 1, 2, 3, 4, 5, 6, 7, 8, 9], [0, 9])])
def impl_CostsOf.B6 : List Nat := [0, 0, 0, 4, 0, 28, 60, 126, 254, 511, 1023]
theorem impl_CostsOf.tab6 : rtab .any (opsOf Try.f58 6) = impl_CostsOf.T6 := by kernel_rfl
theorem impl_CostsOf.bits6 : waitsOk impl_CostsOf.T6.2 impl_CostsOf.B6 = true := by kernel_rfl
set_option maxHeartbeats 8000000 in
set_option maxRecDepth 100000 in
theorem impl_CostsOf.calls (k : Nat) (a0_0 : Int) (a0_1 : Int) (a0_2 : Int) (A0_3 : Option Addr) (c0_3 : Nat) (l0_3 : List (S37)) (r : List Int) (w : World) (hr0_3 : Kd.C k37 w A0_3 l0_3.length l0_3) (hc0_3 : l0_3.length ≤ c0_3) (h : impl_CostsOf.f k a0_0 a0_1 a0_2 l0_3 = some r) :
   Calls Try.prog 58 #[.agg #[.int .i64 a0_0, .int .i64 a0_1, .int .i64 a0_2, .slice A0_3 l0_3.length c0_3]] w fun e w' => ∃ v0_ : Value, e = .returned (v0_) ∧ Kd.R (Kd.int .i64) 3 w' w.heap.size (fun _ => True) v0_ r ∧ Below w.heap.size w w' := by
  have hu53 := Try.underlying53
  have hu31 := Try.underlying31
  have hu37 := Try.underlying37
  have HR0_3 := Aside0.mk hr0_3
  have HC0_3 := Aside0.mk hc0_3
  clear hr0_3 hc0_3
  have HB := Aside0.mk (Below.refl w.heap.size w)
  have H : ((impl_ShapesOf.f k a0_0 a0_1 a0_2 l0_3).bind fun t385 => (impl_CostsOf.l0 k (([] : List Int)) t385 (t385.length : Int) 0 a0_0 a0_1 a0_2 l0_3)) = some r := h
  clear h
  obtain ⟨y382, hy382⟩ : ∃ y_ : List Int, y_ = (([] : List Int)) := ⟨_, rfl⟩
  replace H : ((impl_ShapesOf.f k a0_0 a0_1 a0_2 l0_3).bind fun t385 => (impl_CostsOf.l0 k y382 t385 (t385.length : Int) 0 a0_0 a0_1 a0_2 l0_3)) = some r := by first | (rw [hy382]; with_reducible exact H) | (have H2_ := (Option.bind_some _ _).symm.trans H; rw [hy382]; with_reducible exact H2_) | (have H2_ := (Option.bind_some _ _).symm.trans H; with_reducible exact H2_) | with_reducible exact H | (rw [hy382]; exact H) | exact H
  have Ny382 := Aside0.mk hy382
  clear hy382
  replace H := Option.bind_eq_some_iff.mp H
  obtain ⟨t385, A20, H⟩ := H
  (try dsimp only at H)
  have A2 := Aside0.mk A20
  clear A20
  have H' := Aside0.mk H
  clear H
  go_enter Try.func58, Try.ntmps58
  go_wp2_with (first | ((with_reducible refine gate_dst (N := 1) rfl ?_); refine boxM 1 #[.int .i64 a0_0, .int .i64 a0_1, .int .i64 a0_2, .slice A0_3 l0_3.length c0_3] 53 ?_; intro gb381 hg w3 BK381 hb; replace HB := box_at w hb hg; obtain ⟨HB, GW381, GE381⟩ := HB; clear hb hg) | ((with_reducible refine gate_dst (N := 6) rfl ?_); refine Kd.R_lit (Kd.int .i64) _ 3 ?hg (N := 6) ?hd (xs := ([] : List Int)) (inner := []) (ok := fun _ => True) (okp := fun _ => True) ?hr ?hp (fun _ hk => hk) trivial (Below.refl _ _) (Nat.le_refl _) (by simp) ?_; (case hd => rfl); (case hg => rfl); (case hr => first | (go_simp; done) | (go_simp; rfl)); (case hp => exact (Reps.none _ _)); intro v383 w4 ho5 hb hg_ hnew_; clear hg_ hnew_; (first | rw [← Ny382.out] at ho5 | (simp only [Int.reduceToNat] at ho5; rw [← Ny382.out] at ho5)); have n0_ := Aside0.mk (Kd.R_lower ho5 (below_size bel_now)); replace HB := bel_on w hb; replace BK381 := blk_on gb381 hb; have HO384 := n0_; clear n0_; clear hb ho5; have hcz6 := cells4 BK381.out) | ((with_reducible refine gate_callee (f := 108) rfl ?_); refine goesM (some 8) rfl rfl Try.func108 (by kernel_rfl) rfl #[.agg #[.int .i64 a0_0, .int .i64 a0_1, .int .i64 a0_2, .slice A0_3 l0_3.length c0_3]] rfl ?_; (with_reducible refine (impl_ShapesOf.calls k a0_0 a0_1 a0_2 _ _ l0_3 t385 _ ?side1 ?side2 A2.out).mono ?_); (case side1 => exact C_now HR0_3.out); (case side2 => exact HC0_3.out); rintro e w7 ⟨v386, rfl, ho0, hb⟩; refine ⟨_, rfl, ?_⟩; have n1_ := Aside0.mk (Kd.R_lower ho0 (below_size bel_now)); replace HO384 := Aside0.mk (Kd.R_below (R_at HO384.out) hb); replace HB := bel_on w hb; replace BK381 := blk_on gb381 hb; have HO387 := n1_; clear n1_; (try clear hb); (try clear ho0); obtain ⟨Ao8, co8, eo8⟩ := Kd.R_slice HO387.out; subst eo8))
  go_loopg [3, 10] k (fun kq v3 v10 w' => ∃ (x3_1 : List Int) (x10_1 : Int), v10 = .int .i64 x10_1 ∧ Aside0 (impl_CostsOf.l0 kq x3_1 t385 (t385.length : Int) x10_1 a0_0 a0_1 a0_2 l0_3 = some r) ∧ Aside0 (kq ≤ k) ∧ Aside0 (Kd.R (Kd.int .i64) 3 w' w.heap.size (fun _ => True) v3 x3_1) ∧ Aside0 (Kd.R k31 31 w' w.heap.size (fun _ => True) (.slice Ao8 t385.length co8) t385) ∧ Aside0 (w'.heap[gb381]? = some (.cells #[.int .i64 a0_0, .int .i64 a0_1, .int .i64 a0_2, (.slice A0_3 l0_3.length c0_3)] 53 (0, 0))) ∧ Aside0 (Below w.heap.size w w'))
  case atStart => exact ⟨(y382), (0), (by first | rfl | (simp; done) | (simp [*]; done)), H', ⟨Nat.le_refl _⟩, ⟨by (with_reducible repeat (first | apply Kd.R_alloc | apply Kd.R_drewN | apply Kd.R_drew)); exact HO384.out⟩, ⟨by (with_reducible repeat (first | apply Kd.R_alloc | apply Kd.R_drewN | apply Kd.R_drew)); exact HO387.out⟩, ⟨bks BK381⟩, ⟨bel_now⟩⟩
  case round =>
   clear H'
   try clear c1
   try clear p2
   try clear c5
   try clear hcz6
   obtain ⟨x3_1, x10_1, rfl, HA, HK1, HO_3, HO_8, BK381, HB⟩ := hrel
   cases gk with
   | zero => exact absurd HA.out (by simp [impl_CostsOf.l0])
   | succ k1 =>
    have H := HA.out
    clear HA
    simp only [impl_CostsOf.l0] at H
    by_cases c9 : x10_1 < (t385.length : Int)
    rotate_left
    ·rw [if_neg c9] at H
     have c9b0 : decide (x10_1 < (t385.length : Int)) = false := decide_eq_false c9
     clear c9
     obtain rfl := Option.some.inj H
     go_wp2
     go_ret
     exact ⟨_, eqN, by (with_reducible repeat (first | apply Kd.R_alloc | apply Kd.R_drewN | apply Kd.R_drew)); exact HO_3.out, bel_now⟩
    rw [if_pos c9] at H
    have c9b0 : decide (x10_1 < (t385.length : Int)) = true := decide_eq_true c9
    clear c9
    by_cases c10 : 0 ≤ x10_1
    rotate_left
    ·rw [if_neg c10] at H
     exact absurd H (by simp)
    rw [if_pos c10] at H
    have c10b0 : decide (0 ≤ x10_1) = true := decide_eq_true c10
    clear c10
    by_cases c11 : x10_1 < (t385.length : Int)
    rotate_left
    ·rw [if_neg c11] at H
     exact absurd H (by simp)
    rw [if_pos c11] at H
    have c11b0 : decide (x10_1 < (t385.length : Int)) = true := decide_eq_true c11
    clear c11
    by_cases c12 : x10_1 < (l0_3.length : Int)
    rotate_left
    ·rw [if_neg c12] at H
     have c12b0 : decide (x10_1 < (l0_3.length : Int)) = false := decide_eq_false c12
     clear c12
     have H' := Aside0.mk H
     clear H
     have p388 : 0 ≤ (x10_1 : Int) := of_decide_eq_true (by first | (with_reducible assumption) | assumption)
     have q388 : x10_1 < (t385.length : Int) := of_decide_eq_true (by first | (with_reducible assumption) | assumption)
     (try (obtain ⟨_, _, eo_⟩ := Kd.R_slice HO_8.out; subst eo_))
     obtain ⟨ad388, e388, hx388_0, hx388_1, hx388_2⟩ := at_T31 (Kd.R_reads' HO_8.out).2.2 x10_1 p388 q388
     cases e388
     replace p388 := eq_true p388
     replace q388 := eq_true q388
     go_wp2_with (first | ((with_reducible refine gate_dst (N := 5) rfl ?_); refine boxM 5 #[.int .i64 0, .int .i64 0, .int .i64 0] 31 ?_; intro gb389 hg w23 BK389 hb; replace HB := box_at w hb hg; obtain ⟨HB, GW389, GE389⟩ := HB; replace BK381 := box_on gb381 hb hg; obtain ⟨BK381, NB381_389, NB389_381⟩ := BK381; replace HO_3 := Aside0.mk (Kd.R_below (R_at HO_3.out) hb); replace HO_8 := Aside0.mk (Kd.R_below (Kd.R_elderB (R_at HO_8.out) gb389 (Nat.le_of_eq hg.symm)) hb); clear hb hg; have hn24 := ne2 NB389_381; have hcz25 := cells3 BK389.out; have hcz26 := cells4 BK381.out))
     go_roundg k1
     case measure => have := HK1.out; omega
     case rel => exact ⟨(x3_1), (wrap64 (x10_1 + 1)), (by first | rfl | (simp; done) | (simp [*]; done)), H', ⟨by have := HK1.out; omega⟩, ⟨by (with_reducible repeat (first | apply Kd.R_alloc | apply Kd.R_drewN | apply Kd.R_drew)); exact Kd.R_mono (Kd.R_far (p := ⟨gb389, 2, none⟩) (Kd.R_far (p := ⟨gb389, 1, none⟩) (Kd.R_far (p := ⟨gb389, 0, none⟩) (Kd.R_types HO_3.out BK389.out (by decide)) (fun _ hk => hk.2) (.int .i64 ((rd_T31 t385 x10_1).f0))) (fun _ hk => hk.2) (.int .i64 ((rd_T31 t385 x10_1).f1))) (fun _ hk => hk.2) (.int .i64 ((rd_T31 t385 x10_1).f2))) (fun _ hk => trivial)⟩, ⟨by (with_reducible repeat (first | apply Kd.R_alloc | apply Kd.R_drewN | apply Kd.R_drew)); exact Kd.R_mono (Kd.R_far (p := ⟨gb389, 2, none⟩) (Kd.R_far (p := ⟨gb389, 1, none⟩) (Kd.R_far (p := ⟨gb389, 0, none⟩) (Kd.R_mono HO_8.out (fun k_ hk => (⟨hk, hk.2⟩ : _ ∧ k_ ≠ gb389))) (fun _ hk => hk.2) (.int .i64 ((rd_T31 t385 x10_1).f0))) (fun _ hk => hk.2) (.int .i64 ((rd_T31 t385 x10_1).f1))) (fun _ hk => hk.2) (.int .i64 ((rd_T31 t385 x10_1).f2))) (fun _ hk => trivial)⟩, ⟨by (with_reducible repeat (first | refine blk_drewN ?_ _ | refine blk_drew ?_ | refine blk_alloc ?_ _)); refine blk_far ?_ NB381_389.out _; (with_reducible repeat (first | refine blk_drewN ?_ _ | refine blk_drew ?_ | refine blk_alloc ?_ _)); refine blk_far ?_ NB381_389.out _; (with_reducible repeat (first | refine blk_drewN ?_ _ | refine blk_drew ?_ | refine blk_alloc ?_ _)); refine blk_far ?_ NB381_389.out _; (with_reducible repeat (first | refine blk_drewN ?_ _ | refine blk_drew ?_ | refine blk_alloc ?_ _)); exact BK381.out⟩, ⟨bel_now⟩⟩
    rw [if_pos c12] at H
    have c12b0 : decide (x10_1 < (l0_3.length : Int)) = true := decide_eq_true c12
    clear c12
    replace H := Option.bind_eq_some_iff.mp H
    obtain ⟨t391, A130, H⟩ := H
    (try dsimp only at H)
    have A13 := Aside0.mk A130
    clear A130
    by_cases c14 : x3_1.length < 17592186044416
    rotate_left
    ·rw [if_neg c14] at H
     exact absurd H (by simp)
    rw [if_pos c14] at H
    have LMc14 := Aside0.mk c14
    clear c14
    obtain ⟨y392, hy392⟩ : ∃ y_ : List Int, y_ = (x3_1 ++ [t391]) := ⟨_, rfl⟩
    replace H : (impl_CostsOf.l0 k1 y392 t385 (t385.length : Int) (wrap64 (x10_1 + 1)) a0_0 a0_1 a0_2 l0_3) = some r := by first | (rw [hy392]; with_reducible exact H) | (have H2_ := (Option.bind_some _ _).symm.trans H; rw [hy392]; with_reducible exact H2_) | (have H2_ := (Option.bind_some _ _).symm.trans H; with_reducible exact H2_) | with_reducible exact H | (rw [hy392]; exact H) | exact H
    have Ny392 := Aside0.mk hy392
    clear hy392
    have H' := Aside0.mk H
    clear H
    have p388 : 0 ≤ (x10_1 : Int) := of_decide_eq_true (by first | (with_reducible assumption) | assumption)
    have q388 : x10_1 < (t385.length : Int) := of_decide_eq_true (by first | (with_reducible assumption) | assumption)
    (try (obtain ⟨_, _, eo_⟩ := Kd.R_slice HO_8.out; subst eo_))
    obtain ⟨ad388, e388, hx388_0, hx388_1, hx388_2⟩ := at_T31 (Kd.R_reads' HO_8.out).2.2 x10_1 p388 q388
    cases e388
    replace p388 := eq_true p388
    replace q388 := eq_true q388
    try go_wp2_with (first | ((with_reducible refine gate_dst (N := 5) rfl ?_); refine boxM 5 #[.int .i64 0, .int .i64 0, .int .i64 0] 31 ?_; intro gb389 hg w15 BK389 hb; replace HB := box_at w hb hg; obtain ⟨HB, GW389, GE389⟩ := HB; replace BK381 := box_on gb381 hb hg; obtain ⟨BK381, NB381_389, NB389_381⟩ := BK381; replace HO_3 := Aside0.mk (Kd.R_below (R_at HO_3.out) hb); replace HO_8 := Aside0.mk (Kd.R_below (Kd.R_elderB (R_at HO_8.out) gb389 (Nat.le_of_eq hg.symm)) hb); clear hb hg; have hn16 := ne2 NB389_381; have hcz17 := cells3 BK389.out; have hcz18 := cells4 BK381.out))
    have n0_ : Aside0 (Kd.R (Kd.int .i64) 3 (((w15.setCell ⟨gb389, 0, none⟩ (.int .i64 ((rd_T31 t385 x10_1).f0))).setCell ⟨gb389, 1, none⟩ (.int .i64 ((rd_T31 t385 x10_1).f1))).setCell ⟨gb389, 2, none⟩ (.int .i64 ((rd_T31 t385 x10_1).f2))) w.heap.size (fun _ => True) u3 x3_1) := ⟨by (with_reducible repeat (first | apply Kd.R_alloc | apply Kd.R_drewN | apply Kd.R_drew)); exact Kd.R_mono (Kd.R_far (p := ⟨gb389, 2, none⟩) (Kd.R_far (p := ⟨gb389, 1, none⟩) (Kd.R_far (p := ⟨gb389, 0, none⟩) (Kd.R_types HO_3.out BK389.out (by decide)) (fun _ hk => hk.2) (.int .i64 ((rd_T31 t385 x10_1).f0))) (fun _ hk => hk.2) (.int .i64 ((rd_T31 t385 x10_1).f1))) (fun _ hk => hk.2) (.int .i64 ((rd_T31 t385 x10_1).f2))) (fun _ hk => trivial)⟩
    have n1_ : Aside0 (Kd.R k31 31 (((w15.setCell ⟨gb389, 0, none⟩ (.int .i64 ((rd_T31 t385 x10_1).f0))).setCell ⟨gb389, 1, none⟩ (.int .i64 ((rd_T31 t385 x10_1).f1))).setCell ⟨gb389, 2, none⟩ (.int .i64 ((rd_T31 t385 x10_1).f2))) w.heap.size (fun k_ => k_ ≠ gb389) (.slice (some ad388) t385.length co8) t385) := ⟨by (with_reducible repeat (first | apply Kd.R_alloc | apply Kd.R_drewN | apply Kd.R_drew)); exact Kd.R_mono (Kd.R_far (p := ⟨gb389, 2, none⟩) (Kd.R_far (p := ⟨gb389, 1, none⟩) (Kd.R_far (p := ⟨gb389, 0, none⟩) (Kd.R_mono HO_8.out (fun k_ hk => (⟨hk, hk.2⟩ : _ ∧ k_ ≠ gb389))) (fun _ hk => hk.2) (.int .i64 ((rd_T31 t385 x10_1).f0))) (fun _ hk => hk.2) (.int .i64 ((rd_T31 t385 x10_1).f1))) (fun _ hk => hk.2) (.int .i64 ((rd_T31 t385 x10_1).f2))) (fun _ hk => hk.1.2)⟩
    have n2_ : Aside0 ((((w15.setCell ⟨gb389, 0, none⟩ (.int .i64 ((rd_T31 t385 x10_1).f0))).setCell ⟨gb389, 1, none⟩ (.int .i64 ((rd_T31 t385 x10_1).f1))).setCell ⟨gb389, 2, none⟩ (.int .i64 ((rd_T31 t385 x10_1).f2))).heap[gb381]? = some (.cells #[.int .i64 a0_0, .int .i64 a0_1, .int .i64 a0_2, .slice A0_3 l0_3.length c0_3] 53 (0, 0))) := ⟨by (with_reducible repeat (first | refine blk_drewN ?_ _ | refine blk_drew ?_ | refine blk_alloc ?_ _)); refine blk_far ?_ NB381_389.out _; (with_reducible repeat (first | refine blk_drewN ?_ _ | refine blk_drew ?_ | refine blk_alloc ?_ _)); refine blk_far ?_ NB381_389.out _; (with_reducible repeat (first | refine blk_drewN ?_ _ | refine blk_drew ?_ | refine blk_alloc ?_ _)); refine blk_far ?_ NB381_389.out _; (with_reducible repeat (first | refine blk_drewN ?_ _ | refine blk_drew ?_ | refine blk_alloc ?_ _)); exact BK381.out⟩
    have n3_ : Aside0 ((((w15.setCell ⟨gb389, 0, none⟩ (.int .i64 ((rd_T31 t385 x10_1).f0))).setCell ⟨gb389, 1, none⟩ (.int .i64 ((rd_T31 t385 x10_1).f1))).setCell ⟨gb389, 2, none⟩ (.int .i64 ((rd_T31 t385 x10_1).f2))).heap[gb389]? = some (.cells #[.int .i64 ((rd_T31 t385 x10_1).f0), .int .i64 ((rd_T31 t385 x10_1).f1), .int .i64 ((rd_T31 t385 x10_1).f2)] 31 (0, 0))) := ⟨by (with_reducible repeat (first | refine blk_drewN ?_ _ | refine blk_drew ?_ | refine blk_alloc ?_ _)); refine blk_put (cs := #[.int .i64 ((rd_T31 t385 x10_1).f0), .int .i64 ((rd_T31 t385 x10_1).f1), .int .i64 0]) ?_ 2 _ rfl; (with_reducible repeat (first | refine blk_drewN ?_ _ | refine blk_drew ?_ | refine blk_alloc ?_ _)); refine blk_put (cs := #[.int .i64 ((rd_T31 t385 x10_1).f0), .int .i64 0, .int .i64 0]) ?_ 1 _ rfl; (with_reducible repeat (first | refine blk_drewN ?_ _ | refine blk_drew ?_ | refine blk_alloc ?_ _)); refine blk_put (cs := #[.int .i64 0, .int .i64 0, .int .i64 0]) ?_ 0 _ rfl; (with_reducible repeat (first | refine blk_drewN ?_ _ | refine blk_drew ?_ | refine blk_alloc ?_ _)); exact BK389.out⟩
    have n4_ : Aside0 (Below w.heap.size w (((w15.setCell ⟨gb389, 0, none⟩ (.int .i64 ((rd_T31 t385 x10_1).f0))).setCell ⟨gb389, 1, none⟩ (.int .i64 ((rd_T31 t385 x10_1).f1))).setCell ⟨gb389, 2, none⟩ (.int .i64 ((rd_T31 t385 x10_1).f2)))) := ⟨bel_now⟩
    (try clear HO_3)
    (try clear HO_8)
    (try clear BK381)
    (try clear BK389)
    (try clear HB)
    generalize (((w15.setCell ⟨gb389, 0, none⟩ (.int .i64 ((rd_T31 t385 x10_1).f0))).setCell ⟨gb389, 1, none⟩ (.int .i64 ((rd_T31 t385 x10_1).f1))).setCell ⟨gb389, 2, none⟩ (.int .i64 ((rd_T31 t385 x10_1).f2))) = w19 at n0_ n1_ n2_ n3_ n4_ ⊢
    have HO_3 := n0_
    have HO_8 := n1_
    have BK381 := n2_
    have BK389 := n3_
    have HB := n4_
    clear n0_ n1_ n2_ n3_ n4_
    replace HO_3 := Aside0.mk (Kd.R_drew HO_3.out)
    replace HO_8 := Aside0.mk (Kd.R_drew HO_8.out)
    replace BK381 := Aside0.mk (blk_drew BK381.out)
    replace BK389 := Aside0.mk (blk_drew BK389.out)
    replace HB := Aside0.mk (below_drew1 HB.out)
    have p390 : 0 ≤ (x10_1 : Int) := of_decide_eq_true (by first | (with_reducible assumption) | assumption)
    have q390 : x10_1 < (l0_3.length : Int) := of_decide_eq_true (by first | (with_reducible assumption) | assumption)
    obtain ⟨ad390, A390_7, c390_7, A390_8, c390_8, e390, hx390_0, hx390_1, hx390_2, hx390_3, hx390_4, hx390_5, hx390_6, hx390_7, hx390_8, hl390_7, hi390_7, hl390_8, hi390_8⟩ := at_T37 HR0_3.out x10_1 p390 q390
    have hw390_8 := hx390_8
    have hw390_7 := hx390_7
    have hw390_6 := hx390_6
    have hw390_5 := hx390_5
    have hw390_4 := hx390_4
    have hw390_3 := hx390_3
    have hw390_2 := hx390_2
    have hw390_1 := hx390_1
    have hw390_0 := hx390_0
    cases e390
    replace hx390_0 := (HB.out.cell (World.block_lt_of_cell? w _ hx390_0)).trans hx390_0
    replace hx390_1 := (HB.out.cell (World.block_lt_of_cell? w _ hx390_1)).trans hx390_1
    replace hx390_2 := (HB.out.cell (World.block_lt_of_cell? w _ hx390_2)).trans hx390_2
    replace hx390_3 := (HB.out.cell (World.block_lt_of_cell? w _ hx390_3)).trans hx390_3
    replace hx390_4 := (HB.out.cell (World.block_lt_of_cell? w _ hx390_4)).trans hx390_4
    replace hx390_5 := (HB.out.cell (World.block_lt_of_cell? w _ hx390_5)).trans hx390_5
    replace hx390_6 := (HB.out.cell (World.block_lt_of_cell? w _ hx390_6)).trans hx390_6
    replace hx390_7 := (HB.out.cell (World.block_lt_of_cell? w _ hx390_7)).trans hx390_7
    replace hx390_8 := (HB.out.cell (World.block_lt_of_cell? w _ hx390_8)).trans hx390_8
    have HR390_7 := Aside0.mk hi390_7
    have HC390_7 := Aside0.mk hl390_7
    clear hi390_7 hl390_7
    have HR390_8 := Aside0.mk hi390_8
    have HC390_8 := Aside0.mk hl390_8
    clear hi390_8 hl390_8
    replace p390 := eq_true p390
    replace q390 := eq_true q390
    refine start_ (n := 11) (S := fun w' => w'.cell? ⟨gb389, 0, none⟩ = some (.int .i64 ((rd_T31 t385 x10_1).f0)) ∧ w'.cell? ⟨gb389, 1, none⟩ = some (.int .i64 ((rd_T31 t385 x10_1).f1)) ∧ w'.cell? ⟨gb389, 2, none⟩ = some (.int .i64 ((rd_T31 t385 x10_1).f2)) ∧ w'.cell? ⟨gb381, 0, none⟩ = some (.int .i64 a0_0) ∧ w'.cell? ⟨gb381, 1, none⟩ = some (.int .i64 a0_1) ∧ w'.cell? ⟨gb381, 2, none⟩ = some (.int .i64 a0_2) ∧ w'.cell? ⟨gb381, 3, none⟩ = some (.slice (some ad390) l0_3.length c0_3) ∧ w'.cell? (ad390.add ((x10_1).toNat * 9)) = some (.int .i64 ((rd_T37 l0_3 x10_1).f0)) ∧ w'.cell? ⟨(ad390.add ((x10_1).toNat * 9)).block, (ad390.add ((x10_1).toNat * 9)).off + 1, none⟩ = some (.int .i64 ((rd_T37 l0_3 x10_1).f1)) ∧ w'.cell? ⟨(ad390.add ((x10_1).toNat * 9)).block, (ad390.add ((x10_1).toNat * 9)).off + 2, none⟩ = some (.int .i64 ((rd_T37 l0_3 x10_1).f2)) ∧ w'.cell? ⟨(ad390.add ((x10_1).toNat * 9)).block, (ad390.add ((x10_1).toNat * 9)).off + 3, none⟩ = some (.int .i64 ((rd_T37 l0_3 x10_1).f3)) ∧ w'.cell? ⟨(ad390.add ((x10_1).toNat * 9)).block, (ad390.add ((x10_1).toNat * 9)).off + 4, none⟩ = some (.int .i64 ((rd_T37 l0_3 x10_1).f4)) ∧ w'.cell? ⟨(ad390.add ((x10_1).toNat * 9)).block, (ad390.add ((x10_1).toNat * 9)).off + 5, none⟩ = some (.int .i64 ((rd_T37 l0_3 x10_1).f5)) ∧ w'.cell? ⟨(ad390.add ((x10_1).toNat * 9)).block, (ad390.add ((x10_1).toNat * 9)).off + 6, none⟩ = some (.int .i64 ((rd_T37 l0_3 x10_1).f6)) ∧ w'.cell? ⟨(ad390.add ((x10_1).toNat * 9)).block, (ad390.add ((x10_1).toNat * 9)).off + 7, none⟩ = some (.slice A390_7 ((rd_T37 l0_3 x10_1).f7).length c390_7) ∧ w'.cell? ⟨(ad390.add ((x10_1).toNat * 9)).block, (ad390.add ((x10_1).toNat * 9)).off + 8, none⟩ = some (.slice A390_8 ((rd_T37 l0_3 x10_1).f8).length c390_8)) (ds := []) #[O, O, O, O, O, O, O, O, O, O, O] (by kernel_rfl) rfl rfl ⟨bc BK389 0, bc BK389 1, bc BK389 2, bc BK381 0, bc BK381 1, bc BK381 2, bc BK381 3, ((HB.out.cell (World.block_lt_of_cell? w _ hw390_0)).trans hw390_0), ((HB.out.cell (World.block_lt_of_cell? w _ hw390_1)).trans hw390_1), ((HB.out.cell (World.block_lt_of_cell? w _ hw390_2)).trans hw390_2), ((HB.out.cell (World.block_lt_of_cell? w _ hw390_3)).trans hw390_3), ((HB.out.cell (World.block_lt_of_cell? w _ hw390_4)).trans hw390_4), ((HB.out.cell (World.block_lt_of_cell? w _ hw390_5)).trans hw390_5), ((HB.out.cell (World.block_lt_of_cell? w _ hw390_6)).trans hw390_6), ((HB.out.cell (World.block_lt_of_cell? w _ hw390_7)).trans hw390_7), ((HB.out.cell (World.block_lt_of_cell? w _ hw390_8)).trans hw390_8)⟩ (fun hHeld => ?_); refine with_tabW impl_CostsOf.tab6 impl_CostsOf.bits6 (fun HT_ HW_ => ?_)
    generalize w19.drew = w20 at HO_3 HO_8 BK381 BK389 HB HR390_7 HR390_8 hx390_0 hx390_1 hx390_2 hx390_3 hx390_4 hx390_5 hx390_6 hx390_7 hx390_8 hHeld ⊢
    refine stepP 0 (some 20) (tk 11 1) (any_of HT_.out (by kernel_rfl)) ?_
    refine stepP 2 (some 22) (tk 11 5) (any_of HT_.out (by kernel_rfl)) ?_
    refine stepP 4 (some 24) (tk 11 21) (any_of HT_.out (by kernel_rfl)) ?_
    refine stepT 1 (some 21) (tk 11 23) (take_ofW HT_.out HW_.out (by kernel_rfl)) hHeld ?_
    refine stepT 3 (some 23) (tk 11 31) (take_ofW HT_.out HW_.out (by kernel_rfl)) hHeld ?_
    refine stepP 5 (some 25) (tk 11 63) (any_of HT_.out (by kernel_rfl)) ?_
    refine stepT 6 (some 26) (tk 11 127) (take_ofW HT_.out HW_.out (by kernel_rfl)) hHeld ?_
    refine one_ (i := 7) (N := some 27) #[I, I, I, I, I, I, I, I, O, O, O] rfl rfl (one_of HT_.out (by kernel_rfl)) (by decide) (fun K hK => ?_)
    refine goes_ Try.func33 (by kernel_rfl) rfl #[.agg #[.int .i64 ((rd_T31 t385 x10_1).f0), .int .i64 ((rd_T31 t385 x10_1).f1), .int .i64 ((rd_T31 t385 x10_1).f2)], .agg #[.int .i64 ((rd_T37 l0_3 x10_1).f0), .int .i64 ((rd_T37 l0_3 x10_1).f1), .int .i64 ((rd_T37 l0_3 x10_1).f2), .int .i64 ((rd_T37 l0_3 x10_1).f3), .int .i64 ((rd_T37 l0_3 x10_1).f4), .int .i64 ((rd_T37 l0_3 x10_1).f5), .int .i64 ((rd_T37 l0_3 x10_1).f6), .slice A390_7 ((rd_T37 l0_3 x10_1).f7).length c390_7, .slice A390_8 ((rd_T37 l0_3 x10_1).f8).length c390_8]] (by rfl) rfl rfl (by (try simp only [List.map_toArray, List.map_cons, List.map_nil]); first | done | rfl | (simp only [List.length_drop, List.length_take]; rfl)) ?_
    with_reducible refine (impl_CostOf.calls k1 ((rd_T31 t385 x10_1).f0) ((rd_T31 t385 x10_1).f1) ((rd_T31 t385 x10_1).f2) ((rd_T37 l0_3 x10_1).f0) ((rd_T37 l0_3 x10_1).f1) ((rd_T37 l0_3 x10_1).f2) ((rd_T37 l0_3 x10_1).f3) ((rd_T37 l0_3 x10_1).f4) ((rd_T37 l0_3 x10_1).f5) ((rd_T37 l0_3 x10_1).f6) _ _ ((rd_T37 l0_3 x10_1).f7) _ _ ((rd_T37 l0_3 x10_1).f8) t391 _ ?side1 ?side2 ?side3 ?side4 A13.out).mono ?_
    (case side1 => exact C_now HR390_7.out)
    (case side2 => exact HC390_7.out)
    (case side3 => exact C_now HR390_8.out)
    (case side4 => exact HC390_8.out)
    rintro e w21 ⟨rfl, hb⟩
    refine ⟨_, rfl, ?_⟩
    replace HO_3 := Aside0.mk (Kd.R_below (R_at HO_3.out) hb)
    replace HO_8 := Aside0.mk (Kd.R_below (R_at HO_8.out) hb)
    replace BK381 := blk_on gb381 hb
    replace BK389 := blk_on gb389 hb
    replace HB := bel_on w hb
    (try clear hb)
    refine hK.out _ _ ⟨bc BK389 0, bc BK389 1, bc BK389 2, bc BK381 0, bc BK381 1, bc BK381 2, bc BK381 3, ((HB.out.cell (World.block_lt_of_cell? w _ hw390_0)).trans hw390_0), ((HB.out.cell (World.block_lt_of_cell? w _ hw390_1)).trans hw390_1), ((HB.out.cell (World.block_lt_of_cell? w _ hw390_2)).trans hw390_2), ((HB.out.cell (World.block_lt_of_cell? w _ hw390_3)).trans hw390_3), ((HB.out.cell (World.block_lt_of_cell? w _ hw390_4)).trans hw390_4), ((HB.out.cell (World.block_lt_of_cell? w _ hw390_5)).trans hw390_5), ((HB.out.cell (World.block_lt_of_cell? w _ hw390_6)).trans hw390_6), ((HB.out.cell (World.block_lt_of_cell? w _ hw390_7)).trans hw390_7), ((HB.out.cell (World.block_lt_of_cell? w _ hw390_8)).trans hw390_8)⟩ (fun hHeld => ?_)
    clear hK K
    refine normP 27 ?_
    refine one_ (i := 8) (N := some 28) #[I, I, I, I, I, I, I, I, I, O, O] rfl rfl (one_of HT_.out (by kernel_rfl)) (by decide) (fun K hK => ?_)
    refine value_ (w1 := ?_) (v := ?_) (by rfl) rfl ?_ ?_
    rotate_left 2
    ·go_simp
     constructor
     ·rfl
     rfl
    refine hK.out _ _ ⟨(blk_cell (blk_alloc BK389.out _) 0).trans rfl, (blk_cell (blk_alloc BK389.out _) 1).trans rfl, (blk_cell (blk_alloc BK389.out _) 2).trans rfl, (blk_cell (blk_alloc BK381.out _) 0).trans rfl, (blk_cell (blk_alloc BK381.out _) 1).trans rfl, (blk_cell (blk_alloc BK381.out _) 2).trans rfl, (blk_cell (blk_alloc BK381.out _) 3).trans rfl, (World.cell?_alloc_lt _ _ _ (World.block_lt_of_cell? _ _ (((HB.out.cell (World.block_lt_of_cell? w _ hw390_0)).trans hw390_0)))).trans (((HB.out.cell (World.block_lt_of_cell? w _ hw390_0)).trans hw390_0)), (World.cell?_alloc_lt _ _ _ (World.block_lt_of_cell? _ _ (((HB.out.cell (World.block_lt_of_cell? w _ hw390_1)).trans hw390_1)))).trans (((HB.out.cell (World.block_lt_of_cell? w _ hw390_1)).trans hw390_1)), (World.cell?_alloc_lt _ _ _ (World.block_lt_of_cell? _ _ (((HB.out.cell (World.block_lt_of_cell? w _ hw390_2)).trans hw390_2)))).trans (((HB.out.cell (World.block_lt_of_cell? w _ hw390_2)).trans hw390_2)), (World.cell?_alloc_lt _ _ _ (World.block_lt_of_cell? _ _ (((HB.out.cell (World.block_lt_of_cell? w _ hw390_3)).trans hw390_3)))).trans (((HB.out.cell (World.block_lt_of_cell? w _ hw390_3)).trans hw390_3)), (World.cell?_alloc_lt _ _ _ (World.block_lt_of_cell? _ _ (((HB.out.cell (World.block_lt_of_cell? w _ hw390_4)).trans hw390_4)))).trans (((HB.out.cell (World.block_lt_of_cell? w _ hw390_4)).trans hw390_4)), (World.cell?_alloc_lt _ _ _ (World.block_lt_of_cell? _ _ (((HB.out.cell (World.block_lt_of_cell? w _ hw390_5)).trans hw390_5)))).trans (((HB.out.cell (World.block_lt_of_cell? w _ hw390_5)).trans hw390_5)), (World.cell?_alloc_lt _ _ _ (World.block_lt_of_cell? _ _ (((HB.out.cell (World.block_lt_of_cell? w _ hw390_6)).trans hw390_6)))).trans (((HB.out.cell (World.block_lt_of_cell? w _ hw390_6)).trans hw390_6)), (World.cell?_alloc_lt _ _ _ (World.block_lt_of_cell? _ _ (((HB.out.cell (World.block_lt_of_cell? w _ hw390_7)).trans hw390_7)))).trans (((HB.out.cell (World.block_lt_of_cell? w _ hw390_7)).trans hw390_7)), (World.cell?_alloc_lt _ _ _ (World.block_lt_of_cell? _ _ (((HB.out.cell (World.block_lt_of_cell? w _ hw390_8)).trans hw390_8)))).trans (((HB.out.cell (World.block_lt_of_cell? w _ hw390_8)).trans hw390_8))⟩ (fun hHeld => ?_)
    clear hK K
    refine normP 28 ?_
    refine one_ (i := 9) (N := some 29) #[I, I, I, I, I, I, I, I, I, I, O] rfl rfl (one_of HT_.out (by kernel_rfl)) (by decide) (fun K hK => ?_)
    refine Kd.R_append_step (Kd.int .i64) (w0 := w) w.heap.size (by rfl) (.tmp 20) (.tmp 28) 24 3 (.int .i64 0) 8 rfl Try.underlying24 info3 rfl (by decide) (by omega) u3 x3_1 t391 [.int .i64 t391] (fun _ => True) (fun _ => False) rfl rfl ?aP (fun _ hk => hk.elim) ?aF ?aO ?aB ?aS ?aL ?_
    (case aP => exact rfl)
    (case aB => exact bel_now)
    (case aF => exact (fun _ _ => trivial))
    (case aO => exact (R_at HO_3.out))
    (case aS => exact (below_size bel_now))
    (case aL => have := LMc14.out; omega)
    intro v393 w22 ho hb hg hat
    rw [← Ny392.out] at ho
    have n4_ := Aside0.mk (ho)
    replace HO_8 := Aside0.mk (Kd.R_over' (R_at HO_8.out) (Kd.R_typed (R_at HO_3.out)) (by decide) hg)
    replace BK381 := Aside0.mk (blk_grown (g := gb381) blk_now hg (Kd.R_ne HO_3.out BK381.out (by decide)))
    replace BK389 := Aside0.mk (blk_grown (g := gb389) blk_now hg (Kd.R_ne HO_3.out BK389.out (by decide)))
    replace HB := Aside0.mk (hb)
    clear HO_3
    have HO394 := n4_
    clear n4_
    clear ho hb hg hat
    refine hK.out _ _ ⟨bc BK389 0, bc BK389 1, bc BK389 2, bc BK381 0, bc BK381 1, bc BK381 2, bc BK381 3, ((HB.out.cell (World.block_lt_of_cell? w _ hw390_0)).trans hw390_0), ((HB.out.cell (World.block_lt_of_cell? w _ hw390_1)).trans hw390_1), ((HB.out.cell (World.block_lt_of_cell? w _ hw390_2)).trans hw390_2), ((HB.out.cell (World.block_lt_of_cell? w _ hw390_3)).trans hw390_3), ((HB.out.cell (World.block_lt_of_cell? w _ hw390_4)).trans hw390_4), ((HB.out.cell (World.block_lt_of_cell? w _ hw390_5)).trans hw390_5), ((HB.out.cell (World.block_lt_of_cell? w _ hw390_6)).trans hw390_6), ((HB.out.cell (World.block_lt_of_cell? w _ hw390_7)).trans hw390_7), ((HB.out.cell (World.block_lt_of_cell? w _ hw390_8)).trans hw390_8)⟩ (fun hHeld => ?_)
    clear hK K
    refine normP 29 ?_
    refine stepP 10 (some 3) (tk 11 2047) (any_of HT_.out (by kernel_rfl)) ?_
    refine done_ (done_of HT_.out (by kernel_rfl)) ?_
    try go_wp2
    go_roundg k1
    case measure => have := HK1.out; omega
    case rel => exact ⟨(y392), (wrap64 (x10_1 + 1)), (by first | rfl | (simp; done) | (simp [*]; done)), H', ⟨by have := HK1.out; omega⟩, ⟨by (with_reducible repeat (first | apply Kd.R_alloc | apply Kd.R_drewN | apply Kd.R_drew)); exact HO394.out⟩, ⟨by (with_reducible repeat (first | apply Kd.R_alloc | apply Kd.R_drewN | apply Kd.R_drew)); exact Kd.R_mono HO_8.out (fun _ hk => trivial)⟩, ⟨bks BK381⟩, ⟨bel_now⟩⟩

end Go.Proofs.Ytclpojeofclbjaa.PFnExactLeftOf
