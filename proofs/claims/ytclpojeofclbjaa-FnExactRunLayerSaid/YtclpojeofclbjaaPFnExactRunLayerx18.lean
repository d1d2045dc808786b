-- Printed by the session's own program (wip/myprint.py) for this claim out of the translation. Not trusted: Lean checks it.
import Derived.Test.YtclpojeofclbjaaPFnExactRunLayerx0
import Derived.Test.YtclpojeofclbjaaPFnExactRunLayerx1
import Derived.Test.YtclpojeofclbjaaPFnExactRunLayerx8
import Derived.Test.YtclpojeofclbjaaPFnExactRunLayerx16
import Derived.Test.YtclpojeofclbjaaPFnExactRunLayerx17
namespace Go.Proofs.Ytclpojeofclbjaa.PFnExactRunLayer
open Go.RowKit Go.Proofs.YtclpojeofclbjaaW.PrintWords Go.Proofs.YtclpojeofclbjaaW.PrintLast Go.Proofs.YtclpojeofclbjaaW.PrintMore
attribute [local go_sem] max2_int min2_int max_two min_two max_three min_three max_four min_four   -- for this text's walks alone
set_option linter.unusedVariables false
set_option linter.unusedSimpArgs false

/-! ### laws_FnExactRunLayer: function 3 -/
mutual
def laws_FnExactRunLayer.j0 : Nat → Bool → Bool → Bool → Int → Int → Int → List Int → Int → Int → Int → Int → Int → Int → Int → List Int → List Int → Int → Int → Int → List Int → Int → Int → Int → List Int → Int → Int → Int → Int → Int → Int → Int → List Int → List Int → Int → Int → Int → List Int → Option (Bool)
  | 0, _, _, _, _, _, _, _, _, _, _, _, _, _, _, _, _, _, _, _, _, _, _, _, _, _, _, _, _, _, _, _, _, _, _, _, _, _ => none
  | k + 1, x7, x11, x53, x410000, x410001, x410002, x410003, x411000, x411001, x411002, x411003, x411004, x411005, x411006, x411007, x411008, x440000, x440001, x440002, x440003, x447000, x447001, x447002, x447003, x461000, x461001, x461002, x461003, x461004, x461005, x461006, x461007, x461008, x469000, x469001, x469002, x469003 => if x53 = true then (some false) else ((laws_toTensor.f k x410000 x410001 x410002 x410003).bind fun bt470 => ((laws_eqTensor.f k x447000 x447001 x447002 x447003 bt470.1 bt470.2.1 bt470.2.2.1 bt470.2.2.2).bind fun t476 => (if t476 = true then ((laws_toLayer.f k x411000 x411001 x411002 x411003 x411004 x411005 x411006 x411007 x411008).bind fun bt477 => ((laws_eqLayer.f k x461000 x461001 x461002 x461003 x461004 x461005 x461006 x461007 x461008 bt477.1 bt477.2.1 bt477.2.2.1 bt477.2.2.2.1 bt477.2.2.2.2.1 bt477.2.2.2.2.2.1 bt477.2.2.2.2.2.2.1 bt477.2.2.2.2.2.2.2.1 bt477.2.2.2.2.2.2.2.2).bind fun t490 => (if t490 = true then ((laws_markTensor.f k x447000 x447001 x447002 x447003 1).bind fun bt491 => ((laws_markLayer.f k x461000 x461001 x461002 x461003 x461004 x461005 x461006 x461007 x461008 bt491.1).bind fun bt493 => (if bt493.1 < 0 then (laws_FnExactRunLayer.j1 k x7 true x410000 x410001 x410002 x410003 x411000 x411001 x411002 x411003 x411004 x411005 x411006 x411007 x411008 x440000 x440001 x440002 x440003 x469000 x469001 x469002 x469003) else ((laws_eqTensor.f k x469000 x469001 x469002 x469003 x440000 x440001 x440002 x440003).bind fun t496 => (if t496 = true then (laws_FnExactRunLayer.j1 k x7 (x11 != x7) x410000 x410001 x410002 x410003 x411000 x411001 x411002 x411003 x411004 x411005 x411006 x411007 x411008 x440000 x440001 x440002 x440003 x469000 x469001 x469002 x469003) else (laws_FnExactRunLayer.j1 k x7 true x410000 x410001 x410002 x410003 x411000 x411001 x411002 x411003 x411004 x411005 x411006 x411007 x411008 x440000 x440001 x440002 x440003 x469000 x469001 x469002 x469003)))))) else (some false)))) else (some false))))
def laws_FnExactRunLayer.j1 : Nat → Bool → Bool → Int → Int → Int → List Int → Int → Int → Int → Int → Int → Int → Int → List Int → List Int → Int → Int → Int → List Int → Int → Int → Int → List Int → Option (Bool)
  | 0, _, _, _, _, _, _, _, _, _, _, _, _, _, _, _, _, _, _, _, _, _, _, _ => none
  | k + 1, x7, x82, x410000, x410001, x410002, x410003, x411000, x411001, x411002, x411003, x411004, x411005, x411006, x411007, x411008, x440000, x440001, x440002, x440003, x469000, x469001, x469002, x469003 => if x82 = true then (some false) else ((laws_markTensor.f k x469000 x469001 x469002 x469003 1).bind fun bt497 => ((laws_heldTensor.f k x469000 x469001 x469002 bt497.2 1).bind fun t499 => (if t499 < 0 then (some false) else (if t499 = bt497.1 then ((laws_toTensor.f k x410000 x410001 x410002 x410003).bind fun bt500 => ((laws_toLayer.f k x411000 x411001 x411002 x411003 x411004 x411005 x411006 x411007 x411008).bind fun bt506 => ((impl_RunLayer.f k bt500.1 bt500.2.1 bt500.2.2.1 bt500.2.2.2 bt506.1 bt506.2.1 bt506.2.2.1 bt506.2.2.2.1 bt506.2.2.2.2.1 bt506.2.2.2.2.2.1 bt506.2.2.2.2.2.2.1 bt506.2.2.2.2.2.2.2.1 bt506.2.2.2.2.2.2.2.2).bind fun bt519 => ((laws_eqTensor.f k bt519.1 bt519.2.1 bt519.2.2.1 bt519.2.2.2.1 x440000 x440001 x440002 x440003).bind fun t527 => (if t527 = true then (laws_FnExactRunLayer.j2 k bt497.1 (bt519.2.2.2.2 != x7) x469000 x469001 x469002 bt497.2) else (laws_FnExactRunLayer.j2 k bt497.1 true x469000 x469001 x469002 bt497.2)))))) else (some false)))))
def laws_FnExactRunLayer.j2 : Nat → Int → Bool → Int → Int → Int → List Int → Option (Bool)
  | 0, _, _, _, _, _, _ => none
  | k + 1, x13, x110, x469000, x469001, x469002, x469003 => if x110 = true then (some false) else ((laws_heldTensor.f k x469000 x469001 x469002 x469003 1).bind fun t528 => (if t528 < 0 then (some false) else (if t528 = x13 then (some true) else (some false))))
end
def laws_FnExactRunLayer.f (k : Nat) (a0_0 : Int) (a0_1 : Int) (a0_2 : Int) (l0_3 : List Int) (a1_0 : Int) (a1_1 : Int) (a1_2 : Int) (a1_3 : Int) (a1_4 : Int) (a1_5 : Int) (a1_6 : Int) (l1_7 : List Int) (l1_8 : List Int) : Option (Bool) := (laws_szTensor.f a0_0 a0_1 a0_2 l0_3 1048576).bind fun t411 => (if t411 < 0 then (some true) else ((laws_szLayer.f a1_0 a1_1 a1_2 a1_3 a1_4 a1_5 a1_6 l1_7 l1_8 t411).bind fun t412 => (if t412 < 0 then (some true) else ((laws_toTensor.f k a0_0 a0_1 a0_2 l0_3).bind fun bt413 => ((laws_toLayer.f k a1_0 a1_1 a1_2 a1_3 a1_4 a1_5 a1_6 l1_7 l1_8).bind fun bt419 => ((spec_RunLayer.f k bt413.1 bt413.2.1 bt413.2.2.1 bt413.2.2.2 bt419.1 bt419.2.1 bt419.2.2.1 bt419.2.2.2.1 bt419.2.2.2.2.1 bt419.2.2.2.2.2.1 bt419.2.2.2.2.2.2.1 bt419.2.2.2.2.2.2.2.1 bt419.2.2.2.2.2.2.2.2).bind fun bt432 => ((laws_toTensor.f k a0_0 a0_1 a0_2 l0_3).bind fun bt440 => ((laws_toLayer.f k a1_0 a1_1 a1_2 a1_3 a1_4 a1_5 a1_6 l1_7 l1_8).bind fun bt447 => ((impl_RunLayer.f k bt440.1 bt440.2.1 bt440.2.2.1 bt440.2.2.2 bt447.1 bt447.2.1 bt447.2.2.1 bt447.2.2.2.1 bt447.2.2.2.2.1 bt447.2.2.2.2.2.1 bt447.2.2.2.2.2.2.1 bt447.2.2.2.2.2.2.2.1 bt447.2.2.2.2.2.2.2.2).bind fun bt461 => ((laws_eqTensor.f k bt461.1 bt461.2.1 bt461.2.2.1 bt461.2.2.2.1 bt432.1 bt432.2.1 bt432.2.2.1 bt432.2.2.2.1).bind fun t469 => (if t469 = true then (laws_FnExactRunLayer.j0 k bt432.2.2.2.2 bt461.2.2.2.2 (bt461.2.2.2.2 != bt432.2.2.2.2) a0_0 a0_1 a0_2 l0_3 a1_0 a1_1 a1_2 a1_3 a1_4 a1_5 a1_6 l1_7 l1_8 bt432.1 bt432.2.1 bt432.2.2.1 bt432.2.2.2.1 bt440.1 bt440.2.1 bt440.2.2.1 bt440.2.2.2 bt447.1 bt447.2.1 bt447.2.2.1 bt447.2.2.2.1 bt447.2.2.2.2.1 bt447.2.2.2.2.2.1 bt447.2.2.2.2.2.2.1 bt447.2.2.2.2.2.2.2.1 bt447.2.2.2.2.2.2.2.2 bt461.1 bt461.2.1 bt461.2.2.1 bt461.2.2.2.1) else (laws_FnExactRunLayer.j0 k bt432.2.2.2.2 bt461.2.2.2.2 true a0_0 a0_1 a0_2 l0_3 a1_0 a1_1 a1_2 a1_3 a1_4 a1_5 a1_6 l1_7 l1_8 bt432.1 bt432.2.1 bt432.2.2.1 bt432.2.2.2.1 bt440.1 bt440.2.1 bt440.2.2.1 bt440.2.2.2 bt447.1 bt447.2.1 bt447.2.2.1 bt447.2.2.2.1 bt447.2.2.2.2.1 bt447.2.2.2.2.2.1 bt447.2.2.2.2.2.2.1 bt447.2.2.2.2.2.2.2.1 bt447.2.2.2.2.2.2.2.2 bt461.1 bt461.2.1 bt461.2.2.1 bt461.2.2.2.1))))))))))))
def laws_FnExactRunLayer.T8 : Bool × List (List Nat × List Nat) := (true, [([], []), ([0], [0]), ([], []), ([2, 1], [2]), ([1, 3, 3], [1, 3]), ([4], [4]), ([5], [5]), ([5], [5]), ([], []), ([8, 6, 4, 0, 1, 2, 3, 4, 5, 6, 8], [6, 8]), ([7, 9, 0, 1, 2, 3, 4, 5, 6, 7, 8, 9], [7])])
def laws_FnExactRunLayer.B8 : List Nat := [0, 1, 0, 7, 15, 31, 63, 63, 0, 383, 1023]
theorem laws_FnExactRunLayer.tab8 : rtab .any (opsOf Try.f3 8) = laws_FnExactRunLayer.T8 := by kernel_rfl
theorem laws_FnExactRunLayer.bits8 : waitsOk laws_FnExactRunLayer.T8.2 laws_FnExactRunLayer.B8 = true := by kernel_rfl
def laws_FnExactRunLayer.T31 : Bool × List (List Nat × List Nat) := (true, [([], []), ([0], [0]), ([], []), ([2, 1], [2]), ([1, 3, 3], [1, 3]), ([4], [4]), ([5], [5]), ([5], [5]), ([], []), ([8, 6, 4, 0, 1, 2, 3, 4, 5, 6, 8], [6, 8]), ([7, 9, 0, 1, 2, 3, 4, 5, 6, 7, 8, 9], [7])])
def laws_FnExactRunLayer.B31 : List Nat := [0, 1, 0, 7, 15, 31, 63, 63, 0, 383, 1023]
theorem laws_FnExactRunLayer.tab31 : rtab .any (opsOf Try.f3 31) = laws_FnExactRunLayer.T31 := by kernel_rfl
theorem laws_FnExactRunLayer.bits31 : waitsOk laws_FnExactRunLayer.T31.2 laws_FnExactRunLayer.B31 = true := by kernel_rfl
set_option maxHeartbeats 8000000 in
set_option maxRecDepth 100000 in
theorem laws_FnExactRunLayer.calls (k : Nat) (a0_0 : Int) (a0_1 : Int) (a0_2 : Int) (A0_3 : Option Addr) (c0_3 : Nat) (l0_3 : List Int) (a1_0 : Int) (a1_1 : Int) (a1_2 : Int) (a1_3 : Int) (a1_4 : Int) (a1_5 : Int) (a1_6 : Int) (A1_7 : Option Addr) (c1_7 : Nat) (l1_7 : List Int) (A1_8 : Option Addr) (c1_8 : Nat) (l1_8 : List Int) (w : World) (hr0_3 : Kd.C (Kd.int .i64) w A0_3 l0_3.length l0_3) (hc0_3 : l0_3.length ≤ c0_3) (hr1_7 : Kd.C (Kd.int .i64) w A1_7 l1_7.length l1_7) (hc1_7 : l1_7.length ≤ c1_7) (hr1_8 : Kd.C (Kd.int .i64) w A1_8 l1_8.length l1_8) (hc1_8 : l1_8.length ≤ c1_8) (h : laws_FnExactRunLayer.f k a0_0 a0_1 a0_2 l0_3 a1_0 a1_1 a1_2 a1_3 a1_4 a1_5 a1_6 l1_7 l1_8 = some true) :
   Calls Try.prog 3 #[.agg #[.int .i64 a0_0, .int .i64 a0_1, .int .i64 a0_2, .slice A0_3 l0_3.length c0_3], .agg #[.int .i64 a1_0, .int .i64 a1_1, .int .i64 a1_2, .int .i64 a1_3, .int .i64 a1_4, .int .i64 a1_5, .int .i64 a1_6, .slice A1_7 l1_7.length c1_7, .slice A1_8 l1_8.length c1_8]] w fun e w' => e = .returned (.bool true) ∧ Below w.heap.size w w' := by
  have hu26 := Try.underlying26
  have hu28 := Try.underlying28
  have hu33 := Try.underlying33
  have hu37 := Try.underlying37
  have HR0_3 := Aside0.mk hr0_3
  have HC0_3 := Aside0.mk hc0_3
  clear hr0_3 hc0_3
  have HR1_7 := Aside0.mk hr1_7
  have HC1_7 := Aside0.mk hc1_7
  clear hr1_7 hc1_7
  have HR1_8 := Aside0.mk hr1_8
  have HC1_8 := Aside0.mk hc1_8
  clear hr1_8 hc1_8
  have HB := Aside0.mk (Below.refl w.heap.size w)
  have H : ((laws_szTensor.f a0_0 a0_1 a0_2 l0_3 1048576).bind fun t411 => (if t411 < 0 then (some true) else ((laws_szLayer.f a1_0 a1_1 a1_2 a1_3 a1_4 a1_5 a1_6 l1_7 l1_8 t411).bind fun t412 => (if t412 < 0 then (some true) else ((laws_toTensor.f k a0_0 a0_1 a0_2 l0_3).bind fun bt413 => ((laws_toLayer.f k a1_0 a1_1 a1_2 a1_3 a1_4 a1_5 a1_6 l1_7 l1_8).bind fun bt419 => ((spec_RunLayer.f k bt413.1 bt413.2.1 bt413.2.2.1 bt413.2.2.2 bt419.1 bt419.2.1 bt419.2.2.1 bt419.2.2.2.1 bt419.2.2.2.2.1 bt419.2.2.2.2.2.1 bt419.2.2.2.2.2.2.1 bt419.2.2.2.2.2.2.2.1 bt419.2.2.2.2.2.2.2.2).bind fun bt432 => ((laws_toTensor.f k a0_0 a0_1 a0_2 l0_3).bind fun bt440 => ((laws_toLayer.f k a1_0 a1_1 a1_2 a1_3 a1_4 a1_5 a1_6 l1_7 l1_8).bind fun bt447 => ((impl_RunLayer.f k bt440.1 bt440.2.1 bt440.2.2.1 bt440.2.2.2 bt447.1 bt447.2.1 bt447.2.2.1 bt447.2.2.2.1 bt447.2.2.2.2.1 bt447.2.2.2.2.2.1 bt447.2.2.2.2.2.2.1 bt447.2.2.2.2.2.2.2.1 bt447.2.2.2.2.2.2.2.2).bind fun bt461 => ((laws_eqTensor.f k bt461.1 bt461.2.1 bt461.2.2.1 bt461.2.2.2.1 bt432.1 bt432.2.1 bt432.2.2.1 bt432.2.2.2.1).bind fun t469 => (if t469 = true then (laws_FnExactRunLayer.j0 k bt432.2.2.2.2 bt461.2.2.2.2 (bt461.2.2.2.2 != bt432.2.2.2.2) a0_0 a0_1 a0_2 l0_3 a1_0 a1_1 a1_2 a1_3 a1_4 a1_5 a1_6 l1_7 l1_8 bt432.1 bt432.2.1 bt432.2.2.1 bt432.2.2.2.1 bt440.1 bt440.2.1 bt440.2.2.1 bt440.2.2.2 bt447.1 bt447.2.1 bt447.2.2.1 bt447.2.2.2.1 bt447.2.2.2.2.1 bt447.2.2.2.2.2.1 bt447.2.2.2.2.2.2.1 bt447.2.2.2.2.2.2.2.1 bt447.2.2.2.2.2.2.2.2 bt461.1 bt461.2.1 bt461.2.2.1 bt461.2.2.2.1) else (laws_FnExactRunLayer.j0 k bt432.2.2.2.2 bt461.2.2.2.2 true a0_0 a0_1 a0_2 l0_3 a1_0 a1_1 a1_2 a1_3 a1_4 a1_5 a1_6 l1_7 l1_8 bt432.1 bt432.2.1 bt432.2.2.1 bt432.2.2.2.1 bt440.1 bt440.2.1 bt440.2.2.1 bt440.2.2.2 bt447.1 bt447.2.1 bt447.2.2.1 bt447.2.2.2.1 bt447.2.2.2.2.1 bt447.2.2.2.2.2.1 bt447.2.2.2.2.2.2.1 bt447.2.2.2.2.2.2.2.1 bt447.2.2.2.2.2.2.2.2 bt461.1 bt461.2.1 bt461.2.2.1 bt461.2.2.2.1))))))))))))) = some true := h
  clear h
  replace H := Option.bind_eq_some_iff.mp H
  obtain ⟨t411, A30, H⟩ := H
  (try dsimp only at H)
  have A3 := Aside0.mk A30
  clear A30
  by_cases c4 : t411 < 0
  ·rw [if_pos c4] at H
   have c4b0 : decide (t411 < 0) = true := decide_eq_true c4
   clear c4
   clear H
   go_enter Try.func3, Try.ntmps3
   go_wp2_with (first | ((with_reducible refine gate_dst (N := 2) rfl ?_); refine boxM 2 #[.int .i64 a0_0, .int .i64 a0_1, .int .i64 a0_2, .slice A0_3 l0_3.length c0_3] 26 ?_; intro gb409 hg w5 BK409 hb; replace HB := box_at w hb hg; obtain ⟨HB, GW409, GE409⟩ := HB; clear hb hg) | ((with_reducible refine gate_dst (N := 3) rfl ?_); refine boxM 3 #[.int .i64 a1_0, .int .i64 a1_1, .int .i64 a1_2, .int .i64 a1_3, .int .i64 a1_4, .int .i64 a1_5, .int .i64 a1_6, .slice A1_7 l1_7.length c1_7, .slice A1_8 l1_8.length c1_8] 28 ?_; intro gb410 hg w6 BK410 hb; replace HB := box_at w hb hg; obtain ⟨HB, GW410, GE410⟩ := HB; replace BK409 := box_on gb409 hb hg; obtain ⟨BK409, NB409_410, NB410_409⟩ := BK409; clear hb hg; have hn7 := ne2 NB409_410; have hcz8 := cells4 BK409.out) | ((with_reducible refine gate_callee (f := 8) rfl ?_); refine goesM (some 19) rfl rfl Try.func8 (by kernel_rfl) rfl #[.agg #[.int .i64 a0_0, .int .i64 a0_1, .int .i64 a0_2, .slice A0_3 l0_3.length c0_3], .int .i64 1048576] rfl ?_; (with_reducible refine (laws_szTensor.calls a0_0 a0_1 a0_2 _ _ l0_3 1048576 t411 _ ?side1 ?side2 A3.out).mono ?_); (case side1 => exact C_now HR0_3.out); (case side2 => exact HC0_3.out); rintro e w9 ⟨rfl, hb⟩; refine ⟨_, rfl, ?_⟩; replace HB := bel_on w hb; replace BK409 := blk_on gb409 hb; replace BK410 := blk_on gb410 hb; (try clear hb)))
   go_ret
   exact ⟨eqN, bel_now⟩
  rw [if_neg c4] at H
  have c4b0 : decide (t411 < 0) = false := decide_eq_false c4
  clear c4
  replace H := Option.bind_eq_some_iff.mp H
  obtain ⟨t412, A100, H⟩ := H
  (try dsimp only at H)
  have A10 := Aside0.mk A100
  clear A100
  by_cases c11 : t412 < 0
  ·rw [if_pos c11] at H
   have c11b0 : decide (t412 < 0) = true := decide_eq_true c11
   clear c11
   clear H
   go_enter Try.func3, Try.ntmps3
   go_wp2_with (first | ((with_reducible refine gate_dst (N := 2) rfl ?_); refine boxM 2 #[.int .i64 a0_0, .int .i64 a0_1, .int .i64 a0_2, .slice A0_3 l0_3.length c0_3] 26 ?_; intro gb409 hg w12 BK409 hb; replace HB := box_at w hb hg; obtain ⟨HB, GW409, GE409⟩ := HB; clear hb hg) | ((with_reducible refine gate_dst (N := 3) rfl ?_); refine boxM 3 #[.int .i64 a1_0, .int .i64 a1_1, .int .i64 a1_2, .int .i64 a1_3, .int .i64 a1_4, .int .i64 a1_5, .int .i64 a1_6, .slice A1_7 l1_7.length c1_7, .slice A1_8 l1_8.length c1_8] 28 ?_; intro gb410 hg w13 BK410 hb; replace HB := box_at w hb hg; obtain ⟨HB, GW410, GE410⟩ := HB; replace BK409 := box_on gb409 hb hg; obtain ⟨BK409, NB409_410, NB410_409⟩ := BK409; clear hb hg; have hn14 := ne2 NB409_410; have hcz15 := cells4 BK409.out) | ((with_reducible refine gate_callee (f := 8) rfl ?_); refine goesM (some 19) rfl rfl Try.func8 (by kernel_rfl) rfl #[.agg #[.int .i64 a0_0, .int .i64 a0_1, .int .i64 a0_2, .slice A0_3 l0_3.length c0_3], .int .i64 1048576] rfl ?_; (with_reducible refine (laws_szTensor.calls a0_0 a0_1 a0_2 _ _ l0_3 1048576 t411 _ ?side1 ?side2 A3.out).mono ?_); (case side1 => exact C_now HR0_3.out); (case side2 => exact HC0_3.out); rintro e w16 ⟨rfl, hb⟩; refine ⟨_, rfl, ?_⟩; replace HB := bel_on w hb; replace BK409 := blk_on gb409 hb; replace BK410 := blk_on gb410 hb; (try clear hb); have hcz17 := cells9 BK410.out) | ((with_reducible refine gate_callee (f := 9) rfl ?_); refine goesM (some 24) rfl rfl Try.func9 (by kernel_rfl) rfl #[.agg #[.int .i64 a1_0, .int .i64 a1_1, .int .i64 a1_2, .int .i64 a1_3, .int .i64 a1_4, .int .i64 a1_5, .int .i64 a1_6, .slice A1_7 l1_7.length c1_7, .slice A1_8 l1_8.length c1_8], .int .i64 t411] rfl ?_; (with_reducible refine (laws_szLayer.calls a1_0 a1_1 a1_2 a1_3 a1_4 a1_5 a1_6 _ _ l1_7 _ _ l1_8 t411 t412 _ ?side1 ?side2 ?side3 ?side4 A10.out).mono ?_); (case side1 => exact C_now HR1_7.out); (case side2 => exact HC1_7.out); (case side3 => exact C_now HR1_8.out); (case side4 => exact HC1_8.out); rintro e w18 ⟨rfl, hb⟩; refine ⟨_, rfl, ?_⟩; replace HB := bel_on w hb; replace BK409 := blk_on gb409 hb; replace BK410 := blk_on gb410 hb; (try clear hb)))
   go_ret
   exact ⟨eqN, bel_now⟩
  rw [if_neg c11] at H
  have c11b0 : decide (t412 < 0) = false := decide_eq_false c11
  clear c11
  replace H := Option.bind_eq_some_iff.mp H
  obtain ⟨⟨t413, t414, t415, t416⟩, A190, H⟩ := H
  (try dsimp only at H)
  have A19 := Aside0.mk A190
  clear A190
  replace H := Option.bind_eq_some_iff.mp H
  obtain ⟨⟨t419, t420, t421, t422, t423, t424, t425, t426, t429⟩, A200, H⟩ := H
  (try dsimp only at H)
  have A20 := Aside0.mk A200
  clear A200
  replace H := Option.bind_eq_some_iff.mp H
  obtain ⟨⟨t432, t433, t434, t435, t438⟩, A210, H⟩ := H
  (try dsimp only at H)
  have A21 := Aside0.mk A210
  clear A210
  replace H := Option.bind_eq_some_iff.mp H
  obtain ⟨⟨t440, t441, t442, t443⟩, A220, H⟩ := H
  (try dsimp only at H)
  have A22 := Aside0.mk A220
  clear A220
  replace H := Option.bind_eq_some_iff.mp H
  obtain ⟨⟨t447, t448, t449, t450, t451, t452, t453, t454, t457⟩, A230, H⟩ := H
  (try dsimp only at H)
  have A23 := Aside0.mk A230
  clear A230
  replace H := Option.bind_eq_some_iff.mp H
  obtain ⟨⟨t461, t462, t463, t464, t467⟩, A240, H⟩ := H
  (try dsimp only at H)
  have A24 := Aside0.mk A240
  clear A240
  have HC25 := Aside0.mk H
  clear H
  go_enter Try.func3, Try.ntmps3
  try go_wp2_with (first | ((with_reducible refine gate_dst (N := 2) rfl ?_); refine boxM 2 #[.int .i64 a0_0, .int .i64 a0_1, .int .i64 a0_2, .slice A0_3 l0_3.length c0_3] 26 ?_; intro gb409 hg w26 BK409 hb; replace HB := box_at w hb hg; obtain ⟨HB, GW409, GE409⟩ := HB; clear hb hg) | ((with_reducible refine gate_dst (N := 3) rfl ?_); refine boxM 3 #[.int .i64 a1_0, .int .i64 a1_1, .int .i64 a1_2, .int .i64 a1_3, .int .i64 a1_4, .int .i64 a1_5, .int .i64 a1_6, .slice A1_7 l1_7.length c1_7, .slice A1_8 l1_8.length c1_8] 28 ?_; intro gb410 hg w27 BK410 hb; replace HB := box_at w hb hg; obtain ⟨HB, GW410, GE410⟩ := HB; replace BK409 := box_on gb409 hb hg; obtain ⟨BK409, NB409_410, NB410_409⟩ := BK409; clear hb hg; have hn28 := ne2 NB409_410; have hcz29 := cells4 BK409.out) | ((with_reducible refine gate_callee (f := 8) rfl ?_); refine goesM (some 19) rfl rfl Try.func8 (by kernel_rfl) rfl #[.agg #[.int .i64 a0_0, .int .i64 a0_1, .int .i64 a0_2, .slice A0_3 l0_3.length c0_3], .int .i64 1048576] rfl ?_; (with_reducible refine (laws_szTensor.calls a0_0 a0_1 a0_2 _ _ l0_3 1048576 t411 _ ?side1 ?side2 A3.out).mono ?_); (case side1 => exact C_now HR0_3.out); (case side2 => exact HC0_3.out); rintro e w30 ⟨rfl, hb⟩; refine ⟨_, rfl, ?_⟩; replace HB := bel_on w hb; replace BK409 := blk_on gb409 hb; replace BK410 := blk_on gb410 hb; (try clear hb); have hcz31 := cells9 BK410.out) | ((with_reducible refine gate_callee (f := 9) rfl ?_); refine goesM (some 24) rfl rfl Try.func9 (by kernel_rfl) rfl #[.agg #[.int .i64 a1_0, .int .i64 a1_1, .int .i64 a1_2, .int .i64 a1_3, .int .i64 a1_4, .int .i64 a1_5, .int .i64 a1_6, .slice A1_7 l1_7.length c1_7, .slice A1_8 l1_8.length c1_8], .int .i64 t411] rfl ?_; (with_reducible refine (laws_szLayer.calls a1_0 a1_1 a1_2 a1_3 a1_4 a1_5 a1_6 _ _ l1_7 _ _ l1_8 t411 t412 _ ?side1 ?side2 ?side3 ?side4 A10.out).mono ?_); (case side1 => exact C_now HR1_7.out); (case side2 => exact HC1_7.out); (case side3 => exact C_now HR1_8.out); (case side4 => exact HC1_8.out); rintro e w32 ⟨rfl, hb⟩; refine ⟨_, rfl, ?_⟩; replace HB := bel_on w hb; replace BK409 := blk_on gb409 hb; replace BK410 := blk_on gb410 hb; (try clear hb)))
  replace BK409 := Aside0.mk (blk_drew BK409.out)
  replace BK410 := Aside0.mk (blk_drew BK410.out)
  replace HB := Aside0.mk (below_drew1 HB.out)
  refine start_ (n := 11) (S := fun w' => w'.cell? ⟨gb409, 0, none⟩ = some (.int .i64 a0_0) ∧ w'.cell? ⟨gb409, 1, none⟩ = some (.int .i64 a0_1) ∧ w'.cell? ⟨gb409, 2, none⟩ = some (.int .i64 a0_2) ∧ w'.cell? ⟨gb409, 3, none⟩ = some (.slice A0_3 l0_3.length c0_3) ∧ w'.cell? ⟨gb410, 0, none⟩ = some (.int .i64 a1_0) ∧ w'.cell? ⟨gb410, 1, none⟩ = some (.int .i64 a1_1) ∧ w'.cell? ⟨gb410, 2, none⟩ = some (.int .i64 a1_2) ∧ w'.cell? ⟨gb410, 3, none⟩ = some (.int .i64 a1_3) ∧ w'.cell? ⟨gb410, 4, none⟩ = some (.int .i64 a1_4) ∧ w'.cell? ⟨gb410, 5, none⟩ = some (.int .i64 a1_5) ∧ w'.cell? ⟨gb410, 6, none⟩ = some (.int .i64 a1_6) ∧ w'.cell? ⟨gb410, 7, none⟩ = some (.slice A1_7 l1_7.length c1_7) ∧ w'.cell? ⟨gb410, 8, none⟩ = some (.slice A1_8 l1_8.length c1_8)) (ds := []) #[O, O, O, O, O, O, O, O, O, O, O] (by kernel_rfl) rfl rfl ⟨bc BK409 0, bc BK409 1, bc BK409 2, bc BK409 3, bc BK410 0, bc BK410 1, bc BK410 2, bc BK410 3, bc BK410 4, bc BK410 5, bc BK410 6, bc BK410 7, bc BK410 8⟩ (fun hHeld => ?_); refine with_tabW laws_FnExactRunLayer.tab8 laws_FnExactRunLayer.bits8 (fun HT_ HW_ => ?_)
  generalize w32.drew = w33 at BK409 BK410 HB hHeld ⊢
  refine stepT 0 (some 28) (tk 11 1) (take_ofW HT_.out HW_.out (by kernel_rfl)) hHeld ?_
  refine stepT 2 (some 30) (tk 11 5) (take_ofW HT_.out HW_.out (by kernel_rfl)) hHeld ?_
  refine join_ (σ := Value × Value × Value × Value × Nat) 2 #[I, I, I, I, I, I, I, I, I, O, O] (fun s_ => [(29, .agg #[.int .i64 t413, .int .i64 t414, .int .i64 t415, s_.1]), (31, .agg #[.int .i64 t419, .int .i64 t420, .int .i64 t421, .int .i64 t422, .int .i64 t423, .int .i64 t424, .int .i64 t425, s_.2.1, s_.2.2.1]), (32, .tuple #[.agg #[.int .i64 t432, .int .i64 t433, .int .i64 t434, s_.2.2.2.1], .bool t438]), (6, .pointer (some ⟨s_.2.2.2.2, 0, none⟩)), (27, .tuple #[.agg #[.int .i64 t432, .int .i64 t433, .int .i64 t434, s_.2.2.2.1], .bool t438]), (33, .agg #[.int .i64 t432, .int .i64 t433, .int .i64 t434, s_.2.2.2.1]), (34, .bool t438)]) (fun s_ w' => (w'.cell? ⟨gb409, 0, none⟩ = some (.int .i64 a0_0) ∧ w'.cell? ⟨gb409, 1, none⟩ = some (.int .i64 a0_1) ∧ w'.cell? ⟨gb409, 2, none⟩ = some (.int .i64 a0_2) ∧ w'.cell? ⟨gb409, 3, none⟩ = some (.slice A0_3 l0_3.length c0_3) ∧ w'.cell? ⟨gb410, 0, none⟩ = some (.int .i64 a1_0) ∧ w'.cell? ⟨gb410, 1, none⟩ = some (.int .i64 a1_1) ∧ w'.cell? ⟨gb410, 2, none⟩ = some (.int .i64 a1_2) ∧ w'.cell? ⟨gb410, 3, none⟩ = some (.int .i64 a1_3) ∧ w'.cell? ⟨gb410, 4, none⟩ = some (.int .i64 a1_4) ∧ w'.cell? ⟨gb410, 5, none⟩ = some (.int .i64 a1_5) ∧ w'.cell? ⟨gb410, 6, none⟩ = some (.int .i64 a1_6) ∧ w'.cell? ⟨gb410, 7, none⟩ = some (.slice A1_7 l1_7.length c1_7) ∧ w'.cell? ⟨gb410, 8, none⟩ = some (.slice A1_8 l1_8.length c1_8)) ∧ (Kd.R (Kd.int .i64) 3 w' w.heap.size (fun k_ => some k_ ≠ (s_.2.1 : Value).ownBlock ∧ some k_ ≠ (s_.2.2.1 : Value).ownBlock ∧ some k_ ≠ (s_.2.2.2.1 : Value).ownBlock) s_.1 t416) ∧ (Kd.R (Kd.int .i64) 3 w' w.heap.size (fun k_ => some k_ ≠ (s_.1 : Value).ownBlock ∧ some k_ ≠ (s_.2.2.1 : Value).ownBlock ∧ some k_ ≠ (s_.2.2.2.1 : Value).ownBlock) s_.2.1 t426) ∧ (Kd.R (Kd.int .i64) 3 w' w.heap.size (fun k_ => some k_ ≠ (s_.1 : Value).ownBlock ∧ some k_ ≠ (s_.2.1 : Value).ownBlock ∧ some k_ ≠ (s_.2.2.2.1 : Value).ownBlock) s_.2.2.1 t429) ∧ (Kd.R (Kd.int .i64) 3 w' w.heap.size (fun k_ => some k_ ≠ (s_.1 : Value).ownBlock ∧ some k_ ≠ (s_.2.1 : Value).ownBlock ∧ some k_ ≠ (s_.2.2.1 : Value).ownBlock) s_.2.2.2.1 t435) ∧ (w'.heap[gb409]? = some (.cells #[.int .i64 a0_0, .int .i64 a0_1, .int .i64 a0_2, .slice A0_3 l0_3.length c0_3] 26 (0, 0))) ∧ (w'.heap[gb410]? = some (.cells #[.int .i64 a1_0, .int .i64 a1_1, .int .i64 a1_2, .int .i64 a1_3, .int .i64 a1_4, .int .i64 a1_5, .int .i64 a1_6, .slice A1_7 l1_7.length c1_7, .slice A1_8 l1_8.length c1_8] 28 (0, 0))) ∧ (w'.heap[s_.2.2.2.2]? = some (.cells #[.int .i64 0, .int .i64 0, .int .i64 0, .slice none 0 0] 33 (0, 0))) ∧ (w.heap.size ≤ s_.2.2.2.2) ∧ (w.heap.size ≤ s_.2.2.2.2) ∧ (gb409 ≠ s_.2.2.2.2) ∧ (s_.2.2.2.2 ≠ gb409) ∧ (gb410 ≠ s_.2.2.2.2) ∧ (s_.2.2.2.2 ≠ gb410) ∧ (Below w.heap.size w w')) ?_ ?_
  rotate_left
  ·intro hCont
   refine two_ (i := 1) (j := 8) (Ni := some 29) (Nj := some 6) #[I, I, I, O, O, O, O, O, O, O, O] #[I, O, I, O, O, O, O, O, I, O, O] rfl rfl rfl rfl (two_of HT_.out (by kernel_rfl)) (by decide) (by decide) (fun K hK => ?_) (fun K hK => ?_)
   rotate_left
   ·skip
    refine box_step ?hg (N := 6) ?hd (cs := #[.int .i64 0, .int .i64 0, .int .i64 0, .slice none 0 0]) (t := 33) ?hr ?_; (case hd => rfl); (case hg => rfl); (case hr => first | (go_simp; done) | (go_simp; rfl))
    intro gb439 hg w34 hbox hb
    have n3_ := Aside0.mk (hbox)
    have n4_ := Aside0.mk ((by rw [hg]; exact (below_size bel_now) : w.heap.size ≤ gb439))
    have n5_ := Aside0.mk ((by rw [hg]; exact (below_size bel_now) : w.heap.size ≤ gb439))
    have n6_ := Aside0.mk ((by rw [hg]; exact Nat.ne_of_lt (blk_lt (g := gb409) blk_now) : gb409 ≠ gb439))
    have n7_ := Aside0.mk ((by rw [hg]; exact Nat.ne_of_gt (blk_lt (g := gb409) blk_now) : gb439 ≠ gb409))
    have n8_ := Aside0.mk ((by rw [hg]; exact Nat.ne_of_lt (blk_lt (g := gb410) blk_now) : gb410 ≠ gb439))
    have n9_ := Aside0.mk ((by rw [hg]; exact Nat.ne_of_gt (blk_lt (g := gb410) blk_now) : gb439 ≠ gb410))
    replace BK409 := blk_on gb409 hb
    replace BK410 := blk_on gb410 hb
    replace HB := bel_on w hb
    have BK439 := n3_
    have GW439 := n4_
    have GE439 := n5_
    have NB409_439 := n6_
    have NB439_409 := n7_
    have NB410_439 := n8_
    have NB439_410 := n9_
    clear n3_ n4_ n5_ n6_ n7_ n8_ n9_
    clear hb hbox hg
    refine hK.out _ _ ⟨bc BK409 0, bc BK409 1, bc BK409 2, bc BK409 3, bc BK410 0, bc BK410 1, bc BK410 2, bc BK410 3, bc BK410 4, bc BK410 5, bc BK410 6, bc BK410 7, bc BK410 8⟩ (fun hHeld => ?_)
    clear hK K
    refine normP 6 ?_
    refine one_ (i := 1) (N := some 29) #[I, I, I, O, O, O, O, O, I, O, O] rfl rfl (one_of HT_.out (by kernel_rfl)) (by decide) (fun K hK => ?_)
    refine goes_ Try.func11 (by kernel_rfl) rfl #[.agg #[.int .i64 a0_0, .int .i64 a0_1, .int .i64 a0_2, .slice A0_3 l0_3.length c0_3]] (by rfl) rfl rfl (by (try simp only [List.map_toArray, List.map_cons, List.map_nil]); first | done | rfl | (simp only [List.length_drop, List.length_take]; rfl)) ?_
    with_reducible refine (laws_toTensor.calls k a0_0 a0_1 a0_2 _ _ l0_3 t413 t414 t415 t416 _ ?side1 ?side2 A19.out).mono ?_
    (case side1 => exact C_now HR0_3.out)
    (case side2 => exact HC0_3.out)
    rintro e w35 ⟨v417, rfl, ho0, hb⟩
    refine ⟨_, rfl, ?_⟩
    have n0_ := Aside0.mk (Kd.R_lower ho0 (below_size bel_now))
    replace BK409 := blk_on gb409 hb
    replace BK410 := blk_on gb410 hb
    replace BK439 := blk_on gb439 hb
    replace HB := bel_on w hb
    have HO418 := n0_
    clear n0_
    (try clear hb)
    (try clear ho0)
    refine hK.out _ _ ⟨bc BK409 0, bc BK409 1, bc BK409 2, bc BK409 3, bc BK410 0, bc BK410 1, bc BK410 2, bc BK410 3, bc BK410 4, bc BK410 5, bc BK410 6, bc BK410 7, bc BK410 8⟩ (fun hHeld => ?_)
    clear hK K
    refine normP 29 ?_
    refine one_ (i := 3) (N := some 31) #[I, I, I, I, O, O, O, O, I, O, O] rfl rfl (one_of HT_.out (by kernel_rfl)) (by decide) (fun K hK => ?_)
    refine goes_ Try.func12 (by kernel_rfl) rfl #[.agg #[.int .i64 a1_0, .int .i64 a1_1, .int .i64 a1_2, .int .i64 a1_3, .int .i64 a1_4, .int .i64 a1_5, .int .i64 a1_6, .slice A1_7 l1_7.length c1_7, .slice A1_8 l1_8.length c1_8]] (by rfl) rfl rfl (by (try simp only [List.map_toArray, List.map_cons, List.map_nil]); first | done | rfl | (simp only [List.length_drop, List.length_take]; rfl)) ?_
    with_reducible refine (laws_toLayer.calls k a1_0 a1_1 a1_2 a1_3 a1_4 a1_5 a1_6 _ _ l1_7 _ _ l1_8 t419 t420 t421 t422 t423 t424 t425 t426 t429 _ ?side1 ?side2 ?side3 ?side4 A20.out).mono ?_
    (case side1 => exact C_now HR1_7.out)
    (case side2 => exact HC1_7.out)
    (case side3 => exact C_now HR1_8.out)
    (case side4 => exact HC1_8.out)
    rintro e w36 ⟨v427, v430, rfl, ho0, ho1, hb⟩
    refine ⟨_, rfl, ?_⟩
    have n1_ := Aside0.mk (Kd.R_lower (Kd.R_new' ho0 (Kd.R_lt (R_at HO418.out))) (below_size bel_now))
    have n2_ := Aside0.mk (Kd.R_lower (Kd.R_new' ho1 (Kd.R_lt (R_at HO418.out))) (below_size bel_now))
    replace HO418 := Aside0.mk (Kd.R_mono (Kd.R_told (Kd.R_told (Kd.R_old (R_at HO418.out) hb) (Kd.R_base ho0)) (Kd.R_base ho1)) (fun _ h_ => h_.1))
    replace BK409 := blk_on gb409 hb
    replace BK410 := blk_on gb410 hb
    replace BK439 := blk_on gb439 hb
    replace HB := bel_on w hb
    have HO428 := n1_
    have HO431 := n2_
    clear n1_ n2_
    (try clear hb)
    (try clear ho0)
    (try clear ho1)
    obtain ⟨Ao37, co37, eo37⟩ := Kd.R_slice HO418.out
    (first | subst eo37 | (injection eo37 with f1_ f2_ f3_; have f4_ := f1_.symm; have f5_ := f3_.symm; clear f1_ f2_ f3_; subst f4_; subst f5_))
    obtain ⟨Ao38, co38, eo38⟩ := Kd.R_slice HO428.out
    (first | subst eo38 | (injection eo38 with f1_ f2_ f3_; have f4_ := f1_.symm; have f5_ := f3_.symm; clear f1_ f2_ f3_; subst f4_; subst f5_))
    obtain ⟨Ao39, co39, eo39⟩ := Kd.R_slice HO431.out
    (first | subst eo39 | (injection eo39 with f1_ f2_ f3_; have f4_ := f1_.symm; have f5_ := f3_.symm; clear f1_ f2_ f3_; subst f4_; subst f5_))
    refine hK.out _ _ ⟨bc BK409 0, bc BK409 1, bc BK409 2, bc BK409 3, bc BK410 0, bc BK410 1, bc BK410 2, bc BK410 3, bc BK410 4, bc BK410 5, bc BK410 6, bc BK410 7, bc BK410 8⟩ (fun hHeld => ?_)
    clear hK K
    refine normP 31 ?_
    refine one_ (i := 4) (N := some 32) #[I, I, I, I, I, O, O, O, I, O, O] rfl rfl (one_of HT_.out (by kernel_rfl)) (by decide) (fun K hK => ?_)
    refine goes_ Try.func10 (by kernel_rfl) rfl #[.agg #[.int .i64 t413, .int .i64 t414, .int .i64 t415, .slice Ao37 t416.length co37], .agg #[.int .i64 t419, .int .i64 t420, .int .i64 t421, .int .i64 t422, .int .i64 t423, .int .i64 t424, .int .i64 t425, .slice Ao38 t426.length co38, .slice Ao39 t429.length co39]] (by rfl) rfl rfl (by (try simp only [List.map_toArray, List.map_cons, List.map_nil]); first | done | rfl | (simp only [List.length_drop, List.length_take]; rfl)) ?_
    with_reducible refine (spec_RunLayer.calls k t413 t414 t415 _ _ t416 t419 t420 t421 t422 t423 t424 t425 _ _ t426 _ _ t429 t432 t433 t434 t435 t438 _ ?side1 ?side2 ?side3 ?side4 ?side5 ?side6 A21.out).mono ?_
    (case side1 => exact (Kd.R_reads' (R_at HO418.out)).2.2)
    (case side2 => exact (Kd.R_reads' HO418.out).2.1)
    (case side3 => exact (Kd.R_reads' (R_at HO428.out)).2.2)
    (case side4 => exact (Kd.R_reads' HO428.out).2.1)
    (case side5 => exact (Kd.R_reads' (R_at HO431.out)).2.2)
    (case side6 => exact (Kd.R_reads' HO431.out).2.1)
    rintro e w40 ⟨v436, rfl, ho0, hb⟩
    refine ⟨_, rfl, ?_⟩
    have n3_ := Aside0.mk (Kd.R_lower (Kd.R_new' (Kd.R_new' (Kd.R_new' ho0 (Kd.R_lt (R_at HO418.out))) (Kd.R_lt (R_at HO428.out))) (Kd.R_lt (R_at HO431.out))) (below_size bel_now))
    replace HO418 := Aside0.mk (Kd.R_elder' (R_at HO418.out) (Kd.R_base ho0) hb)
    replace HO428 := Aside0.mk (Kd.R_elder' (R_at HO428.out) (Kd.R_base ho0) hb)
    replace HO431 := Aside0.mk (Kd.R_elder' (R_at HO431.out) (Kd.R_base ho0) hb)
    replace BK409 := blk_on gb409 hb
    replace BK410 := blk_on gb410 hb
    replace BK439 := blk_on gb439 hb
    replace HB := bel_on w hb
    have HO437 := n3_
    clear n3_
    (try clear hb)
    (try clear ho0)
    refine hK.out _ _ ⟨bc BK409 0, bc BK409 1, bc BK409 2, bc BK409 3, bc BK410 0, bc BK410 1, bc BK410 2, bc BK410 3, bc BK410 4, bc BK410 5, bc BK410 6, bc BK410 7, bc BK410 8⟩ (fun hHeld => ?_)
    clear hK K
    refine normP 32 ?_
    refine stepP 5 (some 27) (tk 11 319) (any_of HT_.out (by kernel_rfl)) ?_
    refine stepP 6 (some 33) (tk 11 383) (any_of HT_.out (by kernel_rfl)) ?_
    refine stepP 7 (some 34) (tk 11 511) (any_of HT_.out (by kernel_rfl)) ?_
    exact norm_ (by simp only [putAll, Act.put, zA, zB, zC]) (hCont (.slice Ao37 t416.length co37, .slice Ao38 t426.length co38, .slice Ao39 t429.length co39, v436, gb439) _ ⟨hHeld, (R_at (Kd.R_mono HO418.out (fun _ hk => ⟨hk.1.1.2, ⟨hk.1.2, hk.2⟩⟩))), (R_at (Kd.R_mono HO428.out (fun _ hk => ⟨hk.1.2, ⟨hk.1.1, hk.2⟩⟩))), (R_at (Kd.R_mono HO431.out (fun _ hk => ⟨hk.1.2, ⟨hk.1.1, hk.2⟩⟩))), (R_at (Kd.R_mono HO437.out (fun _ hk => ⟨hk.1.1.2, ⟨hk.1.2, hk.2⟩⟩))), blk_now, blk_now, blk_now, GW439.out, GE439.out, NB409_439.out, NB439_409.out, NB410_439.out, NB439_410.out, bel_now⟩)
   skip
   refine goes_ Try.func11 (by kernel_rfl) rfl #[.agg #[.int .i64 a0_0, .int .i64 a0_1, .int .i64 a0_2, .slice A0_3 l0_3.length c0_3]] (by rfl) rfl rfl (by (try simp only [List.map_toArray, List.map_cons, List.map_nil]); first | done | rfl | (simp only [List.length_drop, List.length_take]; rfl)) ?_
   with_reducible refine (laws_toTensor.calls k a0_0 a0_1 a0_2 _ _ l0_3 t413 t414 t415 t416 _ ?side1 ?side2 A19.out).mono ?_
   (case side1 => exact C_now HR0_3.out)
   (case side2 => exact HC0_3.out)
   rintro e w34 ⟨v417, rfl, ho0, hb⟩
   refine ⟨_, rfl, ?_⟩
   have n0_ := Aside0.mk (Kd.R_lower ho0 (below_size bel_now))
   replace BK409 := blk_on gb409 hb
   replace BK410 := blk_on gb410 hb
   replace HB := bel_on w hb
   have HO418 := n0_
   clear n0_
   (try clear hb)
   (try clear ho0)
   refine hK.out _ _ ⟨bc BK409 0, bc BK409 1, bc BK409 2, bc BK409 3, bc BK410 0, bc BK410 1, bc BK410 2, bc BK410 3, bc BK410 4, bc BK410 5, bc BK410 6, bc BK410 7, bc BK410 8⟩ (fun hHeld => ?_)
   clear hK K
   refine normP 29 ?_
   refine two_ (i := 3) (j := 8) (Ni := some 31) (Nj := some 6) #[I, I, I, I, O, O, O, O, O, O, O] #[I, I, I, O, O, O, O, O, I, O, O] rfl rfl rfl rfl (two_of HT_.out (by kernel_rfl)) (by decide) (by decide) (fun K hK => ?_) (fun K hK => ?_)
   rotate_left
   ·skip
    refine box_step ?hg (N := 6) ?hd (cs := #[.int .i64 0, .int .i64 0, .int .i64 0, .slice none 0 0]) (t := 33) ?hr ?_; (case hd => rfl); (case hg => rfl); (case hr => first | (go_simp; done) | (go_simp; rfl))
    intro gb439 hg w35 hbox hb
    have n4_ := Aside0.mk (hbox)
    have n5_ := Aside0.mk ((by rw [hg]; exact (below_size bel_now) : w.heap.size ≤ gb439))
    have n6_ := Aside0.mk ((by rw [hg]; exact (below_size bel_now) : w.heap.size ≤ gb439))
    have n7_ := Aside0.mk ((by rw [hg]; exact Nat.ne_of_lt (blk_lt (g := gb409) blk_now) : gb409 ≠ gb439))
    have n8_ := Aside0.mk ((by rw [hg]; exact Nat.ne_of_gt (blk_lt (g := gb409) blk_now) : gb439 ≠ gb409))
    have n9_ := Aside0.mk ((by rw [hg]; exact Nat.ne_of_lt (blk_lt (g := gb410) blk_now) : gb410 ≠ gb439))
    have n10_ := Aside0.mk ((by rw [hg]; exact Nat.ne_of_gt (blk_lt (g := gb410) blk_now) : gb439 ≠ gb410))
    replace HO418 := Aside0.mk (Kd.R_below (R_at HO418.out) hb)
    replace BK409 := blk_on gb409 hb
    replace BK410 := blk_on gb410 hb
    replace HB := bel_on w hb
    have BK439 := n4_
    have GW439 := n5_
    have GE439 := n6_
    have NB409_439 := n7_
    have NB439_409 := n8_
    have NB410_439 := n9_
    have NB439_410 := n10_
    clear n4_ n5_ n6_ n7_ n8_ n9_ n10_
    clear hb hbox hg
    refine hK.out _ _ ⟨bc BK409 0, bc BK409 1, bc BK409 2, bc BK409 3, bc BK410 0, bc BK410 1, bc BK410 2, bc BK410 3, bc BK410 4, bc BK410 5, bc BK410 6, bc BK410 7, bc BK410 8⟩ (fun hHeld => ?_)
    clear hK K
    refine normP 6 ?_
    refine one_ (i := 3) (N := some 31) #[I, I, I, I, O, O, O, O, I, O, O] rfl rfl (one_of HT_.out (by kernel_rfl)) (by decide) (fun K hK => ?_)
    refine goes_ Try.func12 (by kernel_rfl) rfl #[.agg #[.int .i64 a1_0, .int .i64 a1_1, .int .i64 a1_2, .int .i64 a1_3, .int .i64 a1_4, .int .i64 a1_5, .int .i64 a1_6, .slice A1_7 l1_7.length c1_7, .slice A1_8 l1_8.length c1_8]] (by rfl) rfl rfl (by (try simp only [List.map_toArray, List.map_cons, List.map_nil]); first | done | rfl | (simp only [List.length_drop, List.length_take]; rfl)) ?_
    with_reducible refine (laws_toLayer.calls k a1_0 a1_1 a1_2 a1_3 a1_4 a1_5 a1_6 _ _ l1_7 _ _ l1_8 t419 t420 t421 t422 t423 t424 t425 t426 t429 _ ?side1 ?side2 ?side3 ?side4 A20.out).mono ?_
    (case side1 => exact C_now HR1_7.out)
    (case side2 => exact HC1_7.out)
    (case side3 => exact C_now HR1_8.out)
    (case side4 => exact HC1_8.out)
    rintro e w36 ⟨v427, v430, rfl, ho0, ho1, hb⟩
    refine ⟨_, rfl, ?_⟩
    have n1_ := Aside0.mk (Kd.R_lower (Kd.R_new' ho0 (Kd.R_lt (R_at HO418.out))) (below_size bel_now))
    have n2_ := Aside0.mk (Kd.R_lower (Kd.R_new' ho1 (Kd.R_lt (R_at HO418.out))) (below_size bel_now))
    replace HO418 := Aside0.mk (Kd.R_mono (Kd.R_told (Kd.R_told (Kd.R_old (R_at HO418.out) hb) (Kd.R_base ho0)) (Kd.R_base ho1)) (fun _ h_ => h_.1))
    replace BK409 := blk_on gb409 hb
    replace BK410 := blk_on gb410 hb
    replace BK439 := blk_on gb439 hb
    replace HB := bel_on w hb
    have HO428 := n1_
    have HO431 := n2_
    clear n1_ n2_
    (try clear hb)
    (try clear ho0)
    (try clear ho1)
    obtain ⟨Ao37, co37, eo37⟩ := Kd.R_slice HO418.out
    (first | subst eo37 | (injection eo37 with f1_ f2_ f3_; have f4_ := f1_.symm; have f5_ := f3_.symm; clear f1_ f2_ f3_; subst f4_; subst f5_))
    obtain ⟨Ao38, co38, eo38⟩ := Kd.R_slice HO428.out
    (first | subst eo38 | (injection eo38 with f1_ f2_ f3_; have f4_ := f1_.symm; have f5_ := f3_.symm; clear f1_ f2_ f3_; subst f4_; subst f5_))
    obtain ⟨Ao39, co39, eo39⟩ := Kd.R_slice HO431.out
    (first | subst eo39 | (injection eo39 with f1_ f2_ f3_; have f4_ := f1_.symm; have f5_ := f3_.symm; clear f1_ f2_ f3_; subst f4_; subst f5_))
    refine hK.out _ _ ⟨bc BK409 0, bc BK409 1, bc BK409 2, bc BK409 3, bc BK410 0, bc BK410 1, bc BK410 2, bc BK410 3, bc BK410 4, bc BK410 5, bc BK410 6, bc BK410 7, bc BK410 8⟩ (fun hHeld => ?_)
    clear hK K
    refine normP 31 ?_
    refine one_ (i := 4) (N := some 32) #[I, I, I, I, I, O, O, O, I, O, O] rfl rfl (one_of HT_.out (by kernel_rfl)) (by decide) (fun K hK => ?_)
    refine goes_ Try.func10 (by kernel_rfl) rfl #[.agg #[.int .i64 t413, .int .i64 t414, .int .i64 t415, .slice Ao37 t416.length co37], .agg #[.int .i64 t419, .int .i64 t420, .int .i64 t421, .int .i64 t422, .int .i64 t423, .int .i64 t424, .int .i64 t425, .slice Ao38 t426.length co38, .slice Ao39 t429.length co39]] (by rfl) rfl rfl (by (try simp only [List.map_toArray, List.map_cons, List.map_nil]); first | done | rfl | (simp only [List.length_drop, List.length_take]; rfl)) ?_
    with_reducible refine (spec_RunLayer.calls k t413 t414 t415 _ _ t416 t419 t420 t421 t422 t423 t424 t425 _ _ t426 _ _ t429 t432 t433 t434 t435 t438 _ ?side1 ?side2 ?side3 ?side4 ?side5 ?side6 A21.out).mono ?_
    (case side1 => exact (Kd.R_reads' (R_at HO418.out)).2.2)
    (case side2 => exact (Kd.R_reads' HO418.out).2.1)
    (case side3 => exact (Kd.R_reads' (R_at HO428.out)).2.2)
    (case side4 => exact (Kd.R_reads' HO428.out).2.1)
    (case side5 => exact (Kd.R_reads' (R_at HO431.out)).2.2)
    (case side6 => exact (Kd.R_reads' HO431.out).2.1)
    rintro e w40 ⟨v436, rfl, ho0, hb⟩
    refine ⟨_, rfl, ?_⟩
    have n3_ := Aside0.mk (Kd.R_lower (Kd.R_new' (Kd.R_new' (Kd.R_new' ho0 (Kd.R_lt (R_at HO418.out))) (Kd.R_lt (R_at HO428.out))) (Kd.R_lt (R_at HO431.out))) (below_size bel_now))
    replace HO418 := Aside0.mk (Kd.R_elder' (R_at HO418.out) (Kd.R_base ho0) hb)
    replace HO428 := Aside0.mk (Kd.R_elder' (R_at HO428.out) (Kd.R_base ho0) hb)
    replace HO431 := Aside0.mk (Kd.R_elder' (R_at HO431.out) (Kd.R_base ho0) hb)
    replace BK409 := blk_on gb409 hb
    replace BK410 := blk_on gb410 hb
    replace BK439 := blk_on gb439 hb
    replace HB := bel_on w hb
    have HO437 := n3_
    clear n3_
    (try clear hb)
    (try clear ho0)
    refine hK.out _ _ ⟨bc BK409 0, bc BK409 1, bc BK409 2, bc BK409 3, bc BK410 0, bc BK410 1, bc BK410 2, bc BK410 3, bc BK410 4, bc BK410 5, bc BK410 6, bc BK410 7, bc BK410 8⟩ (fun hHeld => ?_)
    clear hK K
    refine normP 32 ?_
    refine stepP 5 (some 27) (tk 11 319) (any_of HT_.out (by kernel_rfl)) ?_
    refine stepP 6 (some 33) (tk 11 383) (any_of HT_.out (by kernel_rfl)) ?_
    refine stepP 7 (some 34) (tk 11 511) (any_of HT_.out (by kernel_rfl)) ?_
    exact norm_ (by simp only [putAll, Act.put, zA, zB, zC]) (hCont (.slice Ao37 t416.length co37, .slice Ao38 t426.length co38, .slice Ao39 t429.length co39, v436, gb439) _ ⟨hHeld, (R_at (Kd.R_mono HO418.out (fun _ hk => ⟨hk.1.1.2, ⟨hk.1.2, hk.2⟩⟩))), (R_at (Kd.R_mono HO428.out (fun _ hk => ⟨hk.1.2, ⟨hk.1.1, hk.2⟩⟩))), (R_at (Kd.R_mono HO431.out (fun _ hk => ⟨hk.1.2, ⟨hk.1.1, hk.2⟩⟩))), (R_at (Kd.R_mono HO437.out (fun _ hk => ⟨hk.1.1.2, ⟨hk.1.2, hk.2⟩⟩))), blk_now, blk_now, blk_now, GW439.out, GE439.out, NB409_439.out, NB439_409.out, NB410_439.out, NB439_410.out, bel_now⟩)
   skip
   refine goes_ Try.func12 (by kernel_rfl) rfl #[.agg #[.int .i64 a1_0, .int .i64 a1_1, .int .i64 a1_2, .int .i64 a1_3, .int .i64 a1_4, .int .i64 a1_5, .int .i64 a1_6, .slice A1_7 l1_7.length c1_7, .slice A1_8 l1_8.length c1_8]] (by rfl) rfl rfl (by (try simp only [List.map_toArray, List.map_cons, List.map_nil]); first | done | rfl | (simp only [List.length_drop, List.length_take]; rfl)) ?_
   with_reducible refine (laws_toLayer.calls k a1_0 a1_1 a1_2 a1_3 a1_4 a1_5 a1_6 _ _ l1_7 _ _ l1_8 t419 t420 t421 t422 t423 t424 t425 t426 t429 _ ?side1 ?side2 ?side3 ?side4 A20.out).mono ?_
   (case side1 => exact C_now HR1_7.out)
   (case side2 => exact HC1_7.out)
   (case side3 => exact C_now HR1_8.out)
   (case side4 => exact HC1_8.out)
   rintro e w35 ⟨v427, v430, rfl, ho0, ho1, hb⟩
   refine ⟨_, rfl, ?_⟩
   have n1_ := Aside0.mk (Kd.R_lower (Kd.R_new' ho0 (Kd.R_lt (R_at HO418.out))) (below_size bel_now))
   have n2_ := Aside0.mk (Kd.R_lower (Kd.R_new' ho1 (Kd.R_lt (R_at HO418.out))) (below_size bel_now))
   replace HO418 := Aside0.mk (Kd.R_mono (Kd.R_told (Kd.R_told (Kd.R_old (R_at HO418.out) hb) (Kd.R_base ho0)) (Kd.R_base ho1)) (fun _ h_ => h_.1))
   replace BK409 := blk_on gb409 hb
   replace BK410 := blk_on gb410 hb
   replace HB := bel_on w hb
   have HO428 := n1_
   have HO431 := n2_
   clear n1_ n2_
   (try clear hb)
   (try clear ho0)
   (try clear ho1)
   obtain ⟨Ao36, co36, eo36⟩ := Kd.R_slice HO418.out
   (first | subst eo36 | (injection eo36 with f1_ f2_ f3_; have f4_ := f1_.symm; have f5_ := f3_.symm; clear f1_ f2_ f3_; subst f4_; subst f5_))
   obtain ⟨Ao37, co37, eo37⟩ := Kd.R_slice HO428.out
   (first | subst eo37 | (injection eo37 with f1_ f2_ f3_; have f4_ := f1_.symm; have f5_ := f3_.symm; clear f1_ f2_ f3_; subst f4_; subst f5_))
   obtain ⟨Ao38, co38, eo38⟩ := Kd.R_slice HO431.out
   (first | subst eo38 | (injection eo38 with f1_ f2_ f3_; have f4_ := f1_.symm; have f5_ := f3_.symm; clear f1_ f2_ f3_; subst f4_; subst f5_))
   refine hK.out _ _ ⟨bc BK409 0, bc BK409 1, bc BK409 2, bc BK409 3, bc BK410 0, bc BK410 1, bc BK410 2, bc BK410 3, bc BK410 4, bc BK410 5, bc BK410 6, bc BK410 7, bc BK410 8⟩ (fun hHeld => ?_)
   clear hK K
   refine normP 31 ?_
   refine two_ (i := 4) (j := 8) (Ni := some 32) (Nj := some 6) #[I, I, I, I, I, O, O, O, O, O, O] #[I, I, I, I, O, O, O, O, I, O, O] rfl rfl rfl rfl (two_of HT_.out (by kernel_rfl)) (by decide) (by decide) (fun K hK => ?_) (fun K hK => ?_)
   ·skip
    refine goes_ Try.func10 (by kernel_rfl) rfl #[.agg #[.int .i64 t413, .int .i64 t414, .int .i64 t415, .slice Ao36 t416.length co36], .agg #[.int .i64 t419, .int .i64 t420, .int .i64 t421, .int .i64 t422, .int .i64 t423, .int .i64 t424, .int .i64 t425, .slice Ao37 t426.length co37, .slice Ao38 t429.length co38]] (by rfl) rfl rfl (by (try simp only [List.map_toArray, List.map_cons, List.map_nil]); first | done | rfl | (simp only [List.length_drop, List.length_take]; rfl)) ?_
    with_reducible refine (spec_RunLayer.calls k t413 t414 t415 _ _ t416 t419 t420 t421 t422 t423 t424 t425 _ _ t426 _ _ t429 t432 t433 t434 t435 t438 _ ?side1 ?side2 ?side3 ?side4 ?side5 ?side6 A21.out).mono ?_
    (case side1 => exact (Kd.R_reads' (R_at HO418.out)).2.2)
    (case side2 => exact (Kd.R_reads' HO418.out).2.1)
    (case side3 => exact (Kd.R_reads' (R_at HO428.out)).2.2)
    (case side4 => exact (Kd.R_reads' HO428.out).2.1)
    (case side5 => exact (Kd.R_reads' (R_at HO431.out)).2.2)
    (case side6 => exact (Kd.R_reads' HO431.out).2.1)
    rintro e w39 ⟨v436, rfl, ho0, hb⟩
    refine ⟨_, rfl, ?_⟩
    have n3_ := Aside0.mk (Kd.R_lower (Kd.R_new' (Kd.R_new' (Kd.R_new' ho0 (Kd.R_lt (R_at HO418.out))) (Kd.R_lt (R_at HO428.out))) (Kd.R_lt (R_at HO431.out))) (below_size bel_now))
    replace HO418 := Aside0.mk (Kd.R_elder' (R_at HO418.out) (Kd.R_base ho0) hb)
    replace HO428 := Aside0.mk (Kd.R_elder' (R_at HO428.out) (Kd.R_base ho0) hb)
    replace HO431 := Aside0.mk (Kd.R_elder' (R_at HO431.out) (Kd.R_base ho0) hb)
    replace BK409 := blk_on gb409 hb
    replace BK410 := blk_on gb410 hb
    replace HB := bel_on w hb
    have HO437 := n3_
    clear n3_
    (try clear hb)
    (try clear ho0)
    refine hK.out _ _ ⟨bc BK409 0, bc BK409 1, bc BK409 2, bc BK409 3, bc BK410 0, bc BK410 1, bc BK410 2, bc BK410 3, bc BK410 4, bc BK410 5, bc BK410 6, bc BK410 7, bc BK410 8⟩ (fun hHeld => ?_)
    clear hK K
    refine normP 32 ?_
    refine stepP 5 (some 27) (tk 11 63) (any_of HT_.out (by kernel_rfl)) ?_
    refine stepP 6 (some 33) (tk 11 127) (any_of HT_.out (by kernel_rfl)) ?_
    refine stepP 7 (some 34) (tk 11 255) (any_of HT_.out (by kernel_rfl)) ?_
    refine one_ (i := 8) (N := some 6) #[I, I, I, I, I, I, I, I, I, O, O] rfl rfl (one_of HT_.out (by kernel_rfl)) (by decide) (fun K hK => ?_)
    refine box_step ?hg (N := 6) ?hd (cs := #[.int .i64 0, .int .i64 0, .int .i64 0, .slice none 0 0]) (t := 33) ?hr ?_; (case hd => rfl); (case hg => rfl); (case hr => first | (go_simp; done) | (go_simp; rfl))
    intro gb439 hg w40 hbox hb
    have n7_ := Aside0.mk (hbox)
    have n8_ := Aside0.mk ((by rw [hg]; exact (below_size bel_now) : w.heap.size ≤ gb439))
    have n9_ := Aside0.mk ((by rw [hg]; exact (below_size bel_now) : w.heap.size ≤ gb439))
    have n10_ := Aside0.mk ((by rw [hg]; exact Nat.ne_of_lt (blk_lt (g := gb409) blk_now) : gb409 ≠ gb439))
    have n11_ := Aside0.mk ((by rw [hg]; exact Nat.ne_of_gt (blk_lt (g := gb409) blk_now) : gb439 ≠ gb409))
    have n12_ := Aside0.mk ((by rw [hg]; exact Nat.ne_of_lt (blk_lt (g := gb410) blk_now) : gb410 ≠ gb439))
    have n13_ := Aside0.mk ((by rw [hg]; exact Nat.ne_of_gt (blk_lt (g := gb410) blk_now) : gb439 ≠ gb410))
    replace HO418 := Aside0.mk (Kd.R_below (R_at HO418.out) hb)
    replace HO428 := Aside0.mk (Kd.R_below (R_at HO428.out) hb)
    replace HO431 := Aside0.mk (Kd.R_below (R_at HO431.out) hb)
    replace HO437 := Aside0.mk (Kd.R_below (R_at HO437.out) hb)
    replace BK409 := blk_on gb409 hb
    replace BK410 := blk_on gb410 hb
    replace HB := bel_on w hb
    have BK439 := n7_
    have GW439 := n8_
    have GE439 := n9_
    have NB409_439 := n10_
    have NB439_409 := n11_
    have NB410_439 := n12_
    have NB439_410 := n13_
    clear n7_ n8_ n9_ n10_ n11_ n12_ n13_
    clear hb hbox hg
    refine hK.out _ _ ⟨bc BK409 0, bc BK409 1, bc BK409 2, bc BK409 3, bc BK410 0, bc BK410 1, bc BK410 2, bc BK410 3, bc BK410 4, bc BK410 5, bc BK410 6, bc BK410 7, bc BK410 8⟩ (fun hHeld => ?_)
    clear hK K
    refine normP 6 ?_
    exact norm_ (by simp only [putAll, Act.put, zA, zB, zC]) (hCont (.slice Ao36 t416.length co36, .slice Ao37 t426.length co37, .slice Ao38 t429.length co38, v436, gb439) _ ⟨hHeld, (R_at (Kd.R_mono HO418.out (fun _ hk => ⟨hk.1.1.2, ⟨hk.1.2, hk.2⟩⟩))), (R_at (Kd.R_mono HO428.out (fun _ hk => ⟨hk.1.2, ⟨hk.1.1, hk.2⟩⟩))), (R_at (Kd.R_mono HO431.out (fun _ hk => ⟨hk.1.2, ⟨hk.1.1, hk.2⟩⟩))), (R_at (Kd.R_mono HO437.out (fun _ hk => ⟨hk.1.1.2, ⟨hk.1.2, hk.2⟩⟩))), blk_now, blk_now, blk_now, GW439.out, GE439.out, NB409_439.out, NB439_409.out, NB410_439.out, NB439_410.out, bel_now⟩)
   skip
   refine box_step ?hg (N := 6) ?hd (cs := #[.int .i64 0, .int .i64 0, .int .i64 0, .slice none 0 0]) (t := 33) ?hr ?_; (case hd => rfl); (case hg => rfl); (case hr => first | (go_simp; done) | (go_simp; rfl))
   intro gb439 hg w36 hbox hb
   have n6_ := Aside0.mk (hbox)
   have n7_ := Aside0.mk ((by rw [hg]; exact (below_size bel_now) : w.heap.size ≤ gb439))
   have n8_ := Aside0.mk ((by rw [hg]; exact (below_size bel_now) : w.heap.size ≤ gb439))
   have n9_ := Aside0.mk ((by rw [hg]; exact Nat.ne_of_lt (blk_lt (g := gb409) blk_now) : gb409 ≠ gb439))
   have n10_ := Aside0.mk ((by rw [hg]; exact Nat.ne_of_gt (blk_lt (g := gb409) blk_now) : gb439 ≠ gb409))
   have n11_ := Aside0.mk ((by rw [hg]; exact Nat.ne_of_lt (blk_lt (g := gb410) blk_now) : gb410 ≠ gb439))
   have n12_ := Aside0.mk ((by rw [hg]; exact Nat.ne_of_gt (blk_lt (g := gb410) blk_now) : gb439 ≠ gb410))
   replace HO418 := Aside0.mk (Kd.R_below (R_at HO418.out) hb)
   replace HO428 := Aside0.mk (Kd.R_below (R_at HO428.out) hb)
   replace HO431 := Aside0.mk (Kd.R_below (R_at HO431.out) hb)
   replace BK409 := blk_on gb409 hb
   replace BK410 := blk_on gb410 hb
   replace HB := bel_on w hb
   have BK439 := n6_
   have GW439 := n7_
   have GE439 := n8_
   have NB409_439 := n9_
   have NB439_409 := n10_
   have NB410_439 := n11_
   have NB439_410 := n12_
   clear n6_ n7_ n8_ n9_ n10_ n11_ n12_
   clear hb hbox hg
   obtain ⟨Ao37, co37, eo37⟩ := Kd.R_slice HO418.out
   (first | subst eo37 | (injection eo37 with f1_ f2_ f3_; have f4_ := f1_.symm; have f5_ := f3_.symm; clear f1_ f2_ f3_; subst f4_; subst f5_))
   obtain ⟨Ao38, co38, eo38⟩ := Kd.R_slice HO428.out
   (first | subst eo38 | (injection eo38 with f1_ f2_ f3_; have f4_ := f1_.symm; have f5_ := f3_.symm; clear f1_ f2_ f3_; subst f4_; subst f5_))
   obtain ⟨Ao39, co39, eo39⟩ := Kd.R_slice HO431.out
   (first | subst eo39 | (injection eo39 with f1_ f2_ f3_; have f4_ := f1_.symm; have f5_ := f3_.symm; clear f1_ f2_ f3_; subst f4_; subst f5_))
   refine hK.out _ _ ⟨bc BK409 0, bc BK409 1, bc BK409 2, bc BK409 3, bc BK410 0, bc BK410 1, bc BK410 2, bc BK410 3, bc BK410 4, bc BK410 5, bc BK410 6, bc BK410 7, bc BK410 8⟩ (fun hHeld => ?_)
   clear hK K
   refine normP 6 ?_
   refine one_ (i := 4) (N := some 32) #[I, I, I, I, I, O, O, O, I, O, O] rfl rfl (one_of HT_.out (by kernel_rfl)) (by decide) (fun K hK => ?_)
   refine goes_ Try.func10 (by kernel_rfl) rfl #[.agg #[.int .i64 t413, .int .i64 t414, .int .i64 t415, .slice Ao37 t416.length co37], .agg #[.int .i64 t419, .int .i64 t420, .int .i64 t421, .int .i64 t422, .int .i64 t423, .int .i64 t424, .int .i64 t425, .slice Ao38 t426.length co38, .slice Ao39 t429.length co39]] (by rfl) rfl rfl (by (try simp only [List.map_toArray, List.map_cons, List.map_nil]); first | done | rfl | (simp only [List.length_drop, List.length_take]; rfl)) ?_
   with_reducible refine (spec_RunLayer.calls k t413 t414 t415 _ _ t416 t419 t420 t421 t422 t423 t424 t425 _ _ t426 _ _ t429 t432 t433 t434 t435 t438 _ ?side1 ?side2 ?side3 ?side4 ?side5 ?side6 A21.out).mono ?_
   (case side1 => exact (Kd.R_reads' (R_at HO418.out)).2.2)
   (case side2 => exact (Kd.R_reads' HO418.out).2.1)
   (case side3 => exact (Kd.R_reads' (R_at HO428.out)).2.2)
   (case side4 => exact (Kd.R_reads' HO428.out).2.1)
   (case side5 => exact (Kd.R_reads' (R_at HO431.out)).2.2)
   (case side6 => exact (Kd.R_reads' HO431.out).2.1)
   rintro e w40 ⟨v436, rfl, ho0, hb⟩
   refine ⟨_, rfl, ?_⟩
   have n3_ := Aside0.mk (Kd.R_lower (Kd.R_new' (Kd.R_new' (Kd.R_new' ho0 (Kd.R_lt (R_at HO418.out))) (Kd.R_lt (R_at HO428.out))) (Kd.R_lt (R_at HO431.out))) (below_size bel_now))
   replace HO418 := Aside0.mk (Kd.R_elder' (R_at HO418.out) (Kd.R_base ho0) hb)
   replace HO428 := Aside0.mk (Kd.R_elder' (R_at HO428.out) (Kd.R_base ho0) hb)
   replace HO431 := Aside0.mk (Kd.R_elder' (R_at HO431.out) (Kd.R_base ho0) hb)
   replace BK409 := blk_on gb409 hb
   replace BK410 := blk_on gb410 hb
   replace BK439 := blk_on gb439 hb
   replace HB := bel_on w hb
   have HO437 := n3_
   clear n3_
   (try clear hb)
   (try clear ho0)
   refine hK.out _ _ ⟨bc BK409 0, bc BK409 1, bc BK409 2, bc BK409 3, bc BK410 0, bc BK410 1, bc BK410 2, bc BK410 3, bc BK410 4, bc BK410 5, bc BK410 6, bc BK410 7, bc BK410 8⟩ (fun hHeld => ?_)
   clear hK K
   refine normP 32 ?_
   refine stepP 5 (some 27) (tk 11 319) (any_of HT_.out (by kernel_rfl)) ?_
   refine stepP 6 (some 33) (tk 11 383) (any_of HT_.out (by kernel_rfl)) ?_
   refine stepP 7 (some 34) (tk 11 511) (any_of HT_.out (by kernel_rfl)) ?_
   exact norm_ (by simp only [putAll, Act.put, zA, zB, zC]) (hCont (.slice Ao37 t416.length co37, .slice Ao38 t426.length co38, .slice Ao39 t429.length co39, v436, gb439) _ ⟨hHeld, (R_at (Kd.R_mono HO418.out (fun _ hk => ⟨hk.1.1.2, ⟨hk.1.2, hk.2⟩⟩))), (R_at (Kd.R_mono HO428.out (fun _ hk => ⟨hk.1.2, ⟨hk.1.1, hk.2⟩⟩))), (R_at (Kd.R_mono HO431.out (fun _ hk => ⟨hk.1.2, ⟨hk.1.1, hk.2⟩⟩))), (R_at (Kd.R_mono HO437.out (fun _ hk => ⟨hk.1.1.2, ⟨hk.1.2, hk.2⟩⟩))), blk_now, blk_now, blk_now, GW439.out, GE439.out, NB409_439.out, NB439_409.out, NB410_439.out, NB439_410.out, bel_now⟩)
  rintro ⟨v417, v427, v430, v436, gb439⟩ w41 ⟨hS_, h0_, h1_, h2_, h3_, h4_, h5_, h6_, h7_, h8_, h9_, h10_, h11_, h12_, h13_⟩
  have n0_ : Aside0 (Kd.R (Kd.int .i64) 3 w41 w.heap.size (fun k_ => some k_ ≠ (v427 : Value).ownBlock ∧ some k_ ≠ (v430 : Value).ownBlock ∧ some k_ ≠ (v436 : Value).ownBlock) v417 t416) := ⟨h0_⟩
  have n1_ : Aside0 (Kd.R (Kd.int .i64) 3 w41 w.heap.size (fun k_ => some k_ ≠ (v417 : Value).ownBlock ∧ some k_ ≠ (v430 : Value).ownBlock ∧ some k_ ≠ (v436 : Value).ownBlock) v427 t426) := ⟨h1_⟩
  have n2_ : Aside0 (Kd.R (Kd.int .i64) 3 w41 w.heap.size (fun k_ => some k_ ≠ (v417 : Value).ownBlock ∧ some k_ ≠ (v427 : Value).ownBlock ∧ some k_ ≠ (v436 : Value).ownBlock) v430 t429) := ⟨h2_⟩
  have n3_ : Aside0 (Kd.R (Kd.int .i64) 3 w41 w.heap.size (fun k_ => some k_ ≠ (v417 : Value).ownBlock ∧ some k_ ≠ (v427 : Value).ownBlock ∧ some k_ ≠ (v430 : Value).ownBlock) v436 t435) := ⟨h3_⟩
  have n4_ : Aside0 (w41.heap[gb409]? = some (.cells #[.int .i64 a0_0, .int .i64 a0_1, .int .i64 a0_2, .slice A0_3 l0_3.length c0_3] 26 (0, 0))) := ⟨h4_⟩
  have n5_ : Aside0 (w41.heap[gb410]? = some (.cells #[.int .i64 a1_0, .int .i64 a1_1, .int .i64 a1_2, .int .i64 a1_3, .int .i64 a1_4, .int .i64 a1_5, .int .i64 a1_6, .slice A1_7 l1_7.length c1_7, .slice A1_8 l1_8.length c1_8] 28 (0, 0))) := ⟨h5_⟩
  have n6_ : Aside0 (w41.heap[gb439]? = some (.cells #[.int .i64 0, .int .i64 0, .int .i64 0, .slice none 0 0] 33 (0, 0))) := ⟨h6_⟩
  have n7_ : Aside0 (w.heap.size ≤ gb439) := ⟨h7_⟩
  have n8_ : Aside0 (w.heap.size ≤ gb439) := ⟨h8_⟩
  have n9_ : Aside0 (gb409 ≠ gb439) := ⟨h9_⟩
  have n10_ : Aside0 (gb439 ≠ gb409) := ⟨h10_⟩
  have n11_ : Aside0 (gb410 ≠ gb439) := ⟨h11_⟩
  have n12_ : Aside0 (gb439 ≠ gb410) := ⟨h12_⟩
  have n13_ : Aside0 (Below w.heap.size w w41) := ⟨h13_⟩
  clear BK409
  clear BK410
  clear HB
  clear h0_ h1_ h2_ h3_ h4_ h5_ h6_ h7_ h8_ h9_ h10_ h11_ h12_ h13_
  have HO418 := n0_
  have HO428 := n1_
  have HO431 := n2_
  have HO437 := n3_
  have BK409 := n4_
  have BK410 := n5_
  have BK439 := n6_
  have GW439 := n7_
  have GE439 := n8_
  have NB409_439 := n9_
  have NB439_409 := n10_
  have NB410_439 := n11_
  have NB439_410 := n12_
  have HB := n13_
  clear n0_ n1_ n2_ n3_ n4_ n5_ n6_ n7_ n8_ n9_ n10_ n11_ n12_ n13_
  have hHeld : w41.cell? ⟨gb409, 0, none⟩ = some (.int .i64 a0_0) ∧ w41.cell? ⟨gb409, 1, none⟩ = some (.int .i64 a0_1) ∧ w41.cell? ⟨gb409, 2, none⟩ = some (.int .i64 a0_2) ∧ w41.cell? ⟨gb409, 3, none⟩ = some (.slice A0_3 l0_3.length c0_3) ∧ w41.cell? ⟨gb410, 0, none⟩ = some (.int .i64 a1_0) ∧ w41.cell? ⟨gb410, 1, none⟩ = some (.int .i64 a1_1) ∧ w41.cell? ⟨gb410, 2, none⟩ = some (.int .i64 a1_2) ∧ w41.cell? ⟨gb410, 3, none⟩ = some (.int .i64 a1_3) ∧ w41.cell? ⟨gb410, 4, none⟩ = some (.int .i64 a1_4) ∧ w41.cell? ⟨gb410, 5, none⟩ = some (.int .i64 a1_5) ∧ w41.cell? ⟨gb410, 6, none⟩ = some (.int .i64 a1_6) ∧ w41.cell? ⟨gb410, 7, none⟩ = some (.slice A1_7 l1_7.length c1_7) ∧ w41.cell? ⟨gb410, 8, none⟩ = some (.slice A1_8 l1_8.length c1_8) := hS_
  obtain ⟨Ao45, co45, eo45⟩ := Kd.R_slice HO437.out
  (first | subst eo45 | (injection eo45 with f1_ f2_ f3_; have f4_ := f1_.symm; have f5_ := f3_.symm; clear f1_ f2_ f3_; subst f4_; subst f5_))
  refine norm_ (a' := ?_) ?_ ?_
  rotate_left
  ·simp only [putAll, Act.put, zA, zB, zC]
   rfl
  refine one_ (i := 9) (N := none) #[I, I, I, I, I, I, I, I, I, I, O] rfl rfl (one_of HT_.out (by kernel_rfl)) (by decide) (fun K hK => ?_)
  have hs42 : w41.cell? ⟨gb439, 0, none⟩ = some (.int .i64 0) := (blk_cell BK439.out 0).trans rfl
  have hfs42 := blk_frozen BK439.out 0
  have hns42_0 := NB409_439.out
  have hns42_1 := NB410_439.out
  have hms42_0 := NB439_409.out
  have hms42_1 := NB439_410.out
  have hs43 : w41.cell? ⟨gb439, 1, none⟩ = some (.int .i64 0) := (blk_cell BK439.out 1).trans rfl
  have hfs43 := blk_frozen BK439.out 1
  have hns43_0 := NB409_439.out
  have hns43_1 := NB410_439.out
  have hms43_0 := NB439_409.out
  have hms43_1 := NB439_410.out
  have hs44 : w41.cell? ⟨gb439, 2, none⟩ = some (.int .i64 0) := (blk_cell BK439.out 2).trans rfl
  have hfs44 := blk_frozen BK439.out 2
  have hns44_0 := NB409_439.out
  have hns44_1 := NB410_439.out
  have hms44_0 := NB439_409.out
  have hms44_1 := NB439_410.out
  have hs46 : w41.cell? ⟨gb439, 3, none⟩ = some (.slice none 0 0) := (blk_cell BK439.out 3).trans rfl
  have hfs46 := blk_frozen BK439.out 3
  have hns46_0 := NB409_439.out
  have hns46_1 := NB410_439.out
  have hms46_0 := NB439_409.out
  have hms46_1 := NB439_410.out
  refine skip_ (w1 := ?_) (by rfl) rfl ?_ ?_
  rotate_left
  ·go_simp
   rfl
  refine hK.out _ _ ⟨((cell_far (p := ⟨gb439, _, none⟩) NB409_439.out _).trans (((cell_far (p := ⟨gb439, _, none⟩) NB409_439.out _).trans (((cell_far (p := ⟨gb439, _, none⟩) NB409_439.out _).trans (((cell_far (p := ⟨gb439, _, none⟩) NB409_439.out _).trans (hHeld.1)))))))), ((cell_far (p := ⟨gb439, _, none⟩) NB409_439.out _).trans (((cell_far (p := ⟨gb439, _, none⟩) NB409_439.out _).trans (((cell_far (p := ⟨gb439, _, none⟩) NB409_439.out _).trans (((cell_far (p := ⟨gb439, _, none⟩) NB409_439.out _).trans (hHeld.2.1)))))))), ((cell_far (p := ⟨gb439, _, none⟩) NB409_439.out _).trans (((cell_far (p := ⟨gb439, _, none⟩) NB409_439.out _).trans (((cell_far (p := ⟨gb439, _, none⟩) NB409_439.out _).trans (((cell_far (p := ⟨gb439, _, none⟩) NB409_439.out _).trans (hHeld.2.2.1)))))))), ((cell_far (p := ⟨gb439, _, none⟩) NB409_439.out _).trans (((cell_far (p := ⟨gb439, _, none⟩) NB409_439.out _).trans (((cell_far (p := ⟨gb439, _, none⟩) NB409_439.out _).trans (((cell_far (p := ⟨gb439, _, none⟩) NB409_439.out _).trans (hHeld.2.2.2.1)))))))), ((cell_far (p := ⟨gb439, _, none⟩) NB410_439.out _).trans (((cell_far (p := ⟨gb439, _, none⟩) NB410_439.out _).trans (((cell_far (p := ⟨gb439, _, none⟩) NB410_439.out _).trans (((cell_far (p := ⟨gb439, _, none⟩) NB410_439.out _).trans (hHeld.2.2.2.2.1)))))))), ((cell_far (p := ⟨gb439, _, none⟩) NB410_439.out _).trans (((cell_far (p := ⟨gb439, _, none⟩) NB410_439.out _).trans (((cell_far (p := ⟨gb439, _, none⟩) NB410_439.out _).trans (((cell_far (p := ⟨gb439, _, none⟩) NB410_439.out _).trans (hHeld.2.2.2.2.2.1)))))))), ((cell_far (p := ⟨gb439, _, none⟩) NB410_439.out _).trans (((cell_far (p := ⟨gb439, _, none⟩) NB410_439.out _).trans (((cell_far (p := ⟨gb439, _, none⟩) NB410_439.out _).trans (((cell_far (p := ⟨gb439, _, none⟩) NB410_439.out _).trans (hHeld.2.2.2.2.2.2.1)))))))), ((cell_far (p := ⟨gb439, _, none⟩) NB410_439.out _).trans (((cell_far (p := ⟨gb439, _, none⟩) NB410_439.out _).trans (((cell_far (p := ⟨gb439, _, none⟩) NB410_439.out _).trans (((cell_far (p := ⟨gb439, _, none⟩) NB410_439.out _).trans (hHeld.2.2.2.2.2.2.2.1)))))))), ((cell_far (p := ⟨gb439, _, none⟩) NB410_439.out _).trans (((cell_far (p := ⟨gb439, _, none⟩) NB410_439.out _).trans (((cell_far (p := ⟨gb439, _, none⟩) NB410_439.out _).trans (((cell_far (p := ⟨gb439, _, none⟩) NB410_439.out _).trans (hHeld.2.2.2.2.2.2.2.2.1)))))))), ((cell_far (p := ⟨gb439, _, none⟩) NB410_439.out _).trans (((cell_far (p := ⟨gb439, _, none⟩) NB410_439.out _).trans (((cell_far (p := ⟨gb439, _, none⟩) NB410_439.out _).trans (((cell_far (p := ⟨gb439, _, none⟩) NB410_439.out _).trans (hHeld.2.2.2.2.2.2.2.2.2.1)))))))), ((cell_far (p := ⟨gb439, _, none⟩) NB410_439.out _).trans (((cell_far (p := ⟨gb439, _, none⟩) NB410_439.out _).trans (((cell_far (p := ⟨gb439, _, none⟩) NB410_439.out _).trans (((cell_far (p := ⟨gb439, _, none⟩) NB410_439.out _).trans (hHeld.2.2.2.2.2.2.2.2.2.2.1)))))))), ((cell_far (p := ⟨gb439, _, none⟩) NB410_439.out _).trans (((cell_far (p := ⟨gb439, _, none⟩) NB410_439.out _).trans (((cell_far (p := ⟨gb439, _, none⟩) NB410_439.out _).trans (((cell_far (p := ⟨gb439, _, none⟩) NB410_439.out _).trans (hHeld.2.2.2.2.2.2.2.2.2.2.2.1)))))))), ((cell_far (p := ⟨gb439, _, none⟩) NB410_439.out _).trans (((cell_far (p := ⟨gb439, _, none⟩) NB410_439.out _).trans (((cell_far (p := ⟨gb439, _, none⟩) NB410_439.out _).trans (((cell_far (p := ⟨gb439, _, none⟩) NB410_439.out _).trans (hHeld.2.2.2.2.2.2.2.2.2.2.2.2))))))))⟩ (fun hHeld => ?_)
  clear hK K
  refine stepP 10 (some 7) (tk 11 2047) (any_of HT_.out (by kernel_rfl)) ?_
  refine done_ (done_of HT_.out (by kernel_rfl)) ?_
  have hn47 := ne2 NB409_439
  have hcz48 := cells4 BK409.out
  go_upto_region 12 with (first | ((with_reducible refine gate_callee (f := 11) rfl ?_); refine goesM (some 36) rfl rfl Try.func11 (by kernel_rfl) rfl #[.agg #[.int .i64 a0_0, .int .i64 a0_1, .int .i64 a0_2, .slice A0_3 l0_3.length c0_3]] rfl ?_; (with_reducible refine (laws_toTensor.calls k a0_0 a0_1 a0_2 _ _ l0_3 t440 t441 t442 t443 _ ?side1 ?side2 A22.out).mono ?_); (case side1 => exact C_now HR0_3.out); (case side2 => exact HC0_3.out); rintro e w49 ⟨v444, rfl, ho0, hb⟩; refine ⟨_, rfl, ?_⟩; have n0_ := Aside0.mk (Kd.R_elder' (R_at (R_far4 HO418.out BK439.out (by decide))) (Kd.R_base ho0) hb); have n1_ := Aside0.mk (Kd.R_elder' (R_at (R_far4 HO428.out BK439.out (by decide))) (Kd.R_base ho0) hb); have n2_ := Aside0.mk (Kd.R_elder' (R_at (R_far4 HO431.out BK439.out (by decide))) (Kd.R_base ho0) hb); have n3_ := Aside0.mk (Kd.R_elder' (R_at (R_far4 HO437.out BK439.out (by decide))) (Kd.R_base ho0) hb); have n4_ := Aside0.mk (Kd.R_lower (Kd.R_new' (Kd.R_new' (Kd.R_new' (Kd.R_new' ho0 (Kd.R_lt (R_at (R_far4 HO418.out BK439.out (by decide))))) (Kd.R_lt (R_at (R_far4 HO428.out BK439.out (by decide))))) (Kd.R_lt (R_at (R_far4 HO431.out BK439.out (by decide))))) (Kd.R_lt (R_at (R_far4 HO437.out BK439.out (by decide))))) (below_size bel_now)); replace HB := bel_on w hb; replace BK409 := Aside0.mk (blk_below (g := gb409) (o := .cells #[.int .i64 a0_0, .int .i64 a0_1, .int .i64 a0_2, .slice A0_3 l0_3.length c0_3] 26 (0, 0)) (blk_fars BK409.out) hb); replace BK410 := Aside0.mk (blk_below (g := gb410) (o := .cells #[.int .i64 a1_0, .int .i64 a1_1, .int .i64 a1_2, .int .i64 a1_3, .int .i64 a1_4, .int .i64 a1_5, .int .i64 a1_6, .slice A1_7 l1_7.length c1_7, .slice A1_8 l1_8.length c1_8] 28 (0, 0)) (blk_fars BK410.out) hb); replace BK439 := Aside0.mk (blk_below (g := gb439) (o := .cells #[.int .i64 t432, .int .i64 t433, .int .i64 t434, .slice Ao45 t435.length co45] 33 (0, 0)) (blk_fars (puts4 BK439.out)) hb); clear HO418 HO428 HO431 HO437; have HO418 := n0_; have HO428 := n1_; have HO431 := n2_; have HO437 := n3_; have HO445 := n4_; clear n0_ n1_ n2_ n3_ n4_; (try clear hb); (try clear ho0)) | ((with_reducible refine gate_dst (N := 8) rfl ?_); refine boxM 8 #[.int .i64 0, .int .i64 0, .int .i64 0, .slice none 0 0] 33 ?_; intro gb446 hg w50 BK446 hb; replace HB := box_at w hb hg; obtain ⟨HB, GW446, GE446⟩ := HB; replace BK409 := box_on gb409 hb hg; obtain ⟨BK409, NB409_446, NB446_409⟩ := BK409; replace BK410 := box_on gb410 hb hg; obtain ⟨BK410, NB410_446, NB446_410⟩ := BK410; replace BK439 := box_on gb439 hb hg; obtain ⟨BK439, NB439_446, NB446_439⟩ := BK439; replace HO418 := Aside0.mk (Kd.R_below (R_at HO418.out) hb); replace HO428 := Aside0.mk (Kd.R_below (R_at HO428.out) hb); replace HO431 := Aside0.mk (Kd.R_below (R_at HO431.out) hb); replace HO437 := Aside0.mk (Kd.R_below (R_at HO437.out) hb); replace HO445 := Aside0.mk (Kd.R_below (R_at HO445.out) hb); clear hb hg; have hn51 := ne2 NB446_409; have hn52 := ne2 NB446_410; have hn53 := ne2 NB446_439; have hcz54 := cells4 BK446.out; obtain ⟨Ao55, co55, eo55⟩ := Kd.R_slice HO445.out; subst eo55; have hn56 := ne2 NB410_439; have hcz57 := cells9 BK410.out) | ((with_reducible refine gate_callee (f := 12) rfl ?_); refine goesM (some 38) rfl rfl Try.func12 (by kernel_rfl) rfl #[.agg #[.int .i64 a1_0, .int .i64 a1_1, .int .i64 a1_2, .int .i64 a1_3, .int .i64 a1_4, .int .i64 a1_5, .int .i64 a1_6, .slice A1_7 l1_7.length c1_7, .slice A1_8 l1_8.length c1_8]] rfl ?_; (with_reducible refine (laws_toLayer.calls k a1_0 a1_1 a1_2 a1_3 a1_4 a1_5 a1_6 _ _ l1_7 _ _ l1_8 t447 t448 t449 t450 t451 t452 t453 t454 t457 _ ?side1 ?side2 ?side3 ?side4 A23.out).mono ?_); (case side1 => exact C_now HR1_7.out); (case side2 => exact HC1_7.out); (case side3 => exact C_now HR1_8.out); (case side4 => exact HC1_8.out); rintro e w58 ⟨v455, v458, rfl, ho0, ho1, hb⟩; refine ⟨_, rfl, ?_⟩; have n0_ := Aside0.mk (Kd.R_mono (Kd.R_told (Kd.R_told (Kd.R_old (R_at (R_far4 HO418.out BK446.out (by decide))) hb) (Kd.R_base ho0)) (Kd.R_base ho1)) (fun _ h_ => h_.1)); have n1_ := Aside0.mk (Kd.R_mono (Kd.R_told (Kd.R_told (Kd.R_old (R_at (R_far4 HO428.out BK446.out (by decide))) hb) (Kd.R_base ho0)) (Kd.R_base ho1)) (fun _ h_ => h_.1)); have n2_ := Aside0.mk (Kd.R_mono (Kd.R_told (Kd.R_told (Kd.R_old (R_at (R_far4 HO431.out BK446.out (by decide))) hb) (Kd.R_base ho0)) (Kd.R_base ho1)) (fun _ h_ => h_.1)); have n3_ := Aside0.mk (Kd.R_mono (Kd.R_told (Kd.R_told (Kd.R_old (R_at (R_far4 HO437.out BK446.out (by decide))) hb) (Kd.R_base ho0)) (Kd.R_base ho1)) (fun _ h_ => h_.1)); have n4_ := Aside0.mk (Kd.R_mono (Kd.R_told (Kd.R_told (Kd.R_old (R_at (R_far4 HO445.out BK446.out (by decide))) hb) (Kd.R_base ho0)) (Kd.R_base ho1)) (fun _ h_ => h_.1)); have n5_ := Aside0.mk (Kd.R_lower (Kd.R_new' (Kd.R_new' (Kd.R_new' (Kd.R_new' (Kd.R_new' ho0 (Kd.R_lt (R_at (R_far4 HO418.out BK446.out (by decide))))) (Kd.R_lt (R_at (R_far4 HO428.out BK446.out (by decide))))) (Kd.R_lt (R_at (R_far4 HO431.out BK446.out (by decide))))) (Kd.R_lt (R_at (R_far4 HO437.out BK446.out (by decide))))) (Kd.R_lt (R_at (R_far4 HO445.out BK446.out (by decide))))) (below_size bel_now)); have n6_ := Aside0.mk (Kd.R_lower (Kd.R_new' (Kd.R_new' (Kd.R_new' (Kd.R_new' (Kd.R_new' ho1 (Kd.R_lt (R_at (R_far4 HO418.out BK446.out (by decide))))) (Kd.R_lt (R_at (R_far4 HO428.out BK446.out (by decide))))) (Kd.R_lt (R_at (R_far4 HO431.out BK446.out (by decide))))) (Kd.R_lt (R_at (R_far4 HO437.out BK446.out (by decide))))) (Kd.R_lt (R_at (R_far4 HO445.out BK446.out (by decide))))) (below_size bel_now)); replace HB := bel_on w hb; replace BK409 := Aside0.mk (blk_below (g := gb409) (o := .cells #[.int .i64 a0_0, .int .i64 a0_1, .int .i64 a0_2, .slice A0_3 l0_3.length c0_3] 26 (0, 0)) (blk_fars BK409.out) hb); replace BK410 := Aside0.mk (blk_below (g := gb410) (o := .cells #[.int .i64 a1_0, .int .i64 a1_1, .int .i64 a1_2, .int .i64 a1_3, .int .i64 a1_4, .int .i64 a1_5, .int .i64 a1_6, .slice A1_7 l1_7.length c1_7, .slice A1_8 l1_8.length c1_8] 28 (0, 0)) (blk_fars BK410.out) hb); replace BK439 := Aside0.mk (blk_below (g := gb439) (o := .cells #[.int .i64 t432, .int .i64 t433, .int .i64 t434, .slice Ao45 t435.length co45] 33 (0, 0)) (blk_fars BK439.out) hb); replace BK446 := Aside0.mk (blk_below (g := gb446) (o := .cells #[.int .i64 t440, .int .i64 t441, .int .i64 t442, .slice Ao55 t443.length co55] 33 (0, 0)) (blk_fars (puts4 BK446.out)) hb); clear HO418 HO428 HO431 HO437 HO445; have HO418 := n0_; have HO428 := n1_; have HO431 := n2_; have HO437 := n3_; have HO445 := n4_; have HO456 := n5_; have HO459 := n6_; clear n0_ n1_ n2_ n3_ n4_ n5_ n6_; (try clear hb); (try clear ho0); (try clear ho1)) | ((with_reducible refine gate_dst (N := 9) rfl ?_); refine boxM 9 #[.int .i64 0, .int .i64 0, .int .i64 0, .int .i64 0, .int .i64 0, .int .i64 0, .int .i64 0, .slice none 0 0, .slice none 0 0] 37 ?_; intro gb460 hg w59 BK460 hb; replace HB := box_at w hb hg; obtain ⟨HB, GW460, GE460⟩ := HB; replace BK409 := box_on gb409 hb hg; obtain ⟨BK409, NB409_460, NB460_409⟩ := BK409; replace BK410 := box_on gb410 hb hg; obtain ⟨BK410, NB410_460, NB460_410⟩ := BK410; replace BK439 := box_on gb439 hb hg; obtain ⟨BK439, NB439_460, NB460_439⟩ := BK439; replace BK446 := box_on gb446 hb hg; obtain ⟨BK446, NB446_460, NB460_446⟩ := BK446; replace HO418 := Aside0.mk (Kd.R_below (R_at HO418.out) hb); replace HO428 := Aside0.mk (Kd.R_below (R_at HO428.out) hb); replace HO431 := Aside0.mk (Kd.R_below (R_at HO431.out) hb); replace HO437 := Aside0.mk (Kd.R_below (R_at HO437.out) hb); replace HO445 := Aside0.mk (Kd.R_below (R_at HO445.out) hb); replace HO456 := Aside0.mk (Kd.R_below (R_at HO456.out) hb); replace HO459 := Aside0.mk (Kd.R_below (R_at HO459.out) hb); clear hb hg; have hn60 := ne2 NB460_409; have hn61 := ne2 NB460_410; have hn62 := ne2 NB460_439; have hn63 := ne2 NB460_446; have hcz64 := cells9 BK460.out; obtain ⟨Ao65, co65, eo65⟩ := Kd.R_slice HO456.out; subst eo65; obtain ⟨Ao66, co66, eo66⟩ := Kd.R_slice HO459.out; subst eo66; have hcz67 := cells4 BK446.out) | ((with_reducible refine gate_callee (f := 13) rfl ?_); refine goesM (some 42) rfl rfl Try.func13 (by kernel_rfl) rfl #[.agg #[.int .i64 t440, .int .i64 t441, .int .i64 t442, .slice Ao55 t443.length co55], .agg #[.int .i64 t447, .int .i64 t448, .int .i64 t449, .int .i64 t450, .int .i64 t451, .int .i64 t452, .int .i64 t453, .slice Ao65 t454.length co65, .slice Ao66 t457.length co66]] rfl ?_; (with_reducible refine (impl_RunLayer.calls k t440 t441 t442 _ _ t443 t447 t448 t449 t450 t451 t452 t453 _ _ t454 _ _ t457 t461 t462 t463 t464 t467 _ ?side1 ?side2 ?side3 ?side4 ?side5 ?side6 A24.out).mono ?_); (case side1 => refine (Kd.R_reads' (e := 3) (base := w.heap.size) (ok := fun k_ => ((((((True ∧ some k_ ≠ (v417 : Value).ownBlock) ∧ some k_ ≠ (v427 : Value).ownBlock) ∧ some k_ ≠ (v430 : Value).ownBlock) ∧ nb k_ Ao45 t435.length co45) ∧ nb k_ Ao65 t454.length co65) ∧ nb k_ Ao66 t457.length co66)) (n := t443.length) (c := co55) ?_).2.2; exact (R_at (R_far9 HO445.out BK460.out (by decide)))); (case side2 => exact (Kd.R_reads' HO445.out).2.1); (case side3 => refine (Kd.R_reads' (e := 3) (base := w.heap.size) (ok := fun k_ => (((((nb k_ Ao66 t457.length co66 ∧ some k_ ≠ (v417 : Value).ownBlock) ∧ some k_ ≠ (v427 : Value).ownBlock) ∧ some k_ ≠ (v430 : Value).ownBlock) ∧ nb k_ Ao45 t435.length co45) ∧ nb k_ Ao55 t443.length co55)) (n := t454.length) (c := co65) ?_).2.2; exact (R_at (R_far9 HO456.out BK460.out (by decide)))); (case side4 => exact (Kd.R_reads' HO456.out).2.1); (case side5 => refine (Kd.R_reads' (e := 3) (base := w.heap.size) (ok := fun k_ => (((((nb k_ Ao65 t454.length co65 ∧ some k_ ≠ (v417 : Value).ownBlock) ∧ some k_ ≠ (v427 : Value).ownBlock) ∧ some k_ ≠ (v430 : Value).ownBlock) ∧ nb k_ Ao45 t435.length co45) ∧ nb k_ Ao55 t443.length co55)) (n := t457.length) (c := co66) ?_).2.2; exact (R_at (R_far9 HO459.out BK460.out (by decide)))); (case side6 => exact (Kd.R_reads' HO459.out).2.1); rintro e w68 ⟨v465, rfl, ho0, hb⟩; refine ⟨_, rfl, ?_⟩; have n0_ := Aside0.mk (Kd.R_elder' (R_at (R_far9 HO418.out BK460.out (by decide))) (Kd.R_base ho0) hb); have n1_ := Aside0.mk (Kd.R_elder' (R_at (R_far9 HO428.out BK460.out (by decide))) (Kd.R_base ho0) hb); have n2_ := Aside0.mk (Kd.R_elder' (R_at (R_far9 HO431.out BK460.out (by decide))) (Kd.R_base ho0) hb); have n3_ := Aside0.mk (Kd.R_elder' (R_at (R_far9 HO437.out BK460.out (by decide))) (Kd.R_base ho0) hb); have n4_ := Aside0.mk (Kd.R_elder' (R_at (R_far9 HO445.out BK460.out (by decide))) (Kd.R_base ho0) hb); have n5_ := Aside0.mk (Kd.R_elder' (R_at (R_far9 HO456.out BK460.out (by decide))) (Kd.R_base ho0) hb); have n6_ := Aside0.mk (Kd.R_elder' (R_at (R_far9 HO459.out BK460.out (by decide))) (Kd.R_base ho0) hb); have n7_ := Aside0.mk (Kd.R_lower (Kd.R_new' (Kd.R_new' (Kd.R_new' (Kd.R_new' (Kd.R_new' (Kd.R_new' (Kd.R_new' ho0 (Kd.R_lt (R_at (R_far9 HO418.out BK460.out (by decide))))) (Kd.R_lt (R_at (R_far9 HO428.out BK460.out (by decide))))) (Kd.R_lt (R_at (R_far9 HO431.out BK460.out (by decide))))) (Kd.R_lt (R_at (R_far9 HO437.out BK460.out (by decide))))) (Kd.R_lt (R_at (R_far9 HO445.out BK460.out (by decide))))) (Kd.R_lt (R_at (R_far9 HO456.out BK460.out (by decide))))) (Kd.R_lt (R_at (R_far9 HO459.out BK460.out (by decide))))) (below_size bel_now)); replace HB := bel_on w hb; replace BK409 := Aside0.mk (blk_below (g := gb409) (o := .cells #[.int .i64 a0_0, .int .i64 a0_1, .int .i64 a0_2, .slice A0_3 l0_3.length c0_3] 26 (0, 0)) (blk_fars BK409.out) hb); replace BK410 := Aside0.mk (blk_below (g := gb410) (o := .cells #[.int .i64 a1_0, .int .i64 a1_1, .int .i64 a1_2, .int .i64 a1_3, .int .i64 a1_4, .int .i64 a1_5, .int .i64 a1_6, .slice A1_7 l1_7.length c1_7, .slice A1_8 l1_8.length c1_8] 28 (0, 0)) (blk_fars BK410.out) hb); replace BK439 := Aside0.mk (blk_below (g := gb439) (o := .cells #[.int .i64 t432, .int .i64 t433, .int .i64 t434, .slice Ao45 t435.length co45] 33 (0, 0)) (blk_fars BK439.out) hb); replace BK446 := Aside0.mk (blk_below (g := gb446) (o := .cells #[.int .i64 t440, .int .i64 t441, .int .i64 t442, .slice Ao55 t443.length co55] 33 (0, 0)) (blk_fars BK446.out) hb); replace BK460 := Aside0.mk (blk_below (g := gb460) (o := .cells #[.int .i64 t447, .int .i64 t448, .int .i64 t449, .int .i64 t450, .int .i64 t451, .int .i64 t452, .int .i64 t453, .slice Ao65 t454.length co65, .slice Ao66 t457.length co66] 37 (0, 0)) (by (with_reducible repeat (first | refine blk_drewN ?_ _ | refine blk_drew ?_ | refine blk_alloc ?_ _)); first | exact putl9 BK460.out | exact blk_fars (putl9 BK460.out)) hb); clear HO418 HO428 HO431 HO437 HO445 HO456 HO459; have HO418 := n0_; have HO428 := n1_; have HO431 := n2_; have HO437 := n3_; have HO445 := n4_; have HO456 := n5_; have HO459 := n6_; have HO466 := n7_; clear n0_ n1_ n2_ n3_ n4_ n5_ n6_ n7_; (try clear hb); (try clear ho0)) | ((with_reducible refine gate_dst (N := 10) rfl ?_); refine boxM 10 #[.int .i64 0, .int .i64 0, .int .i64 0, .slice none 0 0] 33 ?_; intro gb468 hg w69 BK468 hb; replace HB := box_at w hb hg; obtain ⟨HB, GW468, GE468⟩ := HB; replace BK409 := box_on gb409 hb hg; obtain ⟨BK409, NB409_468, NB468_409⟩ := BK409; replace BK410 := box_on gb410 hb hg; obtain ⟨BK410, NB410_468, NB468_410⟩ := BK410; replace BK439 := box_on gb439 hb hg; obtain ⟨BK439, NB439_468, NB468_439⟩ := BK439; replace BK446 := box_on gb446 hb hg; obtain ⟨BK446, NB446_468, NB468_446⟩ := BK446; replace BK460 := box_on gb460 hb hg; obtain ⟨BK460, NB460_468, NB468_460⟩ := BK460; replace HO418 := Aside0.mk (Kd.R_below (R_at HO418.out) hb); replace HO428 := Aside0.mk (Kd.R_below (R_at HO428.out) hb); replace HO431 := Aside0.mk (Kd.R_below (R_at HO431.out) hb); replace HO437 := Aside0.mk (Kd.R_below (R_at HO437.out) hb); replace HO445 := Aside0.mk (Kd.R_below (R_at HO445.out) hb); replace HO456 := Aside0.mk (Kd.R_below (R_at HO456.out) hb); replace HO459 := Aside0.mk (Kd.R_below (R_at HO459.out) hb); replace HO466 := Aside0.mk (Kd.R_below (R_at HO466.out) hb); clear hb hg; have hn70 := ne2 NB468_409; have hn71 := ne2 NB468_410; have hn72 := ne2 NB468_439; have hn73 := ne2 NB468_446; have hn74 := ne2 NB468_460; have hcz75 := cells4 BK468.out; obtain ⟨Ao76, co76, eo76⟩ := Kd.R_slice HO466.out; subst eo76))
  (try simp only [Act.put, zA, zB, zC])
  go_cut [53] (fun v53 wc => ∃ (kq : Nat) (x53_24 : Bool), v53 = .bool x53_24 ∧ Aside0 (laws_FnExactRunLayer.j0 kq t438 t467 x53_24 a0_0 a0_1 a0_2 l0_3 a1_0 a1_1 a1_2 a1_3 a1_4 a1_5 a1_6 l1_7 l1_8 t432 t433 t434 t435 t440 t441 t442 t443 t447 t448 t449 t450 t451 t452 t453 t454 t457 t461 t462 t463 t464 = some true) ∧ Aside0 (kq ≤ k) ∧ Aside0 (Kd.R (Kd.int .i64) 3 wc w.heap.size (fun k_ => some k_ ≠ ((.slice Ao55 t443.length co55) : Value).ownBlock ∧ some k_ ≠ ((.slice Ao65 t454.length co65) : Value).ownBlock ∧ some k_ ≠ ((.slice Ao66 t457.length co66) : Value).ownBlock ∧ some k_ ≠ ((.slice Ao76 t464.length co76) : Value).ownBlock) (.slice Ao45 t435.length co45) t435) ∧ Aside0 (Kd.R (Kd.int .i64) 3 wc w.heap.size (fun k_ => some k_ ≠ ((.slice Ao45 t435.length co45) : Value).ownBlock ∧ some k_ ≠ ((.slice Ao65 t454.length co65) : Value).ownBlock ∧ some k_ ≠ ((.slice Ao66 t457.length co66) : Value).ownBlock ∧ some k_ ≠ ((.slice Ao76 t464.length co76) : Value).ownBlock) (.slice Ao55 t443.length co55) t443) ∧ Aside0 (Kd.R (Kd.int .i64) 3 wc w.heap.size (fun k_ => some k_ ≠ ((.slice Ao45 t435.length co45) : Value).ownBlock ∧ some k_ ≠ ((.slice Ao55 t443.length co55) : Value).ownBlock ∧ some k_ ≠ ((.slice Ao66 t457.length co66) : Value).ownBlock ∧ some k_ ≠ ((.slice Ao76 t464.length co76) : Value).ownBlock) (.slice Ao65 t454.length co65) t454) ∧ Aside0 (Kd.R (Kd.int .i64) 3 wc w.heap.size (fun k_ => some k_ ≠ ((.slice Ao45 t435.length co45) : Value).ownBlock ∧ some k_ ≠ ((.slice Ao55 t443.length co55) : Value).ownBlock ∧ some k_ ≠ ((.slice Ao65 t454.length co65) : Value).ownBlock ∧ some k_ ≠ ((.slice Ao76 t464.length co76) : Value).ownBlock) (.slice Ao66 t457.length co66) t457) ∧ Aside0 (Kd.R (Kd.int .i64) 3 wc w.heap.size (fun k_ => some k_ ≠ ((.slice Ao45 t435.length co45) : Value).ownBlock ∧ some k_ ≠ ((.slice Ao55 t443.length co55) : Value).ownBlock ∧ some k_ ≠ ((.slice Ao65 t454.length co65) : Value).ownBlock ∧ some k_ ≠ ((.slice Ao66 t457.length co66) : Value).ownBlock) (.slice Ao76 t464.length co76) t464) ∧ Aside0 (wc.heap[gb409]? = some (.cells #[.int .i64 a0_0, .int .i64 a0_1, .int .i64 a0_2, (.slice A0_3 l0_3.length c0_3)] 26 (0, 0))) ∧ Aside0 (wc.heap[gb410]? = some (.cells #[.int .i64 a1_0, .int .i64 a1_1, .int .i64 a1_2, .int .i64 a1_3, .int .i64 a1_4, .int .i64 a1_5, .int .i64 a1_6, (.slice A1_7 l1_7.length c1_7), (.slice A1_8 l1_8.length c1_8)] 28 (0, 0))) ∧ Aside0 (wc.heap[gb439]? = some (.cells #[.int .i64 t432, .int .i64 t433, .int .i64 t434, (.slice Ao45 t435.length co45)] 33 (0, 0))) ∧ Aside0 (wc.heap[gb446]? = some (.cells #[.int .i64 t440, .int .i64 t441, .int .i64 t442, (.slice Ao55 t443.length co55)] 33 (0, 0))) ∧ Aside0 (wc.heap[gb460]? = some (.cells #[.int .i64 t447, .int .i64 t448, .int .i64 t449, .int .i64 t450, .int .i64 t451, .int .i64 t452, .int .i64 t453, (.slice Ao65 t454.length co65), (.slice Ao66 t457.length co66)] 37 (0, 0))) ∧ Aside0 (wc.heap[gb468]? = some (.cells #[.int .i64 t461, .int .i64 t462, .int .i64 t463, (.slice Ao76 t464.length co76)] 33 (0, 0))) ∧ Aside0 (Below w.heap.size w wc))
  case first =>
   have H := HC25.out
   clear HC25
   replace H := Option.bind_eq_some_iff.mp H
   obtain ⟨t469, A770, H⟩ := H
   (try dsimp only at H)
   have A77 := Aside0.mk A770
   clear A770
   by_cases c78 : t469 = true
   ·subst c78
    rw [if_pos rfl] at H
    have H' := Aside0.mk H
    clear H
    have hn79 := ne2 NB468_409
    have hn80 := ne2 NB468_410
    have hn81 := ne2 NB468_439
    have hn82 := ne2 NB468_446
    have hn83 := ne2 NB468_460
    have hcz84 := cells4 BK468.out
    have hn85 := ne2 NB439_409
    have hn86 := ne2 NB439_410
    have hn87 := ne2 NB439_446
    have hn88 := ne2 NB439_460
    have hcz89 := cells4 BK439.out
    go_wp2_with (first | ((with_reducible refine gate_callee (f := 14) rfl ?_); refine goesM (some 47) rfl rfl Try.func14 (by kernel_rfl) rfl #[.agg #[.int .i64 t461, .int .i64 t462, .int .i64 t463, .slice Ao76 t464.length co76], .agg #[.int .i64 t432, .int .i64 t433, .int .i64 t434, .slice Ao45 t435.length co45]] rfl ?_; (with_reducible refine (laws_eqTensor.calls k t461 t462 t463 _ _ t464 t432 t433 t434 _ _ t435 true _ ?side1 ?side2 ?side3 ?side4 A77.out).mono ?_); (case side1 => refine (Kd.R_reads' (e := 3) (base := w.heap.size) (ok := fun k_ => (((((((True ∧ some k_ ≠ (v417 : Value).ownBlock) ∧ some k_ ≠ (v427 : Value).ownBlock) ∧ some k_ ≠ (v430 : Value).ownBlock) ∧ nb k_ Ao45 t435.length co45) ∧ nb k_ Ao55 t443.length co55) ∧ nb k_ Ao65 t454.length co65) ∧ nb k_ Ao66 t457.length co66)) (n := t464.length) (c := co76) ?_).2.2; exact (R_at (R_far4 HO466.out BK468.out (by decide)))); (case side2 => exact (Kd.R_reads' HO466.out).2.1); (case side3 => refine (Kd.R_reads' (e := 3) (base := w.heap.size) (ok := fun k_ => (((((some k_ ≠ (v417 : Value).ownBlock ∧ (some k_ ≠ (v427 : Value).ownBlock ∧ some k_ ≠ (v430 : Value).ownBlock)) ∧ nb k_ Ao55 t443.length co55) ∧ nb k_ Ao65 t454.length co65) ∧ nb k_ Ao66 t457.length co66) ∧ nb k_ Ao76 t464.length co76)) (n := t435.length) (c := co45) ?_).2.2; exact (R_at (R_far4 HO437.out BK468.out (by decide)))); (case side4 => exact (Kd.R_reads' HO437.out).2.1); rintro e w90 ⟨rfl, hb⟩; refine ⟨_, rfl, ?_⟩; have n0_ := Aside0.mk (Kd.R_below (R_at (R_far4 HO418.out BK468.out (by decide))) hb); have n1_ := Aside0.mk (Kd.R_below (R_at (R_far4 HO428.out BK468.out (by decide))) hb); have n2_ := Aside0.mk (Kd.R_below (R_at (R_far4 HO431.out BK468.out (by decide))) hb); have n3_ := Aside0.mk (Kd.R_below (R_at (R_far4 HO437.out BK468.out (by decide))) hb); have n4_ := Aside0.mk (Kd.R_below (R_at (R_far4 HO445.out BK468.out (by decide))) hb); have n5_ := Aside0.mk (Kd.R_below (R_at (R_far4 HO456.out BK468.out (by decide))) hb); have n6_ := Aside0.mk (Kd.R_below (R_at (R_far4 HO459.out BK468.out (by decide))) hb); have n7_ := Aside0.mk (Kd.R_below (R_at (R_far4 HO466.out BK468.out (by decide))) hb); replace HB := bel_on w hb; replace BK409 := Aside0.mk (blk_below (g := gb409) (o := .cells #[.int .i64 a0_0, .int .i64 a0_1, .int .i64 a0_2, .slice A0_3 l0_3.length c0_3] 26 (0, 0)) (blk_fars BK409.out) hb); replace BK410 := Aside0.mk (blk_below (g := gb410) (o := .cells #[.int .i64 a1_0, .int .i64 a1_1, .int .i64 a1_2, .int .i64 a1_3, .int .i64 a1_4, .int .i64 a1_5, .int .i64 a1_6, .slice A1_7 l1_7.length c1_7, .slice A1_8 l1_8.length c1_8] 28 (0, 0)) (blk_fars BK410.out) hb); replace BK439 := Aside0.mk (blk_below (g := gb439) (o := .cells #[.int .i64 t432, .int .i64 t433, .int .i64 t434, .slice Ao45 t435.length co45] 33 (0, 0)) (blk_fars BK439.out) hb); replace BK446 := Aside0.mk (blk_below (g := gb446) (o := .cells #[.int .i64 t440, .int .i64 t441, .int .i64 t442, .slice Ao55 t443.length co55] 33 (0, 0)) (blk_fars BK446.out) hb); replace BK460 := Aside0.mk (blk_below (g := gb460) (o := .cells #[.int .i64 t447, .int .i64 t448, .int .i64 t449, .int .i64 t450, .int .i64 t451, .int .i64 t452, .int .i64 t453, .slice Ao65 t454.length co65, .slice Ao66 t457.length co66] 37 (0, 0)) (blk_fars BK460.out) hb); replace BK468 := Aside0.mk (blk_below (g := gb468) (o := .cells #[.int .i64 t461, .int .i64 t462, .int .i64 t463, .slice Ao76 t464.length co76] 33 (0, 0)) (blk_fars (puts4 BK468.out)) hb); clear HO418 HO428 HO431 HO437 HO445 HO456 HO459 HO466; have HO418 := n0_; have HO428 := n1_; have HO431 := n2_; have HO437 := n3_; have HO445 := n4_; have HO456 := n5_; have HO459 := n6_; have HO466 := n7_; clear n0_ n1_ n2_ n3_ n4_ n5_ n6_ n7_; (try clear hb)))
    go_meet
    case rel => exact ⟨_, ((t467 != t438)), (by first | rfl | (simp; done) | (simp [*]; done)), H', ⟨by first | omega | exact Nat.le_refl _⟩, ⟨by (with_reducible repeat (first | apply Kd.R_alloc | apply Kd.R_drewN | apply Kd.R_drew)); exact Kd.R_mono HO437.out (fun _ hk => ⟨hk.1.1.1.2, ⟨hk.1.1.2, ⟨hk.1.2, hk.2⟩⟩⟩)⟩, ⟨by (with_reducible repeat (first | apply Kd.R_alloc | apply Kd.R_drewN | apply Kd.R_drew)); exact Kd.R_mono HO445.out (fun _ hk => ⟨hk.1.1.1.2, ⟨hk.1.1.2, ⟨hk.1.2, hk.2⟩⟩⟩)⟩, ⟨by (with_reducible repeat (first | apply Kd.R_alloc | apply Kd.R_drewN | apply Kd.R_drew)); exact Kd.R_mono HO456.out (fun _ hk => ⟨hk.1.1.2, ⟨hk.1.2, ⟨hk.1.1.1.1.1.1, hk.2⟩⟩⟩)⟩, ⟨by (with_reducible repeat (first | apply Kd.R_alloc | apply Kd.R_drewN | apply Kd.R_drew)); exact Kd.R_mono HO459.out (fun _ hk => ⟨hk.1.1.2, ⟨hk.1.2, ⟨hk.1.1.1.1.1.1, hk.2⟩⟩⟩)⟩, ⟨by (with_reducible repeat (first | apply Kd.R_alloc | apply Kd.R_drewN | apply Kd.R_drew)); exact Kd.R_mono HO466.out (fun _ hk => ⟨hk.1.1.1.2, ⟨hk.1.1.2, ⟨hk.1.2, hk.2⟩⟩⟩)⟩, ⟨bks BK409⟩, ⟨bks BK410⟩, ⟨bks BK439⟩, ⟨bks BK446⟩, ⟨bks BK460⟩, ⟨bks BK468⟩, ⟨bel_now⟩⟩
   replace c78 := Bool.eq_false_iff.mpr c78
   subst c78
   rw [if_neg (show ¬ (false = true) by decide)] at H
   have H' := Aside0.mk H
   clear H
   have hn91 := ne2 NB468_409
   have hn92 := ne2 NB468_410
   have hn93 := ne2 NB468_439
   have hn94 := ne2 NB468_446
   have hn95 := ne2 NB468_460
   have hcz96 := cells4 BK468.out
   have hn97 := ne2 NB439_409
   have hn98 := ne2 NB439_410
   have hn99 := ne2 NB439_446
   have hn100 := ne2 NB439_460
   have hcz101 := cells4 BK439.out
   go_wp2_with (first | ((with_reducible refine gate_callee (f := 14) rfl ?_); refine goesM (some 47) rfl rfl Try.func14 (by kernel_rfl) rfl #[.agg #[.int .i64 t461, .int .i64 t462, .int .i64 t463, .slice Ao76 t464.length co76], .agg #[.int .i64 t432, .int .i64 t433, .int .i64 t434, .slice Ao45 t435.length co45]] rfl ?_; (with_reducible refine (laws_eqTensor.calls k t461 t462 t463 _ _ t464 t432 t433 t434 _ _ t435 false _ ?side1 ?side2 ?side3 ?side4 A77.out).mono ?_); (case side1 => refine (Kd.R_reads' (e := 3) (base := w.heap.size) (ok := fun k_ => (((((((True ∧ some k_ ≠ (v417 : Value).ownBlock) ∧ some k_ ≠ (v427 : Value).ownBlock) ∧ some k_ ≠ (v430 : Value).ownBlock) ∧ nb k_ Ao45 t435.length co45) ∧ nb k_ Ao55 t443.length co55) ∧ nb k_ Ao65 t454.length co65) ∧ nb k_ Ao66 t457.length co66)) (n := t464.length) (c := co76) ?_).2.2; exact (R_at (R_far4 HO466.out BK468.out (by decide)))); (case side2 => exact (Kd.R_reads' HO466.out).2.1); (case side3 => refine (Kd.R_reads' (e := 3) (base := w.heap.size) (ok := fun k_ => (((((some k_ ≠ (v417 : Value).ownBlock ∧ (some k_ ≠ (v427 : Value).ownBlock ∧ some k_ ≠ (v430 : Value).ownBlock)) ∧ nb k_ Ao55 t443.length co55) ∧ nb k_ Ao65 t454.length co65) ∧ nb k_ Ao66 t457.length co66) ∧ nb k_ Ao76 t464.length co76)) (n := t435.length) (c := co45) ?_).2.2; exact (R_at (R_far4 HO437.out BK468.out (by decide)))); (case side4 => exact (Kd.R_reads' HO437.out).2.1); rintro e w102 ⟨rfl, hb⟩; refine ⟨_, rfl, ?_⟩; have n0_ := Aside0.mk (Kd.R_below (R_at (R_far4 HO418.out BK468.out (by decide))) hb); have n1_ := Aside0.mk (Kd.R_below (R_at (R_far4 HO428.out BK468.out (by decide))) hb); have n2_ := Aside0.mk (Kd.R_below (R_at (R_far4 HO431.out BK468.out (by decide))) hb); have n3_ := Aside0.mk (Kd.R_below (R_at (R_far4 HO437.out BK468.out (by decide))) hb); have n4_ := Aside0.mk (Kd.R_below (R_at (R_far4 HO445.out BK468.out (by decide))) hb); have n5_ := Aside0.mk (Kd.R_below (R_at (R_far4 HO456.out BK468.out (by decide))) hb); have n6_ := Aside0.mk (Kd.R_below (R_at (R_far4 HO459.out BK468.out (by decide))) hb); have n7_ := Aside0.mk (Kd.R_below (R_at (R_far4 HO466.out BK468.out (by decide))) hb); replace HB := bel_on w hb; replace BK409 := Aside0.mk (blk_below (g := gb409) (o := .cells #[.int .i64 a0_0, .int .i64 a0_1, .int .i64 a0_2, .slice A0_3 l0_3.length c0_3] 26 (0, 0)) (blk_fars BK409.out) hb); replace BK410 := Aside0.mk (blk_below (g := gb410) (o := .cells #[.int .i64 a1_0, .int .i64 a1_1, .int .i64 a1_2, .int .i64 a1_3, .int .i64 a1_4, .int .i64 a1_5, .int .i64 a1_6, .slice A1_7 l1_7.length c1_7, .slice A1_8 l1_8.length c1_8] 28 (0, 0)) (blk_fars BK410.out) hb); replace BK439 := Aside0.mk (blk_below (g := gb439) (o := .cells #[.int .i64 t432, .int .i64 t433, .int .i64 t434, .slice Ao45 t435.length co45] 33 (0, 0)) (blk_fars BK439.out) hb); replace BK446 := Aside0.mk (blk_below (g := gb446) (o := .cells #[.int .i64 t440, .int .i64 t441, .int .i64 t442, .slice Ao55 t443.length co55] 33 (0, 0)) (blk_fars BK446.out) hb); replace BK460 := Aside0.mk (blk_below (g := gb460) (o := .cells #[.int .i64 t447, .int .i64 t448, .int .i64 t449, .int .i64 t450, .int .i64 t451, .int .i64 t452, .int .i64 t453, .slice Ao65 t454.length co65, .slice Ao66 t457.length co66] 37 (0, 0)) (blk_fars BK460.out) hb); replace BK468 := Aside0.mk (blk_below (g := gb468) (o := .cells #[.int .i64 t461, .int .i64 t462, .int .i64 t463, .slice Ao76 t464.length co76] 33 (0, 0)) (blk_fars (puts4 BK468.out)) hb); clear HO418 HO428 HO431 HO437 HO445 HO456 HO459 HO466; have HO418 := n0_; have HO428 := n1_; have HO431 := n2_; have HO437 := n3_; have HO445 := n4_; have HO456 := n5_; have HO459 := n6_; have HO466 := n7_; clear n0_ n1_ n2_ n3_ n4_ n5_ n6_ n7_; (try clear hb)))
   go_meet
   case rel => exact ⟨_, (true), (by first | rfl | (simp; done) | (simp [*]; done)), H', ⟨by first | omega | exact Nat.le_refl _⟩, ⟨by (with_reducible repeat (first | apply Kd.R_alloc | apply Kd.R_drewN | apply Kd.R_drew)); exact Kd.R_mono HO437.out (fun _ hk => ⟨hk.1.1.1.2, ⟨hk.1.1.2, ⟨hk.1.2, hk.2⟩⟩⟩)⟩, ⟨by (with_reducible repeat (first | apply Kd.R_alloc | apply Kd.R_drewN | apply Kd.R_drew)); exact Kd.R_mono HO445.out (fun _ hk => ⟨hk.1.1.1.2, ⟨hk.1.1.2, ⟨hk.1.2, hk.2⟩⟩⟩)⟩, ⟨by (with_reducible repeat (first | apply Kd.R_alloc | apply Kd.R_drewN | apply Kd.R_drew)); exact Kd.R_mono HO456.out (fun _ hk => ⟨hk.1.1.2, ⟨hk.1.2, ⟨hk.1.1.1.1.1.1, hk.2⟩⟩⟩)⟩, ⟨by (with_reducible repeat (first | apply Kd.R_alloc | apply Kd.R_drewN | apply Kd.R_drew)); exact Kd.R_mono HO459.out (fun _ hk => ⟨hk.1.1.2, ⟨hk.1.2, ⟨hk.1.1.1.1.1.1, hk.2⟩⟩⟩)⟩, ⟨by (with_reducible repeat (first | apply Kd.R_alloc | apply Kd.R_drewN | apply Kd.R_drew)); exact Kd.R_mono HO466.out (fun _ hk => ⟨hk.1.1.1.2, ⟨hk.1.1.2, ⟨hk.1.2, hk.2⟩⟩⟩)⟩, ⟨bks BK409⟩, ⟨bks BK410⟩, ⟨bks BK439⟩, ⟨bks BK446⟩, ⟨bks BK460⟩, ⟨bks BK468⟩, ⟨bel_now⟩⟩
  case rest =>
   clear HC25
   try clear c1
   try clear p2
   try clear c4
   try clear c5
   try clear c6
   try clear c7
   try clear c8
   try clear c9
   try clear c10
   try clear c11
   try clear c12
   try clear c13
   try clear c14
   try clear c47
   try clear c51
   try clear c52
   try clear c53
   try clear c56
   try clear c60
   try clear c61
   try clear c62
   try clear c63
   try clear c70
   try clear c71
   try clear c72
   try clear c73
   try clear c74
   try clear c78
   try clear c79
   try clear c80
   try clear c81
   try clear c82
   try clear c83
   try clear c85
   try clear c86
   try clear c87
   try clear c88
   try clear c91
   try clear c92
   try clear c93
   try clear c94
   try clear c95
   try clear c97
   try clear c98
   try clear c99
   try clear c100
   try clear hcz101
   try clear hcz48
   try clear hcz54
   try clear hcz57
   try clear hcz64
   try clear hcz67
   try clear hcz75
   try clear hcz84
   try clear hcz89
   try clear hcz96
   obtain ⟨kq, x53_24, rfl, HA, HJ24, HO_440003, HO_447003, HO_461007, HO_461008, HO_469003, BK409, BK410, BK439, BK446, BK460, BK468, HB⟩ := hcut
   cases kq with
   | zero => exact absurd HA.out (by simp [laws_FnExactRunLayer.j0])
   | succ kj24 =>
    have H := HA.out
    clear HA
    simp only [laws_FnExactRunLayer.j0] at H
    by_cases c103 : x53_24 = true
    ·subst c103
     rw [if_pos rfl] at H
     exact absurd H (by decide)
    replace c103 := Bool.eq_false_iff.mpr c103
    subst c103
    rw [if_neg (show ¬ (false = true) by decide)] at H
    replace H := Option.bind_eq_some_iff.mp H
    obtain ⟨⟨t470, t471, t472, t473⟩, A1040, H⟩ := H
    (try dsimp only at H)
    have A104 := Aside0.mk A1040
    clear A1040
    replace H := Option.bind_eq_some_iff.mp H
    obtain ⟨t476, A1050, H⟩ := H
    (try dsimp only at H)
    have A105 := Aside0.mk A1050
    clear A1050
    by_cases c106 : t476 = true
    rotate_left
    ·replace c106 := Bool.eq_false_iff.mpr c106
     subst c106
     rw [if_neg (show ¬ (false = true) by decide)] at H
     exact absurd H (by decide)
    subst c106
    rw [if_pos rfl] at H
    replace H := Option.bind_eq_some_iff.mp H
    obtain ⟨⟨t477, t478, t479, t480, t481, t482, t483, t484, t487⟩, A1070, H⟩ := H
    (try dsimp only at H)
    have A107 := Aside0.mk A1070
    clear A1070
    replace H := Option.bind_eq_some_iff.mp H
    obtain ⟨t490, A1080, H⟩ := H
    (try dsimp only at H)
    have A108 := Aside0.mk A1080
    clear A1080
    by_cases c109 : t490 = true
    rotate_left
    ·replace c109 := Bool.eq_false_iff.mpr c109
     subst c109
     rw [if_neg (show ¬ (false = true) by decide)] at H
     exact absurd H (by decide)
    subst c109
    rw [if_pos rfl] at H
    replace H := Option.bind_eq_some_iff.mp H
    obtain ⟨⟨t491, t492⟩, A1100, H⟩ := H
    (try dsimp only at H)
    have A110 := Aside0.mk A1100
    clear A1100
    replace H := Option.bind_eq_some_iff.mp H
    obtain ⟨⟨t493, t494, t495⟩, A1110, H⟩ := H
    (try dsimp only at H)
    have A111 := Aside0.mk A1110
    clear A1110
    have HC112 := Aside0.mk H
    clear H
    try go_wp2
    replace HO_440003 := Aside0.mk (Kd.R_drew HO_440003.out)
    replace HO_447003 := Aside0.mk (Kd.R_drew HO_447003.out)
    replace HO_461007 := Aside0.mk (Kd.R_drew HO_461007.out)
    replace HO_461008 := Aside0.mk (Kd.R_drew HO_461008.out)
    replace HO_469003 := Aside0.mk (Kd.R_drew HO_469003.out)
    replace BK409 := Aside0.mk (blk_drew BK409.out)
    replace BK410 := Aside0.mk (blk_drew BK410.out)
    replace BK439 := Aside0.mk (blk_drew BK439.out)
    replace BK446 := Aside0.mk (blk_drew BK446.out)
    replace BK460 := Aside0.mk (blk_drew BK460.out)
    replace BK468 := Aside0.mk (blk_drew BK468.out)
    replace HB := Aside0.mk (below_drew1 HB.out)
    refine start_ (n := 5) (S := fun w' => w'.cell? ⟨gb446, 0, none⟩ = some (.int .i64 t440) ∧ w'.cell? ⟨gb446, 1, none⟩ = some (.int .i64 t441) ∧ w'.cell? ⟨gb446, 2, none⟩ = some (.int .i64 t442) ∧ w'.cell? ⟨gb446, 3, none⟩ = some (.slice Ao55 t443.length co55) ∧ w'.cell? ⟨gb409, 0, none⟩ = some (.int .i64 a0_0) ∧ w'.cell? ⟨gb409, 1, none⟩ = some (.int .i64 a0_1) ∧ w'.cell? ⟨gb409, 2, none⟩ = some (.int .i64 a0_2) ∧ w'.cell? ⟨gb409, 3, none⟩ = some (.slice A0_3 l0_3.length c0_3)) (ds := []) #[false, false, false, false, false] (by kernel_rfl) rfl rfl ⟨bc BK446 0, bc BK446 1, bc BK446 2, bc BK446 3, bc BK409 0, bc BK409 1, bc BK409 2, bc BK409 3⟩ (fun hHeld => ?_)
    generalize wc.drew = w113 at HO_440003 HO_447003 HO_461007 HO_461008 HO_469003 BK409 BK410 BK439 BK446 BK460 BK468 HB hHeld ⊢
    refine stepT 0 (some 54) (tk 5 1) (by kernel_rfl) hHeld ?_
    refine stepT 1 (some 55) (tk 5 3) (by kernel_rfl) hHeld ?_
    refine one_ (i := 2) (N := some 56) #[true, true, true, false, false] rfl rfl (by kernel_rfl) (by decide) (fun K hK => ?_)
    refine goes_ Try.func11 (by kernel_rfl) rfl #[.agg #[.int .i64 a0_0, .int .i64 a0_1, .int .i64 a0_2, .slice A0_3 l0_3.length c0_3]] (by rfl) rfl rfl (by (try simp only [List.map_toArray, List.map_cons, List.map_nil]); first | done | rfl | (simp only [List.length_drop, List.length_take]; rfl)) ?_
    with_reducible refine (laws_toTensor.calls kj24 a0_0 a0_1 a0_2 _ _ l0_3 t470 t471 t472 t473 _ ?side1 ?side2 A104.out).mono ?_
    (case side1 => exact C_now HR0_3.out)
    (case side2 => exact HC0_3.out)
    rintro e w114 ⟨v474, rfl, ho0, hb⟩
    refine ⟨_, rfl, ?_⟩
    have n5_ := Aside0.mk (Kd.R_lower (Kd.R_new' (Kd.R_new' (Kd.R_new' (Kd.R_new' (Kd.R_new' ho0 (Kd.R_lt (R_at HO_440003.out))) (Kd.R_lt (R_at HO_447003.out))) (Kd.R_lt (R_at HO_461007.out))) (Kd.R_lt (R_at HO_461008.out))) (Kd.R_lt (R_at HO_469003.out))) (below_size bel_now))
    replace HO_440003 := Aside0.mk (Kd.R_elder' (R_at HO_440003.out) (Kd.R_base ho0) hb)
    replace HO_447003 := Aside0.mk (Kd.R_elder' (R_at HO_447003.out) (Kd.R_base ho0) hb)
    replace HO_461007 := Aside0.mk (Kd.R_elder' (R_at HO_461007.out) (Kd.R_base ho0) hb)
    replace HO_461008 := Aside0.mk (Kd.R_elder' (R_at HO_461008.out) (Kd.R_base ho0) hb)
    replace HO_469003 := Aside0.mk (Kd.R_elder' (R_at HO_469003.out) (Kd.R_base ho0) hb)
    replace BK409 := blk_on gb409 hb
    replace BK410 := blk_on gb410 hb
    replace BK439 := blk_on gb439 hb
    replace BK446 := blk_on gb446 hb
    replace BK460 := blk_on gb460 hb
    replace BK468 := blk_on gb468 hb
    replace HB := bel_on w hb
    have HO475 := n5_
    clear n5_
    (try clear hb)
    (try clear ho0)
    obtain ⟨Ao115, co115, eo115⟩ := Kd.R_slice HO475.out
    (first | subst eo115 | (injection eo115 with f1_ f2_ f3_; have f4_ := f1_.symm; have f5_ := f3_.symm; clear f1_ f2_ f3_; subst f4_; subst f5_))
    refine hK.out _ _ ⟨bc BK446 0, bc BK446 1, bc BK446 2, bc BK446 3, bc BK409 0, bc BK409 1, bc BK409 2, bc BK409 3⟩ (fun hHeld => ?_)
    clear hK K
    refine normP 56 ?_
    refine one_ (i := 3) (N := some 57) #[true, true, true, true, false] rfl rfl (by kernel_rfl) (by decide) (fun K hK => ?_)
    refine goes_ Try.func14 (by kernel_rfl) rfl #[.agg #[.int .i64 t440, .int .i64 t441, .int .i64 t442, .slice Ao55 t443.length co55], .agg #[.int .i64 t470, .int .i64 t471, .int .i64 t472, .slice Ao115 t473.length co115]] (by rfl) rfl rfl (by (try simp only [List.map_toArray, List.map_cons, List.map_nil]); first | done | rfl | (simp only [List.length_drop, List.length_take]; rfl)) ?_
    with_reducible refine (laws_eqTensor.calls kj24 t440 t441 t442 _ _ t443 t470 t471 t472 _ _ t473 true _ ?side1 ?side2 ?side3 ?side4 A105.out).mono ?_
    (case side1 => exact (Kd.R_reads' (R_at HO_447003.out)).2.2)
    (case side2 => exact (Kd.R_reads' HO_447003.out).2.1)
    (case side3 => exact (Kd.R_reads' (R_at HO475.out)).2.2)
    (case side4 => exact (Kd.R_reads' HO475.out).2.1)
    rintro e w116 ⟨rfl, hb⟩
    refine ⟨_, rfl, ?_⟩
    replace HO_440003 := Aside0.mk (Kd.R_below (R_at HO_440003.out) hb)
    replace HO_447003 := Aside0.mk (Kd.R_below (R_at HO_447003.out) hb)
    replace HO_461007 := Aside0.mk (Kd.R_below (R_at HO_461007.out) hb)
    replace HO_461008 := Aside0.mk (Kd.R_below (R_at HO_461008.out) hb)
    replace HO_469003 := Aside0.mk (Kd.R_below (R_at HO_469003.out) hb)
    replace HO475 := Aside0.mk (Kd.R_below (R_at HO475.out) hb)
    replace BK409 := blk_on gb409 hb
    replace BK410 := blk_on gb410 hb
    replace BK439 := blk_on gb439 hb
    replace BK446 := blk_on gb446 hb
    replace BK460 := blk_on gb460 hb
    replace BK468 := blk_on gb468 hb
    replace HB := bel_on w hb
    (try clear hb)
    refine hK.out _ _ ⟨bc BK446 0, bc BK446 1, bc BK446 2, bc BK446 3, bc BK409 0, bc BK409 1, bc BK409 2, bc BK409 3⟩ (fun hHeld => ?_)
    clear hK K
    refine normP 57 ?_
    refine stepP 4 (some 58) (tk 5 31) (by kernel_rfl) ?_
    refine done_ (by kernel_rfl) ?_
    try go_wp2
    replace HO_440003 := Aside0.mk (Kd.R_drew HO_440003.out)
    replace HO_447003 := Aside0.mk (Kd.R_drew HO_447003.out)
    replace HO_461007 := Aside0.mk (Kd.R_drew HO_461007.out)
    replace HO_461008 := Aside0.mk (Kd.R_drew HO_461008.out)
    replace HO_469003 := Aside0.mk (Kd.R_drew HO_469003.out)
    replace HO475 := Aside0.mk (Kd.R_drew HO475.out)
    replace BK409 := Aside0.mk (blk_drew BK409.out)
    replace BK410 := Aside0.mk (blk_drew BK410.out)
    replace BK439 := Aside0.mk (blk_drew BK439.out)
    replace BK446 := Aside0.mk (blk_drew BK446.out)
    replace BK460 := Aside0.mk (blk_drew BK460.out)
    replace BK468 := Aside0.mk (blk_drew BK468.out)
    replace HB := Aside0.mk (below_drew1 HB.out)
    refine start_ (n := 5) (S := fun w' => w'.cell? ⟨gb460, 0, none⟩ = some (.int .i64 t447) ∧ w'.cell? ⟨gb460, 1, none⟩ = some (.int .i64 t448) ∧ w'.cell? ⟨gb460, 2, none⟩ = some (.int .i64 t449) ∧ w'.cell? ⟨gb460, 3, none⟩ = some (.int .i64 t450) ∧ w'.cell? ⟨gb460, 4, none⟩ = some (.int .i64 t451) ∧ w'.cell? ⟨gb460, 5, none⟩ = some (.int .i64 t452) ∧ w'.cell? ⟨gb460, 6, none⟩ = some (.int .i64 t453) ∧ w'.cell? ⟨gb460, 7, none⟩ = some (.slice Ao65 t454.length co65) ∧ w'.cell? ⟨gb460, 8, none⟩ = some (.slice Ao66 t457.length co66) ∧ w'.cell? ⟨gb410, 0, none⟩ = some (.int .i64 a1_0) ∧ w'.cell? ⟨gb410, 1, none⟩ = some (.int .i64 a1_1) ∧ w'.cell? ⟨gb410, 2, none⟩ = some (.int .i64 a1_2) ∧ w'.cell? ⟨gb410, 3, none⟩ = some (.int .i64 a1_3) ∧ w'.cell? ⟨gb410, 4, none⟩ = some (.int .i64 a1_4) ∧ w'.cell? ⟨gb410, 5, none⟩ = some (.int .i64 a1_5) ∧ w'.cell? ⟨gb410, 6, none⟩ = some (.int .i64 a1_6) ∧ w'.cell? ⟨gb410, 7, none⟩ = some (.slice A1_7 l1_7.length c1_7) ∧ w'.cell? ⟨gb410, 8, none⟩ = some (.slice A1_8 l1_8.length c1_8)) (ds := []) #[false, false, false, false, false] (by kernel_rfl) rfl rfl ⟨bc BK460 0, bc BK460 1, bc BK460 2, bc BK460 3, bc BK460 4, bc BK460 5, bc BK460 6, bc BK460 7, bc BK460 8, bc BK410 0, bc BK410 1, bc BK410 2, bc BK410 3, bc BK410 4, bc BK410 5, bc BK410 6, bc BK410 7, bc BK410 8⟩ (fun hHeld => ?_)
    generalize w116.drew = w117 at HO_440003 HO_447003 HO_461007 HO_461008 HO_469003 HO475 BK409 BK410 BK439 BK446 BK460 BK468 HB hHeld ⊢
    refine stepT 0 (some 59) (tk 5 1) (by kernel_rfl) hHeld ?_
    refine stepT 1 (some 60) (tk 5 3) (by kernel_rfl) hHeld ?_
    refine one_ (i := 2) (N := some 61) #[true, true, true, false, false] rfl rfl (by kernel_rfl) (by decide) (fun K hK => ?_)
    refine goes_ Try.func12 (by kernel_rfl) rfl #[.agg #[.int .i64 a1_0, .int .i64 a1_1, .int .i64 a1_2, .int .i64 a1_3, .int .i64 a1_4, .int .i64 a1_5, .int .i64 a1_6, .slice A1_7 l1_7.length c1_7, .slice A1_8 l1_8.length c1_8]] (by rfl) rfl rfl (by (try simp only [List.map_toArray, List.map_cons, List.map_nil]); first | done | rfl | (simp only [List.length_drop, List.length_take]; rfl)) ?_
    with_reducible refine (laws_toLayer.calls kj24 a1_0 a1_1 a1_2 a1_3 a1_4 a1_5 a1_6 _ _ l1_7 _ _ l1_8 t477 t478 t479 t480 t481 t482 t483 t484 t487 _ ?side1 ?side2 ?side3 ?side4 A107.out).mono ?_
    (case side1 => exact C_now HR1_7.out)
    (case side2 => exact HC1_7.out)
    (case side3 => exact C_now HR1_8.out)
    (case side4 => exact HC1_8.out)
    rintro e w118 ⟨v485, v488, rfl, ho0, ho1, hb⟩
    refine ⟨_, rfl, ?_⟩
    have n6_ := Aside0.mk (Kd.R_lower (Kd.R_new' (Kd.R_new' (Kd.R_new' (Kd.R_new' (Kd.R_new' (Kd.R_new' ho0 (Kd.R_lt (R_at HO_440003.out))) (Kd.R_lt (R_at HO_447003.out))) (Kd.R_lt (R_at HO_461007.out))) (Kd.R_lt (R_at HO_461008.out))) (Kd.R_lt (R_at HO_469003.out))) (Kd.R_lt (R_at HO475.out))) (below_size bel_now))
    have n7_ := Aside0.mk (Kd.R_lower (Kd.R_new' (Kd.R_new' (Kd.R_new' (Kd.R_new' (Kd.R_new' (Kd.R_new' ho1 (Kd.R_lt (R_at HO_440003.out))) (Kd.R_lt (R_at HO_447003.out))) (Kd.R_lt (R_at HO_461007.out))) (Kd.R_lt (R_at HO_461008.out))) (Kd.R_lt (R_at HO_469003.out))) (Kd.R_lt (R_at HO475.out))) (below_size bel_now))
    replace HO_440003 := Aside0.mk (Kd.R_mono (Kd.R_told (Kd.R_told (Kd.R_old (R_at HO_440003.out) hb) (Kd.R_base ho0)) (Kd.R_base ho1)) (fun _ h_ => h_.1))
    replace HO_447003 := Aside0.mk (Kd.R_mono (Kd.R_told (Kd.R_told (Kd.R_old (R_at HO_447003.out) hb) (Kd.R_base ho0)) (Kd.R_base ho1)) (fun _ h_ => h_.1))
    replace HO_461007 := Aside0.mk (Kd.R_mono (Kd.R_told (Kd.R_told (Kd.R_old (R_at HO_461007.out) hb) (Kd.R_base ho0)) (Kd.R_base ho1)) (fun _ h_ => h_.1))
    replace HO_461008 := Aside0.mk (Kd.R_mono (Kd.R_told (Kd.R_told (Kd.R_old (R_at HO_461008.out) hb) (Kd.R_base ho0)) (Kd.R_base ho1)) (fun _ h_ => h_.1))
    replace HO_469003 := Aside0.mk (Kd.R_mono (Kd.R_told (Kd.R_told (Kd.R_old (R_at HO_469003.out) hb) (Kd.R_base ho0)) (Kd.R_base ho1)) (fun _ h_ => h_.1))
    replace HO475 := Aside0.mk (Kd.R_mono (Kd.R_told (Kd.R_told (Kd.R_old (R_at HO475.out) hb) (Kd.R_base ho0)) (Kd.R_base ho1)) (fun _ h_ => h_.1))
    replace BK409 := blk_on gb409 hb
    replace BK410 := blk_on gb410 hb
    replace BK439 := blk_on gb439 hb
    replace BK446 := blk_on gb446 hb
    replace BK460 := blk_on gb460 hb
    replace BK468 := blk_on gb468 hb
    replace HB := bel_on w hb
    have HO486 := n6_
    have HO489 := n7_
    clear n6_ n7_
    (try clear hb)
    (try clear ho0)
    (try clear ho1)
    obtain ⟨Ao119, co119, eo119⟩ := Kd.R_slice HO486.out
    (first | subst eo119 | (injection eo119 with f1_ f2_ f3_; have f4_ := f1_.symm; have f5_ := f3_.symm; clear f1_ f2_ f3_; subst f4_; subst f5_))
    obtain ⟨Ao120, co120, eo120⟩ := Kd.R_slice HO489.out
    (first | subst eo120 | (injection eo120 with f1_ f2_ f3_; have f4_ := f1_.symm; have f5_ := f3_.symm; clear f1_ f2_ f3_; subst f4_; subst f5_))
    refine hK.out _ _ ⟨bc BK460 0, bc BK460 1, bc BK460 2, bc BK460 3, bc BK460 4, bc BK460 5, bc BK460 6, bc BK460 7, bc BK460 8, bc BK410 0, bc BK410 1, bc BK410 2, bc BK410 3, bc BK410 4, bc BK410 5, bc BK410 6, bc BK410 7, bc BK410 8⟩ (fun hHeld => ?_)
    clear hK K
    refine normP 61 ?_
    refine one_ (i := 3) (N := some 62) #[true, true, true, true, false] rfl rfl (by kernel_rfl) (by decide) (fun K hK => ?_)
    refine goes_ Try.func15 (by kernel_rfl) rfl #[.agg #[.int .i64 t447, .int .i64 t448, .int .i64 t449, .int .i64 t450, .int .i64 t451, .int .i64 t452, .int .i64 t453, .slice Ao65 t454.length co65, .slice Ao66 t457.length co66], .agg #[.int .i64 t477, .int .i64 t478, .int .i64 t479, .int .i64 t480, .int .i64 t481, .int .i64 t482, .int .i64 t483, .slice Ao119 t484.length co119, .slice Ao120 t487.length co120]] (by rfl) rfl rfl (by (try simp only [List.map_toArray, List.map_cons, List.map_nil]); first | done | rfl | (simp only [List.length_drop, List.length_take]; rfl)) ?_
    with_reducible refine (laws_eqLayer.calls kj24 t447 t448 t449 t450 t451 t452 t453 _ _ t454 _ _ t457 t477 t478 t479 t480 t481 t482 t483 _ _ t484 _ _ t487 true _ ?side1 ?side2 ?side3 ?side4 ?side5 ?side6 ?side7 ?side8 A108.out).mono ?_
    (case side1 => exact (Kd.R_reads' (R_at HO_461007.out)).2.2)
    (case side2 => exact (Kd.R_reads' HO_461007.out).2.1)
    (case side3 => exact (Kd.R_reads' (R_at HO_461008.out)).2.2)
    (case side4 => exact (Kd.R_reads' HO_461008.out).2.1)
    (case side5 => exact (Kd.R_reads' (R_at HO486.out)).2.2)
    (case side6 => exact (Kd.R_reads' HO486.out).2.1)
    (case side7 => exact (Kd.R_reads' (R_at HO489.out)).2.2)
    (case side8 => exact (Kd.R_reads' HO489.out).2.1)
    rintro e w121 ⟨rfl, hb⟩
    refine ⟨_, rfl, ?_⟩
    replace HO_440003 := Aside0.mk (Kd.R_below (R_at HO_440003.out) hb)
    replace HO_447003 := Aside0.mk (Kd.R_below (R_at HO_447003.out) hb)
    replace HO_461007 := Aside0.mk (Kd.R_below (R_at HO_461007.out) hb)
    replace HO_461008 := Aside0.mk (Kd.R_below (R_at HO_461008.out) hb)
    replace HO_469003 := Aside0.mk (Kd.R_below (R_at HO_469003.out) hb)
    replace HO475 := Aside0.mk (Kd.R_below (R_at HO475.out) hb)
    replace HO486 := Aside0.mk (Kd.R_below (R_at HO486.out) hb)
    replace HO489 := Aside0.mk (Kd.R_below (R_at HO489.out) hb)
    replace BK409 := blk_on gb409 hb
    replace BK410 := blk_on gb410 hb
    replace BK439 := blk_on gb439 hb
    replace BK446 := blk_on gb446 hb
    replace BK460 := blk_on gb460 hb
    replace BK468 := blk_on gb468 hb
    replace HB := bel_on w hb
    (try clear hb)
    refine hK.out _ _ ⟨bc BK460 0, bc BK460 1, bc BK460 2, bc BK460 3, bc BK460 4, bc BK460 5, bc BK460 6, bc BK460 7, bc BK460 8, bc BK410 0, bc BK410 1, bc BK410 2, bc BK410 3, bc BK410 4, bc BK410 5, bc BK410 6, bc BK410 7, bc BK410 8⟩ (fun hHeld => ?_)
    clear hK K
    refine normP 62 ?_
    refine stepP 4 (some 63) (tk 5 31) (by kernel_rfl) ?_
    refine done_ (by kernel_rfl) ?_
    have hn122 := ne2 NB446_409
    have hn123 := ne2 NB446_410
    have hn124 := ne2 NB446_439
    have hn125 := ne2 NB446_460
    have hn126 := ne2 NB446_468
    have hcz127 := cells4 BK446.out
    go_upto_region 21 with (first | ((with_reducible refine gate_callee (f := 16) rfl ?_); refine goesM (some 66) rfl rfl Try.func16 (by kernel_rfl) rfl #[.agg #[.int .i64 t440, .int .i64 t441, .int .i64 t442, .slice Ao55 t443.length co55], .int .i64 1] rfl ?_; (with_reducible refine (laws_markTensor.calls kj24 t440 t441 t442 (fun k_ => some k_ = (.slice Ao55 t443.length co55 : Value).ownBlock) (.slice Ao55 t443.length co55) t443 1 t491 t492 w _ ?side1 ?side2 A110.out).mono ?_); (case side1 => exact bel_now); (case side2 => exact Kd.R_tight rfl HO_447003.out); rintro e w128 ⟨rfl, hy0, hb, hkp⟩; refine ⟨_, rfl, ?_⟩; have n0_ := Aside0.mk (Kd.R_mono (ok' := fun k_ => nb k_ Ao55 t443.length co55 ∧ nb k_ Ao65 t454.length co65 ∧ nb k_ Ao66 t457.length co66 ∧ nb k_ Ao76 t464.length co76 ∧ nb k_ Ao115 t473.length co115 ∧ nb k_ Ao119 t484.length co119 ∧ nb k_ Ao120 t487.length co120) (Kd.R_keptB (HO_440003.out) hkp (fun k_ hk_ hs_ => (hk_.1.1.1.1) hs_)) (fun k_ hk_ => ⟨hk_.1.1.1.1.1, hk_.1.1.1.1.2.1, hk_.1.1.1.1.2.2.1, hk_.1.1.1.1.2.2.2, hk_.1.1.1.2, hk_.1.1.2, hk_.1.2⟩)); have n1_ := Aside0.mk (Kd.R_reok rfl hy0 (fun k_ e_ => HO_447003.out.1 k_ e_)); have n2_ := Aside0.mk (Kd.R_mono (ok' := fun k_ => nb k_ Ao45 t435.length co45 ∧ nb k_ Ao55 t443.length co55 ∧ nb k_ Ao66 t457.length co66 ∧ nb k_ Ao76 t464.length co76 ∧ nb k_ Ao115 t473.length co115 ∧ nb k_ Ao119 t484.length co119 ∧ nb k_ Ao120 t487.length co120) (Kd.R_keptB (HO_461007.out) hkp (fun k_ hk_ hs_ => (hk_.1.1.1.2.1) hs_)) (fun k_ hk_ => ⟨hk_.1.1.1.1.1, hk_.1.1.1.1.2.1, hk_.1.1.1.1.2.2.1, hk_.1.1.1.1.2.2.2, hk_.1.1.1.2, hk_.1.1.2, hk_.1.2⟩)); have n3_ := Aside0.mk (Kd.R_mono (ok' := fun k_ => nb k_ Ao45 t435.length co45 ∧ nb k_ Ao55 t443.length co55 ∧ nb k_ Ao65 t454.length co65 ∧ nb k_ Ao76 t464.length co76 ∧ nb k_ Ao115 t473.length co115 ∧ nb k_ Ao119 t484.length co119 ∧ nb k_ Ao120 t487.length co120) (Kd.R_keptB (HO_461008.out) hkp (fun k_ hk_ hs_ => (hk_.1.1.1.2.1) hs_)) (fun k_ hk_ => ⟨hk_.1.1.1.1.1, hk_.1.1.1.1.2.1, hk_.1.1.1.1.2.2.1, hk_.1.1.1.1.2.2.2, hk_.1.1.1.2, hk_.1.1.2, hk_.1.2⟩)); have n4_ := Aside0.mk (Kd.R_mono (ok' := fun k_ => nb k_ Ao45 t435.length co45 ∧ nb k_ Ao55 t443.length co55 ∧ nb k_ Ao65 t454.length co65 ∧ nb k_ Ao66 t457.length co66 ∧ nb k_ Ao115 t473.length co115 ∧ nb k_ Ao119 t484.length co119 ∧ nb k_ Ao120 t487.length co120) (Kd.R_keptB (HO_469003.out) hkp (fun k_ hk_ hs_ => (hk_.1.1.1.2.1) hs_)) (fun k_ hk_ => ⟨hk_.1.1.1.1.1, hk_.1.1.1.1.2.1, hk_.1.1.1.1.2.2.1, hk_.1.1.1.1.2.2.2, hk_.1.1.1.2, hk_.1.1.2, hk_.1.2⟩)); have n5_ := Aside0.mk (blk_kept blk_now hkp (fun hs_ => (fun e_ => (Kd.R_ne HO_447003.out BK409.out (by decide)) e_) hs_)); have n6_ := Aside0.mk (blk_kept blk_now hkp (fun hs_ => (fun e_ => (Kd.R_ne HO_447003.out BK410.out (by decide)) e_) hs_)); have n7_ := Aside0.mk (blk_kept blk_now hkp (fun hs_ => (fun e_ => (Kd.R_ne HO_447003.out BK439.out (by decide)) e_) hs_)); have n8_ := Aside0.mk (blk_kept blk_now hkp (fun hs_ => (fun e_ => (Kd.R_ne HO_447003.out BK446.out (by decide)) e_) hs_)); have n9_ := Aside0.mk (blk_kept blk_now hkp (fun hs_ => (fun e_ => (Kd.R_ne HO_447003.out BK460.out (by decide)) e_) hs_)); have n10_ := Aside0.mk (blk_kept blk_now hkp (fun hs_ => (fun e_ => (Kd.R_ne HO_447003.out BK468.out (by decide)) e_) hs_)); have n11_ := Aside0.mk (Kd.R_mono (ok' := fun k_ => nb k_ Ao45 t435.length co45 ∧ nb k_ Ao55 t443.length co55 ∧ nb k_ Ao65 t454.length co65 ∧ nb k_ Ao66 t457.length co66 ∧ nb k_ Ao76 t464.length co76 ∧ nb k_ Ao119 t484.length co119 ∧ nb k_ Ao120 t487.length co120) (Kd.R_keptB (HO475.out) hkp (fun k_ hk_ hs_ => (hk_.1.1.1.1.1.2) hs_)) (fun k_ hk_ => ⟨hk_.1.1.1.1.1.1.1.2, hk_.1.1.1.1.1.1.2, hk_.1.1.1.1.1.2, hk_.1.1.1.1.2, hk_.1.1.1.2, hk_.1.1.2, hk_.1.2⟩)); have n12_ := Aside0.mk (Kd.R_mono (ok' := fun k_ => nb k_ Ao45 t435.length co45 ∧ nb k_ Ao55 t443.length co55 ∧ nb k_ Ao65 t454.length co65 ∧ nb k_ Ao66 t457.length co66 ∧ nb k_ Ao76 t464.length co76 ∧ nb k_ Ao115 t473.length co115 ∧ nb k_ Ao120 t487.length co120) (Kd.R_keptB (HO486.out) hkp (fun k_ hk_ hs_ => (hk_.1.1.1.1.2) hs_)) (fun k_ hk_ => ⟨hk_.1.1.1.1.1.1.2, hk_.1.1.1.1.1.2, hk_.1.1.1.1.2, hk_.1.1.1.2, hk_.1.1.2, hk_.1.2, hk_.1.1.1.1.1.1.1⟩)); have n13_ := Aside0.mk (Kd.R_mono (ok' := fun k_ => nb k_ Ao45 t435.length co45 ∧ nb k_ Ao55 t443.length co55 ∧ nb k_ Ao65 t454.length co65 ∧ nb k_ Ao66 t457.length co66 ∧ nb k_ Ao76 t464.length co76 ∧ nb k_ Ao115 t473.length co115 ∧ nb k_ Ao119 t484.length co119) (Kd.R_keptB (HO489.out) hkp (fun k_ hk_ hs_ => (hk_.1.1.1.1.2) hs_)) (fun k_ hk_ => ⟨hk_.1.1.1.1.1.1.2, hk_.1.1.1.1.1.2, hk_.1.1.1.1.2, hk_.1.1.1.2, hk_.1.1.2, hk_.1.2, hk_.1.1.1.1.1.1.1⟩)); have n14_ := Aside0.mk (hb); clear HO_440003; clear HO_447003; clear HO_461007; clear HO_461008; clear HO_469003; clear BK409; clear BK410; clear BK439; clear BK446; clear BK460; clear BK468; clear HO475; clear HO486; clear HO489; clear HB; have HO_440003 := n0_; have HO_447003 := n1_; have HO_461007 := n2_; have HO_461008 := n3_; have HO_469003 := n4_; have BK409 := n5_; have BK410 := n6_; have BK439 := n7_; have BK446 := n8_; have BK460 := n9_; have BK468 := n10_; have HO475 := n11_; have HO486 := n12_; have HO489 := n13_; have HB := n14_; clear n0_ n1_ n2_ n3_ n4_ n5_ n6_ n7_ n8_ n9_ n10_ n11_ n12_ n13_ n14_; (try clear hb); (try clear hkp); (try clear hy0); have hn129 := ne2 NB460_409; have hn130 := ne2 NB460_410; have hn131 := ne2 NB460_439; have hn132 := ne2 NB460_468; have hcz133 := cells9 BK460.out) | ((with_reducible refine gate_callee (f := 17) rfl ?_); refine goesM (some 69) rfl rfl Try.func17 (by kernel_rfl) rfl #[.agg #[.int .i64 t447, .int .i64 t448, .int .i64 t449, .int .i64 t450, .int .i64 t451, .int .i64 t452, .int .i64 t453, .slice Ao65 t454.length co65, .slice Ao66 t457.length co66], .int .i64 t491] rfl ?_; (with_reducible refine (laws_markLayer.calls kj24 t447 t448 t449 t450 t451 t452 t453 (fun k_ => some k_ = (.slice Ao65 t454.length co65 : Value).ownBlock) (.slice Ao65 t454.length co65) t454 (fun k_ => some k_ = (.slice Ao66 t457.length co66 : Value).ownBlock) (.slice Ao66 t457.length co66) t457 t491 t493 t494 t495 w _ ?side1 ?side2 ?side3 ?side4 ?side5 A111.out).mono ?_); (case side1 => exact bel_now); (case side2 => exact Kd.R_tight rfl HO_461007.out); (case side3 => exact fun k_ e_ => (HO_461007.out.1 k_ e_.symm).2.2.1); (case side4 => exact Kd.R_tight rfl HO_461008.out); (case side5 => exact fun k_ e_ => (HO_461008.out.1 k_ e_.symm).2.2.1); rintro e w134 ⟨rfl, hy0, hy1, hb, hkp⟩; refine ⟨_, rfl, ?_⟩; have n0_ := Aside0.mk (Kd.R_mono (ok' := fun k_ => nb k_ Ao55 t443.length co55 ∧ nb k_ Ao65 t454.length co65 ∧ nb k_ Ao66 t457.length co66 ∧ nb k_ Ao76 t464.length co76 ∧ nb k_ Ao115 t473.length co115 ∧ nb k_ Ao119 t484.length co119 ∧ nb k_ Ao120 t487.length co120) (Kd.R_keptB (HO_440003.out) hkp (fun k_ hk_ hs_ => Or.elim hs_ (fun e_ => (hk_.2.1) e_) (fun e_ => (hk_.2.2.1) e_))) (fun k_ hk_ => ⟨hk_.1.1, hk_.1.2.1, hk_.1.2.2.1, hk_.1.2.2.2.1, hk_.1.2.2.2.2.1, hk_.1.2.2.2.2.2.1, hk_.1.2.2.2.2.2.2⟩)); have n1_ := Aside0.mk (Kd.R_mono (ok' := fun k_ => nb k_ Ao45 t435.length co45 ∧ nb k_ Ao65 t454.length co65 ∧ nb k_ Ao66 t457.length co66 ∧ nb k_ Ao76 t464.length co76 ∧ nb k_ Ao115 t473.length co115 ∧ nb k_ Ao119 t484.length co119 ∧ nb k_ Ao120 t487.length co120) (Kd.R_keptB (HO_447003.out) hkp (fun k_ hk_ hs_ => Or.elim hs_ (fun e_ => (hk_.1.1.1.2.1) e_) (fun e_ => (hk_.1.1.1.2.2.1) e_))) (fun k_ hk_ => ⟨hk_.1.1.1.1.1, hk_.1.1.1.1.2.1, hk_.1.1.1.1.2.2.1, hk_.1.1.1.1.2.2.2, hk_.1.1.1.2, hk_.1.1.2, hk_.1.2⟩)); have n2_ := Aside0.mk (Kd.R_reok rfl hy0 (fun k_ e_ => HO_461007.out.1 k_ e_)); have n3_ := Aside0.mk (Kd.R_reok rfl hy1 (fun k_ e_ => HO_461008.out.1 k_ e_)); have n4_ := Aside0.mk (Kd.R_mono (ok' := fun k_ => nb k_ Ao45 t435.length co45 ∧ nb k_ Ao55 t443.length co55 ∧ nb k_ Ao65 t454.length co65 ∧ nb k_ Ao66 t457.length co66 ∧ nb k_ Ao115 t473.length co115 ∧ nb k_ Ao119 t484.length co119 ∧ nb k_ Ao120 t487.length co120) (Kd.R_keptB (HO_469003.out) hkp (fun k_ hk_ hs_ => Or.elim hs_ (fun e_ => (hk_.2.2.1) e_) (fun e_ => (hk_.2.2.2.1) e_))) (fun k_ hk_ => ⟨hk_.1.1, hk_.1.2.1, hk_.1.2.2.1, hk_.1.2.2.2.1, hk_.1.2.2.2.2.1, hk_.1.2.2.2.2.2.1, hk_.1.2.2.2.2.2.2⟩)); have n5_ := Aside0.mk (blk_kept blk_now hkp (fun hs_ => Or.elim hs_ (fun e_ => (fun e_ => (Kd.R_ne HO_461007.out BK409.out (by decide)) e_) e_) (fun e_ => (fun e_ => (Kd.R_ne HO_461008.out BK409.out (by decide)) e_) e_))); have n6_ := Aside0.mk (blk_kept blk_now hkp (fun hs_ => Or.elim hs_ (fun e_ => (fun e_ => (Kd.R_ne HO_461007.out BK410.out (by decide)) e_) e_) (fun e_ => (fun e_ => (Kd.R_ne HO_461008.out BK410.out (by decide)) e_) e_))); have n7_ := Aside0.mk (blk_kept blk_now hkp (fun hs_ => Or.elim hs_ (fun e_ => (fun e_ => (Kd.R_ne HO_461007.out BK439.out (by decide)) e_) e_) (fun e_ => (fun e_ => (Kd.R_ne HO_461008.out BK439.out (by decide)) e_) e_))); have n8_ := Aside0.mk (blk_kept blk_now hkp (fun hs_ => Or.elim hs_ (fun e_ => (fun e_ => (Kd.R_ne HO_461007.out BK446.out (by decide)) e_) e_) (fun e_ => (fun e_ => (Kd.R_ne HO_461008.out BK446.out (by decide)) e_) e_))); have n9_ := Aside0.mk (blk_kept blk_now hkp (fun hs_ => Or.elim hs_ (fun e_ => (fun e_ => (Kd.R_ne HO_461007.out BK460.out (by decide)) e_) e_) (fun e_ => (fun e_ => (Kd.R_ne HO_461008.out BK460.out (by decide)) e_) e_))); have n10_ := Aside0.mk (blk_kept blk_now hkp (fun hs_ => Or.elim hs_ (fun e_ => (fun e_ => (Kd.R_ne HO_461007.out BK468.out (by decide)) e_) e_) (fun e_ => (fun e_ => (Kd.R_ne HO_461008.out BK468.out (by decide)) e_) e_))); have n11_ := Aside0.mk (Kd.R_mono (ok' := fun k_ => nb k_ Ao45 t435.length co45 ∧ nb k_ Ao55 t443.length co55 ∧ nb k_ Ao65 t454.length co65 ∧ nb k_ Ao66 t457.length co66 ∧ nb k_ Ao76 t464.length co76 ∧ nb k_ Ao119 t484.length co119 ∧ nb k_ Ao120 t487.length co120) (Kd.R_keptB (HO475.out) hkp (fun k_ hk_ hs_ => Or.elim hs_ (fun e_ => (hk_.2.2.1) e_) (fun e_ => (hk_.2.2.2.1) e_))) (fun k_ hk_ => ⟨hk_.1.1, hk_.1.2.1, hk_.1.2.2.1, hk_.1.2.2.2.1, hk_.1.2.2.2.2.1, hk_.1.2.2.2.2.2.1, hk_.1.2.2.2.2.2.2⟩)); have n12_ := Aside0.mk (Kd.R_mono (ok' := fun k_ => nb k_ Ao45 t435.length co45 ∧ nb k_ Ao55 t443.length co55 ∧ nb k_ Ao65 t454.length co65 ∧ nb k_ Ao66 t457.length co66 ∧ nb k_ Ao76 t464.length co76 ∧ nb k_ Ao115 t473.length co115 ∧ nb k_ Ao120 t487.length co120) (Kd.R_keptB (HO486.out) hkp (fun k_ hk_ hs_ => Or.elim hs_ (fun e_ => (hk_.2.2.1) e_) (fun e_ => (hk_.2.2.2.1) e_))) (fun k_ hk_ => ⟨hk_.1.1, hk_.1.2.1, hk_.1.2.2.1, hk_.1.2.2.2.1, hk_.1.2.2.2.2.1, hk_.1.2.2.2.2.2.1, hk_.1.2.2.2.2.2.2⟩)); have n13_ := Aside0.mk (Kd.R_mono (ok' := fun k_ => nb k_ Ao45 t435.length co45 ∧ nb k_ Ao55 t443.length co55 ∧ nb k_ Ao65 t454.length co65 ∧ nb k_ Ao66 t457.length co66 ∧ nb k_ Ao76 t464.length co76 ∧ nb k_ Ao115 t473.length co115 ∧ nb k_ Ao119 t484.length co119) (Kd.R_keptB (HO489.out) hkp (fun k_ hk_ hs_ => Or.elim hs_ (fun e_ => (hk_.2.2.1) e_) (fun e_ => (hk_.2.2.2.1) e_))) (fun k_ hk_ => ⟨hk_.1.1, hk_.1.2.1, hk_.1.2.2.1, hk_.1.2.2.2.1, hk_.1.2.2.2.2.1, hk_.1.2.2.2.2.2.1, hk_.1.2.2.2.2.2.2⟩)); have n14_ := Aside0.mk (hb); clear HO_440003; clear HO_447003; clear HO_461007; clear HO_461008; clear HO_469003; clear BK409; clear BK410; clear BK439; clear BK446; clear BK460; clear BK468; clear HO475; clear HO486; clear HO489; clear HB; have HO_440003 := n0_; have HO_447003 := n1_; have HO_461007 := n2_; have HO_461008 := n3_; have HO_469003 := n4_; have BK409 := n5_; have BK410 := n6_; have BK439 := n7_; have BK446 := n8_; have BK460 := n9_; have BK468 := n10_; have HO475 := n11_; have HO486 := n12_; have HO489 := n13_; have HB := n14_; clear n0_ n1_ n2_ n3_ n4_ n5_ n6_ n7_ n8_ n9_ n10_ n11_ n12_ n13_ n14_; (try clear hb); (try clear hkp); (try clear hy0); (try clear hy1)))
    (try simp only [Act.put, zA, zB, zC])
    go_cut [82] (fun v82 wc => ∃ (kq : Nat) (x82_111 : Bool), v82 = .bool x82_111 ∧ Aside0 (laws_FnExactRunLayer.j1 kq t438 x82_111 a0_0 a0_1 a0_2 l0_3 a1_0 a1_1 a1_2 a1_3 a1_4 a1_5 a1_6 l1_7 l1_8 t432 t433 t434 t435 t461 t462 t463 t464 = some true) ∧ Aside0 (kq ≤ kj24) ∧ Aside0 (Kd.R (Kd.int .i64) 3 wc w.heap.size (fun k_ => some k_ ≠ ((.slice Ao55 t443.length co55) : Value).ownBlock ∧ some k_ ≠ ((.slice Ao65 t454.length co65) : Value).ownBlock ∧ some k_ ≠ ((.slice Ao66 t457.length co66) : Value).ownBlock ∧ some k_ ≠ ((.slice Ao76 t464.length co76) : Value).ownBlock) (.slice Ao45 t435.length co45) t435) ∧ Aside0 (Kd.R (Kd.int .i64) 3 wc w.heap.size (fun k_ => some k_ ≠ ((.slice Ao45 t435.length co45) : Value).ownBlock ∧ some k_ ≠ ((.slice Ao65 t454.length co65) : Value).ownBlock ∧ some k_ ≠ ((.slice Ao66 t457.length co66) : Value).ownBlock ∧ some k_ ≠ ((.slice Ao76 t464.length co76) : Value).ownBlock) (.slice Ao55 t443.length co55) t492) ∧ Aside0 (Kd.R (Kd.int .i64) 3 wc w.heap.size (fun k_ => some k_ ≠ ((.slice Ao45 t435.length co45) : Value).ownBlock ∧ some k_ ≠ ((.slice Ao55 t443.length co55) : Value).ownBlock ∧ some k_ ≠ ((.slice Ao66 t457.length co66) : Value).ownBlock ∧ some k_ ≠ ((.slice Ao76 t464.length co76) : Value).ownBlock) (.slice Ao65 t454.length co65) t494) ∧ Aside0 (Kd.R (Kd.int .i64) 3 wc w.heap.size (fun k_ => some k_ ≠ ((.slice Ao45 t435.length co45) : Value).ownBlock ∧ some k_ ≠ ((.slice Ao55 t443.length co55) : Value).ownBlock ∧ some k_ ≠ ((.slice Ao65 t454.length co65) : Value).ownBlock ∧ some k_ ≠ ((.slice Ao76 t464.length co76) : Value).ownBlock) (.slice Ao66 t457.length co66) t495) ∧ Aside0 (Kd.R (Kd.int .i64) 3 wc w.heap.size (fun k_ => some k_ ≠ ((.slice Ao45 t435.length co45) : Value).ownBlock ∧ some k_ ≠ ((.slice Ao55 t443.length co55) : Value).ownBlock ∧ some k_ ≠ ((.slice Ao65 t454.length co65) : Value).ownBlock ∧ some k_ ≠ ((.slice Ao66 t457.length co66) : Value).ownBlock) (.slice Ao76 t464.length co76) t464) ∧ Aside0 (wc.heap[gb409]? = some (.cells #[.int .i64 a0_0, .int .i64 a0_1, .int .i64 a0_2, (.slice A0_3 l0_3.length c0_3)] 26 (0, 0))) ∧ Aside0 (wc.heap[gb410]? = some (.cells #[.int .i64 a1_0, .int .i64 a1_1, .int .i64 a1_2, .int .i64 a1_3, .int .i64 a1_4, .int .i64 a1_5, .int .i64 a1_6, (.slice A1_7 l1_7.length c1_7), (.slice A1_8 l1_8.length c1_8)] 28 (0, 0))) ∧ Aside0 (wc.heap[gb439]? = some (.cells #[.int .i64 t432, .int .i64 t433, .int .i64 t434, (.slice Ao45 t435.length co45)] 33 (0, 0))) ∧ Aside0 (wc.heap[gb446]? = some (.cells #[.int .i64 t440, .int .i64 t441, .int .i64 t442, (.slice Ao55 t443.length co55)] 33 (0, 0))) ∧ Aside0 (wc.heap[gb460]? = some (.cells #[.int .i64 t447, .int .i64 t448, .int .i64 t449, .int .i64 t450, .int .i64 t451, .int .i64 t452, .int .i64 t453, (.slice Ao65 t454.length co65), (.slice Ao66 t457.length co66)] 37 (0, 0))) ∧ Aside0 (wc.heap[gb468]? = some (.cells #[.int .i64 t461, .int .i64 t462, .int .i64 t463, (.slice Ao76 t464.length co76)] 33 (0, 0))) ∧ Aside0 (Below w.heap.size w wc))
    case first =>
     have H := HC112.out
     clear HC112
     by_cases c135 : t493 < 0
     ·rw [if_pos c135] at H
      have c135b0 : decide (t493 < 0) = true := decide_eq_true c135
      clear c135
      (first | rw [c135b0] | (simp only [i64_w, i32_w]; rw [c135b0]) | skip)
      have H' := Aside0.mk H
      clear H
      go_wp2
      go_meet
      case rel => exact ⟨_, (true), (by first | rfl | (simp; done) | (simp [*]; done)), H', ⟨by have := HJ24.out; first | omega | exact Nat.le_refl _⟩, ⟨by (with_reducible repeat (first | apply Kd.R_alloc | apply Kd.R_drewN | apply Kd.R_drew)); exact Kd.R_mono HO_440003.out (fun _ hk => ⟨hk.1, ⟨hk.2.1, ⟨hk.2.2.1, hk.2.2.2.1⟩⟩⟩)⟩, ⟨by (with_reducible repeat (first | apply Kd.R_alloc | apply Kd.R_drewN | apply Kd.R_drew)); exact Kd.R_mono HO_447003.out (fun _ hk => ⟨hk.1, ⟨hk.2.1, ⟨hk.2.2.1, hk.2.2.2.1⟩⟩⟩)⟩, ⟨by (with_reducible repeat (first | apply Kd.R_alloc | apply Kd.R_drewN | apply Kd.R_drew)); exact Kd.R_mono HO_461007.out (fun _ hk => ⟨hk.1, ⟨hk.2.1, ⟨hk.2.2.1, hk.2.2.2.1⟩⟩⟩)⟩, ⟨by (with_reducible repeat (first | apply Kd.R_alloc | apply Kd.R_drewN | apply Kd.R_drew)); exact Kd.R_mono HO_461008.out (fun _ hk => ⟨hk.1, ⟨hk.2.1, ⟨hk.2.2.1, hk.2.2.2.1⟩⟩⟩)⟩, ⟨by (with_reducible repeat (first | apply Kd.R_alloc | apply Kd.R_drewN | apply Kd.R_drew)); exact Kd.R_mono HO_469003.out (fun _ hk => ⟨hk.1, ⟨hk.2.1, ⟨hk.2.2.1, hk.2.2.2.1⟩⟩⟩)⟩, ⟨bks BK409⟩, ⟨bks BK410⟩, ⟨bks BK439⟩, ⟨bks BK446⟩, ⟨bks BK460⟩, ⟨bks BK468⟩, ⟨bel_now⟩⟩
     rw [if_neg c135] at H
     have c135b0 : decide (t493 < 0) = false := decide_eq_false c135
     clear c135
     (first | rw [c135b0] | (simp only [i64_w, i32_w]; rw [c135b0]) | skip)
     replace H := Option.bind_eq_some_iff.mp H
     obtain ⟨t496, A1360, H⟩ := H
     (try dsimp only at H)
     have A136 := Aside0.mk A1360
     clear A1360
     by_cases c137 : t496 = true
     ·subst c137
      rw [if_pos rfl] at H
      have H' := Aside0.mk H
      clear H
      have hn138 := ne2 NB468_409
      have hn139 := ne2 NB468_410
      have hn140 := ne2 NB468_439
      have hn141 := ne2 NB468_446
      have hn142 := ne2 NB468_460
      have hcz143 := cells4 BK468.out
      have hn144 := ne2 NB439_409
      have hn145 := ne2 NB439_410
      have hn146 := ne2 NB439_446
      have hn147 := ne2 NB439_460
      have hcz148 := cells4 BK439.out
      go_wp2_with (first | (go_at_call 14; (with_reducible refine (laws_eqTensor.calls kj24 t461 t462 t463 _ _ t464 t432 t433 t434 _ _ t435 true _ ?side1 ?side2 ?side3 ?side4 A136.out).mono ?_); (case side1 => exact (Kd.R_reads' (R_at HO_469003.out)).2.2); (case side2 => exact (Kd.R_reads' HO_469003.out).2.1); (case side3 => exact (Kd.R_reads' (R_at HO_440003.out)).2.2); (case side4 => exact (Kd.R_reads' HO_440003.out).2.1); rintro e w149 ⟨rfl, hb⟩; replace HO_440003 := Aside0.mk (Kd.R_below (R_at HO_440003.out) hb); replace HO_447003 := Aside0.mk (Kd.R_below (R_at HO_447003.out) hb); replace HO_461007 := Aside0.mk (Kd.R_below (R_at HO_461007.out) hb); replace HO_461008 := Aside0.mk (Kd.R_below (R_at HO_461008.out) hb); replace HO_469003 := Aside0.mk (Kd.R_below (R_at HO_469003.out) hb); replace HO475 := Aside0.mk (Kd.R_below (R_at HO475.out) hb); replace HO486 := Aside0.mk (Kd.R_below (R_at HO486.out) hb); replace HO489 := Aside0.mk (Kd.R_below (R_at HO489.out) hb); replace HB := bel_on w hb; replace BK409 := blk_on gb409 hb; replace BK410 := blk_on gb410 hb; replace BK439 := blk_on gb439 hb; replace BK446 := blk_on gb446 hb; replace BK460 := blk_on gb460 hb; replace BK468 := blk_on gb468 hb; (try clear hb)))
      go_meet
      case rel => exact ⟨_, ((t467 != t438)), (by first | rfl | (simp; done) | (simp [*]; done)), H', ⟨by have := HJ24.out; first | omega | exact Nat.le_refl _⟩, ⟨by (with_reducible repeat (first | apply Kd.R_alloc | apply Kd.R_drewN | apply Kd.R_drew)); exact Kd.R_mono HO_440003.out (fun _ hk => ⟨hk.1, ⟨hk.2.1, ⟨hk.2.2.1, hk.2.2.2.1⟩⟩⟩)⟩, ⟨by (with_reducible repeat (first | apply Kd.R_alloc | apply Kd.R_drewN | apply Kd.R_drew)); exact Kd.R_mono HO_447003.out (fun _ hk => ⟨hk.1, ⟨hk.2.1, ⟨hk.2.2.1, hk.2.2.2.1⟩⟩⟩)⟩, ⟨by (with_reducible repeat (first | apply Kd.R_alloc | apply Kd.R_drewN | apply Kd.R_drew)); exact Kd.R_mono HO_461007.out (fun _ hk => ⟨hk.1, ⟨hk.2.1, ⟨hk.2.2.1, hk.2.2.2.1⟩⟩⟩)⟩, ⟨by (with_reducible repeat (first | apply Kd.R_alloc | apply Kd.R_drewN | apply Kd.R_drew)); exact Kd.R_mono HO_461008.out (fun _ hk => ⟨hk.1, ⟨hk.2.1, ⟨hk.2.2.1, hk.2.2.2.1⟩⟩⟩)⟩, ⟨by (with_reducible repeat (first | apply Kd.R_alloc | apply Kd.R_drewN | apply Kd.R_drew)); exact Kd.R_mono HO_469003.out (fun _ hk => ⟨hk.1, ⟨hk.2.1, ⟨hk.2.2.1, hk.2.2.2.1⟩⟩⟩)⟩, ⟨bks BK409⟩, ⟨bks BK410⟩, ⟨bks BK439⟩, ⟨bks BK446⟩, ⟨bks BK460⟩, ⟨bks BK468⟩, ⟨bel_now⟩⟩
     replace c137 := Bool.eq_false_iff.mpr c137
     subst c137
     rw [if_neg (show ¬ (false = true) by decide)] at H
     have H' := Aside0.mk H
     clear H
     have hn150 := ne2 NB468_409
     have hn151 := ne2 NB468_410
     have hn152 := ne2 NB468_439
     have hn153 := ne2 NB468_446
     have hn154 := ne2 NB468_460
     have hcz155 := cells4 BK468.out
     have hn156 := ne2 NB439_409
     have hn157 := ne2 NB439_410
     have hn158 := ne2 NB439_446
     have hn159 := ne2 NB439_460
     have hcz160 := cells4 BK439.out
     go_wp2_with (first | (go_at_call 14; (with_reducible refine (laws_eqTensor.calls kj24 t461 t462 t463 _ _ t464 t432 t433 t434 _ _ t435 false _ ?side1 ?side2 ?side3 ?side4 A136.out).mono ?_); (case side1 => exact (Kd.R_reads' (R_at HO_469003.out)).2.2); (case side2 => exact (Kd.R_reads' HO_469003.out).2.1); (case side3 => exact (Kd.R_reads' (R_at HO_440003.out)).2.2); (case side4 => exact (Kd.R_reads' HO_440003.out).2.1); rintro e w161 ⟨rfl, hb⟩; replace HO_440003 := Aside0.mk (Kd.R_below (R_at HO_440003.out) hb); replace HO_447003 := Aside0.mk (Kd.R_below (R_at HO_447003.out) hb); replace HO_461007 := Aside0.mk (Kd.R_below (R_at HO_461007.out) hb); replace HO_461008 := Aside0.mk (Kd.R_below (R_at HO_461008.out) hb); replace HO_469003 := Aside0.mk (Kd.R_below (R_at HO_469003.out) hb); replace HO475 := Aside0.mk (Kd.R_below (R_at HO475.out) hb); replace HO486 := Aside0.mk (Kd.R_below (R_at HO486.out) hb); replace HO489 := Aside0.mk (Kd.R_below (R_at HO489.out) hb); replace HB := bel_on w hb; replace BK409 := blk_on gb409 hb; replace BK410 := blk_on gb410 hb; replace BK439 := blk_on gb439 hb; replace BK446 := blk_on gb446 hb; replace BK460 := blk_on gb460 hb; replace BK468 := blk_on gb468 hb; (try clear hb)))
     go_meet
     case rel => exact ⟨_, (true), (by first | rfl | (simp; done) | (simp [*]; done)), H', ⟨by have := HJ24.out; first | omega | exact Nat.le_refl _⟩, ⟨by (with_reducible repeat (first | apply Kd.R_alloc | apply Kd.R_drewN | apply Kd.R_drew)); exact Kd.R_mono HO_440003.out (fun _ hk => ⟨hk.1, ⟨hk.2.1, ⟨hk.2.2.1, hk.2.2.2.1⟩⟩⟩)⟩, ⟨by (with_reducible repeat (first | apply Kd.R_alloc | apply Kd.R_drewN | apply Kd.R_drew)); exact Kd.R_mono HO_447003.out (fun _ hk => ⟨hk.1, ⟨hk.2.1, ⟨hk.2.2.1, hk.2.2.2.1⟩⟩⟩)⟩, ⟨by (with_reducible repeat (first | apply Kd.R_alloc | apply Kd.R_drewN | apply Kd.R_drew)); exact Kd.R_mono HO_461007.out (fun _ hk => ⟨hk.1, ⟨hk.2.1, ⟨hk.2.2.1, hk.2.2.2.1⟩⟩⟩)⟩, ⟨by (with_reducible repeat (first | apply Kd.R_alloc | apply Kd.R_drewN | apply Kd.R_drew)); exact Kd.R_mono HO_461008.out (fun _ hk => ⟨hk.1, ⟨hk.2.1, ⟨hk.2.2.1, hk.2.2.2.1⟩⟩⟩)⟩, ⟨by (with_reducible repeat (first | apply Kd.R_alloc | apply Kd.R_drewN | apply Kd.R_drew)); exact Kd.R_mono HO_469003.out (fun _ hk => ⟨hk.1, ⟨hk.2.1, ⟨hk.2.2.1, hk.2.2.2.1⟩⟩⟩)⟩, ⟨bks BK409⟩, ⟨bks BK410⟩, ⟨bks BK439⟩, ⟨bks BK446⟩, ⟨bks BK460⟩, ⟨bks BK468⟩, ⟨bel_now⟩⟩
    case rest =>
     clear HC112
     try clear c1
     try clear p2
     try clear c10
     try clear c11
     try clear c12
     try clear c13
     try clear c14
     try clear c15
     try clear c16
     try clear c17
     try clear c103
     try clear c106
     try clear c109
     try clear c122
     try clear c123
     try clear c124
     try clear c125
     try clear c126
     try clear c129
     try clear c130
     try clear c131
     try clear c132
     try clear c135
     try clear c135b0
     try clear c137
     try clear c138
     try clear c139
     try clear c140
     try clear c141
     try clear c142
     try clear c144
     try clear c145
     try clear c146
     try clear c147
     try clear c150
     try clear c151
     try clear c152
     try clear c153
     try clear c154
     try clear c156
     try clear c157
     try clear c158
     try clear c159
     try clear hcz127
     try clear hcz133
     try clear hcz143
     try clear hcz148
     try clear hcz155
     try clear hcz160
     try clear hfz89_0 hfz89_1 hfz89_2 hfz89_3
     try clear hfz96_0 hfz96_1 hfz96_2 hfz96_3
     obtain ⟨kq, x82_111, rfl, HA, HJ111, HO_440003, HO_447003, HO_461007, HO_461008, HO_469003, BK409, BK410, BK439, BK446, BK460, BK468, HB⟩ := hcut
     have hl447003_111 := (Kd.R_reads' HO_447003.out).1
     rw [hl447003_111] at HO_447003
     (try simp only [hl447003_111])
     (try simp only [hl447003_111] at BK409)
     (try simp only [hl447003_111] at BK410)
     (try simp only [hl447003_111] at BK439)
     (try simp only [hl447003_111] at BK446)
     (try simp only [hl447003_111] at BK460)
     (try simp only [hl447003_111] at BK468)
     (try simp only [hl447003_111] at HO_440003)
     (try simp only [hl447003_111] at HO_461007)
     (try simp only [hl447003_111] at HO_461008)
     (try simp only [hl447003_111] at HO_469003)
     have hl461007_111 := (Kd.R_reads' HO_461007.out).1
     rw [hl461007_111] at HO_461007
     (try simp only [hl461007_111])
     (try simp only [hl461007_111] at BK409)
     (try simp only [hl461007_111] at BK410)
     (try simp only [hl461007_111] at BK439)
     (try simp only [hl461007_111] at BK446)
     (try simp only [hl461007_111] at BK460)
     (try simp only [hl461007_111] at BK468)
     (try simp only [hl461007_111] at HO_440003)
     (try simp only [hl461007_111] at HO_447003)
     (try simp only [hl461007_111] at HO_461008)
     (try simp only [hl461007_111] at HO_469003)
     have hl461008_111 := (Kd.R_reads' HO_461008.out).1
     rw [hl461008_111] at HO_461008
     (try simp only [hl461008_111])
     (try simp only [hl461008_111] at BK409)
     (try simp only [hl461008_111] at BK410)
     (try simp only [hl461008_111] at BK439)
     (try simp only [hl461008_111] at BK446)
     (try simp only [hl461008_111] at BK460)
     (try simp only [hl461008_111] at BK468)
     (try simp only [hl461008_111] at HO_440003)
     (try simp only [hl461008_111] at HO_447003)
     (try simp only [hl461008_111] at HO_461007)
     (try simp only [hl461008_111] at HO_469003)
     cases kq with
     | zero => exact absurd HA.out (by simp [laws_FnExactRunLayer.j1])
     | succ kj111 =>
      have H := HA.out
      clear HA
      simp only [laws_FnExactRunLayer.j1] at H
      by_cases c162 : x82_111 = true
      ·subst c162
       rw [if_pos rfl] at H
       exact absurd H (by decide)
      replace c162 := Bool.eq_false_iff.mpr c162
      subst c162
      rw [if_neg (show ¬ (false = true) by decide)] at H
      replace H := Option.bind_eq_some_iff.mp H
      obtain ⟨⟨t497, t498⟩, A1630, H⟩ := H
      (try dsimp only at H)
      have A163 := Aside0.mk A1630
      clear A1630
      replace H := Option.bind_eq_some_iff.mp H
      obtain ⟨t499, A1640, H⟩ := H
      (try dsimp only at H)
      have A164 := Aside0.mk A1640
      clear A1640
      by_cases c165 : t499 < 0
      ·rw [if_pos c165] at H
       have c165b0 : decide (t499 < 0) = true := decide_eq_true c165
       clear c165
       exact absurd H (by decide)
      rw [if_neg c165] at H
      have c165b0 : decide (t499 < 0) = false := decide_eq_false c165
      clear c165
      by_cases c166 : t499 = t497
      rotate_left
      ·rw [if_neg c166] at H
       have c166b0 : (t499 == t497) = false := beq_eq_false_iff_ne.mpr c166
       have c166b1 : (t499 != t497) = true := bne_iff_ne.mpr c166
       exact absurd H (by decide)
      rw [if_pos c166] at H
      have c166b0 : (t499 == t497) = true := beq_iff_eq.mpr c166
      have c166b1 : (t499 != t497) = false := bne_eq_false_iff_eq.mpr c166
      clear c166
      replace H := Option.bind_eq_some_iff.mp H
      obtain ⟨⟨t500, t501, t502, t503⟩, A1670, H⟩ := H
      (try dsimp only at H)
      have A167 := Aside0.mk A1670
      clear A1670
      replace H := Option.bind_eq_some_iff.mp H
      obtain ⟨⟨t506, t507, t508, t509, t510, t511, t512, t513, t516⟩, A1680, H⟩ := H
      (try dsimp only at H)
      have A168 := Aside0.mk A1680
      clear A1680
      replace H := Option.bind_eq_some_iff.mp H
      obtain ⟨⟨t519, t520, t521, t522, t525⟩, A1690, H⟩ := H
      (try dsimp only at H)
      have A169 := Aside0.mk A1690
      clear A1690
      have HC170 := Aside0.mk H
      clear H
      have hn171 := ne2 NB468_409
      have hn172 := ne2 NB468_410
      have hn173 := ne2 NB468_439
      have hn174 := ne2 NB468_446
      have hn175 := ne2 NB468_460
      have hcz176 := cells4 BK468.out
      try go_wp2_with (first | ((with_reducible refine gate_callee (f := 16) rfl ?_); refine goesM (some 85) rfl rfl Try.func16 (by kernel_rfl) rfl #[.agg #[.int .i64 t461, .int .i64 t462, .int .i64 t463, .slice Ao76 t464.length co76], .int .i64 1] rfl ?_; (with_reducible refine (laws_markTensor.calls kj111 t461 t462 t463 (fun k_ => some k_ = (.slice Ao76 t464.length co76 : Value).ownBlock) (.slice Ao76 t464.length co76) t464 1 t497 t498 w _ ?side1 ?side2 A163.out).mono ?_); (case side1 => exact bel_now); (case side2 => exact Kd.R_tight rfl HO_469003.out); rintro e w177 ⟨rfl, hy0, hb, hkp⟩; refine ⟨_, rfl, ?_⟩; have n0_ := Aside0.mk (Kd.R_mono (ok' := fun k_ => nb k_ Ao55 t492.length co55 ∧ nb k_ Ao65 t494.length co65 ∧ nb k_ Ao66 t495.length co66 ∧ nb k_ Ao76 t464.length co76) (Kd.R_keptB (HO_440003.out) hkp (fun k_ hk_ hs_ => (hk_.2.2.2) hs_)) (fun k_ hk_ => ⟨hk_.1.1, hk_.1.2.1, hk_.1.2.2.1, hk_.1.2.2.2⟩)); have n1_ := Aside0.mk (Kd.R_mono (ok' := fun k_ => nb k_ Ao45 t435.length co45 ∧ nb k_ Ao65 t494.length co65 ∧ nb k_ Ao66 t495.length co66 ∧ nb k_ Ao76 t464.length co76) (Kd.R_keptB (HO_447003.out) hkp (fun k_ hk_ hs_ => (hk_.2.2.2) hs_)) (fun k_ hk_ => ⟨hk_.1.1, hk_.1.2.1, hk_.1.2.2.1, hk_.1.2.2.2⟩)); have n2_ := Aside0.mk (Kd.R_mono (ok' := fun k_ => nb k_ Ao45 t435.length co45 ∧ nb k_ Ao55 t492.length co55 ∧ nb k_ Ao66 t495.length co66 ∧ nb k_ Ao76 t464.length co76) (Kd.R_keptB (HO_461007.out) hkp (fun k_ hk_ hs_ => (hk_.2.2.2) hs_)) (fun k_ hk_ => ⟨hk_.1.1, hk_.1.2.1, hk_.1.2.2.1, hk_.1.2.2.2⟩)); have n3_ := Aside0.mk (Kd.R_mono (ok' := fun k_ => nb k_ Ao45 t435.length co45 ∧ nb k_ Ao55 t492.length co55 ∧ nb k_ Ao65 t494.length co65 ∧ nb k_ Ao76 t464.length co76) (Kd.R_keptB (HO_461008.out) hkp (fun k_ hk_ hs_ => (hk_.2.2.2) hs_)) (fun k_ hk_ => ⟨hk_.1.1, hk_.1.2.1, hk_.1.2.2.1, hk_.1.2.2.2⟩)); have n4_ := Aside0.mk (Kd.R_reok rfl hy0 (fun k_ e_ => HO_469003.out.1 k_ e_)); have n5_ := Aside0.mk (blk_kept blk_now hkp (fun hs_ => (fun e_ => (Kd.R_ne HO_469003.out BK409.out (by decide)) e_) hs_)); have n6_ := Aside0.mk (blk_kept blk_now hkp (fun hs_ => (fun e_ => (Kd.R_ne HO_469003.out BK410.out (by decide)) e_) hs_)); have n7_ := Aside0.mk (blk_kept blk_now hkp (fun hs_ => (fun e_ => (Kd.R_ne HO_469003.out BK439.out (by decide)) e_) hs_)); have n8_ := Aside0.mk (blk_kept blk_now hkp (fun hs_ => (fun e_ => (Kd.R_ne HO_469003.out BK446.out (by decide)) e_) hs_)); have n9_ := Aside0.mk (blk_kept blk_now hkp (fun hs_ => (fun e_ => (Kd.R_ne HO_469003.out BK460.out (by decide)) e_) hs_)); have n10_ := Aside0.mk (blk_kept blk_now hkp (fun hs_ => (fun e_ => (Kd.R_ne HO_469003.out BK468.out (by decide)) e_) hs_)); have n11_ := Aside0.mk (hb); clear HO_440003; clear HO_447003; clear HO_461007; clear HO_461008; clear HO_469003; clear BK409; clear BK410; clear BK439; clear BK446; clear BK460; clear BK468; clear HB; have HO_440003 := n0_; have HO_447003 := n1_; have HO_461007 := n2_; have HO_461008 := n3_; have HO_469003 := n4_; have BK409 := n5_; have BK410 := n6_; have BK439 := n7_; have BK446 := n8_; have BK460 := n9_; have BK468 := n10_; have HB := n11_; clear n0_ n1_ n2_ n3_ n4_ n5_ n6_ n7_ n8_ n9_ n10_ n11_; (try clear hb); (try clear hkp); (try clear hy0); have hcz178 := cells4 BK468.out) | ((with_reducible refine gate_callee (f := 18) rfl ?_); refine goesL_ (some 88) rfl rfl Try.func18 (by kernel_rfl) rfl #[.agg #[.int .i64 t461, .int .i64 t462, .int .i64 t463, .slice Ao76 t498.length co76], .int .i64 1] rfl (by (try simp only [List.map_toArray, List.map_cons, List.map_nil]); first | done | (rw [show t498.length = t464.length from (Kd.R_reads' HO_469003.out).1.symm] <;> rfl) | rfl | (simp only [List.length_drop, List.length_take]; rfl)) ?_; (with_reducible refine (laws_heldTensor.calls kj111 t461 t462 t463 _ _ t498 1 t499 _ ?side1 ?side2 A164.out).mono ?_); (case side1 => exact (Kd.R_reads' (R_at HO_469003.out)).2.2); (case side2 => rw [show t498.length = t464.length from (Kd.R_reads' HO_469003.out).1.symm]; exact (Kd.R_reads' HO_469003.out).2.1); rintro e w179 ⟨rfl, hb⟩; refine ⟨_, rfl, ?_⟩; replace HO_440003 := Aside0.mk (Kd.R_below (R_at HO_440003.out) hb); replace HO_447003 := Aside0.mk (Kd.R_below (R_at HO_447003.out) hb); replace HO_461007 := Aside0.mk (Kd.R_below (R_at HO_461007.out) hb); replace HO_461008 := Aside0.mk (Kd.R_below (R_at HO_461008.out) hb); replace HO_469003 := Aside0.mk (Kd.R_below (R_at HO_469003.out) hb); replace HB := bel_on w hb; replace BK409 := blk_on gb409 hb; replace BK410 := blk_on gb410 hb; replace BK439 := blk_on gb439 hb; replace BK446 := blk_on gb446 hb; replace BK460 := blk_on gb460 hb; replace BK468 := blk_on gb468 hb; (try clear hb)))
      replace HO_440003 := Aside0.mk (Kd.R_drew HO_440003.out)
      replace HO_447003 := Aside0.mk (Kd.R_drew HO_447003.out)
      replace HO_461007 := Aside0.mk (Kd.R_drew HO_461007.out)
      replace HO_461008 := Aside0.mk (Kd.R_drew HO_461008.out)
      replace HO_469003 := Aside0.mk (Kd.R_drew HO_469003.out)
      replace BK409 := Aside0.mk (blk_drew BK409.out)
      replace BK410 := Aside0.mk (blk_drew BK410.out)
      replace BK439 := Aside0.mk (blk_drew BK439.out)
      replace BK446 := Aside0.mk (blk_drew BK446.out)
      replace BK460 := Aside0.mk (blk_drew BK460.out)
      replace BK468 := Aside0.mk (blk_drew BK468.out)
      replace HB := Aside0.mk (below_drew1 HB.out)
      refine start_ (n := 11) (S := fun w' => w'.cell? ⟨gb409, 0, none⟩ = some (.int .i64 a0_0) ∧ w'.cell? ⟨gb409, 1, none⟩ = some (.int .i64 a0_1) ∧ w'.cell? ⟨gb409, 2, none⟩ = some (.int .i64 a0_2) ∧ w'.cell? ⟨gb409, 3, none⟩ = some (.slice A0_3 l0_3.length c0_3) ∧ w'.cell? ⟨gb410, 0, none⟩ = some (.int .i64 a1_0) ∧ w'.cell? ⟨gb410, 1, none⟩ = some (.int .i64 a1_1) ∧ w'.cell? ⟨gb410, 2, none⟩ = some (.int .i64 a1_2) ∧ w'.cell? ⟨gb410, 3, none⟩ = some (.int .i64 a1_3) ∧ w'.cell? ⟨gb410, 4, none⟩ = some (.int .i64 a1_4) ∧ w'.cell? ⟨gb410, 5, none⟩ = some (.int .i64 a1_5) ∧ w'.cell? ⟨gb410, 6, none⟩ = some (.int .i64 a1_6) ∧ w'.cell? ⟨gb410, 7, none⟩ = some (.slice A1_7 l1_7.length c1_7) ∧ w'.cell? ⟨gb410, 8, none⟩ = some (.slice A1_8 l1_8.length c1_8)) (ds := []) #[O, O, O, O, O, O, O, O, O, O, O] (by kernel_rfl) rfl rfl ⟨bc BK409 0, bc BK409 1, bc BK409 2, bc BK409 3, bc BK410 0, bc BK410 1, bc BK410 2, bc BK410 3, bc BK410 4, bc BK410 5, bc BK410 6, bc BK410 7, bc BK410 8⟩ (fun hHeld => ?_); refine with_tabW laws_FnExactRunLayer.tab31 laws_FnExactRunLayer.bits31 (fun HT_ HW_ => ?_)
      generalize w179.drew = w180 at HO_440003 HO_447003 HO_461007 HO_461008 HO_469003 BK409 BK410 BK439 BK446 BK460 BK468 HB hHeld ⊢
      refine stepT 0 (some 95) (tk 11 1) (take_ofW HT_.out HW_.out (by kernel_rfl)) hHeld ?_
      refine stepT 2 (some 97) (tk 11 5) (take_ofW HT_.out HW_.out (by kernel_rfl)) hHeld ?_
      refine join_ (σ := Value × Value × Value × Value × Nat) 2 #[I, I, I, I, I, I, I, I, I, O, O] (fun s_ => [(96, .agg #[.int .i64 t500, .int .i64 t501, .int .i64 t502, s_.1]), (98, .agg #[.int .i64 t506, .int .i64 t507, .int .i64 t508, .int .i64 t509, .int .i64 t510, .int .i64 t511, .int .i64 t512, s_.2.1, s_.2.2.1]), (99, .tuple #[.agg #[.int .i64 t519, .int .i64 t520, .int .i64 t521, s_.2.2.2.1], .bool t525]), (15, .pointer (some ⟨s_.2.2.2.2, 0, none⟩)), (94, .tuple #[.agg #[.int .i64 t519, .int .i64 t520, .int .i64 t521, s_.2.2.2.1], .bool t525]), (100, .agg #[.int .i64 t519, .int .i64 t520, .int .i64 t521, s_.2.2.2.1]), (101, .bool t525)]) (fun s_ w' => (w'.cell? ⟨gb409, 0, none⟩ = some (.int .i64 a0_0) ∧ w'.cell? ⟨gb409, 1, none⟩ = some (.int .i64 a0_1) ∧ w'.cell? ⟨gb409, 2, none⟩ = some (.int .i64 a0_2) ∧ w'.cell? ⟨gb409, 3, none⟩ = some (.slice A0_3 l0_3.length c0_3) ∧ w'.cell? ⟨gb410, 0, none⟩ = some (.int .i64 a1_0) ∧ w'.cell? ⟨gb410, 1, none⟩ = some (.int .i64 a1_1) ∧ w'.cell? ⟨gb410, 2, none⟩ = some (.int .i64 a1_2) ∧ w'.cell? ⟨gb410, 3, none⟩ = some (.int .i64 a1_3) ∧ w'.cell? ⟨gb410, 4, none⟩ = some (.int .i64 a1_4) ∧ w'.cell? ⟨gb410, 5, none⟩ = some (.int .i64 a1_5) ∧ w'.cell? ⟨gb410, 6, none⟩ = some (.int .i64 a1_6) ∧ w'.cell? ⟨gb410, 7, none⟩ = some (.slice A1_7 l1_7.length c1_7) ∧ w'.cell? ⟨gb410, 8, none⟩ = some (.slice A1_8 l1_8.length c1_8)) ∧ (Kd.R (Kd.int .i64) 3 w' w.heap.size (fun k_ => some k_ ≠ (s_.2.1 : Value).ownBlock ∧ some k_ ≠ (s_.2.2.1 : Value).ownBlock ∧ some k_ ≠ (s_.2.2.2.1 : Value).ownBlock ∧ nb k_ Ao45 t435.length co45 ∧ nb k_ Ao55 t492.length co55 ∧ nb k_ Ao65 t494.length co65 ∧ nb k_ Ao66 t495.length co66 ∧ nb k_ Ao76 t464.length co76) s_.1 t503) ∧ (Kd.R (Kd.int .i64) 3 w' w.heap.size (fun k_ => some k_ ≠ (s_.1 : Value).ownBlock ∧ some k_ ≠ (s_.2.2.1 : Value).ownBlock ∧ some k_ ≠ (s_.2.2.2.1 : Value).ownBlock ∧ nb k_ Ao45 t435.length co45 ∧ nb k_ Ao55 t492.length co55 ∧ nb k_ Ao65 t494.length co65 ∧ nb k_ Ao66 t495.length co66 ∧ nb k_ Ao76 t464.length co76) s_.2.1 t513) ∧ (Kd.R (Kd.int .i64) 3 w' w.heap.size (fun k_ => some k_ ≠ (s_.1 : Value).ownBlock ∧ some k_ ≠ (s_.2.1 : Value).ownBlock ∧ some k_ ≠ (s_.2.2.2.1 : Value).ownBlock ∧ nb k_ Ao45 t435.length co45 ∧ nb k_ Ao55 t492.length co55 ∧ nb k_ Ao65 t494.length co65 ∧ nb k_ Ao66 t495.length co66 ∧ nb k_ Ao76 t464.length co76) s_.2.2.1 t516) ∧ (Kd.R (Kd.int .i64) 3 w' w.heap.size (fun k_ => some k_ ≠ (s_.1 : Value).ownBlock ∧ some k_ ≠ (s_.2.1 : Value).ownBlock ∧ some k_ ≠ (s_.2.2.1 : Value).ownBlock ∧ nb k_ Ao45 t435.length co45 ∧ nb k_ Ao55 t492.length co55 ∧ nb k_ Ao65 t494.length co65 ∧ nb k_ Ao66 t495.length co66 ∧ nb k_ Ao76 t464.length co76) s_.2.2.2.1 t522) ∧ (Kd.R (Kd.int .i64) 3 w' w.heap.size (fun k_ => some k_ ≠ (s_.1 : Value).ownBlock ∧ some k_ ≠ (s_.2.1 : Value).ownBlock ∧ some k_ ≠ (s_.2.2.1 : Value).ownBlock ∧ some k_ ≠ (s_.2.2.2.1 : Value).ownBlock ∧ nb k_ Ao55 t492.length co55 ∧ nb k_ Ao65 t494.length co65 ∧ nb k_ Ao66 t495.length co66 ∧ nb k_ Ao76 t464.length co76) (.slice Ao45 t435.length co45) t435) ∧ (Kd.R (Kd.int .i64) 3 w' w.heap.size (fun k_ => some k_ ≠ (s_.1 : Value).ownBlock ∧ some k_ ≠ (s_.2.1 : Value).ownBlock ∧ some k_ ≠ (s_.2.2.1 : Value).ownBlock ∧ some k_ ≠ (s_.2.2.2.1 : Value).ownBlock ∧ nb k_ Ao45 t435.length co45 ∧ nb k_ Ao65 t494.length co65 ∧ nb k_ Ao66 t495.length co66 ∧ nb k_ Ao76 t464.length co76) (.slice Ao55 t492.length co55) t492) ∧ (Kd.R (Kd.int .i64) 3 w' w.heap.size (fun k_ => some k_ ≠ (s_.1 : Value).ownBlock ∧ some k_ ≠ (s_.2.1 : Value).ownBlock ∧ some k_ ≠ (s_.2.2.1 : Value).ownBlock ∧ some k_ ≠ (s_.2.2.2.1 : Value).ownBlock ∧ nb k_ Ao45 t435.length co45 ∧ nb k_ Ao55 t492.length co55 ∧ nb k_ Ao66 t495.length co66 ∧ nb k_ Ao76 t464.length co76) (.slice Ao65 t494.length co65) t494) ∧ (Kd.R (Kd.int .i64) 3 w' w.heap.size (fun k_ => some k_ ≠ (s_.1 : Value).ownBlock ∧ some k_ ≠ (s_.2.1 : Value).ownBlock ∧ some k_ ≠ (s_.2.2.1 : Value).ownBlock ∧ some k_ ≠ (s_.2.2.2.1 : Value).ownBlock ∧ nb k_ Ao45 t435.length co45 ∧ nb k_ Ao55 t492.length co55 ∧ nb k_ Ao65 t494.length co65 ∧ nb k_ Ao76 t464.length co76) (.slice Ao66 t495.length co66) t495) ∧ (Kd.R (Kd.int .i64) 3 w' w.heap.size (fun k_ => some k_ ≠ (s_.1 : Value).ownBlock ∧ some k_ ≠ (s_.2.1 : Value).ownBlock ∧ some k_ ≠ (s_.2.2.1 : Value).ownBlock ∧ some k_ ≠ (s_.2.2.2.1 : Value).ownBlock ∧ nb k_ Ao45 t435.length co45 ∧ nb k_ Ao55 t492.length co55 ∧ nb k_ Ao65 t494.length co65 ∧ nb k_ Ao66 t495.length co66) (.slice Ao76 t464.length co76) t498) ∧ (w'.heap[gb409]? = some (.cells #[.int .i64 a0_0, .int .i64 a0_1, .int .i64 a0_2, .slice A0_3 l0_3.length c0_3] 26 (0, 0))) ∧ (w'.heap[gb410]? = some (.cells #[.int .i64 a1_0, .int .i64 a1_1, .int .i64 a1_2, .int .i64 a1_3, .int .i64 a1_4, .int .i64 a1_5, .int .i64 a1_6, .slice A1_7 l1_7.length c1_7, .slice A1_8 l1_8.length c1_8] 28 (0, 0))) ∧ (w'.heap[gb439]? = some (.cells #[.int .i64 t432, .int .i64 t433, .int .i64 t434, .slice Ao45 t435.length co45] 33 (0, 0))) ∧ (w'.heap[gb446]? = some (.cells #[.int .i64 t440, .int .i64 t441, .int .i64 t442, .slice Ao55 t492.length co55] 33 (0, 0))) ∧ (w'.heap[gb460]? = some (.cells #[.int .i64 t447, .int .i64 t448, .int .i64 t449, .int .i64 t450, .int .i64 t451, .int .i64 t452, .int .i64 t453, .slice Ao65 t494.length co65, .slice Ao66 t495.length co66] 37 (0, 0))) ∧ (w'.heap[gb468]? = some (.cells #[.int .i64 t461, .int .i64 t462, .int .i64 t463, .slice Ao76 t464.length co76] 33 (0, 0))) ∧ (w'.heap[s_.2.2.2.2]? = some (.cells #[.int .i64 0, .int .i64 0, .int .i64 0, .slice none 0 0] 33 (0, 0))) ∧ (w.heap.size ≤ s_.2.2.2.2) ∧ (w.heap.size ≤ s_.2.2.2.2) ∧ (gb409 ≠ s_.2.2.2.2) ∧ (s_.2.2.2.2 ≠ gb409) ∧ (gb410 ≠ s_.2.2.2.2) ∧ (s_.2.2.2.2 ≠ gb410) ∧ (gb439 ≠ s_.2.2.2.2) ∧ (s_.2.2.2.2 ≠ gb439) ∧ (gb446 ≠ s_.2.2.2.2) ∧ (s_.2.2.2.2 ≠ gb446) ∧ (gb460 ≠ s_.2.2.2.2) ∧ (s_.2.2.2.2 ≠ gb460) ∧ (gb468 ≠ s_.2.2.2.2) ∧ (s_.2.2.2.2 ≠ gb468) ∧ (Below w.heap.size w w')) ?_ ?_
      rotate_left
      ·intro hCont
       refine two_ (i := 1) (j := 8) (Ni := some 96) (Nj := some 15) #[I, I, I, O, O, O, O, O, O, O, O] #[I, O, I, O, O, O, O, O, I, O, O] rfl rfl rfl rfl (two_of HT_.out (by kernel_rfl)) (by decide) (by decide) (fun K hK => ?_) (fun K hK => ?_)
       rotate_left
       ·skip
        refine box_step ?hg (N := 15) ?hd (cs := #[.int .i64 0, .int .i64 0, .int .i64 0, .slice none 0 0]) (t := 33) ?hr ?_; (case hd => rfl); (case hg => rfl); (case hr => first | (go_simp; done) | (go_simp; rfl))
        intro gb526 hg w181 hbox hb
        have n12_ := Aside0.mk (hbox)
        have n13_ := Aside0.mk ((by rw [hg]; exact (below_size bel_now) : w.heap.size ≤ gb526))
        have n14_ := Aside0.mk ((by rw [hg]; exact (below_size bel_now) : w.heap.size ≤ gb526))
        have n15_ := Aside0.mk ((by rw [hg]; exact Nat.ne_of_lt (blk_lt (g := gb409) blk_now) : gb409 ≠ gb526))
        have n16_ := Aside0.mk ((by rw [hg]; exact Nat.ne_of_gt (blk_lt (g := gb409) blk_now) : gb526 ≠ gb409))
        have n17_ := Aside0.mk ((by rw [hg]; exact Nat.ne_of_lt (blk_lt (g := gb410) blk_now) : gb410 ≠ gb526))
        have n18_ := Aside0.mk ((by rw [hg]; exact Nat.ne_of_gt (blk_lt (g := gb410) blk_now) : gb526 ≠ gb410))
        have n19_ := Aside0.mk ((by rw [hg]; exact Nat.ne_of_lt (blk_lt (g := gb439) blk_now) : gb439 ≠ gb526))
        have n20_ := Aside0.mk ((by rw [hg]; exact Nat.ne_of_gt (blk_lt (g := gb439) blk_now) : gb526 ≠ gb439))
        have n21_ := Aside0.mk ((by rw [hg]; exact Nat.ne_of_lt (blk_lt (g := gb446) blk_now) : gb446 ≠ gb526))
        have n22_ := Aside0.mk ((by rw [hg]; exact Nat.ne_of_gt (blk_lt (g := gb446) blk_now) : gb526 ≠ gb446))
        have n23_ := Aside0.mk ((by rw [hg]; exact Nat.ne_of_lt (blk_lt (g := gb460) blk_now) : gb460 ≠ gb526))
        have n24_ := Aside0.mk ((by rw [hg]; exact Nat.ne_of_gt (blk_lt (g := gb460) blk_now) : gb526 ≠ gb460))
        have n25_ := Aside0.mk ((by rw [hg]; exact Nat.ne_of_lt (blk_lt (g := gb468) blk_now) : gb468 ≠ gb526))
        have n26_ := Aside0.mk ((by rw [hg]; exact Nat.ne_of_gt (blk_lt (g := gb468) blk_now) : gb526 ≠ gb468))
        replace HO_440003 := Aside0.mk (Kd.R_below (R_at HO_440003.out) hb)
        replace HO_447003 := Aside0.mk (Kd.R_below (R_at HO_447003.out) hb)
        replace HO_461007 := Aside0.mk (Kd.R_below (R_at HO_461007.out) hb)
        replace HO_461008 := Aside0.mk (Kd.R_below (R_at HO_461008.out) hb)
        replace HO_469003 := Aside0.mk (Kd.R_below (R_at HO_469003.out) hb)
        replace BK409 := blk_on gb409 hb
        replace BK410 := blk_on gb410 hb
        replace BK439 := blk_on gb439 hb
        replace BK446 := blk_on gb446 hb
        replace BK460 := blk_on gb460 hb
        replace BK468 := blk_on gb468 hb
        replace HB := bel_on w hb
        have BK526 := n12_
        have GW526 := n13_
        have GE526 := n14_
        have NB409_526 := n15_
        have NB526_409 := n16_
        have NB410_526 := n17_
        have NB526_410 := n18_
        have NB439_526 := n19_
        have NB526_439 := n20_
        have NB446_526 := n21_
        have NB526_446 := n22_
        have NB460_526 := n23_
        have NB526_460 := n24_
        have NB468_526 := n25_
        have NB526_468 := n26_
        clear n12_ n13_ n14_ n15_ n16_ n17_ n18_ n19_ n20_ n21_ n22_ n23_ n24_ n25_ n26_
        clear hb hbox hg
        refine hK.out _ _ ⟨bc BK409 0, bc BK409 1, bc BK409 2, bc BK409 3, bc BK410 0, bc BK410 1, bc BK410 2, bc BK410 3, bc BK410 4, bc BK410 5, bc BK410 6, bc BK410 7, bc BK410 8⟩ (fun hHeld => ?_)
        clear hK K
        refine normP 15 ?_
        refine one_ (i := 1) (N := some 96) #[I, I, I, O, O, O, O, O, I, O, O] rfl rfl (one_of HT_.out (by kernel_rfl)) (by decide) (fun K hK => ?_)
        refine goes_ Try.func11 (by kernel_rfl) rfl #[.agg #[.int .i64 a0_0, .int .i64 a0_1, .int .i64 a0_2, .slice A0_3 l0_3.length c0_3]] (by rfl) rfl rfl (by (try simp only [List.map_toArray, List.map_cons, List.map_nil]); first | done | rfl | (simp only [List.length_drop, List.length_take]; rfl)) ?_
        with_reducible refine (laws_toTensor.calls kj111 a0_0 a0_1 a0_2 _ _ l0_3 t500 t501 t502 t503 _ ?side1 ?side2 A167.out).mono ?_
        (case side1 => exact C_now HR0_3.out)
        (case side2 => exact HC0_3.out)
        rintro e w182 ⟨v504, rfl, ho0, hb⟩
        refine ⟨_, rfl, ?_⟩
        have n5_ := Aside0.mk (Kd.R_lower (Kd.R_new' (Kd.R_new' (Kd.R_new' (Kd.R_new' (Kd.R_new' ho0 (Kd.R_lt (R_at HO_440003.out))) (Kd.R_lt (R_at HO_447003.out))) (Kd.R_lt (R_at HO_461007.out))) (Kd.R_lt (R_at HO_461008.out))) (Kd.R_lt (R_at HO_469003.out))) (below_size bel_now))
        replace HO_440003 := Aside0.mk (Kd.R_elder' (R_at HO_440003.out) (Kd.R_base ho0) hb)
        replace HO_447003 := Aside0.mk (Kd.R_elder' (R_at HO_447003.out) (Kd.R_base ho0) hb)
        replace HO_461007 := Aside0.mk (Kd.R_elder' (R_at HO_461007.out) (Kd.R_base ho0) hb)
        replace HO_461008 := Aside0.mk (Kd.R_elder' (R_at HO_461008.out) (Kd.R_base ho0) hb)
        replace HO_469003 := Aside0.mk (Kd.R_elder' (R_at HO_469003.out) (Kd.R_base ho0) hb)
        replace BK409 := blk_on gb409 hb
        replace BK410 := blk_on gb410 hb
        replace BK439 := blk_on gb439 hb
        replace BK446 := blk_on gb446 hb
        replace BK460 := blk_on gb460 hb
        replace BK468 := blk_on gb468 hb
        replace BK526 := blk_on gb526 hb
        replace HB := bel_on w hb
        have HO505 := n5_
        clear n5_
        (try clear hb)
        (try clear ho0)
        refine hK.out _ _ ⟨bc BK409 0, bc BK409 1, bc BK409 2, bc BK409 3, bc BK410 0, bc BK410 1, bc BK410 2, bc BK410 3, bc BK410 4, bc BK410 5, bc BK410 6, bc BK410 7, bc BK410 8⟩ (fun hHeld => ?_)
        clear hK K
        refine normP 96 ?_
        refine one_ (i := 3) (N := some 98) #[I, I, I, I, O, O, O, O, I, O, O] rfl rfl (one_of HT_.out (by kernel_rfl)) (by decide) (fun K hK => ?_)
        refine goes_ Try.func12 (by kernel_rfl) rfl #[.agg #[.int .i64 a1_0, .int .i64 a1_1, .int .i64 a1_2, .int .i64 a1_3, .int .i64 a1_4, .int .i64 a1_5, .int .i64 a1_6, .slice A1_7 l1_7.length c1_7, .slice A1_8 l1_8.length c1_8]] (by rfl) rfl rfl (by (try simp only [List.map_toArray, List.map_cons, List.map_nil]); first | done | rfl | (simp only [List.length_drop, List.length_take]; rfl)) ?_
        with_reducible refine (laws_toLayer.calls kj111 a1_0 a1_1 a1_2 a1_3 a1_4 a1_5 a1_6 _ _ l1_7 _ _ l1_8 t506 t507 t508 t509 t510 t511 t512 t513 t516 _ ?side1 ?side2 ?side3 ?side4 A168.out).mono ?_
        (case side1 => exact C_now HR1_7.out)
        (case side2 => exact HC1_7.out)
        (case side3 => exact C_now HR1_8.out)
        (case side4 => exact HC1_8.out)
        rintro e w183 ⟨v514, v517, rfl, ho0, ho1, hb⟩
        refine ⟨_, rfl, ?_⟩
        have n6_ := Aside0.mk (Kd.R_lower (Kd.R_new' (Kd.R_new' (Kd.R_new' (Kd.R_new' (Kd.R_new' (Kd.R_new' ho0 (Kd.R_lt (R_at HO_440003.out))) (Kd.R_lt (R_at HO_447003.out))) (Kd.R_lt (R_at HO_461007.out))) (Kd.R_lt (R_at HO_461008.out))) (Kd.R_lt (R_at HO_469003.out))) (Kd.R_lt (R_at HO505.out))) (below_size bel_now))
        have n7_ := Aside0.mk (Kd.R_lower (Kd.R_new' (Kd.R_new' (Kd.R_new' (Kd.R_new' (Kd.R_new' (Kd.R_new' ho1 (Kd.R_lt (R_at HO_440003.out))) (Kd.R_lt (R_at HO_447003.out))) (Kd.R_lt (R_at HO_461007.out))) (Kd.R_lt (R_at HO_461008.out))) (Kd.R_lt (R_at HO_469003.out))) (Kd.R_lt (R_at HO505.out))) (below_size bel_now))
        replace HO_440003 := Aside0.mk (Kd.R_mono (Kd.R_told (Kd.R_told (Kd.R_old (R_at HO_440003.out) hb) (Kd.R_base ho0)) (Kd.R_base ho1)) (fun _ h_ => h_.1))
        replace HO_447003 := Aside0.mk (Kd.R_mono (Kd.R_told (Kd.R_told (Kd.R_old (R_at HO_447003.out) hb) (Kd.R_base ho0)) (Kd.R_base ho1)) (fun _ h_ => h_.1))
        replace HO_461007 := Aside0.mk (Kd.R_mono (Kd.R_told (Kd.R_told (Kd.R_old (R_at HO_461007.out) hb) (Kd.R_base ho0)) (Kd.R_base ho1)) (fun _ h_ => h_.1))
        replace HO_461008 := Aside0.mk (Kd.R_mono (Kd.R_told (Kd.R_told (Kd.R_old (R_at HO_461008.out) hb) (Kd.R_base ho0)) (Kd.R_base ho1)) (fun _ h_ => h_.1))
        replace HO_469003 := Aside0.mk (Kd.R_mono (Kd.R_told (Kd.R_told (Kd.R_old (R_at HO_469003.out) hb) (Kd.R_base ho0)) (Kd.R_base ho1)) (fun _ h_ => h_.1))
        replace HO505 := Aside0.mk (Kd.R_mono (Kd.R_told (Kd.R_told (Kd.R_old (R_at HO505.out) hb) (Kd.R_base ho0)) (Kd.R_base ho1)) (fun _ h_ => h_.1))
        replace BK409 := blk_on gb409 hb
        replace BK410 := blk_on gb410 hb
        replace BK439 := blk_on gb439 hb
        replace BK446 := blk_on gb446 hb
        replace BK460 := blk_on gb460 hb
        replace BK468 := blk_on gb468 hb
        replace BK526 := blk_on gb526 hb
        replace HB := bel_on w hb
        have HO515 := n6_
        have HO518 := n7_
        clear n6_ n7_
        (try clear hb)
        (try clear ho0)
        (try clear ho1)
        obtain ⟨Ao184, co184, eo184⟩ := Kd.R_slice HO505.out
        (first | subst eo184 | (injection eo184 with f1_ f2_ f3_; have f4_ := f1_.symm; have f5_ := f3_.symm; clear f1_ f2_ f3_; subst f4_; subst f5_))
        obtain ⟨Ao185, co185, eo185⟩ := Kd.R_slice HO515.out
        (first | subst eo185 | (injection eo185 with f1_ f2_ f3_; have f4_ := f1_.symm; have f5_ := f3_.symm; clear f1_ f2_ f3_; subst f4_; subst f5_))
        obtain ⟨Ao186, co186, eo186⟩ := Kd.R_slice HO518.out
        (first | subst eo186 | (injection eo186 with f1_ f2_ f3_; have f4_ := f1_.symm; have f5_ := f3_.symm; clear f1_ f2_ f3_; subst f4_; subst f5_))
        refine hK.out _ _ ⟨bc BK409 0, bc BK409 1, bc BK409 2, bc BK409 3, bc BK410 0, bc BK410 1, bc BK410 2, bc BK410 3, bc BK410 4, bc BK410 5, bc BK410 6, bc BK410 7, bc BK410 8⟩ (fun hHeld => ?_)
        clear hK K
        refine normP 98 ?_
        refine one_ (i := 4) (N := some 99) #[I, I, I, I, I, O, O, O, I, O, O] rfl rfl (one_of HT_.out (by kernel_rfl)) (by decide) (fun K hK => ?_)
        refine goes_ Try.func13 (by kernel_rfl) rfl #[.agg #[.int .i64 t500, .int .i64 t501, .int .i64 t502, .slice Ao184 t503.length co184], .agg #[.int .i64 t506, .int .i64 t507, .int .i64 t508, .int .i64 t509, .int .i64 t510, .int .i64 t511, .int .i64 t512, .slice Ao185 t513.length co185, .slice Ao186 t516.length co186]] (by rfl) rfl rfl (by (try simp only [List.map_toArray, List.map_cons, List.map_nil]); first | done | rfl | (simp only [List.length_drop, List.length_take]; rfl)) ?_
        with_reducible refine (impl_RunLayer.calls kj111 t500 t501 t502 _ _ t503 t506 t507 t508 t509 t510 t511 t512 _ _ t513 _ _ t516 t519 t520 t521 t522 t525 _ ?side1 ?side2 ?side3 ?side4 ?side5 ?side6 A169.out).mono ?_
        (case side1 => exact (Kd.R_reads' (R_at HO505.out)).2.2)
        (case side2 => exact (Kd.R_reads' HO505.out).2.1)
        (case side3 => exact (Kd.R_reads' (R_at HO515.out)).2.2)
        (case side4 => exact (Kd.R_reads' HO515.out).2.1)
        (case side5 => exact (Kd.R_reads' (R_at HO518.out)).2.2)
        (case side6 => exact (Kd.R_reads' HO518.out).2.1)
        rintro e w187 ⟨v523, rfl, ho0, hb⟩
        refine ⟨_, rfl, ?_⟩
        have n8_ := Aside0.mk (Kd.R_lower (Kd.R_new' (Kd.R_new' (Kd.R_new' (Kd.R_new' (Kd.R_new' (Kd.R_new' (Kd.R_new' (Kd.R_new' ho0 (Kd.R_lt (R_at HO_440003.out))) (Kd.R_lt (R_at HO_447003.out))) (Kd.R_lt (R_at HO_461007.out))) (Kd.R_lt (R_at HO_461008.out))) (Kd.R_lt (R_at HO_469003.out))) (Kd.R_lt (R_at HO505.out))) (Kd.R_lt (R_at HO515.out))) (Kd.R_lt (R_at HO518.out))) (below_size bel_now))
        replace HO_440003 := Aside0.mk (Kd.R_elder' (R_at HO_440003.out) (Kd.R_base ho0) hb)
        replace HO_447003 := Aside0.mk (Kd.R_elder' (R_at HO_447003.out) (Kd.R_base ho0) hb)
        replace HO_461007 := Aside0.mk (Kd.R_elder' (R_at HO_461007.out) (Kd.R_base ho0) hb)
        replace HO_461008 := Aside0.mk (Kd.R_elder' (R_at HO_461008.out) (Kd.R_base ho0) hb)
        replace HO_469003 := Aside0.mk (Kd.R_elder' (R_at HO_469003.out) (Kd.R_base ho0) hb)
        replace HO505 := Aside0.mk (Kd.R_elder' (R_at HO505.out) (Kd.R_base ho0) hb)
        replace HO515 := Aside0.mk (Kd.R_elder' (R_at HO515.out) (Kd.R_base ho0) hb)
        replace HO518 := Aside0.mk (Kd.R_elder' (R_at HO518.out) (Kd.R_base ho0) hb)
        replace BK409 := blk_on gb409 hb
        replace BK410 := blk_on gb410 hb
        replace BK439 := blk_on gb439 hb
        replace BK446 := blk_on gb446 hb
        replace BK460 := blk_on gb460 hb
        replace BK468 := blk_on gb468 hb
        replace BK526 := blk_on gb526 hb
        replace HB := bel_on w hb
        have HO524 := n8_
        clear n8_
        (try clear hb)
        (try clear ho0)
        refine hK.out _ _ ⟨bc BK409 0, bc BK409 1, bc BK409 2, bc BK409 3, bc BK410 0, bc BK410 1, bc BK410 2, bc BK410 3, bc BK410 4, bc BK410 5, bc BK410 6, bc BK410 7, bc BK410 8⟩ (fun hHeld => ?_)
        clear hK K
        refine normP 99 ?_
        refine stepP 5 (some 94) (tk 11 319) (any_of HT_.out (by kernel_rfl)) ?_
        refine stepP 6 (some 100) (tk 11 383) (any_of HT_.out (by kernel_rfl)) ?_
        refine stepP 7 (some 101) (tk 11 511) (any_of HT_.out (by kernel_rfl)) ?_
        exact norm_ (by simp only [putAll, Act.put, zA, zB, zC]) (hCont (.slice Ao184 t503.length co184, .slice Ao185 t513.length co185, .slice Ao186 t516.length co186, v523, gb526) _ ⟨hHeld, (R_at (Kd.R_mono HO505.out (fun _ hk => ⟨hk.1.1.2, ⟨hk.1.2, ⟨hk.2, ⟨hk.1.1.1.1.1.1.1.2, ⟨hk.1.1.1.1.1.1.2, ⟨hk.1.1.1.1.1.2, ⟨hk.1.1.1.1.2, hk.1.1.1.2⟩⟩⟩⟩⟩⟩⟩))), (R_at (Kd.R_mono HO515.out (fun _ hk => ⟨hk.1.2, ⟨hk.1.1.1.1.1.1.1, ⟨hk.2, ⟨hk.1.1.1.1.1.1.2, ⟨hk.1.1.1.1.1.2, ⟨hk.1.1.1.1.2, ⟨hk.1.1.1.2, hk.1.1.2⟩⟩⟩⟩⟩⟩⟩))), (R_at (Kd.R_mono HO518.out (fun _ hk => ⟨hk.1.2, ⟨hk.1.1.1.1.1.1.1, ⟨hk.2, ⟨hk.1.1.1.1.1.1.2, ⟨hk.1.1.1.1.1.2, ⟨hk.1.1.1.1.2, ⟨hk.1.1.1.2, hk.1.1.2⟩⟩⟩⟩⟩⟩⟩))), (R_at (Kd.R_mono HO524.out (fun _ hk => ⟨hk.1.1.2, ⟨hk.1.2, ⟨hk.2, ⟨hk.1.1.1.1.1.1.1.2, ⟨hk.1.1.1.1.1.1.2, ⟨hk.1.1.1.1.1.2, ⟨hk.1.1.1.1.2, hk.1.1.1.2⟩⟩⟩⟩⟩⟩⟩))), (R_at (Kd.R_mono HO_440003.out (fun _ hk => ⟨hk.1.1.1.2, ⟨hk.1.1.2, ⟨hk.1.2, ⟨hk.2, ⟨hk.1.1.1.1.1, ⟨hk.1.1.1.1.2.1, ⟨hk.1.1.1.1.2.2.1, hk.1.1.1.1.2.2.2⟩⟩⟩⟩⟩⟩⟩))), (R_at (Kd.R_mono HO_447003.out (fun _ hk => ⟨hk.1.1.1.2, ⟨hk.1.1.2, ⟨hk.1.2, ⟨hk.2, ⟨hk.1.1.1.1.1, ⟨hk.1.1.1.1.2.1, ⟨hk.1.1.1.1.2.2.1, hk.1.1.1.1.2.2.2⟩⟩⟩⟩⟩⟩⟩))), (R_at (Kd.R_mono HO_461007.out (fun _ hk => ⟨hk.1.1.1.2, ⟨hk.1.1.2, ⟨hk.1.2, ⟨hk.2, ⟨hk.1.1.1.1.1, ⟨hk.1.1.1.1.2.1, ⟨hk.1.1.1.1.2.2.1, hk.1.1.1.1.2.2.2⟩⟩⟩⟩⟩⟩⟩))), (R_at (Kd.R_mono HO_461008.out (fun _ hk => ⟨hk.1.1.1.2, ⟨hk.1.1.2, ⟨hk.1.2, ⟨hk.2, ⟨hk.1.1.1.1.1, ⟨hk.1.1.1.1.2.1, ⟨hk.1.1.1.1.2.2.1, hk.1.1.1.1.2.2.2⟩⟩⟩⟩⟩⟩⟩))), (R_at (Kd.R_mono HO_469003.out (fun _ hk => ⟨hk.1.1.1.2, ⟨hk.1.1.2, ⟨hk.1.2, ⟨hk.2, ⟨hk.1.1.1.1.1, ⟨hk.1.1.1.1.2.1, ⟨hk.1.1.1.1.2.2.1, hk.1.1.1.1.2.2.2⟩⟩⟩⟩⟩⟩⟩))), blk_now, blk_now, blk_now, blk_now, blk_now, blk_now, blk_now, GW526.out, GE526.out, NB409_526.out, NB526_409.out, NB410_526.out, NB526_410.out, NB439_526.out, NB526_439.out, NB446_526.out, NB526_446.out, NB460_526.out, NB526_460.out, NB468_526.out, NB526_468.out, bel_now⟩)
       skip
       refine goes_ Try.func11 (by kernel_rfl) rfl #[.agg #[.int .i64 a0_0, .int .i64 a0_1, .int .i64 a0_2, .slice A0_3 l0_3.length c0_3]] (by rfl) rfl rfl (by (try simp only [List.map_toArray, List.map_cons, List.map_nil]); first | done | rfl | (simp only [List.length_drop, List.length_take]; rfl)) ?_
       with_reducible refine (laws_toTensor.calls kj111 a0_0 a0_1 a0_2 _ _ l0_3 t500 t501 t502 t503 _ ?side1 ?side2 A167.out).mono ?_
       (case side1 => exact C_now HR0_3.out)
       (case side2 => exact HC0_3.out)
       rintro e w181 ⟨v504, rfl, ho0, hb⟩
       refine ⟨_, rfl, ?_⟩
       have n5_ := Aside0.mk (Kd.R_lower (Kd.R_new' (Kd.R_new' (Kd.R_new' (Kd.R_new' (Kd.R_new' ho0 (Kd.R_lt (R_at HO_440003.out))) (Kd.R_lt (R_at HO_447003.out))) (Kd.R_lt (R_at HO_461007.out))) (Kd.R_lt (R_at HO_461008.out))) (Kd.R_lt (R_at HO_469003.out))) (below_size bel_now))
       replace HO_440003 := Aside0.mk (Kd.R_elder' (R_at HO_440003.out) (Kd.R_base ho0) hb)
       replace HO_447003 := Aside0.mk (Kd.R_elder' (R_at HO_447003.out) (Kd.R_base ho0) hb)
       replace HO_461007 := Aside0.mk (Kd.R_elder' (R_at HO_461007.out) (Kd.R_base ho0) hb)
       replace HO_461008 := Aside0.mk (Kd.R_elder' (R_at HO_461008.out) (Kd.R_base ho0) hb)
       replace HO_469003 := Aside0.mk (Kd.R_elder' (R_at HO_469003.out) (Kd.R_base ho0) hb)
       replace BK409 := blk_on gb409 hb
       replace BK410 := blk_on gb410 hb
       replace BK439 := blk_on gb439 hb
       replace BK446 := blk_on gb446 hb
       replace BK460 := blk_on gb460 hb
       replace BK468 := blk_on gb468 hb
       replace HB := bel_on w hb
       have HO505 := n5_
       clear n5_
       (try clear hb)
       (try clear ho0)
       refine hK.out _ _ ⟨bc BK409 0, bc BK409 1, bc BK409 2, bc BK409 3, bc BK410 0, bc BK410 1, bc BK410 2, bc BK410 3, bc BK410 4, bc BK410 5, bc BK410 6, bc BK410 7, bc BK410 8⟩ (fun hHeld => ?_)
       clear hK K
       refine normP 96 ?_
       refine two_ (i := 3) (j := 8) (Ni := some 98) (Nj := some 15) #[I, I, I, I, O, O, O, O, O, O, O] #[I, I, I, O, O, O, O, O, I, O, O] rfl rfl rfl rfl (two_of HT_.out (by kernel_rfl)) (by decide) (by decide) (fun K hK => ?_) (fun K hK => ?_)
       rotate_left
       ·skip
        refine box_step ?hg (N := 15) ?hd (cs := #[.int .i64 0, .int .i64 0, .int .i64 0, .slice none 0 0]) (t := 33) ?hr ?_; (case hd => rfl); (case hg => rfl); (case hr => first | (go_simp; done) | (go_simp; rfl))
        intro gb526 hg w182 hbox hb
        have n13_ := Aside0.mk (hbox)
        have n14_ := Aside0.mk ((by rw [hg]; exact (below_size bel_now) : w.heap.size ≤ gb526))
        have n15_ := Aside0.mk ((by rw [hg]; exact (below_size bel_now) : w.heap.size ≤ gb526))
        have n16_ := Aside0.mk ((by rw [hg]; exact Nat.ne_of_lt (blk_lt (g := gb409) blk_now) : gb409 ≠ gb526))
        have n17_ := Aside0.mk ((by rw [hg]; exact Nat.ne_of_gt (blk_lt (g := gb409) blk_now) : gb526 ≠ gb409))
        have n18_ := Aside0.mk ((by rw [hg]; exact Nat.ne_of_lt (blk_lt (g := gb410) blk_now) : gb410 ≠ gb526))
        have n19_ := Aside0.mk ((by rw [hg]; exact Nat.ne_of_gt (blk_lt (g := gb410) blk_now) : gb526 ≠ gb410))
        have n20_ := Aside0.mk ((by rw [hg]; exact Nat.ne_of_lt (blk_lt (g := gb439) blk_now) : gb439 ≠ gb526))
        have n21_ := Aside0.mk ((by rw [hg]; exact Nat.ne_of_gt (blk_lt (g := gb439) blk_now) : gb526 ≠ gb439))
        have n22_ := Aside0.mk ((by rw [hg]; exact Nat.ne_of_lt (blk_lt (g := gb446) blk_now) : gb446 ≠ gb526))
        have n23_ := Aside0.mk ((by rw [hg]; exact Nat.ne_of_gt (blk_lt (g := gb446) blk_now) : gb526 ≠ gb446))
        have n24_ := Aside0.mk ((by rw [hg]; exact Nat.ne_of_lt (blk_lt (g := gb460) blk_now) : gb460 ≠ gb526))
        have n25_ := Aside0.mk ((by rw [hg]; exact Nat.ne_of_gt (blk_lt (g := gb460) blk_now) : gb526 ≠ gb460))
        have n26_ := Aside0.mk ((by rw [hg]; exact Nat.ne_of_lt (blk_lt (g := gb468) blk_now) : gb468 ≠ gb526))
        have n27_ := Aside0.mk ((by rw [hg]; exact Nat.ne_of_gt (blk_lt (g := gb468) blk_now) : gb526 ≠ gb468))
        replace HO_440003 := Aside0.mk (Kd.R_below (R_at HO_440003.out) hb)
        replace HO_447003 := Aside0.mk (Kd.R_below (R_at HO_447003.out) hb)
        replace HO_461007 := Aside0.mk (Kd.R_below (R_at HO_461007.out) hb)
        replace HO_461008 := Aside0.mk (Kd.R_below (R_at HO_461008.out) hb)
        replace HO_469003 := Aside0.mk (Kd.R_below (R_at HO_469003.out) hb)
        replace HO505 := Aside0.mk (Kd.R_below (R_at HO505.out) hb)
        replace BK409 := blk_on gb409 hb
        replace BK410 := blk_on gb410 hb
        replace BK439 := blk_on gb439 hb
        replace BK446 := blk_on gb446 hb
        replace BK460 := blk_on gb460 hb
        replace BK468 := blk_on gb468 hb
        replace HB := bel_on w hb
        have BK526 := n13_
        have GW526 := n14_
        have GE526 := n15_
        have NB409_526 := n16_
        have NB526_409 := n17_
        have NB410_526 := n18_
        have NB526_410 := n19_
        have NB439_526 := n20_
        have NB526_439 := n21_
        have NB446_526 := n22_
        have NB526_446 := n23_
        have NB460_526 := n24_
        have NB526_460 := n25_
        have NB468_526 := n26_
        have NB526_468 := n27_
        clear n13_ n14_ n15_ n16_ n17_ n18_ n19_ n20_ n21_ n22_ n23_ n24_ n25_ n26_ n27_
        clear hb hbox hg
        refine hK.out _ _ ⟨bc BK409 0, bc BK409 1, bc BK409 2, bc BK409 3, bc BK410 0, bc BK410 1, bc BK410 2, bc BK410 3, bc BK410 4, bc BK410 5, bc BK410 6, bc BK410 7, bc BK410 8⟩ (fun hHeld => ?_)
        clear hK K
        refine normP 15 ?_
        refine one_ (i := 3) (N := some 98) #[I, I, I, I, O, O, O, O, I, O, O] rfl rfl (one_of HT_.out (by kernel_rfl)) (by decide) (fun K hK => ?_)
        refine goes_ Try.func12 (by kernel_rfl) rfl #[.agg #[.int .i64 a1_0, .int .i64 a1_1, .int .i64 a1_2, .int .i64 a1_3, .int .i64 a1_4, .int .i64 a1_5, .int .i64 a1_6, .slice A1_7 l1_7.length c1_7, .slice A1_8 l1_8.length c1_8]] (by rfl) rfl rfl (by (try simp only [List.map_toArray, List.map_cons, List.map_nil]); first | done | rfl | (simp only [List.length_drop, List.length_take]; rfl)) ?_
        with_reducible refine (laws_toLayer.calls kj111 a1_0 a1_1 a1_2 a1_3 a1_4 a1_5 a1_6 _ _ l1_7 _ _ l1_8 t506 t507 t508 t509 t510 t511 t512 t513 t516 _ ?side1 ?side2 ?side3 ?side4 A168.out).mono ?_
        (case side1 => exact C_now HR1_7.out)
        (case side2 => exact HC1_7.out)
        (case side3 => exact C_now HR1_8.out)
        (case side4 => exact HC1_8.out)
        rintro e w183 ⟨v514, v517, rfl, ho0, ho1, hb⟩
        refine ⟨_, rfl, ?_⟩
        have n6_ := Aside0.mk (Kd.R_lower (Kd.R_new' (Kd.R_new' (Kd.R_new' (Kd.R_new' (Kd.R_new' (Kd.R_new' ho0 (Kd.R_lt (R_at HO_440003.out))) (Kd.R_lt (R_at HO_447003.out))) (Kd.R_lt (R_at HO_461007.out))) (Kd.R_lt (R_at HO_461008.out))) (Kd.R_lt (R_at HO_469003.out))) (Kd.R_lt (R_at HO505.out))) (below_size bel_now))
        have n7_ := Aside0.mk (Kd.R_lower (Kd.R_new' (Kd.R_new' (Kd.R_new' (Kd.R_new' (Kd.R_new' (Kd.R_new' ho1 (Kd.R_lt (R_at HO_440003.out))) (Kd.R_lt (R_at HO_447003.out))) (Kd.R_lt (R_at HO_461007.out))) (Kd.R_lt (R_at HO_461008.out))) (Kd.R_lt (R_at HO_469003.out))) (Kd.R_lt (R_at HO505.out))) (below_size bel_now))
        replace HO_440003 := Aside0.mk (Kd.R_mono (Kd.R_told (Kd.R_told (Kd.R_old (R_at HO_440003.out) hb) (Kd.R_base ho0)) (Kd.R_base ho1)) (fun _ h_ => h_.1))
        replace HO_447003 := Aside0.mk (Kd.R_mono (Kd.R_told (Kd.R_told (Kd.R_old (R_at HO_447003.out) hb) (Kd.R_base ho0)) (Kd.R_base ho1)) (fun _ h_ => h_.1))
        replace HO_461007 := Aside0.mk (Kd.R_mono (Kd.R_told (Kd.R_told (Kd.R_old (R_at HO_461007.out) hb) (Kd.R_base ho0)) (Kd.R_base ho1)) (fun _ h_ => h_.1))
        replace HO_461008 := Aside0.mk (Kd.R_mono (Kd.R_told (Kd.R_told (Kd.R_old (R_at HO_461008.out) hb) (Kd.R_base ho0)) (Kd.R_base ho1)) (fun _ h_ => h_.1))
        replace HO_469003 := Aside0.mk (Kd.R_mono (Kd.R_told (Kd.R_told (Kd.R_old (R_at HO_469003.out) hb) (Kd.R_base ho0)) (Kd.R_base ho1)) (fun _ h_ => h_.1))
        replace HO505 := Aside0.mk (Kd.R_mono (Kd.R_told (Kd.R_told (Kd.R_old (R_at HO505.out) hb) (Kd.R_base ho0)) (Kd.R_base ho1)) (fun _ h_ => h_.1))
        replace BK409 := blk_on gb409 hb
        replace BK410 := blk_on gb410 hb
        replace BK439 := blk_on gb439 hb
        replace BK446 := blk_on gb446 hb
        replace BK460 := blk_on gb460 hb
        replace BK468 := blk_on gb468 hb
        replace BK526 := blk_on gb526 hb
        replace HB := bel_on w hb
        have HO515 := n6_
        have HO518 := n7_
        clear n6_ n7_
        (try clear hb)
        (try clear ho0)
        (try clear ho1)
        obtain ⟨Ao184, co184, eo184⟩ := Kd.R_slice HO505.out
        (first | subst eo184 | (injection eo184 with f1_ f2_ f3_; have f4_ := f1_.symm; have f5_ := f3_.symm; clear f1_ f2_ f3_; subst f4_; subst f5_))
        obtain ⟨Ao185, co185, eo185⟩ := Kd.R_slice HO515.out
        (first | subst eo185 | (injection eo185 with f1_ f2_ f3_; have f4_ := f1_.symm; have f5_ := f3_.symm; clear f1_ f2_ f3_; subst f4_; subst f5_))
        obtain ⟨Ao186, co186, eo186⟩ := Kd.R_slice HO518.out
        (first | subst eo186 | (injection eo186 with f1_ f2_ f3_; have f4_ := f1_.symm; have f5_ := f3_.symm; clear f1_ f2_ f3_; subst f4_; subst f5_))
        refine hK.out _ _ ⟨bc BK409 0, bc BK409 1, bc BK409 2, bc BK409 3, bc BK410 0, bc BK410 1, bc BK410 2, bc BK410 3, bc BK410 4, bc BK410 5, bc BK410 6, bc BK410 7, bc BK410 8⟩ (fun hHeld => ?_)
        clear hK K
        refine normP 98 ?_
        refine one_ (i := 4) (N := some 99) #[I, I, I, I, I, O, O, O, I, O, O] rfl rfl (one_of HT_.out (by kernel_rfl)) (by decide) (fun K hK => ?_)
        refine goes_ Try.func13 (by kernel_rfl) rfl #[.agg #[.int .i64 t500, .int .i64 t501, .int .i64 t502, .slice Ao184 t503.length co184], .agg #[.int .i64 t506, .int .i64 t507, .int .i64 t508, .int .i64 t509, .int .i64 t510, .int .i64 t511, .int .i64 t512, .slice Ao185 t513.length co185, .slice Ao186 t516.length co186]] (by rfl) rfl rfl (by (try simp only [List.map_toArray, List.map_cons, List.map_nil]); first | done | rfl | (simp only [List.length_drop, List.length_take]; rfl)) ?_
        with_reducible refine (impl_RunLayer.calls kj111 t500 t501 t502 _ _ t503 t506 t507 t508 t509 t510 t511 t512 _ _ t513 _ _ t516 t519 t520 t521 t522 t525 _ ?side1 ?side2 ?side3 ?side4 ?side5 ?side6 A169.out).mono ?_
        (case side1 => exact (Kd.R_reads' (R_at HO505.out)).2.2)
        (case side2 => exact (Kd.R_reads' HO505.out).2.1)
        (case side3 => exact (Kd.R_reads' (R_at HO515.out)).2.2)
        (case side4 => exact (Kd.R_reads' HO515.out).2.1)
        (case side5 => exact (Kd.R_reads' (R_at HO518.out)).2.2)
        (case side6 => exact (Kd.R_reads' HO518.out).2.1)
        rintro e w187 ⟨v523, rfl, ho0, hb⟩
        refine ⟨_, rfl, ?_⟩
        have n8_ := Aside0.mk (Kd.R_lower (Kd.R_new' (Kd.R_new' (Kd.R_new' (Kd.R_new' (Kd.R_new' (Kd.R_new' (Kd.R_new' (Kd.R_new' ho0 (Kd.R_lt (R_at HO_440003.out))) (Kd.R_lt (R_at HO_447003.out))) (Kd.R_lt (R_at HO_461007.out))) (Kd.R_lt (R_at HO_461008.out))) (Kd.R_lt (R_at HO_469003.out))) (Kd.R_lt (R_at HO505.out))) (Kd.R_lt (R_at HO515.out))) (Kd.R_lt (R_at HO518.out))) (below_size bel_now))
        replace HO_440003 := Aside0.mk (Kd.R_elder' (R_at HO_440003.out) (Kd.R_base ho0) hb)
        replace HO_447003 := Aside0.mk (Kd.R_elder' (R_at HO_447003.out) (Kd.R_base ho0) hb)
        replace HO_461007 := Aside0.mk (Kd.R_elder' (R_at HO_461007.out) (Kd.R_base ho0) hb)
        replace HO_461008 := Aside0.mk (Kd.R_elder' (R_at HO_461008.out) (Kd.R_base ho0) hb)
        replace HO_469003 := Aside0.mk (Kd.R_elder' (R_at HO_469003.out) (Kd.R_base ho0) hb)
        replace HO505 := Aside0.mk (Kd.R_elder' (R_at HO505.out) (Kd.R_base ho0) hb)
        replace HO515 := Aside0.mk (Kd.R_elder' (R_at HO515.out) (Kd.R_base ho0) hb)
        replace HO518 := Aside0.mk (Kd.R_elder' (R_at HO518.out) (Kd.R_base ho0) hb)
        replace BK409 := blk_on gb409 hb
        replace BK410 := blk_on gb410 hb
        replace BK439 := blk_on gb439 hb
        replace BK446 := blk_on gb446 hb
        replace BK460 := blk_on gb460 hb
        replace BK468 := blk_on gb468 hb
        replace BK526 := blk_on gb526 hb
        replace HB := bel_on w hb
        have HO524 := n8_
        clear n8_
        (try clear hb)
        (try clear ho0)
        refine hK.out _ _ ⟨bc BK409 0, bc BK409 1, bc BK409 2, bc BK409 3, bc BK410 0, bc BK410 1, bc BK410 2, bc BK410 3, bc BK410 4, bc BK410 5, bc BK410 6, bc BK410 7, bc BK410 8⟩ (fun hHeld => ?_)
        clear hK K
        refine normP 99 ?_
        refine stepP 5 (some 94) (tk 11 319) (any_of HT_.out (by kernel_rfl)) ?_
        refine stepP 6 (some 100) (tk 11 383) (any_of HT_.out (by kernel_rfl)) ?_
        refine stepP 7 (some 101) (tk 11 511) (any_of HT_.out (by kernel_rfl)) ?_
        exact norm_ (by simp only [putAll, Act.put, zA, zB, zC]) (hCont (.slice Ao184 t503.length co184, .slice Ao185 t513.length co185, .slice Ao186 t516.length co186, v523, gb526) _ ⟨hHeld, (R_at (Kd.R_mono HO505.out (fun _ hk => ⟨hk.1.1.2, ⟨hk.1.2, ⟨hk.2, ⟨hk.1.1.1.1.1.1.1.2, ⟨hk.1.1.1.1.1.1.2, ⟨hk.1.1.1.1.1.2, ⟨hk.1.1.1.1.2, hk.1.1.1.2⟩⟩⟩⟩⟩⟩⟩))), (R_at (Kd.R_mono HO515.out (fun _ hk => ⟨hk.1.2, ⟨hk.1.1.1.1.1.1.1, ⟨hk.2, ⟨hk.1.1.1.1.1.1.2, ⟨hk.1.1.1.1.1.2, ⟨hk.1.1.1.1.2, ⟨hk.1.1.1.2, hk.1.1.2⟩⟩⟩⟩⟩⟩⟩))), (R_at (Kd.R_mono HO518.out (fun _ hk => ⟨hk.1.2, ⟨hk.1.1.1.1.1.1.1, ⟨hk.2, ⟨hk.1.1.1.1.1.1.2, ⟨hk.1.1.1.1.1.2, ⟨hk.1.1.1.1.2, ⟨hk.1.1.1.2, hk.1.1.2⟩⟩⟩⟩⟩⟩⟩))), (R_at (Kd.R_mono HO524.out (fun _ hk => ⟨hk.1.1.2, ⟨hk.1.2, ⟨hk.2, ⟨hk.1.1.1.1.1.1.1.2, ⟨hk.1.1.1.1.1.1.2, ⟨hk.1.1.1.1.1.2, ⟨hk.1.1.1.1.2, hk.1.1.1.2⟩⟩⟩⟩⟩⟩⟩))), (R_at (Kd.R_mono HO_440003.out (fun _ hk => ⟨hk.1.1.1.2, ⟨hk.1.1.2, ⟨hk.1.2, ⟨hk.2, ⟨hk.1.1.1.1.1, ⟨hk.1.1.1.1.2.1, ⟨hk.1.1.1.1.2.2.1, hk.1.1.1.1.2.2.2⟩⟩⟩⟩⟩⟩⟩))), (R_at (Kd.R_mono HO_447003.out (fun _ hk => ⟨hk.1.1.1.2, ⟨hk.1.1.2, ⟨hk.1.2, ⟨hk.2, ⟨hk.1.1.1.1.1, ⟨hk.1.1.1.1.2.1, ⟨hk.1.1.1.1.2.2.1, hk.1.1.1.1.2.2.2⟩⟩⟩⟩⟩⟩⟩))), (R_at (Kd.R_mono HO_461007.out (fun _ hk => ⟨hk.1.1.1.2, ⟨hk.1.1.2, ⟨hk.1.2, ⟨hk.2, ⟨hk.1.1.1.1.1, ⟨hk.1.1.1.1.2.1, ⟨hk.1.1.1.1.2.2.1, hk.1.1.1.1.2.2.2⟩⟩⟩⟩⟩⟩⟩))), (R_at (Kd.R_mono HO_461008.out (fun _ hk => ⟨hk.1.1.1.2, ⟨hk.1.1.2, ⟨hk.1.2, ⟨hk.2, ⟨hk.1.1.1.1.1, ⟨hk.1.1.1.1.2.1, ⟨hk.1.1.1.1.2.2.1, hk.1.1.1.1.2.2.2⟩⟩⟩⟩⟩⟩⟩))), (R_at (Kd.R_mono HO_469003.out (fun _ hk => ⟨hk.1.1.1.2, ⟨hk.1.1.2, ⟨hk.1.2, ⟨hk.2, ⟨hk.1.1.1.1.1, ⟨hk.1.1.1.1.2.1, ⟨hk.1.1.1.1.2.2.1, hk.1.1.1.1.2.2.2⟩⟩⟩⟩⟩⟩⟩))), blk_now, blk_now, blk_now, blk_now, blk_now, blk_now, blk_now, GW526.out, GE526.out, NB409_526.out, NB526_409.out, NB410_526.out, NB526_410.out, NB439_526.out, NB526_439.out, NB446_526.out, NB526_446.out, NB460_526.out, NB526_460.out, NB468_526.out, NB526_468.out, bel_now⟩)
       skip
       refine goes_ Try.func12 (by kernel_rfl) rfl #[.agg #[.int .i64 a1_0, .int .i64 a1_1, .int .i64 a1_2, .int .i64 a1_3, .int .i64 a1_4, .int .i64 a1_5, .int .i64 a1_6, .slice A1_7 l1_7.length c1_7, .slice A1_8 l1_8.length c1_8]] (by rfl) rfl rfl (by (try simp only [List.map_toArray, List.map_cons, List.map_nil]); first | done | rfl | (simp only [List.length_drop, List.length_take]; rfl)) ?_
       with_reducible refine (laws_toLayer.calls kj111 a1_0 a1_1 a1_2 a1_3 a1_4 a1_5 a1_6 _ _ l1_7 _ _ l1_8 t506 t507 t508 t509 t510 t511 t512 t513 t516 _ ?side1 ?side2 ?side3 ?side4 A168.out).mono ?_
       (case side1 => exact C_now HR1_7.out)
       (case side2 => exact HC1_7.out)
       (case side3 => exact C_now HR1_8.out)
       (case side4 => exact HC1_8.out)
       rintro e w182 ⟨v514, v517, rfl, ho0, ho1, hb⟩
       refine ⟨_, rfl, ?_⟩
       have n6_ := Aside0.mk (Kd.R_lower (Kd.R_new' (Kd.R_new' (Kd.R_new' (Kd.R_new' (Kd.R_new' (Kd.R_new' ho0 (Kd.R_lt (R_at HO_440003.out))) (Kd.R_lt (R_at HO_447003.out))) (Kd.R_lt (R_at HO_461007.out))) (Kd.R_lt (R_at HO_461008.out))) (Kd.R_lt (R_at HO_469003.out))) (Kd.R_lt (R_at HO505.out))) (below_size bel_now))
       have n7_ := Aside0.mk (Kd.R_lower (Kd.R_new' (Kd.R_new' (Kd.R_new' (Kd.R_new' (Kd.R_new' (Kd.R_new' ho1 (Kd.R_lt (R_at HO_440003.out))) (Kd.R_lt (R_at HO_447003.out))) (Kd.R_lt (R_at HO_461007.out))) (Kd.R_lt (R_at HO_461008.out))) (Kd.R_lt (R_at HO_469003.out))) (Kd.R_lt (R_at HO505.out))) (below_size bel_now))
       replace HO_440003 := Aside0.mk (Kd.R_mono (Kd.R_told (Kd.R_told (Kd.R_old (R_at HO_440003.out) hb) (Kd.R_base ho0)) (Kd.R_base ho1)) (fun _ h_ => h_.1))
       replace HO_447003 := Aside0.mk (Kd.R_mono (Kd.R_told (Kd.R_told (Kd.R_old (R_at HO_447003.out) hb) (Kd.R_base ho0)) (Kd.R_base ho1)) (fun _ h_ => h_.1))
       replace HO_461007 := Aside0.mk (Kd.R_mono (Kd.R_told (Kd.R_told (Kd.R_old (R_at HO_461007.out) hb) (Kd.R_base ho0)) (Kd.R_base ho1)) (fun _ h_ => h_.1))
       replace HO_461008 := Aside0.mk (Kd.R_mono (Kd.R_told (Kd.R_told (Kd.R_old (R_at HO_461008.out) hb) (Kd.R_base ho0)) (Kd.R_base ho1)) (fun _ h_ => h_.1))
       replace HO_469003 := Aside0.mk (Kd.R_mono (Kd.R_told (Kd.R_told (Kd.R_old (R_at HO_469003.out) hb) (Kd.R_base ho0)) (Kd.R_base ho1)) (fun _ h_ => h_.1))
       replace HO505 := Aside0.mk (Kd.R_mono (Kd.R_told (Kd.R_told (Kd.R_old (R_at HO505.out) hb) (Kd.R_base ho0)) (Kd.R_base ho1)) (fun _ h_ => h_.1))
       replace BK409 := blk_on gb409 hb
       replace BK410 := blk_on gb410 hb
       replace BK439 := blk_on gb439 hb
       replace BK446 := blk_on gb446 hb
       replace BK460 := blk_on gb460 hb
       replace BK468 := blk_on gb468 hb
       replace HB := bel_on w hb
       have HO515 := n6_
       have HO518 := n7_
       clear n6_ n7_
       (try clear hb)
       (try clear ho0)
       (try clear ho1)
       obtain ⟨Ao183, co183, eo183⟩ := Kd.R_slice HO505.out
       (first | subst eo183 | (injection eo183 with f1_ f2_ f3_; have f4_ := f1_.symm; have f5_ := f3_.symm; clear f1_ f2_ f3_; subst f4_; subst f5_))
       obtain ⟨Ao184, co184, eo184⟩ := Kd.R_slice HO515.out
       (first | subst eo184 | (injection eo184 with f1_ f2_ f3_; have f4_ := f1_.symm; have f5_ := f3_.symm; clear f1_ f2_ f3_; subst f4_; subst f5_))
       obtain ⟨Ao185, co185, eo185⟩ := Kd.R_slice HO518.out
       (first | subst eo185 | (injection eo185 with f1_ f2_ f3_; have f4_ := f1_.symm; have f5_ := f3_.symm; clear f1_ f2_ f3_; subst f4_; subst f5_))
       refine hK.out _ _ ⟨bc BK409 0, bc BK409 1, bc BK409 2, bc BK409 3, bc BK410 0, bc BK410 1, bc BK410 2, bc BK410 3, bc BK410 4, bc BK410 5, bc BK410 6, bc BK410 7, bc BK410 8⟩ (fun hHeld => ?_)
       clear hK K
       refine normP 98 ?_
       refine two_ (i := 4) (j := 8) (Ni := some 99) (Nj := some 15) #[I, I, I, I, I, O, O, O, O, O, O] #[I, I, I, I, O, O, O, O, I, O, O] rfl rfl rfl rfl (two_of HT_.out (by kernel_rfl)) (by decide) (by decide) (fun K hK => ?_) (fun K hK => ?_)
       ·skip
        refine goes_ Try.func13 (by kernel_rfl) rfl #[.agg #[.int .i64 t500, .int .i64 t501, .int .i64 t502, .slice Ao183 t503.length co183], .agg #[.int .i64 t506, .int .i64 t507, .int .i64 t508, .int .i64 t509, .int .i64 t510, .int .i64 t511, .int .i64 t512, .slice Ao184 t513.length co184, .slice Ao185 t516.length co185]] (by rfl) rfl rfl (by (try simp only [List.map_toArray, List.map_cons, List.map_nil]); first | done | rfl | (simp only [List.length_drop, List.length_take]; rfl)) ?_
        with_reducible refine (impl_RunLayer.calls kj111 t500 t501 t502 _ _ t503 t506 t507 t508 t509 t510 t511 t512 _ _ t513 _ _ t516 t519 t520 t521 t522 t525 _ ?side1 ?side2 ?side3 ?side4 ?side5 ?side6 A169.out).mono ?_
        (case side1 => exact (Kd.R_reads' (R_at HO505.out)).2.2)
        (case side2 => exact (Kd.R_reads' HO505.out).2.1)
        (case side3 => exact (Kd.R_reads' (R_at HO515.out)).2.2)
        (case side4 => exact (Kd.R_reads' HO515.out).2.1)
        (case side5 => exact (Kd.R_reads' (R_at HO518.out)).2.2)
        (case side6 => exact (Kd.R_reads' HO518.out).2.1)
        rintro e w186 ⟨v523, rfl, ho0, hb⟩
        refine ⟨_, rfl, ?_⟩
        have n8_ := Aside0.mk (Kd.R_lower (Kd.R_new' (Kd.R_new' (Kd.R_new' (Kd.R_new' (Kd.R_new' (Kd.R_new' (Kd.R_new' (Kd.R_new' ho0 (Kd.R_lt (R_at HO_440003.out))) (Kd.R_lt (R_at HO_447003.out))) (Kd.R_lt (R_at HO_461007.out))) (Kd.R_lt (R_at HO_461008.out))) (Kd.R_lt (R_at HO_469003.out))) (Kd.R_lt (R_at HO505.out))) (Kd.R_lt (R_at HO515.out))) (Kd.R_lt (R_at HO518.out))) (below_size bel_now))
        replace HO_440003 := Aside0.mk (Kd.R_elder' (R_at HO_440003.out) (Kd.R_base ho0) hb)
        replace HO_447003 := Aside0.mk (Kd.R_elder' (R_at HO_447003.out) (Kd.R_base ho0) hb)
        replace HO_461007 := Aside0.mk (Kd.R_elder' (R_at HO_461007.out) (Kd.R_base ho0) hb)
        replace HO_461008 := Aside0.mk (Kd.R_elder' (R_at HO_461008.out) (Kd.R_base ho0) hb)
        replace HO_469003 := Aside0.mk (Kd.R_elder' (R_at HO_469003.out) (Kd.R_base ho0) hb)
        replace HO505 := Aside0.mk (Kd.R_elder' (R_at HO505.out) (Kd.R_base ho0) hb)
        replace HO515 := Aside0.mk (Kd.R_elder' (R_at HO515.out) (Kd.R_base ho0) hb)
        replace HO518 := Aside0.mk (Kd.R_elder' (R_at HO518.out) (Kd.R_base ho0) hb)
        replace BK409 := blk_on gb409 hb
        replace BK410 := blk_on gb410 hb
        replace BK439 := blk_on gb439 hb
        replace BK446 := blk_on gb446 hb
        replace BK460 := blk_on gb460 hb
        replace BK468 := blk_on gb468 hb
        replace HB := bel_on w hb
        have HO524 := n8_
        clear n8_
        (try clear hb)
        (try clear ho0)
        refine hK.out _ _ ⟨bc BK409 0, bc BK409 1, bc BK409 2, bc BK409 3, bc BK410 0, bc BK410 1, bc BK410 2, bc BK410 3, bc BK410 4, bc BK410 5, bc BK410 6, bc BK410 7, bc BK410 8⟩ (fun hHeld => ?_)
        clear hK K
        refine normP 99 ?_
        refine stepP 5 (some 94) (tk 11 63) (any_of HT_.out (by kernel_rfl)) ?_
        refine stepP 6 (some 100) (tk 11 127) (any_of HT_.out (by kernel_rfl)) ?_
        refine stepP 7 (some 101) (tk 11 255) (any_of HT_.out (by kernel_rfl)) ?_
        refine one_ (i := 8) (N := some 15) #[I, I, I, I, I, I, I, I, I, O, O] rfl rfl (one_of HT_.out (by kernel_rfl)) (by decide) (fun K hK => ?_)
        refine box_step ?hg (N := 15) ?hd (cs := #[.int .i64 0, .int .i64 0, .int .i64 0, .slice none 0 0]) (t := 33) ?hr ?_; (case hd => rfl); (case hg => rfl); (case hr => first | (go_simp; done) | (go_simp; rfl))
        intro gb526 hg w187 hbox hb
        have n16_ := Aside0.mk (hbox)
        have n17_ := Aside0.mk ((by rw [hg]; exact (below_size bel_now) : w.heap.size ≤ gb526))
        have n18_ := Aside0.mk ((by rw [hg]; exact (below_size bel_now) : w.heap.size ≤ gb526))
        have n19_ := Aside0.mk ((by rw [hg]; exact Nat.ne_of_lt (blk_lt (g := gb409) blk_now) : gb409 ≠ gb526))
        have n20_ := Aside0.mk ((by rw [hg]; exact Nat.ne_of_gt (blk_lt (g := gb409) blk_now) : gb526 ≠ gb409))
        have n21_ := Aside0.mk ((by rw [hg]; exact Nat.ne_of_lt (blk_lt (g := gb410) blk_now) : gb410 ≠ gb526))
        have n22_ := Aside0.mk ((by rw [hg]; exact Nat.ne_of_gt (blk_lt (g := gb410) blk_now) : gb526 ≠ gb410))
        have n23_ := Aside0.mk ((by rw [hg]; exact Nat.ne_of_lt (blk_lt (g := gb439) blk_now) : gb439 ≠ gb526))
        have n24_ := Aside0.mk ((by rw [hg]; exact Nat.ne_of_gt (blk_lt (g := gb439) blk_now) : gb526 ≠ gb439))
        have n25_ := Aside0.mk ((by rw [hg]; exact Nat.ne_of_lt (blk_lt (g := gb446) blk_now) : gb446 ≠ gb526))
        have n26_ := Aside0.mk ((by rw [hg]; exact Nat.ne_of_gt (blk_lt (g := gb446) blk_now) : gb526 ≠ gb446))
        have n27_ := Aside0.mk ((by rw [hg]; exact Nat.ne_of_lt (blk_lt (g := gb460) blk_now) : gb460 ≠ gb526))
        have n28_ := Aside0.mk ((by rw [hg]; exact Nat.ne_of_gt (blk_lt (g := gb460) blk_now) : gb526 ≠ gb460))
        have n29_ := Aside0.mk ((by rw [hg]; exact Nat.ne_of_lt (blk_lt (g := gb468) blk_now) : gb468 ≠ gb526))
        have n30_ := Aside0.mk ((by rw [hg]; exact Nat.ne_of_gt (blk_lt (g := gb468) blk_now) : gb526 ≠ gb468))
        replace HO_440003 := Aside0.mk (Kd.R_below (R_at HO_440003.out) hb)
        replace HO_447003 := Aside0.mk (Kd.R_below (R_at HO_447003.out) hb)
        replace HO_461007 := Aside0.mk (Kd.R_below (R_at HO_461007.out) hb)
        replace HO_461008 := Aside0.mk (Kd.R_below (R_at HO_461008.out) hb)
        replace HO_469003 := Aside0.mk (Kd.R_below (R_at HO_469003.out) hb)
        replace HO505 := Aside0.mk (Kd.R_below (R_at HO505.out) hb)
        replace HO515 := Aside0.mk (Kd.R_below (R_at HO515.out) hb)
        replace HO518 := Aside0.mk (Kd.R_below (R_at HO518.out) hb)
        replace HO524 := Aside0.mk (Kd.R_below (R_at HO524.out) hb)
        replace BK409 := blk_on gb409 hb
        replace BK410 := blk_on gb410 hb
        replace BK439 := blk_on gb439 hb
        replace BK446 := blk_on gb446 hb
        replace BK460 := blk_on gb460 hb
        replace BK468 := blk_on gb468 hb
        replace HB := bel_on w hb
        have BK526 := n16_
        have GW526 := n17_
        have GE526 := n18_
        have NB409_526 := n19_
        have NB526_409 := n20_
        have NB410_526 := n21_
        have NB526_410 := n22_
        have NB439_526 := n23_
        have NB526_439 := n24_
        have NB446_526 := n25_
        have NB526_446 := n26_
        have NB460_526 := n27_
        have NB526_460 := n28_
        have NB468_526 := n29_
        have NB526_468 := n30_
        clear n16_ n17_ n18_ n19_ n20_ n21_ n22_ n23_ n24_ n25_ n26_ n27_ n28_ n29_ n30_
        clear hb hbox hg
        refine hK.out _ _ ⟨bc BK409 0, bc BK409 1, bc BK409 2, bc BK409 3, bc BK410 0, bc BK410 1, bc BK410 2, bc BK410 3, bc BK410 4, bc BK410 5, bc BK410 6, bc BK410 7, bc BK410 8⟩ (fun hHeld => ?_)
        clear hK K
        refine normP 15 ?_
        exact norm_ (by simp only [putAll, Act.put, zA, zB, zC]) (hCont (.slice Ao183 t503.length co183, .slice Ao184 t513.length co184, .slice Ao185 t516.length co185, v523, gb526) _ ⟨hHeld, (R_at (Kd.R_mono HO505.out (fun _ hk => ⟨hk.1.1.2, ⟨hk.1.2, ⟨hk.2, ⟨hk.1.1.1.1.1.1.1.2, ⟨hk.1.1.1.1.1.1.2, ⟨hk.1.1.1.1.1.2, ⟨hk.1.1.1.1.2, hk.1.1.1.2⟩⟩⟩⟩⟩⟩⟩))), (R_at (Kd.R_mono HO515.out (fun _ hk => ⟨hk.1.2, ⟨hk.1.1.1.1.1.1.1, ⟨hk.2, ⟨hk.1.1.1.1.1.1.2, ⟨hk.1.1.1.1.1.2, ⟨hk.1.1.1.1.2, ⟨hk.1.1.1.2, hk.1.1.2⟩⟩⟩⟩⟩⟩⟩))), (R_at (Kd.R_mono HO518.out (fun _ hk => ⟨hk.1.2, ⟨hk.1.1.1.1.1.1.1, ⟨hk.2, ⟨hk.1.1.1.1.1.1.2, ⟨hk.1.1.1.1.1.2, ⟨hk.1.1.1.1.2, ⟨hk.1.1.1.2, hk.1.1.2⟩⟩⟩⟩⟩⟩⟩))), (R_at (Kd.R_mono HO524.out (fun _ hk => ⟨hk.1.1.2, ⟨hk.1.2, ⟨hk.2, ⟨hk.1.1.1.1.1.1.1.2, ⟨hk.1.1.1.1.1.1.2, ⟨hk.1.1.1.1.1.2, ⟨hk.1.1.1.1.2, hk.1.1.1.2⟩⟩⟩⟩⟩⟩⟩))), (R_at (Kd.R_mono HO_440003.out (fun _ hk => ⟨hk.1.1.1.2, ⟨hk.1.1.2, ⟨hk.1.2, ⟨hk.2, ⟨hk.1.1.1.1.1, ⟨hk.1.1.1.1.2.1, ⟨hk.1.1.1.1.2.2.1, hk.1.1.1.1.2.2.2⟩⟩⟩⟩⟩⟩⟩))), (R_at (Kd.R_mono HO_447003.out (fun _ hk => ⟨hk.1.1.1.2, ⟨hk.1.1.2, ⟨hk.1.2, ⟨hk.2, ⟨hk.1.1.1.1.1, ⟨hk.1.1.1.1.2.1, ⟨hk.1.1.1.1.2.2.1, hk.1.1.1.1.2.2.2⟩⟩⟩⟩⟩⟩⟩))), (R_at (Kd.R_mono HO_461007.out (fun _ hk => ⟨hk.1.1.1.2, ⟨hk.1.1.2, ⟨hk.1.2, ⟨hk.2, ⟨hk.1.1.1.1.1, ⟨hk.1.1.1.1.2.1, ⟨hk.1.1.1.1.2.2.1, hk.1.1.1.1.2.2.2⟩⟩⟩⟩⟩⟩⟩))), (R_at (Kd.R_mono HO_461008.out (fun _ hk => ⟨hk.1.1.1.2, ⟨hk.1.1.2, ⟨hk.1.2, ⟨hk.2, ⟨hk.1.1.1.1.1, ⟨hk.1.1.1.1.2.1, ⟨hk.1.1.1.1.2.2.1, hk.1.1.1.1.2.2.2⟩⟩⟩⟩⟩⟩⟩))), (R_at (Kd.R_mono HO_469003.out (fun _ hk => ⟨hk.1.1.1.2, ⟨hk.1.1.2, ⟨hk.1.2, ⟨hk.2, ⟨hk.1.1.1.1.1, ⟨hk.1.1.1.1.2.1, ⟨hk.1.1.1.1.2.2.1, hk.1.1.1.1.2.2.2⟩⟩⟩⟩⟩⟩⟩))), blk_now, blk_now, blk_now, blk_now, blk_now, blk_now, blk_now, GW526.out, GE526.out, NB409_526.out, NB526_409.out, NB410_526.out, NB526_410.out, NB439_526.out, NB526_439.out, NB446_526.out, NB526_446.out, NB460_526.out, NB526_460.out, NB468_526.out, NB526_468.out, bel_now⟩)
       skip
       refine box_step ?hg (N := 15) ?hd (cs := #[.int .i64 0, .int .i64 0, .int .i64 0, .slice none 0 0]) (t := 33) ?hr ?_; (case hd => rfl); (case hg => rfl); (case hr => first | (go_simp; done) | (go_simp; rfl))
       intro gb526 hg w183 hbox hb
       have n15_ := Aside0.mk (hbox)
       have n16_ := Aside0.mk ((by rw [hg]; exact (below_size bel_now) : w.heap.size ≤ gb526))
       have n17_ := Aside0.mk ((by rw [hg]; exact (below_size bel_now) : w.heap.size ≤ gb526))
       have n18_ := Aside0.mk ((by rw [hg]; exact Nat.ne_of_lt (blk_lt (g := gb409) blk_now) : gb409 ≠ gb526))
       have n19_ := Aside0.mk ((by rw [hg]; exact Nat.ne_of_gt (blk_lt (g := gb409) blk_now) : gb526 ≠ gb409))
       have n20_ := Aside0.mk ((by rw [hg]; exact Nat.ne_of_lt (blk_lt (g := gb410) blk_now) : gb410 ≠ gb526))
       have n21_ := Aside0.mk ((by rw [hg]; exact Nat.ne_of_gt (blk_lt (g := gb410) blk_now) : gb526 ≠ gb410))
       have n22_ := Aside0.mk ((by rw [hg]; exact Nat.ne_of_lt (blk_lt (g := gb439) blk_now) : gb439 ≠ gb526))
       have n23_ := Aside0.mk ((by rw [hg]; exact Nat.ne_of_gt (blk_lt (g := gb439) blk_now) : gb526 ≠ gb439))
       have n24_ := Aside0.mk ((by rw [hg]; exact Nat.ne_of_lt (blk_lt (g := gb446) blk_now) : gb446 ≠ gb526))
       have n25_ := Aside0.mk ((by rw [hg]; exact Nat.ne_of_gt (blk_lt (g := gb446) blk_now) : gb526 ≠ gb446))
       have n26_ := Aside0.mk ((by rw [hg]; exact Nat.ne_of_lt (blk_lt (g := gb460) blk_now) : gb460 ≠ gb526))
       have n27_ := Aside0.mk ((by rw [hg]; exact Nat.ne_of_gt (blk_lt (g := gb460) blk_now) : gb526 ≠ gb460))
       have n28_ := Aside0.mk ((by rw [hg]; exact Nat.ne_of_lt (blk_lt (g := gb468) blk_now) : gb468 ≠ gb526))
       have n29_ := Aside0.mk ((by rw [hg]; exact Nat.ne_of_gt (blk_lt (g := gb468) blk_now) : gb526 ≠ gb468))
       replace HO_440003 := Aside0.mk (Kd.R_below (R_at HO_440003.out) hb)
       replace HO_447003 := Aside0.mk (Kd.R_below (R_at HO_447003.out) hb)
       replace HO_461007 := Aside0.mk (Kd.R_below (R_at HO_461007.out) hb)
       replace HO_461008 := Aside0.mk (Kd.R_below (R_at HO_461008.out) hb)
       replace HO_469003 := Aside0.mk (Kd.R_below (R_at HO_469003.out) hb)
       replace HO505 := Aside0.mk (Kd.R_below (R_at HO505.out) hb)
       replace HO515 := Aside0.mk (Kd.R_below (R_at HO515.out) hb)
       replace HO518 := Aside0.mk (Kd.R_below (R_at HO518.out) hb)
       replace BK409 := blk_on gb409 hb
       replace BK410 := blk_on gb410 hb
       replace BK439 := blk_on gb439 hb
       replace BK446 := blk_on gb446 hb
       replace BK460 := blk_on gb460 hb
       replace BK468 := blk_on gb468 hb
       replace HB := bel_on w hb
       have BK526 := n15_
       have GW526 := n16_
       have GE526 := n17_
       have NB409_526 := n18_
       have NB526_409 := n19_
       have NB410_526 := n20_
       have NB526_410 := n21_
       have NB439_526 := n22_
       have NB526_439 := n23_
       have NB446_526 := n24_
       have NB526_446 := n25_
       have NB460_526 := n26_
       have NB526_460 := n27_
       have NB468_526 := n28_
       have NB526_468 := n29_
       clear n15_ n16_ n17_ n18_ n19_ n20_ n21_ n22_ n23_ n24_ n25_ n26_ n27_ n28_ n29_
       clear hb hbox hg
       obtain ⟨Ao184, co184, eo184⟩ := Kd.R_slice HO505.out
       (first | subst eo184 | (injection eo184 with f1_ f2_ f3_; have f4_ := f1_.symm; have f5_ := f3_.symm; clear f1_ f2_ f3_; subst f4_; subst f5_))
       obtain ⟨Ao185, co185, eo185⟩ := Kd.R_slice HO515.out
       (first | subst eo185 | (injection eo185 with f1_ f2_ f3_; have f4_ := f1_.symm; have f5_ := f3_.symm; clear f1_ f2_ f3_; subst f4_; subst f5_))
       obtain ⟨Ao186, co186, eo186⟩ := Kd.R_slice HO518.out
       (first | subst eo186 | (injection eo186 with f1_ f2_ f3_; have f4_ := f1_.symm; have f5_ := f3_.symm; clear f1_ f2_ f3_; subst f4_; subst f5_))
       refine hK.out _ _ ⟨bc BK409 0, bc BK409 1, bc BK409 2, bc BK409 3, bc BK410 0, bc BK410 1, bc BK410 2, bc BK410 3, bc BK410 4, bc BK410 5, bc BK410 6, bc BK410 7, bc BK410 8⟩ (fun hHeld => ?_)
       clear hK K
       refine normP 15 ?_
       refine one_ (i := 4) (N := some 99) #[I, I, I, I, I, O, O, O, I, O, O] rfl rfl (one_of HT_.out (by kernel_rfl)) (by decide) (fun K hK => ?_)
       refine goes_ Try.func13 (by kernel_rfl) rfl #[.agg #[.int .i64 t500, .int .i64 t501, .int .i64 t502, .slice Ao184 t503.length co184], .agg #[.int .i64 t506, .int .i64 t507, .int .i64 t508, .int .i64 t509, .int .i64 t510, .int .i64 t511, .int .i64 t512, .slice Ao185 t513.length co185, .slice Ao186 t516.length co186]] (by rfl) rfl rfl (by (try simp only [List.map_toArray, List.map_cons, List.map_nil]); first | done | rfl | (simp only [List.length_drop, List.length_take]; rfl)) ?_
       with_reducible refine (impl_RunLayer.calls kj111 t500 t501 t502 _ _ t503 t506 t507 t508 t509 t510 t511 t512 _ _ t513 _ _ t516 t519 t520 t521 t522 t525 _ ?side1 ?side2 ?side3 ?side4 ?side5 ?side6 A169.out).mono ?_
       (case side1 => exact (Kd.R_reads' (R_at HO505.out)).2.2)
       (case side2 => exact (Kd.R_reads' HO505.out).2.1)
       (case side3 => exact (Kd.R_reads' (R_at HO515.out)).2.2)
       (case side4 => exact (Kd.R_reads' HO515.out).2.1)
       (case side5 => exact (Kd.R_reads' (R_at HO518.out)).2.2)
       (case side6 => exact (Kd.R_reads' HO518.out).2.1)
       rintro e w187 ⟨v523, rfl, ho0, hb⟩
       refine ⟨_, rfl, ?_⟩
       have n8_ := Aside0.mk (Kd.R_lower (Kd.R_new' (Kd.R_new' (Kd.R_new' (Kd.R_new' (Kd.R_new' (Kd.R_new' (Kd.R_new' (Kd.R_new' ho0 (Kd.R_lt (R_at HO_440003.out))) (Kd.R_lt (R_at HO_447003.out))) (Kd.R_lt (R_at HO_461007.out))) (Kd.R_lt (R_at HO_461008.out))) (Kd.R_lt (R_at HO_469003.out))) (Kd.R_lt (R_at HO505.out))) (Kd.R_lt (R_at HO515.out))) (Kd.R_lt (R_at HO518.out))) (below_size bel_now))
       replace HO_440003 := Aside0.mk (Kd.R_elder' (R_at HO_440003.out) (Kd.R_base ho0) hb)
       replace HO_447003 := Aside0.mk (Kd.R_elder' (R_at HO_447003.out) (Kd.R_base ho0) hb)
       replace HO_461007 := Aside0.mk (Kd.R_elder' (R_at HO_461007.out) (Kd.R_base ho0) hb)
       replace HO_461008 := Aside0.mk (Kd.R_elder' (R_at HO_461008.out) (Kd.R_base ho0) hb)
       replace HO_469003 := Aside0.mk (Kd.R_elder' (R_at HO_469003.out) (Kd.R_base ho0) hb)
       replace HO505 := Aside0.mk (Kd.R_elder' (R_at HO505.out) (Kd.R_base ho0) hb)
       replace HO515 := Aside0.mk (Kd.R_elder' (R_at HO515.out) (Kd.R_base ho0) hb)
       replace HO518 := Aside0.mk (Kd.R_elder' (R_at HO518.out) (Kd.R_base ho0) hb)
       replace BK409 := blk_on gb409 hb
       replace BK410 := blk_on gb410 hb
       replace BK439 := blk_on gb439 hb
       replace BK446 := blk_on gb446 hb
       replace BK460 := blk_on gb460 hb
       replace BK468 := blk_on gb468 hb
       replace BK526 := blk_on gb526 hb
       replace HB := bel_on w hb
       have HO524 := n8_
       clear n8_
       (try clear hb)
       (try clear ho0)
       refine hK.out _ _ ⟨bc BK409 0, bc BK409 1, bc BK409 2, bc BK409 3, bc BK410 0, bc BK410 1, bc BK410 2, bc BK410 3, bc BK410 4, bc BK410 5, bc BK410 6, bc BK410 7, bc BK410 8⟩ (fun hHeld => ?_)
       clear hK K
       refine normP 99 ?_
       refine stepP 5 (some 94) (tk 11 319) (any_of HT_.out (by kernel_rfl)) ?_
       refine stepP 6 (some 100) (tk 11 383) (any_of HT_.out (by kernel_rfl)) ?_
       refine stepP 7 (some 101) (tk 11 511) (any_of HT_.out (by kernel_rfl)) ?_
       exact norm_ (by simp only [putAll, Act.put, zA, zB, zC]) (hCont (.slice Ao184 t503.length co184, .slice Ao185 t513.length co185, .slice Ao186 t516.length co186, v523, gb526) _ ⟨hHeld, (R_at (Kd.R_mono HO505.out (fun _ hk => ⟨hk.1.1.2, ⟨hk.1.2, ⟨hk.2, ⟨hk.1.1.1.1.1.1.1.2, ⟨hk.1.1.1.1.1.1.2, ⟨hk.1.1.1.1.1.2, ⟨hk.1.1.1.1.2, hk.1.1.1.2⟩⟩⟩⟩⟩⟩⟩))), (R_at (Kd.R_mono HO515.out (fun _ hk => ⟨hk.1.2, ⟨hk.1.1.1.1.1.1.1, ⟨hk.2, ⟨hk.1.1.1.1.1.1.2, ⟨hk.1.1.1.1.1.2, ⟨hk.1.1.1.1.2, ⟨hk.1.1.1.2, hk.1.1.2⟩⟩⟩⟩⟩⟩⟩))), (R_at (Kd.R_mono HO518.out (fun _ hk => ⟨hk.1.2, ⟨hk.1.1.1.1.1.1.1, ⟨hk.2, ⟨hk.1.1.1.1.1.1.2, ⟨hk.1.1.1.1.1.2, ⟨hk.1.1.1.1.2, ⟨hk.1.1.1.2, hk.1.1.2⟩⟩⟩⟩⟩⟩⟩))), (R_at (Kd.R_mono HO524.out (fun _ hk => ⟨hk.1.1.2, ⟨hk.1.2, ⟨hk.2, ⟨hk.1.1.1.1.1.1.1.2, ⟨hk.1.1.1.1.1.1.2, ⟨hk.1.1.1.1.1.2, ⟨hk.1.1.1.1.2, hk.1.1.1.2⟩⟩⟩⟩⟩⟩⟩))), (R_at (Kd.R_mono HO_440003.out (fun _ hk => ⟨hk.1.1.1.2, ⟨hk.1.1.2, ⟨hk.1.2, ⟨hk.2, ⟨hk.1.1.1.1.1, ⟨hk.1.1.1.1.2.1, ⟨hk.1.1.1.1.2.2.1, hk.1.1.1.1.2.2.2⟩⟩⟩⟩⟩⟩⟩))), (R_at (Kd.R_mono HO_447003.out (fun _ hk => ⟨hk.1.1.1.2, ⟨hk.1.1.2, ⟨hk.1.2, ⟨hk.2, ⟨hk.1.1.1.1.1, ⟨hk.1.1.1.1.2.1, ⟨hk.1.1.1.1.2.2.1, hk.1.1.1.1.2.2.2⟩⟩⟩⟩⟩⟩⟩))), (R_at (Kd.R_mono HO_461007.out (fun _ hk => ⟨hk.1.1.1.2, ⟨hk.1.1.2, ⟨hk.1.2, ⟨hk.2, ⟨hk.1.1.1.1.1, ⟨hk.1.1.1.1.2.1, ⟨hk.1.1.1.1.2.2.1, hk.1.1.1.1.2.2.2⟩⟩⟩⟩⟩⟩⟩))), (R_at (Kd.R_mono HO_461008.out (fun _ hk => ⟨hk.1.1.1.2, ⟨hk.1.1.2, ⟨hk.1.2, ⟨hk.2, ⟨hk.1.1.1.1.1, ⟨hk.1.1.1.1.2.1, ⟨hk.1.1.1.1.2.2.1, hk.1.1.1.1.2.2.2⟩⟩⟩⟩⟩⟩⟩))), (R_at (Kd.R_mono HO_469003.out (fun _ hk => ⟨hk.1.1.1.2, ⟨hk.1.1.2, ⟨hk.1.2, ⟨hk.2, ⟨hk.1.1.1.1.1, ⟨hk.1.1.1.1.2.1, ⟨hk.1.1.1.1.2.2.1, hk.1.1.1.1.2.2.2⟩⟩⟩⟩⟩⟩⟩))), blk_now, blk_now, blk_now, blk_now, blk_now, blk_now, blk_now, GW526.out, GE526.out, NB409_526.out, NB526_409.out, NB410_526.out, NB526_410.out, NB439_526.out, NB526_439.out, NB446_526.out, NB526_446.out, NB460_526.out, NB526_460.out, NB468_526.out, NB526_468.out, bel_now⟩)
      rintro ⟨v504, v514, v517, v523, gb526⟩ w188 ⟨hS_, h0_, h1_, h2_, h3_, h4_, h5_, h6_, h7_, h8_, h9_, h10_, h11_, h12_, h13_, h14_, h15_, h16_, h17_, h18_, h19_, h20_, h21_, h22_, h23_, h24_, h25_, h26_, h27_, h28_, h29_, h30_⟩
      have n0_ : Aside0 (Kd.R (Kd.int .i64) 3 w188 w.heap.size (fun k_ => some k_ ≠ (v514 : Value).ownBlock ∧ some k_ ≠ (v517 : Value).ownBlock ∧ some k_ ≠ (v523 : Value).ownBlock ∧ nb k_ Ao45 t435.length co45 ∧ nb k_ Ao55 t492.length co55 ∧ nb k_ Ao65 t494.length co65 ∧ nb k_ Ao66 t495.length co66 ∧ nb k_ Ao76 t464.length co76) v504 t503) := ⟨h0_⟩
      have n1_ : Aside0 (Kd.R (Kd.int .i64) 3 w188 w.heap.size (fun k_ => some k_ ≠ (v504 : Value).ownBlock ∧ some k_ ≠ (v517 : Value).ownBlock ∧ some k_ ≠ (v523 : Value).ownBlock ∧ nb k_ Ao45 t435.length co45 ∧ nb k_ Ao55 t492.length co55 ∧ nb k_ Ao65 t494.length co65 ∧ nb k_ Ao66 t495.length co66 ∧ nb k_ Ao76 t464.length co76) v514 t513) := ⟨h1_⟩
      have n2_ : Aside0 (Kd.R (Kd.int .i64) 3 w188 w.heap.size (fun k_ => some k_ ≠ (v504 : Value).ownBlock ∧ some k_ ≠ (v514 : Value).ownBlock ∧ some k_ ≠ (v523 : Value).ownBlock ∧ nb k_ Ao45 t435.length co45 ∧ nb k_ Ao55 t492.length co55 ∧ nb k_ Ao65 t494.length co65 ∧ nb k_ Ao66 t495.length co66 ∧ nb k_ Ao76 t464.length co76) v517 t516) := ⟨h2_⟩
      have n3_ : Aside0 (Kd.R (Kd.int .i64) 3 w188 w.heap.size (fun k_ => some k_ ≠ (v504 : Value).ownBlock ∧ some k_ ≠ (v514 : Value).ownBlock ∧ some k_ ≠ (v517 : Value).ownBlock ∧ nb k_ Ao45 t435.length co45 ∧ nb k_ Ao55 t492.length co55 ∧ nb k_ Ao65 t494.length co65 ∧ nb k_ Ao66 t495.length co66 ∧ nb k_ Ao76 t464.length co76) v523 t522) := ⟨h3_⟩
      have n4_ : Aside0 (Kd.R (Kd.int .i64) 3 w188 w.heap.size (fun k_ => some k_ ≠ (v504 : Value).ownBlock ∧ some k_ ≠ (v514 : Value).ownBlock ∧ some k_ ≠ (v517 : Value).ownBlock ∧ some k_ ≠ (v523 : Value).ownBlock ∧ nb k_ Ao55 t492.length co55 ∧ nb k_ Ao65 t494.length co65 ∧ nb k_ Ao66 t495.length co66 ∧ nb k_ Ao76 t464.length co76) (.slice Ao45 t435.length co45) t435) := ⟨h4_⟩
      have n5_ : Aside0 (Kd.R (Kd.int .i64) 3 w188 w.heap.size (fun k_ => some k_ ≠ (v504 : Value).ownBlock ∧ some k_ ≠ (v514 : Value).ownBlock ∧ some k_ ≠ (v517 : Value).ownBlock ∧ some k_ ≠ (v523 : Value).ownBlock ∧ nb k_ Ao45 t435.length co45 ∧ nb k_ Ao65 t494.length co65 ∧ nb k_ Ao66 t495.length co66 ∧ nb k_ Ao76 t464.length co76) (.slice Ao55 t492.length co55) t492) := ⟨h5_⟩
      have n6_ : Aside0 (Kd.R (Kd.int .i64) 3 w188 w.heap.size (fun k_ => some k_ ≠ (v504 : Value).ownBlock ∧ some k_ ≠ (v514 : Value).ownBlock ∧ some k_ ≠ (v517 : Value).ownBlock ∧ some k_ ≠ (v523 : Value).ownBlock ∧ nb k_ Ao45 t435.length co45 ∧ nb k_ Ao55 t492.length co55 ∧ nb k_ Ao66 t495.length co66 ∧ nb k_ Ao76 t464.length co76) (.slice Ao65 t494.length co65) t494) := ⟨h6_⟩
      have n7_ : Aside0 (Kd.R (Kd.int .i64) 3 w188 w.heap.size (fun k_ => some k_ ≠ (v504 : Value).ownBlock ∧ some k_ ≠ (v514 : Value).ownBlock ∧ some k_ ≠ (v517 : Value).ownBlock ∧ some k_ ≠ (v523 : Value).ownBlock ∧ nb k_ Ao45 t435.length co45 ∧ nb k_ Ao55 t492.length co55 ∧ nb k_ Ao65 t494.length co65 ∧ nb k_ Ao76 t464.length co76) (.slice Ao66 t495.length co66) t495) := ⟨h7_⟩
      have n8_ : Aside0 (Kd.R (Kd.int .i64) 3 w188 w.heap.size (fun k_ => some k_ ≠ (v504 : Value).ownBlock ∧ some k_ ≠ (v514 : Value).ownBlock ∧ some k_ ≠ (v517 : Value).ownBlock ∧ some k_ ≠ (v523 : Value).ownBlock ∧ nb k_ Ao45 t435.length co45 ∧ nb k_ Ao55 t492.length co55 ∧ nb k_ Ao65 t494.length co65 ∧ nb k_ Ao66 t495.length co66) (.slice Ao76 t464.length co76) t498) := ⟨h8_⟩
      have n9_ : Aside0 (w188.heap[gb409]? = some (.cells #[.int .i64 a0_0, .int .i64 a0_1, .int .i64 a0_2, .slice A0_3 l0_3.length c0_3] 26 (0, 0))) := ⟨h9_⟩
      have n10_ : Aside0 (w188.heap[gb410]? = some (.cells #[.int .i64 a1_0, .int .i64 a1_1, .int .i64 a1_2, .int .i64 a1_3, .int .i64 a1_4, .int .i64 a1_5, .int .i64 a1_6, .slice A1_7 l1_7.length c1_7, .slice A1_8 l1_8.length c1_8] 28 (0, 0))) := ⟨h10_⟩
      have n11_ : Aside0 (w188.heap[gb439]? = some (.cells #[.int .i64 t432, .int .i64 t433, .int .i64 t434, .slice Ao45 t435.length co45] 33 (0, 0))) := ⟨h11_⟩
      have n12_ : Aside0 (w188.heap[gb446]? = some (.cells #[.int .i64 t440, .int .i64 t441, .int .i64 t442, .slice Ao55 t492.length co55] 33 (0, 0))) := ⟨h12_⟩
      have n13_ : Aside0 (w188.heap[gb460]? = some (.cells #[.int .i64 t447, .int .i64 t448, .int .i64 t449, .int .i64 t450, .int .i64 t451, .int .i64 t452, .int .i64 t453, .slice Ao65 t494.length co65, .slice Ao66 t495.length co66] 37 (0, 0))) := ⟨h13_⟩
      have n14_ : Aside0 (w188.heap[gb468]? = some (.cells #[.int .i64 t461, .int .i64 t462, .int .i64 t463, .slice Ao76 t464.length co76] 33 (0, 0))) := ⟨h14_⟩
      have n15_ : Aside0 (w188.heap[gb526]? = some (.cells #[.int .i64 0, .int .i64 0, .int .i64 0, .slice none 0 0] 33 (0, 0))) := ⟨h15_⟩
      have n16_ : Aside0 (w.heap.size ≤ gb526) := ⟨h16_⟩
      have n17_ : Aside0 (w.heap.size ≤ gb526) := ⟨h17_⟩
      have n18_ : Aside0 (gb409 ≠ gb526) := ⟨h18_⟩
      have n19_ : Aside0 (gb526 ≠ gb409) := ⟨h19_⟩
      have n20_ : Aside0 (gb410 ≠ gb526) := ⟨h20_⟩
      have n21_ : Aside0 (gb526 ≠ gb410) := ⟨h21_⟩
      have n22_ : Aside0 (gb439 ≠ gb526) := ⟨h22_⟩
      have n23_ : Aside0 (gb526 ≠ gb439) := ⟨h23_⟩
      have n24_ : Aside0 (gb446 ≠ gb526) := ⟨h24_⟩
      have n25_ : Aside0 (gb526 ≠ gb446) := ⟨h25_⟩
      have n26_ : Aside0 (gb460 ≠ gb526) := ⟨h26_⟩
      have n27_ : Aside0 (gb526 ≠ gb460) := ⟨h27_⟩
      have n28_ : Aside0 (gb468 ≠ gb526) := ⟨h28_⟩
      have n29_ : Aside0 (gb526 ≠ gb468) := ⟨h29_⟩
      have n30_ : Aside0 (Below w.heap.size w w188) := ⟨h30_⟩
      clear HO_440003
      clear HO_447003
      clear HO_461007
      clear HO_461008
      clear HO_469003
      clear BK409
      clear BK410
      clear BK439
      clear BK446
      clear BK460
      clear BK468
      clear HB
      clear h0_ h1_ h2_ h3_ h4_ h5_ h6_ h7_ h8_ h9_ h10_ h11_ h12_ h13_ h14_ h15_ h16_ h17_ h18_ h19_ h20_ h21_ h22_ h23_ h24_ h25_ h26_ h27_ h28_ h29_ h30_
      have HO505 := n0_
      have HO515 := n1_
      have HO518 := n2_
      have HO524 := n3_
      have HO_440003 := n4_
      have HO_447003 := n5_
      have HO_461007 := n6_
      have HO_461008 := n7_
      have HO_469003 := n8_
      have BK409 := n9_
      have BK410 := n10_
      have BK439 := n11_
      have BK446 := n12_
      have BK460 := n13_
      have BK468 := n14_
      have BK526 := n15_
      have GW526 := n16_
      have GE526 := n17_
      have NB409_526 := n18_
      have NB526_409 := n19_
      have NB410_526 := n20_
      have NB526_410 := n21_
      have NB439_526 := n22_
      have NB526_439 := n23_
      have NB446_526 := n24_
      have NB526_446 := n25_
      have NB460_526 := n26_
      have NB526_460 := n27_
      have NB468_526 := n28_
      have NB526_468 := n29_
      have HB := n30_
      clear n0_ n1_ n2_ n3_ n4_ n5_ n6_ n7_ n8_ n9_ n10_ n11_ n12_ n13_ n14_ n15_ n16_ n17_ n18_ n19_ n20_ n21_ n22_ n23_ n24_ n25_ n26_ n27_ n28_ n29_ n30_
      have hHeld : w188.cell? ⟨gb409, 0, none⟩ = some (.int .i64 a0_0) ∧ w188.cell? ⟨gb409, 1, none⟩ = some (.int .i64 a0_1) ∧ w188.cell? ⟨gb409, 2, none⟩ = some (.int .i64 a0_2) ∧ w188.cell? ⟨gb409, 3, none⟩ = some (.slice A0_3 l0_3.length c0_3) ∧ w188.cell? ⟨gb410, 0, none⟩ = some (.int .i64 a1_0) ∧ w188.cell? ⟨gb410, 1, none⟩ = some (.int .i64 a1_1) ∧ w188.cell? ⟨gb410, 2, none⟩ = some (.int .i64 a1_2) ∧ w188.cell? ⟨gb410, 3, none⟩ = some (.int .i64 a1_3) ∧ w188.cell? ⟨gb410, 4, none⟩ = some (.int .i64 a1_4) ∧ w188.cell? ⟨gb410, 5, none⟩ = some (.int .i64 a1_5) ∧ w188.cell? ⟨gb410, 6, none⟩ = some (.int .i64 a1_6) ∧ w188.cell? ⟨gb410, 7, none⟩ = some (.slice A1_7 l1_7.length c1_7) ∧ w188.cell? ⟨gb410, 8, none⟩ = some (.slice A1_8 l1_8.length c1_8) := hS_
      obtain ⟨Ao192, co192, eo192⟩ := Kd.R_slice HO524.out
      (first | subst eo192 | (injection eo192 with f1_ f2_ f3_; have f4_ := f1_.symm; have f5_ := f3_.symm; clear f1_ f2_ f3_; subst f4_; subst f5_))
      refine norm_ (a' := ?_) ?_ ?_
      rotate_left
      ·simp only [putAll, Act.put, zA, zB, zC]
       rfl
      refine one_ (i := 9) (N := none) #[I, I, I, I, I, I, I, I, I, I, O] rfl rfl (one_of HT_.out (by kernel_rfl)) (by decide) (fun K hK => ?_)
      have hs189 : w188.cell? ⟨gb526, 0, none⟩ = some (.int .i64 0) := (blk_cell BK526.out 0).trans rfl
      have hfs189 := blk_frozen BK526.out 0
      have hns189_0 := NB409_526.out
      have hns189_1 := NB410_526.out
      have hns189_2 := NB439_526.out
      have hns189_3 := NB446_526.out
      have hns189_4 := NB460_526.out
      have hns189_5 := NB468_526.out
      have hms189_0 := NB526_409.out
      have hms189_1 := NB526_410.out
      have hms189_2 := NB526_439.out
      have hms189_3 := NB526_446.out
      have hms189_4 := NB526_460.out
      have hms189_5 := NB526_468.out
      have hs190 : w188.cell? ⟨gb526, 1, none⟩ = some (.int .i64 0) := (blk_cell BK526.out 1).trans rfl
      have hfs190 := blk_frozen BK526.out 1
      have hns190_0 := NB409_526.out
      have hns190_1 := NB410_526.out
      have hns190_2 := NB439_526.out
      have hns190_3 := NB446_526.out
      have hns190_4 := NB460_526.out
      have hns190_5 := NB468_526.out
      have hms190_0 := NB526_409.out
      have hms190_1 := NB526_410.out
      have hms190_2 := NB526_439.out
      have hms190_3 := NB526_446.out
      have hms190_4 := NB526_460.out
      have hms190_5 := NB526_468.out
      have hs191 : w188.cell? ⟨gb526, 2, none⟩ = some (.int .i64 0) := (blk_cell BK526.out 2).trans rfl
      have hfs191 := blk_frozen BK526.out 2
      have hns191_0 := NB409_526.out
      have hns191_1 := NB410_526.out
      have hns191_2 := NB439_526.out
      have hns191_3 := NB446_526.out
      have hns191_4 := NB460_526.out
      have hns191_5 := NB468_526.out
      have hms191_0 := NB526_409.out
      have hms191_1 := NB526_410.out
      have hms191_2 := NB526_439.out
      have hms191_3 := NB526_446.out
      have hms191_4 := NB526_460.out
      have hms191_5 := NB526_468.out
      have hs193 : w188.cell? ⟨gb526, 3, none⟩ = some (.slice none 0 0) := (blk_cell BK526.out 3).trans rfl
      have hfs193 := blk_frozen BK526.out 3
      have hns193_0 := NB409_526.out
      have hns193_1 := NB410_526.out
      have hns193_2 := NB439_526.out
      have hns193_3 := NB446_526.out
      have hns193_4 := NB460_526.out
      have hns193_5 := NB468_526.out
      have hms193_0 := NB526_409.out
      have hms193_1 := NB526_410.out
      have hms193_2 := NB526_439.out
      have hms193_3 := NB526_446.out
      have hms193_4 := NB526_460.out
      have hms193_5 := NB526_468.out
      refine skip_ (w1 := ?_) (by rfl) rfl ?_ ?_
      rotate_left
      ·go_simp
       rfl
      refine hK.out _ _ ⟨((cell_far (p := ⟨gb526, _, none⟩) NB409_526.out _).trans (((cell_far (p := ⟨gb526, _, none⟩) NB409_526.out _).trans (((cell_far (p := ⟨gb526, _, none⟩) NB409_526.out _).trans (((cell_far (p := ⟨gb526, _, none⟩) NB409_526.out _).trans (hHeld.1)))))))), ((cell_far (p := ⟨gb526, _, none⟩) NB409_526.out _).trans (((cell_far (p := ⟨gb526, _, none⟩) NB409_526.out _).trans (((cell_far (p := ⟨gb526, _, none⟩) NB409_526.out _).trans (((cell_far (p := ⟨gb526, _, none⟩) NB409_526.out _).trans (hHeld.2.1)))))))), ((cell_far (p := ⟨gb526, _, none⟩) NB409_526.out _).trans (((cell_far (p := ⟨gb526, _, none⟩) NB409_526.out _).trans (((cell_far (p := ⟨gb526, _, none⟩) NB409_526.out _).trans (((cell_far (p := ⟨gb526, _, none⟩) NB409_526.out _).trans (hHeld.2.2.1)))))))), ((cell_far (p := ⟨gb526, _, none⟩) NB409_526.out _).trans (((cell_far (p := ⟨gb526, _, none⟩) NB409_526.out _).trans (((cell_far (p := ⟨gb526, _, none⟩) NB409_526.out _).trans (((cell_far (p := ⟨gb526, _, none⟩) NB409_526.out _).trans (hHeld.2.2.2.1)))))))), ((cell_far (p := ⟨gb526, _, none⟩) NB410_526.out _).trans (((cell_far (p := ⟨gb526, _, none⟩) NB410_526.out _).trans (((cell_far (p := ⟨gb526, _, none⟩) NB410_526.out _).trans (((cell_far (p := ⟨gb526, _, none⟩) NB410_526.out _).trans (hHeld.2.2.2.2.1)))))))), ((cell_far (p := ⟨gb526, _, none⟩) NB410_526.out _).trans (((cell_far (p := ⟨gb526, _, none⟩) NB410_526.out _).trans (((cell_far (p := ⟨gb526, _, none⟩) NB410_526.out _).trans (((cell_far (p := ⟨gb526, _, none⟩) NB410_526.out _).trans (hHeld.2.2.2.2.2.1)))))))), ((cell_far (p := ⟨gb526, _, none⟩) NB410_526.out _).trans (((cell_far (p := ⟨gb526, _, none⟩) NB410_526.out _).trans (((cell_far (p := ⟨gb526, _, none⟩) NB410_526.out _).trans (((cell_far (p := ⟨gb526, _, none⟩) NB410_526.out _).trans (hHeld.2.2.2.2.2.2.1)))))))), ((cell_far (p := ⟨gb526, _, none⟩) NB410_526.out _).trans (((cell_far (p := ⟨gb526, _, none⟩) NB410_526.out _).trans (((cell_far (p := ⟨gb526, _, none⟩) NB410_526.out _).trans (((cell_far (p := ⟨gb526, _, none⟩) NB410_526.out _).trans (hHeld.2.2.2.2.2.2.2.1)))))))), ((cell_far (p := ⟨gb526, _, none⟩) NB410_526.out _).trans (((cell_far (p := ⟨gb526, _, none⟩) NB410_526.out _).trans (((cell_far (p := ⟨gb526, _, none⟩) NB410_526.out _).trans (((cell_far (p := ⟨gb526, _, none⟩) NB410_526.out _).trans (hHeld.2.2.2.2.2.2.2.2.1)))))))), ((cell_far (p := ⟨gb526, _, none⟩) NB410_526.out _).trans (((cell_far (p := ⟨gb526, _, none⟩) NB410_526.out _).trans (((cell_far (p := ⟨gb526, _, none⟩) NB410_526.out _).trans (((cell_far (p := ⟨gb526, _, none⟩) NB410_526.out _).trans (hHeld.2.2.2.2.2.2.2.2.2.1)))))))), ((cell_far (p := ⟨gb526, _, none⟩) NB410_526.out _).trans (((cell_far (p := ⟨gb526, _, none⟩) NB410_526.out _).trans (((cell_far (p := ⟨gb526, _, none⟩) NB410_526.out _).trans (((cell_far (p := ⟨gb526, _, none⟩) NB410_526.out _).trans (hHeld.2.2.2.2.2.2.2.2.2.2.1)))))))), ((cell_far (p := ⟨gb526, _, none⟩) NB410_526.out _).trans (((cell_far (p := ⟨gb526, _, none⟩) NB410_526.out _).trans (((cell_far (p := ⟨gb526, _, none⟩) NB410_526.out _).trans (((cell_far (p := ⟨gb526, _, none⟩) NB410_526.out _).trans (hHeld.2.2.2.2.2.2.2.2.2.2.2.1)))))))), ((cell_far (p := ⟨gb526, _, none⟩) NB410_526.out _).trans (((cell_far (p := ⟨gb526, _, none⟩) NB410_526.out _).trans (((cell_far (p := ⟨gb526, _, none⟩) NB410_526.out _).trans (((cell_far (p := ⟨gb526, _, none⟩) NB410_526.out _).trans (hHeld.2.2.2.2.2.2.2.2.2.2.2.2))))))))⟩ (fun hHeld => ?_)
      clear hK K
      refine stepP 10 (some 16) (tk 11 2047) (any_of HT_.out (by kernel_rfl)) ?_
      refine done_ (done_of HT_.out (by kernel_rfl)) ?_
      go_upto_region 32 with (fail)
      go_cut [110] (fun v110 wc => ∃ (kq : Nat) (x110_169 : Bool), v110 = .bool x110_169 ∧ Aside0 (laws_FnExactRunLayer.j2 kq t497 x110_169 t461 t462 t463 t498 = some true) ∧ Aside0 (kq ≤ kj111) ∧ Aside0 (Kd.R (Kd.int .i64) 3 wc w.heap.size (fun k_ => some k_ ≠ ((.slice Ao55 t492.length co55) : Value).ownBlock ∧ some k_ ≠ ((.slice Ao65 t494.length co65) : Value).ownBlock ∧ some k_ ≠ ((.slice Ao66 t495.length co66) : Value).ownBlock ∧ some k_ ≠ ((.slice Ao76 t464.length co76) : Value).ownBlock ∧ some k_ ≠ ((.slice Ao192 t522.length co192) : Value).ownBlock) (.slice Ao45 t435.length co45) t435) ∧ Aside0 (Kd.R (Kd.int .i64) 3 wc w.heap.size (fun k_ => some k_ ≠ ((.slice Ao45 t435.length co45) : Value).ownBlock ∧ some k_ ≠ ((.slice Ao65 t494.length co65) : Value).ownBlock ∧ some k_ ≠ ((.slice Ao66 t495.length co66) : Value).ownBlock ∧ some k_ ≠ ((.slice Ao76 t464.length co76) : Value).ownBlock ∧ some k_ ≠ ((.slice Ao192 t522.length co192) : Value).ownBlock) (.slice Ao55 t492.length co55) t492) ∧ Aside0 (Kd.R (Kd.int .i64) 3 wc w.heap.size (fun k_ => some k_ ≠ ((.slice Ao45 t435.length co45) : Value).ownBlock ∧ some k_ ≠ ((.slice Ao55 t492.length co55) : Value).ownBlock ∧ some k_ ≠ ((.slice Ao66 t495.length co66) : Value).ownBlock ∧ some k_ ≠ ((.slice Ao76 t464.length co76) : Value).ownBlock ∧ some k_ ≠ ((.slice Ao192 t522.length co192) : Value).ownBlock) (.slice Ao65 t494.length co65) t494) ∧ Aside0 (Kd.R (Kd.int .i64) 3 wc w.heap.size (fun k_ => some k_ ≠ ((.slice Ao45 t435.length co45) : Value).ownBlock ∧ some k_ ≠ ((.slice Ao55 t492.length co55) : Value).ownBlock ∧ some k_ ≠ ((.slice Ao65 t494.length co65) : Value).ownBlock ∧ some k_ ≠ ((.slice Ao76 t464.length co76) : Value).ownBlock ∧ some k_ ≠ ((.slice Ao192 t522.length co192) : Value).ownBlock) (.slice Ao66 t495.length co66) t495) ∧ Aside0 (Kd.R (Kd.int .i64) 3 wc w.heap.size (fun k_ => some k_ ≠ ((.slice Ao45 t435.length co45) : Value).ownBlock ∧ some k_ ≠ ((.slice Ao55 t492.length co55) : Value).ownBlock ∧ some k_ ≠ ((.slice Ao65 t494.length co65) : Value).ownBlock ∧ some k_ ≠ ((.slice Ao66 t495.length co66) : Value).ownBlock ∧ some k_ ≠ ((.slice Ao192 t522.length co192) : Value).ownBlock) (.slice Ao76 t464.length co76) t498) ∧ Aside0 (Kd.R (Kd.int .i64) 3 wc w.heap.size (fun k_ => some k_ ≠ ((.slice Ao45 t435.length co45) : Value).ownBlock ∧ some k_ ≠ ((.slice Ao55 t492.length co55) : Value).ownBlock ∧ some k_ ≠ ((.slice Ao65 t494.length co65) : Value).ownBlock ∧ some k_ ≠ ((.slice Ao66 t495.length co66) : Value).ownBlock ∧ some k_ ≠ ((.slice Ao76 t464.length co76) : Value).ownBlock) (.slice Ao192 t522.length co192) t522) ∧ Aside0 (wc.heap[gb409]? = some (.cells #[.int .i64 a0_0, .int .i64 a0_1, .int .i64 a0_2, (.slice A0_3 l0_3.length c0_3)] 26 (0, 0))) ∧ Aside0 (wc.heap[gb410]? = some (.cells #[.int .i64 a1_0, .int .i64 a1_1, .int .i64 a1_2, .int .i64 a1_3, .int .i64 a1_4, .int .i64 a1_5, .int .i64 a1_6, (.slice A1_7 l1_7.length c1_7), (.slice A1_8 l1_8.length c1_8)] 28 (0, 0))) ∧ Aside0 (wc.heap[gb439]? = some (.cells #[.int .i64 t432, .int .i64 t433, .int .i64 t434, (.slice Ao45 t435.length co45)] 33 (0, 0))) ∧ Aside0 (wc.heap[gb446]? = some (.cells #[.int .i64 t440, .int .i64 t441, .int .i64 t442, (.slice Ao55 t492.length co55)] 33 (0, 0))) ∧ Aside0 (wc.heap[gb460]? = some (.cells #[.int .i64 t447, .int .i64 t448, .int .i64 t449, .int .i64 t450, .int .i64 t451, .int .i64 t452, .int .i64 t453, (.slice Ao65 t494.length co65), (.slice Ao66 t495.length co66)] 37 (0, 0))) ∧ Aside0 (wc.heap[gb468]? = some (.cells #[.int .i64 t461, .int .i64 t462, .int .i64 t463, (.slice Ao76 t464.length co76)] 33 (0, 0))) ∧ Aside0 (wc.heap[gb526]? = some (.cells #[.int .i64 t519, .int .i64 t520, .int .i64 t521, (.slice Ao192 t522.length co192)] 33 (0, 0))) ∧ Aside0 (Below w.heap.size w wc))
      case first =>
       have H := HC170.out
       clear HC170
       replace H := Option.bind_eq_some_iff.mp H
       obtain ⟨t527, A1940, H⟩ := H
       (try dsimp only at H)
       have A194 := Aside0.mk A1940
       clear A1940
       by_cases c195 : t527 = true
       ·subst c195
        rw [if_pos rfl] at H
        have H' := Aside0.mk H
        clear H
        have hn196 := ne2 NB526_409
        have hn197 := ne2 NB526_410
        have hn198 := ne2 NB526_439
        have hn199 := ne2 NB526_446
        have hn200 := ne2 NB526_460
        have hn201 := ne2 NB526_468
        have hcz202 := cells4 BK526.out
        have hn203 := ne2 NB439_409
        have hn204 := ne2 NB439_410
        have hn205 := ne2 NB439_446
        have hn206 := ne2 NB439_460
        have hn207 := ne2 NB439_468
        have hcz208 := cells4 BK439.out
        go_wp2_with (first | ((with_reducible refine gate_callee (f := 14) rfl ?_); refine goesM (some 104) rfl rfl Try.func14 (by kernel_rfl) rfl #[.agg #[.int .i64 t519, .int .i64 t520, .int .i64 t521, .slice Ao192 t522.length co192], .agg #[.int .i64 t432, .int .i64 t433, .int .i64 t434, .slice Ao45 t435.length co45]] rfl ?_; (with_reducible refine (laws_eqTensor.calls kj111 t519 t520 t521 _ _ t522 t432 t433 t434 _ _ t435 true _ ?side1 ?side2 ?side3 ?side4 A194.out).mono ?_); (case side1 => refine (Kd.R_reads' (e := 3) (base := w.heap.size) (ok := fun k_ => (some k_ ≠ (v504 : Value).ownBlock ∧ (some k_ ≠ (v514 : Value).ownBlock ∧ (some k_ ≠ (v517 : Value).ownBlock ∧ (nb k_ Ao45 t435.length co45 ∧ (nb k_ Ao55 t492.length co55 ∧ (nb k_ Ao65 t494.length co65 ∧ (nb k_ Ao66 t495.length co66 ∧ nb k_ Ao76 t464.length co76)))))))) (n := t522.length) (c := co192) ?_).2.2; exact (R_at (R_far4 HO524.out BK526.out (by decide)))); (case side2 => exact (Kd.R_reads' HO524.out).2.1); (case side3 => refine (Kd.R_reads' (e := 3) (base := w.heap.size) (ok := fun k_ => (some k_ ≠ (v504 : Value).ownBlock ∧ (some k_ ≠ (v514 : Value).ownBlock ∧ (some k_ ≠ (v517 : Value).ownBlock ∧ (nb k_ Ao192 t522.length co192 ∧ (nb k_ Ao55 t492.length co55 ∧ (nb k_ Ao65 t494.length co65 ∧ (nb k_ Ao66 t495.length co66 ∧ nb k_ Ao76 t464.length co76)))))))) (n := t435.length) (c := co45) ?_).2.2; exact (R_at (R_far4 HO_440003.out BK526.out (by decide)))); (case side4 => exact (Kd.R_reads' HO_440003.out).2.1); rintro e w209 ⟨rfl, hb⟩; refine ⟨_, rfl, ?_⟩; have n0_ := Aside0.mk (Kd.R_below (R_at (R_far4 HO_440003.out BK526.out (by decide))) hb); have n1_ := Aside0.mk (Kd.R_below (R_at (R_far4 HO_447003.out BK526.out (by decide))) hb); have n2_ := Aside0.mk (Kd.R_below (R_at (R_far4 HO_461007.out BK526.out (by decide))) hb); have n3_ := Aside0.mk (Kd.R_below (R_at (R_far4 HO_461008.out BK526.out (by decide))) hb); have n4_ := Aside0.mk (Kd.R_below (R_at (R_far4 HO_469003.out BK526.out (by decide))) hb); have n5_ := Aside0.mk (Kd.R_below (R_at (R_far4 HO505.out BK526.out (by decide))) hb); have n6_ := Aside0.mk (Kd.R_below (R_at (R_far4 HO515.out BK526.out (by decide))) hb); have n7_ := Aside0.mk (Kd.R_below (R_at (R_far4 HO518.out BK526.out (by decide))) hb); have n8_ := Aside0.mk (Kd.R_below (R_at (R_far4 HO524.out BK526.out (by decide))) hb); replace HB := bel_on w hb; replace BK409 := Aside0.mk (blk_below (g := gb409) (o := .cells #[.int .i64 a0_0, .int .i64 a0_1, .int .i64 a0_2, .slice A0_3 l0_3.length c0_3] 26 (0, 0)) (blk_fars BK409.out) hb); replace BK410 := Aside0.mk (blk_below (g := gb410) (o := .cells #[.int .i64 a1_0, .int .i64 a1_1, .int .i64 a1_2, .int .i64 a1_3, .int .i64 a1_4, .int .i64 a1_5, .int .i64 a1_6, .slice A1_7 l1_7.length c1_7, .slice A1_8 l1_8.length c1_8] 28 (0, 0)) (blk_fars BK410.out) hb); replace BK439 := Aside0.mk (blk_below (g := gb439) (o := .cells #[.int .i64 t432, .int .i64 t433, .int .i64 t434, .slice Ao45 t435.length co45] 33 (0, 0)) (blk_fars BK439.out) hb); replace BK446 := Aside0.mk (blk_below (g := gb446) (o := .cells #[.int .i64 t440, .int .i64 t441, .int .i64 t442, .slice Ao55 t492.length co55] 33 (0, 0)) (blk_fars BK446.out) hb); replace BK460 := Aside0.mk (blk_below (g := gb460) (o := .cells #[.int .i64 t447, .int .i64 t448, .int .i64 t449, .int .i64 t450, .int .i64 t451, .int .i64 t452, .int .i64 t453, .slice Ao65 t494.length co65, .slice Ao66 t495.length co66] 37 (0, 0)) (blk_fars BK460.out) hb); replace BK468 := Aside0.mk (blk_below (g := gb468) (o := .cells #[.int .i64 t461, .int .i64 t462, .int .i64 t463, .slice Ao76 t464.length co76] 33 (0, 0)) (blk_fars BK468.out) hb); replace BK526 := Aside0.mk (blk_below (g := gb526) (o := .cells #[.int .i64 t519, .int .i64 t520, .int .i64 t521, .slice Ao192 t522.length co192] 33 (0, 0)) (blk_fars (puts4 BK526.out)) hb); clear HO_440003 HO_447003 HO_461007 HO_461008 HO_469003 HO505 HO515 HO518 HO524; have HO_440003 := n0_; have HO_447003 := n1_; have HO_461007 := n2_; have HO_461008 := n3_; have HO_469003 := n4_; have HO505 := n5_; have HO515 := n6_; have HO518 := n7_; have HO524 := n8_; clear n0_ n1_ n2_ n3_ n4_ n5_ n6_ n7_ n8_; (try clear hb)))
        go_meet
        case rel => exact ⟨_, ((t525 != t438)), (by first | rfl | (simp; done) | (simp [*]; done)), H', ⟨by have := HJ24.out; have := HJ111.out; first | omega | exact Nat.le_refl _⟩, ⟨by (try simp only [hl447003_111]); (try simp only [hl461007_111]); (try simp only [hl461008_111]); (with_reducible repeat (first | apply Kd.R_alloc | apply Kd.R_drewN | apply Kd.R_drew)); exact Kd.R_mono HO_440003.out (fun _ hk => ⟨hk.2.2.2.2.1, ⟨hk.2.2.2.2.2.1, ⟨hk.2.2.2.2.2.2.1, ⟨hk.2.2.2.2.2.2.2, hk.2.2.2.1⟩⟩⟩⟩)⟩, ⟨by (try simp only [hl447003_111]); (try simp only [hl461007_111]); (try simp only [hl461008_111]); (with_reducible repeat (first | apply Kd.R_alloc | apply Kd.R_drewN | apply Kd.R_drew)); exact Kd.R_mono HO_447003.out (fun _ hk => ⟨hk.2.2.2.2.1, ⟨hk.2.2.2.2.2.1, ⟨hk.2.2.2.2.2.2.1, ⟨hk.2.2.2.2.2.2.2, hk.2.2.2.1⟩⟩⟩⟩)⟩, ⟨by (try simp only [hl447003_111]); (try simp only [hl461007_111]); (try simp only [hl461008_111]); (with_reducible repeat (first | apply Kd.R_alloc | apply Kd.R_drewN | apply Kd.R_drew)); exact Kd.R_mono HO_461007.out (fun _ hk => ⟨hk.2.2.2.2.1, ⟨hk.2.2.2.2.2.1, ⟨hk.2.2.2.2.2.2.1, ⟨hk.2.2.2.2.2.2.2, hk.2.2.2.1⟩⟩⟩⟩)⟩, ⟨by (try simp only [hl447003_111]); (try simp only [hl461007_111]); (try simp only [hl461008_111]); (with_reducible repeat (first | apply Kd.R_alloc | apply Kd.R_drewN | apply Kd.R_drew)); exact Kd.R_mono HO_461008.out (fun _ hk => ⟨hk.2.2.2.2.1, ⟨hk.2.2.2.2.2.1, ⟨hk.2.2.2.2.2.2.1, ⟨hk.2.2.2.2.2.2.2, hk.2.2.2.1⟩⟩⟩⟩)⟩, ⟨by (try simp only [hl447003_111]); (try simp only [hl461007_111]); (try simp only [hl461008_111]); (with_reducible repeat (first | apply Kd.R_alloc | apply Kd.R_drewN | apply Kd.R_drew)); exact Kd.R_mono HO_469003.out (fun _ hk => ⟨hk.2.2.2.2.1, ⟨hk.2.2.2.2.2.1, ⟨hk.2.2.2.2.2.2.1, ⟨hk.2.2.2.2.2.2.2, hk.2.2.2.1⟩⟩⟩⟩)⟩, ⟨by (try simp only [hl447003_111]); (try simp only [hl461007_111]); (try simp only [hl461008_111]); (with_reducible repeat (first | apply Kd.R_alloc | apply Kd.R_drewN | apply Kd.R_drew)); exact Kd.R_mono HO524.out (fun _ hk => ⟨hk.2.2.2.1, ⟨hk.2.2.2.2.1, ⟨hk.2.2.2.2.2.1, ⟨hk.2.2.2.2.2.2.1, hk.2.2.2.2.2.2.2⟩⟩⟩⟩)⟩, ⟨by (try simp only [hl447003_111]); (try simp only [hl461007_111]); (try simp only [hl461008_111]); (with_reducible repeat (first | refine blk_drewN ?_ _ | refine blk_drew ?_ | refine blk_alloc ?_ _)); exact BK409.out⟩, ⟨by (try simp only [hl447003_111]); (try simp only [hl461007_111]); (try simp only [hl461008_111]); (with_reducible repeat (first | refine blk_drewN ?_ _ | refine blk_drew ?_ | refine blk_alloc ?_ _)); exact BK410.out⟩, ⟨by (try simp only [hl447003_111]); (try simp only [hl461007_111]); (try simp only [hl461008_111]); (with_reducible repeat (first | refine blk_drewN ?_ _ | refine blk_drew ?_ | refine blk_alloc ?_ _)); exact BK439.out⟩, ⟨by (try simp only [hl447003_111]); (try simp only [hl461007_111]); (try simp only [hl461008_111]); (with_reducible repeat (first | refine blk_drewN ?_ _ | refine blk_drew ?_ | refine blk_alloc ?_ _)); exact BK446.out⟩, ⟨by (try simp only [hl447003_111]); (try simp only [hl461007_111]); (try simp only [hl461008_111]); (with_reducible repeat (first | refine blk_drewN ?_ _ | refine blk_drew ?_ | refine blk_alloc ?_ _)); exact BK460.out⟩, ⟨by (try simp only [hl447003_111]); (try simp only [hl461007_111]); (try simp only [hl461008_111]); (with_reducible repeat (first | refine blk_drewN ?_ _ | refine blk_drew ?_ | refine blk_alloc ?_ _)); exact BK468.out⟩, ⟨by (try simp only [hl447003_111]); (try simp only [hl461007_111]); (try simp only [hl461008_111]); (with_reducible repeat (first | refine blk_drewN ?_ _ | refine blk_drew ?_ | refine blk_alloc ?_ _)); exact BK526.out⟩, ⟨bel_now⟩⟩
       replace c195 := Bool.eq_false_iff.mpr c195
       subst c195
       rw [if_neg (show ¬ (false = true) by decide)] at H
       have H' := Aside0.mk H
       clear H
       have hn210 := ne2 NB526_409
       have hn211 := ne2 NB526_410
       have hn212 := ne2 NB526_439
       have hn213 := ne2 NB526_446
       have hn214 := ne2 NB526_460
       have hn215 := ne2 NB526_468
       have hcz216 := cells4 BK526.out
       have hn217 := ne2 NB439_409
       have hn218 := ne2 NB439_410
       have hn219 := ne2 NB439_446
       have hn220 := ne2 NB439_460
       have hn221 := ne2 NB439_468
       have hcz222 := cells4 BK439.out
       go_wp2_with (first | ((with_reducible refine gate_callee (f := 14) rfl ?_); refine goesM (some 104) rfl rfl Try.func14 (by kernel_rfl) rfl #[.agg #[.int .i64 t519, .int .i64 t520, .int .i64 t521, .slice Ao192 t522.length co192], .agg #[.int .i64 t432, .int .i64 t433, .int .i64 t434, .slice Ao45 t435.length co45]] rfl ?_; (with_reducible refine (laws_eqTensor.calls kj111 t519 t520 t521 _ _ t522 t432 t433 t434 _ _ t435 false _ ?side1 ?side2 ?side3 ?side4 A194.out).mono ?_); (case side1 => refine (Kd.R_reads' (e := 3) (base := w.heap.size) (ok := fun k_ => (some k_ ≠ (v504 : Value).ownBlock ∧ (some k_ ≠ (v514 : Value).ownBlock ∧ (some k_ ≠ (v517 : Value).ownBlock ∧ (nb k_ Ao45 t435.length co45 ∧ (nb k_ Ao55 t492.length co55 ∧ (nb k_ Ao65 t494.length co65 ∧ (nb k_ Ao66 t495.length co66 ∧ nb k_ Ao76 t464.length co76)))))))) (n := t522.length) (c := co192) ?_).2.2; exact (R_at (R_far4 HO524.out BK526.out (by decide)))); (case side2 => exact (Kd.R_reads' HO524.out).2.1); (case side3 => refine (Kd.R_reads' (e := 3) (base := w.heap.size) (ok := fun k_ => (some k_ ≠ (v504 : Value).ownBlock ∧ (some k_ ≠ (v514 : Value).ownBlock ∧ (some k_ ≠ (v517 : Value).ownBlock ∧ (nb k_ Ao192 t522.length co192 ∧ (nb k_ Ao55 t492.length co55 ∧ (nb k_ Ao65 t494.length co65 ∧ (nb k_ Ao66 t495.length co66 ∧ nb k_ Ao76 t464.length co76)))))))) (n := t435.length) (c := co45) ?_).2.2; exact (R_at (R_far4 HO_440003.out BK526.out (by decide)))); (case side4 => exact (Kd.R_reads' HO_440003.out).2.1); rintro e w223 ⟨rfl, hb⟩; refine ⟨_, rfl, ?_⟩; have n0_ := Aside0.mk (Kd.R_below (R_at (R_far4 HO_440003.out BK526.out (by decide))) hb); have n1_ := Aside0.mk (Kd.R_below (R_at (R_far4 HO_447003.out BK526.out (by decide))) hb); have n2_ := Aside0.mk (Kd.R_below (R_at (R_far4 HO_461007.out BK526.out (by decide))) hb); have n3_ := Aside0.mk (Kd.R_below (R_at (R_far4 HO_461008.out BK526.out (by decide))) hb); have n4_ := Aside0.mk (Kd.R_below (R_at (R_far4 HO_469003.out BK526.out (by decide))) hb); have n5_ := Aside0.mk (Kd.R_below (R_at (R_far4 HO505.out BK526.out (by decide))) hb); have n6_ := Aside0.mk (Kd.R_below (R_at (R_far4 HO515.out BK526.out (by decide))) hb); have n7_ := Aside0.mk (Kd.R_below (R_at (R_far4 HO518.out BK526.out (by decide))) hb); have n8_ := Aside0.mk (Kd.R_below (R_at (R_far4 HO524.out BK526.out (by decide))) hb); replace HB := bel_on w hb; replace BK409 := Aside0.mk (blk_below (g := gb409) (o := .cells #[.int .i64 a0_0, .int .i64 a0_1, .int .i64 a0_2, .slice A0_3 l0_3.length c0_3] 26 (0, 0)) (blk_fars BK409.out) hb); replace BK410 := Aside0.mk (blk_below (g := gb410) (o := .cells #[.int .i64 a1_0, .int .i64 a1_1, .int .i64 a1_2, .int .i64 a1_3, .int .i64 a1_4, .int .i64 a1_5, .int .i64 a1_6, .slice A1_7 l1_7.length c1_7, .slice A1_8 l1_8.length c1_8] 28 (0, 0)) (blk_fars BK410.out) hb); replace BK439 := Aside0.mk (blk_below (g := gb439) (o := .cells #[.int .i64 t432, .int .i64 t433, .int .i64 t434, .slice Ao45 t435.length co45] 33 (0, 0)) (blk_fars BK439.out) hb); replace BK446 := Aside0.mk (blk_below (g := gb446) (o := .cells #[.int .i64 t440, .int .i64 t441, .int .i64 t442, .slice Ao55 t492.length co55] 33 (0, 0)) (blk_fars BK446.out) hb); replace BK460 := Aside0.mk (blk_below (g := gb460) (o := .cells #[.int .i64 t447, .int .i64 t448, .int .i64 t449, .int .i64 t450, .int .i64 t451, .int .i64 t452, .int .i64 t453, .slice Ao65 t494.length co65, .slice Ao66 t495.length co66] 37 (0, 0)) (blk_fars BK460.out) hb); replace BK468 := Aside0.mk (blk_below (g := gb468) (o := .cells #[.int .i64 t461, .int .i64 t462, .int .i64 t463, .slice Ao76 t464.length co76] 33 (0, 0)) (blk_fars BK468.out) hb); replace BK526 := Aside0.mk (blk_below (g := gb526) (o := .cells #[.int .i64 t519, .int .i64 t520, .int .i64 t521, .slice Ao192 t522.length co192] 33 (0, 0)) (blk_fars (puts4 BK526.out)) hb); clear HO_440003 HO_447003 HO_461007 HO_461008 HO_469003 HO505 HO515 HO518 HO524; have HO_440003 := n0_; have HO_447003 := n1_; have HO_461007 := n2_; have HO_461008 := n3_; have HO_469003 := n4_; have HO505 := n5_; have HO515 := n6_; have HO518 := n7_; have HO524 := n8_; clear n0_ n1_ n2_ n3_ n4_ n5_ n6_ n7_ n8_; (try clear hb)))
       go_meet
       case rel => exact ⟨_, (true), (by first | rfl | (simp; done) | (simp [*]; done)), H', ⟨by have := HJ24.out; have := HJ111.out; first | omega | exact Nat.le_refl _⟩, ⟨by (try simp only [hl447003_111]); (try simp only [hl461007_111]); (try simp only [hl461008_111]); (with_reducible repeat (first | apply Kd.R_alloc | apply Kd.R_drewN | apply Kd.R_drew)); exact Kd.R_mono HO_440003.out (fun _ hk => ⟨hk.2.2.2.2.1, ⟨hk.2.2.2.2.2.1, ⟨hk.2.2.2.2.2.2.1, ⟨hk.2.2.2.2.2.2.2, hk.2.2.2.1⟩⟩⟩⟩)⟩, ⟨by (try simp only [hl447003_111]); (try simp only [hl461007_111]); (try simp only [hl461008_111]); (with_reducible repeat (first | apply Kd.R_alloc | apply Kd.R_drewN | apply Kd.R_drew)); exact Kd.R_mono HO_447003.out (fun _ hk => ⟨hk.2.2.2.2.1, ⟨hk.2.2.2.2.2.1, ⟨hk.2.2.2.2.2.2.1, ⟨hk.2.2.2.2.2.2.2, hk.2.2.2.1⟩⟩⟩⟩)⟩, ⟨by (try simp only [hl447003_111]); (try simp only [hl461007_111]); (try simp only [hl461008_111]); (with_reducible repeat (first | apply Kd.R_alloc | apply Kd.R_drewN | apply Kd.R_drew)); exact Kd.R_mono HO_461007.out (fun _ hk => ⟨hk.2.2.2.2.1, ⟨hk.2.2.2.2.2.1, ⟨hk.2.2.2.2.2.2.1, ⟨hk.2.2.2.2.2.2.2, hk.2.2.2.1⟩⟩⟩⟩)⟩, ⟨by (try simp only [hl447003_111]); (try simp only [hl461007_111]); (try simp only [hl461008_111]); (with_reducible repeat (first | apply Kd.R_alloc | apply Kd.R_drewN | apply Kd.R_drew)); exact Kd.R_mono HO_461008.out (fun _ hk => ⟨hk.2.2.2.2.1, ⟨hk.2.2.2.2.2.1, ⟨hk.2.2.2.2.2.2.1, ⟨hk.2.2.2.2.2.2.2, hk.2.2.2.1⟩⟩⟩⟩)⟩, ⟨by (try simp only [hl447003_111]); (try simp only [hl461007_111]); (try simp only [hl461008_111]); (with_reducible repeat (first | apply Kd.R_alloc | apply Kd.R_drewN | apply Kd.R_drew)); exact Kd.R_mono HO_469003.out (fun _ hk => ⟨hk.2.2.2.2.1, ⟨hk.2.2.2.2.2.1, ⟨hk.2.2.2.2.2.2.1, ⟨hk.2.2.2.2.2.2.2, hk.2.2.2.1⟩⟩⟩⟩)⟩, ⟨by (try simp only [hl447003_111]); (try simp only [hl461007_111]); (try simp only [hl461008_111]); (with_reducible repeat (first | apply Kd.R_alloc | apply Kd.R_drewN | apply Kd.R_drew)); exact Kd.R_mono HO524.out (fun _ hk => ⟨hk.2.2.2.1, ⟨hk.2.2.2.2.1, ⟨hk.2.2.2.2.2.1, ⟨hk.2.2.2.2.2.2.1, hk.2.2.2.2.2.2.2⟩⟩⟩⟩)⟩, ⟨by (try simp only [hl447003_111]); (try simp only [hl461007_111]); (try simp only [hl461008_111]); (with_reducible repeat (first | refine blk_drewN ?_ _ | refine blk_drew ?_ | refine blk_alloc ?_ _)); exact BK409.out⟩, ⟨by (try simp only [hl447003_111]); (try simp only [hl461007_111]); (try simp only [hl461008_111]); (with_reducible repeat (first | refine blk_drewN ?_ _ | refine blk_drew ?_ | refine blk_alloc ?_ _)); exact BK410.out⟩, ⟨by (try simp only [hl447003_111]); (try simp only [hl461007_111]); (try simp only [hl461008_111]); (with_reducible repeat (first | refine blk_drewN ?_ _ | refine blk_drew ?_ | refine blk_alloc ?_ _)); exact BK439.out⟩, ⟨by (try simp only [hl447003_111]); (try simp only [hl461007_111]); (try simp only [hl461008_111]); (with_reducible repeat (first | refine blk_drewN ?_ _ | refine blk_drew ?_ | refine blk_alloc ?_ _)); exact BK446.out⟩, ⟨by (try simp only [hl447003_111]); (try simp only [hl461007_111]); (try simp only [hl461008_111]); (with_reducible repeat (first | refine blk_drewN ?_ _ | refine blk_drew ?_ | refine blk_alloc ?_ _)); exact BK460.out⟩, ⟨by (try simp only [hl447003_111]); (try simp only [hl461007_111]); (try simp only [hl461008_111]); (with_reducible repeat (first | refine blk_drewN ?_ _ | refine blk_drew ?_ | refine blk_alloc ?_ _)); exact BK468.out⟩, ⟨by (try simp only [hl447003_111]); (try simp only [hl461007_111]); (try simp only [hl461008_111]); (with_reducible repeat (first | refine blk_drewN ?_ _ | refine blk_drew ?_ | refine blk_alloc ?_ _)); exact BK526.out⟩, ⟨bel_now⟩⟩
      case rest =>
       clear HC170
       try clear c1
       try clear c2
       try clear p2
       try clear c11
       try clear c12
       try clear c13
       try clear c14
       try clear c19
       try clear c20
       try clear c21
       try clear c22
       try clear c195
       try clear c196
       try clear c197
       try clear c198
       try clear c199
       try clear c200
       try clear c201
       try clear c203
       try clear c204
       try clear c205
       try clear c206
       try clear c207
       try clear c210
       try clear c211
       try clear c212
       try clear c213
       try clear c214
       try clear c215
       try clear c217
       try clear c218
       try clear c219
       try clear c220
       try clear c221
       try clear hcz202
       try clear hcz208
       try clear hcz216
       try clear hcz222
       obtain ⟨kq, x110_169, rfl, HA, HJ169, HO_440003, HO_447003, HO_461007, HO_461008, HO_469003, HO_527003, BK409, BK410, BK439, BK446, BK460, BK468, BK526, HB⟩ := hcut
       have hl469003_169 := (Kd.R_reads' HO_469003.out).1
       rw [hl469003_169] at HO_469003
       (try simp only [hl469003_169])
       (try simp only [hl469003_169] at BK409)
       (try simp only [hl469003_169] at BK410)
       (try simp only [hl469003_169] at BK439)
       (try simp only [hl469003_169] at BK446)
       (try simp only [hl469003_169] at BK460)
       (try simp only [hl469003_169] at BK468)
       (try simp only [hl469003_169] at BK526)
       (try simp only [hl469003_169] at HO_440003)
       (try simp only [hl469003_169] at HO_447003)
       (try simp only [hl469003_169] at HO_461007)
       (try simp only [hl469003_169] at HO_461008)
       (try simp only [hl469003_169] at HO_527003)
       cases kq with
       | zero => exact absurd HA.out (by simp [laws_FnExactRunLayer.j2])
       | succ kj169 =>
        have H := HA.out
        clear HA
        simp only [laws_FnExactRunLayer.j2] at H
        by_cases c224 : x110_169 = true
        ·subst c224
         rw [if_pos rfl] at H
         exact absurd H (by decide)
        replace c224 := Bool.eq_false_iff.mpr c224
        subst c224
        rw [if_neg (show ¬ (false = true) by decide)] at H
        replace H := Option.bind_eq_some_iff.mp H
        obtain ⟨t528, A2250, H⟩ := H
        (try dsimp only at H)
        have A225 := Aside0.mk A2250
        clear A2250
        by_cases c226 : t528 < 0
        ·rw [if_pos c226] at H
         have c226b0 : decide (t528 < 0) = true := decide_eq_true c226
         clear c226
         exact absurd H (by decide)
        rw [if_neg c226] at H
        have c226b0 : decide (t528 < 0) = false := decide_eq_false c226
        clear c226
        by_cases c227 : t528 = t497
        rotate_left
        ·rw [if_neg c227] at H
         have c227b0 : (t528 == t497) = false := beq_eq_false_iff_ne.mpr c227
         have c227b1 : (t528 != t497) = true := bne_iff_ne.mpr c227
         exact absurd H (by decide)
        rw [if_pos c227] at H
        have c227b0 : (t528 == t497) = true := beq_iff_eq.mpr c227
        have c227b1 : (t528 != t497) = false := bne_eq_false_iff_eq.mpr c227
        clear c227
        clear H
        have hn228 := ne2 NB468_409
        have hn229 := ne2 NB468_410
        have hn230 := ne2 NB468_439
        have hn231 := ne2 NB468_446
        have hn232 := ne2 NB468_460
        have hn233 := ne2 NB468_526
        have hcz234 := cells4 BK468.out
        go_wp2_with (first | ((with_reducible refine gate_callee (f := 18) rfl ?_); refine goesM (some 113) rfl rfl Try.func18 (by kernel_rfl) rfl #[.agg #[.int .i64 t461, .int .i64 t462, .int .i64 t463, .slice Ao76 t498.length co76], .int .i64 1] rfl ?_; (with_reducible refine (laws_heldTensor.calls kj169 t461 t462 t463 _ _ t498 1 t528 _ ?side1 ?side2 A225.out).mono ?_); (case side1 => exact (Kd.R_reads' (R_at HO_469003.out)).2.2); (case side2 => exact (Kd.R_reads' HO_469003.out).2.1); rintro e w235 ⟨rfl, hb⟩; refine ⟨_, rfl, ?_⟩; replace HO_440003 := Aside0.mk (Kd.R_below (R_at HO_440003.out) hb); replace HO_447003 := Aside0.mk (Kd.R_below (R_at HO_447003.out) hb); replace HO_461007 := Aside0.mk (Kd.R_below (R_at HO_461007.out) hb); replace HO_461008 := Aside0.mk (Kd.R_below (R_at HO_461008.out) hb); replace HO_469003 := Aside0.mk (Kd.R_below (R_at HO_469003.out) hb); replace HO_527003 := Aside0.mk (Kd.R_below (R_at HO_527003.out) hb); replace HB := bel_on w hb; replace BK409 := blk_on gb409 hb; replace BK410 := blk_on gb410 hb; replace BK439 := blk_on gb439 hb; replace BK446 := blk_on gb446 hb; replace BK460 := blk_on gb460 hb; replace BK468 := blk_on gb468 hb; replace BK526 := blk_on gb526 hb; (try clear hb)))
        go_ret
        exact ⟨eqN, bel_now⟩

end Go.Proofs.Ytclpojeofclbjaa.PFnExactRunLayer
