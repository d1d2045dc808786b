-- Printed by the session's own program (wip/myprint.py) for this claim out of the translation. Not trusted: Lean checks it.
import Derived.Test.YtljdcemdhmaahaaPFnExactJobDonex0
namespace Go.Proofs.Ytljdcemdhmaahaa.PFnExactJobDone
open Go.RowKit Go.Proofs.YtljdcemdhmaahaaW.PrintWords Go.Proofs.YtljdcemdhmaahaaW.PrintLast Go.Proofs.YtljdcemdhmaahaaW.PrintMore
attribute [local go_sem] max2_int min2_int max_two min_two max_three min_three max_four min_four   -- for this text's walks alone
set_option linter.unusedVariables false
set_option linter.unusedSimpArgs false

/-! ### impl_Layer_windows: function 119 -/
def impl_Layer_windows.f (a0_0 : Int) (a0_1 : Int) (a0_2 : Int) (a0_3 : Int) (a0_4 : Int) (a0_5 : Int) (a0_6 : Int) (l0_7 : List Int) (l0_8 : List Int) (a1_0 : Int) (a1_1 : Int) (a1_2 : Int) (a2 : Int) : Option (Int × Int × Int) := if a0_3 = 0 then (none) else (some (wrap64 ((wrap64 (Int.tdiv (wrap64 (a1_0 - a0_2)) a0_3)) + 1), wrap64 ((wrap64 (Int.tdiv (wrap64 (a1_1 - a0_2)) a0_3)) + 1), a2))
def impl_Layer_windows.T1 : Bool × List (List Nat × List Nat) := (true, [([], []), ([0], [0]), ([], []), ([2], [2]), ([1, 3], [1, 3]), ([], []), ([5], [5]), ([4, 6], [4, 6]), ([7], [7]), ([], []), ([9], [9]), ([], []), ([11], [11]), ([10, 12], [10, 12]), ([], []), ([14], [14]), ([13, 15], [13, 15]), ([16], [16]), ([], []), ([8, 17, 18], [8, 17, 18]), ([19, 0, 1, 2, 3, 4, 5, 6, 7, 8, 9, 10, 11, 12, 13, 14, 15, 16, 17, 18, 19], [19])])
def impl_Layer_windows.B1 : List Nat := [0, 1, 0, 4, 15, 0, 32, 127, 255, 0, 512, 0, 2048, 7680, 0, 16384, 65024, 130560, 0, 524287, 1048575]
theorem impl_Layer_windows.tab1 : rtab .any (opsOf Try.f119 1) = impl_Layer_windows.T1 := by kernel_rfl
theorem impl_Layer_windows.bits1 : waitsOk impl_Layer_windows.T1.2 impl_Layer_windows.B1 = true := by kernel_rfl
set_option maxHeartbeats 8000000 in
set_option maxRecDepth 100000 in
theorem impl_Layer_windows.calls (a0_0 : Int) (a0_1 : Int) (a0_2 : Int) (a0_3 : Int) (a0_4 : Int) (a0_5 : Int) (a0_6 : Int) (A0_7 : Option Addr) (c0_7 : Nat) (l0_7 : List Int) (A0_8 : Option Addr) (c0_8 : Nat) (l0_8 : List Int) (a1_0 : Int) (a1_1 : Int) (a1_2 : Int) (a2 : Int) (r1 : Int) (r2 : Int) (r3 : Int) (w : World) (hr0_7 : Kd.C (Kd.int .i64) w A0_7 l0_7.length l0_7) (hc0_7 : l0_7.length ≤ c0_7) (hr0_8 : Kd.C (Kd.int .i64) w A0_8 l0_8.length l0_8) (hc0_8 : l0_8.length ≤ c0_8) (h : impl_Layer_windows.f a0_0 a0_1 a0_2 a0_3 a0_4 a0_5 a0_6 l0_7 l0_8 a1_0 a1_1 a1_2 a2 = some (r1, r2, r3)) :
   Calls Try.prog 119 #[.agg #[.int .i64 a0_0, .int .i64 a0_1, .int .i64 a0_2, .int .i64 a0_3, .int .i64 a0_4, .int .i64 a0_5, .int .i64 a0_6, .slice A0_7 l0_7.length c0_7, .slice A0_8 l0_8.length c0_8], .agg #[.int .i64 a1_0, .int .i64 a1_1, .int .i64 a1_2], .int .i64 a2] w fun e w' => e = .returned (.agg #[.int .i64 r1, .int .i64 r2, .int .i64 r3]) ∧ Below w.heap.size w w' := by
  have hu73 := Try.underlying73
  have hu25 := Try.underlying25
  have HR0_7 := Aside0.mk hr0_7
  have HC0_7 := Aside0.mk hc0_7
  clear hr0_7 hc0_7
  have HR0_8 := Aside0.mk hr0_8
  have HC0_8 := Aside0.mk hc0_8
  clear hr0_8 hc0_8
  have HB := Aside0.mk (Below.refl w.heap.size w)
  have H : (if a0_3 = 0 then (none) else (some (wrap64 ((wrap64 (Int.tdiv (wrap64 (a1_0 - a0_2)) a0_3)) + 1), wrap64 ((wrap64 (Int.tdiv (wrap64 (a1_1 - a0_2)) a0_3)) + 1), a2))) = some (r1, r2, r3) := h
  clear h
  by_cases c4 : a0_3 = 0
  ·rw [if_pos c4] at H
   exact absurd H (by simp)
  ·rw [if_neg c4] at H
   have c4b0 : (a0_3 == 0) = false := beq_eq_false_iff_ne.mpr c4
   have c4b1 : (a0_3 != 0) = true := bne_iff_ne.mpr c4
   simp only [Option.some.injEq, Prod.mk.injEq] at H
   obtain ⟨rfl, rfl, rfl⟩ := H
   go_enter Try.func119, Try.ntmps119
   try go_wp2_with (first | ((with_reducible refine gate_dst (N := 3) rfl ?_); refine boxM 3 #[.int .i64 a0_0, .int .i64 a0_1, .int .i64 a0_2, .int .i64 a0_3, .int .i64 a0_4, .int .i64 a0_5, .int .i64 a0_6, .slice A0_7 l0_7.length c0_7, .slice A0_8 l0_8.length c0_8] 73 ?_; intro gb302 hg w5 BK302 hb; replace HB := box_at w hb hg; obtain ⟨HB, GW302, GE302⟩ := HB; clear hb hg) | ((with_reducible refine gate_dst (N := 4) rfl ?_); refine boxM 4 #[.int .i64 a1_0, .int .i64 a1_1, .int .i64 a1_2] 25 ?_; intro gb303 hg w6 BK303 hb; replace HB := box_at w hb hg; obtain ⟨HB, GW303, GE303⟩ := HB; replace BK302 := box_on gb302 hb hg; obtain ⟨BK302, NB302_303, NB303_302⟩ := BK302; clear hb hg) | ((with_reducible refine gate_dst (N := 6) rfl ?_); refine boxM 6 #[.int .i64 0, .int .i64 0, .int .i64 0] 25 ?_; intro gb304 hg w7 BK304 hb; replace HB := box_at w hb hg; obtain ⟨HB, GW304, GE304⟩ := HB; replace BK302 := box_on gb302 hb hg; obtain ⟨BK302, NB302_304, NB304_302⟩ := BK302; replace BK303 := box_on gb303 hb hg; obtain ⟨BK303, NB303_304, NB304_303⟩ := BK303; clear hb hg))
   replace BK302 := Aside0.mk (blk_drew BK302.out)
   replace BK303 := Aside0.mk (blk_drew BK303.out)
   replace BK304 := Aside0.mk (blk_drew BK304.out)
   replace HB := Aside0.mk (below_drew1 HB.out)
   refine start_ (n := 21) (S := fun w' => w'.cell? ⟨gb303, 0, none⟩ = some (.int .i64 a1_0) ∧ w'.cell? ⟨gb303, 1, none⟩ = some (.int .i64 a1_1) ∧ w'.cell? ⟨gb303, 2, none⟩ = some (.int .i64 a1_2) ∧ w'.cell? ⟨gb302, 0, none⟩ = some (.int .i64 a0_0) ∧ w'.cell? ⟨gb302, 1, none⟩ = some (.int .i64 a0_1) ∧ w'.cell? ⟨gb302, 2, none⟩ = some (.int .i64 a0_2) ∧ w'.cell? ⟨gb302, 3, none⟩ = some (.int .i64 a0_3) ∧ w'.cell? ⟨gb302, 4, none⟩ = some (.int .i64 a0_4) ∧ w'.cell? ⟨gb302, 5, none⟩ = some (.int .i64 a0_5) ∧ w'.cell? ⟨gb302, 6, none⟩ = some (.int .i64 a0_6) ∧ w'.cell? ⟨gb302, 7, none⟩ = some (.slice A0_7 l0_7.length c0_7) ∧ w'.cell? ⟨gb302, 8, none⟩ = some (.slice A0_8 l0_8.length c0_8)) (ds := []) #[O, O, O, O, O, O, O, O, O, O, O, O, O, O, O, O, O, O, O, O, O] (by kernel_rfl) rfl rfl ⟨bc BK303 0, bc BK303 1, bc BK303 2, bc BK302 0, bc BK302 1, bc BK302 2, bc BK302 3, bc BK302 4, bc BK302 5, bc BK302 6, bc BK302 7, bc BK302 8⟩ (fun hHeld => ?_); refine with_tabW impl_Layer_windows.tab1 impl_Layer_windows.bits1 (fun HT_ HW_ => ?_)
   generalize w7.drew = w8 at BK302 BK303 BK304 HB hHeld ⊢
   refine stepP 0 (some 7) (tk 21 1) (any_of HT_.out (by kernel_rfl)) ?_
   refine stepP 2 (some 9) (tk 21 5) (any_of HT_.out (by kernel_rfl)) ?_
   refine stepP 5 (some 12) (tk 21 37) (any_of HT_.out (by kernel_rfl)) ?_
   refine stepP 9 (some 16) (tk 21 549) (any_of HT_.out (by kernel_rfl)) ?_
   refine stepP 11 (some 18) (tk 21 2597) (any_of HT_.out (by kernel_rfl)) ?_
   refine stepP 14 (some 21) (tk 21 18981) (any_of HT_.out (by kernel_rfl)) ?_
   refine stepP 18 (some 25) (tk 21 281125) (any_of HT_.out (by kernel_rfl)) ?_
   refine stepT 1 (some 8) (tk 21 281127) (take_ofW HT_.out HW_.out (by kernel_rfl)) hHeld ?_
   refine stepT 3 (some 10) (tk 21 281135) (take_ofW HT_.out HW_.out (by kernel_rfl)) hHeld ?_
   refine stepP 4 (some 11) (tk 21 281151) (any_of HT_.out (by kernel_rfl)) ?_
   refine stepT 6 (some 13) (tk 21 281215) (take_ofW HT_.out HW_.out (by kernel_rfl)) hHeld ?_
   refine stepP 7 (some 14) (tk 21 281343) (any_of HT_.out (by kernel_rfl)) ?_
   refine stepP 8 (some 15) (tk 21 281599) (any_of HT_.out (by kernel_rfl)) ?_
   refine stepT 10 (some 17) (tk 21 282623) (take_ofW HT_.out HW_.out (by kernel_rfl)) hHeld ?_
   refine stepT 12 (some 19) (tk 21 286719) (take_ofW HT_.out HW_.out (by kernel_rfl)) hHeld ?_
   refine stepP 13 (some 20) (tk 21 294911) (any_of HT_.out (by kernel_rfl)) ?_
   refine stepT 15 (some 22) (tk 21 327679) (take_ofW HT_.out HW_.out (by kernel_rfl)) hHeld ?_
   refine stepP 16 (some 23) (tk 21 393215) (any_of HT_.out (by kernel_rfl)) ?_
   refine stepP 17 (some 24) (tk 21 524287) (any_of HT_.out (by kernel_rfl)) ?_
   refine stepP 19 (some 26) (tk 21 1048575) (any_of HT_.out (by kernel_rfl)) ?_
   refine one_ (i := 20) (N := none) #[I, I, I, I, I, I, I, I, I, I, I, I, I, I, I, I, I, I, I, I, I] rfl rfl (one_of HT_.out (by kernel_rfl)) (by decide) (fun K hK => ?_)
   have hs9 : w8.cell? ⟨gb304, 0, none⟩ = some (.int .i64 0) := (blk_cell BK304.out 0).trans rfl
   have hfs9 := blk_frozen BK304.out 0
   have hns9_0 := NB302_304.out
   have hns9_1 := NB303_304.out
   have hms9_0 := NB304_302.out
   have hms9_1 := NB304_303.out
   have hs10 : w8.cell? ⟨gb304, 1, none⟩ = some (.int .i64 0) := (blk_cell BK304.out 1).trans rfl
   have hfs10 := blk_frozen BK304.out 1
   have hns10_0 := NB302_304.out
   have hns10_1 := NB303_304.out
   have hms10_0 := NB304_302.out
   have hms10_1 := NB304_303.out
   have hs11 : w8.cell? ⟨gb304, 2, none⟩ = some (.int .i64 0) := (blk_cell BK304.out 2).trans rfl
   have hfs11 := blk_frozen BK304.out 2
   have hns11_0 := NB302_304.out
   have hns11_1 := NB303_304.out
   have hms11_0 := NB304_302.out
   have hms11_1 := NB304_303.out
   refine skip_ (w1 := ?_) (by rfl) rfl ?_ ?_
   rotate_left
   ·go_simp
    rfl
   refine hK.out _ _ ⟨((cell_far (p := ⟨gb304, _, none⟩) NB303_304.out _).trans (((cell_far (p := ⟨gb304, _, none⟩) NB303_304.out _).trans (((cell_far (p := ⟨gb304, _, none⟩) NB303_304.out _).trans (hHeld.1)))))), ((cell_far (p := ⟨gb304, _, none⟩) NB303_304.out _).trans (((cell_far (p := ⟨gb304, _, none⟩) NB303_304.out _).trans (((cell_far (p := ⟨gb304, _, none⟩) NB303_304.out _).trans (hHeld.2.1)))))), ((cell_far (p := ⟨gb304, _, none⟩) NB303_304.out _).trans (((cell_far (p := ⟨gb304, _, none⟩) NB303_304.out _).trans (((cell_far (p := ⟨gb304, _, none⟩) NB303_304.out _).trans (hHeld.2.2.1)))))), ((cell_far (p := ⟨gb304, _, none⟩) NB302_304.out _).trans (((cell_far (p := ⟨gb304, _, none⟩) NB302_304.out _).trans (((cell_far (p := ⟨gb304, _, none⟩) NB302_304.out _).trans (hHeld.2.2.2.1)))))), ((cell_far (p := ⟨gb304, _, none⟩) NB302_304.out _).trans (((cell_far (p := ⟨gb304, _, none⟩) NB302_304.out _).trans (((cell_far (p := ⟨gb304, _, none⟩) NB302_304.out _).trans (hHeld.2.2.2.2.1)))))), ((cell_far (p := ⟨gb304, _, none⟩) NB302_304.out _).trans (((cell_far (p := ⟨gb304, _, none⟩) NB302_304.out _).trans (((cell_far (p := ⟨gb304, _, none⟩) NB302_304.out _).trans (hHeld.2.2.2.2.2.1)))))), ((cell_far (p := ⟨gb304, _, none⟩) NB302_304.out _).trans (((cell_far (p := ⟨gb304, _, none⟩) NB302_304.out _).trans (((cell_far (p := ⟨gb304, _, none⟩) NB302_304.out _).trans (hHeld.2.2.2.2.2.2.1)))))), ((cell_far (p := ⟨gb304, _, none⟩) NB302_304.out _).trans (((cell_far (p := ⟨gb304, _, none⟩) NB302_304.out _).trans (((cell_far (p := ⟨gb304, _, none⟩) NB302_304.out _).trans (hHeld.2.2.2.2.2.2.2.1)))))), ((cell_far (p := ⟨gb304, _, none⟩) NB302_304.out _).trans (((cell_far (p := ⟨gb304, _, none⟩) NB302_304.out _).trans (((cell_far (p := ⟨gb304, _, none⟩) NB302_304.out _).trans (hHeld.2.2.2.2.2.2.2.2.1)))))), ((cell_far (p := ⟨gb304, _, none⟩) NB302_304.out _).trans (((cell_far (p := ⟨gb304, _, none⟩) NB302_304.out _).trans (((cell_far (p := ⟨gb304, _, none⟩) NB302_304.out _).trans (hHeld.2.2.2.2.2.2.2.2.2.1)))))), ((cell_far (p := ⟨gb304, _, none⟩) NB302_304.out _).trans (((cell_far (p := ⟨gb304, _, none⟩) NB302_304.out _).trans (((cell_far (p := ⟨gb304, _, none⟩) NB302_304.out _).trans (hHeld.2.2.2.2.2.2.2.2.2.2.1)))))), ((cell_far (p := ⟨gb304, _, none⟩) NB302_304.out _).trans (((cell_far (p := ⟨gb304, _, none⟩) NB302_304.out _).trans (((cell_far (p := ⟨gb304, _, none⟩) NB302_304.out _).trans (hHeld.2.2.2.2.2.2.2.2.2.2.2))))))⟩ (fun hHeld => ?_)
   clear hK K
   refine done_ (done_of HT_.out (by kernel_rfl)) ?_
   try go_wp2
   refine bodyPost_ret (results_cell_row rfl _ _ gb304 25 #[.int .i64 (wrap64 ((wrap64 (Int.tdiv (wrap64 (a1_0 - a0_2)) a0_3)) + 1)), .int .i64 (wrap64 ((wrap64 (Int.tdiv (wrap64 (a1_1 - a0_2)) a0_3)) + 1)), .int .i64 a2] (0, 0) _ rfl (blk_fars (puts3 BK304.out)) Try.underlying25 rfl (by kernel_rfl)) rfl ?_
   exact ⟨eqN, bel_now⟩

/-! ### impl_Layer_isBare: function 120 -/
def impl_Layer_isBare.f (a0_0 : Int) (a0_1 : Int) (a0_2 : Int) (a0_3 : Int) (a0_4 : Int) (a0_5 : Int) (a0_6 : Int) (l0_7 : List Int) (l0_8 : List Int) : Option (Bool) := if a0_1 = 0 then (if a0_4 = 0 then (if a0_5 = 0 then (if (l0_7.length : Int) = 0 then (some ((l0_8.length : Int) == 0)) else (some false)) else (some false)) else (some false)) else (some false)
set_option maxHeartbeats 8000000 in
set_option maxRecDepth 100000 in
theorem impl_Layer_isBare.calls (a0_0 : Int) (a0_1 : Int) (a0_2 : Int) (a0_3 : Int) (a0_4 : Int) (a0_5 : Int) (a0_6 : Int) (A0_7 : Option Addr) (c0_7 : Nat) (l0_7 : List Int) (A0_8 : Option Addr) (c0_8 : Nat) (l0_8 : List Int) (r : Bool) (w : World) (hr0_7 : Kd.C (Kd.int .i64) w A0_7 l0_7.length l0_7) (hc0_7 : l0_7.length ≤ c0_7) (hr0_8 : Kd.C (Kd.int .i64) w A0_8 l0_8.length l0_8) (hc0_8 : l0_8.length ≤ c0_8) (h : impl_Layer_isBare.f a0_0 a0_1 a0_2 a0_3 a0_4 a0_5 a0_6 l0_7 l0_8 = some r) :
   Calls Try.prog 120 #[.agg #[.int .i64 a0_0, .int .i64 a0_1, .int .i64 a0_2, .int .i64 a0_3, .int .i64 a0_4, .int .i64 a0_5, .int .i64 a0_6, .slice A0_7 l0_7.length c0_7, .slice A0_8 l0_8.length c0_8]] w fun e w' => e = .returned (.bool r) ∧ Below w.heap.size w w' := by
  have hu73 := Try.underlying73
  have HR0_7 := Aside0.mk hr0_7
  have HC0_7 := Aside0.mk hc0_7
  clear hr0_7 hc0_7
  have HR0_8 := Aside0.mk hr0_8
  have HC0_8 := Aside0.mk hc0_8
  clear hr0_8 hc0_8
  have HB := Aside0.mk (Below.refl w.heap.size w)
  have H : (if a0_1 = 0 then (if a0_4 = 0 then (if a0_5 = 0 then (if (l0_7.length : Int) = 0 then (some ((l0_8.length : Int) == 0)) else (some false)) else (some false)) else (some false)) else (some false)) = some r := h
  clear h
  by_cases c2 : a0_1 = 0
  ·rw [if_pos c2] at H
   have c2b0 : (a0_1 == 0) = true := beq_iff_eq.mpr c2
   have c2b1 : (a0_1 != 0) = false := bne_eq_false_iff_eq.mpr c2
   clear c2
   by_cases c3 : a0_4 = 0
   ·rw [if_pos c3] at H
    have c3b0 : (a0_4 == 0) = true := beq_iff_eq.mpr c3
    have c3b1 : (a0_4 != 0) = false := bne_eq_false_iff_eq.mpr c3
    clear c3
    by_cases c4 : a0_5 = 0
    ·rw [if_pos c4] at H
     have c4b0 : (a0_5 == 0) = true := beq_iff_eq.mpr c4
     have c4b1 : (a0_5 != 0) = false := bne_eq_false_iff_eq.mpr c4
     clear c4
     by_cases c5 : (l0_7.length : Int) = 0
     ·rw [if_pos c5] at H
      have c5b0 : ((l0_7.length : Int) == 0) = true := beq_iff_eq.mpr c5
      have c5b1 : ((l0_7.length : Int) != 0) = false := bne_eq_false_iff_eq.mpr c5
      clear c5
      obtain rfl := Option.some.inj H
      go_enter Try.func120, Try.ntmps120
      go_wp2_with (first | ((with_reducible refine gate_dst (N := 1) rfl ?_); (try (refine gate_guard (by rfl) ?_; dsimp only)); refine boxM 1 #[.int .i64 a0_0, .int .i64 a0_1, .int .i64 a0_2, .int .i64 a0_3, .int .i64 a0_4, .int .i64 a0_5, .int .i64 a0_6, .slice A0_7 l0_7.length c0_7, .slice A0_8 l0_8.length c0_8] 73 ?_; intro gb305 hg w6 BK305 hb; replace HB := box_at w hb hg; obtain ⟨HB, GW305, GE305⟩ := HB; clear hb hg; obtain ⟨hcz7_0, hcz7_1, hcz7_2, hcz7_3, hcz7_4, hcz7_5, hcz7_6, hcz7_7, hcz7_8, hfz7_0, hfz7_1, hfz7_2, hfz7_3, hfz7_4, hfz7_5, hfz7_6, hfz7_7, hfz7_8⟩ := cells9 BK305.out))
      go_ret
      exact ⟨eqN, bel_now⟩
     ·rw [if_neg c5] at H
      have c5b0 : ((l0_7.length : Int) == 0) = false := beq_eq_false_iff_ne.mpr c5
      have c5b1 : ((l0_7.length : Int) != 0) = true := bne_iff_ne.mpr c5
      have c5b2 : ¬ (l0_7 = []) := fun h_ => c5 (by rw [h_]; rfl)
      obtain rfl := Option.some.inj H
      go_enter Try.func120, Try.ntmps120
      go_wp2_with (first | ((with_reducible refine gate_dst (N := 1) rfl ?_); (try (refine gate_guard (by rfl) ?_; dsimp only)); refine boxM 1 #[.int .i64 a0_0, .int .i64 a0_1, .int .i64 a0_2, .int .i64 a0_3, .int .i64 a0_4, .int .i64 a0_5, .int .i64 a0_6, .slice A0_7 l0_7.length c0_7, .slice A0_8 l0_8.length c0_8] 73 ?_; intro gb305 hg w8 BK305 hb; replace HB := box_at w hb hg; obtain ⟨HB, GW305, GE305⟩ := HB; clear hb hg; obtain ⟨hcz9_0, hcz9_1, hcz9_2, hcz9_3, hcz9_4, hcz9_5, hcz9_6, hcz9_7, hcz9_8, hfz9_0, hfz9_1, hfz9_2, hfz9_3, hfz9_4, hfz9_5, hfz9_6, hfz9_7, hfz9_8⟩ := cells9 BK305.out))
      go_ret
      exact ⟨eqN, bel_now⟩
    ·rw [if_neg c4] at H
     have c4b0 : (a0_5 == 0) = false := beq_eq_false_iff_ne.mpr c4
     have c4b1 : (a0_5 != 0) = true := bne_iff_ne.mpr c4
     obtain rfl := Option.some.inj H
     go_enter Try.func120, Try.ntmps120
     go_wp2_with (first | ((with_reducible refine gate_dst (N := 1) rfl ?_); (try (refine gate_guard (by rfl) ?_; dsimp only)); refine boxM 1 #[.int .i64 a0_0, .int .i64 a0_1, .int .i64 a0_2, .int .i64 a0_3, .int .i64 a0_4, .int .i64 a0_5, .int .i64 a0_6, .slice A0_7 l0_7.length c0_7, .slice A0_8 l0_8.length c0_8] 73 ?_; intro gb305 hg w10 BK305 hb; replace HB := box_at w hb hg; obtain ⟨HB, GW305, GE305⟩ := HB; clear hb hg; obtain ⟨hcz11_0, hcz11_1, hcz11_2, hcz11_3, hcz11_4, hcz11_5, hcz11_6, hcz11_7, hcz11_8, hfz11_0, hfz11_1, hfz11_2, hfz11_3, hfz11_4, hfz11_5, hfz11_6, hfz11_7, hfz11_8⟩ := cells9 BK305.out))
     go_ret
     exact ⟨eqN, bel_now⟩
   ·rw [if_neg c3] at H
    have c3b0 : (a0_4 == 0) = false := beq_eq_false_iff_ne.mpr c3
    have c3b1 : (a0_4 != 0) = true := bne_iff_ne.mpr c3
    obtain rfl := Option.some.inj H
    go_enter Try.func120, Try.ntmps120
    go_wp2_with (first | ((with_reducible refine gate_dst (N := 1) rfl ?_); (try (refine gate_guard (by rfl) ?_; dsimp only)); refine boxM 1 #[.int .i64 a0_0, .int .i64 a0_1, .int .i64 a0_2, .int .i64 a0_3, .int .i64 a0_4, .int .i64 a0_5, .int .i64 a0_6, .slice A0_7 l0_7.length c0_7, .slice A0_8 l0_8.length c0_8] 73 ?_; intro gb305 hg w12 BK305 hb; replace HB := box_at w hb hg; obtain ⟨HB, GW305, GE305⟩ := HB; clear hb hg; obtain ⟨hcz13_0, hcz13_1, hcz13_2, hcz13_3, hcz13_4, hcz13_5, hcz13_6, hcz13_7, hcz13_8, hfz13_0, hfz13_1, hfz13_2, hfz13_3, hfz13_4, hfz13_5, hfz13_6, hfz13_7, hfz13_8⟩ := cells9 BK305.out))
    go_ret
    exact ⟨eqN, bel_now⟩
  ·rw [if_neg c2] at H
   have c2b0 : (a0_1 == 0) = false := beq_eq_false_iff_ne.mpr c2
   have c2b1 : (a0_1 != 0) = true := bne_iff_ne.mpr c2
   obtain rfl := Option.some.inj H
   go_enter Try.func120, Try.ntmps120
   go_wp2_with (first | ((with_reducible refine gate_dst (N := 1) rfl ?_); (try (refine gate_guard (by rfl) ?_; dsimp only)); refine boxM 1 #[.int .i64 a0_0, .int .i64 a0_1, .int .i64 a0_2, .int .i64 a0_3, .int .i64 a0_4, .int .i64 a0_5, .int .i64 a0_6, .slice A0_7 l0_7.length c0_7, .slice A0_8 l0_8.length c0_8] 73 ?_; intro gb305 hg w14 BK305 hb; replace HB := box_at w hb hg; obtain ⟨HB, GW305, GE305⟩ := HB; clear hb hg; obtain ⟨hcz15_0, hcz15_1, hcz15_2, hcz15_3, hcz15_4, hcz15_5, hcz15_6, hcz15_7, hcz15_8, hfz15_0, hfz15_1, hfz15_2, hfz15_3, hfz15_4, hfz15_5, hfz15_6, hfz15_7, hfz15_8⟩ := cells9 BK305.out))
   go_ret
   exact ⟨eqN, bel_now⟩

end Go.Proofs.Ytljdcemdhmaahaa.PFnExactJobDone
