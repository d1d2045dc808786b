-- Printed by the session's own program (wip/myprint.py) for this claim out of the translation. Not trusted: Lean checks it.
import Derived.Test.YtclpojeofclbjaaPFnExactLeftOfx0
import Derived.Test.YtclpojeofclbjaaPFnExactLeftOfx1
import Derived.Test.YtclpojeofclbjaaPFnExactLeftOfx3
import Derived.Test.YtclpojeofclbjaaPFnExactLeftOfx7
import Derived.Test.YtclpojeofclbjaaPFnExactLeftOfx8
import Derived.Test.YtclpojeofclbjaaPFnExactLeftOfx10
namespace Go.Proofs.Ytclpojeofclbjaa.PFnExactLeftOf
open Go.RowKit Go.Proofs.YtclpojeofclbjaaW.PrintWords Go.Proofs.YtclpojeofclbjaaW.PrintLast Go.Proofs.YtclpojeofclbjaaW.PrintMore
attribute [local go_sem] max2_int min2_int max_two min_two max_three min_three max_four min_four   -- for this text's walks alone
set_option linter.unusedVariables false
set_option linter.unusedSimpArgs false

attribute [local go_sem high] eqA31
/-! ### spec_JobOk: function 55 -/
mutual
def spec_JobOk.j0 : Nat → Bool → Int → Int → Int → List (S37) → Int → Int → Int → Int → List Int → Int → Option (Bool)
  | 0, _, _, _, _, _, _, _, _, _, _, _ => none
  | k + 1, x42, x262000, x262001, x262002, x262003, x262004, x262005, x262006, x262007, x262008, x262009 => if x42 = true then (some false) else ((spec_CostsOf.f k x262000 x262001 x262002 x262003).bind fun t269 => (spec_JobOk.l0 k t269 0 0 x262000 x262001 x262002 x262003 x262004 x262005 x262006 x262007 x262008 x262009))
def spec_JobOk.l0 : Nat → List Int → Int → Int → Int → Int → Int → List (S37) → Int → Int → Int → Int → List Int → Int → Option (Bool)
  | 0, _, _, _, _, _, _, _, _, _, _, _, _, _ => none
  | k + 1, x5, x6, x7, x262000, x262001, x262002, x262003, x262004, x262005, x262006, x262007, x262008, x262009 => if x7 < x262004 then (if 0 ≤ x7 then (if x7 < (x5.length : Int) then (spec_JobOk.l0 k x5 (wrap64 (x6 + (rd x5 x7))) (wrap64 (x7 + 1)) x262000 x262001 x262002 x262003 x262004 x262005 x262006 x262007 x262008 x262009) else (none)) else (none)) else (some (x262009 == x6))
end
def spec_JobOk.f (k : Nat) (a0_0 : Int) (a0_1 : Int) (a0_2 : Int) (l0_3 : List (S37)) (a0_4 : Int) (a0_5 : Int) (a0_6 : Int) (a0_7 : Int) (l0_8 : List Int) (a0_9 : Int) : Option (Bool) := (spec_l04Shapes.f k a0_0 a0_1 a0_2 l0_3).bind fun bt262 => (if bt262.2 = true then ((spec_l01In.f a0_4 0 (l0_3.length : Int)).bind fun t266 => (if t266 = true then ((spec_TensorOk.f k a0_5 a0_6 a0_7 l0_8).bind fun t267 => (if t267 = true then (if 0 ≤ a0_4 then (if a0_4 < (bt262.1.length : Int) then (spec_JobOk.j0 k (!(a0_5 == ((rd_T31 bt262.1 a0_4).f0)) || (!(a0_6 == ((rd_T31 bt262.1 a0_4).f1)) || (!(a0_7 == ((rd_T31 bt262.1 a0_4).f2))))) a0_0 a0_1 a0_2 l0_3 a0_4 a0_5 a0_6 a0_7 l0_8 a0_9) else (none)) else (none)) else (spec_JobOk.j0 k true a0_0 a0_1 a0_2 l0_3 a0_4 a0_5 a0_6 a0_7 l0_8 a0_9))) else (spec_JobOk.j0 k true a0_0 a0_1 a0_2 l0_3 a0_4 a0_5 a0_6 a0_7 l0_8 a0_9))) else (spec_JobOk.j0 k true a0_0 a0_1 a0_2 l0_3 a0_4 a0_5 a0_6 a0_7 l0_8 a0_9))
def spec_JobOk.T2 : Bool × List (List Nat × List Nat) := (true, [([], []), ([0], [0]), ([1], [1]), ([2], [2]), ([3, 2], [2, 3]), ([2], [2]), ([5, 2], [2, 5]), ([6, 2], [2, 6]), ([7, 2], [2, 7]), ([4, 8, 2, 2], [2, 4, 8]), ([9, 2], [2, 9]), ([2, 10], [2, 10]), ([11, 9], [11]), ([12], [12]), ([13, 12], [12, 13]), ([14, 12, 12], [12, 14]), ([15, 12], [12, 15]), ([12, 16], [12, 16]), ([17, 15], [17]), ([18], [18]), ([19, 18], [18, 19]), ([20, 18], [18, 20]), ([18], [18]), ([18], [18]), ([23, 18], [18, 23]), ([22, 24, 18], [18, 22, 24]), ([25, 18], [18, 25]), ([21, 26, 18], [18, 21, 26]), ([18, 27], [18, 27])])
def spec_JobOk.B2 : List Nat := [0, 1, 3, 7, 15, 7, 39, 103, 231, 511, 1023, 2047, 4095, 8191, 16383, 32767, 65535, 131071, 262143, 524287, 1048575, 2097151, 524287, 524287, 8912895, 29884415, 63438847, 134217727, 268435455]
theorem spec_JobOk.tab2 : rtab .any (opsOf Try.f55 2) = spec_JobOk.T2 := by kernel_rfl
theorem spec_JobOk.bits2 : waitsOk spec_JobOk.T2.2 spec_JobOk.B2 = true := by kernel_rfl
set_option maxHeartbeats 8000000 in
set_option maxRecDepth 100000 in
theorem spec_JobOk.calls (k : Nat) (a0_0 : Int) (a0_1 : Int) (a0_2 : Int) (A0_3 : Option Addr) (c0_3 : Nat) (l0_3 : List (S37)) (a0_4 : Int) (a0_5 : Int) (a0_6 : Int) (a0_7 : Int) (A0_8 : Option Addr) (c0_8 : Nat) (l0_8 : List Int) (a0_9 : Int) (r : Bool) (w : World) (hr0_3 : Kd.C k37 w A0_3 l0_3.length l0_3) (hc0_3 : l0_3.length ≤ c0_3) (hr0_8 : Kd.C (Kd.int .i64) w A0_8 l0_8.length l0_8) (hc0_8 : l0_8.length ≤ c0_8) (h : spec_JobOk.f k a0_0 a0_1 a0_2 l0_3 a0_4 a0_5 a0_6 a0_7 l0_8 a0_9 = some r) :
   Calls Try.prog 55 #[.agg #[.int .i64 a0_0, .int .i64 a0_1, .int .i64 a0_2, .slice A0_3 l0_3.length c0_3, .int .i64 a0_4, .int .i64 a0_5, .int .i64 a0_6, .int .i64 a0_7, .slice A0_8 l0_8.length c0_8, .int .i64 a0_9]] w fun e w' => e = .returned (.bool r) ∧ Below w.heap.size w w' := by
  have hu55 := Try.underlying55
  have hu53 := Try.underlying53
  have hu33 := Try.underlying33
  have hu31 := Try.underlying31
  have HR0_3 := Aside0.mk hr0_3
  have HC0_3 := Aside0.mk hc0_3
  clear hr0_3 hc0_3
  have HR0_8 := Aside0.mk hr0_8
  have HC0_8 := Aside0.mk hc0_8
  clear hr0_8 hc0_8
  have HB := Aside0.mk (Below.refl w.heap.size w)
  have H : ((spec_l04Shapes.f k a0_0 a0_1 a0_2 l0_3).bind fun bt262 => (if bt262.2 = true then ((spec_l01In.f a0_4 0 (l0_3.length : Int)).bind fun t266 => (if t266 = true then ((spec_TensorOk.f k a0_5 a0_6 a0_7 l0_8).bind fun t267 => (if t267 = true then (if 0 ≤ a0_4 then (if a0_4 < (bt262.1.length : Int) then (spec_JobOk.j0 k (!(a0_5 == ((rd_T31 bt262.1 a0_4).f0)) || (!(a0_6 == ((rd_T31 bt262.1 a0_4).f1)) || (!(a0_7 == ((rd_T31 bt262.1 a0_4).f2))))) a0_0 a0_1 a0_2 l0_3 a0_4 a0_5 a0_6 a0_7 l0_8 a0_9) else (none)) else (none)) else (spec_JobOk.j0 k true a0_0 a0_1 a0_2 l0_3 a0_4 a0_5 a0_6 a0_7 l0_8 a0_9))) else (spec_JobOk.j0 k true a0_0 a0_1 a0_2 l0_3 a0_4 a0_5 a0_6 a0_7 l0_8 a0_9))) else (spec_JobOk.j0 k true a0_0 a0_1 a0_2 l0_3 a0_4 a0_5 a0_6 a0_7 l0_8 a0_9))) = some r := h
  clear h
  replace H := Option.bind_eq_some_iff.mp H
  obtain ⟨⟨t262, t265⟩, A20, H⟩ := H
  (try dsimp only at H)
  have A2 := Aside0.mk A20
  clear A20
  have HC3 := Aside0.mk H
  clear H
  go_enter Try.func55, Try.ntmps55
  go_upto_region 2 with (first | ((with_reducible refine gate_dst (N := 1) rfl ?_); (try (refine gate_guard (by rfl) ?_; dsimp only)); refine boxM 1 #[.int .i64 a0_0, .int .i64 a0_1, .int .i64 a0_2, .slice A0_3 l0_3.length c0_3, .int .i64 a0_4, .int .i64 a0_5, .int .i64 a0_6, .int .i64 a0_7, .slice A0_8 l0_8.length c0_8, .int .i64 a0_9] 55 ?_; intro gb261 hg w4 BK261 hb; replace HB := box_at w hb hg; obtain ⟨HB, GW261, GE261⟩ := HB; clear hb hg; have hcz5 := cells10 BK261.out) | ((with_reducible refine gate_callee (f := 107) rfl ?_); refine goesM (some 11) rfl rfl Try.func107 (by kernel_rfl) rfl #[.agg #[.int .i64 a0_0, .int .i64 a0_1, .int .i64 a0_2, .slice A0_3 l0_3.length c0_3]] rfl ?_; (with_reducible refine (spec_l04Shapes.calls k a0_0 a0_1 a0_2 _ _ l0_3 t262 t265 _ ?side1 ?side2 A2.out).mono ?_); (case side1 => exact C_now HR0_3.out); (case side2 => exact HC0_3.out); rintro e w6 ⟨v263, rfl, ho0, hb⟩; refine ⟨_, rfl, ?_⟩; have n0_ := Aside0.mk (Kd.R_lower ho0 (below_size bel_now)); replace HB := bel_on w hb; replace BK261 := blk_on gb261 hb; have HO264 := n0_; clear n0_; (try clear hb); (try clear ho0)))
  (try simp only [Act.put, zA, zB, zC])
  go_cut [42] (fun v42 wc => ∃ (kq : Nat) (x42_2 : Bool), v42 = .bool x42_2 ∧ Aside0 (spec_JobOk.j0 kq x42_2 a0_0 a0_1 a0_2 l0_3 a0_4 a0_5 a0_6 a0_7 l0_8 a0_9 = some r) ∧ Aside0 (kq ≤ k) ∧ Aside0 (wc.heap[gb261]? = some (.cells #[.int .i64 a0_0, .int .i64 a0_1, .int .i64 a0_2, (.slice A0_3 l0_3.length c0_3), .int .i64 a0_4, .int .i64 a0_5, .int .i64 a0_6, .int .i64 a0_7, (.slice A0_8 l0_8.length c0_8), .int .i64 a0_9] 55 (0, 0))) ∧ Aside0 (Below w.heap.size w wc))
  case first =>
   have H := HC3.out
   clear HC3
   by_cases c7 : t265 = true
   rotate_left
   ·replace c7 := Bool.eq_false_iff.mpr c7
    subst c7
    rw [if_neg (show ¬ (false = true) by decide)] at H
    have H' := Aside0.mk H
    clear H
    try go_wp2
    replace HO264 := Aside0.mk (Kd.R_drew HO264.out)
    replace BK261 := Aside0.mk (blk_drew BK261.out)
    replace HB := Aside0.mk (below_drew1 HB.out)
    refine start_ (n := 29) (S := fun w' => True) (ds := []) #[O, O, O, O, O, O, O, O, O, O, O, O, O, O, O, O, O, O, O, O, O, O, O, O, O, O, O, O, O] (by kernel_rfl) rfl rfl trivial (fun hHeld => ?_); refine with_tabW spec_JobOk.tab2 spec_JobOk.bits2 (fun HT_ HW_ => ?_)
    generalize w6.drew = w20 at HO264 BK261 HB hHeld ⊢
    refine stepP 0 (some 14) (tk 29 1) (any_of HT_.out (by kernel_rfl)) ?_
    refine stepP 1 (some 15) (tk 29 3) (any_of HT_.out (by kernel_rfl)) ?_
    refine stepP 2 (some 16) (tk 29 7) (any_of HT_.out (by kernel_rfl)) ?_
    refine stepU 3 (some 17) (tk 29 15) (any_of HT_.out (by kernel_rfl)) ?_
    refine stepU 4 (some 18) (tk 29 31) (any_of HT_.out (by kernel_rfl)) ?_
    refine stepU 5 (some 19) (tk 29 63) (any_of HT_.out (by kernel_rfl)) ?_
    refine stepU 6 (some 20) (tk 29 127) (any_of HT_.out (by kernel_rfl)) ?_
    refine stepU 7 (some 21) (tk 29 255) (any_of HT_.out (by kernel_rfl)) ?_
    refine stepU 8 (some 22) (tk 29 511) (any_of HT_.out (by kernel_rfl)) ?_
    refine stepU 9 (some 23) (tk 29 1023) (any_of HT_.out (by kernel_rfl)) ?_
    refine stepU 10 (some 24) (tk 29 2047) (any_of HT_.out (by kernel_rfl)) ?_
    refine stepP 11 (some 25) (tk 29 4095) (any_of HT_.out (by kernel_rfl)) ?_
    refine stepP 12 (some 26) (tk 29 8191) (any_of HT_.out (by kernel_rfl)) ?_
    refine stepU 13 (some 27) (tk 29 16383) (any_of HT_.out (by kernel_rfl)) ?_
    refine stepU 14 (some 28) (tk 29 32767) (any_of HT_.out (by kernel_rfl)) ?_
    refine stepU 15 (some 29) (tk 29 65535) (any_of HT_.out (by kernel_rfl)) ?_
    refine stepU 16 (some 30) (tk 29 131071) (any_of HT_.out (by kernel_rfl)) ?_
    refine stepP 17 (some 31) (tk 29 262143) (any_of HT_.out (by kernel_rfl)) ?_
    refine stepP 18 (some 32) (tk 29 524287) (any_of HT_.out (by kernel_rfl)) ?_
    refine stepU 19 (some 33) (tk 29 1048575) (any_of HT_.out (by kernel_rfl)) ?_
    refine stepU 20 (some 34) (tk 29 2097151) (any_of HT_.out (by kernel_rfl)) ?_
    refine stepU 21 (some 35) (tk 29 4194303) (any_of HT_.out (by kernel_rfl)) ?_
    refine stepU 22 (some 36) (tk 29 8388607) (any_of HT_.out (by kernel_rfl)) ?_
    refine stepU 23 (some 37) (tk 29 16777215) (any_of HT_.out (by kernel_rfl)) ?_
    refine stepU 24 (some 38) (tk 29 33554431) (any_of HT_.out (by kernel_rfl)) ?_
    refine stepU 25 (some 39) (tk 29 67108863) (any_of HT_.out (by kernel_rfl)) ?_
    refine stepU 26 (some 40) (tk 29 134217727) (any_of HT_.out (by kernel_rfl)) ?_
    refine stepU 27 (some 41) (tk 29 268435455) (any_of HT_.out (by kernel_rfl)) ?_
    refine stepP 28 (some 42) (tk 29 536870911) (any_of HT_.out (by kernel_rfl)) ?_
    refine done_ (done_of HT_.out (by kernel_rfl)) ?_
    try go_wp2
    go_meet
    case rel => exact ⟨_, (true), (by first | rfl | (simp; done) | (simp [*]; done)), H', ⟨by first | omega | exact Nat.le_refl _⟩, ⟨bks BK261⟩, ⟨bel_now⟩⟩
   subst c7
   rw [if_pos rfl] at H
   replace H := Option.bind_eq_some_iff.mp H
   obtain ⟨t266, A80, H⟩ := H
   (try dsimp only at H)
   have A8 := Aside0.mk A80
   clear A80
   by_cases c9 : t266 = true
   rotate_left
   ·replace c9 := Bool.eq_false_iff.mpr c9
    subst c9
    rw [if_neg (show ¬ (false = true) by decide)] at H
    have H' := Aside0.mk H
    clear H
    try go_wp2
    replace HO264 := Aside0.mk (Kd.R_drew HO264.out)
    replace BK261 := Aside0.mk (blk_drew BK261.out)
    replace HB := Aside0.mk (below_drew1 HB.out)
    refine start_ (n := 29) (S := fun w' => w'.cell? ⟨gb261, 0, none⟩ = some (.int .i64 a0_0) ∧ w'.cell? ⟨gb261, 1, none⟩ = some (.int .i64 a0_1) ∧ w'.cell? ⟨gb261, 2, none⟩ = some (.int .i64 a0_2) ∧ w'.cell? ⟨gb261, 3, none⟩ = some (.slice A0_3 l0_3.length c0_3) ∧ w'.cell? ⟨gb261, 4, none⟩ = some (.int .i64 a0_4) ∧ w'.cell? ⟨gb261, 5, none⟩ = some (.int .i64 a0_5) ∧ w'.cell? ⟨gb261, 6, none⟩ = some (.int .i64 a0_6) ∧ w'.cell? ⟨gb261, 7, none⟩ = some (.int .i64 a0_7) ∧ w'.cell? ⟨gb261, 8, none⟩ = some (.slice A0_8 l0_8.length c0_8) ∧ w'.cell? ⟨gb261, 9, none⟩ = some (.int .i64 a0_9)) (ds := []) #[O, O, O, O, O, O, O, O, O, O, O, O, O, O, O, O, O, O, O, O, O, O, O, O, O, O, O, O, O] (by kernel_rfl) rfl rfl ⟨bc BK261 0, bc BK261 1, bc BK261 2, bc BK261 3, bc BK261 4, bc BK261 5, bc BK261 6, bc BK261 7, bc BK261 8, bc BK261 9⟩ (fun hHeld => ?_); refine with_tabW spec_JobOk.tab2 spec_JobOk.bits2 (fun HT_ HW_ => ?_)
    generalize w6.drew = w19 at HO264 BK261 HB hHeld ⊢
    refine stepP 0 (some 14) (tk 29 1) (any_of HT_.out (by kernel_rfl)) ?_
    refine stepP 1 (some 15) (tk 29 3) (any_of HT_.out (by kernel_rfl)) ?_
    refine stepP 2 (some 16) (tk 29 7) (any_of HT_.out (by kernel_rfl)) ?_
    refine stepP 3 (some 17) (tk 29 15) (any_of HT_.out (by kernel_rfl)) ?_
    refine stepP 5 (some 19) (tk 29 47) (any_of HT_.out (by kernel_rfl)) ?_
    refine stepP 6 (some 20) (tk 29 111) (any_of HT_.out (by kernel_rfl)) ?_
    refine stepT 4 (some 18) (tk 29 127) (take_ofW HT_.out HW_.out (by kernel_rfl)) hHeld ?_
    refine stepT 7 (some 21) (tk 29 255) (take_ofW HT_.out HW_.out (by kernel_rfl)) hHeld ?_
    refine stepP 8 (some 22) (tk 29 511) (any_of HT_.out (by kernel_rfl)) ?_
    refine one_ (i := 9) (N := some 23) #[I, I, I, I, I, I, I, I, I, I, O, O, O, O, O, O, O, O, O, O, O, O, O, O, O, O, O, O, O] rfl rfl (one_of HT_.out (by kernel_rfl)) (by decide) (fun K hK => ?_)
    refine goes_ Try.func94 (by kernel_rfl) rfl #[.int .i64 a0_4, .int .i64 0, .int .i64 (l0_3.length : Int)] (by rfl) rfl rfl (by (try simp only [List.map_toArray, List.map_cons, List.map_nil]); first | done | rfl | (simp only [List.length_drop, List.length_take]; rfl)) ?_
    with_reducible refine (spec_l01In.calls a0_4 0 (l0_3.length : Int) false _ A8.out).mono ?_
    rintro e w' ⟨rfl, ⟨nd, rfl⟩⟩
    refine ⟨_, rfl, ?_⟩
    refine hK.out _ _ ⟨bc BK261 0, bc BK261 1, bc BK261 2, bc BK261 3, bc BK261 4, bc BK261 5, bc BK261 6, bc BK261 7, bc BK261 8, bc BK261 9⟩ (fun hHeld => ?_)
    clear hK K
    refine normP 23 ?_
    refine stepP 10 (some 24) (tk 29 2047) (any_of HT_.out (by kernel_rfl)) ?_
    refine stepP 11 (some 25) (tk 29 4095) (any_of HT_.out (by kernel_rfl)) ?_
    refine stepP 12 (some 26) (tk 29 8191) (any_of HT_.out (by kernel_rfl)) ?_
    refine stepU 13 (some 27) (tk 29 16383) (any_of HT_.out (by kernel_rfl)) ?_
    refine stepU 14 (some 28) (tk 29 32767) (any_of HT_.out (by kernel_rfl)) ?_
    refine stepU 15 (some 29) (tk 29 65535) (any_of HT_.out (by kernel_rfl)) ?_
    refine stepU 16 (some 30) (tk 29 131071) (any_of HT_.out (by kernel_rfl)) ?_
    refine stepP 17 (some 31) (tk 29 262143) (any_of HT_.out (by kernel_rfl)) ?_
    refine stepP 18 (some 32) (tk 29 524287) (any_of HT_.out (by kernel_rfl)) ?_
    refine stepU 19 (some 33) (tk 29 1048575) (any_of HT_.out (by kernel_rfl)) ?_
    refine stepU 20 (some 34) (tk 29 2097151) (any_of HT_.out (by kernel_rfl)) ?_
    refine stepU 21 (some 35) (tk 29 4194303) (any_of HT_.out (by kernel_rfl)) ?_
    refine stepU 22 (some 36) (tk 29 8388607) (any_of HT_.out (by kernel_rfl)) ?_
    refine stepU 23 (some 37) (tk 29 16777215) (any_of HT_.out (by kernel_rfl)) ?_
    refine stepU 24 (some 38) (tk 29 33554431) (any_of HT_.out (by kernel_rfl)) ?_
    refine stepU 25 (some 39) (tk 29 67108863) (any_of HT_.out (by kernel_rfl)) ?_
    refine stepU 26 (some 40) (tk 29 134217727) (any_of HT_.out (by kernel_rfl)) ?_
    refine stepU 27 (some 41) (tk 29 268435455) (any_of HT_.out (by kernel_rfl)) ?_
    refine stepP 28 (some 42) (tk 29 536870911) (any_of HT_.out (by kernel_rfl)) ?_
    refine done_ (done_of HT_.out (by kernel_rfl)) ?_
    try go_wp2
    go_meet
    case rel => exact ⟨_, (true), (by first | rfl | (simp; done) | (simp [*]; done)), H', ⟨by first | omega | exact Nat.le_refl _⟩, ⟨bks BK261⟩, ⟨bel_now⟩⟩
   subst c9
   rw [if_pos rfl] at H
   replace H := Option.bind_eq_some_iff.mp H
   obtain ⟨t267, A100, H⟩ := H
   (try dsimp only at H)
   have A10 := Aside0.mk A100
   clear A100
   by_cases c11 : t267 = true
   rotate_left
   ·replace c11 := Bool.eq_false_iff.mpr c11
    subst c11
    rw [if_neg (show ¬ (false = true) by decide)] at H
    have H' := Aside0.mk H
    clear H
    try go_wp2
    replace HO264 := Aside0.mk (Kd.R_drew HO264.out)
    replace BK261 := Aside0.mk (blk_drew BK261.out)
    replace HB := Aside0.mk (below_drew1 HB.out)
    refine start_ (n := 29) (S := fun w' => w'.cell? ⟨gb261, 0, none⟩ = some (.int .i64 a0_0) ∧ w'.cell? ⟨gb261, 1, none⟩ = some (.int .i64 a0_1) ∧ w'.cell? ⟨gb261, 2, none⟩ = some (.int .i64 a0_2) ∧ w'.cell? ⟨gb261, 3, none⟩ = some (.slice A0_3 l0_3.length c0_3) ∧ w'.cell? ⟨gb261, 4, none⟩ = some (.int .i64 a0_4) ∧ w'.cell? ⟨gb261, 5, none⟩ = some (.int .i64 a0_5) ∧ w'.cell? ⟨gb261, 6, none⟩ = some (.int .i64 a0_6) ∧ w'.cell? ⟨gb261, 7, none⟩ = some (.int .i64 a0_7) ∧ w'.cell? ⟨gb261, 8, none⟩ = some (.slice A0_8 l0_8.length c0_8) ∧ w'.cell? ⟨gb261, 9, none⟩ = some (.int .i64 a0_9)) (ds := []) #[O, O, O, O, O, O, O, O, O, O, O, O, O, O, O, O, O, O, O, O, O, O, O, O, O, O, O, O, O] (by kernel_rfl) rfl rfl ⟨bc BK261 0, bc BK261 1, bc BK261 2, bc BK261 3, bc BK261 4, bc BK261 5, bc BK261 6, bc BK261 7, bc BK261 8, bc BK261 9⟩ (fun hHeld => ?_); refine with_tabW spec_JobOk.tab2 spec_JobOk.bits2 (fun HT_ HW_ => ?_)
    generalize w6.drew = w17 at HO264 BK261 HB hHeld ⊢
    refine stepP 0 (some 14) (tk 29 1) (any_of HT_.out (by kernel_rfl)) ?_
    refine stepP 1 (some 15) (tk 29 3) (any_of HT_.out (by kernel_rfl)) ?_
    refine stepP 2 (some 16) (tk 29 7) (any_of HT_.out (by kernel_rfl)) ?_
    refine stepP 3 (some 17) (tk 29 15) (any_of HT_.out (by kernel_rfl)) ?_
    refine stepP 5 (some 19) (tk 29 47) (any_of HT_.out (by kernel_rfl)) ?_
    refine stepP 6 (some 20) (tk 29 111) (any_of HT_.out (by kernel_rfl)) ?_
    refine stepT 4 (some 18) (tk 29 127) (take_ofW HT_.out HW_.out (by kernel_rfl)) hHeld ?_
    refine stepT 7 (some 21) (tk 29 255) (take_ofW HT_.out HW_.out (by kernel_rfl)) hHeld ?_
    refine stepP 8 (some 22) (tk 29 511) (any_of HT_.out (by kernel_rfl)) ?_
    refine one_ (i := 9) (N := some 23) #[I, I, I, I, I, I, I, I, I, I, O, O, O, O, O, O, O, O, O, O, O, O, O, O, O, O, O, O, O] rfl rfl (one_of HT_.out (by kernel_rfl)) (by decide) (fun K hK => ?_)
    refine goes_ Try.func94 (by kernel_rfl) rfl #[.int .i64 a0_4, .int .i64 0, .int .i64 (l0_3.length : Int)] (by rfl) rfl rfl (by (try simp only [List.map_toArray, List.map_cons, List.map_nil]); first | done | rfl | (simp only [List.length_drop, List.length_take]; rfl)) ?_
    with_reducible refine (spec_l01In.calls a0_4 0 (l0_3.length : Int) true _ A8.out).mono ?_
    rintro e w' ⟨rfl, ⟨nd, rfl⟩⟩
    refine ⟨_, rfl, ?_⟩
    refine hK.out _ _ ⟨bc BK261 0, bc BK261 1, bc BK261 2, bc BK261 3, bc BK261 4, bc BK261 5, bc BK261 6, bc BK261 7, bc BK261 8, bc BK261 9⟩ (fun hHeld => ?_)
    clear hK K
    refine normP 23 ?_
    refine stepP 10 (some 24) (tk 29 2047) (any_of HT_.out (by kernel_rfl)) ?_
    refine stepP 11 (some 25) (tk 29 4095) (any_of HT_.out (by kernel_rfl)) ?_
    refine stepP 12 (some 26) (tk 29 8191) (any_of HT_.out (by kernel_rfl)) ?_
    refine stepP 13 (some 27) (tk 29 16383) (any_of HT_.out (by kernel_rfl)) ?_
    refine stepT 14 (some 28) (tk 29 32767) (take_ofW HT_.out HW_.out (by kernel_rfl)) hHeld ?_
    refine one_ (i := 15) (N := some 29) #[I, I, I, I, I, I, I, I, I, I, I, I, I, I, I, I, O, O, O, O, O, O, O, O, O, O, O, O, O] rfl rfl (one_of HT_.out (by kernel_rfl)) (by decide) (fun K hK => ?_)
    refine goes_ Try.func32 (by kernel_rfl) rfl #[.agg #[.int .i64 a0_5, .int .i64 a0_6, .int .i64 a0_7, .slice A0_8 l0_8.length c0_8]] (by rfl) rfl rfl (by (try simp only [List.map_toArray, List.map_cons, List.map_nil]); first | done | rfl | (simp only [List.length_drop, List.length_take]; rfl)) ?_
    with_reducible refine (spec_TensorOk.calls k a0_5 a0_6 a0_7 _ _ l0_8 false _ ?side1 ?side2 A10.out).mono ?_
    (case side1 => exact C_now HR0_8.out)
    (case side2 => exact HC0_8.out)
    rintro e w18 ⟨rfl, hb⟩
    refine ⟨_, rfl, ?_⟩
    replace HO264 := Aside0.mk (Kd.R_below (R_at HO264.out) hb)
    replace BK261 := blk_on gb261 hb
    replace HB := bel_on w hb
    (try clear hb)
    refine hK.out _ _ ⟨bc BK261 0, bc BK261 1, bc BK261 2, bc BK261 3, bc BK261 4, bc BK261 5, bc BK261 6, bc BK261 7, bc BK261 8, bc BK261 9⟩ (fun hHeld => ?_)
    clear hK K
    refine normP 29 ?_
    refine stepP 16 (some 30) (tk 29 131071) (any_of HT_.out (by kernel_rfl)) ?_
    refine stepP 17 (some 31) (tk 29 262143) (any_of HT_.out (by kernel_rfl)) ?_
    refine stepP 18 (some 32) (tk 29 524287) (any_of HT_.out (by kernel_rfl)) ?_
    refine stepU 19 (some 33) (tk 29 1048575) (any_of HT_.out (by kernel_rfl)) ?_
    refine stepU 20 (some 34) (tk 29 2097151) (any_of HT_.out (by kernel_rfl)) ?_
    refine stepU 21 (some 35) (tk 29 4194303) (any_of HT_.out (by kernel_rfl)) ?_
    refine stepU 22 (some 36) (tk 29 8388607) (any_of HT_.out (by kernel_rfl)) ?_
    refine stepU 23 (some 37) (tk 29 16777215) (any_of HT_.out (by kernel_rfl)) ?_
    refine stepU 24 (some 38) (tk 29 33554431) (any_of HT_.out (by kernel_rfl)) ?_
    refine stepU 25 (some 39) (tk 29 67108863) (any_of HT_.out (by kernel_rfl)) ?_
    refine stepU 26 (some 40) (tk 29 134217727) (any_of HT_.out (by kernel_rfl)) ?_
    refine stepU 27 (some 41) (tk 29 268435455) (any_of HT_.out (by kernel_rfl)) ?_
    refine stepP 28 (some 42) (tk 29 536870911) (any_of HT_.out (by kernel_rfl)) ?_
    refine done_ (done_of HT_.out (by kernel_rfl)) ?_
    try go_wp2
    go_meet
    case rel => exact ⟨_, (true), (by first | rfl | (simp; done) | (simp [*]; done)), H', ⟨by first | omega | exact Nat.le_refl _⟩, ⟨bks BK261⟩, ⟨bel_now⟩⟩
   subst c11
   rw [if_pos rfl] at H
   by_cases c12 : 0 ≤ a0_4
   rotate_left
   ·rw [if_neg c12] at H
    exact absurd H (by simp)
   rw [if_pos c12] at H
   have c12b0 : decide (0 ≤ a0_4) = true := decide_eq_true c12
   clear c12
   (first | rw [c12b0] | (simp only [i64_w, i32_w]; rw [c12b0]) | skip)
   by_cases c13 : a0_4 < (t262.length : Int)
   rotate_left
   ·rw [if_neg c13] at H
    exact absurd H (by simp)
   rw [if_pos c13] at H
   have c13b0 : decide (a0_4 < (t262.length : Int)) = true := decide_eq_true c13
   clear c13
   have H' := Aside0.mk H
   clear H
   try go_wp2
   replace HO264 := Aside0.mk (Kd.R_drew HO264.out)
   replace BK261 := Aside0.mk (blk_drew BK261.out)
   replace HB := Aside0.mk (below_drew1 HB.out)
   have p268 : 0 ≤ (a0_4 : Int) := of_decide_eq_true (by first | (with_reducible assumption) | assumption)
   have q268 : a0_4 < (t262.length : Int) := of_decide_eq_true (by first | (with_reducible assumption) | assumption)
   (try (obtain ⟨_, _, eo_⟩ := Kd.R_slice HO264.out; subst eo_))
   obtain ⟨ad268, e268, hx268_0, hx268_1, hx268_2⟩ := at_T31 (Kd.R_reads' HO264.out).2.2 a0_4 p268 q268
   cases e268
   replace p268 := eq_true p268
   replace q268 := eq_true q268
   refine start_ (n := 29) (S := fun w' => w'.cell? ⟨gb261, 0, none⟩ = some (.int .i64 a0_0) ∧ w'.cell? ⟨gb261, 1, none⟩ = some (.int .i64 a0_1) ∧ w'.cell? ⟨gb261, 2, none⟩ = some (.int .i64 a0_2) ∧ w'.cell? ⟨gb261, 3, none⟩ = some (.slice A0_3 l0_3.length c0_3) ∧ w'.cell? ⟨gb261, 4, none⟩ = some (.int .i64 a0_4) ∧ w'.cell? ⟨gb261, 5, none⟩ = some (.int .i64 a0_5) ∧ w'.cell? ⟨gb261, 6, none⟩ = some (.int .i64 a0_6) ∧ w'.cell? ⟨gb261, 7, none⟩ = some (.int .i64 a0_7) ∧ w'.cell? ⟨gb261, 8, none⟩ = some (.slice A0_8 l0_8.length c0_8) ∧ w'.cell? ⟨gb261, 9, none⟩ = some (.int .i64 a0_9) ∧ w'.cell? (ad268.add ((a0_4).toNat * 3)) = some (.int .i64 ((rd_T31 t262 a0_4).f0)) ∧ w'.cell? ⟨(ad268.add ((a0_4).toNat * 3)).block, (ad268.add ((a0_4).toNat * 3)).off + 1, none⟩ = some (.int .i64 ((rd_T31 t262 a0_4).f1)) ∧ w'.cell? ⟨(ad268.add ((a0_4).toNat * 3)).block, (ad268.add ((a0_4).toNat * 3)).off + 2, none⟩ = some (.int .i64 ((rd_T31 t262 a0_4).f2))) (ds := []) #[O, O, O, O, O, O, O, O, O, O, O, O, O, O, O, O, O, O, O, O, O, O, O, O, O, O, O, O, O] (by kernel_rfl) rfl rfl ⟨bc BK261 0, bc BK261 1, bc BK261 2, bc BK261 3, bc BK261 4, bc BK261 5, bc BK261 6, bc BK261 7, bc BK261 8, bc BK261 9, hx268_0, hx268_1, hx268_2⟩ (fun hHeld => ?_); refine with_tabW spec_JobOk.tab2 spec_JobOk.bits2 (fun HT_ HW_ => ?_)
   generalize w6.drew = w14 at HO264 BK261 HB hx268_0 hx268_1 hx268_2 hHeld ⊢
   refine stepP 0 (some 14) (tk 29 1) (any_of HT_.out (by kernel_rfl)) ?_
   refine stepP 1 (some 15) (tk 29 3) (any_of HT_.out (by kernel_rfl)) ?_
   refine stepP 2 (some 16) (tk 29 7) (any_of HT_.out (by kernel_rfl)) ?_
   refine stepP 3 (some 17) (tk 29 15) (any_of HT_.out (by kernel_rfl)) ?_
   refine stepP 5 (some 19) (tk 29 47) (any_of HT_.out (by kernel_rfl)) ?_
   refine stepP 6 (some 20) (tk 29 111) (any_of HT_.out (by kernel_rfl)) ?_
   refine stepT 4 (some 18) (tk 29 127) (take_ofW HT_.out HW_.out (by kernel_rfl)) hHeld ?_
   refine stepT 7 (some 21) (tk 29 255) (take_ofW HT_.out HW_.out (by kernel_rfl)) hHeld ?_
   refine stepP 8 (some 22) (tk 29 511) (any_of HT_.out (by kernel_rfl)) ?_
   refine one_ (i := 9) (N := some 23) #[I, I, I, I, I, I, I, I, I, I, O, O, O, O, O, O, O, O, O, O, O, O, O, O, O, O, O, O, O] rfl rfl (one_of HT_.out (by kernel_rfl)) (by decide) (fun K hK => ?_)
   refine goes_ Try.func94 (by kernel_rfl) rfl #[.int .i64 a0_4, .int .i64 0, .int .i64 (l0_3.length : Int)] (by rfl) rfl rfl (by (try simp only [List.map_toArray, List.map_cons, List.map_nil]); first | done | rfl | (simp only [List.length_drop, List.length_take]; rfl)) ?_
   with_reducible refine (spec_l01In.calls a0_4 0 (l0_3.length : Int) true _ A8.out).mono ?_
   rintro e w' ⟨rfl, ⟨nd, rfl⟩⟩
   refine ⟨_, rfl, ?_⟩
   refine hK.out _ _ ⟨bc BK261 0, bc BK261 1, bc BK261 2, bc BK261 3, bc BK261 4, bc BK261 5, bc BK261 6, bc BK261 7, bc BK261 8, bc BK261 9, hHeld.2.2.2.2.2.2.2.2.2.2.1, hHeld.2.2.2.2.2.2.2.2.2.2.2.1, hHeld.2.2.2.2.2.2.2.2.2.2.2.2⟩ (fun hHeld => ?_)
   clear hK K
   refine normP 23 ?_
   refine stepP 10 (some 24) (tk 29 2047) (any_of HT_.out (by kernel_rfl)) ?_
   refine stepP 11 (some 25) (tk 29 4095) (any_of HT_.out (by kernel_rfl)) ?_
   refine stepP 12 (some 26) (tk 29 8191) (any_of HT_.out (by kernel_rfl)) ?_
   refine stepP 13 (some 27) (tk 29 16383) (any_of HT_.out (by kernel_rfl)) ?_
   refine stepT 14 (some 28) (tk 29 32767) (take_ofW HT_.out HW_.out (by kernel_rfl)) hHeld ?_
   refine one_ (i := 15) (N := some 29) #[I, I, I, I, I, I, I, I, I, I, I, I, I, I, I, I, O, O, O, O, O, O, O, O, O, O, O, O, O] rfl rfl (one_of HT_.out (by kernel_rfl)) (by decide) (fun K hK => ?_)
   refine goes_ Try.func32 (by kernel_rfl) rfl #[.agg #[.int .i64 a0_5, .int .i64 a0_6, .int .i64 a0_7, .slice A0_8 l0_8.length c0_8]] (by rfl) rfl rfl (by (try simp only [List.map_toArray, List.map_cons, List.map_nil]); first | done | rfl | (simp only [List.length_drop, List.length_take]; rfl)) ?_
   with_reducible refine (spec_TensorOk.calls k a0_5 a0_6 a0_7 _ _ l0_8 true _ ?side1 ?side2 A10.out).mono ?_
   (case side1 => exact C_now HR0_8.out)
   (case side2 => exact HC0_8.out)
   rintro e w15 ⟨rfl, hb⟩
   have HS10_ := (hb.cell (World.block_lt_of_cell? _ _ (hHeld.2.2.2.2.2.2.2.2.2.2.1))).trans (hHeld.2.2.2.2.2.2.2.2.2.2.1)
   have HS11_ := (hb.cell (World.block_lt_of_cell? _ _ (hHeld.2.2.2.2.2.2.2.2.2.2.2.1))).trans (hHeld.2.2.2.2.2.2.2.2.2.2.2.1)
   have HS12_ := (hb.cell (World.block_lt_of_cell? _ _ (hHeld.2.2.2.2.2.2.2.2.2.2.2.2))).trans (hHeld.2.2.2.2.2.2.2.2.2.2.2.2)
   refine ⟨_, rfl, ?_⟩
   replace HO264 := Aside0.mk (Kd.R_below (R_at HO264.out) hb)
   replace BK261 := blk_on gb261 hb
   replace HB := bel_on w hb
   (try clear hb)
   obtain ⟨Ao16, co16, eo16⟩ := Kd.R_slice HO264.out
   (first | subst eo16 | (injection eo16 with f1_ f2_ f3_; have f4_ := f1_.symm; have f5_ := f3_.symm; clear f1_ f2_ f3_; subst f4_; subst f5_))
   refine hK.out _ _ ⟨bc BK261 0, bc BK261 1, bc BK261 2, bc BK261 3, bc BK261 4, bc BK261 5, bc BK261 6, bc BK261 7, bc BK261 8, bc BK261 9, HS10_, HS11_, HS12_⟩ (fun hHeld => ?_)
   clear hK K
   refine normP 29 ?_
   refine stepP 16 (some 30) (tk 29 131071) (any_of HT_.out (by kernel_rfl)) ?_
   refine stepP 17 (some 31) (tk 29 262143) (any_of HT_.out (by kernel_rfl)) ?_
   refine stepP 18 (some 32) (tk 29 524287) (any_of HT_.out (by kernel_rfl)) ?_
   refine stepP 19 (some 33) (tk 29 1048575) (any_of HT_.out (by kernel_rfl)) ?_
   refine stepP 20 (some 34) (tk 29 2097151) (any_of HT_.out (by kernel_rfl)) ?_
   refine stepP 22 (some 36) (tk 29 6291455) (any_of HT_.out (by kernel_rfl)) ?_
   refine stepP 23 (some 37) (tk 29 14680063) (any_of HT_.out (by kernel_rfl)) ?_
   refine stepT 21 (some 35) (tk 29 16777215) (take_ofW HT_.out HW_.out (by kernel_rfl)) hHeld ?_
   refine stepT 24 (some 38) (tk 29 33554431) (take_ofW HT_.out HW_.out (by kernel_rfl)) hHeld ?_
   refine stepP 25 (some 39) (tk 29 67108863) (any_of HT_.out (by kernel_rfl)) ?_
   refine stepT 26 (some 40) (tk 29 134217727) (take_ofW HT_.out HW_.out (by kernel_rfl)) hHeld ?_
   refine stepP 27 (some 41) (tk 29 268435455) (any_of HT_.out (by kernel_rfl)) ?_
   refine stepP 28 (some 42) (tk 29 536870911) (any_of HT_.out (by kernel_rfl)) ?_
   refine done_ (done_of HT_.out (by kernel_rfl)) ?_
   try go_wp2
   go_meet
   case rel => exact ⟨_, ((!(a0_5 == ((rd_T31 t262 a0_4).f0)) || (!(a0_6 == ((rd_T31 t262 a0_4).f1)) || (!(a0_7 == ((rd_T31 t262 a0_4).f2)))))), (by first | rfl | (simp; done) | (simp [*]; done)), H', ⟨by first | omega | exact Nat.le_refl _⟩, ⟨bks BK261⟩, ⟨bel_now⟩⟩
  case rest =>
   clear HC3
   try clear p2
   try clear c3
   try clear c7
   try clear c9
   obtain ⟨kq, x42_2, rfl, HA, HJ2, BK261, HB⟩ := hcut
   cases kq with
   | zero => exact absurd HA.out (by simp [spec_JobOk.j0])
   | succ kj2 =>
    have H := HA.out
    clear HA
    simp only [spec_JobOk.j0] at H
    by_cases c21 : x42_2 = true
    ·subst c21
     rw [if_pos rfl] at H
     obtain rfl := Option.some.inj H
     go_wp2
     go_ret
     exact ⟨eqN, bel_now⟩
    replace c21 := Bool.eq_false_iff.mpr c21
    subst c21
    rw [if_neg (show ¬ (false = true) by decide)] at H
    replace H := Option.bind_eq_some_iff.mp H
    obtain ⟨t269, A220, H⟩ := H
    (try dsimp only at H)
    have A22 := Aside0.mk A220
    clear A220
    have H' := Aside0.mk H
    clear H
    have hcz23 := cells10 BK261.out
    go_wp2_with (first | ((with_reducible refine gate_callee (f := 56) rfl ?_); refine goesM (some 45) rfl rfl Try.func56 (by kernel_rfl) rfl #[.agg #[.int .i64 a0_0, .int .i64 a0_1, .int .i64 a0_2, .slice A0_3 l0_3.length c0_3]] rfl ?_; (with_reducible refine (spec_CostsOf.calls kj2 a0_0 a0_1 a0_2 _ _ l0_3 t269 _ ?side1 ?side2 A22.out).mono ?_); (case side1 => exact C_now HR0_3.out); (case side2 => exact HC0_3.out); rintro e w24 ⟨v270, rfl, ho0, hb⟩; refine ⟨_, rfl, ?_⟩; have n0_ := Aside0.mk (Kd.R_lower ho0 (below_size bel_now)); replace HB := bel_on w hb; replace BK261 := blk_on gb261 hb; have HO271 := n0_; clear n0_; (try clear hb); (try clear ho0)))
    go_loopg [6, 7] kj2 (fun kq v6 v7 w' => ∃ (x6_2 : Int) (x7_2 : Int), v6 = .int .i64 x6_2 ∧ v7 = .int .i64 x7_2 ∧ Aside0 (spec_JobOk.l0 kq t269 x6_2 x7_2 a0_0 a0_1 a0_2 l0_3 a0_4 a0_5 a0_6 a0_7 l0_8 a0_9 = some r) ∧ Aside0 (kq ≤ kj2) ∧ Aside0 (Kd.R (Kd.int .i64) 3 w' w.heap.size (fun _ => True) v270 t269) ∧ Aside0 (w'.heap[gb261]? = some (.cells #[.int .i64 a0_0, .int .i64 a0_1, .int .i64 a0_2, (.slice A0_3 l0_3.length c0_3), .int .i64 a0_4, .int .i64 a0_5, .int .i64 a0_6, .int .i64 a0_7, (.slice A0_8 l0_8.length c0_8), .int .i64 a0_9] 55 (0, 0))) ∧ Aside0 (Below w.heap.size w w'))
    case atStart => exact ⟨(0), (0), (by first | rfl | (simp; done) | (simp [*]; done)), (by first | rfl | (simp; done) | (simp [*]; done)), H', ⟨Nat.le_refl _⟩, ⟨by (with_reducible repeat (first | apply Kd.R_alloc | apply Kd.R_drewN | apply Kd.R_drew)); exact HO271.out⟩, ⟨bks BK261⟩, ⟨bel_now⟩⟩
    case round =>
     clear H'
     try clear c2
     try clear p2 p2
     try clear c3
     try clear c5
     try clear c7
     try clear c9
     try clear c21
     try clear hcz23
     obtain ⟨x6_2, x7_2, rfl, rfl, HA, HK2, HO_5, BK261, HB⟩ := hrel
     cases gk with
     | zero => exact absurd HA.out (by simp [spec_JobOk.l0])
     | succ k2 =>
      have H := HA.out
      clear HA
      simp only [spec_JobOk.l0] at H
      by_cases c25 : x7_2 < a0_4
      rotate_left
      ·rw [if_neg c25] at H
       have c25b0 : decide (x7_2 < a0_4) = false := decide_eq_false c25
       clear c25
       obtain rfl := Option.some.inj H
       have hcz30 := cells10 BK261.out
       go_wp2
       go_ret
       exact ⟨eqN, bel_now⟩
      rw [if_pos c25] at H
      have c25b0 : decide (x7_2 < a0_4) = true := decide_eq_true c25
      clear c25
      by_cases c26 : 0 ≤ x7_2
      rotate_left
      ·rw [if_neg c26] at H
       exact absurd H (by simp)
      rw [if_pos c26] at H
      have c26b0 : decide (0 ≤ x7_2) = true := decide_eq_true c26
      clear c26
      by_cases c27 : x7_2 < (t269.length : Int)
      rotate_left
      ·rw [if_neg c27] at H
       exact absurd H (by simp)
      rw [if_pos c27] at H
      have c27b0 : decide (x7_2 < (t269.length : Int)) = true := decide_eq_true c27
      clear c27
      have H' := Aside0.mk H
      clear H
      have hcz28 := cells10 BK261.out
      obtain ⟨Ao29, co29, eo29⟩ := Kd.R_slice HO_5.out
      subst eo29
      have p272 : 0 ≤ (x7_2 : Int) := of_decide_eq_true (by first | (with_reducible assumption) | assumption)
      have q272 : x7_2 < (t269.length : Int) := of_decide_eq_true (by first | (with_reducible assumption) | assumption)
      obtain ⟨ad272, e272, hx272_0⟩ := Kd.at_int (Kd.R_reads' HO_5.out).2.2 x7_2 p272 q272
      cases e272
      replace p272 := eq_true p272
      replace q272 := eq_true q272
      go_wp2
      go_roundg k2
      case measure => have := HJ2.out; have := HK2.out; omega
      case rel => exact ⟨(wrap64 (x6_2 + (rd t269 x7_2))), (wrap64 (x7_2 + 1)), (by first | rfl | (simp; done) | (simp [*]; done)), (by first | rfl | (simp; done) | (simp [*]; done)), H', ⟨by have := HJ2.out; have := HK2.out; omega⟩, ⟨by (with_reducible repeat (first | apply Kd.R_alloc | apply Kd.R_drewN | apply Kd.R_drew)); exact HO_5.out⟩, ⟨bks BK261⟩, ⟨bel_now⟩⟩

end Go.Proofs.Ytclpojeofclbjaa.PFnExactLeftOf
