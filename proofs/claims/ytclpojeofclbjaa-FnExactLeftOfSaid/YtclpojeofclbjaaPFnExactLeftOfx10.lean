-- Printed by the session's own program (wip/myprint.py) for this claim out of the translation. Not trusted: Lean checks it.
import Derived.Test.YtclpojeofclbjaaPFnExactLeftOfx0
import Derived.Test.YtclpojeofclbjaaPFnExactLeftOfx7
import Derived.Test.YtclpojeofclbjaaPFnExactLeftOfx9
namespace Go.Proofs.Ytclpojeofclbjaa.PFnExactLeftOf
open Go.RowKit Go.Proofs.YtclpojeofclbjaaW.PrintWords Go.Proofs.YtclpojeofclbjaaW.PrintLast Go.Proofs.YtclpojeofclbjaaW.PrintMore
attribute [local go_sem] max2_int min2_int max_two min_two max_three min_three max_four min_four   -- for this text's walks alone
set_option linter.unusedVariables false
set_option linter.unusedSimpArgs false

/-! ### spec_CostsOf: function 56 -/
def spec_CostsOf.l0 : Nat → List Int → List (S31) → Int → Int → Int → Int → List (S37) → Option (List Int)
  | 0, _, _, _, _, _, _, _ => none
  | k + 1, x3, x4, x6, x248000, x248001, x248002, x248003 => if x6 < (x248003.length : Int) then (if 0 ≤ x6 then (if x6 < (x4.length : Int) then ((spec_CostOf.f k ((rd_T31 x4 x6).f0) ((rd_T31 x4 x6).f1) ((rd_T31 x4 x6).f2) ((rd_T37 x248003 x6).f0) ((rd_T37 x248003 x6).f1) ((rd_T37 x248003 x6).f2) ((rd_T37 x248003 x6).f3) ((rd_T37 x248003 x6).f4) ((rd_T37 x248003 x6).f5) ((rd_T37 x248003 x6).f6) ((rd_T37 x248003 x6).f7) ((rd_T37 x248003 x6).f8)).bind fun t257 => (if x3.length < 17592186044416 then (spec_CostsOf.l0 k (x3 ++ [t257]) x4 (wrap64 (x6 + 1)) x248000 x248001 x248002 x248003) else (none))) else (none)) else (none)) else (some x3)
def spec_CostsOf.f (k : Nat) (a0_0 : Int) (a0_1 : Int) (a0_2 : Int) (l0_3 : List (S37)) : Option (List Int) := (spec_l04Shapes.f k a0_0 a0_1 a0_2 l0_3).bind fun bt251 => (if bt251.2 = true then (spec_CostsOf.l0 k (([] : List Int)) bt251.1 0 a0_0 a0_1 a0_2 l0_3) else (some ([] : List Int)))
def spec_CostsOf.T8 : Bool × List (List Nat × List Nat) := (true, [([], []), ([], []), ([], []), ([1, 2], [1, 2]), ([3], [3]), ([], []), ([5], [5]), ([], []), ([6, 7], [6, 7]), ([8], [8]), ([4, 9], [4, 9]), ([10], [10]), ([0, 11, 10], [0, 11]), ([12, 12, 0, 1, 2, 3, 4, 5, 6, 7, 8, 9, 10, 11, 12], [0, 12])])
def spec_CostsOf.B8 : List Nat := [0, 0, 0, 6, 14, 0, 32, 0, 224, 480, 1022, 2046, 4095, 8191]
theorem spec_CostsOf.tab8 : rtab .any (opsOf Try.f56 8) = spec_CostsOf.T8 := by kernel_rfl
theorem spec_CostsOf.bits8 : waitsOk spec_CostsOf.T8.2 spec_CostsOf.B8 = true := by kernel_rfl
set_option maxHeartbeats 8000000 in
set_option maxRecDepth 100000 in
theorem spec_CostsOf.calls (k : Nat) (a0_0 : Int) (a0_1 : Int) (a0_2 : Int) (A0_3 : Option Addr) (c0_3 : Nat) (l0_3 : List (S37)) (r : List Int) (w : World) (hr0_3 : Kd.C k37 w A0_3 l0_3.length l0_3) (hc0_3 : l0_3.length ≤ c0_3) (h : spec_CostsOf.f k a0_0 a0_1 a0_2 l0_3 = some r) :
   Calls Try.prog 56 #[.agg #[.int .i64 a0_0, .int .i64 a0_1, .int .i64 a0_2, .slice A0_3 l0_3.length c0_3]] w fun e w' => ∃ v0_ : Value, e = .returned (v0_) ∧ Kd.R (Kd.int .i64) 3 w' w.heap.size (fun _ => True) v0_ r ∧ Below w.heap.size w w' := by
  have hu53 := Try.underlying53
  have hu31 := Try.underlying31
  have hu37 := Try.underlying37
  have HR0_3 := Aside0.mk hr0_3
  have HC0_3 := Aside0.mk hc0_3
  clear hr0_3 hc0_3
  have HB := Aside0.mk (Below.refl w.heap.size w)
  have H : ((spec_l04Shapes.f k a0_0 a0_1 a0_2 l0_3).bind fun bt251 => (if bt251.2 = true then (spec_CostsOf.l0 k (([] : List Int)) bt251.1 0 a0_0 a0_1 a0_2 l0_3) else (some ([] : List Int)))) = some r := h
  clear h
  obtain ⟨y248, hy248⟩ : ∃ y_ : List Int, y_ = (([] : List Int)) := ⟨_, rfl⟩
  replace H : ((spec_l04Shapes.f k a0_0 a0_1 a0_2 l0_3).bind fun bt251 => (if bt251.2 = true then (spec_CostsOf.l0 k y248 bt251.1 0 a0_0 a0_1 a0_2 l0_3) else (some ([] : List Int)))) = some r := by first | (rw [hy248]; with_reducible exact H) | (have H2_ := (Option.bind_some _ _).symm.trans H; rw [hy248]; with_reducible exact H2_) | (have H2_ := (Option.bind_some _ _).symm.trans H; with_reducible exact H2_) | with_reducible exact H | (rw [hy248]; exact H) | exact H
  have Ny248 := Aside0.mk hy248
  clear hy248
  replace H := Option.bind_eq_some_iff.mp H
  obtain ⟨⟨t251, t254⟩, A20, H⟩ := H
  (try dsimp only at H)
  have A2 := Aside0.mk A20
  clear A20
  by_cases c3 : t254 = true
  rotate_left
  ·replace c3 := Bool.eq_false_iff.mpr c3
   subst c3
   rw [if_neg (show ¬ (false = true) by decide)] at H
   obtain rfl := Option.some.inj H
   go_enter Try.func56, Try.ntmps56
   go_wp2_with (first | ((with_reducible refine gate_dst (N := 1) rfl ?_); refine boxM 1 #[.int .i64 a0_0, .int .i64 a0_1, .int .i64 a0_2, .slice A0_3 l0_3.length c0_3] 53 ?_; intro gb247 hg w20 BK247 hb; replace HB := box_at w hb hg; obtain ⟨HB, GW247, GE247⟩ := HB; clear hb hg) | ((with_reducible refine gate_dst (N := 7) rfl ?_); refine Kd.R_lit (Kd.int .i64) _ 3 ?hg (N := 7) ?hd (xs := ([] : List Int)) (inner := []) (ok := fun _ => True) (okp := fun _ => True) ?hr ?hp (fun _ hk => hk) trivial (Below.refl _ _) (Nat.le_refl _) (by simp) ?_; (case hd => rfl); (case hg => rfl); (case hr => first | (go_simp; done) | (go_simp; rfl)); (case hp => exact (Reps.none _ _)); intro v249 w21 ho22 hb hg_ hnew_; clear hg_ hnew_; (first | rw [← Ny248.out] at ho22 | (simp only [Int.reduceToNat] at ho22; rw [← Ny248.out] at ho22)); have n0_ := Aside0.mk (Kd.R_lower ho22 (below_size bel_now)); replace HB := bel_on w hb; replace BK247 := blk_on gb247 hb; have HO250 := n0_; clear n0_; clear hb ho22; have hcz23 := cells4 BK247.out) | ((with_reducible refine gate_callee (f := 107) rfl ?_); refine goesM (some 10) rfl rfl Try.func107 (by kernel_rfl) rfl #[.agg #[.int .i64 a0_0, .int .i64 a0_1, .int .i64 a0_2, .slice A0_3 l0_3.length c0_3]] rfl ?_; (with_reducible refine (spec_l04Shapes.calls k a0_0 a0_1 a0_2 _ _ l0_3 t251 false _ ?side1 ?side2 A2.out).mono ?_); (case side1 => exact C_now HR0_3.out); (case side2 => exact HC0_3.out); rintro e w24 ⟨v252, rfl, ho0, hb⟩; refine ⟨_, rfl, ?_⟩; have n1_ := Aside0.mk (Kd.R_lower ho0 (below_size bel_now)); replace HO250 := Aside0.mk (Kd.R_below (R_at HO250.out) hb); replace HB := bel_on w hb; replace BK247 := blk_on gb247 hb; have HO253 := n1_; clear n1_; (try clear hb); (try clear ho0)))
   go_ret
   exact ⟨_, eqN, by first | exact Kd.R_nil _ _ _ _ _ | exact Kd.N_nil _ _ _ _ _ | exact Kd.V_nil _ _ _ _ _ | exact Kd.Q_nil _ _ _ _ _ | exact Kd.S_nil _ _ _ _ _, bel_now⟩
  subst c3
  rw [if_pos rfl] at H
  have H' := Aside0.mk H
  clear H
  go_enter Try.func56, Try.ntmps56
  go_wp2_with (first | ((with_reducible refine gate_dst (N := 1) rfl ?_); refine boxM 1 #[.int .i64 a0_0, .int .i64 a0_1, .int .i64 a0_2, .slice A0_3 l0_3.length c0_3] 53 ?_; intro gb247 hg w4 BK247 hb; replace HB := box_at w hb hg; obtain ⟨HB, GW247, GE247⟩ := HB; clear hb hg) | ((with_reducible refine gate_dst (N := 7) rfl ?_); refine Kd.R_lit (Kd.int .i64) _ 3 ?hg (N := 7) ?hd (xs := ([] : List Int)) (inner := []) (ok := fun _ => True) (okp := fun _ => True) ?hr ?hp (fun _ hk => hk) trivial (Below.refl _ _) (Nat.le_refl _) (by simp) ?_; (case hd => rfl); (case hg => rfl); (case hr => first | (go_simp; done) | (go_simp; rfl)); (case hp => exact (Reps.none _ _)); intro v249 w5 ho6 hb hg_ hnew_; clear hg_ hnew_; (first | rw [← Ny248.out] at ho6 | (simp only [Int.reduceToNat] at ho6; rw [← Ny248.out] at ho6)); have n0_ := Aside0.mk (Kd.R_lower ho6 (below_size bel_now)); replace HB := bel_on w hb; replace BK247 := blk_on gb247 hb; have HO250 := n0_; clear n0_; clear hb ho6; have hcz7 := cells4 BK247.out) | ((with_reducible refine gate_callee (f := 107) rfl ?_); refine goesM (some 10) rfl rfl Try.func107 (by kernel_rfl) rfl #[.agg #[.int .i64 a0_0, .int .i64 a0_1, .int .i64 a0_2, .slice A0_3 l0_3.length c0_3]] rfl ?_; (with_reducible refine (spec_l04Shapes.calls k a0_0 a0_1 a0_2 _ _ l0_3 t251 true _ ?side1 ?side2 A2.out).mono ?_); (case side1 => exact C_now HR0_3.out); (case side2 => exact HC0_3.out); rintro e w8 ⟨v252, rfl, ho0, hb⟩; refine ⟨_, rfl, ?_⟩; have n1_ := Aside0.mk (Kd.R_lower ho0 (below_size bel_now)); replace HO250 := Aside0.mk (Kd.R_below (R_at HO250.out) hb); replace HB := bel_on w hb; replace BK247 := blk_on gb247 hb; have HO253 := n1_; clear n1_; (try clear hb); (try clear ho0)))
  go_loopg [3, 6] k (fun kq v3 v6 w' => ∃ (x3_1 : List Int) (x6_1 : Int), v6 = .int .i64 x6_1 ∧ Aside0 (spec_CostsOf.l0 kq x3_1 t251 x6_1 a0_0 a0_1 a0_2 l0_3 = some r) ∧ Aside0 (kq ≤ k) ∧ Aside0 (Kd.R (Kd.int .i64) 3 w' w.heap.size (fun _ => True) v3 x3_1) ∧ Aside0 (Kd.R k31 31 w' w.heap.size (fun _ => True) v252 t251) ∧ Aside0 (w'.heap[gb247]? = some (.cells #[.int .i64 a0_0, .int .i64 a0_1, .int .i64 a0_2, (.slice A0_3 l0_3.length c0_3)] 53 (0, 0))) ∧ Aside0 (Below w.heap.size w w'))
  case atStart => exact ⟨(y248), (0), (by first | rfl | (simp; done) | (simp [*]; done)), H', ⟨Nat.le_refl _⟩, ⟨by (with_reducible repeat (first | apply Kd.R_alloc | apply Kd.R_drewN | apply Kd.R_drew)); exact HO250.out⟩, ⟨by (with_reducible repeat (first | apply Kd.R_alloc | apply Kd.R_drewN | apply Kd.R_drew)); exact HO253.out⟩, ⟨bks BK247⟩, ⟨bel_now⟩⟩
  case round =>
   clear H'
   try clear c1
   try clear p2
   try clear c3
   try clear c5
   try clear hcz7
   obtain ⟨x3_1, x6_1, rfl, HA, HK1, HO_3, HO_4, BK247, HB⟩ := hrel
   cases gk with
   | zero => exact absurd HA.out (by simp [spec_CostsOf.l0])
   | succ k1 =>
    have H := HA.out
    clear HA
    simp only [spec_CostsOf.l0] at H
    by_cases c9 : x6_1 < (l0_3.length : Int)
    rotate_left
    ·rw [if_neg c9] at H
     have c9b0 : decide (x6_1 < (l0_3.length : Int)) = false := decide_eq_false c9
     clear c9
     obtain rfl := Option.some.inj H
     have hcz19 := cells4 BK247.out
     go_wp2
     go_ret
     exact ⟨_, eqN, by (with_reducible repeat (first | apply Kd.R_alloc | apply Kd.R_drewN | apply Kd.R_drew)); exact HO_3.out, bel_now⟩
    rw [if_pos c9] at H
    have c9b0 : decide (x6_1 < (l0_3.length : Int)) = true := decide_eq_true c9
    clear c9
    by_cases c10 : 0 ≤ x6_1
    rotate_left
    ·rw [if_neg c10] at H
     exact absurd H (by simp)
    rw [if_pos c10] at H
    have c10b0 : decide (0 ≤ x6_1) = true := decide_eq_true c10
    clear c10
    by_cases c11 : x6_1 < (t251.length : Int)
    rotate_left
    ·rw [if_neg c11] at H
     exact absurd H (by simp)
    rw [if_pos c11] at H
    have c11b0 : decide (x6_1 < (t251.length : Int)) = true := decide_eq_true c11
    clear c11
    replace H := Option.bind_eq_some_iff.mp H
    obtain ⟨t257, A120, H⟩ := H
    (try dsimp only at H)
    have A12 := Aside0.mk A120
    clear A120
    by_cases c13 : x3_1.length < 17592186044416
    rotate_left
    ·rw [if_neg c13] at H
     exact absurd H (by simp)
    rw [if_pos c13] at H
    have LMc13 := Aside0.mk c13
    clear c13
    obtain ⟨y258, hy258⟩ : ∃ y_ : List Int, y_ = (x3_1 ++ [t257]) := ⟨_, rfl⟩
    replace H : (spec_CostsOf.l0 k1 y258 t251 (wrap64 (x6_1 + 1)) a0_0 a0_1 a0_2 l0_3) = some r := by first | (rw [hy258]; with_reducible exact H) | (have H2_ := (Option.bind_some _ _).symm.trans H; rw [hy258]; with_reducible exact H2_) | (have H2_ := (Option.bind_some _ _).symm.trans H; with_reducible exact H2_) | with_reducible exact H | (rw [hy258]; exact H) | exact H
    have Ny258 := Aside0.mk hy258
    clear hy258
    have H' := Aside0.mk H
    clear H
    have hcz14 := cells4 BK247.out
    try go_wp2
    replace HO_3 := Aside0.mk (Kd.R_drew HO_3.out)
    replace HO_4 := Aside0.mk (Kd.R_drew HO_4.out)
    replace BK247 := Aside0.mk (blk_drew BK247.out)
    replace HB := Aside0.mk (below_drew1 HB.out)
    obtain ⟨Ao16, co16, eo16⟩ := Kd.R_slice HO_4.out
    (first | subst eo16 | (injection eo16 with f1_ f2_ f3_; have f4_ := f1_.symm; have f5_ := f3_.symm; clear f1_ f2_ f3_; subst f4_; subst f5_))
    have p255 : 0 ≤ (x6_1 : Int) := of_decide_eq_true (by first | (with_reducible assumption) | assumption)
    have q255 : x6_1 < (t251.length : Int) := of_decide_eq_true (by first | (with_reducible assumption) | assumption)
    (try (obtain ⟨_, _, eo_⟩ := Kd.R_slice HO_4.out; subst eo_))
    obtain ⟨ad255, e255, hx255_0, hx255_1, hx255_2⟩ := at_T31 (Kd.R_reads' HO_4.out).2.2 x6_1 p255 q255
    cases e255
    replace p255 := eq_true p255
    replace q255 := eq_true q255
    have p256 : 0 ≤ (x6_1 : Int) := of_decide_eq_true (by first | (with_reducible assumption) | assumption)
    have q256 : x6_1 < (l0_3.length : Int) := of_decide_eq_true (by first | (with_reducible assumption) | assumption)
    obtain ⟨ad256, A256_7, c256_7, A256_8, c256_8, e256, hx256_0, hx256_1, hx256_2, hx256_3, hx256_4, hx256_5, hx256_6, hx256_7, hx256_8, hl256_7, hi256_7, hl256_8, hi256_8⟩ := at_T37 HR0_3.out x6_1 p256 q256
    have hw256_8 := hx256_8
    have hw256_7 := hx256_7
    have hw256_6 := hx256_6
    have hw256_5 := hx256_5
    have hw256_4 := hx256_4
    have hw256_3 := hx256_3
    have hw256_2 := hx256_2
    have hw256_1 := hx256_1
    have hw256_0 := hx256_0
    cases e256
    replace hx256_0 := (HB.out.cell (World.block_lt_of_cell? w _ hx256_0)).trans hx256_0
    replace hx256_1 := (HB.out.cell (World.block_lt_of_cell? w _ hx256_1)).trans hx256_1
    replace hx256_2 := (HB.out.cell (World.block_lt_of_cell? w _ hx256_2)).trans hx256_2
    replace hx256_3 := (HB.out.cell (World.block_lt_of_cell? w _ hx256_3)).trans hx256_3
    replace hx256_4 := (HB.out.cell (World.block_lt_of_cell? w _ hx256_4)).trans hx256_4
    replace hx256_5 := (HB.out.cell (World.block_lt_of_cell? w _ hx256_5)).trans hx256_5
    replace hx256_6 := (HB.out.cell (World.block_lt_of_cell? w _ hx256_6)).trans hx256_6
    replace hx256_7 := (HB.out.cell (World.block_lt_of_cell? w _ hx256_7)).trans hx256_7
    replace hx256_8 := (HB.out.cell (World.block_lt_of_cell? w _ hx256_8)).trans hx256_8
    have HR256_7 := Aside0.mk hi256_7
    have HC256_7 := Aside0.mk hl256_7
    clear hi256_7 hl256_7
    have HR256_8 := Aside0.mk hi256_8
    have HC256_8 := Aside0.mk hl256_8
    clear hi256_8 hl256_8
    replace p256 := eq_true p256
    replace q256 := eq_true q256
    refine start_ (n := 14) (S := fun w' => w'.cell? ⟨gb247, 0, none⟩ = some (.int .i64 a0_0) ∧ w'.cell? ⟨gb247, 1, none⟩ = some (.int .i64 a0_1) ∧ w'.cell? ⟨gb247, 2, none⟩ = some (.int .i64 a0_2) ∧ w'.cell? ⟨gb247, 3, none⟩ = some (.slice (some ad256) l0_3.length c0_3) ∧ w'.cell? (ad255.add ((x6_1).toNat * 3)) = some (.int .i64 ((rd_T31 t251 x6_1).f0)) ∧ w'.cell? ⟨(ad255.add ((x6_1).toNat * 3)).block, (ad255.add ((x6_1).toNat * 3)).off + 1, none⟩ = some (.int .i64 ((rd_T31 t251 x6_1).f1)) ∧ w'.cell? ⟨(ad255.add ((x6_1).toNat * 3)).block, (ad255.add ((x6_1).toNat * 3)).off + 2, none⟩ = some (.int .i64 ((rd_T31 t251 x6_1).f2)) ∧ w'.cell? (ad256.add ((x6_1).toNat * 9)) = some (.int .i64 ((rd_T37 l0_3 x6_1).f0)) ∧ w'.cell? ⟨(ad256.add ((x6_1).toNat * 9)).block, (ad256.add ((x6_1).toNat * 9)).off + 1, none⟩ = some (.int .i64 ((rd_T37 l0_3 x6_1).f1)) ∧ w'.cell? ⟨(ad256.add ((x6_1).toNat * 9)).block, (ad256.add ((x6_1).toNat * 9)).off + 2, none⟩ = some (.int .i64 ((rd_T37 l0_3 x6_1).f2)) ∧ w'.cell? ⟨(ad256.add ((x6_1).toNat * 9)).block, (ad256.add ((x6_1).toNat * 9)).off + 3, none⟩ = some (.int .i64 ((rd_T37 l0_3 x6_1).f3)) ∧ w'.cell? ⟨(ad256.add ((x6_1).toNat * 9)).block, (ad256.add ((x6_1).toNat * 9)).off + 4, none⟩ = some (.int .i64 ((rd_T37 l0_3 x6_1).f4)) ∧ w'.cell? ⟨(ad256.add ((x6_1).toNat * 9)).block, (ad256.add ((x6_1).toNat * 9)).off + 5, none⟩ = some (.int .i64 ((rd_T37 l0_3 x6_1).f5)) ∧ w'.cell? ⟨(ad256.add ((x6_1).toNat * 9)).block, (ad256.add ((x6_1).toNat * 9)).off + 6, none⟩ = some (.int .i64 ((rd_T37 l0_3 x6_1).f6)) ∧ w'.cell? ⟨(ad256.add ((x6_1).toNat * 9)).block, (ad256.add ((x6_1).toNat * 9)).off + 7, none⟩ = some (.slice A256_7 ((rd_T37 l0_3 x6_1).f7).length c256_7) ∧ w'.cell? ⟨(ad256.add ((x6_1).toNat * 9)).block, (ad256.add ((x6_1).toNat * 9)).off + 8, none⟩ = some (.slice A256_8 ((rd_T37 l0_3 x6_1).f8).length c256_8)) (ds := [11, 12]) #[O, O, O, O, O, O, O, O, O, O, O, O, O, O] (by kernel_rfl) rfl rfl ⟨bc BK247 0, bc BK247 1, bc BK247 2, bc BK247 3, hx255_0, hx255_1, hx255_2, ((HB.out.cell (World.block_lt_of_cell? w _ hw256_0)).trans hw256_0), ((HB.out.cell (World.block_lt_of_cell? w _ hw256_1)).trans hw256_1), ((HB.out.cell (World.block_lt_of_cell? w _ hw256_2)).trans hw256_2), ((HB.out.cell (World.block_lt_of_cell? w _ hw256_3)).trans hw256_3), ((HB.out.cell (World.block_lt_of_cell? w _ hw256_4)).trans hw256_4), ((HB.out.cell (World.block_lt_of_cell? w _ hw256_5)).trans hw256_5), ((HB.out.cell (World.block_lt_of_cell? w _ hw256_6)).trans hw256_6), ((HB.out.cell (World.block_lt_of_cell? w _ hw256_7)).trans hw256_7), ((HB.out.cell (World.block_lt_of_cell? w _ hw256_8)).trans hw256_8)⟩ (fun hHeld => ?_); refine with_tabW spec_CostsOf.tab8 spec_CostsOf.bits8 (fun HT_ HW_ => ?_)
    generalize wr.drew = w15 at HO_3 HO_4 BK247 HB HR256_7 HR256_8 hx255_0 hx255_1 hx255_2 hx256_0 hx256_1 hx256_2 hx256_3 hx256_4 hx256_5 hx256_6 hx256_7 hx256_8 hHeld ⊢
    refine stepP 0 (some 22) (tk 14 1) (any_of HT_.out (by kernel_rfl)) ?_
    refine stepP 1 (some 23) (tk 14 3) (any_of HT_.out (by kernel_rfl)) ?_
    refine stepP 2 (some 24) (tk 14 7) (any_of HT_.out (by kernel_rfl)) ?_
    refine stepP 3 (some 25) (tk 14 15) (any_of HT_.out (by kernel_rfl)) ?_
    refine stepP 5 (some 27) (tk 14 47) (any_of HT_.out (by kernel_rfl)) ?_
    refine stepP 7 (some 29) (tk 14 175) (any_of HT_.out (by kernel_rfl)) ?_
    refine stepT 4 (some 26) (tk 14 191) (take_ofW HT_.out HW_.out (by kernel_rfl)) hHeld ?_
    refine stepT 6 (some 28) (tk 14 255) (take_ofW HT_.out HW_.out (by kernel_rfl)) hHeld ?_
    refine stepP 8 (some 30) (tk 14 511) (any_of HT_.out (by kernel_rfl)) ?_
    refine stepT 9 (some 31) (tk 14 1023) (take_ofW HT_.out HW_.out (by kernel_rfl)) hHeld ?_
    refine one_ (i := 10) (N := some 32) #[I, I, I, I, I, I, I, I, I, I, I, O, O, O] rfl rfl (one_of HT_.out (by kernel_rfl)) (by decide) (fun K hK => ?_)
    refine goes_ Try.func34 (by kernel_rfl) rfl #[.agg #[.int .i64 ((rd_T31 t251 x6_1).f0), .int .i64 ((rd_T31 t251 x6_1).f1), .int .i64 ((rd_T31 t251 x6_1).f2)], .agg #[.int .i64 ((rd_T37 l0_3 x6_1).f0), .int .i64 ((rd_T37 l0_3 x6_1).f1), .int .i64 ((rd_T37 l0_3 x6_1).f2), .int .i64 ((rd_T37 l0_3 x6_1).f3), .int .i64 ((rd_T37 l0_3 x6_1).f4), .int .i64 ((rd_T37 l0_3 x6_1).f5), .int .i64 ((rd_T37 l0_3 x6_1).f6), .slice A256_7 ((rd_T37 l0_3 x6_1).f7).length c256_7, .slice A256_8 ((rd_T37 l0_3 x6_1).f8).length c256_8]] (by rfl) rfl rfl (by (try simp only [List.map_toArray, List.map_cons, List.map_nil]); first | done | rfl | (simp only [List.length_drop, List.length_take]; rfl)) ?_
    with_reducible refine (spec_CostOf.calls k1 ((rd_T31 t251 x6_1).f0) ((rd_T31 t251 x6_1).f1) ((rd_T31 t251 x6_1).f2) ((rd_T37 l0_3 x6_1).f0) ((rd_T37 l0_3 x6_1).f1) ((rd_T37 l0_3 x6_1).f2) ((rd_T37 l0_3 x6_1).f3) ((rd_T37 l0_3 x6_1).f4) ((rd_T37 l0_3 x6_1).f5) ((rd_T37 l0_3 x6_1).f6) _ _ ((rd_T37 l0_3 x6_1).f7) _ _ ((rd_T37 l0_3 x6_1).f8) t257 _ ?side1 ?side2 ?side3 ?side4 A12.out).mono ?_
    (case side1 => exact C_now HR256_7.out)
    (case side2 => exact HC256_7.out)
    (case side3 => exact C_now HR256_8.out)
    (case side4 => exact HC256_8.out)
    rintro e w17 ⟨rfl, hb⟩
    have HS4_ := (hb.cell (World.block_lt_of_cell? _ _ (hHeld.2.2.2.2.1))).trans (hHeld.2.2.2.2.1)
    have HS5_ := (hb.cell (World.block_lt_of_cell? _ _ (hHeld.2.2.2.2.2.1))).trans (hHeld.2.2.2.2.2.1)
    have HS6_ := (hb.cell (World.block_lt_of_cell? _ _ (hHeld.2.2.2.2.2.2.1))).trans (hHeld.2.2.2.2.2.2.1)
    refine ⟨_, rfl, ?_⟩
    replace HO_3 := Aside0.mk (Kd.R_below (R_at HO_3.out) hb)
    replace HO_4 := Aside0.mk (Kd.R_below (R_at HO_4.out) hb)
    replace BK247 := blk_on gb247 hb
    replace HB := bel_on w hb
    (try clear hb)
    refine hK.out _ _ ⟨bc BK247 0, bc BK247 1, bc BK247 2, bc BK247 3, HS4_, HS5_, HS6_, ((HB.out.cell (World.block_lt_of_cell? w _ hw256_0)).trans hw256_0), ((HB.out.cell (World.block_lt_of_cell? w _ hw256_1)).trans hw256_1), ((HB.out.cell (World.block_lt_of_cell? w _ hw256_2)).trans hw256_2), ((HB.out.cell (World.block_lt_of_cell? w _ hw256_3)).trans hw256_3), ((HB.out.cell (World.block_lt_of_cell? w _ hw256_4)).trans hw256_4), ((HB.out.cell (World.block_lt_of_cell? w _ hw256_5)).trans hw256_5), ((HB.out.cell (World.block_lt_of_cell? w _ hw256_6)).trans hw256_6), ((HB.out.cell (World.block_lt_of_cell? w _ hw256_7)).trans hw256_7), ((HB.out.cell (World.block_lt_of_cell? w _ hw256_8)).trans hw256_8)⟩ (fun hHeld => ?_)
    clear hK K
    refine normP 32 ?_
    refine last_ (i := 11) (N := some 33) #[I, I, I, I, I, I, I, I, I, I, I, I, O, O] rfl rfl (one_of HT_.out (by kernel_rfl)) (by decide) (fun K hK => ?_)
    refine value_ (w1 := ?_) (v := ?_) (by rfl) rfl ?_ ?_
    rotate_left 2
    ·go_simp
     constructor
     ·rfl
     rfl
    refine hK.out _ _ ?_
    clear hK K
    refine normP 33 ?_
    refine last_ (i := 12) (N := some 34) #[I, I, I, I, I, I, I, I, I, I, I, I, I, O] rfl rfl (one_of HT_.out (by kernel_rfl)) (by decide) (fun K hK => ?_)
    refine Kd.R_append_step (Kd.int .i64) (w0 := w) w.heap.size (by rfl) (.tmp 22) (.tmp 33) 24 3 (.int .i64 0) 8 rfl Try.underlying24 info3 rfl (by decide) (by omega) u3 x3_1 t257 [.int .i64 t257] (fun _ => True) (fun _ => False) rfl rfl ?aP (fun _ hk => hk.elim) ?aF ?aO ?aB ?aS ?aL ?_
    (case aP => exact rfl)
    (case aB => exact bel_now)
    (case aF => exact (fun _ _ => trivial))
    (case aO => exact (R_at HO_3.out))
    (case aS => exact (below_size bel_now))
    (case aL => have := LMc13.out; omega)
    intro v259 w18 ho hb hg hat
    rw [← Ny258.out] at ho
    have n3_ := Aside0.mk (ho)
    replace HO_4 := Aside0.mk (Kd.R_over' (R_at HO_4.out) (Kd.R_typed (R_at HO_3.out)) (by decide) hg)
    replace BK247 := Aside0.mk (blk_grown (g := gb247) blk_now hg (Kd.R_ne HO_3.out BK247.out (by decide)))
    replace HB := Aside0.mk (hb)
    clear HO_3
    have HO260 := n3_
    clear n3_
    clear ho hb hg hat
    refine hK.out _ _ ?_
    clear hK K
    refine normP 34 ?_
    refine stepP 13 (some 3) (tk 14 16383) (any_of HT_.out (by kernel_rfl)) ?_
    refine done_ (done_of HT_.out (by kernel_rfl)) ?_
    try go_wp2
    go_roundg k1
    case measure => have := HK1.out; omega
    case rel => exact ⟨(y258), (wrap64 (x6_1 + 1)), (by first | rfl | (simp; done) | (simp [*]; done)), H', ⟨by have := HK1.out; omega⟩, ⟨by (with_reducible repeat (first | apply Kd.R_alloc | apply Kd.R_drewN | apply Kd.R_drew)); exact HO260.out⟩, ⟨by (with_reducible repeat (first | apply Kd.R_alloc | apply Kd.R_drewN | apply Kd.R_drew)); exact HO_4.out⟩, ⟨bks BK247⟩, ⟨bel_now⟩⟩

end Go.Proofs.Ytclpojeofclbjaa.PFnExactLeftOf
