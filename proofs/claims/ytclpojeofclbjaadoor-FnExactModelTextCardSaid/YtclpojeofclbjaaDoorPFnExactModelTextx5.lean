-- Printed by the session's own program (wip/myprint.py) for this claim out of the translation. Not trusted: Lean checks it.
import Derived.Test.YtclpojeofclbjaaDoorPFnExactModelTextx0
import Derived.Test.YtclpojeofclbjaaDoorPFnExactModelTextx1
import Derived.Test.YtclpojeofclbjaaDoorPFnExactModelTextx4
namespace Go.Proofs.YtclpojeofclbjaaDoor.PFnExactModelText
open Go.RowKit Go.Proofs.YtclpojeofclbjaaDoorW.PrintWords Go.Proofs.YtclpojeofclbjaaDoorW.PrintLast Go.Proofs.YtclpojeofclbjaaDoorW.PrintMore
attribute [local go_sem] max2_int min2_int max_two min_two max_three min_three max_four min_four   -- for this text's walks alone
set_option linter.unusedVariables false
set_option linter.unusedSimpArgs false

/-! ### spec_l04Shapes: function 38 -/
mutual
def spec_l04Shapes.j0 : Nat → List (S29) → Bool → Int → Int → Int → List (S49) → Option ((List (S29)) × Bool)
  | 0, _, _, _, _, _, _ => none
  | k + 1, x4, x21, x185000, x185001, x185002, x185003 => if x21 = true then (some (([] : List (S29)), false)) else (spec_l04Shapes.l0 k x4 0 x185000 x185001 x185002 x185003)
def spec_l04Shapes.l0 : Nat → List (S29) → Int → Int → Int → Int → List (S49) → Option ((List (S29)) × Bool)
  | 0, _, _, _, _, _, _ => none
  | k + 1, x4, x5, x185000, x185001, x185002, x185003 => if x5 < (x185003.length : Int) then (if 0 ≤ x5 then (if x5 < (x4.length : Int) then ((spec_OutShape.f k ((rd_T29 x4 x5).f0) ((rd_T29 x4 x5).f1) ((rd_T29 x4 x5).f2) ((rd_T49 x185003 x5).f0) ((rd_T49 x185003 x5).f1) ((rd_T49 x185003 x5).f2) ((rd_T49 x185003 x5).f3) ((rd_T49 x185003 x5).f4) ((rd_T49 x185003 x5).f5) ((rd_T49 x185003 x5).f6) ((rd_T49 x185003 x5).f7) ((rd_T49 x185003 x5).f8)).bind fun bt192 => (if bt192.2.2.2 = true then (if x4.length < 5864062014805 then (spec_l04Shapes.l0 k (x4 ++ [(⟨bt192.1, bt192.2.1, bt192.2.2.1⟩ : S29)]) (wrap64 (x5 + 1)) x185000 x185001 x185002 x185003) else (none)) else (some (([] : List (S29)), false)))) else (none)) else (none)) else (some (x4, true))
end
def spec_l04Shapes.f (k : Nat) (a0_0 : Int) (a0_1 : Int) (a0_2 : Int) (l0_3 : List (S49)) : Option ((List (S29)) × Bool) := (some (([(⟨a0_0, a0_1, a0_2⟩ : S29)] : List (S29)) : List (S29))).bind fun y185 => ((spec_ShapeOk.f a0_0 a0_1 a0_2).bind fun t188 => (if t188 = true then ((spec_l01In.f (l0_3.length : Int) 1 6).bind fun t189 => (spec_l04Shapes.j0 k y185 (!t189) a0_0 a0_1 a0_2 l0_3)) else (spec_l04Shapes.j0 k y185 true a0_0 a0_1 a0_2 l0_3)))
def spec_l04Shapes.T7 : Bool × List (List Nat × List Nat) := (true, [([], []), ([], []), ([0, 1], [0, 1]), ([2], [2]), ([], []), ([4], [4]), ([], []), ([5, 6], [5, 6]), ([7], [7]), ([3, 8], [3, 8]), ([9], [9]), ([10], [10]), ([10], [10]), ([], []), ([13, 11, 9, 0, 1, 2, 3, 4, 5, 6, 7, 8, 9, 10, 11, 13], [11, 13]), ([12, 14, 0, 1, 2, 3, 4, 5, 6, 7, 8, 9, 10, 11, 12, 13, 14], [12])])
def spec_l04Shapes.B7 : List Nat := [0, 0, 3, 7, 0, 16, 0, 112, 240, 511, 1023, 2047, 2047, 0, 12287, 32767]
theorem spec_l04Shapes.tab7 : rtab .any (opsOf Tryd.f38 7) = spec_l04Shapes.T7 := by kernel_rfl
theorem spec_l04Shapes.bits7 : waitsOk spec_l04Shapes.T7.2 spec_l04Shapes.B7 = true := by kernel_rfl
set_option maxHeartbeats 8000000 in
set_option maxRecDepth 100000 in
theorem spec_l04Shapes.calls (k : Nat) (a0_0 : Int) (a0_1 : Int) (a0_2 : Int) (A0_3 : Option Addr) (c0_3 : Nat) (l0_3 : List (S49)) (r1 : List (S29)) (r2 : Bool) (w : World) (hr0_3 : Kd.C k49 w A0_3 l0_3.length l0_3) (hc0_3 : l0_3.length ≤ c0_3) (h : spec_l04Shapes.f k a0_0 a0_1 a0_2 l0_3 = some (r1, r2)) :
   Calls Tryd.prog 38 #[.agg #[.int .i64 a0_0, .int .i64 a0_1, .int .i64 a0_2, .slice A0_3 l0_3.length c0_3]] w fun e w' => ∃ v0_ : Value, e = .returned (.tuple #[v0_, .bool r2]) ∧ Kd.R k29 29 w' w.heap.size (fun _ => True) v0_ r1 ∧ Below w.heap.size w w' := by
  have hu32 := Tryd.underlying32
  have hu29 := Tryd.underlying29
  have hu49 := Tryd.underlying49
  have HR0_3 := Aside0.mk hr0_3
  have HC0_3 := Aside0.mk hc0_3
  clear hr0_3 hc0_3
  have HB := Aside0.mk (Below.refl w.heap.size w)
  have H : ((some (([(⟨a0_0, a0_1, a0_2⟩ : S29)] : List (S29)) : List (S29))).bind fun y185 => ((spec_ShapeOk.f a0_0 a0_1 a0_2).bind fun t188 => (if t188 = true then ((spec_l01In.f (l0_3.length : Int) 1 6).bind fun t189 => (spec_l04Shapes.j0 k y185 (!t189) a0_0 a0_1 a0_2 l0_3)) else (spec_l04Shapes.j0 k y185 true a0_0 a0_1 a0_2 l0_3)))) = some (r1, r2) := h
  clear h
  obtain ⟨y185, hy185⟩ : ∃ y_ : List (S29), y_ = (([(⟨a0_0, a0_1, a0_2⟩ : S29)] : List (S29))) := ⟨_, rfl⟩
  replace H : ((spec_ShapeOk.f a0_0 a0_1 a0_2).bind fun t188 => (if t188 = true then ((spec_l01In.f (l0_3.length : Int) 1 6).bind fun t189 => (spec_l04Shapes.j0 k y185 (!t189) a0_0 a0_1 a0_2 l0_3)) else (spec_l04Shapes.j0 k y185 true a0_0 a0_1 a0_2 l0_3))) = some (r1, r2) := by first | (rw [hy185]; with_reducible exact H) | (have H2_ := (Option.bind_some _ _).symm.trans H; rw [hy185]; with_reducible exact H2_) | (have H2_ := (Option.bind_some _ _).symm.trans H; with_reducible exact H2_) | with_reducible exact H | (rw [hy185]; exact H) | exact H
  have Ny185 := Aside0.mk hy185
  clear hy185
  have HC2 := Aside0.mk H
  clear H
  go_enter Tryd.func38, Tryd.ntmps38
  go_upto_region 2 with (first | ((with_reducible refine gate_dst (N := 1) rfl ?_); (try (refine gate_guard (by rfl) ?_; dsimp only)); refine boxM 1 #[.int .i64 a0_0, .int .i64 a0_1, .int .i64 a0_2, .slice A0_3 l0_3.length c0_3] 32 ?_; intro gb184 hg w3 BK184 hb; replace HB := box_at w hb hg; obtain ⟨HB, GW184, GE184⟩ := HB; clear hb hg; have hcz4 := cells4 BK184.out) | ((with_reducible refine gate_dst (N := 10) rfl ?_); (try (refine gate_guard (by rfl) ?_; dsimp only)); refine Kd.R_lit k29 _ 29 ?hg (N := 10) ?hd (xs := ([(⟨a0_0, a0_1, a0_2⟩ : S29)] : List (S29))) (inner := [.int .i64 a0_0, .int .i64 a0_1, .int .i64 a0_2]) (ok := fun _ => True) (okp := fun _ => True) ?hr ?hp (fun _ hk => hk) trivial (Below.refl _ _) (Nat.le_refl _) (by simp) ?_; (case hd => rfl); (case hg => rfl); (case hr => first | (go_simp; done) | (go_simp; rfl)); (case hp => exact (Reps.c3 (show Kd.M k29 _ _ _ (⟨a0_0, a0_1, a0_2⟩ : S29) [.int .i64 a0_0, .int .i64 a0_1, .int .i64 a0_2] from (k29_mkM _ _ _ (⟨a0_0, a0_1, a0_2⟩ : S29) )) (Reps.none _ _))); intro v186 w5 ho6 hb hg_ hnew_; clear hg_ hnew_; (first | rw [← Ny185.out] at ho6 | (simp only [Int.reduceToNat] at ho6; rw [← Ny185.out] at ho6)); have n0_ := Aside0.mk (Kd.R_lower ho6 (below_size bel_now)); replace HB := bel_on w hb; replace BK184 := blk_on gb184 hb; have HO187 := n0_; clear n0_; clear hb ho6))
  (try simp only [Act.put, zA, zB, zC])
  go_cut [21] (fun v21 wc => ∃ (kq : Nat) (x21_1 : Bool), v21 = .bool x21_1 ∧ Aside0 (spec_l04Shapes.j0 kq y185 x21_1 a0_0 a0_1 a0_2 l0_3 = some (r1, r2)) ∧ Aside0 (kq ≤ k) ∧ Aside0 (Kd.R k29 29 wc w.heap.size (fun _ => True) v186 y185) ∧ Aside0 (wc.heap[gb184]? = some (.cells #[.int .i64 a0_0, .int .i64 a0_1, .int .i64 a0_2, (.slice A0_3 l0_3.length c0_3)] 32 (0, 0))) ∧ Aside0 (Below w.heap.size w wc))
  case first =>
   have H := HC2.out
   clear HC2
   replace H := Option.bind_eq_some_iff.mp H
   obtain ⟨t188, A70, H⟩ := H
   (try dsimp only at H)
   have A7 := Aside0.mk A70
   clear A70
   by_cases c8 : t188 = true
   rotate_left
   ·replace c8 := Bool.eq_false_iff.mpr c8
    subst c8
    rw [if_neg (show ¬ (false = true) by decide)] at H
    have H' := Aside0.mk H
    clear H
    have hcz13 := cells4 BK184.out
    go_wp2_with (first | ((with_reducible refine gate_callee (f := 50) rfl ?_); refine goesM (some 13) rfl rfl Tryd.func50 (by kernel_rfl) rfl #[.agg #[.int .i64 a0_0, .int .i64 a0_1, .int .i64 a0_2]] rfl ?_; (with_reducible refine (spec_ShapeOk.calls a0_0 a0_1 a0_2 false _ A7.out).mono ?_); rintro e w14 ⟨rfl, hb⟩; refine ⟨_, rfl, ?_⟩; replace HO187 := Aside0.mk (Kd.R_below (R_at HO187.out) hb); replace HB := bel_on w hb; replace BK184 := blk_on gb184 hb; (try clear hb)))
    go_meet
    case rel => exact ⟨_, (true), (by first | rfl | (simp; done) | (simp [*]; done)), H', ⟨by first | omega | exact Nat.le_refl _⟩, ⟨by (with_reducible repeat (first | apply Kd.R_alloc | apply Kd.R_drewN | apply Kd.R_drew)); exact HO187.out⟩, ⟨bks BK184⟩, ⟨bel_now⟩⟩
   subst c8
   rw [if_pos rfl] at H
   replace H := Option.bind_eq_some_iff.mp H
   obtain ⟨t189, A90, H⟩ := H
   (try dsimp only at H)
   have A9 := Aside0.mk A90
   clear A90
   have H' := Aside0.mk H
   clear H
   have hcz10 := cells4 BK184.out
   go_wp2_with (first | ((with_reducible refine gate_callee (f := 50) rfl ?_); refine goesM (some 13) rfl rfl Tryd.func50 (by kernel_rfl) rfl #[.agg #[.int .i64 a0_0, .int .i64 a0_1, .int .i64 a0_2]] rfl ?_; (with_reducible refine (spec_ShapeOk.calls a0_0 a0_1 a0_2 true _ A7.out).mono ?_); rintro e w11 ⟨rfl, hb⟩; refine ⟨_, rfl, ?_⟩; replace HO187 := Aside0.mk (Kd.R_below (R_at HO187.out) hb); replace HB := bel_on w hb; replace BK184 := blk_on gb184 hb; (try clear hb); have hcz12 := cells4 BK184.out) | (go_at_call 39; (with_reducible refine (spec_l01In.calls (l0_3.length : Int) 1 6 t189 _ A9.out).mono ?_); rintro e w' ⟨rfl, ⟨nd, rfl⟩⟩))
   go_meet
   case rel => exact ⟨_, (!t189), (by first | rfl | (simp; done) | (simp [*]; done)), H', ⟨by first | omega | exact Nat.le_refl _⟩, ⟨by (with_reducible repeat (first | apply Kd.R_alloc | apply Kd.R_drewN | apply Kd.R_drew)); exact HO187.out⟩, ⟨bks BK184⟩, ⟨bel_now⟩⟩
  case rest =>
   clear HC2
   try clear p2
   try clear c3
   try clear c5
   try clear c8
   try clear hcz10
   try clear hcz12
   try clear hcz13
   try clear hcz4
   obtain ⟨kq, x21_1, rfl, HA, HJ1, HO_4, BK184, HB⟩ := hcut
   cases kq with
   | zero => exact absurd HA.out (by simp [spec_l04Shapes.j0])
   | succ kj1 =>
    have H := HA.out
    clear HA
    simp only [spec_l04Shapes.j0] at H
    by_cases c15 : x21_1 = true
    ·subst c15
     rw [if_pos rfl] at H
     simp only [Option.some.injEq, Prod.mk.injEq] at H
     obtain ⟨rfl, rfl⟩ := H
     go_wp2
     go_ret2
     exact ⟨_, eqN, by first | exact Kd.R_nil _ _ _ _ _ | exact Kd.N_nil _ _ _ _ _ | exact Kd.V_nil _ _ _ _ _ | exact Kd.Q_nil _ _ _ _ _ | exact Kd.S_nil _ _ _ _ _, bel_now⟩
    replace c15 := Bool.eq_false_iff.mpr c15
    subst c15
    rw [if_neg (show ¬ (false = true) by decide)] at H
    have H' := Aside0.mk H
    clear H
    go_wp2
    go_loopg [4, 5] kj1 (fun kq v4 v5 w' => ∃ (x4_2 : List (S29)) (x5_2 : Int), v5 = .int .i64 x5_2 ∧ Aside0 (spec_l04Shapes.l0 kq x4_2 x5_2 a0_0 a0_1 a0_2 l0_3 = some (r1, r2)) ∧ Aside0 (kq ≤ kj1) ∧ Aside0 (Kd.R k29 29 w' w.heap.size (fun _ => True) v4 x4_2) ∧ Aside0 (w'.heap[gb184]? = some (.cells #[.int .i64 a0_0, .int .i64 a0_1, .int .i64 a0_2, (.slice A0_3 l0_3.length c0_3)] 32 (0, 0))) ∧ Aside0 (Below w.heap.size w w'))
    case atStart => exact ⟨(y185), (0), (by first | rfl | (simp; done) | (simp [*]; done)), H', ⟨Nat.le_refl _⟩, ⟨by (with_reducible repeat (first | apply Kd.R_alloc | apply Kd.R_drewN | apply Kd.R_drew)); exact HO_4.out⟩, ⟨bks BK184⟩, ⟨bel_now⟩⟩
    case round =>
     clear H'
     try clear c1
     try clear p2 p2
     try clear c3
     try clear c5
     try clear c8
     try clear c15
     try clear hcz10
     try clear hcz12
     try clear hcz13
     try clear hcz4
     obtain ⟨x4_2, x5_2, rfl, HA, HK2, HO_4, BK184, HB⟩ := hrel
     cases gk with
     | zero => exact absurd HA.out (by simp [spec_l04Shapes.l0])
     | succ k2 =>
      have H := HA.out
      clear HA
      simp only [spec_l04Shapes.l0] at H
      by_cases c16 : x5_2 < (l0_3.length : Int)
      rotate_left
      ·rw [if_neg c16] at H
       have c16b0 : decide (x5_2 < (l0_3.length : Int)) = false := decide_eq_false c16
       clear c16
       simp only [Option.some.injEq, Prod.mk.injEq] at H
       obtain ⟨rfl, rfl⟩ := H
       have hcz43 := cells4 BK184.out
       go_wp2
       go_ret2
       exact ⟨_, eqN, by (with_reducible repeat (first | apply Kd.R_alloc | apply Kd.R_drewN | apply Kd.R_drew)); exact HO_4.out, bel_now⟩
      rw [if_pos c16] at H
      have c16b0 : decide (x5_2 < (l0_3.length : Int)) = true := decide_eq_true c16
      clear c16
      by_cases c17 : 0 ≤ x5_2
      rotate_left
      ·rw [if_neg c17] at H
       exact absurd H (by simp)
      rw [if_pos c17] at H
      have c17b0 : decide (0 ≤ x5_2) = true := decide_eq_true c17
      clear c17
      by_cases c18 : x5_2 < (x4_2.length : Int)
      rotate_left
      ·rw [if_neg c18] at H
       exact absurd H (by simp)
      rw [if_pos c18] at H
      have c18b0 : decide (x5_2 < (x4_2.length : Int)) = true := decide_eq_true c18
      clear c18
      replace H := Option.bind_eq_some_iff.mp H
      obtain ⟨⟨t192, t193, t194, t195⟩, A190, H⟩ := H
      (try dsimp only at H)
      have A19 := Aside0.mk A190
      clear A190
      by_cases c20 : t195 = true
      rotate_left
      ·replace c20 := Bool.eq_false_iff.mpr c20
       subst c20
       rw [if_neg (show ¬ (false = true) by decide)] at H
       simp only [Option.some.injEq, Prod.mk.injEq] at H
       obtain ⟨rfl, rfl⟩ := H
       have hcz34 := cells4 BK184.out
       try go_wp2
       replace HO_4 := Aside0.mk (Kd.R_drew HO_4.out)
       replace BK184 := Aside0.mk (blk_drew BK184.out)
       replace HB := Aside0.mk (below_drew1 HB.out)
       obtain ⟨Ao36, co36, eo36⟩ := Kd.R_slice HO_4.out
       (first | subst eo36 | (injection eo36 with f1_ f2_ f3_; have f4_ := f1_.symm; have f5_ := f3_.symm; clear f1_ f2_ f3_; subst f4_; subst f5_))
       have p190 : 0 ≤ (x5_2 : Int) := of_decide_eq_true (by first | (with_reducible assumption) | assumption)
       have q190 : x5_2 < (x4_2.length : Int) := of_decide_eq_true (by first | (with_reducible assumption) | assumption)
       (try (obtain ⟨_, _, eo_⟩ := Kd.R_slice HO_4.out; subst eo_))
       obtain ⟨ad190, e190, hx190_0, hx190_1, hx190_2⟩ := at_T29 (Kd.R_reads' HO_4.out).2.2 x5_2 p190 q190
       cases e190
       replace p190 := eq_true p190
       replace q190 := eq_true q190
       have p191 : 0 ≤ (x5_2 : Int) := of_decide_eq_true (by first | (with_reducible assumption) | assumption)
       have q191 : x5_2 < (l0_3.length : Int) := of_decide_eq_true (by first | (with_reducible assumption) | assumption)
       obtain ⟨ad191, A191_7, c191_7, A191_8, c191_8, e191, hx191_0, hx191_1, hx191_2, hx191_3, hx191_4, hx191_5, hx191_6, hx191_7, hx191_8, hl191_7, hi191_7, hl191_8, hi191_8⟩ := at_T49 HR0_3.out x5_2 p191 q191
       have hw191_8 := hx191_8
       have hw191_7 := hx191_7
       have hw191_6 := hx191_6
       have hw191_5 := hx191_5
       have hw191_4 := hx191_4
       have hw191_3 := hx191_3
       have hw191_2 := hx191_2
       have hw191_1 := hx191_1
       have hw191_0 := hx191_0
       cases e191
       replace hx191_0 := (HB.out.cell (World.block_lt_of_cell? w _ hx191_0)).trans hx191_0
       replace hx191_1 := (HB.out.cell (World.block_lt_of_cell? w _ hx191_1)).trans hx191_1
       replace hx191_2 := (HB.out.cell (World.block_lt_of_cell? w _ hx191_2)).trans hx191_2
       replace hx191_3 := (HB.out.cell (World.block_lt_of_cell? w _ hx191_3)).trans hx191_3
       replace hx191_4 := (HB.out.cell (World.block_lt_of_cell? w _ hx191_4)).trans hx191_4
       replace hx191_5 := (HB.out.cell (World.block_lt_of_cell? w _ hx191_5)).trans hx191_5
       replace hx191_6 := (HB.out.cell (World.block_lt_of_cell? w _ hx191_6)).trans hx191_6
       replace hx191_7 := (HB.out.cell (World.block_lt_of_cell? w _ hx191_7)).trans hx191_7
       replace hx191_8 := (HB.out.cell (World.block_lt_of_cell? w _ hx191_8)).trans hx191_8
       have HR191_7 := Aside0.mk hi191_7
       have HC191_7 := Aside0.mk hl191_7
       clear hi191_7 hl191_7
       have HR191_8 := Aside0.mk hi191_8
       have HC191_8 := Aside0.mk hl191_8
       clear hi191_8 hl191_8
       replace p191 := eq_true p191
       replace q191 := eq_true q191
       refine start_ (n := 16) (S := fun w' => w'.cell? ⟨gb184, 0, none⟩ = some (.int .i64 a0_0) ∧ w'.cell? ⟨gb184, 1, none⟩ = some (.int .i64 a0_1) ∧ w'.cell? ⟨gb184, 2, none⟩ = some (.int .i64 a0_2) ∧ w'.cell? ⟨gb184, 3, none⟩ = some (.slice (some ad191) l0_3.length c0_3) ∧ w'.cell? (ad190.add ((x5_2).toNat * 3)) = some (.int .i64 ((rd_T29 x4_2 x5_2).f0)) ∧ w'.cell? ⟨(ad190.add ((x5_2).toNat * 3)).block, (ad190.add ((x5_2).toNat * 3)).off + 1, none⟩ = some (.int .i64 ((rd_T29 x4_2 x5_2).f1)) ∧ w'.cell? ⟨(ad190.add ((x5_2).toNat * 3)).block, (ad190.add ((x5_2).toNat * 3)).off + 2, none⟩ = some (.int .i64 ((rd_T29 x4_2 x5_2).f2)) ∧ w'.cell? (ad191.add ((x5_2).toNat * 9)) = some (.int .i64 ((rd_T49 l0_3 x5_2).f0)) ∧ w'.cell? ⟨(ad191.add ((x5_2).toNat * 9)).block, (ad191.add ((x5_2).toNat * 9)).off + 1, none⟩ = some (.int .i64 ((rd_T49 l0_3 x5_2).f1)) ∧ w'.cell? ⟨(ad191.add ((x5_2).toNat * 9)).block, (ad191.add ((x5_2).toNat * 9)).off + 2, none⟩ = some (.int .i64 ((rd_T49 l0_3 x5_2).f2)) ∧ w'.cell? ⟨(ad191.add ((x5_2).toNat * 9)).block, (ad191.add ((x5_2).toNat * 9)).off + 3, none⟩ = some (.int .i64 ((rd_T49 l0_3 x5_2).f3)) ∧ w'.cell? ⟨(ad191.add ((x5_2).toNat * 9)).block, (ad191.add ((x5_2).toNat * 9)).off + 4, none⟩ = some (.int .i64 ((rd_T49 l0_3 x5_2).f4)) ∧ w'.cell? ⟨(ad191.add ((x5_2).toNat * 9)).block, (ad191.add ((x5_2).toNat * 9)).off + 5, none⟩ = some (.int .i64 ((rd_T49 l0_3 x5_2).f5)) ∧ w'.cell? ⟨(ad191.add ((x5_2).toNat * 9)).block, (ad191.add ((x5_2).toNat * 9)).off + 6, none⟩ = some (.int .i64 ((rd_T49 l0_3 x5_2).f6)) ∧ w'.cell? ⟨(ad191.add ((x5_2).toNat * 9)).block, (ad191.add ((x5_2).toNat * 9)).off + 7, none⟩ = some (.slice A191_7 ((rd_T49 l0_3 x5_2).f7).length c191_7) ∧ w'.cell? ⟨(ad191.add ((x5_2).toNat * 9)).block, (ad191.add ((x5_2).toNat * 9)).off + 8, none⟩ = some (.slice A191_8 ((rd_T49 l0_3 x5_2).f8).length c191_8)) (ds := []) #[O, O, O, O, O, O, O, O, O, O, O, O, O, O, O, O] (by kernel_rfl) rfl rfl ⟨bc BK184 0, bc BK184 1, bc BK184 2, bc BK184 3, hx190_0, hx190_1, hx190_2, ((HB.out.cell (World.block_lt_of_cell? w _ hw191_0)).trans hw191_0), ((HB.out.cell (World.block_lt_of_cell? w _ hw191_1)).trans hw191_1), ((HB.out.cell (World.block_lt_of_cell? w _ hw191_2)).trans hw191_2), ((HB.out.cell (World.block_lt_of_cell? w _ hw191_3)).trans hw191_3), ((HB.out.cell (World.block_lt_of_cell? w _ hw191_4)).trans hw191_4), ((HB.out.cell (World.block_lt_of_cell? w _ hw191_5)).trans hw191_5), ((HB.out.cell (World.block_lt_of_cell? w _ hw191_6)).trans hw191_6), ((HB.out.cell (World.block_lt_of_cell? w _ hw191_7)).trans hw191_7), ((HB.out.cell (World.block_lt_of_cell? w _ hw191_8)).trans hw191_8)⟩ (fun hHeld => ?_); refine with_tabW spec_l04Shapes.tab7 spec_l04Shapes.bits7 (fun HT_ HW_ => ?_)
       generalize wr.drew = w35 at HO_4 BK184 HB HR191_7 HR191_8 hx190_0 hx190_1 hx190_2 hx191_0 hx191_1 hx191_2 hx191_3 hx191_4 hx191_5 hx191_6 hx191_7 hx191_8 hHeld ⊢
       refine stepP 0 (some 30) (tk 16 1) (any_of HT_.out (by kernel_rfl)) ?_
       refine stepP 1 (some 31) (tk 16 3) (any_of HT_.out (by kernel_rfl)) ?_
       refine stepP 2 (some 32) (tk 16 7) (any_of HT_.out (by kernel_rfl)) ?_
       refine stepP 4 (some 34) (tk 16 23) (any_of HT_.out (by kernel_rfl)) ?_
       refine stepP 6 (some 36) (tk 16 87) (any_of HT_.out (by kernel_rfl)) ?_
       refine stepT 3 (some 33) (tk 16 95) (take_ofW HT_.out HW_.out (by kernel_rfl)) hHeld ?_
       refine stepT 5 (some 35) (tk 16 127) (take_ofW HT_.out HW_.out (by kernel_rfl)) hHeld ?_
       refine stepP 7 (some 37) (tk 16 255) (any_of HT_.out (by kernel_rfl)) ?_
       refine stepT 8 (some 38) (tk 16 511) (take_ofW HT_.out HW_.out (by kernel_rfl)) hHeld ?_
       refine join_ (σ := Nat) 2 #[I, I, I, I, I, I, I, I, I, I, I, I, I, I, O, O] (fun s_ => [(39, .tuple #[.agg #[.int .i64 t192, .int .i64 t193, .int .i64 t194], .bool false]), (6, .pointer (some ⟨s_, 0, none⟩)), (29, .tuple #[.agg #[.int .i64 t192, .int .i64 t193, .int .i64 t194], .bool false]), (40, .agg #[.int .i64 t192, .int .i64 t193, .int .i64 t194]), (41, .bool false)]) (fun s_ w' => (w'.cell? ⟨gb184, 0, none⟩ = some (.int .i64 a0_0) ∧ w'.cell? ⟨gb184, 1, none⟩ = some (.int .i64 a0_1) ∧ w'.cell? ⟨gb184, 2, none⟩ = some (.int .i64 a0_2) ∧ w'.cell? ⟨gb184, 3, none⟩ = some (.slice (some ad191) l0_3.length c0_3) ∧ w'.cell? (ad190.add ((x5_2).toNat * 3)) = some (.int .i64 ((rd_T29 x4_2 x5_2).f0)) ∧ w'.cell? ⟨(ad190.add ((x5_2).toNat * 3)).block, (ad190.add ((x5_2).toNat * 3)).off + 1, none⟩ = some (.int .i64 ((rd_T29 x4_2 x5_2).f1)) ∧ w'.cell? ⟨(ad190.add ((x5_2).toNat * 3)).block, (ad190.add ((x5_2).toNat * 3)).off + 2, none⟩ = some (.int .i64 ((rd_T29 x4_2 x5_2).f2)) ∧ w'.cell? (ad191.add ((x5_2).toNat * 9)) = some (.int .i64 ((rd_T49 l0_3 x5_2).f0)) ∧ w'.cell? ⟨(ad191.add ((x5_2).toNat * 9)).block, (ad191.add ((x5_2).toNat * 9)).off + 1, none⟩ = some (.int .i64 ((rd_T49 l0_3 x5_2).f1)) ∧ w'.cell? ⟨(ad191.add ((x5_2).toNat * 9)).block, (ad191.add ((x5_2).toNat * 9)).off + 2, none⟩ = some (.int .i64 ((rd_T49 l0_3 x5_2).f2)) ∧ w'.cell? ⟨(ad191.add ((x5_2).toNat * 9)).block, (ad191.add ((x5_2).toNat * 9)).off + 3, none⟩ = some (.int .i64 ((rd_T49 l0_3 x5_2).f3)) ∧ w'.cell? ⟨(ad191.add ((x5_2).toNat * 9)).block, (ad191.add ((x5_2).toNat * 9)).off + 4, none⟩ = some (.int .i64 ((rd_T49 l0_3 x5_2).f4)) ∧ w'.cell? ⟨(ad191.add ((x5_2).toNat * 9)).block, (ad191.add ((x5_2).toNat * 9)).off + 5, none⟩ = some (.int .i64 ((rd_T49 l0_3 x5_2).f5)) ∧ w'.cell? ⟨(ad191.add ((x5_2).toNat * 9)).block, (ad191.add ((x5_2).toNat * 9)).off + 6, none⟩ = some (.int .i64 ((rd_T49 l0_3 x5_2).f6)) ∧ w'.cell? ⟨(ad191.add ((x5_2).toNat * 9)).block, (ad191.add ((x5_2).toNat * 9)).off + 7, none⟩ = some (.slice A191_7 ((rd_T49 l0_3 x5_2).f7).length c191_7) ∧ w'.cell? ⟨(ad191.add ((x5_2).toNat * 9)).block, (ad191.add ((x5_2).toNat * 9)).off + 8, none⟩ = some (.slice A191_8 ((rd_T49 l0_3 x5_2).f8).length c191_8)) ∧ (Kd.R k29 29 w' w.heap.size (fun k_ => k_ ≠ s_) (.slice (some ad190) x4_2.length co36) x4_2) ∧ (w'.heap[gb184]? = some (.cells #[.int .i64 a0_0, .int .i64 a0_1, .int .i64 a0_2, .slice (some ad191) l0_3.length c0_3] 32 (0, 0))) ∧ (w'.heap[s_]? = some (.cells #[.int .i64 0, .int .i64 0, .int .i64 0] 29 (0, 0))) ∧ (w.heap.size ≤ s_) ∧ (w.heap.size ≤ s_) ∧ (gb184 ≠ s_) ∧ (s_ ≠ gb184) ∧ (Below w.heap.size w w')) ?_ ?_
       rotate_left
       ·intro hCont
        refine two_ (i := 9) (j := 13) (Ni := some 39) (Nj := some 6) #[I, I, I, I, I, I, I, I, I, I, O, O, O, O, O, O] #[I, I, I, I, I, I, I, I, I, O, O, O, O, I, O, O] rfl rfl rfl rfl (two_of HT_.out (by kernel_rfl)) (by decide) (by decide) (fun K hK => ?_) (fun K hK => ?_)
        ·skip
         refine goes_ Tryd.func59 (by kernel_rfl) rfl #[.agg #[.int .i64 ((rd_T29 x4_2 x5_2).f0), .int .i64 ((rd_T29 x4_2 x5_2).f1), .int .i64 ((rd_T29 x4_2 x5_2).f2)], .agg #[.int .i64 ((rd_T49 l0_3 x5_2).f0), .int .i64 ((rd_T49 l0_3 x5_2).f1), .int .i64 ((rd_T49 l0_3 x5_2).f2), .int .i64 ((rd_T49 l0_3 x5_2).f3), .int .i64 ((rd_T49 l0_3 x5_2).f4), .int .i64 ((rd_T49 l0_3 x5_2).f5), .int .i64 ((rd_T49 l0_3 x5_2).f6), .slice A191_7 ((rd_T49 l0_3 x5_2).f7).length c191_7, .slice A191_8 ((rd_T49 l0_3 x5_2).f8).length c191_8]] (by rfl) rfl rfl (by (try simp only [List.map_toArray, List.map_cons, List.map_nil]); first | done | rfl | (simp only [List.length_drop, List.length_take]; rfl)) ?_
         with_reducible refine (spec_OutShape.calls k2 ((rd_T29 x4_2 x5_2).f0) ((rd_T29 x4_2 x5_2).f1) ((rd_T29 x4_2 x5_2).f2) ((rd_T49 l0_3 x5_2).f0) ((rd_T49 l0_3 x5_2).f1) ((rd_T49 l0_3 x5_2).f2) ((rd_T49 l0_3 x5_2).f3) ((rd_T49 l0_3 x5_2).f4) ((rd_T49 l0_3 x5_2).f5) ((rd_T49 l0_3 x5_2).f6) _ _ ((rd_T49 l0_3 x5_2).f7) _ _ ((rd_T49 l0_3 x5_2).f8) t192 t193 t194 false _ ?side1 ?side2 ?side3 ?side4 A19.out).mono ?_
         (case side1 => exact C_now HR191_7.out)
         (case side2 => exact HC191_7.out)
         (case side3 => exact C_now HR191_8.out)
         (case side4 => exact HC191_8.out)
         rintro e w37 ⟨rfl, hb⟩
         have HS4_ := (hb.cell (World.block_lt_of_cell? _ _ (hHeld.2.2.2.2.1))).trans (hHeld.2.2.2.2.1)
         have HS5_ := (hb.cell (World.block_lt_of_cell? _ _ (hHeld.2.2.2.2.2.1))).trans (hHeld.2.2.2.2.2.1)
         have HS6_ := (hb.cell (World.block_lt_of_cell? _ _ (hHeld.2.2.2.2.2.2.1))).trans (hHeld.2.2.2.2.2.2.1)
         refine ⟨_, rfl, ?_⟩
         replace HO_4 := Aside0.mk (Kd.R_below (R_at HO_4.out) hb)
         replace BK184 := blk_on gb184 hb
         replace HB := bel_on w hb
         (try clear hb)
         refine hK.out _ _ ⟨bc BK184 0, bc BK184 1, bc BK184 2, bc BK184 3, HS4_, HS5_, HS6_, ((HB.out.cell (World.block_lt_of_cell? w _ hw191_0)).trans hw191_0), ((HB.out.cell (World.block_lt_of_cell? w _ hw191_1)).trans hw191_1), ((HB.out.cell (World.block_lt_of_cell? w _ hw191_2)).trans hw191_2), ((HB.out.cell (World.block_lt_of_cell? w _ hw191_3)).trans hw191_3), ((HB.out.cell (World.block_lt_of_cell? w _ hw191_4)).trans hw191_4), ((HB.out.cell (World.block_lt_of_cell? w _ hw191_5)).trans hw191_5), ((HB.out.cell (World.block_lt_of_cell? w _ hw191_6)).trans hw191_6), ((HB.out.cell (World.block_lt_of_cell? w _ hw191_7)).trans hw191_7), ((HB.out.cell (World.block_lt_of_cell? w _ hw191_8)).trans hw191_8)⟩ (fun hHeld => ?_)
         clear hK K
         refine normP 39 ?_
         refine stepP 10 (some 29) (tk 16 2047) (any_of HT_.out (by kernel_rfl)) ?_
         refine stepP 11 (some 40) (tk 16 4095) (any_of HT_.out (by kernel_rfl)) ?_
         refine stepP 12 (some 41) (tk 16 8191) (any_of HT_.out (by kernel_rfl)) ?_
         refine one_ (i := 13) (N := some 6) #[I, I, I, I, I, I, I, I, I, I, I, I, I, I, O, O] rfl rfl (one_of HT_.out (by kernel_rfl)) (by decide) (fun K hK => ?_)
         refine box_step ?hg (N := 6) ?hd (cs := #[.int .i64 0, .int .i64 0, .int .i64 0]) (t := 29) ?hr ?_; (case hd => rfl); (case hg => rfl); (case hr => first | (go_simp; done) | (go_simp; rfl))
         intro gb196 hg w38 hbox hb
         have HS4_ := (hb.cell (World.block_lt_of_cell? _ _ (hHeld.2.2.2.2.1))).trans (hHeld.2.2.2.2.1)
         have HS5_ := (hb.cell (World.block_lt_of_cell? _ _ (hHeld.2.2.2.2.2.1))).trans (hHeld.2.2.2.2.2.1)
         have HS6_ := (hb.cell (World.block_lt_of_cell? _ _ (hHeld.2.2.2.2.2.2.1))).trans (hHeld.2.2.2.2.2.2.1)
         have n3_ := Aside0.mk (hbox)
         have n4_ := Aside0.mk ((by rw [hg]; exact (below_size bel_now) : w.heap.size ≤ gb196))
         have n5_ := Aside0.mk ((by rw [hg]; exact (below_size bel_now) : w.heap.size ≤ gb196))
         have n6_ := Aside0.mk ((by rw [hg]; exact Nat.ne_of_lt (blk_lt (g := gb184) blk_now) : gb184 ≠ gb196))
         have n7_ := Aside0.mk ((by rw [hg]; exact Nat.ne_of_gt (blk_lt (g := gb184) blk_now) : gb196 ≠ gb184))
         replace HO_4 := Aside0.mk (Kd.R_below (Kd.R_elderB (R_at HO_4.out) gb196 (Nat.le_of_eq hg.symm)) hb)
         replace BK184 := blk_on gb184 hb
         replace HB := bel_on w hb
         have BK196 := n3_
         have GW196 := n4_
         have GE196 := n5_
         have NB184_196 := n6_
         have NB196_184 := n7_
         clear n3_ n4_ n5_ n6_ n7_
         clear hb hbox hg
         refine hK.out _ _ ⟨bc BK184 0, bc BK184 1, bc BK184 2, bc BK184 3, HS4_, HS5_, HS6_, ((HB.out.cell (World.block_lt_of_cell? w _ hw191_0)).trans hw191_0), ((HB.out.cell (World.block_lt_of_cell? w _ hw191_1)).trans hw191_1), ((HB.out.cell (World.block_lt_of_cell? w _ hw191_2)).trans hw191_2), ((HB.out.cell (World.block_lt_of_cell? w _ hw191_3)).trans hw191_3), ((HB.out.cell (World.block_lt_of_cell? w _ hw191_4)).trans hw191_4), ((HB.out.cell (World.block_lt_of_cell? w _ hw191_5)).trans hw191_5), ((HB.out.cell (World.block_lt_of_cell? w _ hw191_6)).trans hw191_6), ((HB.out.cell (World.block_lt_of_cell? w _ hw191_7)).trans hw191_7), ((HB.out.cell (World.block_lt_of_cell? w _ hw191_8)).trans hw191_8)⟩ (fun hHeld => ?_)
         clear hK K
         refine normP 6 ?_
         exact norm_ (by simp only [putAll, Act.put, zA, zB, zC]) (hCont (gb196) _ ⟨hHeld, (R_at (Kd.R_mono HO_4.out (fun _ hk => by first | exact hk.2 | exact trivial))), blk_now, blk_now, GW196.out, GE196.out, NB184_196.out, NB196_184.out, bel_now⟩)
        skip
        refine box_step ?hg (N := 6) ?hd (cs := #[.int .i64 0, .int .i64 0, .int .i64 0]) (t := 29) ?hr ?_; (case hd => rfl); (case hg => rfl); (case hr => first | (go_simp; done) | (go_simp; rfl))
        intro gb196 hg w37 hbox hb
        have HS4_ := (hb.cell (World.block_lt_of_cell? _ _ (hHeld.2.2.2.2.1))).trans (hHeld.2.2.2.2.1)
        have HS5_ := (hb.cell (World.block_lt_of_cell? _ _ (hHeld.2.2.2.2.2.1))).trans (hHeld.2.2.2.2.2.1)
        have HS6_ := (hb.cell (World.block_lt_of_cell? _ _ (hHeld.2.2.2.2.2.2.1))).trans (hHeld.2.2.2.2.2.2.1)
        have n3_ := Aside0.mk (hbox)
        have n4_ := Aside0.mk ((by rw [hg]; exact (below_size bel_now) : w.heap.size ≤ gb196))
        have n5_ := Aside0.mk ((by rw [hg]; exact (below_size bel_now) : w.heap.size ≤ gb196))
        have n6_ := Aside0.mk ((by rw [hg]; exact Nat.ne_of_lt (blk_lt (g := gb184) blk_now) : gb184 ≠ gb196))
        have n7_ := Aside0.mk ((by rw [hg]; exact Nat.ne_of_gt (blk_lt (g := gb184) blk_now) : gb196 ≠ gb184))
        replace HO_4 := Aside0.mk (Kd.R_below (Kd.R_elderB (R_at HO_4.out) gb196 (Nat.le_of_eq hg.symm)) hb)
        replace BK184 := blk_on gb184 hb
        replace HB := bel_on w hb
        have BK196 := n3_
        have GW196 := n4_
        have GE196 := n5_
        have NB184_196 := n6_
        have NB196_184 := n7_
        clear n3_ n4_ n5_ n6_ n7_
        clear hb hbox hg
        refine hK.out _ _ ⟨bc BK184 0, bc BK184 1, bc BK184 2, bc BK184 3, HS4_, HS5_, HS6_, ((HB.out.cell (World.block_lt_of_cell? w _ hw191_0)).trans hw191_0), ((HB.out.cell (World.block_lt_of_cell? w _ hw191_1)).trans hw191_1), ((HB.out.cell (World.block_lt_of_cell? w _ hw191_2)).trans hw191_2), ((HB.out.cell (World.block_lt_of_cell? w _ hw191_3)).trans hw191_3), ((HB.out.cell (World.block_lt_of_cell? w _ hw191_4)).trans hw191_4), ((HB.out.cell (World.block_lt_of_cell? w _ hw191_5)).trans hw191_5), ((HB.out.cell (World.block_lt_of_cell? w _ hw191_6)).trans hw191_6), ((HB.out.cell (World.block_lt_of_cell? w _ hw191_7)).trans hw191_7), ((HB.out.cell (World.block_lt_of_cell? w _ hw191_8)).trans hw191_8)⟩ (fun hHeld => ?_)
        clear hK K
        refine normP 6 ?_
        refine one_ (i := 9) (N := some 39) #[I, I, I, I, I, I, I, I, I, I, O, O, O, I, O, O] rfl rfl (one_of HT_.out (by kernel_rfl)) (by decide) (fun K hK => ?_)
        refine goes_ Tryd.func59 (by kernel_rfl) rfl #[.agg #[.int .i64 ((rd_T29 x4_2 x5_2).f0), .int .i64 ((rd_T29 x4_2 x5_2).f1), .int .i64 ((rd_T29 x4_2 x5_2).f2)], .agg #[.int .i64 ((rd_T49 l0_3 x5_2).f0), .int .i64 ((rd_T49 l0_3 x5_2).f1), .int .i64 ((rd_T49 l0_3 x5_2).f2), .int .i64 ((rd_T49 l0_3 x5_2).f3), .int .i64 ((rd_T49 l0_3 x5_2).f4), .int .i64 ((rd_T49 l0_3 x5_2).f5), .int .i64 ((rd_T49 l0_3 x5_2).f6), .slice A191_7 ((rd_T49 l0_3 x5_2).f7).length c191_7, .slice A191_8 ((rd_T49 l0_3 x5_2).f8).length c191_8]] (by rfl) rfl rfl (by (try simp only [List.map_toArray, List.map_cons, List.map_nil]); first | done | rfl | (simp only [List.length_drop, List.length_take]; rfl)) ?_
        with_reducible refine (spec_OutShape.calls k2 ((rd_T29 x4_2 x5_2).f0) ((rd_T29 x4_2 x5_2).f1) ((rd_T29 x4_2 x5_2).f2) ((rd_T49 l0_3 x5_2).f0) ((rd_T49 l0_3 x5_2).f1) ((rd_T49 l0_3 x5_2).f2) ((rd_T49 l0_3 x5_2).f3) ((rd_T49 l0_3 x5_2).f4) ((rd_T49 l0_3 x5_2).f5) ((rd_T49 l0_3 x5_2).f6) _ _ ((rd_T49 l0_3 x5_2).f7) _ _ ((rd_T49 l0_3 x5_2).f8) t192 t193 t194 false _ ?side1 ?side2 ?side3 ?side4 A19.out).mono ?_
        (case side1 => exact C_now HR191_7.out)
        (case side2 => exact HC191_7.out)
        (case side3 => exact C_now HR191_8.out)
        (case side4 => exact HC191_8.out)
        rintro e w38 ⟨rfl, hb⟩
        have HS4_ := (hb.cell (World.block_lt_of_cell? _ _ (hHeld.2.2.2.2.1))).trans (hHeld.2.2.2.2.1)
        have HS5_ := (hb.cell (World.block_lt_of_cell? _ _ (hHeld.2.2.2.2.2.1))).trans (hHeld.2.2.2.2.2.1)
        have HS6_ := (hb.cell (World.block_lt_of_cell? _ _ (hHeld.2.2.2.2.2.2.1))).trans (hHeld.2.2.2.2.2.2.1)
        refine ⟨_, rfl, ?_⟩
        replace HO_4 := Aside0.mk (Kd.R_below (R_at HO_4.out) hb)
        replace BK184 := blk_on gb184 hb
        replace BK196 := blk_on gb196 hb
        replace HB := bel_on w hb
        (try clear hb)
        refine hK.out _ _ ⟨bc BK184 0, bc BK184 1, bc BK184 2, bc BK184 3, HS4_, HS5_, HS6_, ((HB.out.cell (World.block_lt_of_cell? w _ hw191_0)).trans hw191_0), ((HB.out.cell (World.block_lt_of_cell? w _ hw191_1)).trans hw191_1), ((HB.out.cell (World.block_lt_of_cell? w _ hw191_2)).trans hw191_2), ((HB.out.cell (World.block_lt_of_cell? w _ hw191_3)).trans hw191_3), ((HB.out.cell (World.block_lt_of_cell? w _ hw191_4)).trans hw191_4), ((HB.out.cell (World.block_lt_of_cell? w _ hw191_5)).trans hw191_5), ((HB.out.cell (World.block_lt_of_cell? w _ hw191_6)).trans hw191_6), ((HB.out.cell (World.block_lt_of_cell? w _ hw191_7)).trans hw191_7), ((HB.out.cell (World.block_lt_of_cell? w _ hw191_8)).trans hw191_8)⟩ (fun hHeld => ?_)
        clear hK K
        refine normP 39 ?_
        refine stepP 10 (some 29) (tk 16 10239) (any_of HT_.out (by kernel_rfl)) ?_
        refine stepP 11 (some 40) (tk 16 12287) (any_of HT_.out (by kernel_rfl)) ?_
        refine stepP 12 (some 41) (tk 16 16383) (any_of HT_.out (by kernel_rfl)) ?_
        exact norm_ (by simp only [putAll, Act.put, zA, zB, zC]) (hCont (gb196) _ ⟨hHeld, (R_at (Kd.R_mono HO_4.out (fun _ hk => by first | exact hk.2 | exact trivial))), blk_now, blk_now, GW196.out, GE196.out, NB184_196.out, NB196_184.out, bel_now⟩)
       rintro gb196 w39 ⟨hS_, h0_, h1_, h2_, h3_, h4_, h5_, h6_, h7_⟩
       have n0_ : Aside0 (Kd.R k29 29 w39 w.heap.size (fun k_ => k_ ≠ gb196) (.slice (some ad190) x4_2.length co36) x4_2) := ⟨h0_⟩
       have n1_ : Aside0 (w39.heap[gb184]? = some (.cells #[.int .i64 a0_0, .int .i64 a0_1, .int .i64 a0_2, .slice (some ad191) l0_3.length c0_3] 32 (0, 0))) := ⟨h1_⟩
       have n2_ : Aside0 (w39.heap[gb196]? = some (.cells #[.int .i64 0, .int .i64 0, .int .i64 0] 29 (0, 0))) := ⟨h2_⟩
       have n3_ : Aside0 (w.heap.size ≤ gb196) := ⟨h3_⟩
       have n4_ : Aside0 (w.heap.size ≤ gb196) := ⟨h4_⟩
       have n5_ : Aside0 (gb184 ≠ gb196) := ⟨h5_⟩
       have n6_ : Aside0 (gb196 ≠ gb184) := ⟨h6_⟩
       have n7_ : Aside0 (Below w.heap.size w w39) := ⟨h7_⟩
       clear HO_4
       clear BK184
       clear HB
       clear h0_ h1_ h2_ h3_ h4_ h5_ h6_ h7_
       have HO_4 := n0_
       have BK184 := n1_
       have BK196 := n2_
       have GW196 := n3_
       have GE196 := n4_
       have NB184_196 := n5_
       have NB196_184 := n6_
       have HB := n7_
       clear n0_ n1_ n2_ n3_ n4_ n5_ n6_ n7_
       have hHeld : w39.cell? ⟨gb184, 0, none⟩ = some (.int .i64 a0_0) ∧ w39.cell? ⟨gb184, 1, none⟩ = some (.int .i64 a0_1) ∧ w39.cell? ⟨gb184, 2, none⟩ = some (.int .i64 a0_2) ∧ w39.cell? ⟨gb184, 3, none⟩ = some (.slice (some ad191) l0_3.length c0_3) ∧ w39.cell? (ad190.add ((x5_2).toNat * 3)) = some (.int .i64 ((rd_T29 x4_2 x5_2).f0)) ∧ w39.cell? ⟨(ad190.add ((x5_2).toNat * 3)).block, (ad190.add ((x5_2).toNat * 3)).off + 1, none⟩ = some (.int .i64 ((rd_T29 x4_2 x5_2).f1)) ∧ w39.cell? ⟨(ad190.add ((x5_2).toNat * 3)).block, (ad190.add ((x5_2).toNat * 3)).off + 2, none⟩ = some (.int .i64 ((rd_T29 x4_2 x5_2).f2)) ∧ w39.cell? (ad191.add ((x5_2).toNat * 9)) = some (.int .i64 ((rd_T49 l0_3 x5_2).f0)) ∧ w39.cell? ⟨(ad191.add ((x5_2).toNat * 9)).block, (ad191.add ((x5_2).toNat * 9)).off + 1, none⟩ = some (.int .i64 ((rd_T49 l0_3 x5_2).f1)) ∧ w39.cell? ⟨(ad191.add ((x5_2).toNat * 9)).block, (ad191.add ((x5_2).toNat * 9)).off + 2, none⟩ = some (.int .i64 ((rd_T49 l0_3 x5_2).f2)) ∧ w39.cell? ⟨(ad191.add ((x5_2).toNat * 9)).block, (ad191.add ((x5_2).toNat * 9)).off + 3, none⟩ = some (.int .i64 ((rd_T49 l0_3 x5_2).f3)) ∧ w39.cell? ⟨(ad191.add ((x5_2).toNat * 9)).block, (ad191.add ((x5_2).toNat * 9)).off + 4, none⟩ = some (.int .i64 ((rd_T49 l0_3 x5_2).f4)) ∧ w39.cell? ⟨(ad191.add ((x5_2).toNat * 9)).block, (ad191.add ((x5_2).toNat * 9)).off + 5, none⟩ = some (.int .i64 ((rd_T49 l0_3 x5_2).f5)) ∧ w39.cell? ⟨(ad191.add ((x5_2).toNat * 9)).block, (ad191.add ((x5_2).toNat * 9)).off + 6, none⟩ = some (.int .i64 ((rd_T49 l0_3 x5_2).f6)) ∧ w39.cell? ⟨(ad191.add ((x5_2).toNat * 9)).block, (ad191.add ((x5_2).toNat * 9)).off + 7, none⟩ = some (.slice A191_7 ((rd_T49 l0_3 x5_2).f7).length c191_7) ∧ w39.cell? ⟨(ad191.add ((x5_2).toNat * 9)).block, (ad191.add ((x5_2).toNat * 9)).off + 8, none⟩ = some (.slice A191_8 ((rd_T49 l0_3 x5_2).f8).length c191_8) := hS_
       refine norm_ (a' := ?_) ?_ ?_
       rotate_left
       ·simp only [putAll, Act.put, zA, zB, zC]
        rfl
       refine one_ (i := 14) (N := none) #[I, I, I, I, I, I, I, I, I, I, I, I, I, I, I, O] rfl rfl (one_of HT_.out (by kernel_rfl)) (by decide) (fun K hK => ?_)
       have hs40 : w39.cell? ⟨gb196, 0, none⟩ = some (.int .i64 0) := (blk_cell BK196.out 0).trans rfl
       have hfs40 := blk_frozen BK196.out 0
       have hns40_0 := NB184_196.out
       have hms40_0 := NB196_184.out
       have hs41 : w39.cell? ⟨gb196, 1, none⟩ = some (.int .i64 0) := (blk_cell BK196.out 1).trans rfl
       have hfs41 := blk_frozen BK196.out 1
       have hns41_0 := NB184_196.out
       have hms41_0 := NB196_184.out
       have hs42 : w39.cell? ⟨gb196, 2, none⟩ = some (.int .i64 0) := (blk_cell BK196.out 2).trans rfl
       have hfs42 := blk_frozen BK196.out 2
       have hns42_0 := NB184_196.out
       have hms42_0 := NB196_184.out
       refine skip_ (w1 := ?_) (by rfl) rfl ?_ ?_
       rotate_left
       ·go_simp
        rfl
       refine hK.out _ _ ⟨((cell_far (p := ⟨gb196, _, none⟩) NB184_196.out _).trans (((cell_far (p := ⟨gb196, _, none⟩) NB184_196.out _).trans (((cell_far (p := ⟨gb196, _, none⟩) NB184_196.out _).trans (hHeld.1)))))), ((cell_far (p := ⟨gb196, _, none⟩) NB184_196.out _).trans (((cell_far (p := ⟨gb196, _, none⟩) NB184_196.out _).trans (((cell_far (p := ⟨gb196, _, none⟩) NB184_196.out _).trans (hHeld.2.1)))))), ((cell_far (p := ⟨gb196, _, none⟩) NB184_196.out _).trans (((cell_far (p := ⟨gb196, _, none⟩) NB184_196.out _).trans (((cell_far (p := ⟨gb196, _, none⟩) NB184_196.out _).trans (hHeld.2.2.1)))))), ((cell_far (p := ⟨gb196, _, none⟩) NB184_196.out _).trans (((cell_far (p := ⟨gb196, _, none⟩) NB184_196.out _).trans (((cell_far (p := ⟨gb196, _, none⟩) NB184_196.out _).trans (hHeld.2.2.2.1)))))), ((cell_far (p := ⟨gb196, _, none⟩) (by first | exact Kd.own_blk (Kd.R_away HO_4.out (fun _ hk => hk)) | (rw [add_block]; exact Kd.own_blk (Kd.R_away HO_4.out (fun _ hk => hk))) | (show (Addr.add _ _).block ≠ _; rw [add_block]; exact Kd.own_blk (Kd.R_away HO_4.out (fun _ hk => hk))) | (dsimp only; exact Kd.own_blk (Kd.R_away HO_4.out (fun _ hk => hk)))) _).trans (((cell_far (p := ⟨gb196, _, none⟩) (by first | exact Kd.own_blk (Kd.R_away HO_4.out (fun _ hk => hk)) | (rw [add_block]; exact Kd.own_blk (Kd.R_away HO_4.out (fun _ hk => hk))) | (show (Addr.add _ _).block ≠ _; rw [add_block]; exact Kd.own_blk (Kd.R_away HO_4.out (fun _ hk => hk))) | (dsimp only; exact Kd.own_blk (Kd.R_away HO_4.out (fun _ hk => hk)))) _).trans (((cell_far (p := ⟨gb196, _, none⟩) (by first | exact Kd.own_blk (Kd.R_away HO_4.out (fun _ hk => hk)) | (rw [add_block]; exact Kd.own_blk (Kd.R_away HO_4.out (fun _ hk => hk))) | (show (Addr.add _ _).block ≠ _; rw [add_block]; exact Kd.own_blk (Kd.R_away HO_4.out (fun _ hk => hk))) | (dsimp only; exact Kd.own_blk (Kd.R_away HO_4.out (fun _ hk => hk)))) _).trans (hHeld.2.2.2.2.1)))))), ((cell_far (p := ⟨gb196, _, none⟩) (by first | exact Kd.own_blk (Kd.R_away HO_4.out (fun _ hk => hk)) | (rw [add_block]; exact Kd.own_blk (Kd.R_away HO_4.out (fun _ hk => hk))) | (show (Addr.add _ _).block ≠ _; rw [add_block]; exact Kd.own_blk (Kd.R_away HO_4.out (fun _ hk => hk))) | (dsimp only; exact Kd.own_blk (Kd.R_away HO_4.out (fun _ hk => hk)))) _).trans (((cell_far (p := ⟨gb196, _, none⟩) (by first | exact Kd.own_blk (Kd.R_away HO_4.out (fun _ hk => hk)) | (rw [add_block]; exact Kd.own_blk (Kd.R_away HO_4.out (fun _ hk => hk))) | (show (Addr.add _ _).block ≠ _; rw [add_block]; exact Kd.own_blk (Kd.R_away HO_4.out (fun _ hk => hk))) | (dsimp only; exact Kd.own_blk (Kd.R_away HO_4.out (fun _ hk => hk)))) _).trans (((cell_far (p := ⟨gb196, _, none⟩) (by first | exact Kd.own_blk (Kd.R_away HO_4.out (fun _ hk => hk)) | (rw [add_block]; exact Kd.own_blk (Kd.R_away HO_4.out (fun _ hk => hk))) | (show (Addr.add _ _).block ≠ _; rw [add_block]; exact Kd.own_blk (Kd.R_away HO_4.out (fun _ hk => hk))) | (dsimp only; exact Kd.own_blk (Kd.R_away HO_4.out (fun _ hk => hk)))) _).trans (hHeld.2.2.2.2.2.1)))))), ((cell_far (p := ⟨gb196, _, none⟩) (by first | exact Kd.own_blk (Kd.R_away HO_4.out (fun _ hk => hk)) | (rw [add_block]; exact Kd.own_blk (Kd.R_away HO_4.out (fun _ hk => hk))) | (show (Addr.add _ _).block ≠ _; rw [add_block]; exact Kd.own_blk (Kd.R_away HO_4.out (fun _ hk => hk))) | (dsimp only; exact Kd.own_blk (Kd.R_away HO_4.out (fun _ hk => hk)))) _).trans (((cell_far (p := ⟨gb196, _, none⟩) (by first | exact Kd.own_blk (Kd.R_away HO_4.out (fun _ hk => hk)) | (rw [add_block]; exact Kd.own_blk (Kd.R_away HO_4.out (fun _ hk => hk))) | (show (Addr.add _ _).block ≠ _; rw [add_block]; exact Kd.own_blk (Kd.R_away HO_4.out (fun _ hk => hk))) | (dsimp only; exact Kd.own_blk (Kd.R_away HO_4.out (fun _ hk => hk)))) _).trans (((cell_far (p := ⟨gb196, _, none⟩) (by first | exact Kd.own_blk (Kd.R_away HO_4.out (fun _ hk => hk)) | (rw [add_block]; exact Kd.own_blk (Kd.R_away HO_4.out (fun _ hk => hk))) | (show (Addr.add _ _).block ≠ _; rw [add_block]; exact Kd.own_blk (Kd.R_away HO_4.out (fun _ hk => hk))) | (dsimp only; exact Kd.own_blk (Kd.R_away HO_4.out (fun _ hk => hk)))) _).trans (hHeld.2.2.2.2.2.2.1)))))), ((cell_far (p := ⟨gb196, _, none⟩) (by first | exact Nat.ne_of_lt (Nat.lt_of_lt_of_le (by have := World.block_lt_of_cell? _ _ hw191_0; first | rwa [add_block] at this | exact this) GW196.out) | (rw [add_block]; exact Nat.ne_of_lt (Nat.lt_of_lt_of_le (by have := World.block_lt_of_cell? _ _ hw191_0; first | rwa [add_block] at this | exact this) GW196.out)) | (show (Addr.add _ _).block ≠ _; rw [add_block]; exact Nat.ne_of_lt (Nat.lt_of_lt_of_le (by have := World.block_lt_of_cell? _ _ hw191_0; first | rwa [add_block] at this | exact this) GW196.out)) | (dsimp only; exact Nat.ne_of_lt (Nat.lt_of_lt_of_le (by have := World.block_lt_of_cell? _ _ hw191_0; first | rwa [add_block] at this | exact this) GW196.out))) _).trans (((cell_far (p := ⟨gb196, _, none⟩) (by first | exact Nat.ne_of_lt (Nat.lt_of_lt_of_le (by have := World.block_lt_of_cell? _ _ hw191_0; first | rwa [add_block] at this | exact this) GW196.out) | (rw [add_block]; exact Nat.ne_of_lt (Nat.lt_of_lt_of_le (by have := World.block_lt_of_cell? _ _ hw191_0; first | rwa [add_block] at this | exact this) GW196.out)) | (show (Addr.add _ _).block ≠ _; rw [add_block]; exact Nat.ne_of_lt (Nat.lt_of_lt_of_le (by have := World.block_lt_of_cell? _ _ hw191_0; first | rwa [add_block] at this | exact this) GW196.out)) | (dsimp only; exact Nat.ne_of_lt (Nat.lt_of_lt_of_le (by have := World.block_lt_of_cell? _ _ hw191_0; first | rwa [add_block] at this | exact this) GW196.out))) _).trans (((cell_far (p := ⟨gb196, _, none⟩) (by first | exact Nat.ne_of_lt (Nat.lt_of_lt_of_le (by have := World.block_lt_of_cell? _ _ hw191_0; first | rwa [add_block] at this | exact this) GW196.out) | (rw [add_block]; exact Nat.ne_of_lt (Nat.lt_of_lt_of_le (by have := World.block_lt_of_cell? _ _ hw191_0; first | rwa [add_block] at this | exact this) GW196.out)) | (show (Addr.add _ _).block ≠ _; rw [add_block]; exact Nat.ne_of_lt (Nat.lt_of_lt_of_le (by have := World.block_lt_of_cell? _ _ hw191_0; first | rwa [add_block] at this | exact this) GW196.out)) | (dsimp only; exact Nat.ne_of_lt (Nat.lt_of_lt_of_le (by have := World.block_lt_of_cell? _ _ hw191_0; first | rwa [add_block] at this | exact this) GW196.out))) _).trans (hHeld.2.2.2.2.2.2.2.1)))))), ((cell_far (p := ⟨gb196, _, none⟩) (by first | exact Nat.ne_of_lt (Nat.lt_of_lt_of_le (by have := World.block_lt_of_cell? _ _ hw191_1; first | rwa [add_block] at this | exact this) GW196.out) | (rw [add_block]; exact Nat.ne_of_lt (Nat.lt_of_lt_of_le (by have := World.block_lt_of_cell? _ _ hw191_1; first | rwa [add_block] at this | exact this) GW196.out)) | (show (Addr.add _ _).block ≠ _; rw [add_block]; exact Nat.ne_of_lt (Nat.lt_of_lt_of_le (by have := World.block_lt_of_cell? _ _ hw191_1; first | rwa [add_block] at this | exact this) GW196.out)) | (dsimp only; exact Nat.ne_of_lt (Nat.lt_of_lt_of_le (by have := World.block_lt_of_cell? _ _ hw191_1; first | rwa [add_block] at this | exact this) GW196.out))) _).trans (((cell_far (p := ⟨gb196, _, none⟩) (by first | exact Nat.ne_of_lt (Nat.lt_of_lt_of_le (by have := World.block_lt_of_cell? _ _ hw191_1; first | rwa [add_block] at this | exact this) GW196.out) | (rw [add_block]; exact Nat.ne_of_lt (Nat.lt_of_lt_of_le (by have := World.block_lt_of_cell? _ _ hw191_1; first | rwa [add_block] at this | exact this) GW196.out)) | (show (Addr.add _ _).block ≠ _; rw [add_block]; exact Nat.ne_of_lt (Nat.lt_of_lt_of_le (by have := World.block_lt_of_cell? _ _ hw191_1; first | rwa [add_block] at this | exact this) GW196.out)) | (dsimp only; exact Nat.ne_of_lt (Nat.lt_of_lt_of_le (by have := World.block_lt_of_cell? _ _ hw191_1; first | rwa [add_block] at this | exact this) GW196.out))) _).trans (((cell_far (p := ⟨gb196, _, none⟩) (by first | exact Nat.ne_of_lt (Nat.lt_of_lt_of_le (by have := World.block_lt_of_cell? _ _ hw191_1; first | rwa [add_block] at this | exact this) GW196.out) | (rw [add_block]; exact Nat.ne_of_lt (Nat.lt_of_lt_of_le (by have := World.block_lt_of_cell? _ _ hw191_1; first | rwa [add_block] at this | exact this) GW196.out)) | (show (Addr.add _ _).block ≠ _; rw [add_block]; exact Nat.ne_of_lt (Nat.lt_of_lt_of_le (by have := World.block_lt_of_cell? _ _ hw191_1; first | rwa [add_block] at this | exact this) GW196.out)) | (dsimp only; exact Nat.ne_of_lt (Nat.lt_of_lt_of_le (by have := World.block_lt_of_cell? _ _ hw191_1; first | rwa [add_block] at this | exact this) GW196.out))) _).trans (hHeld.2.2.2.2.2.2.2.2.1)))))), ((cell_far (p := ⟨gb196, _, none⟩) (by first | exact Nat.ne_of_lt (Nat.lt_of_lt_of_le (by have := World.block_lt_of_cell? _ _ hw191_2; first | rwa [add_block] at this | exact this) GW196.out) | (rw [add_block]; exact Nat.ne_of_lt (Nat.lt_of_lt_of_le (by have := World.block_lt_of_cell? _ _ hw191_2; first | rwa [add_block] at this | exact this) GW196.out)) | (show (Addr.add _ _).block ≠ _; rw [add_block]; exact Nat.ne_of_lt (Nat.lt_of_lt_of_le (by have := World.block_lt_of_cell? _ _ hw191_2; first | rwa [add_block] at this | exact this) GW196.out)) | (dsimp only; exact Nat.ne_of_lt (Nat.lt_of_lt_of_le (by have := World.block_lt_of_cell? _ _ hw191_2; first | rwa [add_block] at this | exact this) GW196.out))) _).trans (((cell_far (p := ⟨gb196, _, none⟩) (by first | exact Nat.ne_of_lt (Nat.lt_of_lt_of_le (by have := World.block_lt_of_cell? _ _ hw191_2; first | rwa [add_block] at this | exact this) GW196.out) | (rw [add_block]; exact Nat.ne_of_lt (Nat.lt_of_lt_of_le (by have := World.block_lt_of_cell? _ _ hw191_2; first | rwa [add_block] at this | exact this) GW196.out)) | (show (Addr.add _ _).block ≠ _; rw [add_block]; exact Nat.ne_of_lt (Nat.lt_of_lt_of_le (by have := World.block_lt_of_cell? _ _ hw191_2; first | rwa [add_block] at this | exact this) GW196.out)) | (dsimp only; exact Nat.ne_of_lt (Nat.lt_of_lt_of_le (by have := World.block_lt_of_cell? _ _ hw191_2; first | rwa [add_block] at this | exact this) GW196.out))) _).trans (((cell_far (p := ⟨gb196, _, none⟩) (by first | exact Nat.ne_of_lt (Nat.lt_of_lt_of_le (by have := World.block_lt_of_cell? _ _ hw191_2; first | rwa [add_block] at this | exact this) GW196.out) | (rw [add_block]; exact Nat.ne_of_lt (Nat.lt_of_lt_of_le (by have := World.block_lt_of_cell? _ _ hw191_2; first | rwa [add_block] at this | exact this) GW196.out)) | (show (Addr.add _ _).block ≠ _; rw [add_block]; exact Nat.ne_of_lt (Nat.lt_of_lt_of_le (by have := World.block_lt_of_cell? _ _ hw191_2; first | rwa [add_block] at this | exact this) GW196.out)) | (dsimp only; exact Nat.ne_of_lt (Nat.lt_of_lt_of_le (by have := World.block_lt_of_cell? _ _ hw191_2; first | rwa [add_block] at this | exact this) GW196.out))) _).trans (hHeld.2.2.2.2.2.2.2.2.2.1)))))), ((cell_far (p := ⟨gb196, _, none⟩) (by first | exact Nat.ne_of_lt (Nat.lt_of_lt_of_le (by have := World.block_lt_of_cell? _ _ hw191_3; first | rwa [add_block] at this | exact this) GW196.out) | (rw [add_block]; exact Nat.ne_of_lt (Nat.lt_of_lt_of_le (by have := World.block_lt_of_cell? _ _ hw191_3; first | rwa [add_block] at this | exact this) GW196.out)) | (show (Addr.add _ _).block ≠ _; rw [add_block]; exact Nat.ne_of_lt (Nat.lt_of_lt_of_le (by have := World.block_lt_of_cell? _ _ hw191_3; first | rwa [add_block] at this | exact this) GW196.out)) | (dsimp only; exact Nat.ne_of_lt (Nat.lt_of_lt_of_le (by have := World.block_lt_of_cell? _ _ hw191_3; first | rwa [add_block] at this | exact this) GW196.out))) _).trans (((cell_far (p := ⟨gb196, _, none⟩) (by first | exact Nat.ne_of_lt (Nat.lt_of_lt_of_le (by have := World.block_lt_of_cell? _ _ hw191_3; first | rwa [add_block] at this | exact this) GW196.out) | (rw [add_block]; exact Nat.ne_of_lt (Nat.lt_of_lt_of_le (by have := World.block_lt_of_cell? _ _ hw191_3; first | rwa [add_block] at this | exact this) GW196.out)) | (show (Addr.add _ _).block ≠ _; rw [add_block]; exact Nat.ne_of_lt (Nat.lt_of_lt_of_le (by have := World.block_lt_of_cell? _ _ hw191_3; first | rwa [add_block] at this | exact this) GW196.out)) | (dsimp only; exact Nat.ne_of_lt (Nat.lt_of_lt_of_le (by have := World.block_lt_of_cell? _ _ hw191_3; first | rwa [add_block] at this | exact this) GW196.out))) _).trans (((cell_far (p := ⟨gb196, _, none⟩) (by first | exact Nat.ne_of_lt (Nat.lt_of_lt_of_le (by have := World.block_lt_of_cell? _ _ hw191_3; first | rwa [add_block] at this | exact this) GW196.out) | (rw [add_block]; exact Nat.ne_of_lt (Nat.lt_of_lt_of_le (by have := World.block_lt_of_cell? _ _ hw191_3; first | rwa [add_block] at this | exact this) GW196.out)) | (show (Addr.add _ _).block ≠ _; rw [add_block]; exact Nat.ne_of_lt (Nat.lt_of_lt_of_le (by have := World.block_lt_of_cell? _ _ hw191_3; first | rwa [add_block] at this | exact this) GW196.out)) | (dsimp only; exact Nat.ne_of_lt (Nat.lt_of_lt_of_le (by have := World.block_lt_of_cell? _ _ hw191_3; first | rwa [add_block] at this | exact this) GW196.out))) _).trans (hHeld.2.2.2.2.2.2.2.2.2.2.1)))))), ((cell_far (p := ⟨gb196, _, none⟩) (by first | exact Nat.ne_of_lt (Nat.lt_of_lt_of_le (by have := World.block_lt_of_cell? _ _ hw191_4; first | rwa [add_block] at this | exact this) GW196.out) | (rw [add_block]; exact Nat.ne_of_lt (Nat.lt_of_lt_of_le (by have := World.block_lt_of_cell? _ _ hw191_4; first | rwa [add_block] at this | exact this) GW196.out)) | (show (Addr.add _ _).block ≠ _; rw [add_block]; exact Nat.ne_of_lt (Nat.lt_of_lt_of_le (by have := World.block_lt_of_cell? _ _ hw191_4; first | rwa [add_block] at this | exact this) GW196.out)) | (dsimp only; exact Nat.ne_of_lt (Nat.lt_of_lt_of_le (by have := World.block_lt_of_cell? _ _ hw191_4; first | rwa [add_block] at this | exact this) GW196.out))) _).trans (((cell_far (p := ⟨gb196, _, none⟩) (by first | exact Nat.ne_of_lt (Nat.lt_of_lt_of_le (by have := World.block_lt_of_cell? _ _ hw191_4; first | rwa [add_block] at this | exact this) GW196.out) | (rw [add_block]; exact Nat.ne_of_lt (Nat.lt_of_lt_of_le (by have := World.block_lt_of_cell? _ _ hw191_4; first | rwa [add_block] at this | exact this) GW196.out)) | (show (Addr.add _ _).block ≠ _; rw [add_block]; exact Nat.ne_of_lt (Nat.lt_of_lt_of_le (by have := World.block_lt_of_cell? _ _ hw191_4; first | rwa [add_block] at this | exact this) GW196.out)) | (dsimp only; exact Nat.ne_of_lt (Nat.lt_of_lt_of_le (by have := World.block_lt_of_cell? _ _ hw191_4; first | rwa [add_block] at this | exact this) GW196.out))) _).trans (((cell_far (p := ⟨gb196, _, none⟩) (by first | exact Nat.ne_of_lt (Nat.lt_of_lt_of_le (by have := World.block_lt_of_cell? _ _ hw191_4; first | rwa [add_block] at this | exact this) GW196.out) | (rw [add_block]; exact Nat.ne_of_lt (Nat.lt_of_lt_of_le (by have := World.block_lt_of_cell? _ _ hw191_4; first | rwa [add_block] at this | exact this) GW196.out)) | (show (Addr.add _ _).block ≠ _; rw [add_block]; exact Nat.ne_of_lt (Nat.lt_of_lt_of_le (by have := World.block_lt_of_cell? _ _ hw191_4; first | rwa [add_block] at this | exact this) GW196.out)) | (dsimp only; exact Nat.ne_of_lt (Nat.lt_of_lt_of_le (by have := World.block_lt_of_cell? _ _ hw191_4; first | rwa [add_block] at this | exact this) GW196.out))) _).trans (hHeld.2.2.2.2.2.2.2.2.2.2.2.1)))))), ((cell_far (p := ⟨gb196, _, none⟩) (by first | exact Nat.ne_of_lt (Nat.lt_of_lt_of_le (by have := World.block_lt_of_cell? _ _ hw191_5; first | rwa [add_block] at this | exact this) GW196.out) | (rw [add_block]; exact Nat.ne_of_lt (Nat.lt_of_lt_of_le (by have := World.block_lt_of_cell? _ _ hw191_5; first | rwa [add_block] at this | exact this) GW196.out)) | (show (Addr.add _ _).block ≠ _; rw [add_block]; exact Nat.ne_of_lt (Nat.lt_of_lt_of_le (by have := World.block_lt_of_cell? _ _ hw191_5; first | rwa [add_block] at this | exact this) GW196.out)) | (dsimp only; exact Nat.ne_of_lt (Nat.lt_of_lt_of_le (by have := World.block_lt_of_cell? _ _ hw191_5; first | rwa [add_block] at this | exact this) GW196.out))) _).trans (((cell_far (p := ⟨gb196, _, none⟩) (by first | exact Nat.ne_of_lt (Nat.lt_of_lt_of_le (by have := World.block_lt_of_cell? _ _ hw191_5; first | rwa [add_block] at this | exact this) GW196.out) | (rw [add_block]; exact Nat.ne_of_lt (Nat.lt_of_lt_of_le (by have := World.block_lt_of_cell? _ _ hw191_5; first | rwa [add_block] at this | exact this) GW196.out)) | (show (Addr.add _ _).block ≠ _; rw [add_block]; exact Nat.ne_of_lt (Nat.lt_of_lt_of_le (by have := World.block_lt_of_cell? _ _ hw191_5; first | rwa [add_block] at this | exact this) GW196.out)) | (dsimp only; exact Nat.ne_of_lt (Nat.lt_of_lt_of_le (by have := World.block_lt_of_cell? _ _ hw191_5; first | rwa [add_block] at this | exact this) GW196.out))) _).trans (((cell_far (p := ⟨gb196, _, none⟩) (by first | exact Nat.ne_of_lt (Nat.lt_of_lt_of_le (by have := World.block_lt_of_cell? _ _ hw191_5; first | rwa [add_block] at this | exact this) GW196.out) | (rw [add_block]; exact Nat.ne_of_lt (Nat.lt_of_lt_of_le (by have := World.block_lt_of_cell? _ _ hw191_5; first | rwa [add_block] at this | exact this) GW196.out)) | (show (Addr.add _ _).block ≠ _; rw [add_block]; exact Nat.ne_of_lt (Nat.lt_of_lt_of_le (by have := World.block_lt_of_cell? _ _ hw191_5; first | rwa [add_block] at this | exact this) GW196.out)) | (dsimp only; exact Nat.ne_of_lt (Nat.lt_of_lt_of_le (by have := World.block_lt_of_cell? _ _ hw191_5; first | rwa [add_block] at this | exact this) GW196.out))) _).trans (hHeld.2.2.2.2.2.2.2.2.2.2.2.2.1)))))), ((cell_far (p := ⟨gb196, _, none⟩) (by first | exact Nat.ne_of_lt (Nat.lt_of_lt_of_le (by have := World.block_lt_of_cell? _ _ hw191_6; first | rwa [add_block] at this | exact this) GW196.out) | (rw [add_block]; exact Nat.ne_of_lt (Nat.lt_of_lt_of_le (by have := World.block_lt_of_cell? _ _ hw191_6; first | rwa [add_block] at this | exact this) GW196.out)) | (show (Addr.add _ _).block ≠ _; rw [add_block]; exact Nat.ne_of_lt (Nat.lt_of_lt_of_le (by have := World.block_lt_of_cell? _ _ hw191_6; first | rwa [add_block] at this | exact this) GW196.out)) | (dsimp only; exact Nat.ne_of_lt (Nat.lt_of_lt_of_le (by have := World.block_lt_of_cell? _ _ hw191_6; first | rwa [add_block] at this | exact this) GW196.out))) _).trans (((cell_far (p := ⟨gb196, _, none⟩) (by first | exact Nat.ne_of_lt (Nat.lt_of_lt_of_le (by have := World.block_lt_of_cell? _ _ hw191_6; first | rwa [add_block] at this | exact this) GW196.out) | (rw [add_block]; exact Nat.ne_of_lt (Nat.lt_of_lt_of_le (by have := World.block_lt_of_cell? _ _ hw191_6; first | rwa [add_block] at this | exact this) GW196.out)) | (show (Addr.add _ _).block ≠ _; rw [add_block]; exact Nat.ne_of_lt (Nat.lt_of_lt_of_le (by have := World.block_lt_of_cell? _ _ hw191_6; first | rwa [add_block] at this | exact this) GW196.out)) | (dsimp only; exact Nat.ne_of_lt (Nat.lt_of_lt_of_le (by have := World.block_lt_of_cell? _ _ hw191_6; first | rwa [add_block] at this | exact this) GW196.out))) _).trans (((cell_far (p := ⟨gb196, _, none⟩) (by first | exact Nat.ne_of_lt (Nat.lt_of_lt_of_le (by have := World.block_lt_of_cell? _ _ hw191_6; first | rwa [add_block] at this | exact this) GW196.out) | (rw [add_block]; exact Nat.ne_of_lt (Nat.lt_of_lt_of_le (by have := World.block_lt_of_cell? _ _ hw191_6; first | rwa [add_block] at this | exact this) GW196.out)) | (show (Addr.add _ _).block ≠ _; rw [add_block]; exact Nat.ne_of_lt (Nat.lt_of_lt_of_le (by have := World.block_lt_of_cell? _ _ hw191_6; first | rwa [add_block] at this | exact this) GW196.out)) | (dsimp only; exact Nat.ne_of_lt (Nat.lt_of_lt_of_le (by have := World.block_lt_of_cell? _ _ hw191_6; first | rwa [add_block] at this | exact this) GW196.out))) _).trans (hHeld.2.2.2.2.2.2.2.2.2.2.2.2.2.1)))))), ((cell_far (p := ⟨gb196, _, none⟩) (by first | exact Nat.ne_of_lt (Nat.lt_of_lt_of_le (by have := World.block_lt_of_cell? _ _ hw191_7; first | rwa [add_block] at this | exact this) GW196.out) | (rw [add_block]; exact Nat.ne_of_lt (Nat.lt_of_lt_of_le (by have := World.block_lt_of_cell? _ _ hw191_7; first | rwa [add_block] at this | exact this) GW196.out)) | (show (Addr.add _ _).block ≠ _; rw [add_block]; exact Nat.ne_of_lt (Nat.lt_of_lt_of_le (by have := World.block_lt_of_cell? _ _ hw191_7; first | rwa [add_block] at this | exact this) GW196.out)) | (dsimp only; exact Nat.ne_of_lt (Nat.lt_of_lt_of_le (by have := World.block_lt_of_cell? _ _ hw191_7; first | rwa [add_block] at this | exact this) GW196.out))) _).trans (((cell_far (p := ⟨gb196, _, none⟩) (by first | exact Nat.ne_of_lt (Nat.lt_of_lt_of_le (by have := World.block_lt_of_cell? _ _ hw191_7; first | rwa [add_block] at this | exact this) GW196.out) | (rw [add_block]; exact Nat.ne_of_lt (Nat.lt_of_lt_of_le (by have := World.block_lt_of_cell? _ _ hw191_7; first | rwa [add_block] at this | exact this) GW196.out)) | (show (Addr.add _ _).block ≠ _; rw [add_block]; exact Nat.ne_of_lt (Nat.lt_of_lt_of_le (by have := World.block_lt_of_cell? _ _ hw191_7; first | rwa [add_block] at this | exact this) GW196.out)) | (dsimp only; exact Nat.ne_of_lt (Nat.lt_of_lt_of_le (by have := World.block_lt_of_cell? _ _ hw191_7; first | rwa [add_block] at this | exact this) GW196.out))) _).trans (((cell_far (p := ⟨gb196, _, none⟩) (by first | exact Nat.ne_of_lt (Nat.lt_of_lt_of_le (by have := World.block_lt_of_cell? _ _ hw191_7; first | rwa [add_block] at this | exact this) GW196.out) | (rw [add_block]; exact Nat.ne_of_lt (Nat.lt_of_lt_of_le (by have := World.block_lt_of_cell? _ _ hw191_7; first | rwa [add_block] at this | exact this) GW196.out)) | (show (Addr.add _ _).block ≠ _; rw [add_block]; exact Nat.ne_of_lt (Nat.lt_of_lt_of_le (by have := World.block_lt_of_cell? _ _ hw191_7; first | rwa [add_block] at this | exact this) GW196.out)) | (dsimp only; exact Nat.ne_of_lt (Nat.lt_of_lt_of_le (by have := World.block_lt_of_cell? _ _ hw191_7; first | rwa [add_block] at this | exact this) GW196.out))) _).trans (hHeld.2.2.2.2.2.2.2.2.2.2.2.2.2.2.1)))))), ((cell_far (p := ⟨gb196, _, none⟩) (by first | exact Nat.ne_of_lt (Nat.lt_of_lt_of_le (by have := World.block_lt_of_cell? _ _ hw191_8; first | rwa [add_block] at this | exact this) GW196.out) | (rw [add_block]; exact Nat.ne_of_lt (Nat.lt_of_lt_of_le (by have := World.block_lt_of_cell? _ _ hw191_8; first | rwa [add_block] at this | exact this) GW196.out)) | (show (Addr.add _ _).block ≠ _; rw [add_block]; exact Nat.ne_of_lt (Nat.lt_of_lt_of_le (by have := World.block_lt_of_cell? _ _ hw191_8; first | rwa [add_block] at this | exact this) GW196.out)) | (dsimp only; exact Nat.ne_of_lt (Nat.lt_of_lt_of_le (by have := World.block_lt_of_cell? _ _ hw191_8; first | rwa [add_block] at this | exact this) GW196.out))) _).trans (((cell_far (p := ⟨gb196, _, none⟩) (by first | exact Nat.ne_of_lt (Nat.lt_of_lt_of_le (by have := World.block_lt_of_cell? _ _ hw191_8; first | rwa [add_block] at this | exact this) GW196.out) | (rw [add_block]; exact Nat.ne_of_lt (Nat.lt_of_lt_of_le (by have := World.block_lt_of_cell? _ _ hw191_8; first | rwa [add_block] at this | exact this) GW196.out)) | (show (Addr.add _ _).block ≠ _; rw [add_block]; exact Nat.ne_of_lt (Nat.lt_of_lt_of_le (by have := World.block_lt_of_cell? _ _ hw191_8; first | rwa [add_block] at this | exact this) GW196.out)) | (dsimp only; exact Nat.ne_of_lt (Nat.lt_of_lt_of_le (by have := World.block_lt_of_cell? _ _ hw191_8; first | rwa [add_block] at this | exact this) GW196.out))) _).trans (((cell_far (p := ⟨gb196, _, none⟩) (by first | exact Nat.ne_of_lt (Nat.lt_of_lt_of_le (by have := World.block_lt_of_cell? _ _ hw191_8; first | rwa [add_block] at this | exact this) GW196.out) | (rw [add_block]; exact Nat.ne_of_lt (Nat.lt_of_lt_of_le (by have := World.block_lt_of_cell? _ _ hw191_8; first | rwa [add_block] at this | exact this) GW196.out)) | (show (Addr.add _ _).block ≠ _; rw [add_block]; exact Nat.ne_of_lt (Nat.lt_of_lt_of_le (by have := World.block_lt_of_cell? _ _ hw191_8; first | rwa [add_block] at this | exact this) GW196.out)) | (dsimp only; exact Nat.ne_of_lt (Nat.lt_of_lt_of_le (by have := World.block_lt_of_cell? _ _ hw191_8; first | rwa [add_block] at this | exact this) GW196.out))) _).trans (hHeld.2.2.2.2.2.2.2.2.2.2.2.2.2.2.2))))))⟩ (fun hHeld => ?_)
       clear hK K
       refine stepP 15 (some 7) (tk 16 65535) (any_of HT_.out (by kernel_rfl)) ?_
       refine done_ (done_of HT_.out (by kernel_rfl)) ?_
       try go_wp2
       go_ret2
       exact ⟨_, eqN, by first | exact Kd.R_nil _ _ _ _ _ | exact Kd.N_nil _ _ _ _ _ | exact Kd.V_nil _ _ _ _ _ | exact Kd.Q_nil _ _ _ _ _ | exact Kd.S_nil _ _ _ _ _, bel_now⟩
      subst c20
      rw [if_pos rfl] at H
      by_cases c21 : x4_2.length < 5864062014805
      rotate_left
      ·rw [if_neg c21] at H
       exact absurd H (by simp)
      rw [if_pos c21] at H
      have LMc21 := Aside0.mk c21
      clear c21
      obtain ⟨y197, hy197⟩ : ∃ y_ : List (S29), y_ = (x4_2 ++ [(⟨t192, t193, t194⟩ : S29)]) := ⟨_, rfl⟩
      replace H : (spec_l04Shapes.l0 k2 y197 (wrap64 (x5_2 + 1)) a0_0 a0_1 a0_2 l0_3) = some (r1, r2) := by first | (rw [hy197]; with_reducible exact H) | (have H2_ := (Option.bind_some _ _).symm.trans H; rw [hy197]; with_reducible exact H2_) | (have H2_ := (Option.bind_some _ _).symm.trans H; with_reducible exact H2_) | with_reducible exact H | (rw [hy197]; exact H) | exact H
      have Ny197 := Aside0.mk hy197
      clear hy197
      have H' := Aside0.mk H
      clear H
      have hcz22 := cells4 BK184.out
      try go_wp2
      replace HO_4 := Aside0.mk (Kd.R_drew HO_4.out)
      replace BK184 := Aside0.mk (blk_drew BK184.out)
      replace HB := Aside0.mk (below_drew1 HB.out)
      obtain ⟨Ao24, co24, eo24⟩ := Kd.R_slice HO_4.out
      (first | subst eo24 | (injection eo24 with f1_ f2_ f3_; have f4_ := f1_.symm; have f5_ := f3_.symm; clear f1_ f2_ f3_; subst f4_; subst f5_))
      have p190 : 0 ≤ (x5_2 : Int) := of_decide_eq_true (by first | (with_reducible assumption) | assumption)
      have q190 : x5_2 < (x4_2.length : Int) := of_decide_eq_true (by first | (with_reducible assumption) | assumption)
      (try (obtain ⟨_, _, eo_⟩ := Kd.R_slice HO_4.out; subst eo_))
      obtain ⟨ad190, e190, hx190_0, hx190_1, hx190_2⟩ := at_T29 (Kd.R_reads' HO_4.out).2.2 x5_2 p190 q190
      cases e190
      replace p190 := eq_true p190
      replace q190 := eq_true q190
      have p191 : 0 ≤ (x5_2 : Int) := of_decide_eq_true (by first | (with_reducible assumption) | assumption)
      have q191 : x5_2 < (l0_3.length : Int) := of_decide_eq_true (by first | (with_reducible assumption) | assumption)
      obtain ⟨ad191, A191_7, c191_7, A191_8, c191_8, e191, hx191_0, hx191_1, hx191_2, hx191_3, hx191_4, hx191_5, hx191_6, hx191_7, hx191_8, hl191_7, hi191_7, hl191_8, hi191_8⟩ := at_T49 HR0_3.out x5_2 p191 q191
      have hw191_8 := hx191_8
      have hw191_7 := hx191_7
      have hw191_6 := hx191_6
      have hw191_5 := hx191_5
      have hw191_4 := hx191_4
      have hw191_3 := hx191_3
      have hw191_2 := hx191_2
      have hw191_1 := hx191_1
      have hw191_0 := hx191_0
      cases e191
      replace hx191_0 := (HB.out.cell (World.block_lt_of_cell? w _ hx191_0)).trans hx191_0
      replace hx191_1 := (HB.out.cell (World.block_lt_of_cell? w _ hx191_1)).trans hx191_1
      replace hx191_2 := (HB.out.cell (World.block_lt_of_cell? w _ hx191_2)).trans hx191_2
      replace hx191_3 := (HB.out.cell (World.block_lt_of_cell? w _ hx191_3)).trans hx191_3
      replace hx191_4 := (HB.out.cell (World.block_lt_of_cell? w _ hx191_4)).trans hx191_4
      replace hx191_5 := (HB.out.cell (World.block_lt_of_cell? w _ hx191_5)).trans hx191_5
      replace hx191_6 := (HB.out.cell (World.block_lt_of_cell? w _ hx191_6)).trans hx191_6
      replace hx191_7 := (HB.out.cell (World.block_lt_of_cell? w _ hx191_7)).trans hx191_7
      replace hx191_8 := (HB.out.cell (World.block_lt_of_cell? w _ hx191_8)).trans hx191_8
      have HR191_7 := Aside0.mk hi191_7
      have HC191_7 := Aside0.mk hl191_7
      clear hi191_7 hl191_7
      have HR191_8 := Aside0.mk hi191_8
      have HC191_8 := Aside0.mk hl191_8
      clear hi191_8 hl191_8
      replace p191 := eq_true p191
      replace q191 := eq_true q191
      refine start_ (n := 16) (S := fun w' => w'.cell? ⟨gb184, 0, none⟩ = some (.int .i64 a0_0) ∧ w'.cell? ⟨gb184, 1, none⟩ = some (.int .i64 a0_1) ∧ w'.cell? ⟨gb184, 2, none⟩ = some (.int .i64 a0_2) ∧ w'.cell? ⟨gb184, 3, none⟩ = some (.slice (some ad191) l0_3.length c0_3) ∧ w'.cell? (ad190.add ((x5_2).toNat * 3)) = some (.int .i64 ((rd_T29 x4_2 x5_2).f0)) ∧ w'.cell? ⟨(ad190.add ((x5_2).toNat * 3)).block, (ad190.add ((x5_2).toNat * 3)).off + 1, none⟩ = some (.int .i64 ((rd_T29 x4_2 x5_2).f1)) ∧ w'.cell? ⟨(ad190.add ((x5_2).toNat * 3)).block, (ad190.add ((x5_2).toNat * 3)).off + 2, none⟩ = some (.int .i64 ((rd_T29 x4_2 x5_2).f2)) ∧ w'.cell? (ad191.add ((x5_2).toNat * 9)) = some (.int .i64 ((rd_T49 l0_3 x5_2).f0)) ∧ w'.cell? ⟨(ad191.add ((x5_2).toNat * 9)).block, (ad191.add ((x5_2).toNat * 9)).off + 1, none⟩ = some (.int .i64 ((rd_T49 l0_3 x5_2).f1)) ∧ w'.cell? ⟨(ad191.add ((x5_2).toNat * 9)).block, (ad191.add ((x5_2).toNat * 9)).off + 2, none⟩ = some (.int .i64 ((rd_T49 l0_3 x5_2).f2)) ∧ w'.cell? ⟨(ad191.add ((x5_2).toNat * 9)).block, (ad191.add ((x5_2).toNat * 9)).off + 3, none⟩ = some (.int .i64 ((rd_T49 l0_3 x5_2).f3)) ∧ w'.cell? ⟨(ad191.add ((x5_2).toNat * 9)).block, (ad191.add ((x5_2).toNat * 9)).off + 4, none⟩ = some (.int .i64 ((rd_T49 l0_3 x5_2).f4)) ∧ w'.cell? ⟨(ad191.add ((x5_2).toNat * 9)).block, (ad191.add ((x5_2).toNat * 9)).off + 5, none⟩ = some (.int .i64 ((rd_T49 l0_3 x5_2).f5)) ∧ w'.cell? ⟨(ad191.add ((x5_2).toNat * 9)).block, (ad191.add ((x5_2).toNat * 9)).off + 6, none⟩ = some (.int .i64 ((rd_T49 l0_3 x5_2).f6)) ∧ w'.cell? ⟨(ad191.add ((x5_2).toNat * 9)).block, (ad191.add ((x5_2).toNat * 9)).off + 7, none⟩ = some (.slice A191_7 ((rd_T49 l0_3 x5_2).f7).length c191_7) ∧ w'.cell? ⟨(ad191.add ((x5_2).toNat * 9)).block, (ad191.add ((x5_2).toNat * 9)).off + 8, none⟩ = some (.slice A191_8 ((rd_T49 l0_3 x5_2).f8).length c191_8)) (ds := []) #[O, O, O, O, O, O, O, O, O, O, O, O, O, O, O, O] (by kernel_rfl) rfl rfl ⟨bc BK184 0, bc BK184 1, bc BK184 2, bc BK184 3, hx190_0, hx190_1, hx190_2, ((HB.out.cell (World.block_lt_of_cell? w _ hw191_0)).trans hw191_0), ((HB.out.cell (World.block_lt_of_cell? w _ hw191_1)).trans hw191_1), ((HB.out.cell (World.block_lt_of_cell? w _ hw191_2)).trans hw191_2), ((HB.out.cell (World.block_lt_of_cell? w _ hw191_3)).trans hw191_3), ((HB.out.cell (World.block_lt_of_cell? w _ hw191_4)).trans hw191_4), ((HB.out.cell (World.block_lt_of_cell? w _ hw191_5)).trans hw191_5), ((HB.out.cell (World.block_lt_of_cell? w _ hw191_6)).trans hw191_6), ((HB.out.cell (World.block_lt_of_cell? w _ hw191_7)).trans hw191_7), ((HB.out.cell (World.block_lt_of_cell? w _ hw191_8)).trans hw191_8)⟩ (fun hHeld => ?_); refine with_tabW spec_l04Shapes.tab7 spec_l04Shapes.bits7 (fun HT_ HW_ => ?_)
      generalize wr.drew = w23 at HO_4 BK184 HB HR191_7 HR191_8 hx190_0 hx190_1 hx190_2 hx191_0 hx191_1 hx191_2 hx191_3 hx191_4 hx191_5 hx191_6 hx191_7 hx191_8 hHeld ⊢
      refine stepP 0 (some 30) (tk 16 1) (any_of HT_.out (by kernel_rfl)) ?_
      refine stepP 1 (some 31) (tk 16 3) (any_of HT_.out (by kernel_rfl)) ?_
      refine stepP 2 (some 32) (tk 16 7) (any_of HT_.out (by kernel_rfl)) ?_
      refine stepP 4 (some 34) (tk 16 23) (any_of HT_.out (by kernel_rfl)) ?_
      refine stepP 6 (some 36) (tk 16 87) (any_of HT_.out (by kernel_rfl)) ?_
      refine stepT 3 (some 33) (tk 16 95) (take_ofW HT_.out HW_.out (by kernel_rfl)) hHeld ?_
      refine stepT 5 (some 35) (tk 16 127) (take_ofW HT_.out HW_.out (by kernel_rfl)) hHeld ?_
      refine stepP 7 (some 37) (tk 16 255) (any_of HT_.out (by kernel_rfl)) ?_
      refine stepT 8 (some 38) (tk 16 511) (take_ofW HT_.out HW_.out (by kernel_rfl)) hHeld ?_
      refine join_ (σ := Nat) 2 #[I, I, I, I, I, I, I, I, I, I, I, I, I, I, O, O] (fun s_ => [(39, .tuple #[.agg #[.int .i64 t192, .int .i64 t193, .int .i64 t194], .bool true]), (6, .pointer (some ⟨s_, 0, none⟩)), (29, .tuple #[.agg #[.int .i64 t192, .int .i64 t193, .int .i64 t194], .bool true]), (40, .agg #[.int .i64 t192, .int .i64 t193, .int .i64 t194]), (41, .bool true)]) (fun s_ w' => (w'.cell? ⟨gb184, 0, none⟩ = some (.int .i64 a0_0) ∧ w'.cell? ⟨gb184, 1, none⟩ = some (.int .i64 a0_1) ∧ w'.cell? ⟨gb184, 2, none⟩ = some (.int .i64 a0_2) ∧ w'.cell? ⟨gb184, 3, none⟩ = some (.slice (some ad191) l0_3.length c0_3) ∧ w'.cell? (ad190.add ((x5_2).toNat * 3)) = some (.int .i64 ((rd_T29 x4_2 x5_2).f0)) ∧ w'.cell? ⟨(ad190.add ((x5_2).toNat * 3)).block, (ad190.add ((x5_2).toNat * 3)).off + 1, none⟩ = some (.int .i64 ((rd_T29 x4_2 x5_2).f1)) ∧ w'.cell? ⟨(ad190.add ((x5_2).toNat * 3)).block, (ad190.add ((x5_2).toNat * 3)).off + 2, none⟩ = some (.int .i64 ((rd_T29 x4_2 x5_2).f2)) ∧ w'.cell? (ad191.add ((x5_2).toNat * 9)) = some (.int .i64 ((rd_T49 l0_3 x5_2).f0)) ∧ w'.cell? ⟨(ad191.add ((x5_2).toNat * 9)).block, (ad191.add ((x5_2).toNat * 9)).off + 1, none⟩ = some (.int .i64 ((rd_T49 l0_3 x5_2).f1)) ∧ w'.cell? ⟨(ad191.add ((x5_2).toNat * 9)).block, (ad191.add ((x5_2).toNat * 9)).off + 2, none⟩ = some (.int .i64 ((rd_T49 l0_3 x5_2).f2)) ∧ w'.cell? ⟨(ad191.add ((x5_2).toNat * 9)).block, (ad191.add ((x5_2).toNat * 9)).off + 3, none⟩ = some (.int .i64 ((rd_T49 l0_3 x5_2).f3)) ∧ w'.cell? ⟨(ad191.add ((x5_2).toNat * 9)).block, (ad191.add ((x5_2).toNat * 9)).off + 4, none⟩ = some (.int .i64 ((rd_T49 l0_3 x5_2).f4)) ∧ w'.cell? ⟨(ad191.add ((x5_2).toNat * 9)).block, (ad191.add ((x5_2).toNat * 9)).off + 5, none⟩ = some (.int .i64 ((rd_T49 l0_3 x5_2).f5)) ∧ w'.cell? ⟨(ad191.add ((x5_2).toNat * 9)).block, (ad191.add ((x5_2).toNat * 9)).off + 6, none⟩ = some (.int .i64 ((rd_T49 l0_3 x5_2).f6)) ∧ w'.cell? ⟨(ad191.add ((x5_2).toNat * 9)).block, (ad191.add ((x5_2).toNat * 9)).off + 7, none⟩ = some (.slice A191_7 ((rd_T49 l0_3 x5_2).f7).length c191_7) ∧ w'.cell? ⟨(ad191.add ((x5_2).toNat * 9)).block, (ad191.add ((x5_2).toNat * 9)).off + 8, none⟩ = some (.slice A191_8 ((rd_T49 l0_3 x5_2).f8).length c191_8)) ∧ (Kd.R k29 29 w' w.heap.size (fun k_ => k_ ≠ s_) (.slice (some ad190) x4_2.length co24) x4_2) ∧ (w'.heap[gb184]? = some (.cells #[.int .i64 a0_0, .int .i64 a0_1, .int .i64 a0_2, .slice (some ad191) l0_3.length c0_3] 32 (0, 0))) ∧ (w'.heap[s_]? = some (.cells #[.int .i64 0, .int .i64 0, .int .i64 0] 29 (0, 0))) ∧ (w.heap.size ≤ s_) ∧ (w.heap.size ≤ s_) ∧ (gb184 ≠ s_) ∧ (s_ ≠ gb184) ∧ (Below w.heap.size w w')) ?_ ?_
      rotate_left
      ·intro hCont
       refine two_ (i := 9) (j := 13) (Ni := some 39) (Nj := some 6) #[I, I, I, I, I, I, I, I, I, I, O, O, O, O, O, O] #[I, I, I, I, I, I, I, I, I, O, O, O, O, I, O, O] rfl rfl rfl rfl (two_of HT_.out (by kernel_rfl)) (by decide) (by decide) (fun K hK => ?_) (fun K hK => ?_)
       ·skip
        refine goes_ Tryd.func59 (by kernel_rfl) rfl #[.agg #[.int .i64 ((rd_T29 x4_2 x5_2).f0), .int .i64 ((rd_T29 x4_2 x5_2).f1), .int .i64 ((rd_T29 x4_2 x5_2).f2)], .agg #[.int .i64 ((rd_T49 l0_3 x5_2).f0), .int .i64 ((rd_T49 l0_3 x5_2).f1), .int .i64 ((rd_T49 l0_3 x5_2).f2), .int .i64 ((rd_T49 l0_3 x5_2).f3), .int .i64 ((rd_T49 l0_3 x5_2).f4), .int .i64 ((rd_T49 l0_3 x5_2).f5), .int .i64 ((rd_T49 l0_3 x5_2).f6), .slice A191_7 ((rd_T49 l0_3 x5_2).f7).length c191_7, .slice A191_8 ((rd_T49 l0_3 x5_2).f8).length c191_8]] (by rfl) rfl rfl (by (try simp only [List.map_toArray, List.map_cons, List.map_nil]); first | done | rfl | (simp only [List.length_drop, List.length_take]; rfl)) ?_
        with_reducible refine (spec_OutShape.calls k2 ((rd_T29 x4_2 x5_2).f0) ((rd_T29 x4_2 x5_2).f1) ((rd_T29 x4_2 x5_2).f2) ((rd_T49 l0_3 x5_2).f0) ((rd_T49 l0_3 x5_2).f1) ((rd_T49 l0_3 x5_2).f2) ((rd_T49 l0_3 x5_2).f3) ((rd_T49 l0_3 x5_2).f4) ((rd_T49 l0_3 x5_2).f5) ((rd_T49 l0_3 x5_2).f6) _ _ ((rd_T49 l0_3 x5_2).f7) _ _ ((rd_T49 l0_3 x5_2).f8) t192 t193 t194 true _ ?side1 ?side2 ?side3 ?side4 A19.out).mono ?_
        (case side1 => exact C_now HR191_7.out)
        (case side2 => exact HC191_7.out)
        (case side3 => exact C_now HR191_8.out)
        (case side4 => exact HC191_8.out)
        rintro e w25 ⟨rfl, hb⟩
        have HS4_ := (hb.cell (World.block_lt_of_cell? _ _ (hHeld.2.2.2.2.1))).trans (hHeld.2.2.2.2.1)
        have HS5_ := (hb.cell (World.block_lt_of_cell? _ _ (hHeld.2.2.2.2.2.1))).trans (hHeld.2.2.2.2.2.1)
        have HS6_ := (hb.cell (World.block_lt_of_cell? _ _ (hHeld.2.2.2.2.2.2.1))).trans (hHeld.2.2.2.2.2.2.1)
        refine ⟨_, rfl, ?_⟩
        replace HO_4 := Aside0.mk (Kd.R_below (R_at HO_4.out) hb)
        replace BK184 := blk_on gb184 hb
        replace HB := bel_on w hb
        (try clear hb)
        refine hK.out _ _ ⟨bc BK184 0, bc BK184 1, bc BK184 2, bc BK184 3, HS4_, HS5_, HS6_, ((HB.out.cell (World.block_lt_of_cell? w _ hw191_0)).trans hw191_0), ((HB.out.cell (World.block_lt_of_cell? w _ hw191_1)).trans hw191_1), ((HB.out.cell (World.block_lt_of_cell? w _ hw191_2)).trans hw191_2), ((HB.out.cell (World.block_lt_of_cell? w _ hw191_3)).trans hw191_3), ((HB.out.cell (World.block_lt_of_cell? w _ hw191_4)).trans hw191_4), ((HB.out.cell (World.block_lt_of_cell? w _ hw191_5)).trans hw191_5), ((HB.out.cell (World.block_lt_of_cell? w _ hw191_6)).trans hw191_6), ((HB.out.cell (World.block_lt_of_cell? w _ hw191_7)).trans hw191_7), ((HB.out.cell (World.block_lt_of_cell? w _ hw191_8)).trans hw191_8)⟩ (fun hHeld => ?_)
        clear hK K
        refine normP 39 ?_
        refine stepP 10 (some 29) (tk 16 2047) (any_of HT_.out (by kernel_rfl)) ?_
        refine stepP 11 (some 40) (tk 16 4095) (any_of HT_.out (by kernel_rfl)) ?_
        refine stepP 12 (some 41) (tk 16 8191) (any_of HT_.out (by kernel_rfl)) ?_
        refine one_ (i := 13) (N := some 6) #[I, I, I, I, I, I, I, I, I, I, I, I, I, I, O, O] rfl rfl (one_of HT_.out (by kernel_rfl)) (by decide) (fun K hK => ?_)
        refine box_step ?hg (N := 6) ?hd (cs := #[.int .i64 0, .int .i64 0, .int .i64 0]) (t := 29) ?hr ?_; (case hd => rfl); (case hg => rfl); (case hr => first | (go_simp; done) | (go_simp; rfl))
        intro gb196 hg w26 hbox hb
        have HS4_ := (hb.cell (World.block_lt_of_cell? _ _ (hHeld.2.2.2.2.1))).trans (hHeld.2.2.2.2.1)
        have HS5_ := (hb.cell (World.block_lt_of_cell? _ _ (hHeld.2.2.2.2.2.1))).trans (hHeld.2.2.2.2.2.1)
        have HS6_ := (hb.cell (World.block_lt_of_cell? _ _ (hHeld.2.2.2.2.2.2.1))).trans (hHeld.2.2.2.2.2.2.1)
        have n3_ := Aside0.mk (hbox)
        have n4_ := Aside0.mk ((by rw [hg]; exact (below_size bel_now) : w.heap.size ≤ gb196))
        have n5_ := Aside0.mk ((by rw [hg]; exact (below_size bel_now) : w.heap.size ≤ gb196))
        have n6_ := Aside0.mk ((by rw [hg]; exact Nat.ne_of_lt (blk_lt (g := gb184) blk_now) : gb184 ≠ gb196))
        have n7_ := Aside0.mk ((by rw [hg]; exact Nat.ne_of_gt (blk_lt (g := gb184) blk_now) : gb196 ≠ gb184))
        replace HO_4 := Aside0.mk (Kd.R_below (Kd.R_elderB (R_at HO_4.out) gb196 (Nat.le_of_eq hg.symm)) hb)
        replace BK184 := blk_on gb184 hb
        replace HB := bel_on w hb
        have BK196 := n3_
        have GW196 := n4_
        have GE196 := n5_
        have NB184_196 := n6_
        have NB196_184 := n7_
        clear n3_ n4_ n5_ n6_ n7_
        clear hb hbox hg
        refine hK.out _ _ ⟨bc BK184 0, bc BK184 1, bc BK184 2, bc BK184 3, HS4_, HS5_, HS6_, ((HB.out.cell (World.block_lt_of_cell? w _ hw191_0)).trans hw191_0), ((HB.out.cell (World.block_lt_of_cell? w _ hw191_1)).trans hw191_1), ((HB.out.cell (World.block_lt_of_cell? w _ hw191_2)).trans hw191_2), ((HB.out.cell (World.block_lt_of_cell? w _ hw191_3)).trans hw191_3), ((HB.out.cell (World.block_lt_of_cell? w _ hw191_4)).trans hw191_4), ((HB.out.cell (World.block_lt_of_cell? w _ hw191_5)).trans hw191_5), ((HB.out.cell (World.block_lt_of_cell? w _ hw191_6)).trans hw191_6), ((HB.out.cell (World.block_lt_of_cell? w _ hw191_7)).trans hw191_7), ((HB.out.cell (World.block_lt_of_cell? w _ hw191_8)).trans hw191_8)⟩ (fun hHeld => ?_)
        clear hK K
        refine normP 6 ?_
        exact norm_ (by simp only [putAll, Act.put, zA, zB, zC]) (hCont (gb196) _ ⟨hHeld, (R_at (Kd.R_mono HO_4.out (fun _ hk => by first | exact hk.2 | exact trivial))), blk_now, blk_now, GW196.out, GE196.out, NB184_196.out, NB196_184.out, bel_now⟩)
       skip
       refine box_step ?hg (N := 6) ?hd (cs := #[.int .i64 0, .int .i64 0, .int .i64 0]) (t := 29) ?hr ?_; (case hd => rfl); (case hg => rfl); (case hr => first | (go_simp; done) | (go_simp; rfl))
       intro gb196 hg w25 hbox hb
       have HS4_ := (hb.cell (World.block_lt_of_cell? _ _ (hHeld.2.2.2.2.1))).trans (hHeld.2.2.2.2.1)
       have HS5_ := (hb.cell (World.block_lt_of_cell? _ _ (hHeld.2.2.2.2.2.1))).trans (hHeld.2.2.2.2.2.1)
       have HS6_ := (hb.cell (World.block_lt_of_cell? _ _ (hHeld.2.2.2.2.2.2.1))).trans (hHeld.2.2.2.2.2.2.1)
       have n3_ := Aside0.mk (hbox)
       have n4_ := Aside0.mk ((by rw [hg]; exact (below_size bel_now) : w.heap.size ≤ gb196))
       have n5_ := Aside0.mk ((by rw [hg]; exact (below_size bel_now) : w.heap.size ≤ gb196))
       have n6_ := Aside0.mk ((by rw [hg]; exact Nat.ne_of_lt (blk_lt (g := gb184) blk_now) : gb184 ≠ gb196))
       have n7_ := Aside0.mk ((by rw [hg]; exact Nat.ne_of_gt (blk_lt (g := gb184) blk_now) : gb196 ≠ gb184))
       replace HO_4 := Aside0.mk (Kd.R_below (Kd.R_elderB (R_at HO_4.out) gb196 (Nat.le_of_eq hg.symm)) hb)
       replace BK184 := blk_on gb184 hb
       replace HB := bel_on w hb
       have BK196 := n3_
       have GW196 := n4_
       have GE196 := n5_
       have NB184_196 := n6_
       have NB196_184 := n7_
       clear n3_ n4_ n5_ n6_ n7_
       clear hb hbox hg
       refine hK.out _ _ ⟨bc BK184 0, bc BK184 1, bc BK184 2, bc BK184 3, HS4_, HS5_, HS6_, ((HB.out.cell (World.block_lt_of_cell? w _ hw191_0)).trans hw191_0), ((HB.out.cell (World.block_lt_of_cell? w _ hw191_1)).trans hw191_1), ((HB.out.cell (World.block_lt_of_cell? w _ hw191_2)).trans hw191_2), ((HB.out.cell (World.block_lt_of_cell? w _ hw191_3)).trans hw191_3), ((HB.out.cell (World.block_lt_of_cell? w _ hw191_4)).trans hw191_4), ((HB.out.cell (World.block_lt_of_cell? w _ hw191_5)).trans hw191_5), ((HB.out.cell (World.block_lt_of_cell? w _ hw191_6)).trans hw191_6), ((HB.out.cell (World.block_lt_of_cell? w _ hw191_7)).trans hw191_7), ((HB.out.cell (World.block_lt_of_cell? w _ hw191_8)).trans hw191_8)⟩ (fun hHeld => ?_)
       clear hK K
       refine normP 6 ?_
       refine one_ (i := 9) (N := some 39) #[I, I, I, I, I, I, I, I, I, I, O, O, O, I, O, O] rfl rfl (one_of HT_.out (by kernel_rfl)) (by decide) (fun K hK => ?_)
       refine goes_ Tryd.func59 (by kernel_rfl) rfl #[.agg #[.int .i64 ((rd_T29 x4_2 x5_2).f0), .int .i64 ((rd_T29 x4_2 x5_2).f1), .int .i64 ((rd_T29 x4_2 x5_2).f2)], .agg #[.int .i64 ((rd_T49 l0_3 x5_2).f0), .int .i64 ((rd_T49 l0_3 x5_2).f1), .int .i64 ((rd_T49 l0_3 x5_2).f2), .int .i64 ((rd_T49 l0_3 x5_2).f3), .int .i64 ((rd_T49 l0_3 x5_2).f4), .int .i64 ((rd_T49 l0_3 x5_2).f5), .int .i64 ((rd_T49 l0_3 x5_2).f6), .slice A191_7 ((rd_T49 l0_3 x5_2).f7).length c191_7, .slice A191_8 ((rd_T49 l0_3 x5_2).f8).length c191_8]] (by rfl) rfl rfl (by (try simp only [List.map_toArray, List.map_cons, List.map_nil]); first | done | rfl | (simp only [List.length_drop, List.length_take]; rfl)) ?_
       with_reducible refine (spec_OutShape.calls k2 ((rd_T29 x4_2 x5_2).f0) ((rd_T29 x4_2 x5_2).f1) ((rd_T29 x4_2 x5_2).f2) ((rd_T49 l0_3 x5_2).f0) ((rd_T49 l0_3 x5_2).f1) ((rd_T49 l0_3 x5_2).f2) ((rd_T49 l0_3 x5_2).f3) ((rd_T49 l0_3 x5_2).f4) ((rd_T49 l0_3 x5_2).f5) ((rd_T49 l0_3 x5_2).f6) _ _ ((rd_T49 l0_3 x5_2).f7) _ _ ((rd_T49 l0_3 x5_2).f8) t192 t193 t194 true _ ?side1 ?side2 ?side3 ?side4 A19.out).mono ?_
       (case side1 => exact C_now HR191_7.out)
       (case side2 => exact HC191_7.out)
       (case side3 => exact C_now HR191_8.out)
       (case side4 => exact HC191_8.out)
       rintro e w26 ⟨rfl, hb⟩
       have HS4_ := (hb.cell (World.block_lt_of_cell? _ _ (hHeld.2.2.2.2.1))).trans (hHeld.2.2.2.2.1)
       have HS5_ := (hb.cell (World.block_lt_of_cell? _ _ (hHeld.2.2.2.2.2.1))).trans (hHeld.2.2.2.2.2.1)
       have HS6_ := (hb.cell (World.block_lt_of_cell? _ _ (hHeld.2.2.2.2.2.2.1))).trans (hHeld.2.2.2.2.2.2.1)
       refine ⟨_, rfl, ?_⟩
       replace HO_4 := Aside0.mk (Kd.R_below (R_at HO_4.out) hb)
       replace BK184 := blk_on gb184 hb
       replace BK196 := blk_on gb196 hb
       replace HB := bel_on w hb
       (try clear hb)
       refine hK.out _ _ ⟨bc BK184 0, bc BK184 1, bc BK184 2, bc BK184 3, HS4_, HS5_, HS6_, ((HB.out.cell (World.block_lt_of_cell? w _ hw191_0)).trans hw191_0), ((HB.out.cell (World.block_lt_of_cell? w _ hw191_1)).trans hw191_1), ((HB.out.cell (World.block_lt_of_cell? w _ hw191_2)).trans hw191_2), ((HB.out.cell (World.block_lt_of_cell? w _ hw191_3)).trans hw191_3), ((HB.out.cell (World.block_lt_of_cell? w _ hw191_4)).trans hw191_4), ((HB.out.cell (World.block_lt_of_cell? w _ hw191_5)).trans hw191_5), ((HB.out.cell (World.block_lt_of_cell? w _ hw191_6)).trans hw191_6), ((HB.out.cell (World.block_lt_of_cell? w _ hw191_7)).trans hw191_7), ((HB.out.cell (World.block_lt_of_cell? w _ hw191_8)).trans hw191_8)⟩ (fun hHeld => ?_)
       clear hK K
       refine normP 39 ?_
       refine stepP 10 (some 29) (tk 16 10239) (any_of HT_.out (by kernel_rfl)) ?_
       refine stepP 11 (some 40) (tk 16 12287) (any_of HT_.out (by kernel_rfl)) ?_
       refine stepP 12 (some 41) (tk 16 16383) (any_of HT_.out (by kernel_rfl)) ?_
       exact norm_ (by simp only [putAll, Act.put, zA, zB, zC]) (hCont (gb196) _ ⟨hHeld, (R_at (Kd.R_mono HO_4.out (fun _ hk => by first | exact hk.2 | exact trivial))), blk_now, blk_now, GW196.out, GE196.out, NB184_196.out, NB196_184.out, bel_now⟩)
      rintro gb196 w27 ⟨hS_, h0_, h1_, h2_, h3_, h4_, h5_, h6_, h7_⟩
      have n0_ : Aside0 (Kd.R k29 29 w27 w.heap.size (fun k_ => k_ ≠ gb196) (.slice (some ad190) x4_2.length co24) x4_2) := ⟨h0_⟩
      have n1_ : Aside0 (w27.heap[gb184]? = some (.cells #[.int .i64 a0_0, .int .i64 a0_1, .int .i64 a0_2, .slice (some ad191) l0_3.length c0_3] 32 (0, 0))) := ⟨h1_⟩
      have n2_ : Aside0 (w27.heap[gb196]? = some (.cells #[.int .i64 0, .int .i64 0, .int .i64 0] 29 (0, 0))) := ⟨h2_⟩
      have n3_ : Aside0 (w.heap.size ≤ gb196) := ⟨h3_⟩
      have n4_ : Aside0 (w.heap.size ≤ gb196) := ⟨h4_⟩
      have n5_ : Aside0 (gb184 ≠ gb196) := ⟨h5_⟩
      have n6_ : Aside0 (gb196 ≠ gb184) := ⟨h6_⟩
      have n7_ : Aside0 (Below w.heap.size w w27) := ⟨h7_⟩
      clear HO_4
      clear BK184
      clear HB
      clear h0_ h1_ h2_ h3_ h4_ h5_ h6_ h7_
      have HO_4 := n0_
      have BK184 := n1_
      have BK196 := n2_
      have GW196 := n3_
      have GE196 := n4_
      have NB184_196 := n5_
      have NB196_184 := n6_
      have HB := n7_
      clear n0_ n1_ n2_ n3_ n4_ n5_ n6_ n7_
      have hHeld : w27.cell? ⟨gb184, 0, none⟩ = some (.int .i64 a0_0) ∧ w27.cell? ⟨gb184, 1, none⟩ = some (.int .i64 a0_1) ∧ w27.cell? ⟨gb184, 2, none⟩ = some (.int .i64 a0_2) ∧ w27.cell? ⟨gb184, 3, none⟩ = some (.slice (some ad191) l0_3.length c0_3) ∧ w27.cell? (ad190.add ((x5_2).toNat * 3)) = some (.int .i64 ((rd_T29 x4_2 x5_2).f0)) ∧ w27.cell? ⟨(ad190.add ((x5_2).toNat * 3)).block, (ad190.add ((x5_2).toNat * 3)).off + 1, none⟩ = some (.int .i64 ((rd_T29 x4_2 x5_2).f1)) ∧ w27.cell? ⟨(ad190.add ((x5_2).toNat * 3)).block, (ad190.add ((x5_2).toNat * 3)).off + 2, none⟩ = some (.int .i64 ((rd_T29 x4_2 x5_2).f2)) ∧ w27.cell? (ad191.add ((x5_2).toNat * 9)) = some (.int .i64 ((rd_T49 l0_3 x5_2).f0)) ∧ w27.cell? ⟨(ad191.add ((x5_2).toNat * 9)).block, (ad191.add ((x5_2).toNat * 9)).off + 1, none⟩ = some (.int .i64 ((rd_T49 l0_3 x5_2).f1)) ∧ w27.cell? ⟨(ad191.add ((x5_2).toNat * 9)).block, (ad191.add ((x5_2).toNat * 9)).off + 2, none⟩ = some (.int .i64 ((rd_T49 l0_3 x5_2).f2)) ∧ w27.cell? ⟨(ad191.add ((x5_2).toNat * 9)).block, (ad191.add ((x5_2).toNat * 9)).off + 3, none⟩ = some (.int .i64 ((rd_T49 l0_3 x5_2).f3)) ∧ w27.cell? ⟨(ad191.add ((x5_2).toNat * 9)).block, (ad191.add ((x5_2).toNat * 9)).off + 4, none⟩ = some (.int .i64 ((rd_T49 l0_3 x5_2).f4)) ∧ w27.cell? ⟨(ad191.add ((x5_2).toNat * 9)).block, (ad191.add ((x5_2).toNat * 9)).off + 5, none⟩ = some (.int .i64 ((rd_T49 l0_3 x5_2).f5)) ∧ w27.cell? ⟨(ad191.add ((x5_2).toNat * 9)).block, (ad191.add ((x5_2).toNat * 9)).off + 6, none⟩ = some (.int .i64 ((rd_T49 l0_3 x5_2).f6)) ∧ w27.cell? ⟨(ad191.add ((x5_2).toNat * 9)).block, (ad191.add ((x5_2).toNat * 9)).off + 7, none⟩ = some (.slice A191_7 ((rd_T49 l0_3 x5_2).f7).length c191_7) ∧ w27.cell? ⟨(ad191.add ((x5_2).toNat * 9)).block, (ad191.add ((x5_2).toNat * 9)).off + 8, none⟩ = some (.slice A191_8 ((rd_T49 l0_3 x5_2).f8).length c191_8) := hS_
      refine norm_ (a' := ?_) ?_ ?_
      rotate_left
      ·simp only [putAll, Act.put, zA, zB, zC]
       rfl
      refine one_ (i := 14) (N := none) #[I, I, I, I, I, I, I, I, I, I, I, I, I, I, I, O] rfl rfl (one_of HT_.out (by kernel_rfl)) (by decide) (fun K hK => ?_)
      have hs28 : w27.cell? ⟨gb196, 0, none⟩ = some (.int .i64 0) := (blk_cell BK196.out 0).trans rfl
      have hfs28 := blk_frozen BK196.out 0
      have hns28_0 := NB184_196.out
      have hms28_0 := NB196_184.out
      have hs29 : w27.cell? ⟨gb196, 1, none⟩ = some (.int .i64 0) := (blk_cell BK196.out 1).trans rfl
      have hfs29 := blk_frozen BK196.out 1
      have hns29_0 := NB184_196.out
      have hms29_0 := NB196_184.out
      have hs30 : w27.cell? ⟨gb196, 2, none⟩ = some (.int .i64 0) := (blk_cell BK196.out 2).trans rfl
      have hfs30 := blk_frozen BK196.out 2
      have hns30_0 := NB184_196.out
      have hms30_0 := NB196_184.out
      refine skip_ (w1 := ?_) (by rfl) rfl ?_ ?_
      rotate_left
      ·go_simp
       rfl
      refine hK.out _ _ ⟨((cell_far (p := ⟨gb196, _, none⟩) NB184_196.out _).trans (((cell_far (p := ⟨gb196, _, none⟩) NB184_196.out _).trans (((cell_far (p := ⟨gb196, _, none⟩) NB184_196.out _).trans (hHeld.1)))))), ((cell_far (p := ⟨gb196, _, none⟩) NB184_196.out _).trans (((cell_far (p := ⟨gb196, _, none⟩) NB184_196.out _).trans (((cell_far (p := ⟨gb196, _, none⟩) NB184_196.out _).trans (hHeld.2.1)))))), ((cell_far (p := ⟨gb196, _, none⟩) NB184_196.out _).trans (((cell_far (p := ⟨gb196, _, none⟩) NB184_196.out _).trans (((cell_far (p := ⟨gb196, _, none⟩) NB184_196.out _).trans (hHeld.2.2.1)))))), ((cell_far (p := ⟨gb196, _, none⟩) NB184_196.out _).trans (((cell_far (p := ⟨gb196, _, none⟩) NB184_196.out _).trans (((cell_far (p := ⟨gb196, _, none⟩) NB184_196.out _).trans (hHeld.2.2.2.1)))))), ((cell_far (p := ⟨gb196, _, none⟩) (by first | exact Kd.own_blk (Kd.R_away HO_4.out (fun _ hk => hk)) | (rw [add_block]; exact Kd.own_blk (Kd.R_away HO_4.out (fun _ hk => hk))) | (show (Addr.add _ _).block ≠ _; rw [add_block]; exact Kd.own_blk (Kd.R_away HO_4.out (fun _ hk => hk))) | (dsimp only; exact Kd.own_blk (Kd.R_away HO_4.out (fun _ hk => hk)))) _).trans (((cell_far (p := ⟨gb196, _, none⟩) (by first | exact Kd.own_blk (Kd.R_away HO_4.out (fun _ hk => hk)) | (rw [add_block]; exact Kd.own_blk (Kd.R_away HO_4.out (fun _ hk => hk))) | (show (Addr.add _ _).block ≠ _; rw [add_block]; exact Kd.own_blk (Kd.R_away HO_4.out (fun _ hk => hk))) | (dsimp only; exact Kd.own_blk (Kd.R_away HO_4.out (fun _ hk => hk)))) _).trans (((cell_far (p := ⟨gb196, _, none⟩) (by first | exact Kd.own_blk (Kd.R_away HO_4.out (fun _ hk => hk)) | (rw [add_block]; exact Kd.own_blk (Kd.R_away HO_4.out (fun _ hk => hk))) | (show (Addr.add _ _).block ≠ _; rw [add_block]; exact Kd.own_blk (Kd.R_away HO_4.out (fun _ hk => hk))) | (dsimp only; exact Kd.own_blk (Kd.R_away HO_4.out (fun _ hk => hk)))) _).trans (hHeld.2.2.2.2.1)))))), ((cell_far (p := ⟨gb196, _, none⟩) (by first | exact Kd.own_blk (Kd.R_away HO_4.out (fun _ hk => hk)) | (rw [add_block]; exact Kd.own_blk (Kd.R_away HO_4.out (fun _ hk => hk))) | (show (Addr.add _ _).block ≠ _; rw [add_block]; exact Kd.own_blk (Kd.R_away HO_4.out (fun _ hk => hk))) | (dsimp only; exact Kd.own_blk (Kd.R_away HO_4.out (fun _ hk => hk)))) _).trans (((cell_far (p := ⟨gb196, _, none⟩) (by first | exact Kd.own_blk (Kd.R_away HO_4.out (fun _ hk => hk)) | (rw [add_block]; exact Kd.own_blk (Kd.R_away HO_4.out (fun _ hk => hk))) | (show (Addr.add _ _).block ≠ _; rw [add_block]; exact Kd.own_blk (Kd.R_away HO_4.out (fun _ hk => hk))) | (dsimp only; exact Kd.own_blk (Kd.R_away HO_4.out (fun _ hk => hk)))) _).trans (((cell_far (p := ⟨gb196, _, none⟩) (by first | exact Kd.own_blk (Kd.R_away HO_4.out (fun _ hk => hk)) | (rw [add_block]; exact Kd.own_blk (Kd.R_away HO_4.out (fun _ hk => hk))) | (show (Addr.add _ _).block ≠ _; rw [add_block]; exact Kd.own_blk (Kd.R_away HO_4.out (fun _ hk => hk))) | (dsimp only; exact Kd.own_blk (Kd.R_away HO_4.out (fun _ hk => hk)))) _).trans (hHeld.2.2.2.2.2.1)))))), ((cell_far (p := ⟨gb196, _, none⟩) (by first | exact Kd.own_blk (Kd.R_away HO_4.out (fun _ hk => hk)) | (rw [add_block]; exact Kd.own_blk (Kd.R_away HO_4.out (fun _ hk => hk))) | (show (Addr.add _ _).block ≠ _; rw [add_block]; exact Kd.own_blk (Kd.R_away HO_4.out (fun _ hk => hk))) | (dsimp only; exact Kd.own_blk (Kd.R_away HO_4.out (fun _ hk => hk)))) _).trans (((cell_far (p := ⟨gb196, _, none⟩) (by first | exact Kd.own_blk (Kd.R_away HO_4.out (fun _ hk => hk)) | (rw [add_block]; exact Kd.own_blk (Kd.R_away HO_4.out (fun _ hk => hk))) | (show (Addr.add _ _).block ≠ _; rw [add_block]; exact Kd.own_blk (Kd.R_away HO_4.out (fun _ hk => hk))) | (dsimp only; exact Kd.own_blk (Kd.R_away HO_4.out (fun _ hk => hk)))) _).trans (((cell_far (p := ⟨gb196, _, none⟩) (by first | exact Kd.own_blk (Kd.R_away HO_4.out (fun _ hk => hk)) | (rw [add_block]; exact Kd.own_blk (Kd.R_away HO_4.out (fun _ hk => hk))) | (show (Addr.add _ _).block ≠ _; rw [add_block]; exact Kd.own_blk (Kd.R_away HO_4.out (fun _ hk => hk))) | (dsimp only; exact Kd.own_blk (Kd.R_away HO_4.out (fun _ hk => hk)))) _).trans (hHeld.2.2.2.2.2.2.1)))))), ((cell_far (p := ⟨gb196, _, none⟩) (by first | exact Nat.ne_of_lt (Nat.lt_of_lt_of_le (by have := World.block_lt_of_cell? _ _ hw191_0; first | rwa [add_block] at this | exact this) GW196.out) | (rw [add_block]; exact Nat.ne_of_lt (Nat.lt_of_lt_of_le (by have := World.block_lt_of_cell? _ _ hw191_0; first | rwa [add_block] at this | exact this) GW196.out)) | (show (Addr.add _ _).block ≠ _; rw [add_block]; exact Nat.ne_of_lt (Nat.lt_of_lt_of_le (by have := World.block_lt_of_cell? _ _ hw191_0; first | rwa [add_block] at this | exact this) GW196.out)) | (dsimp only; exact Nat.ne_of_lt (Nat.lt_of_lt_of_le (by have := World.block_lt_of_cell? _ _ hw191_0; first | rwa [add_block] at this | exact this) GW196.out))) _).trans (((cell_far (p := ⟨gb196, _, none⟩) (by first | exact Nat.ne_of_lt (Nat.lt_of_lt_of_le (by have := World.block_lt_of_cell? _ _ hw191_0; first | rwa [add_block] at this | exact this) GW196.out) | (rw [add_block]; exact Nat.ne_of_lt (Nat.lt_of_lt_of_le (by have := World.block_lt_of_cell? _ _ hw191_0; first | rwa [add_block] at this | exact this) GW196.out)) | (show (Addr.add _ _).block ≠ _; rw [add_block]; exact Nat.ne_of_lt (Nat.lt_of_lt_of_le (by have := World.block_lt_of_cell? _ _ hw191_0; first | rwa [add_block] at this | exact this) GW196.out)) | (dsimp only; exact Nat.ne_of_lt (Nat.lt_of_lt_of_le (by have := World.block_lt_of_cell? _ _ hw191_0; first | rwa [add_block] at this | exact this) GW196.out))) _).trans (((cell_far (p := ⟨gb196, _, none⟩) (by first | exact Nat.ne_of_lt (Nat.lt_of_lt_of_le (by have := World.block_lt_of_cell? _ _ hw191_0; first | rwa [add_block] at this | exact this) GW196.out) | (rw [add_block]; exact Nat.ne_of_lt (Nat.lt_of_lt_of_le (by have := World.block_lt_of_cell? _ _ hw191_0; first | rwa [add_block] at this | exact this) GW196.out)) | (show (Addr.add _ _).block ≠ _; rw [add_block]; exact Nat.ne_of_lt (Nat.lt_of_lt_of_le (by have := World.block_lt_of_cell? _ _ hw191_0; first | rwa [add_block] at this | exact this) GW196.out)) | (dsimp only; exact Nat.ne_of_lt (Nat.lt_of_lt_of_le (by have := World.block_lt_of_cell? _ _ hw191_0; first | rwa [add_block] at this | exact this) GW196.out))) _).trans (hHeld.2.2.2.2.2.2.2.1)))))), ((cell_far (p := ⟨gb196, _, none⟩) (by first | exact Nat.ne_of_lt (Nat.lt_of_lt_of_le (by have := World.block_lt_of_cell? _ _ hw191_1; first | rwa [add_block] at this | exact this) GW196.out) | (rw [add_block]; exact Nat.ne_of_lt (Nat.lt_of_lt_of_le (by have := World.block_lt_of_cell? _ _ hw191_1; first | rwa [add_block] at this | exact this) GW196.out)) | (show (Addr.add _ _).block ≠ _; rw [add_block]; exact Nat.ne_of_lt (Nat.lt_of_lt_of_le (by have := World.block_lt_of_cell? _ _ hw191_1; first | rwa [add_block] at this | exact this) GW196.out)) | (dsimp only; exact Nat.ne_of_lt (Nat.lt_of_lt_of_le (by have := World.block_lt_of_cell? _ _ hw191_1; first | rwa [add_block] at this | exact this) GW196.out))) _).trans (((cell_far (p := ⟨gb196, _, none⟩) (by first | exact Nat.ne_of_lt (Nat.lt_of_lt_of_le (by have := World.block_lt_of_cell? _ _ hw191_1; first | rwa [add_block] at this | exact this) GW196.out) | (rw [add_block]; exact Nat.ne_of_lt (Nat.lt_of_lt_of_le (by have := World.block_lt_of_cell? _ _ hw191_1; first | rwa [add_block] at this | exact this) GW196.out)) | (show (Addr.add _ _).block ≠ _; rw [add_block]; exact Nat.ne_of_lt (Nat.lt_of_lt_of_le (by have := World.block_lt_of_cell? _ _ hw191_1; first | rwa [add_block] at this | exact this) GW196.out)) | (dsimp only; exact Nat.ne_of_lt (Nat.lt_of_lt_of_le (by have := World.block_lt_of_cell? _ _ hw191_1; first | rwa [add_block] at this | exact this) GW196.out))) _).trans (((cell_far (p := ⟨gb196, _, none⟩) (by first | exact Nat.ne_of_lt (Nat.lt_of_lt_of_le (by have := World.block_lt_of_cell? _ _ hw191_1; first | rwa [add_block] at this | exact this) GW196.out) | (rw [add_block]; exact Nat.ne_of_lt (Nat.lt_of_lt_of_le (by have := World.block_lt_of_cell? _ _ hw191_1; first | rwa [add_block] at this | exact this) GW196.out)) | (show (Addr.add _ _).block ≠ _; rw [add_block]; exact Nat.ne_of_lt (Nat.lt_of_lt_of_le (by have := World.block_lt_of_cell? _ _ hw191_1; first | rwa [add_block] at this | exact this) GW196.out)) | (dsimp only; exact Nat.ne_of_lt (Nat.lt_of_lt_of_le (by have := World.block_lt_of_cell? _ _ hw191_1; first | rwa [add_block] at this | exact this) GW196.out))) _).trans (hHeld.2.2.2.2.2.2.2.2.1)))))), ((cell_far (p := ⟨gb196, _, none⟩) (by first | exact Nat.ne_of_lt (Nat.lt_of_lt_of_le (by have := World.block_lt_of_cell? _ _ hw191_2; first | rwa [add_block] at this | exact this) GW196.out) | (rw [add_block]; exact Nat.ne_of_lt (Nat.lt_of_lt_of_le (by have := World.block_lt_of_cell? _ _ hw191_2; first | rwa [add_block] at this | exact this) GW196.out)) | (show (Addr.add _ _).block ≠ _; rw [add_block]; exact Nat.ne_of_lt (Nat.lt_of_lt_of_le (by have := World.block_lt_of_cell? _ _ hw191_2; first | rwa [add_block] at this | exact this) GW196.out)) | (dsimp only; exact Nat.ne_of_lt (Nat.lt_of_lt_of_le (by have := World.block_lt_of_cell? _ _ hw191_2; first | rwa [add_block] at this | exact this) GW196.out))) _).trans (((cell_far (p := ⟨gb196, _, none⟩) (by first | exact Nat.ne_of_lt (Nat.lt_of_lt_of_le (by have := World.block_lt_of_cell? _ _ hw191_2; first | rwa [add_block] at this | exact this) GW196.out) | (rw [add_block]; exact Nat.ne_of_lt (Nat.lt_of_lt_of_le (by have := World.block_lt_of_cell? _ _ hw191_2; first | rwa [add_block] at this | exact this) GW196.out)) | (show (Addr.add _ _).block ≠ _; rw [add_block]; exact Nat.ne_of_lt (Nat.lt_of_lt_of_le (by have := World.block_lt_of_cell? _ _ hw191_2; first | rwa [add_block] at this | exact this) GW196.out)) | (dsimp only; exact Nat.ne_of_lt (Nat.lt_of_lt_of_le (by have := World.block_lt_of_cell? _ _ hw191_2; first | rwa [add_block] at this | exact this) GW196.out))) _).trans (((cell_far (p := ⟨gb196, _, none⟩) (by first | exact Nat.ne_of_lt (Nat.lt_of_lt_of_le (by have := World.block_lt_of_cell? _ _ hw191_2; first | rwa [add_block] at this | exact this) GW196.out) | (rw [add_block]; exact Nat.ne_of_lt (Nat.lt_of_lt_of_le (by have := World.block_lt_of_cell? _ _ hw191_2; first | rwa [add_block] at this | exact this) GW196.out)) | (show (Addr.add _ _).block ≠ _; rw [add_block]; exact Nat.ne_of_lt (Nat.lt_of_lt_of_le (by have := World.block_lt_of_cell? _ _ hw191_2; first | rwa [add_block] at this | exact this) GW196.out)) | (dsimp only; exact Nat.ne_of_lt (Nat.lt_of_lt_of_le (by have := World.block_lt_of_cell? _ _ hw191_2; first | rwa [add_block] at this | exact this) GW196.out))) _).trans (hHeld.2.2.2.2.2.2.2.2.2.1)))))), ((cell_far (p := ⟨gb196, _, none⟩) (by first | exact Nat.ne_of_lt (Nat.lt_of_lt_of_le (by have := World.block_lt_of_cell? _ _ hw191_3; first | rwa [add_block] at this | exact this) GW196.out) | (rw [add_block]; exact Nat.ne_of_lt (Nat.lt_of_lt_of_le (by have := World.block_lt_of_cell? _ _ hw191_3; first | rwa [add_block] at this | exact this) GW196.out)) | (show (Addr.add _ _).block ≠ _; rw [add_block]; exact Nat.ne_of_lt (Nat.lt_of_lt_of_le (by have := World.block_lt_of_cell? _ _ hw191_3; first | rwa [add_block] at this | exact this) GW196.out)) | (dsimp only; exact Nat.ne_of_lt (Nat.lt_of_lt_of_le (by have := World.block_lt_of_cell? _ _ hw191_3; first | rwa [add_block] at this | exact this) GW196.out))) _).trans (((cell_far (p := ⟨gb196, _, none⟩) (by first | exact Nat.ne_of_lt (Nat.lt_of_lt_of_le (by have := World.block_lt_of_cell? _ _ hw191_3; first | rwa [add_block] at this | exact this) GW196.out) | (rw [add_block]; exact Nat.ne_of_lt (Nat.lt_of_lt_of_le (by have := World.block_lt_of_cell? _ _ hw191_3; first | rwa [add_block] at this | exact this) GW196.out)) | (show (Addr.add _ _).block ≠ _; rw [add_block]; exact Nat.ne_of_lt (Nat.lt_of_lt_of_le (by have := World.block_lt_of_cell? _ _ hw191_3; first | rwa [add_block] at this | exact this) GW196.out)) | (dsimp only; exact Nat.ne_of_lt (Nat.lt_of_lt_of_le (by have := World.block_lt_of_cell? _ _ hw191_3; first | rwa [add_block] at this | exact this) GW196.out))) _).trans (((cell_far (p := ⟨gb196, _, none⟩) (by first | exact Nat.ne_of_lt (Nat.lt_of_lt_of_le (by have := World.block_lt_of_cell? _ _ hw191_3; first | rwa [add_block] at this | exact this) GW196.out) | (rw [add_block]; exact Nat.ne_of_lt (Nat.lt_of_lt_of_le (by have := World.block_lt_of_cell? _ _ hw191_3; first | rwa [add_block] at this | exact this) GW196.out)) | (show (Addr.add _ _).block ≠ _; rw [add_block]; exact Nat.ne_of_lt (Nat.lt_of_lt_of_le (by have := World.block_lt_of_cell? _ _ hw191_3; first | rwa [add_block] at this | exact this) GW196.out)) | (dsimp only; exact Nat.ne_of_lt (Nat.lt_of_lt_of_le (by have := World.block_lt_of_cell? _ _ hw191_3; first | rwa [add_block] at this | exact this) GW196.out))) _).trans (hHeld.2.2.2.2.2.2.2.2.2.2.1)))))), ((cell_far (p := ⟨gb196, _, none⟩) (by first | exact Nat.ne_of_lt (Nat.lt_of_lt_of_le (by have := World.block_lt_of_cell? _ _ hw191_4; first | rwa [add_block] at this | exact this) GW196.out) | (rw [add_block]; exact Nat.ne_of_lt (Nat.lt_of_lt_of_le (by have := World.block_lt_of_cell? _ _ hw191_4; first | rwa [add_block] at this | exact this) GW196.out)) | (show (Addr.add _ _).block ≠ _; rw [add_block]; exact Nat.ne_of_lt (Nat.lt_of_lt_of_le (by have := World.block_lt_of_cell? _ _ hw191_4; first | rwa [add_block] at this | exact this) GW196.out)) | (dsimp only; exact Nat.ne_of_lt (Nat.lt_of_lt_of_le (by have := World.block_lt_of_cell? _ _ hw191_4; first | rwa [add_block] at this | exact this) GW196.out))) _).trans (((cell_far (p := ⟨gb196, _, none⟩) (by first | exact Nat.ne_of_lt (Nat.lt_of_lt_of_le (by have := World.block_lt_of_cell? _ _ hw191_4; first | rwa [add_block] at this | exact this) GW196.out) | (rw [add_block]; exact Nat.ne_of_lt (Nat.lt_of_lt_of_le (by have := World.block_lt_of_cell? _ _ hw191_4; first | rwa [add_block] at this | exact this) GW196.out)) | (show (Addr.add _ _).block ≠ _; rw [add_block]; exact Nat.ne_of_lt (Nat.lt_of_lt_of_le (by have := World.block_lt_of_cell? _ _ hw191_4; first | rwa [add_block] at this | exact this) GW196.out)) | (dsimp only; exact Nat.ne_of_lt (Nat.lt_of_lt_of_le (by have := World.block_lt_of_cell? _ _ hw191_4; first | rwa [add_block] at this | exact this) GW196.out))) _).trans (((cell_far (p := ⟨gb196, _, none⟩) (by first | exact Nat.ne_of_lt (Nat.lt_of_lt_of_le (by have := World.block_lt_of_cell? _ _ hw191_4; first | rwa [add_block] at this | exact this) GW196.out) | (rw [add_block]; exact Nat.ne_of_lt (Nat.lt_of_lt_of_le (by have := World.block_lt_of_cell? _ _ hw191_4; first | rwa [add_block] at this | exact this) GW196.out)) | (show (Addr.add _ _).block ≠ _; rw [add_block]; exact Nat.ne_of_lt (Nat.lt_of_lt_of_le (by have := World.block_lt_of_cell? _ _ hw191_4; first | rwa [add_block] at this | exact this) GW196.out)) | (dsimp only; exact Nat.ne_of_lt (Nat.lt_of_lt_of_le (by have := World.block_lt_of_cell? _ _ hw191_4; first | rwa [add_block] at this | exact this) GW196.out))) _).trans (hHeld.2.2.2.2.2.2.2.2.2.2.2.1)))))), ((cell_far (p := ⟨gb196, _, none⟩) (by first | exact Nat.ne_of_lt (Nat.lt_of_lt_of_le (by have := World.block_lt_of_cell? _ _ hw191_5; first | rwa [add_block] at this | exact this) GW196.out) | (rw [add_block]; exact Nat.ne_of_lt (Nat.lt_of_lt_of_le (by have := World.block_lt_of_cell? _ _ hw191_5; first | rwa [add_block] at this | exact this) GW196.out)) | (show (Addr.add _ _).block ≠ _; rw [add_block]; exact Nat.ne_of_lt (Nat.lt_of_lt_of_le (by have := World.block_lt_of_cell? _ _ hw191_5; first | rwa [add_block] at this | exact this) GW196.out)) | (dsimp only; exact Nat.ne_of_lt (Nat.lt_of_lt_of_le (by have := World.block_lt_of_cell? _ _ hw191_5; first | rwa [add_block] at this | exact this) GW196.out))) _).trans (((cell_far (p := ⟨gb196, _, none⟩) (by first | exact Nat.ne_of_lt (Nat.lt_of_lt_of_le (by have := World.block_lt_of_cell? _ _ hw191_5; first | rwa [add_block] at this | exact this) GW196.out) | (rw [add_block]; exact Nat.ne_of_lt (Nat.lt_of_lt_of_le (by have := World.block_lt_of_cell? _ _ hw191_5; first | rwa [add_block] at this | exact this) GW196.out)) | (show (Addr.add _ _).block ≠ _; rw [add_block]; exact Nat.ne_of_lt (Nat.lt_of_lt_of_le (by have := World.block_lt_of_cell? _ _ hw191_5; first | rwa [add_block] at this | exact this) GW196.out)) | (dsimp only; exact Nat.ne_of_lt (Nat.lt_of_lt_of_le (by have := World.block_lt_of_cell? _ _ hw191_5; first | rwa [add_block] at this | exact this) GW196.out))) _).trans (((cell_far (p := ⟨gb196, _, none⟩) (by first | exact Nat.ne_of_lt (Nat.lt_of_lt_of_le (by have := World.block_lt_of_cell? _ _ hw191_5; first | rwa [add_block] at this | exact this) GW196.out) | (rw [add_block]; exact Nat.ne_of_lt (Nat.lt_of_lt_of_le (by have := World.block_lt_of_cell? _ _ hw191_5; first | rwa [add_block] at this | exact this) GW196.out)) | (show (Addr.add _ _).block ≠ _; rw [add_block]; exact Nat.ne_of_lt (Nat.lt_of_lt_of_le (by have := World.block_lt_of_cell? _ _ hw191_5; first | rwa [add_block] at this | exact this) GW196.out)) | (dsimp only; exact Nat.ne_of_lt (Nat.lt_of_lt_of_le (by have := World.block_lt_of_cell? _ _ hw191_5; first | rwa [add_block] at this | exact this) GW196.out))) _).trans (hHeld.2.2.2.2.2.2.2.2.2.2.2.2.1)))))), ((cell_far (p := ⟨gb196, _, none⟩) (by first | exact Nat.ne_of_lt (Nat.lt_of_lt_of_le (by have := World.block_lt_of_cell? _ _ hw191_6; first | rwa [add_block] at this | exact this) GW196.out) | (rw [add_block]; exact Nat.ne_of_lt (Nat.lt_of_lt_of_le (by have := World.block_lt_of_cell? _ _ hw191_6; first | rwa [add_block] at this | exact this) GW196.out)) | (show (Addr.add _ _).block ≠ _; rw [add_block]; exact Nat.ne_of_lt (Nat.lt_of_lt_of_le (by have := World.block_lt_of_cell? _ _ hw191_6; first | rwa [add_block] at this | exact this) GW196.out)) | (dsimp only; exact Nat.ne_of_lt (Nat.lt_of_lt_of_le (by have := World.block_lt_of_cell? _ _ hw191_6; first | rwa [add_block] at this | exact this) GW196.out))) _).trans (((cell_far (p := ⟨gb196, _, none⟩) (by first | exact Nat.ne_of_lt (Nat.lt_of_lt_of_le (by have := World.block_lt_of_cell? _ _ hw191_6; first | rwa [add_block] at this | exact this) GW196.out) | (rw [add_block]; exact Nat.ne_of_lt (Nat.lt_of_lt_of_le (by have := World.block_lt_of_cell? _ _ hw191_6; first | rwa [add_block] at this | exact this) GW196.out)) | (show (Addr.add _ _).block ≠ _; rw [add_block]; exact Nat.ne_of_lt (Nat.lt_of_lt_of_le (by have := World.block_lt_of_cell? _ _ hw191_6; first | rwa [add_block] at this | exact this) GW196.out)) | (dsimp only; exact Nat.ne_of_lt (Nat.lt_of_lt_of_le (by have := World.block_lt_of_cell? _ _ hw191_6; first | rwa [add_block] at this | exact this) GW196.out))) _).trans (((cell_far (p := ⟨gb196, _, none⟩) (by first | exact Nat.ne_of_lt (Nat.lt_of_lt_of_le (by have := World.block_lt_of_cell? _ _ hw191_6; first | rwa [add_block] at this | exact this) GW196.out) | (rw [add_block]; exact Nat.ne_of_lt (Nat.lt_of_lt_of_le (by have := World.block_lt_of_cell? _ _ hw191_6; first | rwa [add_block] at this | exact this) GW196.out)) | (show (Addr.add _ _).block ≠ _; rw [add_block]; exact Nat.ne_of_lt (Nat.lt_of_lt_of_le (by have := World.block_lt_of_cell? _ _ hw191_6; first | rwa [add_block] at this | exact this) GW196.out)) | (dsimp only; exact Nat.ne_of_lt (Nat.lt_of_lt_of_le (by have := World.block_lt_of_cell? _ _ hw191_6; first | rwa [add_block] at this | exact this) GW196.out))) _).trans (hHeld.2.2.2.2.2.2.2.2.2.2.2.2.2.1)))))), ((cell_far (p := ⟨gb196, _, none⟩) (by first | exact Nat.ne_of_lt (Nat.lt_of_lt_of_le (by have := World.block_lt_of_cell? _ _ hw191_7; first | rwa [add_block] at this | exact this) GW196.out) | (rw [add_block]; exact Nat.ne_of_lt (Nat.lt_of_lt_of_le (by have := World.block_lt_of_cell? _ _ hw191_7; first | rwa [add_block] at this | exact this) GW196.out)) | (show (Addr.add _ _).block ≠ _; rw [add_block]; exact Nat.ne_of_lt (Nat.lt_of_lt_of_le (by have := World.block_lt_of_cell? _ _ hw191_7; first | rwa [add_block] at this | exact this) GW196.out)) | (dsimp only; exact Nat.ne_of_lt (Nat.lt_of_lt_of_le (by have := World.block_lt_of_cell? _ _ hw191_7; first | rwa [add_block] at this | exact this) GW196.out))) _).trans (((cell_far (p := ⟨gb196, _, none⟩) (by first | exact Nat.ne_of_lt (Nat.lt_of_lt_of_le (by have := World.block_lt_of_cell? _ _ hw191_7; first | rwa [add_block] at this | exact this) GW196.out) | (rw [add_block]; exact Nat.ne_of_lt (Nat.lt_of_lt_of_le (by have := World.block_lt_of_cell? _ _ hw191_7; first | rwa [add_block] at this | exact this) GW196.out)) | (show (Addr.add _ _).block ≠ _; rw [add_block]; exact Nat.ne_of_lt (Nat.lt_of_lt_of_le (by have := World.block_lt_of_cell? _ _ hw191_7; first | rwa [add_block] at this | exact this) GW196.out)) | (dsimp only; exact Nat.ne_of_lt (Nat.lt_of_lt_of_le (by have := World.block_lt_of_cell? _ _ hw191_7; first | rwa [add_block] at this | exact this) GW196.out))) _).trans (((cell_far (p := ⟨gb196, _, none⟩) (by first | exact Nat.ne_of_lt (Nat.lt_of_lt_of_le (by have := World.block_lt_of_cell? _ _ hw191_7; first | rwa [add_block] at this | exact this) GW196.out) | (rw [add_block]; exact Nat.ne_of_lt (Nat.lt_of_lt_of_le (by have := World.block_lt_of_cell? _ _ hw191_7; first | rwa [add_block] at this | exact this) GW196.out)) | (show (Addr.add _ _).block ≠ _; rw [add_block]; exact Nat.ne_of_lt (Nat.lt_of_lt_of_le (by have := World.block_lt_of_cell? _ _ hw191_7; first | rwa [add_block] at this | exact this) GW196.out)) | (dsimp only; exact Nat.ne_of_lt (Nat.lt_of_lt_of_le (by have := World.block_lt_of_cell? _ _ hw191_7; first | rwa [add_block] at this | exact this) GW196.out))) _).trans (hHeld.2.2.2.2.2.2.2.2.2.2.2.2.2.2.1)))))), ((cell_far (p := ⟨gb196, _, none⟩) (by first | exact Nat.ne_of_lt (Nat.lt_of_lt_of_le (by have := World.block_lt_of_cell? _ _ hw191_8; first | rwa [add_block] at this | exact this) GW196.out) | (rw [add_block]; exact Nat.ne_of_lt (Nat.lt_of_lt_of_le (by have := World.block_lt_of_cell? _ _ hw191_8; first | rwa [add_block] at this | exact this) GW196.out)) | (show (Addr.add _ _).block ≠ _; rw [add_block]; exact Nat.ne_of_lt (Nat.lt_of_lt_of_le (by have := World.block_lt_of_cell? _ _ hw191_8; first | rwa [add_block] at this | exact this) GW196.out)) | (dsimp only; exact Nat.ne_of_lt (Nat.lt_of_lt_of_le (by have := World.block_lt_of_cell? _ _ hw191_8; first | rwa [add_block] at this | exact this) GW196.out))) _).trans (((cell_far (p := ⟨gb196, _, none⟩) (by first | exact Nat.ne_of_lt (Nat.lt_of_lt_of_le (by have := World.block_lt_of_cell? _ _ hw191_8; first | rwa [add_block] at this | exact this) GW196.out) | (rw [add_block]; exact Nat.ne_of_lt (Nat.lt_of_lt_of_le (by have := World.block_lt_of_cell? _ _ hw191_8; first | rwa [add_block] at this | exact this) GW196.out)) | (show (Addr.add _ _).block ≠ _; rw [add_block]; exact Nat.ne_of_lt (Nat.lt_of_lt_of_le (by have := World.block_lt_of_cell? _ _ hw191_8; first | rwa [add_block] at this | exact this) GW196.out)) | (dsimp only; exact Nat.ne_of_lt (Nat.lt_of_lt_of_le (by have := World.block_lt_of_cell? _ _ hw191_8; first | rwa [add_block] at this | exact this) GW196.out))) _).trans (((cell_far (p := ⟨gb196, _, none⟩) (by first | exact Nat.ne_of_lt (Nat.lt_of_lt_of_le (by have := World.block_lt_of_cell? _ _ hw191_8; first | rwa [add_block] at this | exact this) GW196.out) | (rw [add_block]; exact Nat.ne_of_lt (Nat.lt_of_lt_of_le (by have := World.block_lt_of_cell? _ _ hw191_8; first | rwa [add_block] at this | exact this) GW196.out)) | (show (Addr.add _ _).block ≠ _; rw [add_block]; exact Nat.ne_of_lt (Nat.lt_of_lt_of_le (by have := World.block_lt_of_cell? _ _ hw191_8; first | rwa [add_block] at this | exact this) GW196.out)) | (dsimp only; exact Nat.ne_of_lt (Nat.lt_of_lt_of_le (by have := World.block_lt_of_cell? _ _ hw191_8; first | rwa [add_block] at this | exact this) GW196.out))) _).trans (hHeld.2.2.2.2.2.2.2.2.2.2.2.2.2.2.2))))))⟩ (fun hHeld => ?_)
      clear hK K
      refine stepP 15 (some 7) (tk 16 65535) (any_of HT_.out (by kernel_rfl)) ?_
      refine done_ (done_of HT_.out (by kernel_rfl)) ?_
      have hn31 := ne2 NB196_184
      have hcz32 := cells3 BK196.out
      try go_wp2_with (first | ((with_reducible refine gate_builtin (b := .append) (xs := #[.tmp 44, .tmp 46]) rfl ?_); (try (refine gate_guard (by rfl) ?_; dsimp only)); at_builtin; refine Kd.R_append k29 (w0 := w) w.heap.size rfl (.tmp 44) (.tmp 46) 75 29 (.agg #[(.int .i64 0), (.int .i64 0), (.int .i64 0)]) 24 rfl Tryd.underlying75 info29 rfl (by decide) (by omega) (.slice (some ad190) x4_2.length co24) x4_2 (⟨t192, t193, t194⟩ : S29) [.int .i64 t192, .int .i64 t193, .int .i64 t194] (fun k_ => k_ ≠ gb196) (fun _ => False) rfl (by first | (go_simp; done) | (go_simp; rfl)) ?aP (fun _ hk => hk.elim) ?aF ?aO ?aB ?aS ?aL ?_; (case aP => exact k29_mkM _ _ _ (⟨t192, t193, t194⟩ : S29)); (case aB => exact bel_now); (case aF => exact (fun k_ hk => Kd.freshB (g := gb196) (o := .cells #[.int .i64 t192, .int .i64 t193, .int .i64 t194] 29 (0, 0)) (blk_fars (puts3 BK196.out)) k_ hk)); (case aO => exact (R_at (Kd.R_mono (Kd.R_far (p := ⟨gb196, 2, none⟩) (Kd.R_far (p := ⟨gb196, 1, none⟩) (Kd.R_far (p := ⟨gb196, 0, none⟩) (Kd.R_mono HO_4.out (fun k_ hk => (⟨hk, hk⟩ : _ ∧ k_ ≠ gb196))) (fun _ hk => hk.2) (.int .i64 t192)) (fun _ hk => hk.2) (.int .i64 t193)) (fun _ hk => hk.2) (.int .i64 t194)) (fun _ hk => hk.1)))); (case aS => exact (below_size bel_now)); (case aL => have := LMc21.out; omega); intro v198 w33 ho hb hg hat; rw [← Ny197.out] at ho; have n0_ := Aside0.mk (blk_grown (g := gb184) (o := .cells #[.int .i64 a0_0, .int .i64 a0_1, .int .i64 a0_2, .slice (some ad191) l0_3.length c0_3] 32 (0, 0)) (blk_fars BK184.out) hg (Kd.R_ne HO_4.out BK184.out (by decide))); have n1_ := Aside0.mk (blk_grown (g := gb196) (o := .cells #[.int .i64 t192, .int .i64 t193, .int .i64 t194] 29 (0, 0)) (blk_fars (puts3 BK196.out)) hg (Kd.R_away HO_4.out (fun _ hk => hk))); have n2_ := Aside0.mk (hb); have n3_ := Aside0.mk (ho); clear BK184; clear BK196; clear HB; clear HO_4; have BK184 := n0_; have BK196 := n1_; have HB := n2_; have HO199 := n3_; clear n0_ n1_ n2_ n3_; clear ho hb hg hat))
      go_roundg k2
      case measure => have := HJ1.out; have := HK2.out; omega
      case rel => exact ⟨(y197), (wrap64 (x5_2 + 1)), (by first | rfl | (simp; done) | (simp [*]; done)), H', ⟨by have := HJ1.out; have := HK2.out; omega⟩, ⟨by (with_reducible repeat (first | apply Kd.R_alloc | apply Kd.R_drewN | apply Kd.R_drew)); exact Kd.R_mono HO199.out (fun _ hk => trivial)⟩, ⟨bks BK184⟩, ⟨bel_now⟩⟩

end Go.Proofs.YtclpojeofclbjaaDoor.PFnExactModelText
