-- Printed by the session's own program (wip/myprint.py) for this claim out of the translation. Not trusted: Lean checks it.
import Derived.Test.YtljdcemdhmaahaaPFnExactEncodeModelx0
import Derived.Test.YtljdcemdhmaahaaPFnExactEncodeModelx1
import Derived.Test.YtljdcemdhmaahaaPFnExactEncodeModelx5
namespace Go.Proofs.Ytljdcemdhmaahaa.PFnExactEncodeModel
open Go.RowKit Go.Proofs.YtljdcemdhmaahaaW.PrintWords Go.Proofs.YtljdcemdhmaahaaW.PrintLast Go.Proofs.YtljdcemdhmaahaaW.PrintMore
attribute [local go_sem] max2_int min2_int max_two min_two max_three min_three max_four min_four   -- for this text's walks alone
set_option linter.unusedVariables false
set_option linter.unusedSimpArgs false

/-! ### spec_ModelOk: function 56 -/
def spec_ModelOk.f (k : Nat) (a0_0 : Int) (a0_1 : Int) (a0_2 : Int) (l0_3 : List (S73)) : Option (Bool) := (spec_l04Shapes.f k a0_0 a0_1 a0_2 l0_3).bind fun bt201 => (some bt201.2)
set_option maxHeartbeats 8000000 in
set_option maxRecDepth 100000 in
theorem spec_ModelOk.calls (k : Nat) (a0_0 : Int) (a0_1 : Int) (a0_2 : Int) (A0_3 : Option Addr) (c0_3 : Nat) (l0_3 : List (S73)) (r : Bool) (w : World) (hr0_3 : Kd.C k73 w A0_3 l0_3.length l0_3) (hc0_3 : l0_3.length ≤ c0_3) (h : spec_ModelOk.f k a0_0 a0_1 a0_2 l0_3 = some r) :
   Calls Try.prog 56 #[.agg #[.int .i64 a0_0, .int .i64 a0_1, .int .i64 a0_2, .slice A0_3 l0_3.length c0_3]] w fun e w' => e = .returned (.bool r) ∧ Below w.heap.size w w' := by
  have hu28 := Try.underlying28
  have HR0_3 := Aside0.mk hr0_3
  have HC0_3 := Aside0.mk hc0_3
  clear hr0_3 hc0_3
  have HB := Aside0.mk (Below.refl w.heap.size w)
  have H : ((spec_l04Shapes.f k a0_0 a0_1 a0_2 l0_3).bind fun bt201 => (some bt201.2)) = some r := h
  clear h
  replace H := Option.bind_eq_some_iff.mp H
  obtain ⟨⟨t201, t204⟩, A20, H⟩ := H
  (try dsimp only at H)
  have A2 := Aside0.mk A20
  clear A20
  obtain rfl := Option.some.inj H
  go_enter Try.func56, Try.ntmps56
  go_wp2_with (first | ((with_reducible refine gate_dst (N := 1) rfl ?_); refine boxM 1 #[.int .i64 a0_0, .int .i64 a0_1, .int .i64 a0_2, .slice A0_3 l0_3.length c0_3] 28 ?_; intro gb200 hg w3 BK200 hb; replace HB := box_at w hb hg; obtain ⟨HB, GW200, GE200⟩ := HB; clear hb hg; have hcz4 := cells4 BK200.out) | ((with_reducible refine gate_callee (f := 67) rfl ?_); refine goesM (some 7) rfl rfl Try.func67 (by kernel_rfl) rfl #[.agg #[.int .i64 a0_0, .int .i64 a0_1, .int .i64 a0_2, .slice A0_3 l0_3.length c0_3]] rfl ?_; (with_reducible refine (spec_l04Shapes.calls k a0_0 a0_1 a0_2 _ _ l0_3 t201 t204 _ ?side1 ?side2 A2.out).mono ?_); (case side1 => exact C_now HR0_3.out); (case side2 => exact HC0_3.out); rintro e w5 ⟨v202, rfl, ho0, hb⟩; refine ⟨_, rfl, ?_⟩; have n0_ := Aside0.mk (Kd.R_lower ho0 (below_size bel_now)); replace HB := bel_on w hb; replace BK200 := blk_on gb200 hb; have HO203 := n0_; clear n0_; (try clear hb); (try clear ho0)))
  go_ret
  exact ⟨eqN, bel_now⟩

/-! ### spec_PutWide: function 91 -/
mutual
def spec_PutWide.j0 : Nat → List Int → Int → Option (List Int)
  | 0, _, _ => none
  | k + 1, x3, x4 => spec_PutWide.l0 k x3 x4
def spec_PutWide.l0 : Nat → List Int → Int → Option (List Int)
  | 0, _, _ => none
  | k + 1, x3, x4 => if x4 ≥ 128 then (if x3.length < 140737488355328 then (spec_PutWide.l0 k (x3 ++ [(wrap64 (128 + (Int.tmod x4 128))) % 256]) (wrap64 (Int.tdiv x4 128))) else (none)) else (if x3.length < 140737488355328 then (some (x3 ++ [(x4) % 256])) else (none))
end
def spec_PutWide.f (k : Nat) (a0 : Int) : Option (List Int) := (some (([] : List Int) : List Int)).bind fun y205 => ((spec_l01In.f a0 (-1099511627776) 1099511627775).bind fun t208 => (if t208 = true then (if a0 < 0 then (spec_PutWide.j0 k y205 (wrap64 ((wrap64 ((-2) * a0)) - 1))) else (spec_PutWide.j0 k y205 (wrap64 (2 * a0)))) else (some ([] : List Int))))
set_option maxHeartbeats 8000000 in
set_option maxRecDepth 100000 in
theorem spec_PutWide.calls (k : Nat) (a0 : Int) (r : List Int) (w : World) (h : spec_PutWide.f k a0 = some r) :
   Calls Try.prog 91 #[.int .i64 a0] w fun e w' => ∃ v0_ : Value, e = .returned (v0_) ∧ Kd.R (Kd.int .u8) 5 w' w.heap.size (fun _ => True) v0_ r ∧ Below w.heap.size w w' := by
  have HB := Aside0.mk (Below.refl w.heap.size w)
  have H : ((some (([] : List Int) : List Int)).bind fun y205 => ((spec_l01In.f a0 (-1099511627776) 1099511627775).bind fun t208 => (if t208 = true then (if a0 < 0 then (spec_PutWide.j0 k y205 (wrap64 ((wrap64 ((-2) * a0)) - 1))) else (spec_PutWide.j0 k y205 (wrap64 (2 * a0)))) else (some ([] : List Int))))) = some r := h
  clear h
  obtain ⟨y205, hy205⟩ : ∃ y_ : List Int, y_ = (([] : List Int)) := ⟨_, rfl⟩
  replace H : ((spec_l01In.f a0 (-1099511627776) 1099511627775).bind fun t208 => (if t208 = true then (if a0 < 0 then (spec_PutWide.j0 k y205 (wrap64 ((wrap64 ((-2) * a0)) - 1))) else (spec_PutWide.j0 k y205 (wrap64 (2 * a0)))) else (some ([] : List Int)))) = some r := by first | (rw [hy205]; with_reducible exact H) | (have H2_ := (Option.bind_some _ _).symm.trans H; rw [hy205]; with_reducible exact H2_) | (have H2_ := (Option.bind_some _ _).symm.trans H; with_reducible exact H2_) | with_reducible exact H | (rw [hy205]; exact H) | exact H
  have Ny205 := Aside0.mk hy205
  clear hy205
  replace H := Option.bind_eq_some_iff.mp H
  obtain ⟨t208, A20, H⟩ := H
  (try dsimp only at H)
  have A2 := Aside0.mk A20
  clear A20
  by_cases c3 : t208 = true
  rotate_left
  ·replace c3 := Bool.eq_false_iff.mpr c3
   subst c3
   rw [if_neg (show ¬ (false = true) by decide)] at H
   obtain rfl := Option.some.inj H
   go_enter Try.func91, Try.ntmps91
   go_wp2_with (first | ((with_reducible refine gate_dst (N := 5) rfl ?_); refine Kd.R_lit (Kd.int .u8) _ 5 ?hg (N := 5) ?hd (xs := ([] : List Int)) (inner := []) (ok := fun _ => True) (okp := fun _ => True) ?hr ?hp (fun _ hk => hk) trivial (Below.refl _ _) (Nat.le_refl _) (by simp) ?_; (case hd => rfl); (case hg => rfl); (case hr => first | (go_simp; done) | (go_simp; rfl)); (case hp => exact (Reps.none _ _)); intro v206 w13 ho14 hb hg_ hnew_; clear hg_ hnew_; (first | rw [← Ny205.out] at ho14 | (simp only [Int.reduceToNat] at ho14; rw [← Ny205.out] at ho14)); have n0_ := Aside0.mk (Kd.R_lower ho14 (below_size bel_now)); replace HB := bel_on w hb; have HO207 := n0_; clear n0_; clear hb ho14) | ((with_reducible refine gate_callee (f := 79) rfl ?_); refine goesM (some 7) rfl rfl Try.func79 (by kernel_rfl) rfl #[.int .i64 a0, .int .i64 (-1099511627776), .int .i64 1099511627775] rfl ?_; (with_reducible refine (spec_l01In.calls a0 (-1099511627776) 1099511627775 false _ A2.out).mono ?_); rintro e w' ⟨rfl, ⟨nd, rfl⟩⟩; refine ⟨_, rfl, ?_⟩))
   go_ret
   exact ⟨_, eqN, by first | exact Kd.R_nil _ _ _ _ _ | exact Kd.N_nil _ _ _ _ _ | exact Kd.V_nil _ _ _ _ _ | exact Kd.Q_nil _ _ _ _ _ | exact Kd.S_nil _ _ _ _ _, bel_now⟩
  subst c3
  rw [if_pos rfl] at H
  have HC4 := Aside0.mk H
  clear H
  go_enter Try.func91, Try.ntmps91
  go_upto_if 12 with (first | ((with_reducible refine gate_dst (N := 5) rfl ?_); refine Kd.R_lit (Kd.int .u8) _ 5 ?hg (N := 5) ?hd (xs := ([] : List Int)) (inner := []) (ok := fun _ => True) (okp := fun _ => True) ?hr ?hp (fun _ hk => hk) trivial (Below.refl _ _) (Nat.le_refl _) (by simp) ?_; (case hd => rfl); (case hg => rfl); (case hr => first | (go_simp; done) | (go_simp; rfl)); (case hp => exact (Reps.none _ _)); intro v206 w5 ho6 hb hg_ hnew_; clear hg_ hnew_; (first | rw [← Ny205.out] at ho6 | (simp only [Int.reduceToNat] at ho6; rw [← Ny205.out] at ho6)); have n0_ := Aside0.mk (Kd.R_lower ho6 (below_size bel_now)); replace HB := bel_on w hb; have HO207 := n0_; clear n0_; clear hb ho6) | ((with_reducible refine gate_callee (f := 79) rfl ?_); refine goesM (some 7) rfl rfl Try.func79 (by kernel_rfl) rfl #[.int .i64 a0, .int .i64 (-1099511627776), .int .i64 1099511627775] rfl ?_; (with_reducible refine (spec_l01In.calls a0 (-1099511627776) 1099511627775 true _ A2.out).mono ?_); rintro e w' ⟨rfl, ⟨nd, rfl⟩⟩; refine ⟨_, rfl, ?_⟩))
  (try simp only [Act.put, zA, zB, zC])
  go_cut [4] (fun v4 wc => ∃ (kq : Nat) (x4_3 : Int), v4 = .int .i64 x4_3 ∧ Aside0 (spec_PutWide.j0 kq y205 x4_3 = some r) ∧ Aside0 (kq ≤ k) ∧ Aside0 (Kd.R (Kd.int .u8) 5 wc w.heap.size (fun _ => True) v206 y205) ∧ Aside0 (Below w.heap.size w wc))
  case first =>
   have H := HC4.out
   clear HC4
   by_cases c7 : a0 < 0
   ·rw [if_pos c7] at H
    have c7b0 : decide (a0 < 0) = true := decide_eq_true c7
    clear c7
    (first | rw [c7b0] | (simp only [i64_w, i32_w]; rw [c7b0]) | skip)
    have H' := Aside0.mk H
    clear H
    go_wp2
    go_meet
    case rel => exact ⟨_, (wrap64 ((wrap64 ((-2) * a0)) - 1)), (by first | rfl | (simp; done) | (simp [*]; done)), H', ⟨by first | omega | exact Nat.le_refl _⟩, ⟨by (with_reducible repeat (first | apply Kd.R_alloc | apply Kd.R_drewN | apply Kd.R_drew)); exact HO207.out⟩, ⟨bel_now⟩⟩
   rw [if_neg c7] at H
   have c7b0 : decide (a0 < 0) = false := decide_eq_false c7
   clear c7
   (first | rw [c7b0] | (simp only [i64_w, i32_w]; rw [c7b0]) | skip)
   have H' := Aside0.mk H
   clear H
   go_wp2
   go_meet
   case rel => exact ⟨_, (wrap64 (2 * a0)), (by first | rfl | (simp; done) | (simp [*]; done)), H', ⟨by first | omega | exact Nat.le_refl _⟩, ⟨by (with_reducible repeat (first | apply Kd.R_alloc | apply Kd.R_drewN | apply Kd.R_drew)); exact HO207.out⟩, ⟨bel_now⟩⟩
  case rest =>
   clear HC4
   try clear p2
   try clear c3
   try clear p6
   try clear c7
   try clear c7b0
   obtain ⟨kq, x4_3, rfl, HA, HJ3, HO_3, HB⟩ := hcut
   cases kq with
   | zero => exact absurd HA.out (by simp [spec_PutWide.j0])
   | succ kj3 =>
    have H := HA.out
    clear HA
    simp only [spec_PutWide.j0] at H
    have H' := Aside0.mk H
    clear H
    go_wp2
    go_loopg [3, 4] kj3 (fun kq v3 v4 w' => ∃ (x3_2 : List Int) (x4_2 : Int), v4 = .int .i64 x4_2 ∧ Aside0 (spec_PutWide.l0 kq x3_2 x4_2 = some r) ∧ Aside0 (kq ≤ kj3) ∧ Aside0 (Kd.R (Kd.int .u8) 5 w' w.heap.size (fun _ => True) v3 x3_2) ∧ Aside0 (Below w.heap.size w w'))
    case atStart => exact ⟨(y205), (x4_3), (by first | rfl | (simp; done) | (simp [*]; done)), H', ⟨Nat.le_refl _⟩, ⟨by (with_reducible repeat (first | apply Kd.R_alloc | apply Kd.R_drewN | apply Kd.R_drew)); exact HO_3.out⟩, ⟨bel_now⟩⟩
    case round =>
     clear H'
     try clear p2 p2
     try clear c3
     try clear p6 p6
     try clear c7
     try clear c7b0
     obtain ⟨x3_2, x4_2, rfl, HA, HK2, HO_3, HB⟩ := hrel
     cases gk with
     | zero => exact absurd HA.out (by simp [spec_PutWide.l0])
     | succ k2 =>
      have H := HA.out
      clear HA
      simp only [spec_PutWide.l0] at H
      by_cases c8 : x4_2 ≥ 128
      rotate_left
      ·rw [if_neg c8] at H
       have c8b0 : decide (128 ≤ x4_2) = false := decide_eq_false c8
       clear c8
       by_cases c11 : x3_2.length < 140737488355328
       rotate_left
       ·rw [if_neg c11] at H
        exact absurd H (by simp)
       rw [if_pos c11] at H
       have LMc11 := Aside0.mk c11
       clear c11
       obtain ⟨y212, hy212⟩ : ∃ y_ : List Int, y_ = (x3_2 ++ [(x4_2) % 256]) := ⟨_, rfl⟩
       replace H : (some y212) = some r := by first | (rw [hy212]; with_reducible exact H) | (have H2_ := (Option.bind_some _ _).symm.trans H; rw [hy212]; with_reducible exact H2_) | (have H2_ := (Option.bind_some _ _).symm.trans H; with_reducible exact H2_) | with_reducible exact H | (rw [hy212]; exact H) | exact H
       have Ny212 := Aside0.mk hy212
       clear hy212
       obtain rfl := Option.some.inj H
       go_wp2_with (first | ((with_reducible refine gate_builtin (b := .append) (xs := #[.tmp 27, .tmp 30]) rfl ?_); at_builtin; refine Kd.R_append (Kd.int .u8) (w0 := w) w.heap.size rfl (.tmp 27) (.tmp 30) 22 5 (.int .u8 0) 1 rfl Try.underlying22 info5 rfl (by decide) (by omega) u3 x3_2 ((x4_2) % 256) [.int .u8 ((x4_2) % 256)] (fun _ => True) (fun _ => False) rfl rfl ?aP (fun _ hk => hk.elim) ?aF ?aO ?aB ?aS ?aL ?_; (case aP => exact rfl); (case aB => exact bel_now); (case aF => exact (fun _ _ => trivial)); (case aO => exact (R_at HO_3.out)); (case aS => exact (below_size bel_now)); (case aL => have := LMc11.out; omega); intro v213 w12 ho hb hg hat; rw [← Ny212.out] at ho; have n0_ := Aside0.mk (hb); have n1_ := Aside0.mk (ho); clear HB; clear HO_3; have HB := n0_; have HO214 := n1_; clear n0_ n1_; clear ho hb hg hat))
       go_ret
       exact ⟨_, eqN, by (with_reducible repeat (first | apply Kd.R_alloc | apply Kd.R_drewN | apply Kd.R_drew)); exact HO214.out, bel_now⟩
      rw [if_pos c8] at H
      have c8b0 : decide (128 ≤ x4_2) = true := decide_eq_true c8
      clear c8
      by_cases c9 : x3_2.length < 140737488355328
      rotate_left
      ·rw [if_neg c9] at H
       exact absurd H (by simp)
      rw [if_pos c9] at H
      have LMc9 := Aside0.mk c9
      clear c9
      obtain ⟨y209, hy209⟩ : ∃ y_ : List Int, y_ = (x3_2 ++ [(wrap64 (128 + (Int.tmod x4_2 128))) % 256]) := ⟨_, rfl⟩
      replace H : (spec_PutWide.l0 k2 y209 (wrap64 (Int.tdiv x4_2 128))) = some r := by first | (rw [hy209]; with_reducible exact H) | (have H2_ := (Option.bind_some _ _).symm.trans H; rw [hy209]; with_reducible exact H2_) | (have H2_ := (Option.bind_some _ _).symm.trans H; with_reducible exact H2_) | with_reducible exact H | (rw [hy209]; exact H) | exact H
      have Ny209 := Aside0.mk hy209
      clear hy209
      have H' := Aside0.mk H
      clear H
      go_wp2_with (first | ((with_reducible refine gate_builtin (b := .append) (xs := #[.tmp 18, .tmp 23]) rfl ?_); at_builtin; refine Kd.R_append (Kd.int .u8) (w0 := w) w.heap.size rfl (.tmp 18) (.tmp 23) 22 5 (.int .u8 0) 1 rfl Try.underlying22 info5 rfl (by decide) (by omega) u3 x3_2 ((wrap64 (128 + (Int.tmod x4_2 128))) % 256) [.int .u8 ((wrap64 (128 + (Int.tmod x4_2 128))) % 256)] (fun _ => True) (fun _ => False) rfl rfl ?aP (fun _ hk => hk.elim) ?aF ?aO ?aB ?aS ?aL ?_; (case aP => exact rfl); (case aB => exact bel_now); (case aF => exact (fun _ _ => trivial)); (case aO => exact (R_at HO_3.out)); (case aS => exact (below_size bel_now)); (case aL => have := LMc9.out; omega); intro v210 w10 ho hb hg hat; rw [← Ny209.out] at ho; have n0_ := Aside0.mk (hb); have n1_ := Aside0.mk (ho); clear HB; clear HO_3; have HB := n0_; have HO211 := n1_; clear n0_ n1_; clear ho hb hg hat))
      go_roundg k2
      case measure => have := HJ3.out; have := HK2.out; omega
      case rel => exact ⟨(y209), (wrap64 (Int.tdiv x4_2 128)), (by first | rfl | (simp; done) | (simp [*]; done)), H', ⟨by have := HJ3.out; have := HK2.out; omega⟩, ⟨by (with_reducible repeat (first | apply Kd.R_alloc | apply Kd.R_drewN | apply Kd.R_drew)); exact HO211.out⟩, ⟨bel_now⟩⟩

/-! ### spec_l05Put: function 57 -/
mutual
def spec_l05Put.l0 : Nat → List Int → List Int → Int → Option (List Int)
  | 0, _, _, _ => none
  | k + 1, x0, x1, x5 => if x5 < (x1.length : Int) then (if 0 ≤ x5 then ((spec_PutWide.f k (rd x1 x5)).bind fun t216 => (spec_l05Put.l1 k x0 x1 x5 t216 0)) else (none)) else (some x0)
def spec_l05Put.l1 : Nat → List Int → List Int → Int → List Int → Int → Option (List Int)
  | 0, _, _, _, _, _ => none
  | k + 1, x0, x1, x5, x6, x7 => if x7 < (x6.length : Int) then (if 0 ≤ x7 then (if x0.length < 140737488355328 then (spec_l05Put.l1 k (x0 ++ [rd x6 x7]) x1 x5 x6 (wrap64 (x7 + 1))) else (none)) else (none)) else (spec_l05Put.l0 k x0 x1 (wrap64 (x5 + 1)))
end
def spec_l05Put.f (k : Nat) (l0 : List Int) (l1 : List Int) : Option (List Int) := spec_l05Put.l0 k l0 l1 0
set_option maxHeartbeats 8000000 in
set_option maxRecDepth 100000 in
theorem spec_l05Put.callsL (b : Bool) (k : Nat) (P0_ : Nat → Prop) (u9000_ : Value) (l0 : List Int) (A1 : Option Addr) (c1 : Nat) (l1 : List Int) (r : List Int) (w0 w : World) (hB : Below w0.heap.size w0 w) (ho0 : RL 5 b w w0.heap.size P0_ u9000_ l0) (hr1 : ∀ W_, Kept w W_ (fun k_ => P0_ k_) → Kd.C (Kd.int .i64) W_ A1 l1.length l1) (hc1 : l1.length ≤ c1) (h : spec_l05Put.f k l0 l1 = some r) :
   Calls Try.prog 57 #[u9000_, .slice A1 l1.length c1] w fun e w' => ∃ v0_ : Value, e = .returned (v0_) ∧ RL 5 b w' w0.heap.size (fun k_ => (P0_ k_ ∨ w.heap.size ≤ k_)) v0_ r ∧ Below w0.heap.size w0 w' ∧ Kept w w' (fun k_ => P0_ k_) := by
  have HO0 := Aside0.mk (show RL 5 b w w0.heap.size (fun k_ => (P0_ k_ ∨ w.heap.size ≤ k_)) u9000_ l0 from RL.weak ho0 (fun k_ hk => (.inl hk)))
  have HR1 := Aside0.mk hr1
  have HC1 := Aside0.mk hc1
  clear hr1 hc1
  have HK := Aside0.mk (Kept.refl w (fun k_ => P0_ k_))
  have HW0 := Aside0.mk hB.size
  have HB := Aside0.mk hB
  clear hB
  have H : (spec_l05Put.l0 k l0 l1 0) = some r := h
  clear h
  have H' := Aside0.mk H
  clear H
  go_enter Try.func57, Try.ntmps57
  go_wp2
  go_loopg [0, 5] k (fun kq v0 v5 w' => ∃ (x0_1 : List Int) (x5_1 : Int), v5 = .int .i64 x5_1 ∧ Aside0 (spec_l05Put.l0 kq x0_1 l1 x5_1 = some r) ∧ Aside0 (kq ≤ k) ∧ Aside0 (RL 5 b w' w0.heap.size (fun k_ => (P0_ k_ ∨ w.heap.size ≤ k_)) v0 x0_1) ∧ Aside0 (Kept w w' (fun k_ => P0_ k_)) ∧ Aside0 (Below w0.heap.size w0 w'))
  case atStart => exact ⟨(l0), (0), (by first | rfl | (simp; done) | (simp [*]; done)), H', ⟨Nat.le_refl _⟩, ⟨by (with_reducible repeat (first | apply Kd.R_alloc | apply Kd.R_drewN | apply Kd.R_drew)); exact HO0.out⟩, ⟨by repeat (first | (with_reducible first | exact HK.out | apply Kept.alloc | apply Kept.drewN | apply Kept.drew) | exact HK.out)⟩, ⟨bel_now⟩⟩
  case round =>
   clear H'
   try clear c1
   try clear p2
   obtain ⟨x0_1, x5_1, rfl, HA, HK1, HO_0, HK, HB⟩ := hrel
   cases gk with
   | zero => exact absurd HA.out (by simp [spec_l05Put.l0])
   | succ k1 =>
    have H := HA.out
    clear HA
    simp only [spec_l05Put.l0] at H
    by_cases c3 : x5_1 < (l1.length : Int)
    rotate_left
    ·rw [if_neg c3] at H
     have c3b0 : decide (x5_1 < (l1.length : Int)) = false := decide_eq_false c3
     clear c3
     obtain rfl := Option.some.inj H
     go_wp2
     go_ret
     exact ⟨_, eqN, by (with_reducible repeat (first | apply Kd.R_alloc | apply Kd.R_drewN | apply Kd.R_drew)); exact HO_0.out, by repeat (first | (with_reducible first | exact HB.out | apply below_alloc | apply pw_below_drewN | apply below_drew1) | exact HB.out), by repeat (first | (with_reducible first | exact HK.out | apply Kept.alloc | apply Kept.drewN | apply Kept.drew) | exact HK.out)⟩
    rw [if_pos c3] at H
    have c3b0 : decide (x5_1 < (l1.length : Int)) = true := decide_eq_true c3
    clear c3
    by_cases c4 : 0 ≤ x5_1
    rotate_left
    ·rw [if_neg c4] at H
     exact absurd H (by simp)
    rw [if_pos c4] at H
    have c4b0 : decide (0 ≤ x5_1) = true := decide_eq_true c4
    clear c4
    replace H := Option.bind_eq_some_iff.mp H
    obtain ⟨t216, A50, H⟩ := H
    (try dsimp only at H)
    have A5 := Aside0.mk A50
    clear A50
    have H' := Aside0.mk H
    clear H
    have p215 : 0 ≤ (x5_1 : Int) := of_decide_eq_true (by first | (with_reducible assumption) | assumption)
    have q215 : x5_1 < (l1.length : Int) := of_decide_eq_true (by first | (with_reducible assumption) | assumption)
    obtain ⟨ad215, e215, hx215_0⟩ := Kd.at_int (Kd.C_kept_now HR1.out HK.out) x5_1 p215 q215
    cases e215
    replace p215 := eq_true p215
    replace q215 := eq_true q215
    go_wp2_with (first | ((with_reducible refine gate_callee (f := 91) rfl ?_); refine goesM (some 18) rfl rfl Try.func91 (by kernel_rfl) rfl #[.int .i64 (rd l1 x5_1)] rfl ?_; (with_reducible refine (spec_PutWide.calls k1 (rd l1 x5_1) t216 _ A5.out).mono ?_); rintro e w6 ⟨v217, rfl, ho0, hb⟩; refine ⟨_, rfl, ?_⟩; have n1_ := Aside0.mk (Kd.R_lower (Kd.R_new' (Kd.R_newM (M := fun k_ => (P0_ k_ ∨ w.heap.size ≤ k_)) ho0 (by first | exact HK.out.1 | exact (show Kept w _ (fun k_ => P0_ k_) from by repeat (first | (with_reducible first | exact HK.out | apply Kept.alloc | apply Kept.drewN | apply Kept.drew) | exact HK.out)).1) (fun k_ h_ => .inr h_)) (RL.lt HO_0.out)) (below_size bel_now)); replace HO_0 := Aside0.mk (RL.elder HO_0.out (Kd.R_base ho0) hb); replace HK := Aside0.mk (Kept.below (S := (fun k_ => P0_ k_)) (by repeat (first | (with_reducible first | exact HK.out | apply Kept.alloc | apply Kept.drewN | apply Kept.drew) | exact HK.out)) hb); replace HB := bel_on w0 hb; have HO218 := n1_; clear n1_; (try clear hb); (try clear ho0)))
    go_loopg [0, 7] k1 (fun kq v0 v7 w' => ∃ (x0_2 : List Int) (x7_2 : Int), v7 = .int .i64 x7_2 ∧ Aside0 (spec_l05Put.l1 kq x0_2 l1 x5_1 t216 x7_2 = some r) ∧ Aside0 (kq ≤ k1) ∧ Aside0 (RL 5 b w' w0.heap.size (fun k_ => (P0_ k_ ∨ w.heap.size ≤ k_) ∧ some k_ ≠ (v217 : Value).ownBlock) v0 x0_2) ∧ Aside0 (Kd.R (Kd.int .u8) 5 w' w0.heap.size (fun k_ => (P0_ k_ ∨ w.heap.size ≤ k_) ∧ some k_ ≠ (v0 : Value).ownBlock) v217 t216) ∧ Aside0 (Kept w w' (fun k_ => P0_ k_)) ∧ Aside0 (Below w0.heap.size w0 w'))
    case atStart => exact ⟨(x0_1), (0), (by first | rfl | (simp; done) | (simp [*]; done)), H', ⟨Nat.le_refl _⟩, ⟨by (with_reducible repeat (first | apply Kd.R_alloc | apply Kd.R_drewN | apply Kd.R_drew)); exact HO_0.out⟩, ⟨by (with_reducible repeat (first | apply Kd.R_alloc | apply Kd.R_drewN | apply Kd.R_drew)); exact Kd.R_mono HO218.out (fun _ hk => ⟨hk.1.1, hk.2⟩)⟩, ⟨by repeat (first | (with_reducible first | exact HK.out | apply Kept.alloc | apply Kept.drewN | apply Kept.drew) | exact HK.out)⟩, ⟨bel_now⟩⟩
    case round =>
     clear H'
     try clear c1
     try clear p2 p2
     try clear q2
     try clear hx2
     try clear c3
     try clear c3b0
     try clear c4
     try clear c4b0
     try clear c5
     try clear hx215_0
     try clear p215
     try clear q215
     obtain ⟨x0_2, x7_2, rfl, HA, HK2, HO_0, HO_6, HK, HB⟩ := hrel
     cases gk with
     | zero => exact absurd HA.out (by simp [spec_l05Put.l1])
     | succ k2 =>
      have H := HA.out
      clear HA
      simp only [spec_l05Put.l1] at H
      by_cases c7 : x7_2 < (t216.length : Int)
      rotate_left
      ·rw [if_neg c7] at H
       have c7b0 : decide (x7_2 < (t216.length : Int)) = false := decide_eq_false c7
       clear c7
       have H' := Aside0.mk H
       clear H
       obtain ⟨Ao12, co12, eo12⟩ := Kd.R_slice HO_6.out
       subst eo12
       go_wp2
       go_roundg k2
       case measure => have := HK1.out; have := HK2.out; omega
       case rel => exact ⟨(x0_2), (wrap64 (x5_1 + 1)), (by first | rfl | (simp; done) | (simp [*]; done)), H', ⟨by have := HK1.out; have := HK2.out; omega⟩, ⟨by (with_reducible repeat (first | apply Kd.R_alloc | apply Kd.R_drewN | apply Kd.R_drew)); exact RL.weak HO_0.out (fun _ hk => hk.1)⟩, ⟨by repeat (first | (with_reducible first | exact HK.out | apply Kept.alloc | apply Kept.drewN | apply Kept.drew) | exact HK.out)⟩, ⟨bel_now⟩⟩
      rw [if_pos c7] at H
      have c7b0 : decide (x7_2 < (t216.length : Int)) = true := decide_eq_true c7
      clear c7
      by_cases c8 : 0 ≤ x7_2
      rotate_left
      ·rw [if_neg c8] at H
       exact absurd H (by simp)
      rw [if_pos c8] at H
      have c8b0 : decide (0 ≤ x7_2) = true := decide_eq_true c8
      clear c8
      by_cases c9 : x0_2.length < 140737488355328
      rotate_left
      ·rw [if_neg c9] at H
       exact absurd H (by simp)
      rw [if_pos c9] at H
      have LMc9 := Aside0.mk c9
      clear c9
      obtain ⟨y220, hy220⟩ : ∃ y_ : List Int, y_ = (x0_2 ++ [rd t216 x7_2]) := ⟨_, rfl⟩
      replace H : (spec_l05Put.l1 k2 y220 l1 x5_1 t216 (wrap64 (x7_2 + 1))) = some r := by first | (rw [hy220]; with_reducible exact H) | (have H2_ := (Option.bind_some _ _).symm.trans H; rw [hy220]; with_reducible exact H2_) | (have H2_ := (Option.bind_some _ _).symm.trans H; with_reducible exact H2_) | with_reducible exact H | (rw [hy220]; exact H) | exact H
      have Ny220 := Aside0.mk hy220
      clear hy220
      have H' := Aside0.mk H
      clear H
      obtain ⟨Ao10, co10, eo10⟩ := Kd.R_slice HO_6.out
      subst eo10
      have p219 : 0 ≤ (x7_2 : Int) := of_decide_eq_true (by first | (with_reducible assumption) | assumption)
      have q219 : x7_2 < (t216.length : Int) := of_decide_eq_true (by first | (with_reducible assumption) | assumption)
      obtain ⟨ad219, e219, hx219_0⟩ := Kd.at_int (Kd.R_reads' HO_6.out).2.2 x7_2 p219 q219
      cases e219
      replace p219 := eq_true p219
      replace q219 := eq_true q219
      go_wp2_with (first | ((with_reducible refine gate_builtin (b := .append) (xs := #[.tmp 25, .tmp 30]) rfl ?_); at_builtin; refine RL_append (b := b) (w0 := w0) w0.heap.size rfl (.tmp 25) (.tmp 30) 22 5 (.int .u8 0) 1 rfl Try.underlying22 info5 rfl (by decide) (by omega) u0 x0_2 (rd t216 x7_2) [.int .u8 (rd t216 x7_2)] (fun k_ => (P0_ k_ ∨ w.heap.size ≤ k_) ∧ some k_ ≠ (.slice (some ad219) t216.length co10 : Value).ownBlock) (fun _ => False) rfl rfl ?aP (fun _ hk => hk.elim) ?aF ?aO ?aB ?aS ?aL ?_; (case aP => exact rfl); (case aB => exact bel_now); (case aF => exact (fun k_ hk => ⟨(.inr (Nat.le_trans (by first | exact HK.out.1 | exact (show Kept w _ (fun k_ => P0_ k_) from by repeat (first | (with_reducible first | exact HK.out | apply Kept.alloc | apply Kept.drewN | apply Kept.drew) | exact HK.out)).1) hk)), Kd.fresh' (Kd.R_lt (R_at HO_6.out)) k_ hk⟩)); (case aO => exact HO_0.out); (case aS => exact (below_size bel_now)); (case aL => have := LMc9.out; omega); intro v221 w11 ho hb hg hat; rw [← Ny220.out] at ho; have n0_ := Aside0.mk (Kd.R_after (ok := (fun k_ => (P0_ k_ ∨ w.heap.size ≤ k_))) (R_at HO_6.out) hg hat); have n1_ := Aside0.mk (hb); have n2_ := Aside0.mk (Kept.of_grown (S := (fun k_ => P0_ k_)) hg (by repeat (first | (with_reducible first | exact HK.out | apply Kept.alloc | apply Kept.drewN | apply Kept.drew) | exact HK.out)) (fun k_ e_ => (RL.ok HO_0.out k_ e_).1)); have n3_ := Aside0.mk (RL.of (b := b) ho); clear HO_6; clear HB; clear HK; clear HO_0; have HO_6 := n0_; have HB := n1_; have HK := n2_; have HO222 := n3_; clear n0_ n1_ n2_ n3_; clear ho hb hg hat))
      go_roundg k2
      case measure => have := HK1.out; have := HK2.out; omega
      case rel => exact ⟨(y220), (wrap64 (x7_2 + 1)), (by first | rfl | (simp; done) | (simp [*]; done)), H', ⟨by have := HK1.out; have := HK2.out; omega⟩, ⟨by (with_reducible repeat (first | apply Kd.R_alloc | apply Kd.R_drewN | apply Kd.R_drew)); exact HO222.out⟩, ⟨by (with_reducible repeat (first | apply Kd.R_alloc | apply Kd.R_drewN | apply Kd.R_drew)); exact HO_6.out⟩, ⟨by repeat (first | (with_reducible first | exact HK.out | apply Kept.alloc | apply Kept.drewN | apply Kept.drew) | exact HK.out)⟩, ⟨bel_now⟩⟩
theorem spec_l05Put.calls (k : Nat) (P0_ : Nat → Prop) (u9000_ : Value) (l0 : List Int) (A1 : Option Addr) (c1 : Nat) (l1 : List Int) (r : List Int) (w0 w : World) (hB : Below w0.heap.size w0 w) (ho0 : Kd.R (Kd.int .u8) 5 w w0.heap.size P0_ u9000_ l0) (hr1 : ∀ W_, Kept w W_ (fun k_ => P0_ k_) → Kd.C (Kd.int .i64) W_ A1 l1.length l1) (hc1 : l1.length ≤ c1) (h : spec_l05Put.f k l0 l1 = some r) :
   Calls Try.prog 57 #[u9000_, .slice A1 l1.length c1] w fun e w' => ∃ v0_ : Value, e = .returned (v0_) ∧ Kd.R (Kd.int .u8) 5 w' w0.heap.size (fun k_ => (P0_ k_ ∨ w.heap.size ≤ k_)) v0_ r ∧ Below w0.heap.size w0 w' ∧ Kept w w' (fun k_ => P0_ k_) :=
  (spec_l05Put.callsL false k P0_ u9000_ l0 A1 c1 l1 r w0 w hB (.inl ho0) hr1 hc1 h).mono fun _ _ ⟨v, h1, h2, h3⟩ => ⟨v, h1, RL.elim h2, h3⟩

/-! ### spec_SumOf: function 58 -/
def spec_SumOf.l0 : Nat → List Int → Int → Int → Option (Int)
  | 0, _, _, _ => none
  | k + 1, x0, x3, x4 => if x4 < (x0.length : Int) then (if 0 ≤ x4 then (spec_SumOf.l0 k x0 (Int.tmod (wrap64 ((wrap64 ((wrap64 (257 * x3)) + (wrap64 (rd x0 x4)))) + 1)) 1000003) (wrap64 (x4 + 1))) else (none)) else (some x3)
def spec_SumOf.f (k : Nat) (l0 : List Int) : Option (Int) := spec_SumOf.l0 k l0 1 0
set_option maxHeartbeats 8000000 in
set_option maxRecDepth 100000 in
theorem spec_SumOf.calls (k : Nat) (A0 : Option Addr) (c0 : Nat) (l0 : List Int) (r : Int) (w : World) (hr0 : Kd.C (Kd.int .u8) w A0 l0.length l0) (hc0 : l0.length ≤ c0) (h : spec_SumOf.f k l0 = some r) :
   Calls Try.prog 58 #[.slice A0 l0.length c0] w fun e w' => e = .returned (.int .i64 r) ∧ Drawn0 w w' := by
  have HR0 := Aside0.mk hr0
  have HC0 := Aside0.mk hc0
  clear hr0 hc0
  have H : (spec_SumOf.l0 k l0 1 0) = some r := h
  clear h
  have H' := Aside0.mk H
  clear H
  go_enter Try.func58, Try.ntmps58
  go_wp2
  go_loopg [3, 4] k (fun kq v3 v4 w' => ∃ (x3_1 : Int) (x4_1 : Int), v3 = .int .i64 x3_1 ∧ v4 = .int .i64 x4_1 ∧ Aside0 (spec_SumOf.l0 kq l0 x3_1 x4_1 = some r) ∧ Aside0 (kq ≤ k) ∧ Drawn0 w w')
  case atStart => exact ⟨(1), (0), (by first | rfl | (simp; done) | (simp [*]; done)), (by first | rfl | (simp; done) | (simp [*]; done)), H', ⟨Nat.le_refl _⟩, by repeat (first | exact Drawn0.refl _ | apply Drawn0.step)⟩
  case round =>
   clear H'
   obtain ⟨x3_1, x4_1, rfl, rfl, HA, HK1, ⟨m1, rfl⟩⟩ := hrel
   cases gk with
   | zero => exact absurd HA.out (by simp [spec_SumOf.l0])
   | succ k1 =>
    have H := HA.out
    clear HA
    simp only [spec_SumOf.l0] at H
    by_cases c2 : x4_1 < (l0.length : Int)
    rotate_left
    ·rw [if_neg c2] at H
     have c2b0 : decide (x4_1 < (l0.length : Int)) = false := decide_eq_false c2
     clear c2
     obtain rfl := Option.some.inj H
     go_wp2
     go_ret
     exact ⟨by first | rfl | (simp; done) | (simp [*]; done), by repeat (first | exact Drawn0.refl _ | apply Drawn0.step)⟩
    rw [if_pos c2] at H
    have c2b0 : decide (x4_1 < (l0.length : Int)) = true := decide_eq_true c2
    clear c2
    by_cases c3 : 0 ≤ x4_1
    rotate_left
    ·rw [if_neg c3] at H
     exact absurd H (by simp)
    rw [if_pos c3] at H
    have c3b0 : decide (0 ≤ x4_1) = true := decide_eq_true c3
    clear c3
    have H' := Aside0.mk H
    clear H
    have p223 : 0 ≤ (x4_1 : Int) := of_decide_eq_true (by first | (with_reducible assumption) | assumption)
    have q223 : x4_1 < (l0.length : Int) := of_decide_eq_true (by first | (with_reducible assumption) | assumption)
    obtain ⟨ad223, e223, hx223_0⟩ := Kd.at_int HR0.out x4_1 p223 q223
    cases e223
    replace p223 := eq_true p223
    replace q223 := eq_true q223
    go_wp2
    go_roundg k1
    case measure => have := HK1.out; omega
    case rel => exact ⟨(Int.tmod (wrap64 ((wrap64 ((wrap64 (257 * x3_1)) + (wrap64 (rd l0 x4_1)))) + 1)) 1000003), (wrap64 (x4_1 + 1)), (by first | rfl | (simp; done) | (simp [*]; done)), (by first | rfl | (simp; done) | (simp [*]; done)), H', ⟨by have := HK1.out; omega⟩, by repeat (first | exact Drawn0.refl _ | apply Drawn0.step)⟩

/-! ### spec_EncodeModel: function 15 -/
def spec_EncodeModel.l0 : Nat → List Int → Int → Int → Int → Int → List (S73) → Option (List Int × Bool)
  | 0, _, _, _, _, _, _ => none
  | k + 1, x4, x5, x225000, x225001, x225002, x225003 => if x5 < (x225003.length : Int) then (if 0 ≤ x5 then ((spec_l05Put.f k x4 (([(rd_T73 x225003 x5).f0, (rd_T73 x225003 x5).f1, (rd_T73 x225003 x5).f2, (rd_T73 x225003 x5).f3, (rd_T73 x225003 x5).f4, (rd_T73 x225003 x5).f5, (rd_T73 x225003 x5).f6, (((rd_T73 x225003 x5).f7).length : Int)] : List Int))).bind fun t240 => ((spec_l05Put.f k t240 ((rd_T73 x225003 x5).f7)).bind fun t243 => ((spec_l05Put.f k t243 (([(((rd_T73 x225003 x5).f8).length : Int)] : List Int))).bind fun t249 => ((spec_l05Put.f k t249 ((rd_T73 x225003 x5).f8)).bind fun t252 => (spec_EncodeModel.l0 k t252 (wrap64 (x5 + 1)) x225000 x225001 x225002 x225003))))) else (none)) else ((spec_SumOf.f k x4).bind fun t255 => ((spec_l05Put.f k x4 (([t255] : List Int))).bind fun t259 => (if (t259.length : Int) > 6000 then (some (([] : List Int), false)) else (some (t259, true)))))
def spec_EncodeModel.f (k : Nat) (a0_0 : Int) (a0_1 : Int) (a0_2 : Int) (l0_3 : List (S73)) : Option (List Int × Bool) := (spec_ModelOk.f k a0_0 a0_1 a0_2 l0_3).bind fun t225 => (if t225 = true then ((spec_l05Put.f k (([80, 77, 49] : List Int)) (([a0_0, a0_1, a0_2, (l0_3.length : Int)] : List Int))).bind fun t232 => (if 3 < t232.length then (spec_EncodeModel.l0 k t232 0 a0_0 a0_1 a0_2 l0_3) else none)) else (some (([] : List Int), false)))
set_option maxHeartbeats 8000000 in
set_option maxRecDepth 100000 in
theorem spec_EncodeModel.calls (k : Nat) (a0_0 : Int) (a0_1 : Int) (a0_2 : Int) (A0_3 : Option Addr) (c0_3 : Nat) (l0_3 : List (S73)) (r1 : List Int) (r2 : Bool) (w : World) (hr0_3 : Kd.C k73 w A0_3 l0_3.length l0_3) (hc0_3 : l0_3.length ≤ c0_3) (h : spec_EncodeModel.f k a0_0 a0_1 a0_2 l0_3 = some (r1, r2)) :
   Calls Try.prog 15 #[.agg #[.int .i64 a0_0, .int .i64 a0_1, .int .i64 a0_2, .slice A0_3 l0_3.length c0_3]] w fun e w' => ∃ v0_ : Value, e = .returned (.tuple #[v0_, .bool r2]) ∧ Kd.R (Kd.int .u8) 5 w' w.heap.size (fun _ => True) v0_ r1 ∧ Below w.heap.size w w' := by
  have hu28 := Try.underlying28
  have hu73 := Try.underlying73
  have HR0_3 := Aside0.mk hr0_3
  have HC0_3 := Aside0.mk hc0_3
  clear hr0_3 hc0_3
  have HB := Aside0.mk (Below.refl w.heap.size w)
  have H : ((spec_ModelOk.f k a0_0 a0_1 a0_2 l0_3).bind fun t225 => (if t225 = true then ((spec_l05Put.f k (([80, 77, 49] : List Int)) (([a0_0, a0_1, a0_2, (l0_3.length : Int)] : List Int))).bind fun t232 => (if 3 < t232.length then (spec_EncodeModel.l0 k t232 0 a0_0 a0_1 a0_2 l0_3) else none)) else (some (([] : List Int), false)))) = some (r1, r2) := h
  clear h
  replace H := Option.bind_eq_some_iff.mp H
  obtain ⟨t225, A20, H⟩ := H
  (try dsimp only at H)
  have A2 := Aside0.mk A20
  clear A20
  by_cases c3 : t225 = true
  rotate_left
  ·replace c3 := Bool.eq_false_iff.mpr c3
   subst c3
   rw [if_neg (show ¬ (false = true) by decide)] at H
   simp only [Option.some.injEq, Prod.mk.injEq] at H
   obtain ⟨rfl, rfl⟩ := H
   go_enter Try.func15, Try.ntmps15
   go_wp2_with (first | ((with_reducible refine gate_dst (N := 1) rfl ?_); refine boxM 1 #[.int .i64 a0_0, .int .i64 a0_1, .int .i64 a0_2, .slice A0_3 l0_3.length c0_3] 28 ?_; intro gb224 hg w60 BK224 hb; replace HB := box_at w hb hg; obtain ⟨HB, GW224, GE224⟩ := HB; clear hb hg; have hcz61 := cells4 BK224.out) | ((with_reducible refine gate_callee (f := 56) rfl ?_); refine goesM (some 8) rfl rfl Try.func56 (by kernel_rfl) rfl #[.agg #[.int .i64 a0_0, .int .i64 a0_1, .int .i64 a0_2, .slice A0_3 l0_3.length c0_3]] rfl ?_; (with_reducible refine (spec_ModelOk.calls k a0_0 a0_1 a0_2 _ _ l0_3 false _ ?side1 ?side2 A2.out).mono ?_); (case side1 => exact C_now HR0_3.out); (case side2 => exact HC0_3.out); rintro e w62 ⟨rfl, hb⟩; refine ⟨_, rfl, ?_⟩; replace HB := bel_on w hb; replace BK224 := blk_on gb224 hb; (try clear hb)))
   go_ret2
   exact ⟨_, eqN, by first | exact Kd.R_nil _ _ _ _ _ | exact Kd.N_nil _ _ _ _ _ | exact Kd.V_nil _ _ _ _ _ | exact Kd.Q_nil _ _ _ _ _ | exact Kd.S_nil _ _ _ _ _, bel_now⟩
  subst c3
  rw [if_pos rfl] at H
  obtain ⟨y226, hy226⟩ : ∃ y_ : List Int, y_ = (([80, 77, 49] : List Int)) := ⟨_, rfl⟩
  replace H : ((spec_l05Put.f k y226 (([a0_0, a0_1, a0_2, (l0_3.length : Int)] : List Int))).bind fun t232 => (if 3 < t232.length then (spec_EncodeModel.l0 k t232 0 a0_0 a0_1 a0_2 l0_3) else none)) = some (r1, r2) := by first | (rw [hy226]; with_reducible exact H) | (have H2_ := (Option.bind_some _ _).symm.trans H; rw [hy226]; with_reducible exact H2_) | (have H2_ := (Option.bind_some _ _).symm.trans H; with_reducible exact H2_) | with_reducible exact H | (rw [hy226]; exact H) | exact H
  have Ny226 := Aside0.mk hy226
  clear hy226
  obtain ⟨y229, hy229⟩ : ∃ y_ : List Int, y_ = (([a0_0, a0_1, a0_2, (l0_3.length : Int)] : List Int)) := ⟨_, rfl⟩
  replace H : ((spec_l05Put.f k y226 y229).bind fun t232 => (if 3 < t232.length then (spec_EncodeModel.l0 k t232 0 a0_0 a0_1 a0_2 l0_3) else none)) = some (r1, r2) := by first | (rw [hy229]; with_reducible exact H) | (have H2_ := (Option.bind_some _ _).symm.trans H; rw [hy229]; with_reducible exact H2_) | (have H2_ := (Option.bind_some _ _).symm.trans H; with_reducible exact H2_) | with_reducible exact H | (rw [hy229]; exact H) | exact H
  have Ny229 := Aside0.mk hy229
  clear hy229
  replace H := Option.bind_eq_some_iff.mp H
  obtain ⟨t232, A40, H⟩ := H
  (try dsimp only at H)
  have A4 := Aside0.mk A40
  clear A40
  by_cases G3 : 3 < t232.length
  rotate_left
  ·rw [if_neg G3] at H
   exact absurd H (by simp)
  rw [if_pos G3] at H
  have kc := fun (w : World) (C : Array Value) (n c : Nat) => Lib.run_convert_bytes_const (P := Try.prog) w 22 5 C n c Try.underlying22 Try.underlying5
  have H' := Aside0.mk H
  clear H
  go_enter Try.func15, Try.ntmps15
  go_wp2_with (first | ((with_reducible refine gate_dst (N := 1) rfl ?_); refine boxM 1 #[.int .i64 a0_0, .int .i64 a0_1, .int .i64 a0_2, .slice A0_3 l0_3.length c0_3] 28 ?_; intro gb224 hg w5 BK224 hb; replace HB := box_at w hb hg; obtain ⟨HB, GW224, GE224⟩ := HB; clear hb hg; have hcz6 := cells4 BK224.out) | ((with_reducible refine gate_callee (f := 56) rfl ?_); refine goesM (some 8) rfl rfl Try.func56 (by kernel_rfl) rfl #[.agg #[.int .i64 a0_0, .int .i64 a0_1, .int .i64 a0_2, .slice A0_3 l0_3.length c0_3]] rfl ?_; (with_reducible refine (spec_ModelOk.calls k a0_0 a0_1 a0_2 _ _ l0_3 true _ ?side1 ?side2 A2.out).mono ?_); (case side1 => exact C_now HR0_3.out); (case side2 => exact HC0_3.out); rintro e w7 ⟨rfl, hb⟩; refine ⟨_, rfl, ?_⟩; replace HB := bel_on w hb; replace BK224 := blk_on gb224 hb; (try clear hb); have hcz10 := cells4 (blk_alloc BK224.out (.cells #[.int .u8 80, .int .u8 77, .int .u8 49] 5 (3, 4)))) | ((with_reducible refine gate_dst (N := 24) rfl ?_); refine Kd.R_lit (Kd.int .i64) _ 3 ?hg (N := 24) ?hd (xs := ([a0_0, a0_1, a0_2, (l0_3.length : Int)] : List Int)) (inner := [.int .i64 a0_0, .int .i64 a0_1, .int .i64 a0_2, .int .i64 (l0_3.length : Int)]) (ok := fun _ => True) (okp := fun _ => True) ?hr ?hp (fun _ hk => hk) trivial (Below.refl _ _) (Nat.le_refl _) (by simp) ?_; (case hd => rfl); (case hg => rfl); (case hr => first | (go_simp; done) | (go_simp; rfl)); (case hp => exact (Reps.one (show Kd.M (Kd.int .i64) _ _ _ a0_0 [.int .i64 a0_0] from rfl) (Reps.one (show Kd.M (Kd.int .i64) _ _ _ a0_1 [.int .i64 a0_1] from rfl) (Reps.one (show Kd.M (Kd.int .i64) _ _ _ a0_2 [.int .i64 a0_2] from rfl) (Reps.one (show Kd.M (Kd.int .i64) _ _ _ (l0_3.length : Int) [.int .i64 (l0_3.length : Int)] from rfl) (Reps.none _ _)))))); intro v230 w11 ho12 hb hg_ hnew_; clear hg_ hnew_; (first | rw [← Ny229.out] at ho12 | (simp only [Int.reduceToNat] at ho12; rw [← Ny229.out] at ho12)); have n1_ := Aside0.mk (Kd.R_lower ho12 (below_size bel_now)); have HO228 := Aside0.mk (show RL 5 true w11 w.heap.size (fun _ => True) (.slice (some ⟨w7.heap.size, 0, none⟩) 3 3) y226 by rw [Ny226.out]; exact RL.below (RL.lit HB.out.size trivial) hb); replace HB := bel_on w hb; replace BK224 := Aside0.mk (blk_below (blk_alloc BK224.out (.cells #[.int .u8 80, .int .u8 77, .int .u8 49] 5 (3, 4))) hb); have HO231 := n1_; clear n1_; clear hb ho12; obtain ⟨Ao14, co14, eo14⟩ := Kd.R_slice HO231.out; subst eo14) | ((with_reducible refine gate_callee (f := 57) rfl ?_); refine goesM (some 25) rfl rfl Try.func57 (by kernel_rfl) rfl #[.slice (some ⟨w7.heap.size, 0, none⟩) 3 3, .slice Ao14 y229.length co14] rfl ?_; (with_reducible refine (spec_l05Put.callsL true k (fun k_ => some k_ = (.slice (some ⟨w7.heap.size, 0, none⟩) 3 3 : Value).ownBlock) (.slice (some ⟨w7.heap.size, 0, none⟩) 3 3) y226 _ _ y229 t232 w _ ?side1 ?side2 ?side3 ?side4 A4.out).mono ?_); (case side1 => exact bel_now); (case side2 => exact RL.tight HO228.out); (case side3 => exact Kd.C_kept_own ((RL.apart HO231.out HO228.out (by decide))) (fun k_ hk_ hs_ => (hk_.2) hs_)); (case side4 => exact (Kd.R_reads' HO231.out).2.1); rintro e w15 ⟨v233, rfl, ho0, hb, hkp⟩; refine ⟨_, rfl, ?_⟩; have n0_ := Aside0.mk (blk_kept blk_now hkp (fun hs_ => (fun e_ => (RL.ne HO228.out BK224.out (by decide)) e_) hs_)); have n1_ := Aside0.mk (Kd.R_mono (ok' := fun k_ => True) (Kd.R_keptB ((RL.apart HO231.out HO228.out (by decide))) hkp (fun k_ hk_ hs_ => (hk_.2) hs_)) (fun k_ hk_ => trivial)); have n2_ := Aside0.mk (Kd.R_mono (ok' := fun k_ => True) (RL.long ho0 G3) (fun k_ hk_ => trivial)); have n3_ := Aside0.mk (hb); clear BK224; clear HO231; clear HB; clear HO228; have BK224 := n0_; have HO231 := n1_; have HO234 := n2_; have HB := n3_; clear n0_ n1_ n2_ n3_; (try clear hb); (try clear hkp); (try clear ho0)))
  go_loopg [4, 5] k (fun kq v4 v5 w' => ∃ (x4_1 : List Int) (x5_1 : Int), v5 = .int .i64 x5_1 ∧ Aside0 (spec_EncodeModel.l0 kq x4_1 x5_1 a0_0 a0_1 a0_2 l0_3 = some (r1, r2)) ∧ Aside0 (kq ≤ k) ∧ Aside0 (Kd.R (Kd.int .u8) 5 w' w.heap.size (fun _ => True) v4 x4_1) ∧ Aside0 (w'.heap[gb224]? = some (.cells #[.int .i64 a0_0, .int .i64 a0_1, .int .i64 a0_2, (.slice A0_3 l0_3.length c0_3)] 28 (0, 0))) ∧ Aside0 (Below w.heap.size w w'))
  case atStart => exact ⟨(t232), (0), (by first | rfl | (simp; done) | (simp [*]; done)), H', ⟨Nat.le_refl _⟩, ⟨by (with_reducible repeat (first | apply Kd.R_alloc | apply Kd.R_drewN | apply Kd.R_drew)); exact HO234.out⟩, ⟨bks BK224⟩, ⟨bel_now⟩⟩
  case round =>
   clear H'
   try clear c1
   try clear p2
   try clear c3
   try clear c5
   try clear c15
   try clear hcz10
   try clear hcz6
   obtain ⟨x4_1, x5_1, rfl, HA, HK1, HO_4, BK224, HB⟩ := hrel
   cases gk with
   | zero => exact absurd HA.out (by simp [spec_EncodeModel.l0])
   | succ k1 =>
    have H := HA.out
    clear HA
    simp only [spec_EncodeModel.l0] at H
    by_cases c16 : x5_1 < (l0_3.length : Int)
    rotate_left
    ·rw [if_neg c16] at H
     have c16b0 : decide (x5_1 < (l0_3.length : Int)) = false := decide_eq_false c16
     clear c16
     replace H := Option.bind_eq_some_iff.mp H
     obtain ⟨t255, A430, H⟩ := H
     (try dsimp only at H)
     have A43 := Aside0.mk A430
     clear A430
     obtain ⟨y256, hy256⟩ : ∃ y_ : List Int, y_ = (([t255] : List Int)) := ⟨_, rfl⟩
     replace H : ((spec_l05Put.f k1 x4_1 y256).bind fun t259 => (if (t259.length : Int) > 6000 then (some (([] : List Int), false)) else (some (t259, true)))) = some (r1, r2) := by first | (rw [hy256]; with_reducible exact H) | (have H2_ := (Option.bind_some _ _).symm.trans H; rw [hy256]; with_reducible exact H2_) | (have H2_ := (Option.bind_some _ _).symm.trans H; with_reducible exact H2_) | with_reducible exact H | (rw [hy256]; exact H) | exact H
     have Ny256 := Aside0.mk hy256
     clear hy256
     replace H := Option.bind_eq_some_iff.mp H
     obtain ⟨t259, A440, H⟩ := H
     (try dsimp only at H)
     have A44 := Aside0.mk A440
     clear A440
     by_cases c45 : (t259.length : Int) > 6000
     ·rw [if_pos c45] at H
      have c45b0 : decide (6000 < (t259.length : Int)) = true := decide_eq_true c45
      have c45b1 : decide (6000 < t259.length) = true := decide_eq_true (by omega)
      clear c45
      simp only [Option.some.injEq, Prod.mk.injEq] at H
      obtain ⟨rfl, rfl⟩ := H
      have hcz46 := cells4 BK224.out
      obtain ⟨Ao47, co47, eo47⟩ := Kd.R_slice HO_4.out
      subst eo47
      go_wp2_with (first | ((with_reducible refine gate_callee (f := 58) rfl ?_); refine goesM (some 74) rfl rfl Try.func58 (by kernel_rfl) rfl #[.slice Ao47 x4_1.length co47] rfl ?_; (with_reducible refine (spec_SumOf.calls k1 _ _ x4_1 t255 _ ?side1 ?side2 A43.out).mono ?_); (case side1 => exact (Kd.R_reads' (R_at HO_4.out)).2.2); (case side2 => exact (Kd.R_reads' HO_4.out).2.1); rintro e w' ⟨rfl, ⟨nd, rfl⟩⟩; refine ⟨_, rfl, ?_⟩) | ((with_reducible refine gate_dst (N := 75) rfl ?_); refine Kd.R_lit (Kd.int .i64) _ 3 ?hg (N := 75) ?hd (xs := ([t255] : List Int)) (inner := [.int .i64 t255]) (ok := fun _ => True) (okp := fun _ => True) ?hr ?hp (fun _ hk => hk) trivial (Below.refl _ _) (Nat.le_refl _) (by simp) ?_; (case hd => rfl); (case hg => rfl); (case hr => first | (go_simp; done) | (go_simp; rfl)); (case hp => exact (Reps.one (show Kd.M (Kd.int .i64) _ _ _ t255 [.int .i64 t255] from rfl) (Reps.none _ _))); intro v257 w48 ho49 hb hg_ hnew_; clear hg_ hnew_; (first | rw [← Ny256.out] at ho49 | (simp only [Int.reduceToNat] at ho49; rw [← Ny256.out] at ho49)); have n1_ := Aside0.mk (Kd.R_lower ho49 (below_size bel_now)); replace HO_4 := Aside0.mk (Kd.R_below (R_at HO_4.out) hb); replace HB := bel_on w hb; replace BK224 := blk_on gb224 hb; have HO258 := n1_; clear n1_; clear hb ho49; obtain ⟨Ao50, co50, eo50⟩ := Kd.R_slice HO258.out; subst eo50) | ((with_reducible refine gate_callee (f := 57) rfl ?_); refine goesM (some 76) rfl rfl Try.func57 (by kernel_rfl) rfl #[.slice Ao47 x4_1.length co47, .slice Ao50 y256.length co50] rfl ?_; (with_reducible refine (spec_l05Put.calls k1 (fun k_ => some k_ = (.slice Ao47 x4_1.length co47 : Value).ownBlock) (.slice Ao47 x4_1.length co47) x4_1 _ _ y256 t259 w _ ?side1 ?side2 ?side3 ?side4 A44.out).mono ?_); (case side1 => exact bel_now); (case side2 => exact Kd.R_tight rfl HO_4.out); (case side3 => exact Kd.C_kept_own ((Kd.R_apart' HO258.out (Kd.R_typed HO_4.out) (by decide))) (fun k_ hk_ hs_ => (hk_.2) hs_)); (case side4 => exact (Kd.R_reads' HO258.out).2.1); rintro e w51 ⟨v260, rfl, ho0, hb, hkp⟩; refine ⟨_, rfl, ?_⟩; have n0_ := Aside0.mk (blk_kept blk_now hkp (fun hs_ => (fun e_ => (Kd.R_ne HO_4.out BK224.out (by decide)) e_) hs_)); have n1_ := Aside0.mk (Kd.R_mono (ok' := fun k_ => True) (Kd.R_keptB ((Kd.R_apart' HO258.out (Kd.R_typed HO_4.out) (by decide))) hkp (fun k_ hk_ hs_ => (hk_.2) hs_)) (fun k_ hk_ => trivial)); have n2_ := Aside0.mk (Kd.R_mono (ok' := fun k_ => True) ho0 (fun k_ hk_ => trivial)); have n3_ := Aside0.mk (hb); clear BK224; clear HO258; clear HB; clear HO_4; have BK224 := n0_; have HO258 := n1_; have HO261 := n2_; have HB := n3_; clear n0_ n1_ n2_ n3_; (try clear hb); (try clear hkp); (try clear ho0); obtain ⟨Ao52, co52, eo52⟩ := Kd.R_slice HO261.out; subst eo52))
      go_ret2
      exact ⟨_, eqN, by first | exact Kd.R_nil _ _ _ _ _ | exact Kd.N_nil _ _ _ _ _ | exact Kd.V_nil _ _ _ _ _ | exact Kd.Q_nil _ _ _ _ _ | exact Kd.S_nil _ _ _ _ _, bel_now⟩
     rw [if_neg c45] at H
     have c45b0 : decide (6000 < (t259.length : Int)) = false := decide_eq_false c45
     have c45b1 : decide (6000 < t259.length) = false := decide_eq_false (by omega)
     clear c45
     simp only [Option.some.injEq, Prod.mk.injEq] at H
     obtain ⟨rfl, rfl⟩ := H
     have hcz53 := cells4 BK224.out
     obtain ⟨Ao54, co54, eo54⟩ := Kd.R_slice HO_4.out
     subst eo54
     go_wp2_with (first | ((with_reducible refine gate_callee (f := 58) rfl ?_); refine goesM (some 74) rfl rfl Try.func58 (by kernel_rfl) rfl #[.slice Ao54 x4_1.length co54] rfl ?_; (with_reducible refine (spec_SumOf.calls k1 _ _ x4_1 t255 _ ?side1 ?side2 A43.out).mono ?_); (case side1 => exact (Kd.R_reads' (R_at HO_4.out)).2.2); (case side2 => exact (Kd.R_reads' HO_4.out).2.1); rintro e w' ⟨rfl, ⟨nd, rfl⟩⟩; refine ⟨_, rfl, ?_⟩) | ((with_reducible refine gate_dst (N := 75) rfl ?_); refine Kd.R_lit (Kd.int .i64) _ 3 ?hg (N := 75) ?hd (xs := ([t255] : List Int)) (inner := [.int .i64 t255]) (ok := fun _ => True) (okp := fun _ => True) ?hr ?hp (fun _ hk => hk) trivial (Below.refl _ _) (Nat.le_refl _) (by simp) ?_; (case hd => rfl); (case hg => rfl); (case hr => first | (go_simp; done) | (go_simp; rfl)); (case hp => exact (Reps.one (show Kd.M (Kd.int .i64) _ _ _ t255 [.int .i64 t255] from rfl) (Reps.none _ _))); intro v257 w55 ho56 hb hg_ hnew_; clear hg_ hnew_; (first | rw [← Ny256.out] at ho56 | (simp only [Int.reduceToNat] at ho56; rw [← Ny256.out] at ho56)); have n1_ := Aside0.mk (Kd.R_lower ho56 (below_size bel_now)); replace HO_4 := Aside0.mk (Kd.R_below (R_at HO_4.out) hb); replace HB := bel_on w hb; replace BK224 := blk_on gb224 hb; have HO258 := n1_; clear n1_; clear hb ho56; obtain ⟨Ao57, co57, eo57⟩ := Kd.R_slice HO258.out; subst eo57) | ((with_reducible refine gate_callee (f := 57) rfl ?_); refine goesM (some 76) rfl rfl Try.func57 (by kernel_rfl) rfl #[.slice Ao54 x4_1.length co54, .slice Ao57 y256.length co57] rfl ?_; (with_reducible refine (spec_l05Put.calls k1 (fun k_ => some k_ = (.slice Ao54 x4_1.length co54 : Value).ownBlock) (.slice Ao54 x4_1.length co54) x4_1 _ _ y256 t259 w _ ?side1 ?side2 ?side3 ?side4 A44.out).mono ?_); (case side1 => exact bel_now); (case side2 => exact Kd.R_tight rfl HO_4.out); (case side3 => exact Kd.C_kept_own ((Kd.R_apart' HO258.out (Kd.R_typed HO_4.out) (by decide))) (fun k_ hk_ hs_ => (hk_.2) hs_)); (case side4 => exact (Kd.R_reads' HO258.out).2.1); rintro e w58 ⟨v260, rfl, ho0, hb, hkp⟩; refine ⟨_, rfl, ?_⟩; have n0_ := Aside0.mk (blk_kept blk_now hkp (fun hs_ => (fun e_ => (Kd.R_ne HO_4.out BK224.out (by decide)) e_) hs_)); have n1_ := Aside0.mk (Kd.R_mono (ok' := fun k_ => True) (Kd.R_keptB ((Kd.R_apart' HO258.out (Kd.R_typed HO_4.out) (by decide))) hkp (fun k_ hk_ hs_ => (hk_.2) hs_)) (fun k_ hk_ => trivial)); have n2_ := Aside0.mk (Kd.R_mono (ok' := fun k_ => True) ho0 (fun k_ hk_ => trivial)); have n3_ := Aside0.mk (hb); clear BK224; clear HO258; clear HB; clear HO_4; have BK224 := n0_; have HO258 := n1_; have HO261 := n2_; have HB := n3_; clear n0_ n1_ n2_ n3_; (try clear hb); (try clear hkp); (try clear ho0); obtain ⟨Ao59, co59, eo59⟩ := Kd.R_slice HO261.out; subst eo59))
     go_ret2
     exact ⟨_, eqN, by (with_reducible repeat (first | apply Kd.R_alloc | apply Kd.R_drewN | apply Kd.R_drew)); exact HO261.out, bel_now⟩
    rw [if_pos c16] at H
    have c16b0 : decide (x5_1 < (l0_3.length : Int)) = true := decide_eq_true c16
    clear c16
    by_cases c17 : 0 ≤ x5_1
    rotate_left
    ·rw [if_neg c17] at H
     exact absurd H (by simp)
    rw [if_pos c17] at H
    have c17b0 : decide (0 ≤ x5_1) = true := decide_eq_true c17
    clear c17
    obtain ⟨y237, hy237⟩ : ∃ y_ : List Int, y_ = (([(rd_T73 l0_3 x5_1).f0, (rd_T73 l0_3 x5_1).f1, (rd_T73 l0_3 x5_1).f2, (rd_T73 l0_3 x5_1).f3, (rd_T73 l0_3 x5_1).f4, (rd_T73 l0_3 x5_1).f5, (rd_T73 l0_3 x5_1).f6, (((rd_T73 l0_3 x5_1).f7).length : Int)] : List Int)) := ⟨_, rfl⟩
    replace H : ((spec_l05Put.f k1 x4_1 y237).bind fun t240 => ((spec_l05Put.f k1 t240 ((rd_T73 l0_3 x5_1).f7)).bind fun t243 => ((spec_l05Put.f k1 t243 (([(((rd_T73 l0_3 x5_1).f8).length : Int)] : List Int))).bind fun t249 => ((spec_l05Put.f k1 t249 ((rd_T73 l0_3 x5_1).f8)).bind fun t252 => (spec_EncodeModel.l0 k1 t252 (wrap64 (x5_1 + 1)) a0_0 a0_1 a0_2 l0_3))))) = some (r1, r2) := by first | (rw [hy237]; with_reducible exact H) | (have H2_ := (Option.bind_some _ _).symm.trans H; rw [hy237]; with_reducible exact H2_) | (have H2_ := (Option.bind_some _ _).symm.trans H; with_reducible exact H2_) | with_reducible exact H | (rw [hy237]; exact H) | exact H
    have Ny237 := Aside0.mk hy237
    clear hy237
    replace H := Option.bind_eq_some_iff.mp H
    obtain ⟨t240, A180, H⟩ := H
    (try dsimp only at H)
    have A18 := Aside0.mk A180
    clear A180
    replace H := Option.bind_eq_some_iff.mp H
    obtain ⟨t243, A190, H⟩ := H
    (try dsimp only at H)
    have A19 := Aside0.mk A190
    clear A190
    obtain ⟨y246, hy246⟩ : ∃ y_ : List Int, y_ = (([(((rd_T73 l0_3 x5_1).f8).length : Int)] : List Int)) := ⟨_, rfl⟩
    replace H : ((spec_l05Put.f k1 t243 y246).bind fun t249 => ((spec_l05Put.f k1 t249 ((rd_T73 l0_3 x5_1).f8)).bind fun t252 => (spec_EncodeModel.l0 k1 t252 (wrap64 (x5_1 + 1)) a0_0 a0_1 a0_2 l0_3))) = some (r1, r2) := by first | (rw [hy246]; with_reducible exact H) | (have H2_ := (Option.bind_some _ _).symm.trans H; rw [hy246]; with_reducible exact H2_) | (have H2_ := (Option.bind_some _ _).symm.trans H; with_reducible exact H2_) | with_reducible exact H | (rw [hy246]; exact H) | exact H
    have Ny246 := Aside0.mk hy246
    clear hy246
    replace H := Option.bind_eq_some_iff.mp H
    obtain ⟨t249, A200, H⟩ := H
    (try dsimp only at H)
    have A20 := Aside0.mk A200
    clear A200
    replace H := Option.bind_eq_some_iff.mp H
    obtain ⟨t252, A210, H⟩ := H
    (try dsimp only at H)
    have A21 := Aside0.mk A210
    clear A210
    have H' := Aside0.mk H
    clear H
    have hcz22 := cells4 BK224.out
    have p235 : 0 ≤ (x5_1 : Int) := of_decide_eq_true (by first | (with_reducible assumption) | assumption)
    have q235 : x5_1 < (l0_3.length : Int) := of_decide_eq_true (by first | (with_reducible assumption) | assumption)
    obtain ⟨ad235, A235_7, c235_7, A235_8, c235_8, e235, hx235_0, hx235_1, hx235_2, hx235_3, hx235_4, hx235_5, hx235_6, hx235_7, hx235_8, hl235_7, hi235_7, hl235_8, hi235_8⟩ := at_T73 HR0_3.out x5_1 p235 q235
    cases e235
    replace hx235_0 := (HB.out.cell (World.block_lt_of_cell? w _ hx235_0)).trans hx235_0
    replace hx235_1 := (HB.out.cell (World.block_lt_of_cell? w _ hx235_1)).trans hx235_1
    replace hx235_2 := (HB.out.cell (World.block_lt_of_cell? w _ hx235_2)).trans hx235_2
    replace hx235_3 := (HB.out.cell (World.block_lt_of_cell? w _ hx235_3)).trans hx235_3
    replace hx235_4 := (HB.out.cell (World.block_lt_of_cell? w _ hx235_4)).trans hx235_4
    replace hx235_5 := (HB.out.cell (World.block_lt_of_cell? w _ hx235_5)).trans hx235_5
    replace hx235_6 := (HB.out.cell (World.block_lt_of_cell? w _ hx235_6)).trans hx235_6
    replace hx235_7 := (HB.out.cell (World.block_lt_of_cell? w _ hx235_7)).trans hx235_7
    replace hx235_8 := (HB.out.cell (World.block_lt_of_cell? w _ hx235_8)).trans hx235_8
    have HR235_7 := Aside0.mk hi235_7
    have HC235_7 := Aside0.mk hl235_7
    clear hi235_7 hl235_7
    have HR235_8 := Aside0.mk hi235_8
    have HC235_8 := Aside0.mk hl235_8
    clear hi235_8 hl235_8
    replace p235 := eq_true p235
    replace q235 := eq_true q235
    go_wp2_with (first | ((with_reducible refine gate_dst (N := 6) rfl ?_); refine boxM 6 #[.int .i64 0, .int .i64 0, .int .i64 0, .int .i64 0, .int .i64 0, .int .i64 0, .int .i64 0, .slice none 0 0, .slice none 0 0] 73 ?_; intro gb236 hg w23 BK236 hb; replace HB := box_at w hb hg; obtain ⟨HB, GW236, GE236⟩ := HB; replace BK224 := box_on gb224 hb hg; obtain ⟨BK224, NB224_236, NB236_224⟩ := BK224; replace HO_4 := Aside0.mk (Kd.R_below (R_at HO_4.out) hb); clear hb hg; have hn24 := ne2 NB236_224; have hcz25 := cells9 BK236.out) | ((with_reducible refine gate_dst (N := 56) rfl ?_); refine Kd.R_lit (Kd.int .i64) _ 3 ?hg (N := 56) ?hd (xs := ([(rd_T73 l0_3 x5_1).f0, (rd_T73 l0_3 x5_1).f1, (rd_T73 l0_3 x5_1).f2, (rd_T73 l0_3 x5_1).f3, (rd_T73 l0_3 x5_1).f4, (rd_T73 l0_3 x5_1).f5, (rd_T73 l0_3 x5_1).f6, (((rd_T73 l0_3 x5_1).f7).length : Int)] : List Int)) (inner := [.int .i64 ((rd_T73 l0_3 x5_1).f0), .int .i64 ((rd_T73 l0_3 x5_1).f1), .int .i64 ((rd_T73 l0_3 x5_1).f2), .int .i64 ((rd_T73 l0_3 x5_1).f3), .int .i64 ((rd_T73 l0_3 x5_1).f4), .int .i64 ((rd_T73 l0_3 x5_1).f5), .int .i64 ((rd_T73 l0_3 x5_1).f6), .int .i64 (((rd_T73 l0_3 x5_1).f7).length : Int)]) (ok := fun _ => True) (okp := fun _ => True) ?hr ?hp (fun _ hk => hk) trivial (Below.refl _ _) (Nat.le_refl _) (by simp) ?_; (case hd => rfl); (case hg => rfl); (case hr => first | (go_simp; done) | (go_simp; rfl)); (case hp => exact (Reps.one (show Kd.M (Kd.int .i64) _ _ _ ((rd_T73 l0_3 x5_1).f0) [.int .i64 ((rd_T73 l0_3 x5_1).f0)] from rfl) (Reps.one (show Kd.M (Kd.int .i64) _ _ _ ((rd_T73 l0_3 x5_1).f1) [.int .i64 ((rd_T73 l0_3 x5_1).f1)] from rfl) (Reps.one (show Kd.M (Kd.int .i64) _ _ _ ((rd_T73 l0_3 x5_1).f2) [.int .i64 ((rd_T73 l0_3 x5_1).f2)] from rfl) (Reps.one (show Kd.M (Kd.int .i64) _ _ _ ((rd_T73 l0_3 x5_1).f3) [.int .i64 ((rd_T73 l0_3 x5_1).f3)] from rfl) (Reps.one (show Kd.M (Kd.int .i64) _ _ _ ((rd_T73 l0_3 x5_1).f4) [.int .i64 ((rd_T73 l0_3 x5_1).f4)] from rfl) (Reps.one (show Kd.M (Kd.int .i64) _ _ _ ((rd_T73 l0_3 x5_1).f5) [.int .i64 ((rd_T73 l0_3 x5_1).f5)] from rfl) (Reps.one (show Kd.M (Kd.int .i64) _ _ _ ((rd_T73 l0_3 x5_1).f6) [.int .i64 ((rd_T73 l0_3 x5_1).f6)] from rfl) (Reps.one (show Kd.M (Kd.int .i64) _ _ _ (((rd_T73 l0_3 x5_1).f7).length : Int) [.int .i64 (((rd_T73 l0_3 x5_1).f7).length : Int)] from rfl) (Reps.none _ _)))))))))); intro v238 w26 ho27 hb hg_ hnew_; clear hg_ hnew_; (first | rw [← Ny237.out] at ho27 | (simp only [Int.reduceToNat] at ho27; rw [← Ny237.out] at ho27)); have n0_ := Aside0.mk (Kd.R_below (R_at (R_far9 HO_4.out BK236.out (by decide))) hb); have n1_ := Aside0.mk (Kd.R_lower ho27 (below_size bel_now)); replace HB := bel_on w hb; replace BK224 := Aside0.mk (blk_below (g := gb224) (o := .cells #[.int .i64 a0_0, .int .i64 a0_1, .int .i64 a0_2, .slice (some ad235) l0_3.length c0_3] 28 (0, 0)) (blk_fars BK224.out) hb); replace BK236 := Aside0.mk (blk_below (g := gb236) (o := .cells #[.int .i64 ((rd_T73 l0_3 x5_1).f0), .int .i64 ((rd_T73 l0_3 x5_1).f1), .int .i64 ((rd_T73 l0_3 x5_1).f2), .int .i64 ((rd_T73 l0_3 x5_1).f3), .int .i64 ((rd_T73 l0_3 x5_1).f4), .int .i64 ((rd_T73 l0_3 x5_1).f5), .int .i64 ((rd_T73 l0_3 x5_1).f6), .slice A235_7 ((rd_T73 l0_3 x5_1).f7).length c235_7, .slice A235_8 ((rd_T73 l0_3 x5_1).f8).length c235_8] 73 (0, 0)) (by (with_reducible repeat (first | refine blk_drewN ?_ _ | refine blk_drew ?_ | refine blk_alloc ?_ _)); first | exact putl9 BK236.out | exact blk_fars (putl9 BK236.out)) hb); clear HO_4; have HO_4 := n0_; have HO239 := n1_; clear n0_ n1_; clear hb ho27; obtain ⟨Ao28, co28, eo28⟩ := Kd.R_slice HO_4.out; subst eo28; obtain ⟨Ao29, co29, eo29⟩ := Kd.R_slice HO239.out; subst eo29) | ((with_reducible refine gate_callee (f := 57) rfl ?_); refine goesM (some 57) rfl rfl Try.func57 (by kernel_rfl) rfl #[.slice Ao28 x4_1.length co28, .slice Ao29 y237.length co29] rfl ?_; (with_reducible refine (spec_l05Put.calls k1 (fun k_ => some k_ = (.slice Ao28 x4_1.length co28 : Value).ownBlock) (.slice Ao28 x4_1.length co28) x4_1 _ _ y237 t240 w _ ?side1 ?side2 ?side3 ?side4 A18.out).mono ?_); (case side1 => exact bel_now); (case side2 => exact Kd.R_tight rfl HO_4.out); (case side3 => exact Kd.C_kept_own ((Kd.R_apart' HO239.out (Kd.R_typed HO_4.out) (by decide))) (fun k_ hk_ hs_ => (hk_.2) hs_)); (case side4 => exact (Kd.R_reads' HO239.out).2.1); rintro e w30 ⟨v241, rfl, ho0, hb, hkp⟩; refine ⟨_, rfl, ?_⟩; have n0_ := Aside0.mk (blk_kept blk_now hkp (fun hs_ => (fun e_ => (Kd.R_ne HO_4.out BK224.out (by decide)) e_) hs_)); have n1_ := Aside0.mk (blk_kept blk_now hkp (fun hs_ => (fun e_ => (Kd.R_ne HO_4.out BK236.out (by decide)) e_) hs_)); have n2_ := Aside0.mk (Kd.R_mono (ok' := fun k_ => True) (Kd.R_keptB ((Kd.R_apart' HO239.out (Kd.R_typed HO_4.out) (by decide))) hkp (fun k_ hk_ hs_ => (hk_.2) hs_)) (fun k_ hk_ => trivial)); have n3_ := Aside0.mk (Kd.R_mono (ok' := fun k_ => True) ho0 (fun k_ hk_ => trivial)); have n4_ := Aside0.mk (hb); clear BK224; clear BK236; clear HO239; clear HB; clear HO_4; have BK224 := n0_; have BK236 := n1_; have HO239 := n2_; have HO242 := n3_; have HB := n4_; clear n0_ n1_ n2_ n3_ n4_; (try clear hb); (try clear hkp); (try clear ho0); have hcz31 := cells9 BK236.out; obtain ⟨Ao32, co32, eo32⟩ := Kd.R_slice HO242.out; subst eo32) | ((with_reducible refine gate_callee (f := 57) rfl ?_); refine goesM (some 61) rfl rfl Try.func57 (by kernel_rfl) rfl #[.slice Ao32 t240.length co32, .slice A235_7 ((rd_T73 l0_3 x5_1).f7).length c235_7] rfl ?_; (with_reducible refine (spec_l05Put.calls k1 (fun k_ => some k_ = (.slice Ao32 t240.length co32 : Value).ownBlock) (.slice Ao32 t240.length co32) t240 _ _ ((rd_T73 l0_3 x5_1).f7) t243 w _ ?side1 ?side2 ?side3 ?side4 A19.out).mono ?_); (case side1 => exact bel_now); (case side2 => exact Kd.R_tight rfl HO242.out); (case side3 => exact Kd.C_kept_came (Kd.heap_int .i64) HR235_7.out bel_now (fun k_ hs_ => (fun e_ => Kd.R_base HO242.out k_ e_.symm) hs_)); (case side4 => exact HC235_7.out); rintro e w33 ⟨v244, rfl, ho0, hb, hkp⟩; refine ⟨_, rfl, ?_⟩; have n0_ := Aside0.mk (blk_kept blk_now hkp (fun hs_ => (fun e_ => (Kd.R_ne HO242.out BK224.out (by decide)) e_) hs_)); have n1_ := Aside0.mk (blk_kept blk_now hkp (fun hs_ => (fun e_ => (Kd.R_ne HO242.out BK236.out (by decide)) e_) hs_)); have n2_ := Aside0.mk (Kd.R_mono (ok' := fun k_ => True) (Kd.R_keptB ((Kd.R_apart' HO239.out (Kd.R_typed HO242.out) (by decide))) hkp (fun k_ hk_ hs_ => (hk_.2) hs_)) (fun k_ hk_ => trivial)); have n3_ := Aside0.mk (Kd.R_mono (ok' := fun k_ => True) ho0 (fun k_ hk_ => trivial)); have n4_ := Aside0.mk (hb); clear BK224; clear BK236; clear HO239; clear HB; clear HO242; have BK224 := n0_; have BK236 := n1_; have HO239 := n2_; have HO245 := n3_; have HB := n4_; clear n0_ n1_ n2_ n3_ n4_; (try clear hb); (try clear hkp); (try clear ho0); have hcz34 := cells9 BK236.out) | ((with_reducible refine gate_dst (N := 66) rfl ?_); refine Kd.R_lit (Kd.int .i64) _ 3 ?hg (N := 66) ?hd (xs := ([(((rd_T73 l0_3 x5_1).f8).length : Int)] : List Int)) (inner := [.int .i64 (((rd_T73 l0_3 x5_1).f8).length : Int)]) (ok := fun _ => True) (okp := fun _ => True) ?hr ?hp (fun _ hk => hk) trivial (Below.refl _ _) (Nat.le_refl _) (by simp) ?_; (case hd => rfl); (case hg => rfl); (case hr => first | (go_simp; done) | (go_simp; rfl)); (case hp => exact (Reps.one (show Kd.M (Kd.int .i64) _ _ _ (((rd_T73 l0_3 x5_1).f8).length : Int) [.int .i64 (((rd_T73 l0_3 x5_1).f8).length : Int)] from rfl) (Reps.none _ _))); intro v247 w35 ho36 hb hg_ hnew_; clear hg_ hnew_; (first | rw [← Ny246.out] at ho36 | (simp only [Int.reduceToNat] at ho36; rw [← Ny246.out] at ho36)); have n2_ := Aside0.mk (Kd.R_lower (Kd.R_new' ho36 (Kd.R_lt (R_at HO239.out))) (below_size bel_now)); replace HO239 := Aside0.mk (Kd.R_elder' (R_at HO239.out) (Kd.R_base ho36) hb); replace HO245 := Aside0.mk (Kd.R_below (R_at HO245.out) hb); replace HB := bel_on w hb; replace BK224 := blk_on gb224 hb; replace BK236 := blk_on gb236 hb; have HO248 := n2_; clear n2_; clear hb ho36; obtain ⟨Ao37, co37, eo37⟩ := Kd.R_slice HO245.out; subst eo37; obtain ⟨Ao38, co38, eo38⟩ := Kd.R_slice HO248.out; subst eo38) | ((with_reducible refine gate_callee (f := 57) rfl ?_); refine goesM (some 67) rfl rfl Try.func57 (by kernel_rfl) rfl #[.slice Ao37 t243.length co37, .slice Ao38 y246.length co38] rfl ?_; (with_reducible refine (spec_l05Put.calls k1 (fun k_ => some k_ = (.slice Ao37 t243.length co37 : Value).ownBlock) (.slice Ao37 t243.length co37) t243 _ _ y246 t249 w _ ?side1 ?side2 ?side3 ?side4 A20.out).mono ?_); (case side1 => exact bel_now); (case side2 => exact Kd.R_tight rfl HO245.out); (case side3 => exact Kd.C_kept_own ((Kd.R_apart' HO248.out (Kd.R_typed HO245.out) (by decide))) (fun k_ hk_ hs_ => (hk_.2) hs_)); (case side4 => exact (Kd.R_reads' HO248.out).2.1); rintro e w39 ⟨v250, rfl, ho0, hb, hkp⟩; refine ⟨_, rfl, ?_⟩; have n0_ := Aside0.mk (blk_kept blk_now hkp (fun hs_ => (fun e_ => (Kd.R_ne HO245.out BK224.out (by decide)) e_) hs_)); have n1_ := Aside0.mk (blk_kept blk_now hkp (fun hs_ => (fun e_ => (Kd.R_ne HO245.out BK236.out (by decide)) e_) hs_)); have n2_ := Aside0.mk (Kd.R_mono (ok' := fun k_ => nb k_ Ao38 y246.length co38) (Kd.R_keptB ((Kd.R_apart' HO239.out (Kd.R_typed HO245.out) (by decide))) hkp (fun k_ hk_ hs_ => (hk_.2) hs_)) (fun k_ hk_ => hk_.1.1.2)); have n3_ := Aside0.mk (Kd.R_mono (ok' := fun k_ => nb k_ Ao29 y237.length co29) (Kd.R_keptB ((Kd.R_apart' HO248.out (Kd.R_typed HO245.out) (by decide))) hkp (fun k_ hk_ hs_ => (hk_.2) hs_)) (fun k_ hk_ => hk_.1.1.2)); have n4_ := Aside0.mk (Kd.R_mono (ok' := fun k_ => True) ho0 (fun k_ hk_ => trivial)); have n5_ := Aside0.mk (hb); clear BK224; clear BK236; clear HO239; clear HO248; clear HB; clear HO245; have BK224 := n0_; have BK236 := n1_; have HO239 := n2_; have HO248 := n3_; have HO251 := n4_; have HB := n5_; clear n0_ n1_ n2_ n3_ n4_ n5_; (try clear hb); (try clear hkp); (try clear ho0); have hcz40 := cells9 BK236.out; obtain ⟨Ao41, co41, eo41⟩ := Kd.R_slice HO251.out; subst eo41) | ((with_reducible refine gate_callee (f := 57) rfl ?_); refine goesM (some 71) rfl rfl Try.func57 (by kernel_rfl) rfl #[.slice Ao41 t249.length co41, .slice A235_8 ((rd_T73 l0_3 x5_1).f8).length c235_8] rfl ?_; (with_reducible refine (spec_l05Put.calls k1 (fun k_ => some k_ = (.slice Ao41 t249.length co41 : Value).ownBlock) (.slice Ao41 t249.length co41) t249 _ _ ((rd_T73 l0_3 x5_1).f8) t252 w _ ?side1 ?side2 ?side3 ?side4 A21.out).mono ?_); (case side1 => exact bel_now); (case side2 => exact Kd.R_tight rfl HO251.out); (case side3 => exact Kd.C_kept_came (Kd.heap_int .i64) HR235_8.out bel_now (fun k_ hs_ => (fun e_ => Kd.R_base HO251.out k_ e_.symm) hs_)); (case side4 => exact HC235_8.out); rintro e w42 ⟨v253, rfl, ho0, hb, hkp⟩; refine ⟨_, rfl, ?_⟩; have n0_ := Aside0.mk (blk_kept blk_now hkp (fun hs_ => (fun e_ => (Kd.R_ne HO251.out BK224.out (by decide)) e_) hs_)); have n1_ := Aside0.mk (blk_kept blk_now hkp (fun hs_ => (fun e_ => (Kd.R_ne HO251.out BK236.out (by decide)) e_) hs_)); have n2_ := Aside0.mk (Kd.R_mono (ok' := fun k_ => nb k_ Ao38 y246.length co38) (Kd.R_keptB ((Kd.R_apart' HO239.out (Kd.R_typed HO251.out) (by decide))) hkp (fun k_ hk_ hs_ => (hk_.2) hs_)) (fun k_ hk_ => hk_.1.1)); have n3_ := Aside0.mk (Kd.R_mono (ok' := fun k_ => nb k_ Ao29 y237.length co29) (Kd.R_keptB ((Kd.R_apart' HO248.out (Kd.R_typed HO251.out) (by decide))) hkp (fun k_ hk_ hs_ => (hk_.2) hs_)) (fun k_ hk_ => hk_.1.1)); have n4_ := Aside0.mk (Kd.R_mono (ok' := fun k_ => True) ho0 (fun k_ hk_ => trivial)); have n5_ := Aside0.mk (hb); clear BK224; clear BK236; clear HO239; clear HO248; clear HB; clear HO251; have BK224 := n0_; have BK236 := n1_; have HO239 := n2_; have HO248 := n3_; have HO254 := n4_; have HB := n5_; clear n0_ n1_ n2_ n3_ n4_ n5_; (try clear hb); (try clear hkp); (try clear ho0)))
    go_roundg k1
    case measure => have := HK1.out; omega
    case rel => exact ⟨(t252), (wrap64 (x5_1 + 1)), (by first | rfl | (simp; done) | (simp [*]; done)), H', ⟨by have := HK1.out; omega⟩, ⟨by (with_reducible repeat (first | apply Kd.R_alloc | apply Kd.R_drewN | apply Kd.R_drew)); exact HO254.out⟩, ⟨bks BK224⟩, ⟨bel_now⟩⟩

/-! ### impl_in: function 82 -/
def impl_in.f (a0 : Int) (a1 : Int) (a2 : Int) : Option (Bool) := if a1 ≤ a0 then (some (decide (a0 ≤ a2))) else (some false)
set_option maxHeartbeats 8000000 in
set_option maxRecDepth 100000 in
theorem impl_in.calls (a0 : Int) (a1 : Int) (a2 : Int) (r : Bool) (w : World) (h : impl_in.f a0 a1 a2 = some r) :
   Calls Try.prog 82 #[.int .i64 a0, .int .i64 a1, .int .i64 a2] w fun e w' => e = .returned (.bool r) ∧ Drawn0 w w' := by
  have H : (if a1 ≤ a0 then (some (decide (a0 ≤ a2))) else (some false)) = some r := h
  clear h
  by_cases c4 : a1 ≤ a0
  ·rw [if_pos c4] at H
   have c4b0 : decide (a1 ≤ a0) = true := decide_eq_true c4
   clear c4
   obtain rfl := Option.some.inj H
   go_enter Try.func82, Try.ntmps82
   go_wp2
   go_ret
   exact ⟨by first | rfl | (simp; done) | (simp [*]; done), by repeat (first | exact Drawn0.refl _ | apply Drawn0.step)⟩
  rw [if_neg c4] at H
  have c4b0 : decide (a1 ≤ a0) = false := decide_eq_false c4
  clear c4
  obtain rfl := Option.some.inj H
  go_enter Try.func82, Try.ntmps82
  go_wp2
  go_ret
  exact ⟨by first | rfl | (simp; done) | (simp [*]; done), by repeat (first | exact Drawn0.refl _ | apply Drawn0.step)⟩

/-! ### impl_ShapeOk: function 107 -/
def impl_ShapeOk.f (a0_0 : Int) (a0_1 : Int) (a0_2 : Int) : Option (Bool) := (impl_in.f a0_0 1 8).bind fun t263 => (if t263 = true then ((impl_in.f a0_1 1 8).bind fun t264 => (if t264 = true then ((impl_in.f a0_2 1 8).bind fun t265 => (some t265)) else (some false))) else (some false))
set_option maxHeartbeats 8000000 in
set_option maxRecDepth 100000 in
theorem impl_ShapeOk.calls (a0_0 : Int) (a0_1 : Int) (a0_2 : Int) (r : Bool) (w : World) (h : impl_ShapeOk.f a0_0 a0_1 a0_2 = some r) :
   Calls Try.prog 107 #[.agg #[.int .i64 a0_0, .int .i64 a0_1, .int .i64 a0_2]] w fun e w' => e = .returned (.bool r) ∧ Below w.heap.size w w' := by
  have hu25 := Try.underlying25
  have HB := Aside0.mk (Below.refl w.heap.size w)
  have H : ((impl_in.f a0_0 1 8).bind fun t263 => (if t263 = true then ((impl_in.f a0_1 1 8).bind fun t264 => (if t264 = true then ((impl_in.f a0_2 1 8).bind fun t265 => (some t265)) else (some false))) else (some false))) = some r := h
  clear h
  replace H := Option.bind_eq_some_iff.mp H
  obtain ⟨t263, A20, H⟩ := H
  (try dsimp only at H)
  have A2 := Aside0.mk A20
  clear A20
  by_cases c3 : t263 = true
  rotate_left
  ·replace c3 := Bool.eq_false_iff.mpr c3
   subst c3
   rw [if_neg (show ¬ (false = true) by decide)] at H
   obtain rfl := Option.some.inj H
   go_enter Try.func107, Try.ntmps107
   go_wp2_with (first | ((with_reducible refine gate_dst (N := 1) rfl ?_); refine boxM 1 #[.int .i64 a0_0, .int .i64 a0_1, .int .i64 a0_2] 25 ?_; intro gb262 hg w11 BK262 hb; replace HB := box_at w hb hg; obtain ⟨HB, GW262, GE262⟩ := HB; clear hb hg; have hcz12 := cells3 BK262.out) | ((with_reducible refine gate_callee (f := 82) rfl ?_); refine goesM (some 5) rfl rfl Try.func82 (by kernel_rfl) rfl #[.int .i64 a0_0, .int .i64 1, .int .i64 8] rfl ?_; (with_reducible refine (impl_in.calls a0_0 1 8 false _ A2.out).mono ?_); rintro e w' ⟨rfl, ⟨nd, rfl⟩⟩; refine ⟨_, rfl, ?_⟩))
   go_ret
   exact ⟨eqN, bel_now⟩
  subst c3
  rw [if_pos rfl] at H
  replace H := Option.bind_eq_some_iff.mp H
  obtain ⟨t264, A40, H⟩ := H
  (try dsimp only at H)
  have A4 := Aside0.mk A40
  clear A40
  by_cases c5 : t264 = true
  rotate_left
  ·replace c5 := Bool.eq_false_iff.mpr c5
   subst c5
   rw [if_neg (show ¬ (false = true) by decide)] at H
   obtain rfl := Option.some.inj H
   go_enter Try.func107, Try.ntmps107
   go_wp2_with (first | ((with_reducible refine gate_dst (N := 1) rfl ?_); refine boxM 1 #[.int .i64 a0_0, .int .i64 a0_1, .int .i64 a0_2] 25 ?_; intro gb262 hg w9 BK262 hb; replace HB := box_at w hb hg; obtain ⟨HB, GW262, GE262⟩ := HB; clear hb hg; have hcz10 := cells3 BK262.out) | ((with_reducible refine gate_callee (f := 82) rfl ?_); refine goesM (some 5) rfl rfl Try.func82 (by kernel_rfl) rfl #[.int .i64 a0_0, .int .i64 1, .int .i64 8] rfl ?_; (with_reducible refine (impl_in.calls a0_0 1 8 true _ A2.out).mono ?_); rintro e w' ⟨rfl, ⟨nd, rfl⟩⟩; refine ⟨_, rfl, ?_⟩) | (go_at_call 82; (with_reducible refine (impl_in.calls a0_1 1 8 false _ A4.out).mono ?_); rintro e w' ⟨rfl, ⟨nd, rfl⟩⟩))
   go_ret
   exact ⟨eqN, bel_now⟩
  subst c5
  rw [if_pos rfl] at H
  replace H := Option.bind_eq_some_iff.mp H
  obtain ⟨t265, A60, H⟩ := H
  (try dsimp only at H)
  have A6 := Aside0.mk A60
  clear A60
  obtain rfl := Option.some.inj H
  go_enter Try.func107, Try.ntmps107
  go_wp2_with (first | ((with_reducible refine gate_dst (N := 1) rfl ?_); refine boxM 1 #[.int .i64 a0_0, .int .i64 a0_1, .int .i64 a0_2] 25 ?_; intro gb262 hg w7 BK262 hb; replace HB := box_at w hb hg; obtain ⟨HB, GW262, GE262⟩ := HB; clear hb hg; have hcz8 := cells3 BK262.out) | ((with_reducible refine gate_callee (f := 82) rfl ?_); refine goesM (some 5) rfl rfl Try.func82 (by kernel_rfl) rfl #[.int .i64 a0_0, .int .i64 1, .int .i64 8] rfl ?_; (with_reducible refine (impl_in.calls a0_0 1 8 true _ A2.out).mono ?_); rintro e w' ⟨rfl, ⟨nd, rfl⟩⟩; refine ⟨_, rfl, ?_⟩) | (go_at_call 82; (with_reducible refine (impl_in.calls a0_1 1 8 true _ A4.out).mono ?_); rintro e w' ⟨rfl, ⟨nd, rfl⟩⟩) | (go_at_call 82; (with_reducible refine (impl_in.calls a0_2 1 8 t265 _ A6.out).mono ?_); rintro e w' ⟨rfl, ⟨nd, rfl⟩⟩))
  go_ret
  exact ⟨eqN, bel_now⟩

/-! ### impl_SizeOf: function 103 -/
def impl_SizeOf.f (a0_0 : Int) (a0_1 : Int) (a0_2 : Int) : Option (Int) := (impl_ShapeOk.f a0_0 a0_1 a0_2).bind fun t267 => (if t267 = true then (some (wrap64 ((wrap64 (a0_0 * a0_1)) * a0_2))) else (some 0))
set_option maxHeartbeats 8000000 in
set_option maxRecDepth 100000 in
theorem impl_SizeOf.calls (a0_0 : Int) (a0_1 : Int) (a0_2 : Int) (r : Int) (w : World) (h : impl_SizeOf.f a0_0 a0_1 a0_2 = some r) :
   Calls Try.prog 103 #[.agg #[.int .i64 a0_0, .int .i64 a0_1, .int .i64 a0_2]] w fun e w' => e = .returned (.int .i64 r) ∧ Below w.heap.size w w' := by
  have hu25 := Try.underlying25
  have HB := Aside0.mk (Below.refl w.heap.size w)
  have H : ((impl_ShapeOk.f a0_0 a0_1 a0_2).bind fun t267 => (if t267 = true then (some (wrap64 ((wrap64 (a0_0 * a0_1)) * a0_2))) else (some 0))) = some r := h
  clear h
  replace H := Option.bind_eq_some_iff.mp H
  obtain ⟨t267, A20, H⟩ := H
  (try dsimp only at H)
  have A2 := Aside0.mk A20
  clear A20
  by_cases c3 : t267 = true
  ·subst c3
   rw [if_pos rfl] at H
   obtain rfl := Option.some.inj H
   go_enter Try.func103, Try.ntmps103
   go_wp2_with (first | ((with_reducible refine gate_dst (N := 1) rfl ?_); refine boxM 1 #[.int .i64 a0_0, .int .i64 a0_1, .int .i64 a0_2] 25 ?_; intro gb266 hg w4 BK266 hb; replace HB := box_at w hb hg; obtain ⟨HB, GW266, GE266⟩ := HB; clear hb hg; have hcz5 := cells3 BK266.out) | ((with_reducible refine gate_callee (f := 107) rfl ?_); refine goesM (some 4) rfl rfl Try.func107 (by kernel_rfl) rfl #[.agg #[.int .i64 a0_0, .int .i64 a0_1, .int .i64 a0_2]] rfl ?_; (with_reducible refine (impl_ShapeOk.calls a0_0 a0_1 a0_2 true _ A2.out).mono ?_); rintro e w6 ⟨rfl, hb⟩; refine ⟨_, rfl, ?_⟩; replace HB := bel_on w hb; replace BK266 := blk_on gb266 hb; (try clear hb); have hcz7 := cells3 BK266.out))
   go_ret
   exact ⟨eqN, bel_now⟩
  replace c3 := Bool.eq_false_iff.mpr c3
  subst c3
  rw [if_neg (show ¬ (false = true) by decide)] at H
  obtain rfl := Option.some.inj H
  go_enter Try.func103, Try.ntmps103
  go_wp2_with (first | ((with_reducible refine gate_dst (N := 1) rfl ?_); refine boxM 1 #[.int .i64 a0_0, .int .i64 a0_1, .int .i64 a0_2] 25 ?_; intro gb266 hg w8 BK266 hb; replace HB := box_at w hb hg; obtain ⟨HB, GW266, GE266⟩ := HB; clear hb hg; have hcz9 := cells3 BK266.out) | ((with_reducible refine gate_callee (f := 107) rfl ?_); refine goesM (some 4) rfl rfl Try.func107 (by kernel_rfl) rfl #[.agg #[.int .i64 a0_0, .int .i64 a0_1, .int .i64 a0_2]] rfl ?_; (with_reducible refine (impl_ShapeOk.calls a0_0 a0_1 a0_2 false _ A2.out).mono ?_); rintro e w10 ⟨rfl, hb⟩; refine ⟨_, rfl, ?_⟩; replace HB := bel_on w hb; replace BK266 := blk_on gb266 hb; (try clear hb)))
  go_ret
  exact ⟨eqN, bel_now⟩

end Go.Proofs.Ytljdcemdhmaahaa.PFnExactEncodeModel
