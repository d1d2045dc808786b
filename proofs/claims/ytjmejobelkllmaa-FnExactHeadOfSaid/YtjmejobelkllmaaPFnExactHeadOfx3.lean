-- Printed by the session's own program (wip/myprint.py) for this claim out of the translation. Not trusted: Lean checks it.
import Derived.Test.YtjmejobelkllmaaPFnExactHeadOfx0
import Derived.Test.YtjmejobelkllmaaPFnExactHeadOfx1
import Derived.Test.YtjmejobelkllmaaPFnExactHeadOfx2
namespace Go.Proofs.Ytjmejobelkllmaa.PFnExactHeadOf
open Go.RowKit Go.Proofs.YtjmejobelkllmaaW.PrintWords Go.Proofs.YtjmejobelkllmaaW.PrintLast Go.Proofs.YtjmejobelkllmaaW.PrintMore
attribute [local go_sem] max2_int min2_int max_two min_two max_three min_three max_four min_four   -- for this text's walks alone
set_option linter.unusedVariables false
set_option linter.unusedSimpArgs false

/-! ### laws_eqByteS: function 10 -/
def laws_eqByteS.l0 : Nat → List Int → List Int → Int → Option (Bool)
  | 0, _, _, _ => none
  | k + 1, x0, x1, x5 => if x5 < (x0.length : Int) then (if 0 ≤ x5 then (if x5 < (x1.length : Int) then (if (rd x0 x5) = (rd x1 x5) then (laws_eqByteS.l0 k x0 x1 (wrap64 (x5 + 1))) else (some false)) else (none)) else (none)) else (some true)
def laws_eqByteS.f (k : Nat) (l0 : List Int) (l1 : List Int) : Option (Bool) := if (l0.length : Int) = (l1.length : Int) then (laws_eqByteS.l0 k l0 l1 0) else (some false)
set_option maxHeartbeats 8000000 in
set_option maxRecDepth 100000 in
theorem laws_eqByteS.calls (k : Nat) (A0 : Option Addr) (c0 : Nat) (l0 : List Int) (A1 : Option Addr) (c1 : Nat) (l1 : List Int) (r : Bool) (w : World) (hr0 : Kd.C (Kd.int .u8) w A0 l0.length l0) (hc0 : l0.length ≤ c0) (hr1 : Kd.C (Kd.int .u8) w A1 l1.length l1) (hc1 : l1.length ≤ c1) (h : laws_eqByteS.f k l0 l1 = some r) :
   Calls Try.prog 10 #[.slice A0 l0.length c0, .slice A1 l1.length c1] w fun e w' => e = .returned (.bool r) ∧ Drawn0 w w' := by
  have HR0 := Aside0.mk hr0
  have HC0 := Aside0.mk hc0
  clear hr0 hc0
  have HR1 := Aside0.mk hr1
  have HC1 := Aside0.mk hc1
  clear hr1 hc1
  have H : (if (l0.length : Int) = (l1.length : Int) then (laws_eqByteS.l0 k l0 l1 0) else (some false)) = some r := h
  clear h
  by_cases c3 : (l0.length : Int) = (l1.length : Int)
  rotate_left
  ·rw [if_neg c3] at H
   have c3b0 : ((l0.length : Int) == (l1.length : Int)) = false := beq_eq_false_iff_ne.mpr c3
   have c3b1 : ((l0.length : Int) != (l1.length : Int)) = true := bne_iff_ne.mpr c3
   have c3b2 : (l0.length == l1.length) = false := by first | simpa using c3 | (simp at c3 ⊢; omega)
   obtain rfl := Option.some.inj H
   go_enter Try.func10, Try.ntmps10
   go_wp2
   repeat (go_quiet (fail); try go_wp2)
   go_ret
   exact ⟨by first | rfl | (simp; done) | (simp [*]; done), by repeat (first | exact Drawn0.refl _ | apply Drawn0.step)⟩
  rw [if_pos c3] at H
  have c3b0 : ((l0.length : Int) == (l1.length : Int)) = true := beq_iff_eq.mpr c3
  have c3b1 : ((l0.length : Int) != (l1.length : Int)) = false := bne_eq_false_iff_eq.mpr c3
  have c3b2 : (l0.length == l1.length) = true := by first | simpa using c3 | (simp at c3 ⊢; omega)
  clear c3
  have H' := Aside0.mk H
  clear H
  go_enter Try.func10, Try.ntmps10
  go_wp2
  repeat (go_quiet (fail); try go_wp2)
  go_loopg [5] k (fun kq v5 w' => ∃ (x5_1 : Int), v5 = .int .i64 x5_1 ∧ Aside0 (laws_eqByteS.l0 kq l0 l1 x5_1 = some r) ∧ Aside0 (kq ≤ k) ∧ Drawn0 w w')
  case atStart => exact ⟨(0), (by first | rfl | (simp; done) | (simp [*]; done)), H', ⟨Nat.le_refl _⟩, by repeat (first | exact Drawn0.refl _ | apply Drawn0.step)⟩
  case round =>
   clear H'
   try clear c1
   try clear p2
   try clear c3
   try clear c3b0
   try clear c3b1
   try clear c3b2
   obtain ⟨x5_1, rfl, HA, HK1, ⟨m1, rfl⟩⟩ := hrel
   cases gk with
   | zero => exact absurd HA.out (by simp [laws_eqByteS.l0])
   | succ k1 =>
    have H := HA.out
    clear HA
    simp only [laws_eqByteS.l0] at H
    by_cases c4 : x5_1 < (l0.length : Int)
    rotate_left
    ·rw [if_neg c4] at H
     have c4b0 : decide (x5_1 < (l0.length : Int)) = false := decide_eq_false c4
     clear c4
     obtain rfl := Option.some.inj H
     go_wp2
     repeat (go_quiet (fail); try go_wp2)
     go_ret
     exact ⟨by first | rfl | (simp; done) | (simp [*]; done), by repeat (first | exact Drawn0.refl _ | apply Drawn0.step)⟩
    rw [if_pos c4] at H
    have c4b0 : decide (x5_1 < (l0.length : Int)) = true := decide_eq_true c4
    clear c4
    by_cases c5 : 0 ≤ x5_1
    rotate_left
    ·rw [if_neg c5] at H
     exact absurd H (by simp)
    rw [if_pos c5] at H
    have c5b0 : decide (0 ≤ x5_1) = true := decide_eq_true c5
    clear c5
    by_cases c6 : x5_1 < (l1.length : Int)
    rotate_left
    ·rw [if_neg c6] at H
     exact absurd H (by simp)
    rw [if_pos c6] at H
    have c6b0 : decide (x5_1 < (l1.length : Int)) = true := decide_eq_true c6
    clear c6
    by_cases c7 : (rd l0 x5_1) = (rd l1 x5_1)
    rotate_left
    ·rw [if_neg c7] at H
     have c7b0 : ((rd l0 x5_1) == (rd l1 x5_1)) = false := beq_eq_false_iff_ne.mpr c7
     have c7b1 : ((rd l0 x5_1) != (rd l1 x5_1)) = true := bne_iff_ne.mpr c7
     obtain rfl := Option.some.inj H
     have p167 : 0 ≤ (x5_1 : Int) := of_decide_eq_true (by first | (with_reducible assumption) | assumption)
     have q167 : x5_1 < (l0.length : Int) := of_decide_eq_true (by first | (with_reducible assumption) | assumption)
     obtain ⟨ad167, e167, hx167_0⟩ := Kd.at_int HR0.out x5_1 p167 q167
     cases e167
     replace p167 := eq_true p167
     replace q167 := eq_true q167
     have p168 : 0 ≤ (x5_1 : Int) := of_decide_eq_true (by first | (with_reducible assumption) | assumption)
     have q168 : x5_1 < (l1.length : Int) := of_decide_eq_true (by first | (with_reducible assumption) | assumption)
     obtain ⟨ad168, e168, hx168_0⟩ := Kd.at_int HR1.out x5_1 p168 q168
     cases e168
     replace p168 := eq_true p168
     replace q168 := eq_true q168
     go_wp2
     repeat (go_quiet (fail); try go_wp2)
     go_ret
     exact ⟨by first | rfl | (simp; done) | (simp [*]; done), by repeat (first | exact Drawn0.refl _ | apply Drawn0.step)⟩
    rw [if_pos c7] at H
    have c7b0 : ((rd l0 x5_1) == (rd l1 x5_1)) = true := beq_iff_eq.mpr c7
    have c7b1 : ((rd l0 x5_1) != (rd l1 x5_1)) = false := bne_eq_false_iff_eq.mpr c7
    clear c7
    have H' := Aside0.mk H
    clear H
    have p167 : 0 ≤ (x5_1 : Int) := of_decide_eq_true (by first | (with_reducible assumption) | assumption)
    have q167 : x5_1 < (l0.length : Int) := of_decide_eq_true (by first | (with_reducible assumption) | assumption)
    obtain ⟨ad167, e167, hx167_0⟩ := Kd.at_int HR0.out x5_1 p167 q167
    cases e167
    replace p167 := eq_true p167
    replace q167 := eq_true q167
    have p168 : 0 ≤ (x5_1 : Int) := of_decide_eq_true (by first | (with_reducible assumption) | assumption)
    have q168 : x5_1 < (l1.length : Int) := of_decide_eq_true (by first | (with_reducible assumption) | assumption)
    obtain ⟨ad168, e168, hx168_0⟩ := Kd.at_int HR1.out x5_1 p168 q168
    cases e168
    replace p168 := eq_true p168
    replace q168 := eq_true q168
    go_wp2
    repeat (go_quiet (fail); try go_wp2)
    go_roundg k1
    case measure => have := HK1.out; omega
    case rel => exact ⟨(wrap64 (x5_1 + 1)), (by first | rfl | (simp; done) | (simp [*]; done)), H', ⟨by have := HK1.out; omega⟩, by repeat (first | exact Drawn0.refl _ | apply Drawn0.step)⟩

/-! ### laws_FnExactHeadOf: function 3 -/
def laws_FnExactHeadOf.j0 : Nat → List Int → List Int → Bool → Option (Bool)
  | 0, _, _, _ => none
  | k + 1, x0, x6, x41 => if x41 = true then (some false) else ((laws_toByteS.f k x0).bind fun t188 => ((laws_eqByteS.f k x6 t188).bind fun t191 => (if t191 = true then (some true) else (some false))))
def laws_FnExactHeadOf.f (k : Nat) (l0 : List Int) : Option (Bool) := if (l0.length : Int) > 1048576 then (some true) else ((laws_toByteS.f k l0).bind fun t169 => ((spec_HeadOf.f k t169).bind fun bt172 => ((laws_toByteS.f k l0).bind fun t178 => ((impl_HeadOf.f k t178).bind fun bt181 => ((laws_eqShape.f bt181.1 bt181.2.1 bt181.2.2.1 bt172.1 bt172.2.1 bt172.2.2.1).bind fun t187 => (if t187 = true then (if bt181.2.2.2.1 = bt172.2.2.2.1 then (laws_FnExactHeadOf.j0 k l0 t178 (bt181.2.2.2.2 != bt172.2.2.2.2)) else (laws_FnExactHeadOf.j0 k l0 t178 true)) else (laws_FnExactHeadOf.j0 k l0 t178 true)))))))
set_option maxHeartbeats 8000000 in
set_option maxRecDepth 100000 in
theorem laws_FnExactHeadOf.calls (k : Nat) (A0 : Option Addr) (c0 : Nat) (l0 : List Int) (w : World) (hr0 : Kd.C (Kd.int .u8) w A0 l0.length l0) (hc0 : l0.length ≤ c0) (h : laws_FnExactHeadOf.f k l0 = some true) :
   Calls Try.prog 3 #[.slice A0 l0.length c0] w fun e w' => e = .returned (.bool true) ∧ Below w.heap.size w w' := by
  have hu24 := Try.underlying24
  have HR0 := Aside0.mk hr0
  have HC0 := Aside0.mk hc0
  clear hr0 hc0
  have HB := Aside0.mk (Below.refl w.heap.size w)
  have H : (if (l0.length : Int) > 1048576 then (some true) else ((laws_toByteS.f k l0).bind fun t169 => ((spec_HeadOf.f k t169).bind fun bt172 => ((laws_toByteS.f k l0).bind fun t178 => ((impl_HeadOf.f k t178).bind fun bt181 => ((laws_eqShape.f bt181.1 bt181.2.1 bt181.2.2.1 bt172.1 bt172.2.1 bt172.2.2.1).bind fun t187 => (if t187 = true then (if bt181.2.2.2.1 = bt172.2.2.2.1 then (laws_FnExactHeadOf.j0 k l0 t178 (bt181.2.2.2.2 != bt172.2.2.2.2)) else (laws_FnExactHeadOf.j0 k l0 t178 true)) else (laws_FnExactHeadOf.j0 k l0 t178 true)))))))) = some true := h
  clear h
  by_cases c2 : (l0.length : Int) > 1048576
  ·rw [if_pos c2] at H
   have c2b0 : decide (1048576 < (l0.length : Int)) = true := decide_eq_true c2
   have c2b1 : decide (1048576 < l0.length) = true := decide_eq_true (by omega)
   clear c2
   clear H
   go_enter Try.func3, Try.ntmps3
   go_wp2
   go_ret
   exact ⟨eqN, bel_now⟩
  rw [if_neg c2] at H
  have c2b0 : decide (1048576 < (l0.length : Int)) = false := decide_eq_false c2
  have c2b1 : decide (1048576 < l0.length) = false := decide_eq_false (by omega)
  clear c2
  replace H := Option.bind_eq_some_iff.mp H
  obtain ⟨t169, A30, H⟩ := H
  (try dsimp only at H)
  have A3 := Aside0.mk A30
  clear A30
  replace H := Option.bind_eq_some_iff.mp H
  obtain ⟨⟨t172, t173, t174, t175, t176⟩, A40, H⟩ := H
  (try dsimp only at H)
  have A4 := Aside0.mk A40
  clear A40
  replace H := Option.bind_eq_some_iff.mp H
  obtain ⟨t178, A50, H⟩ := H
  (try dsimp only at H)
  have A5 := Aside0.mk A50
  clear A50
  replace H := Option.bind_eq_some_iff.mp H
  obtain ⟨⟨t181, t182, t183, t184, t185⟩, A60, H⟩ := H
  (try dsimp only at H)
  have A6 := Aside0.mk A60
  clear A60
  have HC7 := Aside0.mk H
  clear H
  go_enter Try.func3, Try.ntmps3
  go_upto_region 6 with (first | ((with_reducible refine gate_callee (f := 7) rfl ?_); refine goesM (some 15) rfl rfl Try.func7 (by kernel_rfl) rfl #[.slice A0 l0.length c0] rfl ?_; (with_reducible refine (laws_toByteS.calls k _ _ l0 t169 _ ?side1 ?side2 A3.out).mono ?_); (case side1 => repeat (first | exact HR0.out | (with_reducible refine Kd.C_alloc ?_ _) | (with_reducible refine Kd.C_drewN ?_ _) | (with_reducible refine Kd.C_drew ?_))); (case side2 => exact HC0.out); rintro e w8 ⟨v170, rfl, ho0, hb⟩; refine ⟨_, rfl, ?_⟩; have n0_ := Aside0.mk (Kd.R_lower ho0 (below_size bel_now)); replace HB := bel_on w hb; have HO171 := n0_; clear n0_; (try clear hb); (try clear ho0); obtain ⟨Ao9, co9, eo9⟩ := Kd.R_slice HO171.out; subst eo9) | ((with_reducible refine gate_callee (f := 6) rfl ?_); refine goesM (some 16) rfl rfl Try.func6 (by kernel_rfl) rfl #[.slice Ao9 t169.length co9] rfl ?_; (with_reducible refine (spec_HeadOf.calls k _ _ t169 t172 t173 t174 t175 t176 _ ?side1 ?side2 A4.out).mono ?_); (case side1 => exact (Kd.R_reads' (R_at HO171.out)).2.2); (case side2 => exact (Kd.R_reads' HO171.out).2.1); rintro e w10 ⟨rfl, hb⟩; refine ⟨_, rfl, ?_⟩; replace HO171 := Aside0.mk (Kd.R_below (R_at HO171.out) hb); replace HB := bel_on w hb; (try clear hb)) | ((with_reducible refine gate_dst (N := 3) rfl ?_); refine boxM 3 #[.int .i64 0, .int .i64 0, .int .i64 0] 24 ?_; intro gb177 hg w11 BK177 hb; replace HB := box_at w hb hg; obtain ⟨HB, GW177, GE177⟩ := HB; replace HO171 := Aside0.mk (Kd.R_below (R_at HO171.out) hb); clear hb hg; have hcz12 := cells3 BK177.out) | ((with_reducible refine gate_callee (f := 7) rfl ?_); refine goesM (some 21) rfl rfl Try.func7 (by kernel_rfl) rfl #[.slice A0 l0.length c0] rfl ?_; (with_reducible refine (laws_toByteS.calls k _ _ l0 t178 _ ?side1 ?side2 A5.out).mono ?_); (case side1 => exact C_now HR0.out); (case side2 => exact HC0.out); rintro e w13 ⟨v179, rfl, ho0, hb⟩; refine ⟨_, rfl, ?_⟩; have n0_ := Aside0.mk (Kd.R_elder' (R_at (R_far3 HO171.out BK177.out (by decide))) (Kd.R_base ho0) hb); have n1_ := Aside0.mk (Kd.R_lower (Kd.R_new' ho0 (Kd.R_lt (R_at (R_far3 HO171.out BK177.out (by decide))))) (below_size bel_now)); replace HB := bel_on w hb; replace BK177 := Aside0.mk (blk_below (g := gb177) (o := .cells #[.int .i64 t172, .int .i64 t173, .int .i64 t174] 24 (0, 0)) (blk_fars (puts3 BK177.out)) hb); clear HO171; have HO171 := n0_; have HO180 := n1_; clear n0_ n1_; (try clear hb); (try clear ho0); obtain ⟨Ao14, co14, eo14⟩ := Kd.R_slice HO180.out; subst eo14) | ((with_reducible refine gate_callee (f := 8) rfl ?_); refine goesM (some 24) rfl rfl Try.func8 (by kernel_rfl) rfl #[.slice Ao14 t178.length co14] rfl ?_; (with_reducible refine (impl_HeadOf.calls k _ _ t178 t181 t182 t183 t184 t185 _ ?side1 ?side2 A6.out).mono ?_); (case side1 => exact (Kd.R_reads' (R_at HO180.out)).2.2); (case side2 => exact (Kd.R_reads' HO180.out).2.1); rintro e w15 ⟨rfl, hb⟩; refine ⟨_, rfl, ?_⟩; replace HO171 := Aside0.mk (Kd.R_below (R_at HO171.out) hb); replace HO180 := Aside0.mk (Kd.R_below (R_at HO180.out) hb); replace HB := bel_on w hb; replace BK177 := blk_on gb177 hb; (try clear hb)) | ((with_reducible refine gate_dst (N := 7) rfl ?_); refine boxM 7 #[.int .i64 0, .int .i64 0, .int .i64 0] 24 ?_; intro gb186 hg w16 BK186 hb; replace HB := box_at w hb hg; obtain ⟨HB, GW186, GE186⟩ := HB; replace BK177 := box_on gb177 hb hg; obtain ⟨BK177, NB177_186, NB186_177⟩ := BK177; replace HO171 := Aside0.mk (Kd.R_below (R_at HO171.out) hb); replace HO180 := Aside0.mk (Kd.R_below (R_at HO180.out) hb); clear hb hg; have hn17 := ne2 NB186_177; have hcz18 := cells3 BK186.out))
  (try simp only [Act.put, zA, zB, zC])
  go_cut [41] (fun v41 wc => ∃ (kq : Nat) (x41_6 : Bool), v41 = .bool x41_6 ∧ Aside0 (laws_FnExactHeadOf.j0 kq l0 t178 x41_6 = some true) ∧ Aside0 (kq ≤ k) ∧ Aside0 (Kd.R (Kd.int .u8) 5 wc w.heap.size (fun _ => True) (.slice Ao14 t178.length co14) t178) ∧ Aside0 (wc.heap[gb177]? = some (.cells #[.int .i64 t172, .int .i64 t173, .int .i64 t174] 24 (0, 0))) ∧ Aside0 (wc.heap[gb186]? = some (.cells #[.int .i64 t181, .int .i64 t182, .int .i64 t183] 24 (0, 0))) ∧ Aside0 (Below w.heap.size w wc))
  case first =>
   have H := HC7.out
   clear HC7
   replace H := Option.bind_eq_some_iff.mp H
   obtain ⟨t187, A190, H⟩ := H
   (try dsimp only at H)
   have A19 := Aside0.mk A190
   clear A190
   by_cases c20 : t187 = true
   rotate_left
   ·replace c20 := Bool.eq_false_iff.mpr c20
    subst c20
    rw [if_neg (show ¬ (false = true) by decide)] at H
    have H' := Aside0.mk H
    clear H
    have hn30 := ne2 NB186_177
    have hcz31 := cells3 BK186.out
    have hcz32 := cells3 BK177.out
    go_wp2_with (first | ((with_reducible refine gate_callee (f := 9) rfl ?_); refine goesM (some 30) rfl rfl Try.func9 (by kernel_rfl) rfl #[.agg #[.int .i64 t181, .int .i64 t182, .int .i64 t183], .agg #[.int .i64 t172, .int .i64 t173, .int .i64 t174]] rfl ?_; (with_reducible refine (laws_eqShape.calls t181 t182 t183 t172 t173 t174 false _ A19.out).mono ?_); rintro e w33 ⟨rfl, hb⟩; refine ⟨_, rfl, ?_⟩; have n0_ := Aside0.mk (Kd.R_below (R_at (R_far3 HO171.out BK186.out (by decide))) hb); have n1_ := Aside0.mk (Kd.R_below (R_at (R_far3 HO180.out BK186.out (by decide))) hb); replace HB := bel_on w hb; replace BK177 := Aside0.mk (blk_below (g := gb177) (o := .cells #[.int .i64 t172, .int .i64 t173, .int .i64 t174] 24 (0, 0)) (blk_fars BK177.out) hb); replace BK186 := Aside0.mk (blk_below (g := gb186) (o := .cells #[.int .i64 t181, .int .i64 t182, .int .i64 t183] 24 (0, 0)) (blk_fars (puts3 BK186.out)) hb); clear HO171 HO180; have HO171 := n0_; have HO180 := n1_; clear n0_ n1_; (try clear hb)))
    go_meet
    case rel => exact ⟨_, (true), (by first | rfl | (simp; done) | (simp [*]; done)), H', ⟨by first | omega | exact Nat.le_refl _⟩, ⟨by (with_reducible repeat (first | apply Kd.R_alloc | apply Kd.R_drewN | apply Kd.R_drew)); exact Kd.R_mono HO180.out (fun _ hk => trivial)⟩, ⟨bks BK177⟩, ⟨bks BK186⟩, ⟨bel_now⟩⟩
   subst c20
   rw [if_pos rfl] at H
   by_cases c21 : t184 = t175
   ·rw [if_pos c21] at H
    have c21b0 : (t184 == t175) = true := beq_iff_eq.mpr c21
    have c21b1 : (t184 != t175) = false := bne_eq_false_iff_eq.mpr c21
    clear c21
    (first | rw [c21b0] | (simp only [i64_w, i32_w]; rw [c21b0]) | skip)
    have H' := Aside0.mk H
    clear H
    have hn22 := ne2 NB186_177
    have hcz23 := cells3 BK186.out
    have hcz24 := cells3 BK177.out
    go_wp2_with (first | ((with_reducible refine gate_callee (f := 9) rfl ?_); refine goesM (some 30) rfl rfl Try.func9 (by kernel_rfl) rfl #[.agg #[.int .i64 t181, .int .i64 t182, .int .i64 t183], .agg #[.int .i64 t172, .int .i64 t173, .int .i64 t174]] rfl ?_; (with_reducible refine (laws_eqShape.calls t181 t182 t183 t172 t173 t174 true _ A19.out).mono ?_); rintro e w25 ⟨rfl, hb⟩; refine ⟨_, rfl, ?_⟩; have n0_ := Aside0.mk (Kd.R_below (R_at (R_far3 HO171.out BK186.out (by decide))) hb); have n1_ := Aside0.mk (Kd.R_below (R_at (R_far3 HO180.out BK186.out (by decide))) hb); replace HB := bel_on w hb; replace BK177 := Aside0.mk (blk_below (g := gb177) (o := .cells #[.int .i64 t172, .int .i64 t173, .int .i64 t174] 24 (0, 0)) (blk_fars BK177.out) hb); replace BK186 := Aside0.mk (blk_below (g := gb186) (o := .cells #[.int .i64 t181, .int .i64 t182, .int .i64 t183] 24 (0, 0)) (blk_fars (puts3 BK186.out)) hb); clear HO171 HO180; have HO171 := n0_; have HO180 := n1_; clear n0_ n1_; (try clear hb)))
    go_meet
    case rel => exact ⟨_, ((t185 != t176)), (by first | rfl | (simp; done) | (simp [*]; done)), H', ⟨by first | omega | exact Nat.le_refl _⟩, ⟨by (with_reducible repeat (first | apply Kd.R_alloc | apply Kd.R_drewN | apply Kd.R_drew)); exact Kd.R_mono HO180.out (fun _ hk => trivial)⟩, ⟨bks BK177⟩, ⟨bks BK186⟩, ⟨bel_now⟩⟩
   rw [if_neg c21] at H
   have c21b0 : (t184 == t175) = false := beq_eq_false_iff_ne.mpr c21
   have c21b1 : (t184 != t175) = true := bne_iff_ne.mpr c21
   (first | rw [c21b0] | (simp only [i64_w, i32_w]; rw [c21b0]) | skip)
   have H' := Aside0.mk H
   clear H
   have hn26 := ne2 NB186_177
   have hcz27 := cells3 BK186.out
   have hcz28 := cells3 BK177.out
   go_wp2_with (first | ((with_reducible refine gate_callee (f := 9) rfl ?_); refine goesM (some 30) rfl rfl Try.func9 (by kernel_rfl) rfl #[.agg #[.int .i64 t181, .int .i64 t182, .int .i64 t183], .agg #[.int .i64 t172, .int .i64 t173, .int .i64 t174]] rfl ?_; (with_reducible refine (laws_eqShape.calls t181 t182 t183 t172 t173 t174 true _ A19.out).mono ?_); rintro e w29 ⟨rfl, hb⟩; refine ⟨_, rfl, ?_⟩; have n0_ := Aside0.mk (Kd.R_below (R_at (R_far3 HO171.out BK186.out (by decide))) hb); have n1_ := Aside0.mk (Kd.R_below (R_at (R_far3 HO180.out BK186.out (by decide))) hb); replace HB := bel_on w hb; replace BK177 := Aside0.mk (blk_below (g := gb177) (o := .cells #[.int .i64 t172, .int .i64 t173, .int .i64 t174] 24 (0, 0)) (blk_fars BK177.out) hb); replace BK186 := Aside0.mk (blk_below (g := gb186) (o := .cells #[.int .i64 t181, .int .i64 t182, .int .i64 t183] 24 (0, 0)) (blk_fars (puts3 BK186.out)) hb); clear HO171 HO180; have HO171 := n0_; have HO180 := n1_; clear n0_ n1_; (try clear hb)))
   go_meet
   case rel => exact ⟨_, (true), (by first | rfl | (simp; done) | (simp [*]; done)), H', ⟨by first | omega | exact Nat.le_refl _⟩, ⟨by (with_reducible repeat (first | apply Kd.R_alloc | apply Kd.R_drewN | apply Kd.R_drew)); exact Kd.R_mono HO180.out (fun _ hk => trivial)⟩, ⟨bks BK177⟩, ⟨bks BK186⟩, ⟨bel_now⟩⟩
  case rest =>
   clear HC7
   try clear c1
   try clear c2
   try clear c2b0
   try clear c2b1
   try clear p2
   try clear c3
   try clear c6
   try clear c7
   try clear c8
   try clear c9
   try clear c17
   try clear c20
   try clear c21
   try clear c21b0
   try clear c21b1
   try clear c22
   try clear c26
   try clear c30
   try clear hcz12
   try clear hcz18
   try clear hcz23
   try clear hcz24
   try clear hcz27
   try clear hcz28
   try clear hcz31
   try clear hcz32
   obtain ⟨kq, x41_6, rfl, HA, HJ6, HO_6, BK177, BK186, HB⟩ := hcut
   cases kq with
   | zero => exact absurd HA.out (by simp [laws_FnExactHeadOf.j0])
   | succ kj6 =>
    have H := HA.out
    clear HA
    simp only [laws_FnExactHeadOf.j0] at H
    by_cases c34 : x41_6 = true
    ·subst c34
     rw [if_pos rfl] at H
     exact absurd H (by decide)
    replace c34 := Bool.eq_false_iff.mpr c34
    subst c34
    rw [if_neg (show ¬ (false = true) by decide)] at H
    replace H := Option.bind_eq_some_iff.mp H
    obtain ⟨t188, A350, H⟩ := H
    (try dsimp only at H)
    have A35 := Aside0.mk A350
    clear A350
    replace H := Option.bind_eq_some_iff.mp H
    obtain ⟨t191, A360, H⟩ := H
    (try dsimp only at H)
    have A36 := Aside0.mk A360
    clear A360
    by_cases c37 : t191 = true
    rotate_left
    ·replace c37 := Bool.eq_false_iff.mpr c37
     subst c37
     rw [if_neg (show ¬ (false = true) by decide)] at H
     exact absurd H (by decide)
    subst c37
    have H1 : (some true) = some true := rfl
    clear H
    have H := H1
    clear H1
    clear H
    go_wp2_with (first | ((with_reducible refine gate_callee (f := 7) rfl ?_); refine goesM (some 44) rfl rfl Try.func7 (by kernel_rfl) rfl #[.slice A0 l0.length c0] rfl ?_; (with_reducible refine (laws_toByteS.calls kj6 _ _ l0 t188 _ ?side1 ?side2 A35.out).mono ?_); (case side1 => exact C_now HR0.out); (case side2 => exact HC0.out); rintro e w38 ⟨v189, rfl, ho0, hb⟩; refine ⟨_, rfl, ?_⟩; have n1_ := Aside0.mk (Kd.R_lower (Kd.R_new' ho0 (Kd.R_lt (R_at HO_6.out))) (below_size bel_now)); replace HO_6 := Aside0.mk (Kd.R_elder' (R_at HO_6.out) (Kd.R_base ho0) hb); replace HB := bel_on w hb; replace BK177 := blk_on gb177 hb; replace BK186 := blk_on gb186 hb; have HO190 := n1_; clear n1_; (try clear hb); (try clear ho0); obtain ⟨Ao39, co39, eo39⟩ := Kd.R_slice HO190.out; subst eo39) | ((with_reducible refine gate_callee (f := 10) rfl ?_); refine goesM (some 45) rfl rfl Try.func10 (by kernel_rfl) rfl #[.slice Ao14 t178.length co14, .slice Ao39 t188.length co39] rfl ?_; (with_reducible refine (laws_eqByteS.calls kj6 _ _ t178 _ _ t188 true _ ?side1 ?side2 ?side3 ?side4 A36.out).mono ?_); (case side1 => exact (Kd.R_reads' (R_at HO_6.out)).2.2); (case side2 => exact (Kd.R_reads' HO_6.out).2.1); (case side3 => exact (Kd.R_reads' (R_at HO190.out)).2.2); (case side4 => exact (Kd.R_reads' HO190.out).2.1); rintro e w' ⟨rfl, ⟨nd, rfl⟩⟩; refine ⟨_, rfl, ?_⟩))
    go_ret
    exact ⟨eqN, bel_now⟩

end Go.Proofs.Ytjmejobelkllmaa.PFnExactHeadOf
