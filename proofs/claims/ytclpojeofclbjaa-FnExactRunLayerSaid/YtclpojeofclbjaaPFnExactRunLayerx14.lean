-- Printed by the session's own program (wip/myprint.py) for this claim out of the translation. Not trusted: Lean checks it.
import Derived.Test.YtclpojeofclbjaaPFnExactRunLayerx0
import Derived.Test.YtclpojeofclbjaaPFnExactRunLayerx13
namespace Go.Proofs.Ytclpojeofclbjaa.PFnExactRunLayer
open Go.RowKit Go.Proofs.YtclpojeofclbjaaW.PrintWords Go.Proofs.YtclpojeofclbjaaW.PrintLast Go.Proofs.YtclpojeofclbjaaW.PrintMore
attribute [local go_sem] max2_int min2_int max_two min_two max_three min_three max_four min_four   -- for this text's walks alone
set_option linter.unusedVariables false
set_option linter.unusedSimpArgs false

/-! ### impl_Layer_window: function 103 -/
mutual
def impl_Layer_window.l0 : Nat → Int → Int → Int → List Int → Int → Int → Int → Int → Int → Int → Int → Int → Int → List Int → List Int → Int → Int → Int → List Int → Option (List Int)
  | 0, _, _, _, _, _, _, _, _, _, _, _, _, _, _, _, _, _, _, _ => none
  | k + 1, x2, x3, x4, x11, x17, x18, x337000, x337001, x337002, x337003, x337004, x337005, x337006, x337007, x337008, x338000, x338001, x338002, x338003 => if x18 < x17 then (impl_Layer_window.l1 k x2 x3 x4 x11 x18 x17 x18 x337002 0 x337000 x337001 x337002 x337003 x337004 x337005 x337006 x337007 x337008 x338000 x338001 x338002 x338003) else (some x11)
def impl_Layer_window.l1 : Nat → Int → Int → Int → List Int → Int → Int → Int → Int → Int → Int → Int → Int → Int → Int → Int → Int → List Int → List Int → Int → Int → Int → List Int → Option (List Int)
  | 0, _, _, _, _, _, _, _, _, _, _, _, _, _, _, _, _, _, _, _, _, _, _ => none
  | k + 1, x2, x3, x4, x11, x12, x17, x18, x22, x23, x337000, x337001, x337002, x337003, x337004, x337005, x337006, x337007, x337008, x338000, x338001, x338002, x338003 => if x23 < x22 then ((impl_Shape_place.f x338000 x338001 x338002 (wrap64 ((wrap64 (x2 * x337003)) + x12)) (wrap64 ((wrap64 (x3 * x337003)) + x23)) 0).bind fun t341 => (if x4 < 0 then (if 0 ≤ t341 then (if t341 ≤ (wrap64 (t341 + x338002)) then (if (wrap64 (t341 + x338002)) ≤ (x338003.length : Int) then (if x11.length + ((x338003.take ((wrap64 (t341 + x338002)) : Int).toNat).drop (t341 : Int).toNat).length < 17592186044416 then (impl_Layer_window.l1 k x2 x3 x4 (x11 ++ ((x338003.take ((wrap64 (t341 + x338002)) : Int).toNat).drop (t341 : Int).toNat)) x12 x17 x18 x22 (wrap64 (x23 + 1)) x337000 x337001 x337002 x337003 x337004 x337005 x337006 x337007 x337008 x338000 x338001 x338002 x338003) else (none)) else (none)) else (none)) else (none)) else (if 0 ≤ (wrap64 (t341 + x4)) then (if (wrap64 (t341 + x4)) < (x338003.length : Int) then (if x11.length < 17592186044416 then (impl_Layer_window.l1 k x2 x3 x4 (x11 ++ [rd x338003 (wrap64 (t341 + x4))]) x12 x17 x18 x22 (wrap64 (x23 + 1)) x337000 x337001 x337002 x337003 x337004 x337005 x337006 x337007 x337008 x338000 x338001 x338002 x338003) else (none)) else (none)) else (none)))) else (impl_Layer_window.l0 k x2 x3 x4 x11 x17 (wrap64 (x18 + 1)) x337000 x337001 x337002 x337003 x337004 x337005 x337006 x337007 x337008 x338000 x338001 x338002 x338003)
end
def impl_Layer_window.f (k : Nat) (a0_0 : Int) (a0_1 : Int) (a0_2 : Int) (a0_3 : Int) (a0_4 : Int) (a0_5 : Int) (a0_6 : Int) (l0_7 : List Int) (l0_8 : List Int) (a1_0 : Int) (a1_1 : Int) (a1_2 : Int) (l1_3 : List Int) (a2 : Int) (a3 : Int) (a4 : Int) : Option (List Int) := impl_Layer_window.l0 k a2 a3 a4 (([] : List Int)) a0_2 0 a0_0 a0_1 a0_2 a0_3 a0_4 a0_5 a0_6 l0_7 l0_8 a1_0 a1_1 a1_2 l1_3
set_option maxHeartbeats 8000000 in
set_option maxRecDepth 100000 in
theorem impl_Layer_window.calls (k : Nat) (a0_0 : Int) (a0_1 : Int) (a0_2 : Int) (a0_3 : Int) (a0_4 : Int) (a0_5 : Int) (a0_6 : Int) (A0_7 : Option Addr) (c0_7 : Nat) (l0_7 : List Int) (A0_8 : Option Addr) (c0_8 : Nat) (l0_8 : List Int) (a1_0 : Int) (a1_1 : Int) (a1_2 : Int) (A1_3 : Option Addr) (c1_3 : Nat) (l1_3 : List Int) (a2 : Int) (a3 : Int) (a4 : Int) (r : List Int) (w : World) (hr0_7 : Kd.C (Kd.int .i64) w A0_7 l0_7.length l0_7) (hc0_7 : l0_7.length ≤ c0_7) (hr0_8 : Kd.C (Kd.int .i64) w A0_8 l0_8.length l0_8) (hc0_8 : l0_8.length ≤ c0_8) (hr1_3 : Kd.C (Kd.int .i64) w A1_3 l1_3.length l1_3) (hc1_3 : l1_3.length ≤ c1_3) (h : impl_Layer_window.f k a0_0 a0_1 a0_2 a0_3 a0_4 a0_5 a0_6 l0_7 l0_8 a1_0 a1_1 a1_2 l1_3 a2 a3 a4 = some r) :
   Calls Try.prog 103 #[.agg #[.int .i64 a0_0, .int .i64 a0_1, .int .i64 a0_2, .int .i64 a0_3, .int .i64 a0_4, .int .i64 a0_5, .int .i64 a0_6, .slice A0_7 l0_7.length c0_7, .slice A0_8 l0_8.length c0_8], .agg #[.int .i64 a1_0, .int .i64 a1_1, .int .i64 a1_2, .slice A1_3 l1_3.length c1_3], .int .i64 a2, .int .i64 a3, .int .i64 a4] w fun e w' => ∃ v0_ : Value, e = .returned (v0_) ∧ Kd.R (Kd.int .i64) 3 w' w.heap.size (fun _ => True) v0_ r ∧ Below w.heap.size w w' := by
  have hu37 := Try.underlying37
  have hu33 := Try.underlying33
  have hu31 := Try.underlying31
  have HR0_7 := Aside0.mk hr0_7
  have HC0_7 := Aside0.mk hc0_7
  clear hr0_7 hc0_7
  have HR0_8 := Aside0.mk hr0_8
  have HC0_8 := Aside0.mk hc0_8
  clear hr0_8 hc0_8
  have HR1_3 := Aside0.mk hr1_3
  have HC1_3 := Aside0.mk hc1_3
  clear hr1_3 hc1_3
  have HB := Aside0.mk (Below.refl w.heap.size w)
  have H : (impl_Layer_window.l0 k a2 a3 a4 (([] : List Int)) a0_2 0 a0_0 a0_1 a0_2 a0_3 a0_4 a0_5 a0_6 l0_7 l0_8 a1_0 a1_1 a1_2 l1_3) = some r := h
  clear h
  obtain ⟨y338, hy338⟩ : ∃ y_ : List Int, y_ = (([] : List Int)) := ⟨_, rfl⟩
  replace H : (impl_Layer_window.l0 k a2 a3 a4 y338 a0_2 0 a0_0 a0_1 a0_2 a0_3 a0_4 a0_5 a0_6 l0_7 l0_8 a1_0 a1_1 a1_2 l1_3) = some r := by first | (rw [hy338]; with_reducible exact H) | (have H2_ := (Option.bind_some _ _).symm.trans H; rw [hy338]; with_reducible exact H2_) | (have H2_ := (Option.bind_some _ _).symm.trans H; with_reducible exact H2_) | with_reducible exact H | (rw [hy338]; exact H) | exact H
  have Ny338 := Aside0.mk hy338
  clear hy338
  have H' := Aside0.mk H
  clear H
  go_enter Try.func103, Try.ntmps103
  go_wp2_with (first | ((with_reducible refine gate_dst (N := 5) rfl ?_); refine boxM 5 #[.int .i64 a0_0, .int .i64 a0_1, .int .i64 a0_2, .int .i64 a0_3, .int .i64 a0_4, .int .i64 a0_5, .int .i64 a0_6, .slice A0_7 l0_7.length c0_7, .slice A0_8 l0_8.length c0_8] 37 ?_; intro gb336 hg w6 BK336 hb; replace HB := box_at w hb hg; obtain ⟨HB, GW336, GE336⟩ := HB; clear hb hg) | ((with_reducible refine gate_dst (N := 6) rfl ?_); refine boxM 6 #[.int .i64 a1_0, .int .i64 a1_1, .int .i64 a1_2, .slice A1_3 l1_3.length c1_3] 33 ?_; intro gb337 hg w7 BK337 hb; replace HB := box_at w hb hg; obtain ⟨HB, GW337, GE337⟩ := HB; replace BK336 := box_on gb336 hb hg; obtain ⟨BK336, NB336_337, NB337_336⟩ := BK336; clear hb hg) | ((with_reducible refine gate_dst (N := 15) rfl ?_); refine Kd.R_lit (Kd.int .i64) _ 3 ?hg (N := 15) ?hd (xs := ([] : List Int)) (inner := []) (ok := fun _ => True) (okp := fun _ => True) ?hr ?hp (fun _ hk => hk) trivial (Below.refl _ _) (Nat.le_refl _) (by simp) ?_; (case hd => rfl); (case hg => rfl); (case hr => first | (go_simp; done) | (go_simp; rfl)); (case hp => exact (Reps.none _ _)); intro v339 w8 ho9 hb hg_ hnew_; clear hg_ hnew_; (first | rw [← Ny338.out] at ho9 | (simp only [Int.reduceToNat] at ho9; rw [← Ny338.out] at ho9)); have n0_ := Aside0.mk (Kd.R_lower ho9 (below_size bel_now)); replace HB := bel_on w hb; replace BK336 := blk_on gb336 hb; replace BK337 := blk_on gb337 hb; have HO340 := n0_; clear n0_; clear hb ho9; have hn10 := ne2 NB336_337; have hcz11 := cells9 BK336.out))
  go_loopg [11, 18] k (fun kq v11 v18 w' => ∃ (x11_1 : List Int) (x18_1 : Int), v18 = .int .i64 x18_1 ∧ Aside0 (impl_Layer_window.l0 kq a2 a3 a4 x11_1 a0_2 x18_1 a0_0 a0_1 a0_2 a0_3 a0_4 a0_5 a0_6 l0_7 l0_8 a1_0 a1_1 a1_2 l1_3 = some r) ∧ Aside0 (kq ≤ k) ∧ Aside0 (Kd.R (Kd.int .i64) 3 w' w.heap.size (fun _ => True) v11 x11_1) ∧ Aside0 (w'.heap[gb336]? = some (.cells #[.int .i64 a0_0, .int .i64 a0_1, .int .i64 a0_2, .int .i64 a0_3, .int .i64 a0_4, .int .i64 a0_5, .int .i64 a0_6, (.slice A0_7 l0_7.length c0_7), (.slice A0_8 l0_8.length c0_8)] 37 (0, 0))) ∧ Aside0 (w'.heap[gb337]? = some (.cells #[.int .i64 a1_0, .int .i64 a1_1, .int .i64 a1_2, (.slice A1_3 l1_3.length c1_3)] 33 (0, 0))) ∧ Aside0 (Below w.heap.size w w'))
  case atStart => exact ⟨(y338), (0), (by first | rfl | (simp; done) | (simp [*]; done)), H', ⟨Nat.le_refl _⟩, ⟨by (with_reducible repeat (first | apply Kd.R_alloc | apply Kd.R_drewN | apply Kd.R_drew)); exact HO340.out⟩, ⟨bks BK336⟩, ⟨bks BK337⟩, ⟨bel_now⟩⟩
  case round =>
   clear H'
   try clear c1
   try clear p2
   try clear c10
   try clear hcz11
   obtain ⟨x11_1, x18_1, rfl, HA, HK1, HO_11, BK336, BK337, HB⟩ := hrel
   cases gk with
   | zero => exact absurd HA.out (by simp [impl_Layer_window.l0])
   | succ k1 =>
    have H := HA.out
    clear HA
    simp only [impl_Layer_window.l0] at H
    by_cases c12 : x18_1 < a0_2
    rotate_left
    ·rw [if_neg c12] at H
     have c12b0 : decide (x18_1 < a0_2) = false := decide_eq_false c12
     clear c12
     obtain rfl := Option.some.inj H
     go_wp2
     go_ret
     exact ⟨_, eqN, by (with_reducible repeat (first | apply Kd.R_alloc | apply Kd.R_drewN | apply Kd.R_drew)); exact HO_11.out, bel_now⟩
    rw [if_pos c12] at H
    have c12b0 : decide (x18_1 < a0_2) = true := decide_eq_true c12
    clear c12
    have H' := Aside0.mk H
    clear H
    have hn13 := ne2 NB336_337
    have hcz14 := cells9 BK336.out
    go_wp2
    go_loopg [11, 23] k1 (fun kq v11 v23 w' => ∃ (x11_2 : List Int) (x23_2 : Int), v23 = .int .i64 x23_2 ∧ Aside0 (impl_Layer_window.l1 kq a2 a3 a4 x11_2 x18_1 a0_2 x18_1 a0_2 x23_2 a0_0 a0_1 a0_2 a0_3 a0_4 a0_5 a0_6 l0_7 l0_8 a1_0 a1_1 a1_2 l1_3 = some r) ∧ Aside0 (kq ≤ k1) ∧ Aside0 (Kd.R (Kd.int .i64) 3 w' w.heap.size (fun _ => True) v11 x11_2) ∧ Aside0 (w'.heap[gb336]? = some (.cells #[.int .i64 a0_0, .int .i64 a0_1, .int .i64 a0_2, .int .i64 a0_3, .int .i64 a0_4, .int .i64 a0_5, .int .i64 a0_6, (.slice A0_7 l0_7.length c0_7), (.slice A0_8 l0_8.length c0_8)] 37 (0, 0))) ∧ Aside0 (w'.heap[gb337]? = some (.cells #[.int .i64 a1_0, .int .i64 a1_1, .int .i64 a1_2, (.slice A1_3 l1_3.length c1_3)] 33 (0, 0))) ∧ Aside0 (Below w.heap.size w w'))
    case atStart => exact ⟨(x11_1), (0), (by first | rfl | (simp; done) | (simp [*]; done)), H', ⟨Nat.le_refl _⟩, ⟨by (with_reducible repeat (first | apply Kd.R_alloc | apply Kd.R_drewN | apply Kd.R_drew)); exact HO_11.out⟩, ⟨bks BK336⟩, ⟨bks BK337⟩, ⟨bel_now⟩⟩
    case round =>
     clear H'
     try clear c1
     try clear p2 p2
     try clear c10
     try clear c12
     try clear c12b0
     try clear c13
     try clear hcz11
     try clear hcz14
     obtain ⟨x11_2, x23_2, rfl, HA, HK2, HO_11, BK336, BK337, HB⟩ := hrel
     cases gk with
     | zero => exact absurd HA.out (by simp [impl_Layer_window.l1])
     | succ k2 =>
      have H := HA.out
      clear HA
      simp only [impl_Layer_window.l1] at H
      by_cases c15 : x23_2 < a0_2
      rotate_left
      ·rw [if_neg c15] at H
       have c15b0 : decide (x23_2 < a0_2) = false := decide_eq_false c15
       clear c15
       have H' := Aside0.mk H
       clear H
       go_wp2
       go_roundg k2
       case measure => have := HK1.out; have := HK2.out; omega
       case rel => exact ⟨(x11_2), (wrap64 (x18_1 + 1)), (by first | rfl | (simp; done) | (simp [*]; done)), H', ⟨by have := HK1.out; have := HK2.out; omega⟩, ⟨by (with_reducible repeat (first | apply Kd.R_alloc | apply Kd.R_drewN | apply Kd.R_drew)); exact HO_11.out⟩, ⟨bks BK336⟩, ⟨bks BK337⟩, ⟨bel_now⟩⟩
      rw [if_pos c15] at H
      have c15b0 : decide (x23_2 < a0_2) = true := decide_eq_true c15
      clear c15
      replace H := Option.bind_eq_some_iff.mp H
      obtain ⟨t341, A160, H⟩ := H
      (try dsimp only at H)
      have A16 := Aside0.mk A160
      clear A160
      by_cases c17 : a4 < 0
      rotate_left
      ·rw [if_neg c17] at H
       have c17b0 : decide (a4 < 0) = false := decide_eq_false c17
       clear c17
       obtain ⟨ji29, hji29⟩ : ∃ j_ : Int, (wrap64 (t341 + a4)) = j_ := ⟨_, rfl⟩
       replace H : (if 0 ≤ (ji29) then (if (ji29) < (l1_3.length : Int) then (if x11_2.length < 17592186044416 then (impl_Layer_window.l1 k2 a2 a3 a4 (x11_2 ++ [rd l1_3 (ji29)]) x18_1 a0_2 x18_1 a0_2 (wrap64 (x23_2 + 1)) a0_0 a0_1 a0_2 a0_3 a0_4 a0_5 a0_6 l0_7 l0_8 a1_0 a1_1 a1_2 l1_3) else (none)) else (none)) else (none)) = some r := by first | (rw [hji29] at H; exact H) | (simp only [hji29] at H ⊢; exact H)
       (try rw [hji29] at A16)
       have hji29w : (IntKind.i64.wrap (t341 + a4)) = ji29 := (i64_w _).trans hji29
       by_cases c30 : 0 ≤ (ji29)
       rotate_left
       ·rw [if_neg c30] at H
        exact absurd H (by simp)
       rw [if_pos c30] at H
       have c30b0 : decide (0 ≤ (ji29)) = true := decide_eq_true c30
       clear c30
       by_cases c31 : (ji29) < (l1_3.length : Int)
       rotate_left
       ·rw [if_neg c31] at H
        exact absurd H (by simp)
       rw [if_pos c31] at H
       have c31b0 : decide ((ji29) < (l1_3.length : Int)) = true := decide_eq_true c31
       clear c31
       by_cases c32 : x11_2.length < 17592186044416
       rotate_left
       ·rw [if_neg c32] at H
        exact absurd H (by simp)
       rw [if_pos c32] at H
       have LMc32 := Aside0.mk c32
       clear c32
       obtain ⟨y347, hy347⟩ : ∃ y_ : List Int, y_ = (x11_2 ++ [rd l1_3 (ji29)]) := ⟨_, rfl⟩
       replace H : (impl_Layer_window.l1 k2 a2 a3 a4 y347 x18_1 a0_2 x18_1 a0_2 (wrap64 (x23_2 + 1)) a0_0 a0_1 a0_2 a0_3 a0_4 a0_5 a0_6 l0_7 l0_8 a1_0 a1_1 a1_2 l1_3) = some r := by first | (rw [hy347]; with_reducible exact H) | (have H2_ := (Option.bind_some _ _).symm.trans H; rw [hy347]; with_reducible exact H2_) | (have H2_ := (Option.bind_some _ _).symm.trans H; with_reducible exact H2_) | with_reducible exact H | (rw [hy347]; exact H) | exact H
       have Ny347 := Aside0.mk hy347
       clear hy347
       have H' := Aside0.mk H
       clear H
       have hn33 := ne2 NB337_336
       have hcz34 := cells4 BK337.out
       have hcz35 := cells9 BK336.out
       go_wp2_with (first | ((with_reducible refine gate_callee (f := 106) rfl ?_); refine goesM (some 40) rfl rfl Try.func106 (by kernel_rfl) rfl #[.agg #[.int .i64 a1_0, .int .i64 a1_1, .int .i64 a1_2], .int .i64 (wrap64 ((wrap64 (a2 * a0_3)) + x18_1)), .int .i64 (wrap64 ((wrap64 (a3 * a0_3)) + x23_2)), .int .i64 0] rfl ?_; (with_reducible refine (impl_Shape_place.calls a1_0 a1_1 a1_2 (wrap64 ((wrap64 (a2 * a0_3)) + x18_1)) (wrap64 ((wrap64 (a3 * a0_3)) + x23_2)) 0 t341 _ A16.out).mono ?_); rintro e w36 ⟨rfl, hb⟩; refine ⟨_, rfl, ?_⟩; replace HO_11 := Aside0.mk (Kd.R_below (R_at HO_11.out) hb); replace HB := bel_on w hb; replace BK336 := blk_on gb336 hb; replace BK337 := blk_on gb337 hb; (try clear hb); have hcz37 := cells4 BK337.out; have p346 : 0 ≤ ((ji29) : Int) := of_decide_eq_true (by first | (with_reducible assumption) | assumption); have q346 : (ji29) < (l1_3.length : Int) := of_decide_eq_true (by first | (with_reducible assumption) | assumption); obtain ⟨ad346, e346, hx346_0⟩ := Kd.at_int HR1_3.out (ji29) p346 q346; cases e346; replace hx346_0 := (HB.out.cell (World.block_lt_of_cell? w _ hx346_0)).trans hx346_0; replace p346 := eq_true p346; replace q346 := eq_true q346) | ((with_reducible refine gate_builtin (b := .append) (xs := #[.tmp 54, .tmp 62]) rfl ?_); at_builtin; refine Kd.R_append (Kd.int .i64) (w0 := w) w.heap.size rfl (.tmp 54) (.tmp 62) 24 3 (.int .i64 0) 8 rfl Try.underlying24 info3 rfl (by decide) (by omega) u11 x11_2 (rd l1_3 (ji29)) [.int .i64 (rd l1_3 (ji29))] (fun _ => True) (fun _ => False) rfl rfl ?aP (fun _ hk => hk.elim) ?aF ?aO ?aB ?aS ?aL ?_; (case aP => exact rfl); (case aB => exact bel_now); (case aF => exact (fun _ _ => trivial)); (case aO => exact (R_at HO_11.out)); (case aS => exact (below_size bel_now)); (case aL => have := LMc32.out; omega); intro v348 w38 ho hb hg hat; rw [← Ny347.out] at ho; have n0_ := Aside0.mk (blk_grown (g := gb336) blk_now hg (Kd.R_ne HO_11.out BK336.out (by decide))); have n1_ := Aside0.mk (blk_grown (g := gb337) blk_now hg (Kd.R_ne HO_11.out BK337.out (by decide))); have n2_ := Aside0.mk (hb); have n3_ := Aside0.mk (ho); clear BK336; clear BK337; clear HB; clear HO_11; have BK336 := n0_; have BK337 := n1_; have HB := n2_; have HO349 := n3_; clear n0_ n1_ n2_ n3_; clear ho hb hg hat))
       go_roundg k2
       case measure => have := HK1.out; have := HK2.out; omega
       case rel => exact ⟨(y347), (wrap64 (x23_2 + 1)), (by first | rfl | (simp; done) | (simp [*]; done)), H', ⟨by have := HK1.out; have := HK2.out; omega⟩, ⟨by (with_reducible repeat (first | apply Kd.R_alloc | apply Kd.R_drewN | apply Kd.R_drew)); exact HO349.out⟩, ⟨bks BK336⟩, ⟨bks BK337⟩, ⟨bel_now⟩⟩
      rw [if_pos c17] at H
      have c17b0 : decide (a4 < 0) = true := decide_eq_true c17
      clear c17
      by_cases c18 : 0 ≤ t341
      rotate_left
      ·rw [if_neg c18] at H
       exact absurd H (by simp)
      rw [if_pos c18] at H
      have c18b0 := eq_true c18
      have c18b1 : decide (0 ≤ t341) = true := decide_eq_true c18
      clear c18
      by_cases c19 : t341 ≤ (wrap64 (t341 + a1_2))
      rotate_left
      ·rw [if_neg c19] at H
       exact absurd H (by simp)
      rw [if_pos c19] at H
      have c19b0 := eq_true c19
      have c19b1 : decide (t341 ≤ (wrap64 (t341 + a1_2))) = true := decide_eq_true c19
      by_cases c20 : (wrap64 (t341 + a1_2)) ≤ (l1_3.length : Int)
      rotate_left
      ·rw [if_neg c20] at H
       exact absurd H (by simp)
      rw [if_pos c20] at H
      have c20b0 := eq_true c20
      have c20b1 : decide ((wrap64 (t341 + a1_2)) ≤ (l1_3.length : Int)) = true := decide_eq_true c20
      by_cases c21 : x11_2.length + ((l1_3.take ((wrap64 (t341 + a1_2)) : Int).toNat).drop (t341 : Int).toNat).length < 17592186044416
      rotate_left
      ·rw [if_neg c21] at H
       exact absurd H (by simp)
      rw [if_pos c21] at H
      have LMc21 := Aside0.mk c21
      clear c21
      obtain ⟨y343, hy343⟩ : ∃ y_ : List Int, y_ = (x11_2 ++ ((l1_3.take ((wrap64 (t341 + a1_2)) : Int).toNat).drop (t341 : Int).toNat)) := ⟨_, rfl⟩
      replace H : (impl_Layer_window.l1 k2 a2 a3 a4 y343 x18_1 a0_2 x18_1 a0_2 (wrap64 (x23_2 + 1)) a0_0 a0_1 a0_2 a0_3 a0_4 a0_5 a0_6 l0_7 l0_8 a1_0 a1_1 a1_2 l1_3) = some r := by first | (rw [hy343]; with_reducible exact H) | (have H2_ := (Option.bind_some _ _).symm.trans H; rw [hy343]; with_reducible exact H2_) | (have H2_ := (Option.bind_some _ _).symm.trans H; with_reducible exact H2_) | with_reducible exact H | (rw [hy343]; exact H) | exact H
      have Ny343 := Aside0.mk hy343
      clear hy343
      have H' := Aside0.mk H
      clear H
      have hn22 := ne2 NB337_336
      have hcz23 := cells4 BK337.out
      have hcz24 := cells9 BK336.out
      go_wp2_with (first | ((with_reducible refine gate_callee (f := 106) rfl ?_); refine goesM (some 40) rfl rfl Try.func106 (by kernel_rfl) rfl #[.agg #[.int .i64 a1_0, .int .i64 a1_1, .int .i64 a1_2], .int .i64 (wrap64 ((wrap64 (a2 * a0_3)) + x18_1)), .int .i64 (wrap64 ((wrap64 (a3 * a0_3)) + x23_2)), .int .i64 0] rfl ?_; (with_reducible refine (impl_Shape_place.calls a1_0 a1_1 a1_2 (wrap64 ((wrap64 (a2 * a0_3)) + x18_1)) (wrap64 ((wrap64 (a3 * a0_3)) + x23_2)) 0 t341 _ A16.out).mono ?_); rintro e w25 ⟨rfl, hb⟩; refine ⟨_, rfl, ?_⟩; replace HO_11 := Aside0.mk (Kd.R_below (R_at HO_11.out) hb); replace HB := bel_on w hb; replace BK336 := blk_on gb336 hb; replace BK337 := blk_on gb337 hb; (try clear hb); have hcz26 := cells4 BK337.out; obtain ⟨i027, hi027, _, hsz27, _⟩ := info_parts info3; obtain ⟨A27, hcut27, hA27, hC27⟩ := print_mid_of (P := Try.prog) (Value.int .i64) 0 24 3 .i64 .i64 Try.underlying24 hi027 hsz27 A1_3 c1_3 l1_3 t341 (wrap64 (t341 + a1_2)) (of_decide_eq_true (by first | (with_reducible assumption) | assumption)) (by first | omega | exact of_decide_eq_true (by first | (with_reducible assumption) | assumption)) (of_decide_eq_true (by first | (with_reducible assumption) | assumption)) HC1_3.out; have HR342 := Aside0.mk (Kd.C_of_reads (h1 := fun _ => rfl) (hA27 _ (Kd.reads_of_C HR1_3.out))); have HC342 := Aside0.mk hC27; clear hA27 hC27 hi027 hsz27) | ((with_reducible refine gate_builtin (b := .append) (xs := #[.tmp 43, .tmp 52]) rfl ?_); at_builtin; refine Kd.R_append_rows (Kd.int .i64) (w0 := w) w.heap.size rfl (.tmp 43) (.tmp 52) 24 3 (.int .i64 0) 8 rfl Try.underlying24 info3 rfl (by decide) (by omega) u11 x11_2 ((l1_3.take ((wrap64 (t341 + a1_2)) : Int).toNat).drop (t341 : Int).toNat) _ _ _ (fun _ => True) (fun _ => False) rfl rfl ?aO ?aR (fun _ _ h => h) (fun _ h => h.elim) ?aF ?aB ?aS ?aL ?_; (case aR => first | (rw [← show ((l1_3.take ((wrap64 (t341 + a1_2)) : Int).toNat).drop (t341 : Int).toNat).length = ((wrap64 (t341 + a1_2)).toNat - t341.toNat) from (by rw [List.length_drop, List.length_take]; have h_ : ((wrap64 (t341 + a1_2)) : Int) ≤ (l1_3.length : Int) := of_decide_eq_true (by first | (with_reducible assumption) | assumption); omega)]; repeat (first | exact (Kd.C_below HR342.out HB.out) | (with_reducible refine Kd.C_alloc ?_ _) | (with_reducible refine Kd.C_drewN ?_ _) | (with_reducible refine Kd.C_drew ?_))) | (repeat (first | exact (Kd.C_below HR342.out HB.out) | (with_reducible refine Kd.C_alloc ?_ _) | (with_reducible refine Kd.C_drewN ?_ _) | (with_reducible refine Kd.C_drew ?_)))); (case aB => exact bel_now); (case aF => exact (fun _ _ => trivial)); (case aO => exact (R_at HO_11.out)); (case aS => exact (below_size bel_now)); (case aL => have := LMc21.out; have hlx_ := (show ((l1_3.take ((wrap64 (t341 + a1_2)) : Int).toNat).drop (t341 : Int).toNat).length = ((wrap64 (t341 + a1_2)).toNat - t341.toNat) from (by rw [List.length_drop, List.length_take]; have h_ : ((wrap64 (t341 + a1_2)) : Int) ≤ (l1_3.length : Int) := of_decide_eq_true (by first | (with_reducible assumption) | assumption); omega)); omega); intro v344 w28 ho hb hg hat; rw [← Ny343.out] at ho; have n0_ := Aside0.mk (blk_grown (g := gb336) blk_now hg (Kd.R_ne HO_11.out BK336.out (by decide))); have n1_ := Aside0.mk (blk_grown (g := gb337) blk_now hg (Kd.R_ne HO_11.out BK337.out (by decide))); have n2_ := Aside0.mk (hb); have n3_ := Aside0.mk (ho); clear BK336; clear BK337; clear HB; clear HO_11; have BK336 := n0_; have BK337 := n1_; have HB := n2_; have HO345 := n3_; clear n0_ n1_ n2_ n3_; clear ho hb hg hat))
      go_roundg k2
      case measure => have := HK1.out; have := HK2.out; omega
      case rel => exact ⟨(y343), (wrap64 (x23_2 + 1)), (by first | rfl | (simp; done) | (simp [*]; done)), H', ⟨by have := HK1.out; have := HK2.out; omega⟩, ⟨by (with_reducible repeat (first | apply Kd.R_alloc | apply Kd.R_drewN | apply Kd.R_drew)); exact HO345.out⟩, ⟨bks BK336⟩, ⟨bks BK337⟩, ⟨bel_now⟩⟩

/-! ### slices_Max_int_int: function 104 -/
def slices_Max_int_int.l0 : Nat → List Int → Int → Int → Option (Int)
  | 0, _, _, _ => none
  | k + 1, x0, x3, x4 => if x4 < (x0.length : Int) then (if 0 ≤ x4 then (slices_Max_int_int.l0 k x0 (mx x3 (rd x0 x4)) (wrap64 (x4 + 1))) else (none)) else (some x3)
def slices_Max_int_int.f (k : Nat) (l0 : List Int) : Option (Int) := if (l0.length : Int) < 1 then (none) else (if 0 < (l0.length : Int) then (slices_Max_int_int.l0 k l0 (rd l0 0) 1) else (none))
set_option maxHeartbeats 8000000 in
set_option maxRecDepth 100000 in
theorem slices_Max_int_int.calls (k : Nat) (A0 : Option Addr) (c0 : Nat) (l0 : List Int) (r : Int) (w : World) (hr0 : Kd.C (Kd.int .i64) w A0 l0.length l0) (hc0 : l0.length ≤ c0) (h : slices_Max_int_int.f k l0 = some r) :
   Calls Try.prog 104 #[.slice A0 l0.length c0] w fun e w' => e = .returned (.int .i64 r) ∧ Below w.heap.size w w' := by
  have HR0 := Aside0.mk hr0
  have HC0 := Aside0.mk hc0
  clear hr0 hc0
  have HB := Aside0.mk (Below.refl w.heap.size w)
  have H : (if (l0.length : Int) < 1 then (none) else (if 0 < (l0.length : Int) then (slices_Max_int_int.l0 k l0 (rd l0 0) 1) else (none))) = some r := h
  clear h
  by_cases c2 : (l0.length : Int) < 1
  ·rw [if_pos c2] at H
   exact absurd H (by simp)
  rw [if_neg c2] at H
  have c2b0 : decide ((l0.length : Int) < 1) = false := decide_eq_false c2
  have c2b1 : decide (l0.length < 1) = false := decide_eq_false (by omega)
  clear c2
  by_cases c3 : 0 < (l0.length : Int)
  rotate_left
  ·rw [if_neg c3] at H
   exact absurd H (by simp)
  rw [if_pos c3] at H
  have c3b0 : decide (0 < (l0.length : Int)) = true := decide_eq_true c3
  have c3b1 : decide (0 < l0.length) = true := decide_eq_true (by omega)
  clear c3
  have H' := Aside0.mk H
  clear H
  have p350 : 0 ≤ (0 : Int) := (by omega)
  have q350 : 0 < (l0.length : Int) := of_decide_eq_true (by first | (with_reducible assumption) | assumption)
  obtain ⟨ad350, e350, hx350_0⟩ := Kd.at_int HR0.out 0 p350 q350
  cases e350
  have qi350 : (0 < l0.length) = True := eq_true (by omega)
  (try rw [show ((0 : Int)).toNat = 0 from rfl] at hx350_0)
  (try rw [Addr.add_zero'] at hx350_0)
  replace p350 := eq_true p350
  replace q350 := eq_true q350
  go_enter Try.func104, Try.ntmps104
  go_wp2
  go_loopg [3, 4] k (fun kq v3 v4 w' => ∃ (x3_1 : Int) (x4_1 : Int), v3 = .int .i64 x3_1 ∧ v4 = .int .i64 x4_1 ∧ Aside0 (slices_Max_int_int.l0 kq l0 x3_1 x4_1 = some r) ∧ Aside0 (kq ≤ k) ∧ Aside0 (Below w.heap.size w w'))
  case atStart => exact ⟨(rd l0 0), (1), (by first | rfl | (simp; done) | (simp [*]; done)), (by first | rfl | (simp; done) | (simp [*]; done)), H', ⟨Nat.le_refl _⟩, ⟨bel_now⟩⟩
  case round =>
   clear H'
   try clear c1
   try clear c2
   try clear c2b0
   try clear c2b1
   try clear p2
   try clear c3
   try clear c3b0
   try clear c3b1
   try clear p3
   try clear q3
   try clear hx3
   try clear qi3
   try clear hx350_0
   try clear p350
   try clear q350
   obtain ⟨x3_1, x4_1, rfl, rfl, HA, HK1, HB⟩ := hrel
   cases gk with
   | zero => exact absurd HA.out (by simp [slices_Max_int_int.l0])
   | succ k1 =>
    have H := HA.out
    clear HA
    simp only [slices_Max_int_int.l0] at H
    by_cases c4 : x4_1 < (l0.length : Int)
    rotate_left
    ·rw [if_neg c4] at H
     have c4b0 : decide (x4_1 < (l0.length : Int)) = false := decide_eq_false c4
     clear c4
     obtain rfl := Option.some.inj H
     go_wp2
     go_ret
     exact ⟨eqN, bel_now⟩
    rw [if_pos c4] at H
    have c4b0 : decide (x4_1 < (l0.length : Int)) = true := decide_eq_true c4
    clear c4
    by_cases c5 : 0 ≤ x4_1
    rotate_left
    ·rw [if_neg c5] at H
     exact absurd H (by simp)
    rw [if_pos c5] at H
    have c5b0 : decide (0 ≤ x4_1) = true := decide_eq_true c5
    clear c5
    obtain ⟨ji6, hji6⟩ : ∃ j_ : Int, (mx x3_1 (rd l0 x4_1)) = j_ := ⟨_, rfl⟩
    replace H : (slices_Max_int_int.l0 k1 l0 ji6 (wrap64 (x4_1 + 1))) = some r := by first | (rw [hji6] at H; exact H) | (simp only [hji6] at H ⊢; exact H)
    have hji6_ : (if x3_1 < (rd l0 x4_1) then (rd l0 x4_1) else x3_1) = ji6 := hji6
    have H' := Aside0.mk H
    clear H
    have p351 : 0 ≤ (x4_1 : Int) := of_decide_eq_true (by first | (with_reducible assumption) | assumption)
    have q351 : x4_1 < (l0.length : Int) := of_decide_eq_true (by first | (with_reducible assumption) | assumption)
    obtain ⟨ad351, e351, hx351_0⟩ := Kd.at_int HR0.out x4_1 p351 q351
    obtain rfl : ad350 = ad351 := (by injection e351)
    replace hx351_0 := (HB.out.cell (World.block_lt_of_cell? w _ hx351_0)).trans hx351_0
    replace p351 := eq_true p351
    replace q351 := eq_true q351
    go_wp2
    go_roundg k1
    case measure => have := HK1.out; omega
    case rel => exact ⟨(ji6), (wrap64 (x4_1 + 1)), (by first | rfl | (simp; done) | (simp only [← hji6] <;> (first | rfl | simp)) | (simp [*]; done)), (by first | rfl | (simp; done) | (simp [*]; done)), H', ⟨by have := HK1.out; omega⟩, ⟨bel_now⟩⟩

end Go.Proofs.Ytclpojeofclbjaa.PFnExactRunLayer
