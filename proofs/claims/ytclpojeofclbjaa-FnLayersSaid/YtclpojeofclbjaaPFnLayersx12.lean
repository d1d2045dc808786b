import Derived.Test.YtclpojeofclbjaaPFnLayersx0
import Derived.Test.YtclpojeofclbjaaPFnLayersx11
namespace Go.Proofs.Ytclpojeofclbjaa.PFnLayers
open Go.RowKit Go.Proofs.YtclpojeofclbjaaW.PrintWords Go.Proofs.YtclpojeofclbjaaW.PrintLast Go.Proofs.YtclpojeofclbjaaW.PrintMore
attribute [local go_sem] max2_int min2_int max_two min_two max_three min_three max_four min_four
set_option maxHeartbeats 8000000
set_option maxRecDepth 100000
set_option linter.unusedVariables false
set_option linter.unusedSimpArgs false

mutual
def spec_l03Pool.l0 : Nat → Int → Int → Int → List Int → Int → Int → Int → Int → List Int → Int → Int → Int → Int → Int → Int → Int → List Int → List Int → Option (List Int)
  | 0, _, _, _, _, _, _, _, _, _, _, _, _, _, _, _, _, _, _ => none
  | k + 1, x2, x3, x4, x11, x12, x491000, x491001, x491002, x491003, x492000, x492001, x492002, x492003, x492004, x492005, x492006, x492007, x492008 => if x12 < x492002 then (spec_l03Pool.l1 k x2 x3 x4 x11 x12 0 x491000 x491001 x491002 x491003 x492000 x492001 x492002 x492003 x492004 x492005 x492006 x492007 x492008) else (some x11)
def spec_l03Pool.l1 : Nat → Int → Int → Int → List Int → Int → Int → Int → Int → Int → List Int → Int → Int → Int → Int → Int → Int → Int → List Int → List Int → Option (List Int)
  | 0, _, _, _, _, _, _, _, _, _, _, _, _, _, _, _, _, _, _, _ => none
  | k + 1, x2, x3, x4, x11, x12, x13, x491000, x491001, x491002, x491003, x492000, x492001, x492002, x492003, x492004, x492005, x492006, x492007, x492008 => if x13 < x492002 then ((spec_ItemAt.f k x491000 x491001 x491002 x491003 (wrap64 ((wrap64 (x2 * x492003)) + x12)) (wrap64 ((wrap64 (x3 * x492003)) + x13)) x4).bind fun bt495 => (if x11.length < 17592186044416 then (spec_l03Pool.l1 k x2 x3 x4 (x11 ++ [bt495.1]) x12 (wrap64 (x13 + 1)) x491000 x491001 x491002 x491003 x492000 x492001 x492002 x492003 x492004 x492005 x492006 x492007 x492008) else (none))) else (spec_l03Pool.l0 k x2 x3 x4 x11 (wrap64 (x12 + 1)) x491000 x491001 x491002 x491003 x492000 x492001 x492002 x492003 x492004 x492005 x492006 x492007 x492008)
end
def spec_l03Pool.f (k : Nat) (a0_0 : Int) (a0_1 : Int) (a0_2 : Int) (l0_3 : List Int) (a1_0 : Int) (a1_1 : Int) (a1_2 : Int) (a1_3 : Int) (a1_4 : Int) (a1_5 : Int) (a1_6 : Int) (l1_7 : List Int) (l1_8 : List Int) (a2 : Int) (a3 : Int) (a4 : Int) : Option (List Int) := spec_l03Pool.l0 k a2 a3 a4 (([] : List Int)) 0 a0_0 a0_1 a0_2 l0_3 a1_0 a1_1 a1_2 a1_3 a1_4 a1_5 a1_6 l1_7 l1_8
theorem spec_l03Pool.calls (k : Nat) (a0_0 : Int) (a0_1 : Int) (a0_2 : Int) (A0_3 : Option Addr) (c0_3 : Nat) (l0_3 : List Int) (a1_0 : Int) (a1_1 : Int) (a1_2 : Int) (a1_3 : Int) (a1_4 : Int) (a1_5 : Int) (a1_6 : Int) (A1_7 : Option Addr) (c1_7 : Nat) (l1_7 : List Int) (A1_8 : Option Addr) (c1_8 : Nat) (l1_8 : List Int) (a2 : Int) (a3 : Int) (a4 : Int) (r : List Int) (w : World) (hr0_3 : Kd.C (Kd.int .i64) w A0_3 l0_3.length l0_3) (hc0_3 : l0_3.length ≤ c0_3) (hr1_7 : Kd.C (Kd.int .i64) w A1_7 l1_7.length l1_7) (hc1_7 : l1_7.length ≤ c1_7) (hr1_8 : Kd.C (Kd.int .i64) w A1_8 l1_8.length l1_8) (hc1_8 : l1_8.length ≤ c1_8) (h : spec_l03Pool.f k a0_0 a0_1 a0_2 l0_3 a1_0 a1_1 a1_2 a1_3 a1_4 a1_5 a1_6 l1_7 l1_8 a2 a3 a4 = some r) :
   Calls Try.prog 100 #[.agg #[.int .i64 a0_0, .int .i64 a0_1, .int .i64 a0_2, .slice A0_3 l0_3.length c0_3], .agg #[.int .i64 a1_0, .int .i64 a1_1, .int .i64 a1_2, .int .i64 a1_3, .int .i64 a1_4, .int .i64 a1_5, .int .i64 a1_6, .slice A1_7 l1_7.length c1_7, .slice A1_8 l1_8.length c1_8], .int .i64 a2, .int .i64 a3, .int .i64 a4] w fun e w' => ∃ v0_ : Value, e = .returned (v0_) ∧ Kd.R (Kd.int .i64) 3 w' w.heap.size (fun _ => True) v0_ r ∧ Below w.heap.size w w' := by
  have hu33 := Try.underlying33;have hu37 := Try.underlying37;have HR0_3 := am hr0_3;have HC0_3 := am hc0_3;clear hr0_3 hc0_3;have HR1_7 := am hr1_7;have HC1_7 := am hc1_7;clear hr1_7 hc1_7;have HR1_8 := am hr1_8;have HC1_8 := am hc1_8;clear hr1_8 hc1_8;have HB := am (Below.refl w.heap.size w);have H : (spec_l03Pool.l0 k a2 a3 a4 (([] : List Int)) 0 a0_0 a0_1 a0_2 l0_3 a1_0 a1_1 a1_2 a1_3 a1_4 a1_5 a1_6 l1_7 l1_8) = some r := h;clear h;obtain ⟨y492, hy492⟩ : ∃ y_ : List Int, y_ = (([] : List Int)) := ⟨_, rfl⟩;replace H : (spec_l03Pool.l0 k a2 a3 a4 y492 0 a0_0 a0_1 a0_2 l0_3 a1_0 a1_1 a1_2 a1_3 a1_4 a1_5 a1_6 l1_7 l1_8) = some r := by first | (rw [hy492]; with_reducible exact H) | (have H2_ := (Option.bind_some _ _).symm.trans H; rw [hy492]; with_reducible exact H2_) | (have H2_ := (Option.bind_some _ _).symm.trans H; with_reducible exact H2_) | with_reducible exact H | (rw [hy492]; exact H) | exact H
  have Ny492 := am hy492;clear hy492;have H' := am H;clear H
  go_enter Try.func100, Try.ntmps100
  go_wp2_with (first | ((with_reducible refine gate_dst (N := 5) rfl ?_); refine boxM 5 #[.int .i64 a0_0, .int .i64 a0_1, .int .i64 a0_2, .slice A0_3 l0_3.length c0_3] 33 ?_; intro gb490 hg w6 BK490 hb; obtain ⟨HB, GW490, GE490⟩ := box_at w hb hg; clear hb hg) | ((with_reducible refine gate_dst (N := 6) rfl ?_); refine boxM 6 #[.int .i64 a1_0, .int .i64 a1_1, .int .i64 a1_2, .int .i64 a1_3, .int .i64 a1_4, .int .i64 a1_5, .int .i64 a1_6, .slice A1_7 l1_7.length c1_7, .slice A1_8 l1_8.length c1_8] 37 ?_; intro gb491 hg w7 BK491 hb; obtain ⟨HB, GW491, GE491⟩ := box_at w hb hg; obtain ⟨BK490, NB490_491, NB491_490⟩ := box_on gb490 hb hg; clear hb hg) | ((with_reducible refine gate_dst (N := 16) rfl ?_); refine Kd.R_lit (Kd.int .i64) _ 3 ?hg (N := 16) ?hd (xs := ([] : List Int)) (inner := []) (ok := fun _ => True) (okp := fun _ => True) ?hr ?hp (fun _ hk => hk) trivial (Below.refl _ _) (Nat.le_refl _) (by simp) ?_; (case hd => rfl); (case hg => rfl); (case hr => first | (go_simp; done) | (go_simp; rfl)); (case hp => exact (Reps.none _ _)); intro v493 w8 ho9 hb hg_ hnew_; clear hg_ hnew_; (first | rw [← Ny492.out] at ho9 | (simp only [Int.reduceToNat] at ho9; rw [← Ny492.out] at ho9)); have n0_ := am (Kd.R_lower ho9 (below_size bel_now)); replace HB := bel_on w hb; replace BK490 := blk_on gb490 hb; replace BK491 := blk_on gb491 hb; have HO494 := n0_; clear n0_; clear hb ho9))
  go_loopg [11, 12] k (fun kq v11 v12 w' => ∃ (x11_1 : List Int) (x12_1 : Int), v12 = .int .i64 x12_1 ∧ Aside0 (spec_l03Pool.l0 kq a2 a3 a4 x11_1 x12_1 a0_0 a0_1 a0_2 l0_3 a1_0 a1_1 a1_2 a1_3 a1_4 a1_5 a1_6 l1_7 l1_8 = some r) ∧ Aside0 (kq ≤ k) ∧ Aside0 (Kd.R (Kd.int .i64) 3 w' w.heap.size (fun _ => True) v11 x11_1) ∧ Aside0 (w'.heap[gb490]? = some (.cells #[.int .i64 a0_0, .int .i64 a0_1, .int .i64 a0_2, (.slice A0_3 l0_3.length c0_3)] 33 (0, 0))) ∧ Aside0 (w'.heap[gb491]? = some (.cells #[.int .i64 a1_0, .int .i64 a1_1, .int .i64 a1_2, .int .i64 a1_3, .int .i64 a1_4, .int .i64 a1_5, .int .i64 a1_6, (.slice A1_7 l1_7.length c1_7), (.slice A1_8 l1_8.length c1_8)] 37 (0, 0))) ∧ Aside0 (Below w.heap.size w w'))
  case atStart => exact ⟨(y492), (0), pv, H', ⟨Nat.le_refl _⟩, ⟨R_at HO494.out⟩, ⟨bks BK490⟩, ⟨bks BK491⟩, ⟨bel_now⟩⟩
  case round =>
   clear H';obtain ⟨x11_1, x12_1, rfl, HA, HK1, HO_11, BK490, BK491, HB⟩ := hrel
   cases gk with
   | zero => exact absurd HA.out (by simp [spec_l03Pool.l0])
   | succ k1 =>
    have H := HA.out;clear HA;simp only [spec_l03Pool.l0] at H;by_cases c10 : x12_1 < a1_2;rotate_left
    ·rw [if_neg c10] at H;have c10b0 : decide (x12_1 < a1_2) = false := decide_eq_false c10;clear c10;obtain rfl := Option.some.inj H;have hn23 := ne2 NB491_490;have hcz24 := cells9 BK491.out
     go_wp2
     go_ret
     exact ⟨_, eqN, R_at HO_11.out, bel_now⟩
    rw [if_pos c10] at H;have c10b0 : decide (x12_1 < a1_2) = true := decide_eq_true c10;clear c10;have H' := am H;clear H;have hn11 := ne2 NB491_490;have hcz12 := cells9 BK491.out
    go_wp2
    go_loopg [11, 13] k1 (fun kq v11 v13 w' => ∃ (x11_2 : List Int) (x13_2 : Int), v13 = .int .i64 x13_2 ∧ Aside0 (spec_l03Pool.l1 kq a2 a3 a4 x11_2 x12_1 x13_2 a0_0 a0_1 a0_2 l0_3 a1_0 a1_1 a1_2 a1_3 a1_4 a1_5 a1_6 l1_7 l1_8 = some r) ∧ Aside0 (kq ≤ k1) ∧ Aside0 (Kd.R (Kd.int .i64) 3 w' w.heap.size (fun _ => True) v11 x11_2) ∧ Aside0 (w'.heap[gb490]? = some (.cells #[.int .i64 a0_0, .int .i64 a0_1, .int .i64 a0_2, (.slice A0_3 l0_3.length c0_3)] 33 (0, 0))) ∧ Aside0 (w'.heap[gb491]? = some (.cells #[.int .i64 a1_0, .int .i64 a1_1, .int .i64 a1_2, .int .i64 a1_3, .int .i64 a1_4, .int .i64 a1_5, .int .i64 a1_6, (.slice A1_7 l1_7.length c1_7), (.slice A1_8 l1_8.length c1_8)] 37 (0, 0))) ∧ Aside0 (Below w.heap.size w w'))
    case atStart => exact ⟨(x11_1), (0), pv, H', ⟨Nat.le_refl _⟩, ⟨R_at HO_11.out⟩, ⟨bks BK490⟩, ⟨bks BK491⟩, ⟨bel_now⟩⟩
    case round =>
     clear H';try clear c10
     try clear c10b0
     try clear hcz12
     obtain ⟨x11_2, x13_2, rfl, HA, HK2, HO_11, BK490, BK491, HB⟩ := hrel
     cases gk with
     | zero => exact absurd HA.out (by simp [spec_l03Pool.l1])
     | succ k2 =>
      have H := HA.out;clear HA;simp only [spec_l03Pool.l1] at H;by_cases c13 : x13_2 < a1_2;rotate_left
      ·rw [if_neg c13] at H;have c13b0 : decide (x13_2 < a1_2) = false := decide_eq_false c13;clear c13;have H' := am H;clear H;have hn21 := ne2 NB491_490;have hcz22 := cells9 BK491.out
       go_wp2
       go_roundg k2
       case measure => have := HK1.out; have := HK2.out; omega
       case rel => exact ⟨(x11_2), (wrap64 (x12_1 + 1)), pv, H', ⟨by have := HK1.out; have := HK2.out; omega⟩, ⟨R_at HO_11.out⟩, ⟨bks BK490⟩, ⟨bks BK491⟩, ⟨bel_now⟩⟩
      rw [if_pos c13] at H;have c13b0 : decide (x13_2 < a1_2) = true := decide_eq_true c13;clear c13;replace H := Option.bind_eq_some_iff.mp H;obtain ⟨⟨t495, t496⟩, A140, H⟩ := H;(try dsimp only at H);have A14 := am A140;clear A140;obtain ⟨c15, H⟩ := gd H;have LMc15 := am c15;clear c15;obtain ⟨y497, hy497⟩ : ∃ y_ : List Int, y_ = (x11_2 ++ [t495]) := ⟨_, rfl⟩;replace H : (spec_l03Pool.l1 k2 a2 a3 a4 y497 x12_1 (wrap64 (x13_2 + 1)) a0_0 a0_1 a0_2 l0_3 a1_0 a1_1 a1_2 a1_3 a1_4 a1_5 a1_6 l1_7 l1_8) = some r := by first | (rw [hy497]; with_reducible exact H) | (have H2_ := (Option.bind_some _ _).symm.trans H; rw [hy497]; with_reducible exact H2_) | (have H2_ := (Option.bind_some _ _).symm.trans H; with_reducible exact H2_) | with_reducible exact H | (rw [hy497]; exact H) | exact H
      have Ny497 := am hy497;clear hy497;have H' := am H;clear H;have hn16 := ne2 NB491_490;have hcz17 := cells9 BK491.out;have hcz18 := cells4 BK490.out
      go_wp2_with (first | ((with_reducible refine gate_callee (f := 99) rfl ?_); refine gM 44 Try.func99 #[.agg #[.int .i64 a0_0, .int .i64 a0_1, .int .i64 a0_2, .slice A0_3 l0_3.length c0_3], .int .i64 (wrap64 ((wrap64 (a2 * a1_3)) + x12_1)), .int .i64 (wrap64 ((wrap64 (a3 * a1_3)) + x13_2)), .int .i64 a4] rfl ?_; (with_reducible refine (spec_ItemAt.calls k2 a0_0 a0_1 a0_2 _ _ l0_3 (wrap64 ((wrap64 (a2 * a1_3)) + x12_1)) (wrap64 ((wrap64 (a3 * a1_3)) + x13_2)) a4 t495 t496 _ ?side1 HC0_3.out A14.out).mono ?_); (case side1 => exact C_now HR0_3.out); rintro e w19 ⟨rfl, hb⟩; refine ⟨_, rfl, ?_⟩; replace HO_11 := am (Kd.R_below (R_at HO_11.out) hb); replace HB := bel_on w hb; replace BK490 := blk_on gb490 hb; replace BK491 := blk_on gb491 hb; (try clear hb)) | ((with_reducible refine gate_builtin (b := .append) (xs := #[.tmp 47, .tmp 49]) rfl ?_); at_builtin; refine Kd.R_append (Kd.int .i64) (w0 := w) w.heap.size rfl (.tmp 47) (.tmp 49) 24 3 (.int .i64 0) 8 rfl Try.underlying24 info3 rfl (by decide) (by omega) u11 x11_2 t495 [.int .i64 t495] (fun _ => True) (fun _ => False) rfl rfl ?aP (fun _ hk => hk.elim) ?aF ?aO ?aB ?aS ?aL ?_; (case aP => exact rfl); (case aB => exact bel_now); (case aF => exact (fun _ _ => trivial)); (case aO => exact (R_at HO_11.out)); (case aS => exact (below_size bel_now)); (case aL => have := LMc15.out; omega); intro v498 w20 ho hb hg hat; rw [← Ny497.out] at ho; have n0_ := am (blk_grown (g := gb490) blk_now hg (Kd.R_ne HO_11.out BK490.out (by decide))); have n1_ := am (blk_grown (g := gb491) blk_now hg (Kd.R_ne HO_11.out BK491.out (by decide))); have n2_ := am (hb); have n3_ := am (ho); clear BK490; clear BK491; clear HB; clear HO_11; have BK490 := n0_; have BK491 := n1_; have HB := n2_; have HO499 := n3_; clear n0_ n1_ n2_ n3_; clear ho hb hg hat))
      go_roundg k2
      case measure => have := HK1.out; have := HK2.out; omega
      case rel => exact ⟨(y497), (wrap64 (x13_2 + 1)), pv, H', ⟨by have := HK1.out; have := HK2.out; omega⟩, ⟨R_at HO499.out⟩, ⟨bks BK490⟩, ⟨bks BK491⟩, ⟨bel_now⟩⟩

end Go.Proofs.Ytclpojeofclbjaa.PFnLayers
