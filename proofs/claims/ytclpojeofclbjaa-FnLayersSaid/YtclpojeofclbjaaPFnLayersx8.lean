import Derived.Test.YtclpojeofclbjaaPFnLayersx0
import Derived.Test.YtclpojeofclbjaaPFnLayersx2
import Derived.Test.YtclpojeofclbjaaPFnLayersx7
namespace Go.Proofs.Ytclpojeofclbjaa.PFnLayers
open Go.RowKit Go.Proofs.YtclpojeofclbjaaW.PrintWords Go.Proofs.YtclpojeofclbjaaW.PrintLast Go.Proofs.YtclpojeofclbjaaW.PrintMore
attribute [local go_sem] max2_int min2_int max_two min_two max_three min_three max_four min_four
set_option maxHeartbeats 8000000
set_option maxRecDepth 100000
set_option linter.unusedVariables false
set_option linter.unusedSimpArgs false

mutual
def spec_TensorOk.j0 : Nat → Bool → Int → Int → Int → List Int → Option (Bool)
  | 0, _, _, _, _, _ => none
  | k + 1, x16, x432000, x432001, x432002, x432003 => if x16 = true then (some false) else (spec_TensorOk.l0 k 0 x432000 x432001 x432002 x432003)
def spec_TensorOk.l0 : Nat → Int → Int → Int → Int → List Int → Option (Bool)
  | 0, _, _, _, _, _ => none
  | k + 1, x3, x432000, x432001, x432002, x432003 => if x3 < (x432003.length : Int) then (if 0 ≤ x3 then ((spec_l02Int8.f (rd x432003 x3)).bind fun t435 => (if t435 = true then (spec_TensorOk.l0 k (wrap64 (x3 + 1)) x432000 x432001 x432002 x432003) else (some false))) else (none)) else (some true)
end
def spec_TensorOk.f (k : Nat) (a0_0 : Int) (a0_1 : Int) (a0_2 : Int) (l0_3 : List Int) : Option (Bool) := (spec_ShapeOk.f a0_0 a0_1 a0_2).bind fun t432 => (if t432 = true then ((spec_SizeOf.f a0_0 a0_1 a0_2).bind fun t433 => (spec_TensorOk.j0 k ((l0_3.length : Int) != t433) a0_0 a0_1 a0_2 l0_3)) else (spec_TensorOk.j0 k true a0_0 a0_1 a0_2 l0_3))
def spec_TensorOk.T1 : Bool × List (List Nat × List Nat) := (true, [([], []), ([0], [0]), ([1], [1]), ([2], [2]), ([3, 2], [3]), ([4], [4]), ([5, 4], [4, 5]), ([6, 4], [4, 6]), ([4], [4]), ([8, 4], [4, 8]), ([9, 4, 4], [4, 9]), ([7, 10, 4], [4, 7, 10]), ([4, 11], [4, 11])])
def spec_TensorOk.B1 : List Nat := [0, 1, 3, 7, 15, 31, 63, 127, 31, 287, 799, 2047, 4095]
theorem spec_TensorOk.tab1 : rtab .any (opsOf Try.f32 1) = spec_TensorOk.T1 := by kernel_rfl
theorem spec_TensorOk.bits1 : waitsOk spec_TensorOk.T1.2 spec_TensorOk.B1 = true := by kernel_rfl
theorem spec_TensorOk.calls (k : Nat) (a0_0 : Int) (a0_1 : Int) (a0_2 : Int) (A0_3 : Option Addr) (c0_3 : Nat) (l0_3 : List Int) (r : Bool) (w : World) (hr0_3 : Kd.C (Kd.int .i64) w A0_3 l0_3.length l0_3) (hc0_3 : l0_3.length ≤ c0_3) (h : spec_TensorOk.f k a0_0 a0_1 a0_2 l0_3 = some r) :
   Calls Try.prog 32 #[.agg #[.int .i64 a0_0, .int .i64 a0_1, .int .i64 a0_2, .slice A0_3 l0_3.length c0_3]] w fun e w' => e = .returned (.bool r) ∧ Below w.heap.size w w' := by
  have hu33 := Try.underlying33;have hu31 := Try.underlying31;have HR0_3 := am hr0_3;have HC0_3 := am hc0_3;clear hr0_3 hc0_3;have HB := am (Below.refl w.heap.size w);have H : ((spec_ShapeOk.f a0_0 a0_1 a0_2).bind fun t432 => (if t432 = true then ((spec_SizeOf.f a0_0 a0_1 a0_2).bind fun t433 => (spec_TensorOk.j0 k ((l0_3.length : Int) != t433) a0_0 a0_1 a0_2 l0_3)) else (spec_TensorOk.j0 k true a0_0 a0_1 a0_2 l0_3))) = some r := h;clear h;have HC2 := am H;clear H
  go_enter Try.func32, Try.ntmps32
  go_upto_region 1 with (first | ((with_reducible refine gate_dst (N := 1) rfl ?_); (try (refine gate_guard (by rfl) ?_; dsimp only)); refine boxM 1 #[.int .i64 a0_0, .int .i64 a0_1, .int .i64 a0_2, .slice A0_3 l0_3.length c0_3] 33 ?_; intro gb431 hg w3 BK431 hb; obtain ⟨HB, GW431, GE431⟩ := box_at w hb hg; clear hb hg))
  (try simp only [Act.put, zA, zB, zC])
  go_cut [16] (fun v16 wc => ∃ (kq : Nat) (x16_1 : Bool), v16 = .bool x16_1 ∧ Aside0 (spec_TensorOk.j0 kq x16_1 a0_0 a0_1 a0_2 l0_3 = some r) ∧ Aside0 (kq ≤ k) ∧ Aside0 (wc.heap[gb431]? = some (.cells #[.int .i64 a0_0, .int .i64 a0_1, .int .i64 a0_2, (.slice A0_3 l0_3.length c0_3)] 33 (0, 0))) ∧ Aside0 (Below w.heap.size w wc))
  case first =>
   have H := HC2.out;clear HC2;obtain ⟨t432, A4, H⟩ := bnd H;(try dsimp only at H);by_cases c5 : t432 = true;rotate_left
   ·replace c5 := Bool.eq_false_iff.mpr c5;subst c5
    rw [if_neg (show ¬ (false = true) by decide)] at H
    have H' := am H;clear H
    try go_wp2
    replace BK431 := am (blk_drew BK431.out);replace HB := am (below_drew1 HB.out)
    refine start_ (n := 13) (S := fun w' => w'.cell? ⟨gb431, 0, none⟩ = some (.int .i64 a0_0) ∧ w'.cell? ⟨gb431, 1, none⟩ = some (.int .i64 a0_1) ∧ w'.cell? ⟨gb431, 2, none⟩ = some (.int .i64 a0_2) ∧ w'.cell? ⟨gb431, 3, none⟩ = some (.slice A0_3 l0_3.length c0_3)) (ds := []) #[O, O, O, O, O, O, O, O, O, O, O, O, O] (by kernel_rfl) rfl rfl ⟨bc BK431 0, bc BK431 1, bc BK431 2, bc BK431 3⟩ (fun hHeld => ?_); refine with_tabW spec_TensorOk.tab1 spec_TensorOk.bits1 (fun HT_ HW_ => ?_)
    generalize w3.drew = w10 at BK431 HB hHeld ⊢
    refine stepP 0 (some 4) (tk 13 1) (any_of HT_.out (by kernel_rfl)) ?_
    refine stepT 1 (some 5) (tk 13 3) (take_ofW HT_.out HW_.out (by kernel_rfl)) hHeld ?_
    refine one_ (i := 2) (N := some 6) #[I, I, I, O, O, O, O, O, O, O, O, O, O] rfl rfl (one_of HT_.out (by kernel_rfl)) (by decide) (fun K hK => ?_)
    refine goes_ Try.func72 (by kernel_rfl) rfl #[.agg #[.int .i64 a0_0, .int .i64 a0_1, .int .i64 a0_2]] (by rfl) rfl rfl (by (try simp only [List.map_toArray, List.map_cons, List.map_nil]); first | done | rfl | (simp only [List.length_drop, List.length_take]; rfl)) ?_
    with_reducible refine (spec_ShapeOk.calls a0_0 a0_1 a0_2 false _ A4.out).mono ?_
    rintro e w11 ⟨rfl, hb⟩
    refine ⟨_, rfl, ?_⟩
    replace BK431 := blk_on gb431 hb;replace HB := bel_on w hb;(try clear hb);(try clear hb2);(try clear hb3);(try clear hk);(try clear hi)
    refine hK.out _ _ ⟨bc BK431 0, bc BK431 1, bc BK431 2, bc BK431 3⟩ (fun hHeld => ?_)
    clear hK K
    refine normP 6 ?_
    refine stepP 3 (some 7) (tk 13 15) (any_of HT_.out (by kernel_rfl)) ?_
    refine stepP 4 (some 8) (tk 13 31) (any_of HT_.out (by kernel_rfl)) ?_
    refine stepU 5 (some 9) (tk 13 63) (any_of HT_.out (by kernel_rfl)) ?_
    refine stepU 6 (some 10) (tk 13 127) (any_of HT_.out (by kernel_rfl)) ?_
    refine stepU 7 (some 11) (tk 13 255) (any_of HT_.out (by kernel_rfl)) ?_
    refine stepU 8 (some 12) (tk 13 511) (any_of HT_.out (by kernel_rfl)) ?_
    refine stepU 9 (some 13) (tk 13 1023) (any_of HT_.out (by kernel_rfl)) ?_
    refine stepU 10 (some 14) (tk 13 2047) (any_of HT_.out (by kernel_rfl)) ?_
    refine stepU 11 (some 15) (tk 13 4095) (any_of HT_.out (by kernel_rfl)) ?_
    refine stepP 12 (some 16) (tk 13 8191) (any_of HT_.out (by kernel_rfl)) ?_
    refine done_ (done_of HT_.out (by kernel_rfl)) ?_
    try go_wp2
    go_meet
    case rel => exact ⟨_, (true), pv, H', ⟨by first | omega | exact Nat.le_refl _⟩, ⟨bks BK431⟩, ⟨bel_now⟩⟩
   subst c5;rw [if_pos rfl] at H;obtain ⟨t433, A6, H⟩ := bnd H;(try dsimp only at H);have H' := am H;clear H
   try go_wp2
   replace BK431 := am (blk_drew BK431.out);replace HB := am (below_drew1 HB.out)
   refine start_ (n := 13) (S := fun w' => w'.cell? ⟨gb431, 0, none⟩ = some (.int .i64 a0_0) ∧ w'.cell? ⟨gb431, 1, none⟩ = some (.int .i64 a0_1) ∧ w'.cell? ⟨gb431, 2, none⟩ = some (.int .i64 a0_2) ∧ w'.cell? ⟨gb431, 3, none⟩ = some (.slice A0_3 l0_3.length c0_3)) (ds := []) #[O, O, O, O, O, O, O, O, O, O, O, O, O] (by kernel_rfl) rfl rfl ⟨bc BK431 0, bc BK431 1, bc BK431 2, bc BK431 3⟩ (fun hHeld => ?_); refine with_tabW spec_TensorOk.tab1 spec_TensorOk.bits1 (fun HT_ HW_ => ?_)
   generalize w3.drew = w7 at BK431 HB hHeld ⊢
   refine stepP 0 (some 4) (tk 13 1) (any_of HT_.out (by kernel_rfl)) ?_
   refine stepT 1 (some 5) (tk 13 3) (take_ofW HT_.out HW_.out (by kernel_rfl)) hHeld ?_
   refine one_ (i := 2) (N := some 6) #[I, I, I, O, O, O, O, O, O, O, O, O, O] rfl rfl (one_of HT_.out (by kernel_rfl)) (by decide) (fun K hK => ?_)
   refine goes_ Try.func72 (by kernel_rfl) rfl #[.agg #[.int .i64 a0_0, .int .i64 a0_1, .int .i64 a0_2]] (by rfl) rfl rfl (by (try simp only [List.map_toArray, List.map_cons, List.map_nil]); first | done | rfl | (simp only [List.length_drop, List.length_take]; rfl)) ?_
   with_reducible refine (spec_ShapeOk.calls a0_0 a0_1 a0_2 true _ A4.out).mono ?_
   rintro e w8 ⟨rfl, hb⟩
   refine ⟨_, rfl, ?_⟩
   replace BK431 := blk_on gb431 hb;replace HB := bel_on w hb;(try clear hb);(try clear hb2);(try clear hb3);(try clear hk);(try clear hi)
   refine hK.out _ _ ⟨bc BK431 0, bc BK431 1, bc BK431 2, bc BK431 3⟩ (fun hHeld => ?_)
   clear hK K
   refine normP 6 ?_
   refine stepP 3 (some 7) (tk 13 15) (any_of HT_.out (by kernel_rfl)) ?_
   refine stepP 4 (some 8) (tk 13 31) (any_of HT_.out (by kernel_rfl)) ?_
   refine stepP 5 (some 9) (tk 13 63) (any_of HT_.out (by kernel_rfl)) ?_
   refine stepP 8 (some 12) (tk 13 319) (any_of HT_.out (by kernel_rfl)) ?_
   refine stepT 6 (some 10) (tk 13 383) (take_ofW HT_.out HW_.out (by kernel_rfl)) hHeld ?_
   refine stepP 7 (some 11) (tk 13 511) (any_of HT_.out (by kernel_rfl)) ?_
   refine stepT 9 (some 13) (tk 13 1023) (take_ofW HT_.out HW_.out (by kernel_rfl)) hHeld ?_
   refine one_ (i := 10) (N := some 14) #[I, I, I, I, I, I, I, I, I, I, I, O, O] rfl rfl (one_of HT_.out (by kernel_rfl)) (by decide) (fun K hK => ?_)
   refine goes_ Try.func73 (by kernel_rfl) rfl #[.agg #[.int .i64 a0_0, .int .i64 a0_1, .int .i64 a0_2]] (by rfl) rfl rfl (by (try simp only [List.map_toArray, List.map_cons, List.map_nil]); first | done | rfl | (simp only [List.length_drop, List.length_take]; rfl)) ?_
   with_reducible refine (spec_SizeOf.calls a0_0 a0_1 a0_2 t433 _ A6.out).mono ?_
   rintro e w9 ⟨rfl, hb⟩
   refine ⟨_, rfl, ?_⟩
   replace BK431 := blk_on gb431 hb;replace HB := bel_on w hb;(try clear hb);(try clear hb2);(try clear hb3);(try clear hk);(try clear hi)
   refine hK.out _ _ ⟨bc BK431 0, bc BK431 1, bc BK431 2, bc BK431 3⟩ (fun hHeld => ?_)
   clear hK K
   refine normP 14 ?_
   refine stepP 11 (some 15) (tk 13 4095) (any_of HT_.out (by kernel_rfl)) ?_
   refine stepP 12 (some 16) (tk 13 8191) (any_of HT_.out (by kernel_rfl)) ?_
   refine done_ (done_of HT_.out (by kernel_rfl)) ?_
   try go_wp2
   go_meet
   case rel => exact ⟨_, (((l0_3.length : Int) != t433)), pv, H', ⟨by first | omega | exact Nat.le_refl _⟩, ⟨bks BK431⟩, ⟨bel_now⟩⟩
  case rest =>
   clear HC2;obtain ⟨kq, x16_1, rfl, HA, HJ1, BK431, HB⟩ := hcut
   cases kq with
   | zero => exact absurd HA.out (by simp [spec_TensorOk.j0])
   | succ kj1 =>
    have H := HA.out;clear HA;simp only [spec_TensorOk.j0] at H;by_cases c12 : x16_1 = true
    ·subst c12;rw [if_pos rfl] at H;obtain rfl := Option.some.inj H
     go_wp2
     go_ret
     exact ⟨eqN, bel_now⟩
    replace c12 := Bool.eq_false_iff.mpr c12;subst c12
    rw [if_neg (show ¬ (false = true) by decide)] at H
    have H' := am H;clear H
    go_wp2
    go_loopg [3] kj1 (fun kq v3 w' => ∃ (x3_2 : Int), v3 = .int .i64 x3_2 ∧ Aside0 (spec_TensorOk.l0 kq x3_2 a0_0 a0_1 a0_2 l0_3 = some r) ∧ Aside0 (kq ≤ kj1) ∧ Aside0 (w'.heap[gb431]? = some (.cells #[.int .i64 a0_0, .int .i64 a0_1, .int .i64 a0_2, (.slice A0_3 l0_3.length c0_3)] 33 (0, 0))) ∧ Aside0 (Below w.heap.size w w'))
    case atStart => exact ⟨(0), pv, H', ⟨Nat.le_refl _⟩, ⟨bks BK431⟩, ⟨bel_now⟩⟩
    case round =>
     clear H';try clear c12
     obtain ⟨x3_2, rfl, HA, HK2, BK431, HB⟩ := hrel
     cases gk with
     | zero => exact absurd HA.out (by simp [spec_TensorOk.l0])
     | succ k2 =>
      have H := HA.out;clear HA;simp only [spec_TensorOk.l0] at H;by_cases c13 : x3_2 < (l0_3.length : Int);rotate_left
      ·rw [if_neg c13] at H;have c13b0 : decide (x3_2 < (l0_3.length : Int)) = false := decide_eq_false c13;clear c13;obtain rfl := Option.some.inj H;have hcz19 := cells4 BK431.out
       go_wp2
       go_ret
       exact ⟨eqN, bel_now⟩
      rw [if_pos c13] at H;have c13b0 : decide (x3_2 < (l0_3.length : Int)) = true := decide_eq_true c13;clear c13;obtain ⟨c14, H⟩ := gd H;have c14b0 : decide (0 ≤ x3_2) = true := decide_eq_true c14;clear c14;obtain ⟨t435, A15, H⟩ := bnd H;(try dsimp only at H);by_cases c16 : t435 = true;rotate_left
      ·replace c16 := Bool.eq_false_iff.mpr c16;subst c16
       rw [if_neg (show ¬ (false = true) by decide)] at H
       obtain rfl := Option.some.inj H;have hcz18 := cells4 BK431.out;have p434 : 0 ≤ (x3_2 : Int) := of_decide_eq_true (by first | (with_reducible assumption) | assumption);have q434 : x3_2 < (l0_3.length : Int) := of_decide_eq_true (by first | (with_reducible assumption) | assumption);obtain ⟨ad434, e434, hx434_0⟩ := Kd.at_int HR0_3.out x3_2 p434 q434;cases e434;replace hx434_0 := (HB.out.cell (World.block_lt_of_cell? w _ hx434_0)).trans hx434_0;replace p434 := eq_true p434;replace q434 := eq_true q434
       go_wp2_with (first | ((with_reducible refine gate_callee (f := 74) rfl ?_); refine gM 29 Try.func74 #[.int .i64 (rd l0_3 x3_2)] rfl ?_; (with_reducible refine (spec_l02Int8.calls (rd l0_3 x3_2) false _ A15.out).mono ?_); rintro e w' ⟨rfl, ⟨nd, rfl⟩⟩; refine ⟨_, rfl, ?_⟩))
       go_ret
       exact ⟨eqN, bel_now⟩
      subst c16;rw [if_pos rfl] at H;have H' := am H;clear H;have hcz17 := cells4 BK431.out;have p434 : 0 ≤ (x3_2 : Int) := of_decide_eq_true (by first | (with_reducible assumption) | assumption);have q434 : x3_2 < (l0_3.length : Int) := of_decide_eq_true (by first | (with_reducible assumption) | assumption);obtain ⟨ad434, e434, hx434_0⟩ := Kd.at_int HR0_3.out x3_2 p434 q434;cases e434;replace hx434_0 := (HB.out.cell (World.block_lt_of_cell? w _ hx434_0)).trans hx434_0;replace p434 := eq_true p434;replace q434 := eq_true q434
      go_wp2_with (first | ((with_reducible refine gate_callee (f := 74) rfl ?_); refine gM 29 Try.func74 #[.int .i64 (rd l0_3 x3_2)] rfl ?_; (with_reducible refine (spec_l02Int8.calls (rd l0_3 x3_2) true _ A15.out).mono ?_); rintro e w' ⟨rfl, ⟨nd, rfl⟩⟩; refine ⟨_, rfl, ?_⟩))
      go_roundg k2
      case measure => have := HJ1.out; have := HK2.out; omega
      case rel => exact ⟨(wrap64 (x3_2 + 1)), pv, H', ⟨by have := HJ1.out; have := HK2.out; omega⟩, ⟨bks BK431⟩, ⟨bel_now⟩⟩

end Go.Proofs.Ytclpojeofclbjaa.PFnLayers
