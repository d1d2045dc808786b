import Derived.Test.YtclpojeofclbjaaPFnExactEvalModelx0
import Derived.Test.YtclpojeofclbjaaPFnExactEvalModelx2
import Derived.Test.YtclpojeofclbjaaPFnExactEvalModelx4
import Derived.Test.YtclpojeofclbjaaPFnExactEvalModelx6
namespace Go.Proofs.Ytclpojeofclbjaa.PFnExactEvalModel
open Go.RowKit Go.Proofs.YtclpojeofclbjaaW.PrintWords Go.Proofs.YtclpojeofclbjaaW.PrintLast Go.Proofs.YtclpojeofclbjaaW.PrintMore
attribute [local go_sem] max2_int min2_int max_two min_two max_three min_three max_four min_four
set_option maxHeartbeats 8000000
set_option maxRecDepth 100000
set_option linter.unusedVariables false
set_option linter.unusedSimpArgs false

def spec_ModelOk.f (k : Nat) (a0_0 : Int) (a0_1 : Int) (a0_2 : Int) (l0_3 : List (S37)) : Option (Bool) := (spec_l04Shapes.f k a0_0 a0_1 a0_2 l0_3).bind fun bt212 => (some bt212.2)
theorem spec_ModelOk.calls (k : Nat) (a0_0 : Int) (a0_1 : Int) (a0_2 : Int) (A0_3 : Option Addr) (c0_3 : Nat) (l0_3 : List (S37)) (r : Bool) (w : World) (hr0_3 : Kd.C k37 w A0_3 l0_3.length l0_3) (hc0_3 : l0_3.length ≤ c0_3) (h : spec_ModelOk.f k a0_0 a0_1 a0_2 l0_3 = some r) :
   Calls Try.prog 80 #[.agg #[.int .i64 a0_0, .int .i64 a0_1, .int .i64 a0_2, .slice A0_3 l0_3.length c0_3]] w fun e w' => e = .returned (.bool r) ∧ Below w.heap.size w w' := by
  have hu53 := Try.underlying53;have HR0_3 := am hr0_3;have HC0_3 := am hc0_3;clear hr0_3 hc0_3;have HB := am (Below.refl w.heap.size w);have H : ((spec_l04Shapes.f k a0_0 a0_1 a0_2 l0_3).bind fun bt212 => (some bt212.2)) = some r := h;clear h;replace H := Option.bind_eq_some_iff.mp H;obtain ⟨⟨t212, t215⟩, A20, H⟩ := H;(try dsimp only at H);have A2 := am A20;clear A20;obtain rfl := Option.some.inj H
  go_enter Try.func80, Try.ntmps80
  go_wp2_with (first | ((with_reducible refine gate_dst (N := 1) rfl ?_); refine boxM 1 #[.int .i64 a0_0, .int .i64 a0_1, .int .i64 a0_2, .slice A0_3 l0_3.length c0_3] 53 ?_; intro gb211 hg w3 BK211 hb; obtain ⟨HB, GW211, GE211⟩ := box_at w hb hg; clear hb hg; have hcz4 := cells4 BK211.out) | ((with_reducible refine gate_callee (f := 107) rfl ?_); refine gM 7 Try.func107 #[.agg #[.int .i64 a0_0, .int .i64 a0_1, .int .i64 a0_2, .slice A0_3 l0_3.length c0_3]] rfl ?_; (with_reducible refine (spec_l04Shapes.calls k a0_0 a0_1 a0_2 _ _ l0_3 t212 t215 _ ?side1 HC0_3.out A2.out).mono ?_); (case side1 => exact C_now HR0_3.out); rintro e w5 ⟨v213, rfl, ho0, hb⟩; refine ⟨_, rfl, ?_⟩; have n0_ := am (Kd.R_lower ho0 (below_size bel_now)); replace HB := bel_on w hb; replace BK211 := blk_on gb211 hb; have HO214 := n0_; clear n0_; (try clear hb); (try clear ho0)))
  go_ret
  exact ⟨eqN, bel_now⟩

mutual
def spec_TensorOk.j0 : Nat → Bool → Int → Int → Int → List Int → Option (Bool)
  | 0, _, _, _, _, _ => none
  | k + 1, x16, x217000, x217001, x217002, x217003 => if x16 = true then (some false) else (spec_TensorOk.l0 k 0 x217000 x217001 x217002 x217003)
def spec_TensorOk.l0 : Nat → Int → Int → Int → Int → List Int → Option (Bool)
  | 0, _, _, _, _, _ => none
  | k + 1, x3, x217000, x217001, x217002, x217003 => if x3 < (x217003.length : Int) then (if 0 ≤ x3 then ((spec_l02Int8.f (rd x217003 x3)).bind fun t220 => (if t220 = true then (spec_TensorOk.l0 k (wrap64 (x3 + 1)) x217000 x217001 x217002 x217003) else (some false))) else (none)) else (some true)
end
def spec_TensorOk.f (k : Nat) (a0_0 : Int) (a0_1 : Int) (a0_2 : Int) (l0_3 : List Int) : Option (Bool) := (spec_ShapeOk.f a0_0 a0_1 a0_2).bind fun t217 => (if t217 = true then ((spec_SizeOf.f a0_0 a0_1 a0_2).bind fun t218 => (spec_TensorOk.j0 k ((l0_3.length : Int) != t218) a0_0 a0_1 a0_2 l0_3)) else (spec_TensorOk.j0 k true a0_0 a0_1 a0_2 l0_3))
def spec_TensorOk.T1 : Bool × List (List Nat × List Nat) := (true, [([], []), ([0], [0]), ([1], [1]), ([2], [2]), ([3, 2], [3]), ([4], [4]), ([5, 4], [4, 5]), ([6, 4], [4, 6]), ([4], [4]), ([8, 4], [4, 8]), ([9, 4, 4], [4, 9]), ([7, 10, 4], [4, 7, 10]), ([4, 11], [4, 11])])
def spec_TensorOk.B1 : List Nat := [0, 1, 3, 7, 15, 31, 63, 127, 31, 287, 799, 2047, 4095]
theorem spec_TensorOk.tab1 : rtab .any (opsOf Try.f32 1) = spec_TensorOk.T1 := by kernel_rfl
theorem spec_TensorOk.bits1 : waitsOk spec_TensorOk.T1.2 spec_TensorOk.B1 = true := by kernel_rfl
theorem spec_TensorOk.calls (k : Nat) (a0_0 : Int) (a0_1 : Int) (a0_2 : Int) (A0_3 : Option Addr) (c0_3 : Nat) (l0_3 : List Int) (r : Bool) (w : World) (hr0_3 : Kd.C (Kd.int .i64) w A0_3 l0_3.length l0_3) (hc0_3 : l0_3.length ≤ c0_3) (h : spec_TensorOk.f k a0_0 a0_1 a0_2 l0_3 = some r) :
   Calls Try.prog 32 #[.agg #[.int .i64 a0_0, .int .i64 a0_1, .int .i64 a0_2, .slice A0_3 l0_3.length c0_3]] w fun e w' => e = .returned (.bool r) ∧ Below w.heap.size w w' := by
  have hu33 := Try.underlying33;have hu31 := Try.underlying31;have HR0_3 := am hr0_3;have HC0_3 := am hc0_3;clear hr0_3 hc0_3;have HB := am (Below.refl w.heap.size w);have H : ((spec_ShapeOk.f a0_0 a0_1 a0_2).bind fun t217 => (if t217 = true then ((spec_SizeOf.f a0_0 a0_1 a0_2).bind fun t218 => (spec_TensorOk.j0 k ((l0_3.length : Int) != t218) a0_0 a0_1 a0_2 l0_3)) else (spec_TensorOk.j0 k true a0_0 a0_1 a0_2 l0_3))) = some r := h;clear h;have HC2 := am H;clear H
  go_enter Try.func32, Try.ntmps32
  go_upto_region 1 with (first | ((with_reducible refine gate_dst (N := 1) rfl ?_); (try (refine gate_guard (by rfl) ?_; dsimp only)); refine boxM 1 #[.int .i64 a0_0, .int .i64 a0_1, .int .i64 a0_2, .slice A0_3 l0_3.length c0_3] 33 ?_; intro gb216 hg w3 BK216 hb; obtain ⟨HB, GW216, GE216⟩ := box_at w hb hg; clear hb hg))
  (try simp only [Act.put, zA, zB, zC])
  go_cut [16] (fun v16 wc => ∃ (kq : Nat) (x16_1 : Bool), v16 = .bool x16_1 ∧ Aside0 (spec_TensorOk.j0 kq x16_1 a0_0 a0_1 a0_2 l0_3 = some r) ∧ Aside0 (kq ≤ k) ∧ Aside0 (wc.heap[gb216]? = some (.cells #[.int .i64 a0_0, .int .i64 a0_1, .int .i64 a0_2, (.slice A0_3 l0_3.length c0_3)] 33 (0, 0))) ∧ Aside0 (Below w.heap.size w wc))
  case first =>
   have H := HC2.out;clear HC2;obtain ⟨t217, A4, H⟩ := bnd H;(try dsimp only at H);by_cases c5 : t217 = true;rotate_left
   ·replace c5 := Bool.eq_false_iff.mpr c5;subst c5
    rw [if_neg (show ¬ (false = true) by decide)] at H
    have H' := am H;clear H
    try go_wp2
    replace BK216 := am (blk_drew BK216.out);replace HB := am (below_drew1 HB.out)
    refine start_ (n := 13) (S := fun w' => w'.cell? ⟨gb216, 0, none⟩ = some (.int .i64 a0_0) ∧ w'.cell? ⟨gb216, 1, none⟩ = some (.int .i64 a0_1) ∧ w'.cell? ⟨gb216, 2, none⟩ = some (.int .i64 a0_2) ∧ w'.cell? ⟨gb216, 3, none⟩ = some (.slice A0_3 l0_3.length c0_3)) (ds := []) #[O, O, O, O, O, O, O, O, O, O, O, O, O] (by kernel_rfl) rfl rfl ⟨bc BK216 0, bc BK216 1, bc BK216 2, bc BK216 3⟩ (fun hHeld => ?_); refine with_tabW spec_TensorOk.tab1 spec_TensorOk.bits1 (fun HT_ HW_ => ?_)
    generalize w3.drew = w10 at BK216 HB hHeld ⊢
    refine stepP 0 (some 4) (tk 13 1) (any_of HT_.out (by kernel_rfl)) ?_
    refine stepT 1 (some 5) (tk 13 3) (take_ofW HT_.out HW_.out (by kernel_rfl)) hHeld ?_
    refine one_ (i := 2) (N := some 6) #[I, I, I, O, O, O, O, O, O, O, O, O, O] rfl rfl (one_of HT_.out (by kernel_rfl)) (by decide) (fun K hK => ?_)
    refine goes_ Try.func72 (by kernel_rfl) rfl #[.agg #[.int .i64 a0_0, .int .i64 a0_1, .int .i64 a0_2]] (by rfl) rfl rfl (by (try simp only [List.map_toArray, List.map_cons, List.map_nil]); first | done | rfl | (simp only [List.length_drop, List.length_take]; rfl)) ?_
    with_reducible refine (spec_ShapeOk.calls a0_0 a0_1 a0_2 false _ A4.out).mono ?_
    rintro e w11 ⟨rfl, hb⟩
    refine ⟨_, rfl, ?_⟩
    replace BK216 := blk_on gb216 hb;replace HB := bel_on w hb;(try clear hb)
    refine hK.out _ _ ⟨bc BK216 0, bc BK216 1, bc BK216 2, bc BK216 3⟩ (fun hHeld => ?_)
    clear hK K
    refine normP 6 ?_
    refine stepP 3 (some 7) (tk 13 15) (any_of HT_.out (by kernel_rfl)) ?_
    refine stepP 4 (some 8) (tk 13 31) (any_of HT_.out (by kernel_rfl)) ?_
    refine stepU 5 (some 9) (tk 13 63) (any_of HT_.out (by kernel_rfl)) ?_
    refine stepU 6 (some 10) (tk 13 127) (any_of HT_.out (by kernel_rfl)) ?_
    refine stepU 7 (some 11) (tk 13 255) (any_of HT_.out (by kernel_rfl)) ?_
    refine stepU 8 (some 12) (tk 13 511) (any_of HT_.out (by kernel_rfl)) ?_
    refine stepU 9 (some 13) (tk 13 1023) (any_of HT_.out (by kernel_rfl)) ?_
    refine stepU 10 (some 14) (tk 13 2047) (any_of HT_.out (by kernel_rfl)) ?_
    refine stepU 11 (some 15) (tk 13 4095) (any_of HT_.out (by kernel_rfl)) ?_
    refine stepP 12 (some 16) (tk 13 8191) (any_of HT_.out (by kernel_rfl)) ?_
    refine done_ (done_of HT_.out (by kernel_rfl)) ?_
    try go_wp2
    go_meet
    case rel => exact ⟨_, (true), pv, H', ⟨by first | omega | exact Nat.le_refl _⟩, ⟨bks BK216⟩, ⟨bel_now⟩⟩
   subst c5;rw [if_pos rfl] at H;obtain ⟨t218, A6, H⟩ := bnd H;(try dsimp only at H);have H' := am H;clear H
   try go_wp2
   replace BK216 := am (blk_drew BK216.out);replace HB := am (below_drew1 HB.out)
   refine start_ (n := 13) (S := fun w' => w'.cell? ⟨gb216, 0, none⟩ = some (.int .i64 a0_0) ∧ w'.cell? ⟨gb216, 1, none⟩ = some (.int .i64 a0_1) ∧ w'.cell? ⟨gb216, 2, none⟩ = some (.int .i64 a0_2) ∧ w'.cell? ⟨gb216, 3, none⟩ = some (.slice A0_3 l0_3.length c0_3)) (ds := []) #[O, O, O, O, O, O, O, O, O, O, O, O, O] (by kernel_rfl) rfl rfl ⟨bc BK216 0, bc BK216 1, bc BK216 2, bc BK216 3⟩ (fun hHeld => ?_); refine with_tabW spec_TensorOk.tab1 spec_TensorOk.bits1 (fun HT_ HW_ => ?_)
   generalize w3.drew = w7 at BK216 HB hHeld ⊢
   refine stepP 0 (some 4) (tk 13 1) (any_of HT_.out (by kernel_rfl)) ?_
   refine stepT 1 (some 5) (tk 13 3) (take_ofW HT_.out HW_.out (by kernel_rfl)) hHeld ?_
   refine one_ (i := 2) (N := some 6) #[I, I, I, O, O, O, O, O, O, O, O, O, O] rfl rfl (one_of HT_.out (by kernel_rfl)) (by decide) (fun K hK => ?_)
   refine goes_ Try.func72 (by kernel_rfl) rfl #[.agg #[.int .i64 a0_0, .int .i64 a0_1, .int .i64 a0_2]] (by rfl) rfl rfl (by (try simp only [List.map_toArray, List.map_cons, List.map_nil]); first | done | rfl | (simp only [List.length_drop, List.length_take]; rfl)) ?_
   with_reducible refine (spec_ShapeOk.calls a0_0 a0_1 a0_2 true _ A4.out).mono ?_
   rintro e w8 ⟨rfl, hb⟩
   refine ⟨_, rfl, ?_⟩
   replace BK216 := blk_on gb216 hb;replace HB := bel_on w hb;(try clear hb)
   refine hK.out _ _ ⟨bc BK216 0, bc BK216 1, bc BK216 2, bc BK216 3⟩ (fun hHeld => ?_)
   clear hK K
   refine normP 6 ?_
   refine stepP 3 (some 7) (tk 13 15) (any_of HT_.out (by kernel_rfl)) ?_
   refine stepP 4 (some 8) (tk 13 31) (any_of HT_.out (by kernel_rfl)) ?_
   refine stepP 5 (some 9) (tk 13 63) (any_of HT_.out (by kernel_rfl)) ?_
   refine stepP 8 (some 12) (tk 13 319) (any_of HT_.out (by kernel_rfl)) ?_
   refine stepT 6 (some 10) (tk 13 383) (take_ofW HT_.out HW_.out (by kernel_rfl)) hHeld ?_
   refine stepP 7 (some 11) (tk 13 511) (any_of HT_.out (by kernel_rfl)) ?_
   refine stepT 9 (some 13) (tk 13 1023) (take_ofW HT_.out HW_.out (by kernel_rfl)) hHeld ?_
   refine one_ (i := 10) (N := some 14) #[I, I, I, I, I, I, I, I, I, I, I, O, O] rfl rfl (one_of HT_.out (by kernel_rfl)) (by decide) (fun K hK => ?_)
   refine goes_ Try.func73 (by kernel_rfl) rfl #[.agg #[.int .i64 a0_0, .int .i64 a0_1, .int .i64 a0_2]] (by rfl) rfl rfl (by (try simp only [List.map_toArray, List.map_cons, List.map_nil]); first | done | rfl | (simp only [List.length_drop, List.length_take]; rfl)) ?_
   with_reducible refine (spec_SizeOf.calls a0_0 a0_1 a0_2 t218 _ A6.out).mono ?_
   rintro e w9 ⟨rfl, hb⟩
   refine ⟨_, rfl, ?_⟩
   replace BK216 := blk_on gb216 hb;replace HB := bel_on w hb;(try clear hb)
   refine hK.out _ _ ⟨bc BK216 0, bc BK216 1, bc BK216 2, bc BK216 3⟩ (fun hHeld => ?_)
   clear hK K
   refine normP 14 ?_
   refine stepP 11 (some 15) (tk 13 4095) (any_of HT_.out (by kernel_rfl)) ?_
   refine stepP 12 (some 16) (tk 13 8191) (any_of HT_.out (by kernel_rfl)) ?_
   refine done_ (done_of HT_.out (by kernel_rfl)) ?_
   try go_wp2
   go_meet
   case rel => exact ⟨_, (((l0_3.length : Int) != t218)), pv, H', ⟨by first | omega | exact Nat.le_refl _⟩, ⟨bks BK216⟩, ⟨bel_now⟩⟩
  case rest =>
   clear HC2;obtain ⟨kq, x16_1, rfl, HA, HJ1, BK216, HB⟩ := hcut
   cases kq with
   | zero => exact absurd HA.out (by simp [spec_TensorOk.j0])
   | succ kj1 =>
    have H := HA.out;clear HA;simp only [spec_TensorOk.j0] at H;by_cases c12 : x16_1 = true
    ·subst c12;rw [if_pos rfl] at H;obtain rfl := Option.some.inj H
     go_wp2
     go_ret
     exact ⟨eqN, bel_now⟩
    replace c12 := Bool.eq_false_iff.mpr c12;subst c12
    rw [if_neg (show ¬ (false = true) by decide)] at H
    have H' := am H;clear H
    go_wp2
    go_loopg [3] kj1 (fun kq v3 w' => ∃ (x3_2 : Int), v3 = .int .i64 x3_2 ∧ Aside0 (spec_TensorOk.l0 kq x3_2 a0_0 a0_1 a0_2 l0_3 = some r) ∧ Aside0 (kq ≤ kj1) ∧ Aside0 (w'.heap[gb216]? = some (.cells #[.int .i64 a0_0, .int .i64 a0_1, .int .i64 a0_2, (.slice A0_3 l0_3.length c0_3)] 33 (0, 0))) ∧ Aside0 (Below w.heap.size w w'))
    case atStart => exact ⟨(0), pv, H', ⟨Nat.le_refl _⟩, ⟨bks BK216⟩, ⟨bel_now⟩⟩
    case round =>
     clear H';try clear c12
     obtain ⟨x3_2, rfl, HA, HK2, BK216, HB⟩ := hrel
     cases gk with
     | zero => exact absurd HA.out (by simp [spec_TensorOk.l0])
     | succ k2 =>
      have H := HA.out;clear HA;simp only [spec_TensorOk.l0] at H;by_cases c13 : x3_2 < (l0_3.length : Int);rotate_left
      ·rw [if_neg c13] at H;have c13b0 : decide (x3_2 < (l0_3.length : Int)) = false := decide_eq_false c13;clear c13;obtain rfl := Option.some.inj H;have hcz19 := cells4 BK216.out
       go_wp2
       go_ret
       exact ⟨eqN, bel_now⟩
      rw [if_pos c13] at H;have c13b0 : decide (x3_2 < (l0_3.length : Int)) = true := decide_eq_true c13;clear c13;obtain ⟨c14, H⟩ := gd H;have c14b0 : decide (0 ≤ x3_2) = true := decide_eq_true c14;clear c14;obtain ⟨t220, A15, H⟩ := bnd H;(try dsimp only at H);by_cases c16 : t220 = true;rotate_left
      ·replace c16 := Bool.eq_false_iff.mpr c16;subst c16
       rw [if_neg (show ¬ (false = true) by decide)] at H
       obtain rfl := Option.some.inj H;have hcz18 := cells4 BK216.out;have p219 : 0 ≤ (x3_2 : Int) := of_decide_eq_true (by first | (with_reducible assumption) | assumption);have q219 : x3_2 < (l0_3.length : Int) := of_decide_eq_true (by first | (with_reducible assumption) | assumption);obtain ⟨ad219, e219, hx219_0⟩ := Kd.at_int HR0_3.out x3_2 p219 q219;cases e219;replace hx219_0 := (HB.out.cell (World.block_lt_of_cell? w _ hx219_0)).trans hx219_0;replace p219 := eq_true p219;replace q219 := eq_true q219
       go_wp2_with (first | ((with_reducible refine gate_callee (f := 74) rfl ?_); refine gM 29 Try.func74 #[.int .i64 (rd l0_3 x3_2)] rfl ?_; (with_reducible refine (spec_l02Int8.calls (rd l0_3 x3_2) false _ A15.out).mono ?_); rintro e w' ⟨rfl, ⟨nd, rfl⟩⟩; refine ⟨_, rfl, ?_⟩))
       go_ret
       exact ⟨eqN, bel_now⟩
      subst c16;rw [if_pos rfl] at H;have H' := am H;clear H;have hcz17 := cells4 BK216.out;have p219 : 0 ≤ (x3_2 : Int) := of_decide_eq_true (by first | (with_reducible assumption) | assumption);have q219 : x3_2 < (l0_3.length : Int) := of_decide_eq_true (by first | (with_reducible assumption) | assumption);obtain ⟨ad219, e219, hx219_0⟩ := Kd.at_int HR0_3.out x3_2 p219 q219;cases e219;replace hx219_0 := (HB.out.cell (World.block_lt_of_cell? w _ hx219_0)).trans hx219_0;replace p219 := eq_true p219;replace q219 := eq_true q219
      go_wp2_with (first | ((with_reducible refine gate_callee (f := 74) rfl ?_); refine gM 29 Try.func74 #[.int .i64 (rd l0_3 x3_2)] rfl ?_; (with_reducible refine (spec_l02Int8.calls (rd l0_3 x3_2) true _ A15.out).mono ?_); rintro e w' ⟨rfl, ⟨nd, rfl⟩⟩; refine ⟨_, rfl, ?_⟩))
      go_roundg k2
      case measure => have := HJ1.out; have := HK2.out; omega
      case rel => exact ⟨(wrap64 (x3_2 + 1)), pv, H', ⟨by have := HJ1.out; have := HK2.out; omega⟩, ⟨bks BK216⟩, ⟨bel_now⟩⟩

def spec_l01Copy.l0 : Nat → List Int → List Int → Int → Option (List Int)
  | 0, _, _, _ => none
  | k + 1, x0, x3, x4 => if x4 < (x0.length : Int) then (if 0 ≤ x4 then (if x3.length < 17592186044416 then (spec_l01Copy.l0 k x0 (x3 ++ [rd x0 x4]) (wrap64 (x4 + 1))) else (none)) else (none)) else (some x3)
def spec_l01Copy.f (k : Nat) (l0 : List Int) : Option (List Int) := spec_l01Copy.l0 k l0 (([] : List Int)) 0
theorem spec_l01Copy.calls (k : Nat) (A0 : Option Addr) (c0 : Nat) (l0 : List Int) (r : List Int) (w : World) (hr0 : Kd.C (Kd.int .i64) w A0 l0.length l0) (hc0 : l0.length ≤ c0) (h : spec_l01Copy.f k l0 = some r) :
   Calls Try.prog 125 #[.slice A0 l0.length c0] w fun e w' => ∃ v0_ : Value, e = .returned (v0_) ∧ Kd.R (Kd.int .i64) 3 w' w.heap.size (fun _ => True) v0_ r ∧ Below w.heap.size w w' := by
  have HR0 := am hr0;have HC0 := am hc0;clear hr0 hc0;have HB := am (Below.refl w.heap.size w);have H : (spec_l01Copy.l0 k l0 (([] : List Int)) 0) = some r := h;clear h;obtain ⟨y221, hy221⟩ : ∃ y_ : List Int, y_ = (([] : List Int)) := ⟨_, rfl⟩;replace H : (spec_l01Copy.l0 k l0 y221 0) = some r := by first | (rw [hy221]; with_reducible exact H) | (have H2_ := (Option.bind_some _ _).symm.trans H; rw [hy221]; with_reducible exact H2_) | (have H2_ := (Option.bind_some _ _).symm.trans H; with_reducible exact H2_) | with_reducible exact H | (rw [hy221]; exact H) | exact H
  have Ny221 := am hy221;clear hy221;have H' := am H;clear H
  go_enter Try.func125, Try.ntmps125
  go_wp2_with (first | ((with_reducible refine gate_dst (N := 5) rfl ?_); refine Kd.R_lit (Kd.int .i64) _ 3 ?hg (N := 5) ?hd (xs := ([] : List Int)) (inner := []) (ok := fun _ => True) (okp := fun _ => True) ?hr ?hp (fun _ hk => hk) trivial (Below.refl _ _) (Nat.le_refl _) (by simp) ?_; (case hd => rfl); (case hg => rfl); (case hr => first | (go_simp; done) | (go_simp; rfl)); (case hp => exact (Reps.none _ _)); intro v222 w2 ho3 hb hg_ hnew_; clear hg_ hnew_; (first | rw [← Ny221.out] at ho3 | (simp only [Int.reduceToNat] at ho3; rw [← Ny221.out] at ho3)); have n0_ := am (Kd.R_lower ho3 (below_size bel_now)); replace HB := bel_on w hb; have HO223 := n0_; clear n0_; clear hb ho3))
  go_loopg [3, 4] k (fun kq v3 v4 w' => ∃ (x3_1 : List Int) (x4_1 : Int), v4 = .int .i64 x4_1 ∧ Aside0 (spec_l01Copy.l0 kq l0 x3_1 x4_1 = some r) ∧ Aside0 (kq ≤ k) ∧ Aside0 (Kd.R (Kd.int .i64) 3 w' w.heap.size (fun _ => True) v3 x3_1) ∧ Aside0 (Below w.heap.size w w'))
  case atStart => exact ⟨(y221), (0), pv, H', ⟨Nat.le_refl _⟩, ⟨R_at HO223.out⟩, ⟨bel_now⟩⟩
  case round =>
   clear H';obtain ⟨x3_1, x4_1, rfl, HA, HK1, HO_3, HB⟩ := hrel
   cases gk with
   | zero => exact absurd HA.out (by simp [spec_l01Copy.l0])
   | succ k1 =>
    have H := HA.out;clear HA;simp only [spec_l01Copy.l0] at H;by_cases c4 : x4_1 < (l0.length : Int);rotate_left
    ·rw [if_neg c4] at H;have c4b0 : decide (x4_1 < (l0.length : Int)) = false := decide_eq_false c4;clear c4;obtain rfl := Option.some.inj H
     go_wp2
     go_ret
     exact ⟨_, eqN, R_at HO_3.out, bel_now⟩
    rw [if_pos c4] at H;have c4b0 : decide (x4_1 < (l0.length : Int)) = true := decide_eq_true c4;clear c4;obtain ⟨c5, H⟩ := gd H;have c5b0 : decide (0 ≤ x4_1) = true := decide_eq_true c5;clear c5;obtain ⟨c6, H⟩ := gd H;have LMc6 := am c6;clear c6;obtain ⟨y225, hy225⟩ : ∃ y_ : List Int, y_ = (x3_1 ++ [rd l0 x4_1]) := ⟨_, rfl⟩;replace H : (spec_l01Copy.l0 k1 l0 y225 (wrap64 (x4_1 + 1))) = some r := by first | (rw [hy225]; with_reducible exact H) | (have H2_ := (Option.bind_some _ _).symm.trans H; rw [hy225]; with_reducible exact H2_) | (have H2_ := (Option.bind_some _ _).symm.trans H; with_reducible exact H2_) | with_reducible exact H | (rw [hy225]; exact H) | exact H
    have Ny225 := am hy225;clear hy225;have H' := am H;clear H;have p224 : 0 ≤ (x4_1 : Int) := of_decide_eq_true (by first | (with_reducible assumption) | assumption);have q224 : x4_1 < (l0.length : Int) := of_decide_eq_true (by first | (with_reducible assumption) | assumption);obtain ⟨ad224, e224, hx224_0⟩ := Kd.at_int HR0.out x4_1 p224 q224;cases e224;replace hx224_0 := (HB.out.cell (World.block_lt_of_cell? w _ hx224_0)).trans hx224_0;replace p224 := eq_true p224;replace q224 := eq_true q224
    go_wp2_with (first | ((with_reducible refine gate_builtin (b := .append) (xs := #[.tmp 12, .tmp 17]) rfl ?_); at_builtin; refine Kd.R_append (Kd.int .i64) (w0 := w) w.heap.size rfl (.tmp 12) (.tmp 17) 24 3 (.int .i64 0) 8 rfl Try.underlying24 info3 rfl (by decide) (by omega) u3 x3_1 (rd l0 x4_1) [.int .i64 (rd l0 x4_1)] (fun _ => True) (fun _ => False) rfl rfl ?aP (fun _ hk => hk.elim) ?aF ?aO ?aB ?aS ?aL ?_; (case aP => exact rfl); (case aB => exact bel_now); (case aF => exact (fun _ _ => trivial)); (case aO => exact (R_at HO_3.out)); (case aS => exact (below_size bel_now)); (case aL => have := LMc6.out; omega); intro v226 w7 ho hb hg hat; rw [← Ny225.out] at ho; have n0_ := am (hb); have n1_ := am (ho); clear HB; clear HO_3; have HB := n0_; have HO227 := n1_; clear n0_ n1_; clear ho hb hg hat))
    go_roundg k1
    case measure => have := HK1.out; omega
    case rel => exact ⟨(y225), (wrap64 (x4_1 + 1)), pv, H', ⟨by have := HK1.out; omega⟩, ⟨R_at HO227.out⟩, ⟨bel_now⟩⟩

def spec_l02Copy.f (k : Nat) (a0_0 : Int) (a0_1 : Int) (a0_2 : Int) (l0_3 : List Int) : Option (Int × Int × Int × List Int) := (spec_l01Copy.f k l0_3).bind fun t230 => (some (a0_0, a0_1, a0_2, t230))
theorem spec_l02Copy.calls (k : Nat) (a0_0 : Int) (a0_1 : Int) (a0_2 : Int) (A0_3 : Option Addr) (c0_3 : Nat) (l0_3 : List Int) (r1 : Int) (r2 : Int) (r3 : Int) (r4 : List Int) (w : World) (hr0_3 : Kd.C (Kd.int .i64) w A0_3 l0_3.length l0_3) (hc0_3 : l0_3.length ≤ c0_3) (h : spec_l02Copy.f k a0_0 a0_1 a0_2 l0_3 = some (r1, r2, r3, r4)) :
   Calls Try.prog 92 #[.agg #[.int .i64 a0_0, .int .i64 a0_1, .int .i64 a0_2, .slice A0_3 l0_3.length c0_3]] w fun e w' => ∃ v3_ : Value, e = .returned (.agg #[.int .i64 r1, .int .i64 r2, .int .i64 r3, v3_]) ∧ Kd.R (Kd.int .i64) 3 w' w.heap.size (fun _ => True) v3_ r4 ∧ Below w.heap.size w w' := by
  have hu33 := Try.underlying33;have hu31 := Try.underlying31;have HR0_3 := am hr0_3;have HC0_3 := am hc0_3;clear hr0_3 hc0_3;have HB := am (Below.refl w.heap.size w);have H : ((spec_l01Copy.f k l0_3).bind fun t230 => (some (a0_0, a0_1, a0_2, t230))) = some (r1, r2, r3, r4) := h;clear h;obtain ⟨t230, A2, H⟩ := bnd H;(try dsimp only at H);simp only [Option.some.injEq, Prod.mk.injEq] at H;obtain ⟨rfl, rfl, rfl, rfl⟩ := H
  go_enter Try.func92, Try.ntmps92
  try go_wp2_with (first | ((with_reducible refine gate_dst (N := 1) rfl ?_); refine boxM 1 #[.int .i64 a0_0, .int .i64 a0_1, .int .i64 a0_2, .slice A0_3 l0_3.length c0_3] 33 ?_; intro gb228 hg w3 BK228 hb; obtain ⟨HB, GW228, GE228⟩ := box_at w hb hg; clear hb hg) | ((with_reducible refine gate_dst (N := 2) rfl ?_); refine boxM 2 #[.int .i64 0, .int .i64 0, .int .i64 0, .slice none 0 0] 33 ?_; intro gb229 hg w4 BK229 hb; obtain ⟨HB, GW229, GE229⟩ := box_at w hb hg; obtain ⟨BK228, NB228_229, NB229_228⟩ := box_on gb228 hb hg; clear hb hg))
  replace BK228 := am (blk_drew BK228.out);replace BK229 := am (blk_drew BK229.out);replace HB := am (below_drew1 HB.out)
  refine start_ (n := 7) (S := fun w' => w'.cell? ⟨gb228, 0, none⟩ = some (.int .i64 a0_0) ∧ w'.cell? ⟨gb228, 1, none⟩ = some (.int .i64 a0_1) ∧ w'.cell? ⟨gb228, 2, none⟩ = some (.int .i64 a0_2) ∧ w'.cell? ⟨gb228, 3, none⟩ = some (.slice A0_3 l0_3.length c0_3)) (ds := []) #[O, O, O, O, O, O, O] (by kernel_rfl) rfl rfl ⟨bc BK228 0, bc BK228 1, bc BK228 2, bc BK228 3⟩ (fun hHeld => ?_)
  generalize w4.drew = w5 at BK228 BK229 HB hHeld ⊢
  refine stepP 0 (some 3) (tk 7 1) (by kernel_rfl) ?_
  refine stepP 2 (some 5) (tk 7 5) (by kernel_rfl) ?_
  refine stepT 1 (some 4) (tk 7 7) (by kernel_rfl) hHeld ?_
  refine stepT 3 (some 6) (tk 7 15) (by kernel_rfl) hHeld ?_
  refine one_ (i := 4) (N := some 7) #[I, I, I, I, I, O, O] rfl rfl (by kernel_rfl) (by decide) (fun K hK => ?_)
  refine goes_ Try.func125 (by kernel_rfl) rfl #[.slice A0_3 l0_3.length c0_3] (by rfl) rfl rfl (by (try simp only [List.map_toArray, List.map_cons, List.map_nil]); first | done | rfl | (simp only [List.length_drop, List.length_take]; rfl)) ?_
  with_reducible refine (spec_l01Copy.calls k _ _ l0_3 t230 _ ?side1 ?side2 A2.out).mono ?_
  (case side1 => exact C_now HR0_3.out)
  (case side2 => exact HC0_3.out)
  rintro e w6 ⟨v231, rfl, ho0, hb⟩
  refine ⟨_, rfl, ?_⟩
  have n0_ := am (Kd.R_lower ho0 (below_size bel_now));replace BK228 := blk_on gb228 hb;replace BK229 := blk_on gb229 hb;replace HB := bel_on w hb;have HO232 := n0_;clear n0_;(try clear hb);(try clear ho0);obtain ⟨Ao7, co7, eo7⟩ := Kd.R_slice HO232.out
  (first | subst eo7 | (injection eo7 with f1_ f2_ f3_; have f4_ := f1_.symm; have f5_ := f3_.symm; clear f1_ f2_ f3_; subst f4_; subst f5_))
  refine hK.out _ _ ⟨bc BK228 0, bc BK228 1, bc BK228 2, bc BK228 3⟩ (fun hHeld => ?_)
  clear hK K
  refine normP 7 ?_
  refine stepP 5 (some 8) (tk 7 63) (by kernel_rfl) ?_
  refine one_ (i := 6) (N := none) #[I, I, I, I, I, I, I] rfl rfl (by kernel_rfl) (by decide) (fun K hK => ?_)
  have hs8 : w6.cell? ⟨gb229, 0, none⟩ = some (.int .i64 0) := (blk_cell BK229.out 0).trans rfl;have hfs8 := blk_frozen BK229.out 0;have hns8_0 := NB228_229.out;have hms8_0 := NB229_228.out;have hs9 : w6.cell? ⟨gb229, 1, none⟩ = some (.int .i64 0) := (blk_cell BK229.out 1).trans rfl;have hfs9 := blk_frozen BK229.out 1;have hns9_0 := NB228_229.out;have hms9_0 := NB229_228.out;have hs10 : w6.cell? ⟨gb229, 2, none⟩ = some (.int .i64 0) := (blk_cell BK229.out 2).trans rfl;have hfs10 := blk_frozen BK229.out 2;have hns10_0 := NB228_229.out;have hms10_0 := NB229_228.out;have hs11 : w6.cell? ⟨gb229, 3, none⟩ = some (.slice none 0 0) := (blk_cell BK229.out 3).trans rfl;have hfs11 := blk_frozen BK229.out 3;have hns11_0 := NB228_229.out;have hms11_0 := NB229_228.out
  refine skip_ (w1 := ?_) (by rfl) rfl ?_ ?_
  rotate_left
  ·go_simp
   rfl
  refine hK.out _ _ ⟨(far4 NB228_229.out (hHeld.1)), (far4 NB228_229.out (hHeld.2.1)), (far4 NB228_229.out (hHeld.2.2.1)), (far4 NB228_229.out (hHeld.2.2.2))⟩ (fun hHeld => ?_)
  clear hK K
  refine done_ (by kernel_rfl) ?_
  try go_wp2
  refine bodyPost_ret (results_cell_row rfl _ _ gb229 33 #[.int .i64 a0_0, .int .i64 a0_1, .int .i64 a0_2, .slice Ao7 t230.length co7] (0, 0) _ rfl (blk_fars (puts4 BK229.out)) Try.underlying33 rfl (by kernel_rfl)) rfl ?_
  exact ⟨_, eqN, by (with_reducible repeat (first | apply Kd.R_alloc | apply Kd.R_drewN | apply Kd.R_drew)); exact Kd.R_mono (Kd.R_far (p := ⟨gb229, 3, none⟩) (Kd.R_far (p := ⟨gb229, 2, none⟩) (Kd.R_far (p := ⟨gb229, 1, none⟩) (Kd.R_far (p := ⟨gb229, 0, none⟩) (Kd.R_types HO232.out BK229.out (by decide)) (fun _ hk => hk.2) (.int .i64 a0_0)) (fun _ hk => hk.2) (.int .i64 a0_1)) (fun _ hk => hk.2) (.int .i64 a0_2)) (fun _ hk => hk.2) (.slice Ao7 t230.length co7)) (fun _ hk => trivial), bel_now⟩

def spec_ClampTo.j0 : Nat → Int → Int → Int → Bool → Option (Int)
  | 0, _, _, _, _ => none
  | k + 1, x0, x1, x2, x14 => if x14 = true then (some x1) else (if x0 > x2 then (some x2) else (some x0))
def spec_ClampTo.f (k : Nat) (a0 : Int) (a1 : Int) (a2 : Int) : Option (Int) := if a0 < a1 then (spec_ClampTo.j0 k a0 a1 a2 true) else (spec_ClampTo.j0 k a0 a1 a2 (decide (a1 > a2)))
theorem spec_ClampTo.calls (k : Nat) (a0 : Int) (a1 : Int) (a2 : Int) (r : Int) (w : World) (h : spec_ClampTo.f k a0 a1 a2 = some r) :
   Calls Try.prog 138 #[.int .i64 a0, .int .i64 a1, .int .i64 a2] w fun e w' => e = .returned (.int .i64 r) ∧ Drawn0 w w' := by
  have H : (if a0 < a1 then (spec_ClampTo.j0 k a0 a1 a2 true) else (spec_ClampTo.j0 k a0 a1 a2 (decide (a1 > a2)))) = some r := h;clear h;have HC4 := am H;clear H
  go_enter Try.func138, Try.ntmps138
  go_upto_region 1 with (fail)
  go_cut [14] (fun v14 wc => ∃ (kq : Nat) (x14_3 : Bool), v14 = .bool x14_3 ∧ Aside0 (spec_ClampTo.j0 kq a0 a1 a2 x14_3 = some r) ∧ Aside0 (kq ≤ k) ∧ Drawn0 w wc)
  case first =>
   have H := HC4.out;clear HC4;by_cases c5 : a0 < a1
   ·rw [if_pos c5] at H;have c5b0 : decide (a0 < a1) = true := decide_eq_true c5;clear c5
    (first | rw [c5b0] | (simp only [i64_w, i32_w]; rw [c5b0]) | skip)
    have H' := am H;clear H
    go_wp2
    go_meet
    case rel => exact ⟨_, (true), pv, H', ⟨by first | omega | exact Nat.le_refl _⟩, by repeat (first | exact Drawn0.refl _ | apply Drawn0.step)⟩
   rw [if_neg c5] at H;have c5b0 : decide (a0 < a1) = false := decide_eq_false c5;clear c5
   (first | rw [c5b0] | (simp only [i64_w, i32_w]; rw [c5b0]) | skip)
   have H' := am H;clear H
   go_wp2
   go_meet
   case rel => exact ⟨_, (decide (a1 > a2)), pv, H', ⟨by first | omega | exact Nat.le_refl _⟩, by repeat (first | exact Drawn0.refl _ | apply Drawn0.step)⟩
  case rest =>
   clear HC4;obtain ⟨kq, x14_3, rfl, HA, HJ3, ⟨mc3, rfl⟩⟩ := hcut
   cases kq with
   | zero => exact absurd HA.out (by simp [spec_ClampTo.j0])
   | succ kj3 =>
    have H := HA.out;clear HA;simp only [spec_ClampTo.j0] at H;by_cases c6 : x14_3 = true
    ·subst c6;rw [if_pos rfl] at H;obtain rfl := Option.some.inj H
     go_wp2
     go_ret
     exact ⟨by first | rfl | (simp; done) | (simp [*]; done), by repeat (first | exact Drawn0.refl _ | apply Drawn0.step)⟩
    replace c6 := Bool.eq_false_iff.mpr c6;subst c6
    rw [if_neg (show ¬ (false = true) by decide)] at H
    by_cases c7 : a0 > a2
    ·rw [if_pos c7] at H;have c7b0 : decide (a2 < a0) = true := decide_eq_true c7;clear c7;obtain rfl := Option.some.inj H
     go_wp2
     go_ret
     exact ⟨by first | rfl | (simp; done) | (simp [*]; done), by repeat (first | exact Drawn0.refl _ | apply Drawn0.step)⟩
    rw [if_neg c7] at H;have c7b0 : decide (a2 < a0) = false := decide_eq_false c7;clear c7;obtain rfl := Option.some.inj H
    go_wp2
    go_ret
    exact ⟨by first | rfl | (simp; done) | (simp [*]; done), by repeat (first | exact Drawn0.refl _ | apply Drawn0.step)⟩

end Go.Proofs.Ytclpojeofclbjaa.PFnExactEvalModel
