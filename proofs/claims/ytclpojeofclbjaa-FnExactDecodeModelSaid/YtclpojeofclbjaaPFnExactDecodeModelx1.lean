import Derived.Test.YtclpojeofclbjaaPFnExactDecodeModelx0
namespace Go.Proofs.Ytclpojeofclbjaa.PFnExactDecodeModel
open Go.RowKit Go.Proofs.YtclpojeofclbjaaW.PrintWords Go.Proofs.YtclpojeofclbjaaW.PrintLast Go.Proofs.YtclpojeofclbjaaW.PrintMore
attribute [local go_sem] max2_int min2_int max_two min_two max_three min_three max_four min_four
set_option maxHeartbeats 8000000
set_option maxRecDepth 100000
set_option linter.unusedVariables false
set_option linter.unusedSimpArgs false

def laws_toByteS.l0 : Nat → List Int → List Int → Int → Option (List Int)
  | 0, _, _, _ => none
  | k + 1, x0, x3, x4 => if x4 < (x0.length : Int) then (if 0 ≤ x4 then (if x4 < (x3.length : Int) then (laws_toByteS.l0 k x0 (x3.set (x4 : Int).toNat (rd x0 x4)) (wrap64 (x4 + 1))) else (none)) else (none)) else (some x3)
def laws_toByteS.f (k : Nat) (l0 : List Int) : Option (List Int) := if 0 ≤ (l0.length : Int) then (if ((l0.length : Int) : Int).toNat ≤ 281474976710656 then (laws_toByteS.l0 k l0 (List.replicate ((l0.length : Int) : Int).toNat 0) 0) else (none)) else (none)
theorem laws_toByteS.calls (k : Nat) (A0 : Option Addr) (c0 : Nat) (l0 : List Int) (r : List Int) (w : World) (hr0 : Kd.C (Kd.int .u8) w A0 l0.length l0) (hc0 : l0.length ≤ c0) (h : laws_toByteS.f k l0 = some r) :
   Calls Try.prog 36 #[.slice A0 l0.length c0] w fun e w' => ∃ v0_ : Value, e = .returned (v0_) ∧ Kd.R (Kd.int .u8) 5 w' w.heap.size (fun _ => True) v0_ r ∧ Below w.heap.size w w' := by
  have HR0 := am hr0;have HC0 := am hc0;clear hr0 hc0;have HB := am (Below.refl w.heap.size w);have H : (if 0 ≤ (l0.length : Int) then (if ((l0.length : Int) : Int).toNat ≤ 281474976710656 then (laws_toByteS.l0 k l0 (List.replicate ((l0.length : Int) : Int).toNat 0) 0) else (none)) else (none)) = some r := h;clear h;obtain ⟨c2, H⟩ := gd H;have c2b0 := eq_true c2;have c2b1 : decide (0 ≤ (l0.length : Int)) = true := decide_eq_true c2;clear c2;obtain ⟨c3, H⟩ := gd H;have c3b0 := eq_true c3;have c3b1 : decide (((l0.length : Int) : Int).toNat ≤ 281474976710656) = true := decide_eq_true c3;clear c3;obtain ⟨y101, hy101⟩ : ∃ y_ : List Int, y_ = (List.replicate ((l0.length : Int) : Int).toNat 0) := ⟨_, rfl⟩;replace H : (laws_toByteS.l0 k l0 y101 0) = some r := by first | (rw [hy101]; with_reducible exact H) | (have H2_ := (Option.bind_some _ _).symm.trans H; rw [hy101]; with_reducible exact H2_) | (have H2_ := (Option.bind_some _ _).symm.trans H; with_reducible exact H2_) | with_reducible exact H | (rw [hy101]; exact H) | exact H
  have Ny101 := am hy101;clear hy101;have H' := am H;clear H
  go_enter Try.func36, Try.ntmps36
  go_wp2_with (first | ((with_reducible refine gate_dst (N := 7) rfl ?_); refine Kd.R_make (Kd.int .u8) _ 5 rfl (N := 7) rfl 62 _ _ rfl (l0.length : Int) rfl rfl Try.underlying62 (.int .u8 0) 1 info5 rfl (by decide) (by omega) 0 (ok := fun _ => True) (okp := fun _ => True) rfl (fun _ hk => hk) trivial (of_decide_eq_true (by first | (with_reducible assumption) | assumption)) (Nat.le_trans (Nat.mul_le_mul_right _ (of_decide_eq_true (by first | (with_reducible assumption) | assumption) : (l0.length : Int).toNat ≤ 281474976710656)) (by omega)) (Below.refl _ _) (Nat.le_refl _) ?_; intro v102 w4 ho5 hb hg_ hnew_; clear hg_ hnew_; (first | rw [← Ny101.out] at ho5 | (simp only [Int.reduceToNat] at ho5; rw [← Ny101.out] at ho5)); have n0_ := am (Kd.R_lower ho5 (below_size bel_now)); replace HB := bel_on w hb; have HO103 := n0_; clear n0_; clear hb ho5))
  go_loopg [4] k (fun kq v4 w' => ∃ (x3_1 : List Int) (x4_1 : Int), v4 = .int .i64 x4_1 ∧ Aside0 (laws_toByteS.l0 kq l0 x3_1 x4_1 = some r) ∧ Aside0 (kq ≤ k) ∧ Aside0 (Kd.R (Kd.int .u8) 5 w' w.heap.size (fun _ => True) v102 x3_1) ∧ Aside0 (Below w.heap.size w w'))
  case atStart => exact ⟨(y101), (0), pv, H', ⟨Nat.le_refl _⟩, ⟨R_at HO103.out⟩, ⟨bel_now⟩⟩
  case round =>
   clear H';try clear c2
   try clear c2b0
   try clear c2b1
   try clear c3
   try clear c3b0
   try clear c3b1
   obtain ⟨x3_1, x4_1, rfl, HA, HK1, HO_3, HB⟩ := hrel
   cases gk with
   | zero => exact absurd HA.out (by simp [laws_toByteS.l0])
   | succ k1 =>
    have H := HA.out;clear HA;simp only [laws_toByteS.l0] at H;by_cases c6 : x4_1 < (l0.length : Int);rotate_left
    ·rw [if_neg c6] at H;have c6b0 : decide (x4_1 < (l0.length : Int)) = false := decide_eq_false c6;clear c6;obtain rfl := Option.some.inj H
     go_wp2
     go_ret
     exact ⟨_, eqN, R_at HO_3.out, bel_now⟩
    rw [if_pos c6] at H;have c6b0 : decide (x4_1 < (l0.length : Int)) = true := decide_eq_true c6;clear c6;obtain ⟨c7, H⟩ := gd H;have c7b0 : decide (0 ≤ x4_1) = true := decide_eq_true c7;clear c7;obtain ⟨c8, H⟩ := gd H;have c8b0 : decide (x4_1 < (x3_1.length : Int)) = true := decide_eq_true c8;clear c8;obtain ⟨y105, hy105⟩ : ∃ y_ : List Int, y_ = (x3_1.set (x4_1 : Int).toNat (rd l0 x4_1)) := ⟨_, rfl⟩;replace H : (laws_toByteS.l0 k1 l0 y105 (wrap64 (x4_1 + 1))) = some r := by first | (rw [hy105]; with_reducible exact H) | (have H2_ := (Option.bind_some _ _).symm.trans H; rw [hy105]; with_reducible exact H2_) | (have H2_ := (Option.bind_some _ _).symm.trans H; with_reducible exact H2_) | with_reducible exact H | (rw [hy105]; exact H) | exact H
    have Ny105 := am hy105;clear hy105;have H' := am H;clear H;have p104 : 0 ≤ (x4_1 : Int) := of_decide_eq_true (by first | (with_reducible assumption) | assumption);have q104 : x4_1 < (l0.length : Int) := of_decide_eq_true (by first | (with_reducible assumption) | assumption);obtain ⟨ad104, e104, hx104_0⟩ := Kd.at_int HR0.out x4_1 p104 q104;cases e104;replace hx104_0 := (HB.out.cell (World.block_lt_of_cell? w _ hx104_0)).trans hx104_0;replace p104 := eq_true p104;replace q104 := eq_true q104;have p9 : 0 ≤ (x4_1 : Int) := of_decide_eq_true (by first | (with_reducible assumption) | assumption);have q9 : (x4_1 : Int) < ((x3_1.length : Int) : Int) := of_decide_eq_true (by first | (with_reducible assumption) | assumption);obtain ⟨go9, co9, eo9, gb9, gl9, cl9, HG9⟩ := Kd.R_form HO_3.out (by omega)
    (first | cases eo9 | (injection eo9 with ea_ en_ ec_; (first | subst ea_ | (injection ea_ with ea_; subst ea_)); subst ec_; clear en_))
    have GB9 := am gb9;have GG9 := am HG9;clear gb9 gl9 HG9;obtain ⟨hx9_0, hf9_0⟩ := Kd.R_celln 0 HO_3.out (x4_1 : Int) p9 q9;replace p9 := eq_true p9;replace q9 := eq_true q9;have HP10 := Kd.R_putg HO_3.out (x4_1 : Int) (rd l0 x4_1)
    go_wp2_with (first | ((with_reducible refine gate_store (t := 5) (p := 20) rfl ?_); refine store_event (t := 5) (p := 20) (v := ?vo_w11) (w1 := (wr.setCell ⟨go9, (x4_1 : Int).toNat, none⟩ (.int .u8 (rd l0 x4_1)))) ?hg ?ho ?hn ?hr ?_; (case ho => rfl); (case hg => rfl); (case hn => rfl); (case hr => first | (go_simp; done) | (go_simp; rfl)); intro w11 hw; have hg : wr.grownBy w11 (some go9) := (by rw [hw]; exact HP10.2); have hp_ : Kd.R (Kd.int .u8) 5 w11 w.heap.size (fun _ => True) (.slice (some ⟨go9, 0, none⟩) x3_1.length co9) y105 := (by rw [hw, Ny105.out]; exact HP10.1); clear HP10; have n0_ := am (hp_); have n1_ := am ((by rw [hw]; exact below_set (HB.out) GB9.out : Below w.heap.size w w11)); clear HO_3; clear HB; have HO_3 := n0_; have HB := n1_; clear n0_ n1_; clear hg hw hp_))
    go_roundg k1
    case measure => have := HK1.out; omega
    case rel => exact ⟨(y105), (wrap64 (x4_1 + 1)), pv, H', ⟨by have := HK1.out; omega⟩, ⟨R_at HO_3.out⟩, ⟨bel_now⟩⟩

def spec_l05Head.f (l0 : List Int) : Option (Bool) := if (l0.length : Int) ≥ 3 then (if 0 < (l0.length : Int) then (if (rd l0 0) = 80 then (if 1 < (l0.length : Int) then (if (rd l0 1) = 77 then (if 2 < (l0.length : Int) then (some ((rd l0 2) == 49)) else (none)) else (some false)) else (none)) else (some false)) else (none)) else (some false)
theorem spec_l05Head.calls (A0 : Option Addr) (c0 : Nat) (l0 : List Int) (r : Bool) (w : World) (hr0 : Kd.C (Kd.int .u8) w A0 l0.length l0) (hc0 : l0.length ≤ c0) (h : spec_l05Head.f l0 = some r) :
   Calls Try.prog 75 #[.slice A0 l0.length c0] w fun e w' => e = .returned (.bool r) ∧ Drawn0 w w' := by
  have HR0 := am hr0;have HC0 := am hc0;clear hr0 hc0;have H : (if (l0.length : Int) ≥ 3 then (if 0 < (l0.length : Int) then (if (rd l0 0) = 80 then (if 1 < (l0.length : Int) then (if (rd l0 1) = 77 then (if 2 < (l0.length : Int) then (some ((rd l0 2) == 49)) else (none)) else (some false)) else (none)) else (some false)) else (none)) else (some false)) = some r := h;clear h;by_cases c2 : (l0.length : Int) ≥ 3
  case' neg => skip
  rw [if_neg c2] at H;have c2b0 : decide (3 ≤ (l0.length : Int)) = false := decide_eq_false c2;have c2b1 : decide (3 ≤ l0.length) = false := decide_eq_false (by omega);clear c2;obtain rfl := Option.some.inj H;rotate_left;rw [if_pos c2] at H;have c2b0 : decide (3 ≤ (l0.length : Int)) = true := decide_eq_true c2;have c2b1 : decide (3 ≤ l0.length) = true := decide_eq_true (by omega);clear c2;obtain ⟨c3, H⟩ := gd H;have c3b0 : decide (0 < (l0.length : Int)) = true := decide_eq_true c3;have c3b1 : decide (0 < l0.length) = true := decide_eq_true (by omega);clear c3;by_cases c4 : (rd l0 0) = 80
  case' neg => skip
  rw [if_neg c4] at H;have c4b0 : ((rd l0 0) == 80) = false := beq_eq_false_iff_ne.mpr c4;have c4b1 : ((rd l0 0) != 80) = true := bne_iff_ne.mpr c4;obtain rfl := Option.some.inj H;have p106 : 0 ≤ (0 : Int) := (by omega);have q106 : 0 < (l0.length : Int) := of_decide_eq_true (by first | (with_reducible assumption) | assumption);obtain ⟨ad106, e106, hx106_0⟩ := Kd.at_int HR0.out 0 p106 q106;cases e106;have qi106 : (0 < l0.length) = True := eq_true (by omega)
  (try rw [show ((0 : Int)).toNat = 0 from rfl] at hx106_0)
  (try rw [Addr.add_zero'] at hx106_0);replace p106 := eq_true p106;replace q106 := eq_true q106;rotate_left;rw [if_pos c4] at H;have c4b0 : ((rd l0 0) == 80) = true := beq_iff_eq.mpr c4;have c4b1 : ((rd l0 0) != 80) = false := bne_eq_false_iff_eq.mpr c4;clear c4;obtain ⟨c5, H⟩ := gd H;have c5b0 : decide (1 < (l0.length : Int)) = true := decide_eq_true c5;have c5b1 : decide (1 < l0.length) = true := decide_eq_true (by omega);clear c5;by_cases c6 : (rd l0 1) = 77
  case' neg => skip
  rw [if_neg c6] at H;have c6b0 : ((rd l0 1) == 77) = false := beq_eq_false_iff_ne.mpr c6;have c6b1 : ((rd l0 1) != 77) = true := bne_iff_ne.mpr c6;obtain rfl := Option.some.inj H;have p106 : 0 ≤ (0 : Int) := (by omega);have q106 : 0 < (l0.length : Int) := of_decide_eq_true (by first | (with_reducible assumption) | assumption);obtain ⟨ad106, e106, hx106_0⟩ := Kd.at_int HR0.out 0 p106 q106;cases e106;have qi106 : (0 < l0.length) = True := eq_true (by omega)
  (try rw [show ((0 : Int)).toNat = 0 from rfl] at hx106_0)
  (try rw [Addr.add_zero'] at hx106_0);replace p106 := eq_true p106;replace q106 := eq_true q106;have p107 : 0 ≤ (1 : Int) := (by omega);have q107 : 1 < (l0.length : Int) := of_decide_eq_true (by first | (with_reducible assumption) | assumption);obtain ⟨ad107, e107, hx107_0⟩ := Kd.at_int HR0.out 1 p107 q107;obtain rfl : ad106 = ad107 := (by injection e107)
  (try simp only [show (1 : Int).toNat = 1 from rfl, Nat.reduceMul, Nat.reduceEqDiff, Go.Addr.add, ↓reduceIte] at hx107_0)
  have qi107 : (1 < l0.length) = True := eq_true (by omega)
  (try rw [show ((1 : Int)).toNat = 1 from rfl] at hx107_0)
  replace p107 := eq_true p107;replace q107 := eq_true q107;rotate_left;rw [if_pos c6] at H;have c6b0 : ((rd l0 1) == 77) = true := beq_iff_eq.mpr c6;have c6b1 : ((rd l0 1) != 77) = false := bne_eq_false_iff_eq.mpr c6;clear c6;obtain ⟨c7, H⟩ := gd H;have c7b0 : decide (2 < (l0.length : Int)) = true := decide_eq_true c7;have c7b1 : decide (2 < l0.length) = true := decide_eq_true (by omega);clear c7;obtain rfl := Option.some.inj H;have p106 : 0 ≤ (0 : Int) := (by omega);have q106 : 0 < (l0.length : Int) := of_decide_eq_true (by first | (with_reducible assumption) | assumption);obtain ⟨ad106, e106, hx106_0⟩ := Kd.at_int HR0.out 0 p106 q106;cases e106;have qi106 : (0 < l0.length) = True := eq_true (by omega)
  (try rw [show ((0 : Int)).toNat = 0 from rfl] at hx106_0)
  (try rw [Addr.add_zero'] at hx106_0);replace p106 := eq_true p106;replace q106 := eq_true q106;have p107 : 0 ≤ (1 : Int) := (by omega);have q107 : 1 < (l0.length : Int) := of_decide_eq_true (by first | (with_reducible assumption) | assumption);obtain ⟨ad107, e107, hx107_0⟩ := Kd.at_int HR0.out 1 p107 q107;obtain rfl : ad106 = ad107 := (by injection e107)
  (try simp only [show (1 : Int).toNat = 1 from rfl, Nat.reduceMul, Nat.reduceEqDiff, Go.Addr.add, ↓reduceIte] at hx107_0)
  have qi107 : (1 < l0.length) = True := eq_true (by omega)
  (try rw [show ((1 : Int)).toNat = 1 from rfl] at hx107_0)
  replace p107 := eq_true p107;replace q107 := eq_true q107;have p108 : 0 ≤ (2 : Int) := (by omega);have q108 : 2 < (l0.length : Int) := of_decide_eq_true (by first | (with_reducible assumption) | assumption);obtain ⟨ad108, e108, hx108_0⟩ := Kd.at_int HR0.out 2 p108 q108;obtain rfl : ad106 = ad108 := (by injection e108)
  (try simp only [show (2 : Int).toNat = 2 from rfl, Nat.reduceMul, Nat.reduceEqDiff, Go.Addr.add, ↓reduceIte] at hx108_0)
  have qi108 : (2 < l0.length) = True := eq_true (by omega)
  (try rw [show ((2 : Int)).toNat = 2 from rfl] at hx108_0)
  replace p108 := eq_true p108;replace q108 := eq_true q108;rotate_left
  all_goals (go_enter Try.func75, Try.ntmps75; go_wp2)
  ·go_ret
   exact ⟨by first | rfl | (simp; done) | (simp [*]; done), by repeat (first | exact Drawn0.refl _ | apply Drawn0.step)⟩
  ·go_ret
   exact ⟨by first | rfl | (simp; done) | (simp [*]; done), by repeat (first | exact Drawn0.refl _ | apply Drawn0.step)⟩
  ·go_ret
   exact ⟨by first | rfl | (simp; done) | (simp [*]; done), by repeat (first | exact Drawn0.refl _ | apply Drawn0.step)⟩
  ·go_ret
   exact ⟨by first | rfl | (simp; done) | (simp [*]; done), by repeat (first | exact Drawn0.refl _ | apply Drawn0.step)⟩

mutual
def spec_TakeWide.l0 : Nat → List Int → Int → Int → Int → Option (Int × Int)
  | 0, _, _, _, _ => none
  | k + 1, x0, x1, x6, x7 => if x7 < 6 then (if x1 < 0 then (spec_TakeWide.j1 k x0 x1 x6 x7 true) else (spec_TakeWide.j1 k x0 x1 x6 x7 (decide (x1 ≥ (wrap64 ((x0.length : Int) - x7)))))) else (some (0, (-1)))
def spec_TakeWide.j1 : Nat → List Int → Int → Int → Int → Bool → Option (Int × Int)
  | 0, _, _, _, _, _ => none
  | k + 1, x0, x1, x6, x7, x23 => if x23 = true then (some (0, (-1))) else (if 0 ≤ (wrap64 (x1 + x7)) then (if (wrap64 (x1 + x7)) < (x0.length : Int) then (if 0 ≤ (IntKind.u64.wrap (wrap64 (7 * x7))) then (if (wrap64 (rd x0 (wrap64 (x1 + x7)))) < 128 then (if (wrap64 (rd x0 (wrap64 (x1 + x7)))) = 0 then (if x7 > 0 then (spec_TakeWide.j2 k x1 (wrap64 (x6 + (shl .i64 (Int.tmod (wrap64 (rd x0 (wrap64 (x1 + x7)))) 128) (IntKind.u64.wrap (wrap64 (7 * x7)))))) x7 true) else (spec_TakeWide.j2 k x1 (wrap64 (x6 + (shl .i64 (Int.tmod (wrap64 (rd x0 (wrap64 (x1 + x7)))) 128) (IntKind.u64.wrap (wrap64 (7 * x7)))))) x7 (decide ((wrap64 (x6 + (shl .i64 (Int.tmod (wrap64 (rd x0 (wrap64 (x1 + x7)))) 128) (IntKind.u64.wrap (wrap64 (7 * x7)))))) > 2199023255551)))) else (spec_TakeWide.j2 k x1 (wrap64 (x6 + (shl .i64 (Int.tmod (wrap64 (rd x0 (wrap64 (x1 + x7)))) 128) (IntKind.u64.wrap (wrap64 (7 * x7)))))) x7 (decide ((wrap64 (x6 + (shl .i64 (Int.tmod (wrap64 (rd x0 (wrap64 (x1 + x7)))) 128) (IntKind.u64.wrap (wrap64 (7 * x7)))))) > 2199023255551)))) else (spec_TakeWide.l0 k x0 x1 (wrap64 (x6 + (shl .i64 (Int.tmod (wrap64 (rd x0 (wrap64 (x1 + x7)))) 128) (IntKind.u64.wrap (wrap64 (7 * x7)))))) (wrap64 (x7 + 1)))) else (none)) else (none)) else (none))
def spec_TakeWide.j2 : Nat → Int → Int → Int → Bool → Option (Int × Int)
  | 0, _, _, _, _ => none
  | k + 1, x1, x6, x7, x50 => if x50 = true then (some (0, (-1))) else (if (Int.tmod x6 2) = 1 then (some (wrap64 (Int.tdiv (wrap64 (-(wrap64 (x6 + 1)))) 2), wrap64 ((wrap64 (x1 + x7)) + 1))) else (some (wrap64 (Int.tdiv x6 2), wrap64 ((wrap64 (x1 + x7)) + 1))))
end
def spec_TakeWide.f (k : Nat) (l0 : List Int) (a1 : Int) : Option (Int × Int) := spec_TakeWide.l0 k l0 a1 0 0
theorem spec_TakeWide.calls (k : Nat) (A0 : Option Addr) (c0 : Nat) (l0 : List Int) (a1 : Int) (r1 : Int) (r2 : Int) (w : World) (hr0 : Kd.C (Kd.int .u8) w A0 l0.length l0) (hc0 : l0.length ≤ c0) (h : spec_TakeWide.f k l0 a1 = some (r1, r2)) :
   Calls Try.prog 120 #[.slice A0 l0.length c0, .int .i64 a1] w fun e w' => e = .returned (.tuple #[.int .i64 r1, .int .i64 r2]) ∧ Drawn0 w w' := by
  have HR0 := am hr0;have HC0 := am hc0;clear hr0 hc0;have H : (spec_TakeWide.l0 k l0 a1 0 0) = some (r1, r2) := h;clear h;have H' := am H;clear H
  go_enter Try.func120, Try.ntmps120
  go_wp2
  go_loopg [6, 7] k (fun kq v6 v7 w' => ∃ (x6_1 : Int) (x7_1 : Int), v6 = .int .i64 x6_1 ∧ v7 = .int .i64 x7_1 ∧ Aside0 (spec_TakeWide.l0 kq l0 a1 x6_1 x7_1 = some (r1, r2)) ∧ Aside0 (kq ≤ k) ∧ Drawn0 w w')
  case atStart => exact ⟨(0), (0), pv, pv, H', ⟨Nat.le_refl _⟩, by repeat (first | exact Drawn0.refl _ | apply Drawn0.step)⟩
  case round =>
   clear H';obtain ⟨x6_1, x7_1, rfl, rfl, HA, HK1, ⟨m1, rfl⟩⟩ := hrel
   cases gk with
   | zero => exact absurd HA.out (by simp [spec_TakeWide.l0])
   | succ k1 =>
    have H := HA.out;clear HA;simp only [spec_TakeWide.l0] at H;by_cases c3 : x7_1 < 6
    ·rw [if_pos c3] at H;have c3b0 : decide (x7_1 < 6) = true := decide_eq_true c3;clear c3;have HC4 := am H;clear H
     go_upto_region 5 with (fail)
     go_cut [23] (fun v23 wc => ∃ (kq : Nat) (x23_3 : Bool), v23 = .bool x23_3 ∧ Aside0 (spec_TakeWide.j1 kq l0 a1 x6_1 x7_1 x23_3 = some (r1, r2)) ∧ Aside0 (kq ≤ k1) ∧ Drawn0 w wc)
     case first =>
      have H := HC4.out;clear HC4;by_cases c5 : a1 < 0
      ·rw [if_pos c5] at H;have c5b0 : decide (a1 < 0) = true := decide_eq_true c5;clear c5
       (first | rw [c5b0] | (simp only [i64_w, i32_w]; rw [c5b0]) | skip)
       have H' := am H;clear H
       go_wp2
       go_meet
       case rel => exact ⟨_, (true), pv, H', ⟨by have := HK1.out; first | omega | exact Nat.le_refl _⟩, by repeat (first | exact Drawn0.refl _ | apply Drawn0.step)⟩
      ·rw [if_neg c5] at H;have c5b0 : decide (a1 < 0) = false := decide_eq_false c5;clear c5
       (first | rw [c5b0] | (simp only [i64_w, i32_w]; rw [c5b0]) | skip)
       have H' := am H;clear H
       go_wp2
       go_meet
       case rel => exact ⟨_, (decide (a1 ≥ (wrap64 ((l0.length : Int) - x7_1)))), pv, H', ⟨by have := HK1.out; first | omega | exact Nat.le_refl _⟩, by repeat (first | exact Drawn0.refl _ | apply Drawn0.step)⟩
     case rest =>
      clear HC4;try clear c3
      try clear c3b0
      obtain ⟨kq, x23_3, rfl, HA, HJ3, ⟨mc3, rfl⟩⟩ := hcut
      cases kq with
      | zero => exact absurd HA.out (by simp [spec_TakeWide.j1])
      | succ kj3 =>
       have H := HA.out;clear HA;simp only [spec_TakeWide.j1] at H;by_cases c6 : x23_3 = true
       ·subst c6;rw [if_pos rfl] at H;simp only [Option.some.injEq, Prod.mk.injEq] at H;obtain ⟨rfl, rfl⟩ := H
        go_wp2
        go_ret2
        exact ⟨by first | rfl | (simp; done) | (simp [*]; done), by repeat (first | exact Drawn0.refl _ | apply Drawn0.step)⟩
       ·replace c6 := Bool.eq_false_iff.mpr c6;subst c6
        rw [if_neg (show ¬ (false = true) by decide)] at H
        obtain ⟨ji7, hji7⟩ : ∃ j_ : Int, (wrap64 (a1 + x7_1)) = j_ := ⟨_, rfl⟩;replace H : (if 0 ≤ (ji7) then (if (ji7) < (l0.length : Int) then (if 0 ≤ (IntKind.u64.wrap (wrap64 (7 * x7_1))) then (if (wrap64 (rd l0 (ji7))) < 128 then (if (wrap64 (rd l0 (ji7))) = 0 then (if x7_1 > 0 then (spec_TakeWide.j2 kj3 a1 (wrap64 (x6_1 + (shl .i64 (Int.tmod (wrap64 (rd l0 (ji7))) 128) (IntKind.u64.wrap (wrap64 (7 * x7_1)))))) x7_1 true) else (spec_TakeWide.j2 kj3 a1 (wrap64 (x6_1 + (shl .i64 (Int.tmod (wrap64 (rd l0 (ji7))) 128) (IntKind.u64.wrap (wrap64 (7 * x7_1)))))) x7_1 (decide ((wrap64 (x6_1 + (shl .i64 (Int.tmod (wrap64 (rd l0 (ji7))) 128) (IntKind.u64.wrap (wrap64 (7 * x7_1)))))) > 2199023255551)))) else (spec_TakeWide.j2 kj3 a1 (wrap64 (x6_1 + (shl .i64 (Int.tmod (wrap64 (rd l0 (ji7))) 128) (IntKind.u64.wrap (wrap64 (7 * x7_1)))))) x7_1 (decide ((wrap64 (x6_1 + (shl .i64 (Int.tmod (wrap64 (rd l0 (ji7))) 128) (IntKind.u64.wrap (wrap64 (7 * x7_1)))))) > 2199023255551)))) else (spec_TakeWide.l0 kj3 l0 a1 (wrap64 (x6_1 + (shl .i64 (Int.tmod (wrap64 (rd l0 (ji7))) 128) (IntKind.u64.wrap (wrap64 (7 * x7_1)))))) (wrap64 (x7_1 + 1)))) else (none)) else (none)) else (none)) = some (r1, r2) := by first | (rw [hji7] at H; exact H) | (simp only [hji7] at H ⊢; exact H)
        have hji7w : (IntKind.i64.wrap (a1 + x7_1)) = ji7 := (i64_w _).trans hji7;by_cases c8 : 0 ≤ (ji7)
        ·rw [if_pos c8] at H;have c8b0 : decide (0 ≤ (ji7)) = true := decide_eq_true c8;clear c8;by_cases c9 : (ji7) < (l0.length : Int)
         ·rw [if_pos c9] at H;have c9b0 : decide ((ji7) < (l0.length : Int)) = true := decide_eq_true c9;clear c9;obtain ⟨ji10, hji10⟩ : ∃ j_ : Int, (IntKind.u64.wrap (wrap64 (7 * x7_1))) = j_ := ⟨_, rfl⟩;replace H : (if 0 ≤ (ji10) then (if (wrap64 (rd l0 (ji7))) < 128 then (if (wrap64 (rd l0 (ji7))) = 0 then (if x7_1 > 0 then (spec_TakeWide.j2 kj3 a1 (wrap64 (x6_1 + (shl .i64 (Int.tmod (wrap64 (rd l0 (ji7))) 128) (ji10)))) x7_1 true) else (spec_TakeWide.j2 kj3 a1 (wrap64 (x6_1 + (shl .i64 (Int.tmod (wrap64 (rd l0 (ji7))) 128) (ji10)))) x7_1 (decide ((wrap64 (x6_1 + (shl .i64 (Int.tmod (wrap64 (rd l0 (ji7))) 128) (ji10)))) > 2199023255551)))) else (spec_TakeWide.j2 kj3 a1 (wrap64 (x6_1 + (shl .i64 (Int.tmod (wrap64 (rd l0 (ji7))) 128) (ji10)))) x7_1 (decide ((wrap64 (x6_1 + (shl .i64 (Int.tmod (wrap64 (rd l0 (ji7))) 128) (ji10)))) > 2199023255551)))) else (spec_TakeWide.l0 kj3 l0 a1 (wrap64 (x6_1 + (shl .i64 (Int.tmod (wrap64 (rd l0 (ji7))) 128) (ji10)))) (wrap64 (x7_1 + 1)))) else (none)) = some (r1, r2) := by first | (rw [hji10] at H; exact H) | (simp only [hji10] at H ⊢; exact H)
          by_cases c11 : 0 ≤ (ji10)
          ·rw [if_pos c11] at H;have c11b0 := eq_true c11;have c11b1 : decide (0 ≤ (ji10)) = true := decide_eq_true c11;clear c11;obtain ⟨ji12, hji12⟩ : ∃ j_ : Int, (shl .i64 (Int.tmod (wrap64 (rd l0 (ji7))) 128) (ji10)) = j_ := ⟨_, rfl⟩;replace H : (if (wrap64 (rd l0 (ji7))) < 128 then (if (wrap64 (rd l0 (ji7))) = 0 then (if x7_1 > 0 then (spec_TakeWide.j2 kj3 a1 (wrap64 (x6_1 + (ji12))) x7_1 true) else (spec_TakeWide.j2 kj3 a1 (wrap64 (x6_1 + (ji12))) x7_1 (decide ((wrap64 (x6_1 + (ji12))) > 2199023255551)))) else (spec_TakeWide.j2 kj3 a1 (wrap64 (x6_1 + (ji12))) x7_1 (decide ((wrap64 (x6_1 + (ji12))) > 2199023255551)))) else (spec_TakeWide.l0 kj3 l0 a1 (wrap64 (x6_1 + (ji12))) (wrap64 (x7_1 + 1)))) = some (r1, r2) := by first | (rw [hji12] at H; exact H) | (simp only [hji12] at H ⊢; exact H)
           have hji12_ : (IntKind.i64.wrap ((Int.tmod (wrap64 (rd l0 (ji7))) 128) * 2 ^ min (ji10).toNat 64)) = ji12 := hji12;have hji12z : (ji10) ≤ 64 → (IntKind.i64.wrap ((Int.tmod (wrap64 (rd l0 (ji7))) 128) * 2 ^ (ji10).toNat)) = ji12 := shl_small hji12;have hji12y : (wrap64 ((Int.tmod (wrap64 (rd l0 (ji7))) 128) * 2 ^ min (ji10).toNat 64)) = ji12 := (i64_w _).symm.trans hji12_;have hji12x : (ji10) ≤ 64 → (wrap64 ((Int.tmod (wrap64 (rd l0 (ji7))) 128) * 2 ^ (ji10).toNat)) = ji12 := fun h_ => (i64_w _).symm.trans (hji12z h_);by_cases c13 : (wrap64 (rd l0 (ji7))) < 128
           ·rw [if_pos c13] at H;have c13b0 : decide ((wrap64 (rd l0 (ji7))) < 128) = true := decide_eq_true c13;clear c13;have HC14 := am H;clear H;have p109 : 0 ≤ ((ji7) : Int) := of_decide_eq_true (by first | (with_reducible assumption) | assumption);have q109 : (ji7) < (l0.length : Int) := of_decide_eq_true (by first | (with_reducible assumption) | assumption);obtain ⟨ad109, e109, hx109_0⟩ := Kd.at_int HR0.out (ji7) p109 q109;cases e109;replace p109 := eq_true p109;replace q109 := eq_true q109
            go_upto_region 10 with (fail)
            go_cut [50] (fun v50 wc => ∃ (kq : Nat) (x50_13 : Bool), v50 = .bool x50_13 ∧ Aside0 (spec_TakeWide.j2 kq a1 (wrap64 (x6_1 + (ji12))) x7_1 x50_13 = some (r1, r2)) ∧ Aside0 (kq ≤ kj3) ∧ Drawn0 w wc)
            case first =>
             have H := HC14.out;clear HC14;by_cases c15 : (wrap64 (rd l0 (ji7))) = 0
             ·rw [if_pos c15] at H;have c15b0 : ((wrap64 (rd l0 (ji7))) == 0) = true := beq_iff_eq.mpr c15;have c15b1 : ((wrap64 (rd l0 (ji7))) != 0) = false := bne_eq_false_iff_eq.mpr c15;clear c15
              (first | rw [c15b0] | (simp only [i64_w, i32_w]; rw [c15b0]) | skip)
              by_cases c16 : x7_1 > 0
              ·rw [if_pos c16] at H;have c16b0 : decide (0 < x7_1) = true := decide_eq_true c16;clear c16;have H' := am H;clear H
               go_wp2
               go_meet
               case rel => exact ⟨_, (true), pv, H', ⟨by have := HK1.out; have := HJ3.out; first | omega | exact Nat.le_refl _⟩, by repeat (first | exact Drawn0.refl _ | apply Drawn0.step)⟩
              ·rw [if_neg c16] at H;have c16b0 : decide (0 < x7_1) = false := decide_eq_false c16;clear c16;have H' := am H;clear H
               go_wp2
               go_meet
               case rel => exact ⟨_, (decide ((wrap64 (x6_1 + (ji12))) > 2199023255551)), (by first | rfl | (simp; done) | (simp only [← hji12] <;> (first | rfl | simp)) | (simp [*]; done)), H', ⟨by have := HK1.out; have := HJ3.out; first | omega | exact Nat.le_refl _⟩, by repeat (first | exact Drawn0.refl _ | apply Drawn0.step)⟩
             ·rw [if_neg c15] at H;have c15b0 : ((wrap64 (rd l0 (ji7))) == 0) = false := beq_eq_false_iff_ne.mpr c15;have c15b1 : ((wrap64 (rd l0 (ji7))) != 0) = true := bne_iff_ne.mpr c15
              (first | rw [c15b0] | (simp only [i64_w, i32_w]; rw [c15b0]) | skip)
              have H' := am H;clear H
              go_wp2
              go_meet
              case rel => exact ⟨_, (decide ((wrap64 (x6_1 + (ji12))) > 2199023255551)), (by first | rfl | (simp; done) | (simp only [← hji12] <;> (first | rfl | simp)) | (simp [*]; done)), H', ⟨by have := HK1.out; have := HJ3.out; first | omega | exact Nat.le_refl _⟩, by repeat (first | exact Drawn0.refl _ | apply Drawn0.step)⟩
            case rest =>
             clear HC14;try clear c3
             try clear c3b0
             try clear c6
             try clear c8
             try clear c8b0
             try clear c9
             try clear c9b0
             try clear c11
             try clear c11b0
             try clear c11b1
             try clear c13
             try clear c13b0
             try clear hx109_0
             try clear p109
             try clear q109
             obtain ⟨kq, x50_13, rfl, HA, HJ13, ⟨mc13, rfl⟩⟩ := hcut
             cases kq with
             | zero => exact absurd HA.out (by simp [spec_TakeWide.j2])
             | succ kj13 =>
              have H := HA.out;clear HA;simp only [spec_TakeWide.j2] at H;by_cases c17 : x50_13 = true
              ·subst c17;rw [if_pos rfl] at H;simp only [Option.some.injEq, Prod.mk.injEq] at H;obtain ⟨rfl, rfl⟩ := H
               go_wp2
               go_ret2
               exact ⟨by first | rfl | (simp; done) | (simp only [← hji7, ← hji10, ← hji12] <;> (first | rfl | simp)) | (simp [*]; done), by repeat (first | exact Drawn0.refl _ | apply Drawn0.step)⟩
              ·replace c17 := Bool.eq_false_iff.mpr c17;subst c17
               rw [if_neg (show ¬ (false = true) by decide)] at H
               by_cases c18 : (Int.tmod (wrap64 (x6_1 + (ji12))) 2) = 1
               ·rw [if_pos c18] at H;have c18b0 : ((Int.tmod (wrap64 (x6_1 + (ji12))) 2) == 1) = true := beq_iff_eq.mpr c18;have c18b1 : ((Int.tmod (wrap64 (x6_1 + (ji12))) 2) != 1) = false := bne_eq_false_iff_eq.mpr c18;clear c18;simp only [Option.some.injEq, Prod.mk.injEq] at H;obtain ⟨rfl, rfl⟩ := H
                go_wp2
                go_ret2
                exact ⟨by first | rfl | (simp; done) | (simp only [← hji7, ← hji10, ← hji12] <;> (first | rfl | simp)) | (simp [*]; done), by repeat (first | exact Drawn0.refl _ | apply Drawn0.step)⟩
               ·rw [if_neg c18] at H;have c18b0 : ((Int.tmod (wrap64 (x6_1 + (ji12))) 2) == 1) = false := beq_eq_false_iff_ne.mpr c18;have c18b1 : ((Int.tmod (wrap64 (x6_1 + (ji12))) 2) != 1) = true := bne_iff_ne.mpr c18;simp only [Option.some.injEq, Prod.mk.injEq] at H;obtain ⟨rfl, rfl⟩ := H
                go_wp2
                go_ret2
                exact ⟨by first | rfl | (simp; done) | (simp only [← hji7, ← hji10, ← hji12] <;> (first | rfl | simp)) | (simp [*]; done), by repeat (first | exact Drawn0.refl _ | apply Drawn0.step)⟩
           ·rw [if_neg c13] at H;have c13b0 : decide ((wrap64 (rd l0 (ji7))) < 128) = false := decide_eq_false c13;clear c13;have H' := am H;clear H;have p109 : 0 ≤ ((ji7) : Int) := of_decide_eq_true (by first | (with_reducible assumption) | assumption);have q109 : (ji7) < (l0.length : Int) := of_decide_eq_true (by first | (with_reducible assumption) | assumption);obtain ⟨ad109, e109, hx109_0⟩ := Kd.at_int HR0.out (ji7) p109 q109;cases e109;replace p109 := eq_true p109;replace q109 := eq_true q109
            go_wp2
            go_roundg kj3
            case measure => have := HK1.out; have := HJ3.out; omega
            case rel => exact ⟨(wrap64 (x6_1 + (ji12))), (wrap64 (x7_1 + 1)), (by first | rfl | (simp; done) | (simp only [← hji12] <;> (first | rfl | simp)) | (simp [*]; done)), pv, H', ⟨by have := HK1.out; have := HJ3.out; omega⟩, by repeat (first | exact Drawn0.refl _ | apply Drawn0.step)⟩
          ·rw [if_neg c11] at H;exact absurd H (by simp)
         ·rw [if_neg c9] at H;exact absurd H (by simp)
        ·rw [if_neg c8] at H;exact absurd H (by simp)
    ·rw [if_neg c3] at H;have c3b0 : decide (x7_1 < 6) = false := decide_eq_false c3;clear c3;simp only [Option.some.injEq, Prod.mk.injEq] at H;obtain ⟨rfl, rfl⟩ := H
     go_wp2
     go_ret2
     exact ⟨by first | rfl | (simp; done) | (simp [*]; done), by repeat (first | exact Drawn0.refl _ | apply Drawn0.step)⟩

/-- A state of type 101 at block g of W; what its slices lead to came in by w0. -/
def IsS101 (w0 W : World) (g : Nat) (f0 : List Int) (f1 : Int) (f2 : Bool) : Prop := ∃ A0 c0, W.heap[g]? = some (.cells #[.slice A0 f0.length c0, .int .i64 f1, .bool f2] 101 (0, 0)) ∧ w0.heap.size ≤ g ∧ (Kd.C (Kd.int .u8) w0 A0 f0.length f0 ∧ f0.length ≤ c0)
theorem IsS101.grown {w0 W : World} {g : Nat} {f0 : List Int} {f1 : Int} {f2 : Bool} {W1 : World} {row : Option Nat} (h : IsS101 w0 W g f0 f1 f2) (hw : W.grownBy W1 row) (hne : some g ≠ row) : IsS101 w0 W1 g f0 f1 f2 := by
  obtain ⟨A0, c0, hb, hg, hr0⟩ := h;exact ⟨A0, c0, blk_grown hb hw hne, hg, hr0⟩
theorem IsS101.own_neN {w0 W : World} {g : Nat} {f0 : List Int} {f1 : Int} {f2 : Bool} {α : Type} {d : Kd α} {e : Nat} {base : Nat} {ok : Nat → Prop} {v : Value} {xs : List α} (h : IsS101 w0 W g f0 f1 f2) (ho : Kd.N d e W base ok v xs) (ht : e ≠ 101) : some g ≠ v.ownBlock := by
  obtain ⟨A0, c0, hb, hg, hr0⟩ := h;exact Kd.N_ne ho hb ht
theorem IsS101.fresh {w0 W : World} {g : Nat} {f0 : List Int} {f1 : Int} {f2 : Bool} (h : IsS101 w0 W g f0 f1 f2) : ∀ k, W.heap.size ≤ k → k ≠ g := by
  obtain ⟨A0, c0, hb, hg, hr0⟩ := h;exact Kd.freshB hb
theorem IsS101.kept {w0 W : World} {g : Nat} {f0 : List Int} {f1 : Int} {f2 : Bool} {W1 : World} {S : Nat → Prop} (h : IsS101 w0 W g f0 f1 f2) (hk : Kept W W1 S) (hne : ¬ S g) : IsS101 w0 W1 g f0 f1 f2 := by
  obtain ⟨A0, c0, hb, hg, hr0⟩ := h;exact ⟨A0, c0, blk_kept hb hk hne, hg, hr0⟩
theorem IsS101.below {w0 W : World} {g : Nat} {f0 : List Int} {f1 : Int} {f2 : Bool} {W1 : World} (h : IsS101 w0 W g f0 f1 f2) (hw : Below W.heap.size W W1) : IsS101 w0 W1 g f0 f1 f2 := h.grown (grown_of_below hw none) (by simp)
theorem IsS101.alloc {w0 W : World} {g : Nat} {f0 : List Int} {f1 : Int} {f2 : Bool} (h : IsS101 w0 W g f0 f1 f2) (o : Obj) : IsS101 w0 (W.alloc o) g f0 f1 f2 := h.below (below_alloc (Below.refl _ _) o)
theorem IsS101.drewN {w0 W : World} {g : Nat} {f0 : List Int} {f1 : Int} {f2 : Bool} (h : IsS101 w0 W g f0 f1 f2) (m : Nat) : IsS101 w0 (W.drewN m) g f0 f1 f2 := h
theorem IsS101.drew {w0 W : World} {g : Nat} {f0 : List Int} {f1 : Int} {f2 : Bool} (h : IsS101 w0 W g f0 f1 f2) : IsS101 w0 W.drew g f0 f1 f2 := h
theorem IsS101.at_ {w0 W : World} {g : Nat} {f0 : List Int} {f1 : Int} {f2 : Bool} {w' : World} {m : Nat} (hq : W.drewN m = w') (h : IsS101 w0 W g f0 f1 f2) : IsS101 w0 w' g f0 f1 f2 := by subst hq; exact IsS101.drewN h m
theorem IsS101.apart {w0 W : World} {g : Nat} {f0 : List Int} {f1 : Int} {f2 : Bool} {α : Type} {d : Kd α} {e : Nat} {base : Nat} {ok : Nat → Prop} {v : Value} {xs : List α} (h : IsS101 w0 W g f0 f1 f2) (ho : d.R e W base ok v xs) (ht : ∀ q, q ∈ e :: d.E → q ≠ 101) : d.R e W base (fun k => ok k ∧ k ≠ g) v xs := by
  obtain ⟨A0, c0, hb, hg, hr0⟩ := h;exact Kd.R_types ho hb ht
theorem IsS101.own_ne {w0 W : World} {g : Nat} {f0 : List Int} {f1 : Int} {f2 : Bool} {α : Type} {d : Kd α} {e : Nat} {base : Nat} {ok : Nat → Prop} {v : Value} {xs : List α} (h : IsS101 w0 W g f0 f1 f2) (ho : d.R e W base ok v xs) (ht : e ≠ 101) : some g ≠ v.ownBlock := by
  obtain ⟨A0, c0, hb, hg, hr0⟩ := h;exact Kd.R_ne ho hb ht
theorem IsS101.apartQ {w0 W : World} {g : Nat} {f0 : List Int} {f1 : Int} {f2 : Bool} {α : Type} {d : Kd α} {e : Nat} {base : Nat} {ok : Nat → Prop} {v : Value} {xs : List α} (h : IsS101 w0 W g f0 f1 f2) (ho : d.Q e W base ok v xs) (ht : ∀ q, q ∈ e :: d.E → q ≠ 101) : d.Q e W base (fun k => ok k ∧ k ≠ g) v xs := by
  obtain ⟨A0, c0, hb, hg, hr0⟩ := h;exact Kd.Q_types ho hb ht
theorem IsS101.own_neQ {w0 W : World} {g : Nat} {f0 : List Int} {f1 : Int} {f2 : Bool} {α : Type} {d : Kd α} {e : Nat} {base : Nat} {ok : Nat → Prop} {v : Value} {xs : List α} (h : IsS101 w0 W g f0 f1 f2) (ho : d.Q e W base ok v xs) (ht : e ≠ 101) : some g ≠ v.ownBlock := by
  obtain ⟨A0, c0, hb, hg, hr0⟩ := h;exact Kd.Q_ne ho hb ht
theorem IsS101.apartS {w0 W : World} {g : Nat} {f0 : List Int} {f1 : Int} {f2 : Bool} {α : Type} {d : Kd α} {e : Nat} {base : Nat} {ok : Nat → Prop} {v : Value} {xs : List α} (h : IsS101 w0 W g f0 f1 f2) (ho : d.S e W base ok v xs) (ht : ∀ q, q ∈ e :: d.E → q ≠ 101) : d.S e W base (fun k => ok k ∧ k ≠ g) v xs := by
  obtain ⟨A0, c0, hb, hg, hr0⟩ := h;exact Kd.S_types ho hb ht
theorem IsS101.own_neS {w0 W : World} {g : Nat} {f0 : List Int} {f1 : Int} {f2 : Bool} {α : Type} {d : Kd α} {e : Nat} {base : Nat} {ok : Nat → Prop} {v : Value} {xs : List α} (h : IsS101 w0 W g f0 f1 f2) (ho : d.S e W base ok v xs) (ht : e ≠ 101) : some g ≠ v.ownBlock := by
  obtain ⟨A0, c0, hb, hg, hr0⟩ := h;exact Kd.S_ne ho hb ht
theorem IsS101.lt {w0 W : World} {g : Nat} {f0 : List Int} {f1 : Int} {f2 : Bool} (h : IsS101 w0 W g f0 f1 f2) : g < W.heap.size := by
  obtain ⟨A0, c0, hb, hg, hr0⟩ := h;exact blk_lt hb
theorem IsS101.ge {w0 W : World} {g : Nat} {f0 : List Int} {f1 : Int} {f2 : Bool} (h : IsS101 w0 W g f0 f1 f2) : w0.heap.size ≤ g := by
  obtain ⟨A0, c0, hb, hg, hr0⟩ := h;exact hg
theorem IsS101.ne_blk {w0 W : World} {g : Nat} {f0 : List Int} {f1 : Int} {f2 : Bool} {a : Nat} {cs : Array Value} {t : TypeId} {fr : Nat × Nat} (h : IsS101 w0 W g f0 f1 f2) (hb2 : W.heap[a]? = some (.cells cs t fr)) (ht : t ≠ 101) : g ≠ a := by
  obtain ⟨A0, c0, hb, hg, hr0⟩ := h;rintro rfl;rw [hb] at hb2
  injection hb2 with hb2
  injection hb2 with _ ht2
  exact ht ht2.symm
theorem IsS101.far {w0 W : World} {g : Nat} {f0 : List Int} {f1 : Int} {f2 : Bool} {p : Addr} (h : IsS101 w0 W g f0 f1 f2) (hne : g ≠ p.block) (u : Value) : IsS101 w0 (W.setCell p u) g f0 f1 f2 := by
  obtain ⟨A0, c0, hb, hg, hr0⟩ := h;exact ⟨A0, c0, blk_far hb hne u, hg, hr0⟩
theorem cellS101_0 {W : World} {g : Nat} {A0 : Option Addr} {c0 : Nat} {f0 : List Int} {f1 : Int} {f2 : Bool} (h : W.heap[g]? = some (.cells #[.slice A0 f0.length c0, .int .i64 f1, .bool f2] 101 (0, 0))) : W.cell? ⟨g, 0, none⟩ = some (.slice A0 f0.length c0) := (blk_cell h 0).trans rfl
theorem cellS101_1 {W : World} {g : Nat} {A0 : Option Addr} {c0 : Nat} {f0 : List Int} {f1 : Int} {f2 : Bool} (h : W.heap[g]? = some (.cells #[.slice A0 f0.length c0, .int .i64 f1, .bool f2] 101 (0, 0))) : W.cell? ⟨g, 1, none⟩ = some (.int .i64 f1) := (blk_cell h 1).trans rfl
theorem IsS101.set_1 {w0 W : World} {g : Nat} {f0 : List Int} {f1 : Int} {f2 : Bool} (h : IsS101 w0 W g f0 f1 f2) (x : Int) : IsS101 w0 (W.setCell ⟨g, 1, none⟩ (.int .i64 x)) g f0 x f2 := by
  obtain ⟨A0, c0, hb, hg, hr0⟩ := h;exact ⟨A0, c0, by simpa using blk_set hb 1 (.int .i64 x), hg, hr0⟩
theorem cellS101_2 {W : World} {g : Nat} {A0 : Option Addr} {c0 : Nat} {f0 : List Int} {f1 : Int} {f2 : Bool} (h : W.heap[g]? = some (.cells #[.slice A0 f0.length c0, .int .i64 f1, .bool f2] 101 (0, 0))) : W.cell? ⟨g, 2, none⟩ = some (.bool f2) := (blk_cell h 2).trans rfl
theorem IsS101.set_2 {w0 W : World} {g : Nat} {f0 : List Int} {f1 : Int} {f2 : Bool} (h : IsS101 w0 W g f0 f1 f2) (x : Bool) : IsS101 w0 (W.setCell ⟨g, 2, none⟩ (.bool x)) g f0 f1 x := by
  obtain ⟨A0, c0, hb, hg, hr0⟩ := h;exact ⟨A0, c0, by simpa using blk_set hb 2 (.bool x), hg, hr0⟩
theorem IsS101.new (w0 W : World) (A0 : Option Addr) (c0 : Nat) (f0 : List Int) (f1 : Int) (f2 : Bool) (hB : Below w0.heap.size w0 W) (hr0 : (Kd.C (Kd.int .u8) w0 A0 f0.length f0 ∧ f0.length ≤ c0)) : IsS101 w0 (W.alloc (.cells #[.slice A0 f0.length c0, .int .i64 f1, .bool f2] 101)) W.heap.size f0 f1 f2 := ⟨A0, c0, by simpa using heap_alloc_new W _, hB.size, hr0⟩

def spec_l05Next.f (k : Nat) (s0_0 : List Int) (s0_1 : Int) (s0_2 : Bool) : Option (Int × Int × Bool) := if s0_2 = true then (some (0, s0_1, s0_2)) else ((spec_TakeWide.f k s0_0 s0_1).bind fun bt110 => (if bt110.2 < 0 then (some (0, s0_1, true)) else (some (bt110.1, bt110.2, s0_2))))
theorem spec_l05Next.calls (k : Nat) (g : Nat) (s0_0 : List Int) (s0_1 : Int) (s0_2 : Bool) (r1 : Int) (r2 : Int) (r3 : Bool) (w0 w : World) (hI : IsS101 w0 w g s0_0 s0_1 s0_2) (hB : Below w0.heap.size w0 w) (h : spec_l05Next.f k s0_0 s0_1 s0_2 = some (r1, r2, r3)) :
   Calls Try.prog 76 #[.pointer (some ⟨g, 0, none⟩)] w fun e w' => e = .returned (.int .i64 r1) ∧ IsS101 w0 w' g s0_0 r2 r3 ∧ Below w0.heap.size w0 w' ∧ KeepBut w w' g none := by
  have HI0 := am hI;have HK := am (KeepBut.refl w g none);have HL := am hB.size;clear hI;have HW0 := am hB.size;have HB := am hB;clear hB;have H : (if s0_2 = true then (some (0, s0_1, s0_2)) else ((spec_TakeWide.f k s0_0 s0_1).bind fun bt110 => (if bt110.2 < 0 then (some (0, s0_1, true)) else (some (bt110.1, bt110.2, s0_2))))) = some (r1, r2, r3) := h;clear h;by_cases c2 : s0_2 = true
  ·subst c2;rw [if_pos rfl] at H;simp only [Option.some.injEq, Prod.mk.injEq] at H;obtain ⟨rfl, rfl, rfl⟩ := H;obtain ⟨ASz3_0, cSz3_0, HGz3, hgz3, ⟨HSz3_0, HLz3_0⟩⟩ := HI0.out;have hcz3_0 := cellS101_0 HGz3;have hcz3_1 := cellS101_1 HGz3;have hcz3_2 := cellS101_2 HGz3;have hfz3_1 := blk_frozen HGz3 1;have hfz3_2 := blk_frozen HGz3 2;clear HGz3 hgz3
   go_enter Try.func76, Try.ntmps76
   go_wp2
   repeat (go_quiet (fail); try go_wp2)
   go_ret
   exact ⟨eqN, by repeat (first | (with_reducible first | exact HI0.out | apply IsS101.alloc | apply IsS101.drewN | apply IsS101.drew | apply IsS101.set_1 | apply IsS101.set_2) | exact HI0.out), by repeat (first | (with_reducible first | exact HB.out | apply below_alloc | apply pw_below_drewN | apply below_drew1 | refine below_set ?_ (IsS101.ge HI0.out)) | exact HB.out), by repeat (first | (with_reducible first | exact HK.out | apply KeepBut.set_ | apply keep_drewN | apply keep_drew | apply keep_alloc) | exact HK.out)⟩
  replace c2 := Bool.eq_false_iff.mpr c2;subst c2
  rw [if_neg (show ¬ (false = true) by decide)] at H
  replace H := Option.bind_eq_some_iff.mp H;obtain ⟨⟨t110, t111⟩, A40, H⟩ := H;(try dsimp only at H);have A4 := am A40;clear A40;by_cases c5 : t111 < 0
  ·rw [if_pos c5] at H;have c5b0 : decide (t111 < 0) = true := decide_eq_true c5;clear c5;simp only [Option.some.injEq, Prod.mk.injEq] at H;obtain ⟨rfl, rfl, rfl⟩ := H;obtain ⟨ASz6_0, cSz6_0, HGz6, hgz6, ⟨HSz6_0, HLz6_0⟩⟩ := HI0.out;have hcz6_0 := cellS101_0 HGz6;have hcz6_1 := cellS101_1 HGz6;have hcz6_2 := cellS101_2 HGz6;have hfz6_1 := blk_frozen HGz6 1;have hfz6_2 := blk_frozen HGz6 2;clear HGz6 hgz6
   go_enter Try.func76, Try.ntmps76
   go_wp2_with (first | (go_at_call 120; (with_reducible refine (spec_TakeWide.calls k _ _ s0_0 s0_1 t110 t111 _ ?side1 ?side2 A4.out).mono ?_); (case side1 => exact Kd.C_below HSz6_0 (by repeat (first | (with_reducible first | exact HB.out | apply below_alloc | apply pw_below_drewN | apply below_drew1 | refine below_set ?_ (IsS101.ge HI0.out)) | exact HB.out))); (case side2 => exact HLz6_0); rintro e w' ⟨rfl, ⟨nd, rfl⟩⟩; (try first | exact ⟨rfl, _, World.drewN_drewN _ _ _⟩ | exact ⟨rfl, _, Eq.trans (World.drewN_drewN _ _ _) (congrArg (World.drewN _) (Nat.add_assoc _ _ _))⟩)))
   repeat (go_quiet (first | (go_at_call 120; (with_reducible refine (spec_TakeWide.calls k _ _ s0_0 s0_1 t110 t111 _ ?side1 ?side2 A4.out).mono ?_); (case side1 => exact Kd.C_below HSz6_0 (by repeat (first | (with_reducible first | exact HB.out | apply below_alloc | apply pw_below_drewN | apply below_drew1 | refine below_set ?_ (IsS101.ge HI0.out)) | exact HB.out))); (case side2 => exact HLz6_0); rintro e w' ⟨rfl, ⟨nd, rfl⟩⟩; (try first | exact ⟨rfl, _, World.drewN_drewN _ _ _⟩ | exact ⟨rfl, _, Eq.trans (World.drewN_drewN _ _ _) (congrArg (World.drewN _) (Nat.add_assoc _ _ _))⟩))); try go_wp2_with (first | (go_at_call 120; (with_reducible refine (spec_TakeWide.calls k _ _ s0_0 s0_1 t110 t111 _ ?side1 ?side2 A4.out).mono ?_); (case side1 => exact Kd.C_below HSz6_0 (by repeat (first | (with_reducible first | exact HB.out | apply below_alloc | apply pw_below_drewN | apply below_drew1 | refine below_set ?_ (IsS101.ge HI0.out)) | exact HB.out))); (case side2 => exact HLz6_0); rintro e w' ⟨rfl, ⟨nd, rfl⟩⟩; (try first | exact ⟨rfl, _, World.drewN_drewN _ _ _⟩ | exact ⟨rfl, _, Eq.trans (World.drewN_drewN _ _ _) (congrArg (World.drewN _) (Nat.add_assoc _ _ _))⟩))))
   go_ret
   exact ⟨eqN, by repeat (first | (with_reducible first | exact HI0.out | apply IsS101.alloc | apply IsS101.drewN | apply IsS101.drew | apply IsS101.set_1 | apply IsS101.set_2) | exact HI0.out), by repeat (first | (with_reducible first | exact HB.out | apply below_alloc | apply pw_below_drewN | apply below_drew1 | refine below_set ?_ (IsS101.ge HI0.out)) | exact HB.out), by repeat (first | (with_reducible first | exact HK.out | apply KeepBut.set_ | apply keep_drewN | apply keep_drew | apply keep_alloc) | exact HK.out)⟩
  rw [if_neg c5] at H;have c5b0 : decide (t111 < 0) = false := decide_eq_false c5;clear c5;simp only [Option.some.injEq, Prod.mk.injEq] at H;obtain ⟨rfl, rfl, rfl⟩ := H;obtain ⟨ASz7_0, cSz7_0, HGz7, hgz7, ⟨HSz7_0, HLz7_0⟩⟩ := HI0.out;have hcz7_0 := cellS101_0 HGz7;have hcz7_1 := cellS101_1 HGz7;have hcz7_2 := cellS101_2 HGz7;have hfz7_1 := blk_frozen HGz7 1;have hfz7_2 := blk_frozen HGz7 2;clear HGz7 hgz7
  go_enter Try.func76, Try.ntmps76
  go_wp2_with (first | (go_at_call 120; (with_reducible refine (spec_TakeWide.calls k _ _ s0_0 s0_1 t110 t111 _ ?side1 ?side2 A4.out).mono ?_); (case side1 => exact Kd.C_below HSz7_0 (by repeat (first | (with_reducible first | exact HB.out | apply below_alloc | apply pw_below_drewN | apply below_drew1 | refine below_set ?_ (IsS101.ge HI0.out)) | exact HB.out))); (case side2 => exact HLz7_0); rintro e w' ⟨rfl, ⟨nd, rfl⟩⟩; (try first | exact ⟨rfl, _, World.drewN_drewN _ _ _⟩ | exact ⟨rfl, _, Eq.trans (World.drewN_drewN _ _ _) (congrArg (World.drewN _) (Nat.add_assoc _ _ _))⟩)))
  repeat (go_quiet (first | (go_at_call 120; (with_reducible refine (spec_TakeWide.calls k _ _ s0_0 s0_1 t110 t111 _ ?side1 ?side2 A4.out).mono ?_); (case side1 => exact Kd.C_below HSz7_0 (by repeat (first | (with_reducible first | exact HB.out | apply below_alloc | apply pw_below_drewN | apply below_drew1 | refine below_set ?_ (IsS101.ge HI0.out)) | exact HB.out))); (case side2 => exact HLz7_0); rintro e w' ⟨rfl, ⟨nd, rfl⟩⟩; (try first | exact ⟨rfl, _, World.drewN_drewN _ _ _⟩ | exact ⟨rfl, _, Eq.trans (World.drewN_drewN _ _ _) (congrArg (World.drewN _) (Nat.add_assoc _ _ _))⟩))); try go_wp2_with (first | (go_at_call 120; (with_reducible refine (spec_TakeWide.calls k _ _ s0_0 s0_1 t110 t111 _ ?side1 ?side2 A4.out).mono ?_); (case side1 => exact Kd.C_below HSz7_0 (by repeat (first | (with_reducible first | exact HB.out | apply below_alloc | apply pw_below_drewN | apply below_drew1 | refine below_set ?_ (IsS101.ge HI0.out)) | exact HB.out))); (case side2 => exact HLz7_0); rintro e w' ⟨rfl, ⟨nd, rfl⟩⟩; (try first | exact ⟨rfl, _, World.drewN_drewN _ _ _⟩ | exact ⟨rfl, _, Eq.trans (World.drewN_drewN _ _ _) (congrArg (World.drewN _) (Nat.add_assoc _ _ _))⟩))))
  go_ret
  exact ⟨eqN, by repeat (first | (with_reducible first | exact HI0.out | apply IsS101.alloc | apply IsS101.drewN | apply IsS101.drew | apply IsS101.set_1 | apply IsS101.set_2) | exact HI0.out), by repeat (first | (with_reducible first | exact HB.out | apply below_alloc | apply pw_below_drewN | apply below_drew1 | refine below_set ?_ (IsS101.ge HI0.out)) | exact HB.out), by repeat (first | (with_reducible first | exact HK.out | apply KeepBut.set_ | apply keep_drewN | apply keep_drew | apply keep_alloc) | exact HK.out)⟩

def spec_l01In.f (a0 : Int) (a1 : Int) (a2 : Int) : Option (Bool) := if a1 ≤ a0 then (some (decide (a0 ≤ a2))) else (some false)
theorem spec_l01In.calls (a0 : Int) (a1 : Int) (a2 : Int) (r : Bool) (w : World) (h : spec_l01In.f a0 a1 a2 = some r) :
   Calls Try.prog 94 #[.int .i64 a0, .int .i64 a1, .int .i64 a2] w fun e w' => e = .returned (.bool r) ∧ Drawn0 w w' := by
  have H : (if a1 ≤ a0 then (some (decide (a0 ≤ a2))) else (some false)) = some r := h;clear h;by_cases c4 : a1 ≤ a0
  ·rw [if_pos c4] at H;have c4b0 : decide (a1 ≤ a0) = true := decide_eq_true c4;clear c4;obtain rfl := Option.some.inj H
   go_enter Try.func94, Try.ntmps94
   go_wp2
   go_ret
   exact ⟨by first | rfl | (simp; done) | (simp [*]; done), by repeat (first | exact Drawn0.refl _ | apply Drawn0.step)⟩
  rw [if_neg c4] at H;have c4b0 : decide (a1 ≤ a0) = false := decide_eq_false c4;clear c4;obtain rfl := Option.some.inj H
  go_enter Try.func94, Try.ntmps94
  go_wp2
  go_ret
  exact ⟨by first | rfl | (simp; done) | (simp [*]; done), by repeat (first | exact Drawn0.refl _ | apply Drawn0.step)⟩

def spec_l05Count.f (k : Nat) (s0_0 : List Int) (s0_1 : Int) (s0_2 : Bool) : Option (Int × Int × Bool) := (spec_l05Next.f k s0_0 s0_1 s0_2).bind fun bt112 => ((spec_l01In.f bt112.1 0 2000).bind fun t115 => (if t115 = true then (some (bt112.1, bt112.2.1, bt112.2.2)) else (some (0, bt112.2.1, true))))
theorem spec_l05Count.calls (k : Nat) (g : Nat) (s0_0 : List Int) (s0_1 : Int) (s0_2 : Bool) (r1 : Int) (r2 : Int) (r3 : Bool) (w0 w : World) (hI : IsS101 w0 w g s0_0 s0_1 s0_2) (hB : Below w0.heap.size w0 w) (h : spec_l05Count.f k s0_0 s0_1 s0_2 = some (r1, r2, r3)) :
   Calls Try.prog 77 #[.pointer (some ⟨g, 0, none⟩)] w fun e w' => e = .returned (.int .i64 r1) ∧ IsS101 w0 w' g s0_0 r2 r3 ∧ Below w0.heap.size w0 w' ∧ KeepBut w w' g none := by
  have HI0 := am hI;have HK := am (KeepBut.refl w g none);have HL := am hB.size;clear hI;have HW0 := am hB.size;have HB := am hB;clear hB;have H : ((spec_l05Next.f k s0_0 s0_1 s0_2).bind fun bt112 => ((spec_l01In.f bt112.1 0 2000).bind fun t115 => (if t115 = true then (some (bt112.1, bt112.2.1, bt112.2.2)) else (some (0, bt112.2.1, true))))) = some (r1, r2, r3) := h;clear h;replace H := Option.bind_eq_some_iff.mp H;obtain ⟨⟨t112, t113, t114⟩, A20, H⟩ := H;(try dsimp only at H);have A2 := am A20;clear A20;obtain ⟨t115, A3, H⟩ := bnd H;(try dsimp only at H);by_cases c4 : t115 = true;subst c4;rw [if_pos rfl] at H;simp only [Option.some.injEq, Prod.mk.injEq] at H;obtain ⟨rfl, rfl, rfl⟩ := H;rotate_left;replace c4 := Bool.eq_false_iff.mpr c4;subst c4
  rw [if_neg (show ¬ (false = true) by decide)] at H
  simp only [Option.some.injEq, Prod.mk.injEq] at H;obtain ⟨rfl, rfl, rfl⟩ := H;rotate_left
  all_goals (go_enter Try.func77, Try.ntmps77; go_wp2_with (first | ((with_reducible refine gate_callee (f := 76) rfl ?_); refine gM 5 Try.func76 #[.pointer (some ⟨g, 0, none⟩)] rfl ?_; (with_reducible refine (spec_l05Next.calls k g s0_0 s0_1 s0_2 t112 t113 t114 w0 _ ?side1 ?side2 A2.out).mono ?_); (case side1 => repeat (first | (with_reducible first | exact HI0.out | apply IsS101.alloc | apply IsS101.drewN | apply IsS101.drew | apply IsS101.set_1 | apply IsS101.set_2) | exact HI0.out)); (case side2 => repeat (first | (with_reducible first | exact HB.out | apply below_alloc | apply pw_below_drewN | apply below_drew1 | refine below_set ?_ (IsS101.ge HI0.out)) | exact HB.out)); rintro e w6 ⟨rfl, hi, hb, hk⟩; refine ⟨_, rfl, ?_⟩; have n0_ := am (KeepBut.trans (by repeat (first | (with_reducible first | exact HK.out | apply KeepBut.set_ | apply keep_drewN | apply keep_drew | apply keep_alloc) | exact HK.out)) hk (.inl rfl)); have n1_ := am (hb); have n2_ := am (hi); clear HK; clear HB; clear HI0; have HK := n0_; have HB := n1_; have HI0 := n2_; clear n0_ n1_ n2_; (try clear hb); (try clear hb2); (try clear hb3); (try clear hk); (try clear hi)) | ((with_reducible refine gate_callee (f := 94) rfl ?_); refine gM 7 Try.func94 #[.int .i64 t112, .int .i64 0, .int .i64 2000] rfl ?_; (with_reducible refine (spec_l01In.calls t112 0 2000 true _ A3.out).mono ?_); rintro e w' ⟨rfl, ⟨nd, rfl⟩⟩; refine ⟨_, rfl, ?_⟩) | ((with_reducible refine gate_callee (f := 94) rfl ?_); refine gM 7 Try.func94 #[.int .i64 t112, .int .i64 0, .int .i64 2000] rfl ?_; (with_reducible refine (spec_l01In.calls t112 0 2000 false _ A3.out).mono ?_); rintro e w' ⟨rfl, ⟨nd, rfl⟩⟩; refine ⟨_, rfl, ?_⟩; (try (rw [drewN_self w6]; generalize hq_ : World.drewN w6 _ = w6; have n0_ : Aside0 (IsS101 w0 w6 g s0_0 t113 t114) := ⟨by rw [← hq_]; exact (by repeat (first | (with_reducible first | exact HI0.out | apply IsS101.alloc | apply IsS101.drewN | apply IsS101.drew | apply IsS101.set_1 | apply IsS101.set_2) | exact HI0.out))⟩; have n1_ : Aside0 (KeepBut w w6 g none) := ⟨by rw [← hq_]; exact (by repeat (first | (with_reducible first | exact HK.out | apply KeepBut.set_ | apply keep_drewN | apply keep_drew | apply keep_alloc) | exact HK.out))⟩; have n2_ : Aside0 (Below w0.heap.size w0 w6) := ⟨by rw [← hq_]; exact (by repeat (first | (with_reducible first | exact HB.out | apply below_alloc | apply pw_below_drewN | apply below_drew1 | refine below_set ?_ (IsS101.ge HI0.out)) | exact HB.out))⟩; clear HI0 HK HB hq_; have HI0 := n0_; have HK := n1_; have HB := n2_; clear n0_ n1_ n2_)); obtain ⟨ASz7_0, cSz7_0, HGz7, hgz7, ⟨HSz7_0, HLz7_0⟩⟩ := HI0.out; have hcz_0 := cellS101_0 HGz7; have hcz_1 := cellS101_1 HGz7; have hcz_2 := cellS101_2 HGz7; have hfz_1 := blk_frozen HGz7 1; have hfz_2 := blk_frozen HGz7 2; clear HGz7 hgz7)))
  ·go_ret
   exact ⟨eqN, by repeat (first | (with_reducible first | exact HI0.out | apply IsS101.alloc | apply IsS101.drewN | apply IsS101.drew | apply IsS101.set_1 | apply IsS101.set_2) | exact HI0.out), by repeat (first | (with_reducible first | exact HB.out | apply below_alloc | apply pw_below_drewN | apply below_drew1 | refine below_set ?_ (IsS101.ge HI0.out)) | exact HB.out), by repeat (first | (with_reducible first | exact HK.out | apply KeepBut.set_ | apply keep_drewN | apply keep_drew | apply keep_alloc) | exact HK.out)⟩
  ·go_ret
   exact ⟨eqN, by repeat (first | (with_reducible first | exact HI0.out | apply IsS101.alloc | apply IsS101.drewN | apply IsS101.drew | apply IsS101.set_1 | apply IsS101.set_2) | exact HI0.out), by repeat (first | (with_reducible first | exact HB.out | apply below_alloc | apply pw_below_drewN | apply below_drew1 | refine below_set ?_ (IsS101.ge HI0.out)) | exact HB.out), by repeat (first | (with_reducible first | exact HK.out | apply KeepBut.set_ | apply keep_drewN | apply keep_drew | apply keep_alloc) | exact HK.out)⟩

end Go.Proofs.Ytclpojeofclbjaa.PFnExactDecodeModel
