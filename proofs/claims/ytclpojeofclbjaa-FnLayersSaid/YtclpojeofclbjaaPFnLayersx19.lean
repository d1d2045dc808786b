import Derived.Test.YtclpojeofclbjaaPFnLayersx0
import Derived.Test.YtclpojeofclbjaaPFnLayersx18
namespace Go.Proofs.Ytclpojeofclbjaa.PFnLayers
open Go.RowKit Go.Proofs.YtclpojeofclbjaaW.PrintWords Go.Proofs.YtclpojeofclbjaaW.PrintLast Go.Proofs.YtclpojeofclbjaaW.PrintMore
attribute [local go_sem] max2_int min2_int max_two min_two max_three min_three max_four min_four
set_option maxHeartbeats 8000000
set_option maxRecDepth 100000
set_option linter.unusedVariables false
set_option linter.unusedSimpArgs false

def impl_DotOf.l0 : Nat → List Int → List Int → Int → Int → Int → Option (Int)
  | 0, _, _, _, _, _ => none
  | k + 1, x0, x1, x5, x11, x12 => if x12 < x11 then (if 0 ≤ x12 then (if x12 < (x0.length : Int) then ((impl_Sat8.f (rd x0 x12)).bind fun t606 => (if x12 < (x1.length : Int) then ((impl_Sat8.f (rd x1 x12)).bind fun t608 => ((impl_AddSat.f x5 (wrap64 (t606 * t608))).bind fun t609 => (impl_DotOf.l0 k x0 x1 t609 x11 (wrap64 (x12 + 1))))) else (none))) else (none)) else (none)) else (some x5)
def impl_DotOf.f (k : Nat) (l0 : List Int) (l1 : List Int) : Option (Int) := impl_DotOf.l0 k l0 l1 0 (mn (l0.length : Int) (l1.length : Int)) 0
def impl_DotOf.T5 : Bool × List (List Nat × List Nat) := (true, [([], []), ([], []), ([], []), ([1, 2], [1, 2]), ([3], [3]), ([4], [4]), ([], []), ([], []), ([6, 7], [6, 7]), ([8], [8]), ([9, 5], [9]), ([5, 10], [5, 10]), ([0, 11, 10], [0, 11]), ([12, 12, 0, 1, 2, 3, 4, 5, 6, 7, 8, 9, 10, 11, 12], [0, 12])])
def impl_DotOf.B5 : List Nat := [0, 0, 0, 6, 14, 30, 0, 0, 192, 448, 1022, 2046, 4095, 8191]
theorem impl_DotOf.tab5 : rtab .any (opsOf Try.f132 5) = impl_DotOf.T5 := by kernel_rfl
theorem impl_DotOf.bits5 : waitsOk impl_DotOf.T5.2 impl_DotOf.B5 = true := by kernel_rfl
theorem impl_DotOf.calls (k : Nat) (A0 : Option Addr) (c0 : Nat) (l0 : List Int) (A1 : Option Addr) (c1 : Nat) (l1 : List Int) (r : Int) (w : World) (hr0 : Kd.C (Kd.int .i64) w A0 l0.length l0) (hc0 : l0.length ≤ c0) (hr1 : Kd.C (Kd.int .i64) w A1 l1.length l1) (hc1 : l1.length ≤ c1) (h : impl_DotOf.f k l0 l1 = some r) :
   Calls Try.prog 132 #[.slice A0 l0.length c0, .slice A1 l1.length c1] w fun e w' => e = .returned (.int .i64 r) ∧ Below w.heap.size w w' := by
  have HR0 := am hr0;have HC0 := am hc0;clear hr0 hc0;have HR1 := am hr1;have HC1 := am hc1;clear hr1 hc1;have HB := am (Below.refl w.heap.size w);have H : (impl_DotOf.l0 k l0 l1 0 (mn (l0.length : Int) (l1.length : Int)) 0) = some r := h;clear h;obtain ⟨ji3, hji3⟩ : ∃ j_ : Int, (mn (l0.length : Int) (l1.length : Int)) = j_ := ⟨_, rfl⟩;replace H : (impl_DotOf.l0 k l0 l1 0 ji3 0) = some r := by first | (rw [hji3] at H; exact H) | (simp only [hji3] at H ⊢; exact H)
  (try (have hji3l : 0 ≤ ji3 := by (rw [← hji3]; unfold mn; (repeat' split) <;> omega)));(try (have hji3m : 0 ≤ ji3 := by omega));have hji3_ : (if (l1.length : Int) < (l0.length : Int) then (l1.length : Int) else (l0.length : Int)) = ji3 := hji3;have hji3n : (if l1.length < l0.length then (l1.length : Int) else (l0.length : Int)) = ji3 := by rw [← hji3_]; by_cases hq_ : l1.length < l0.length <;> simp [hq_]
  have H' := am H;clear H
  go_enter Try.func132, Try.ntmps132
  go_wp2
  go_loopg [5, 12] k (fun kq v5 v12 w' => ∃ (x5_1 : Int) (x12_1 : Int), v5 = .int .i64 x5_1 ∧ v12 = .int .i64 x12_1 ∧ Aside0 (impl_DotOf.l0 kq l0 l1 x5_1 ji3 x12_1 = some r) ∧ Aside0 (kq ≤ k) ∧ Aside0 (Below w.heap.size w w'))
  case atStart => exact ⟨(0), (0), pv, pv, H', ⟨Nat.le_refl _⟩, ⟨bel_now⟩⟩
  case round =>
   clear H';try clear c1
   obtain ⟨x5_1, x12_1, rfl, rfl, HA, HK1, HB⟩ := hrel
   cases gk with
   | zero => exact absurd HA.out (by simp [impl_DotOf.l0])
   | succ k1 =>
    have H := HA.out;clear HA;simp only [impl_DotOf.l0] at H;by_cases c4 : x12_1 < ji3;rotate_left
    ·rw [if_neg c4] at H;have c4b0 : decide (x12_1 < ji3) = false := decide_eq_false c4;clear c4;obtain rfl := Option.some.inj H
     go_wp2
     go_ret
     exact ⟨by first | rfl | (simp [errW_none, errW_some] <;> rfl) | (simp only [← hji3]; first | rfl | (simp [errW_none, errW_some] <;> rfl)) | (simp [*, errW_none, errW_some] <;> rfl), bel_now⟩
    rw [if_pos c4] at H;have c4b0 : decide (x12_1 < ji3) = true := decide_eq_true c4;clear c4;obtain ⟨c5, H⟩ := gd H;have c5b0 : decide (0 ≤ x12_1) = true := decide_eq_true c5;clear c5;obtain ⟨c6, H⟩ := gd H;have c6b0 : decide (x12_1 < (l0.length : Int)) = true := decide_eq_true c6;clear c6;obtain ⟨t606, A7, H⟩ := bnd H;(try dsimp only at H);obtain ⟨c8, H⟩ := gd H;have c8b0 : decide (x12_1 < (l1.length : Int)) = true := decide_eq_true c8;clear c8;obtain ⟨t608, A9, H⟩ := bnd H;(try dsimp only at H);obtain ⟨t609, A10, H⟩ := bnd H;(try dsimp only at H);have H' := am H;clear H
    try go_wp2
    replace HB := am (below_drew1 HB.out);have p605 : 0 ≤ (x12_1 : Int) := of_decide_eq_true (by first | (with_reducible assumption) | assumption);have q605 : x12_1 < (l0.length : Int) := of_decide_eq_true (by first | (with_reducible assumption) | assumption);obtain ⟨ad605, e605, hx605_0⟩ := Kd.at_int HR0.out x12_1 p605 q605;have hw605_0 := hx605_0;cases e605;replace hx605_0 := (HB.out.cell (World.block_lt_of_cell? w _ hx605_0)).trans hx605_0;replace p605 := eq_true p605;replace q605 := eq_true q605;have p607 : 0 ≤ (x12_1 : Int) := of_decide_eq_true (by first | (with_reducible assumption) | assumption);have q607 : x12_1 < (l1.length : Int) := of_decide_eq_true (by first | (with_reducible assumption) | assumption);obtain ⟨ad607, e607, hx607_0⟩ := Kd.at_int HR1.out x12_1 p607 q607;have hw607_0 := hx607_0;cases e607;replace hx607_0 := (HB.out.cell (World.block_lt_of_cell? w _ hx607_0)).trans hx607_0;replace p607 := eq_true p607;replace q607 := eq_true q607
    refine start_ (n := 14) (S := fun w' => w'.cell? (ad605.add (x12_1).toNat) = some (.int .i64 (rd l0 x12_1)) ∧ w'.cell? (ad607.add (x12_1).toNat) = some (.int .i64 (rd l1 x12_1))) (ds := []) #[O, O, O, O, O, O, O, O, O, O, O, O, O, O] (by kernel_rfl) rfl rfl ⟨((HB.out.cell (World.block_lt_of_cell? w _ hw605_0)).trans hw605_0), ((HB.out.cell (World.block_lt_of_cell? w _ hw607_0)).trans hw607_0)⟩ (fun hHeld => ?_); refine with_tabW impl_DotOf.tab5 impl_DotOf.bits5 (fun HT_ HW_ => ?_)
    generalize wr.drew = w11 at HB hx605_0 hx607_0 hHeld ⊢
    refine stepP 0 (some 15) (tk 14 1) (any_of HT_.out (by kernel_rfl)) ?_
    refine stepP 1 (some 16) (tk 14 3) (any_of HT_.out (by kernel_rfl)) ?_
    refine stepP 2 (some 17) (tk 14 7) (any_of HT_.out (by kernel_rfl)) ?_
    refine stepP 3 (some 18) (tk 14 15) (any_of HT_.out (by kernel_rfl)) ?_
    refine stepP 6 (some 21) (tk 14 79) (any_of HT_.out (by kernel_rfl)) ?_
    refine stepP 7 (some 22) (tk 14 207) (any_of HT_.out (by kernel_rfl)) ?_
    refine stepP 8 (some 23) (tk 14 463) (any_of HT_.out (by kernel_rfl)) ?_
    refine stepT 4 (some 19) (tk 14 479) (take_ofW HT_.out HW_.out (by kernel_rfl)) hHeld ?_
    refine stepT 9 (some 24) (tk 14 991) (take_ofW HT_.out HW_.out (by kernel_rfl)) hHeld ?_
    refine one_ (i := 5) (N := some 20) #[I, I, I, I, I, I, I, I, I, I, O, O, O, O] rfl rfl (one_of HT_.out (by kernel_rfl)) (by decide) (fun K hK => ?_)
    refine goes_ Try.func140 (by kernel_rfl) rfl #[.int .i64 (rd l0 x12_1)] (by rfl) rfl rfl (by (try simp only [List.map_toArray, List.map_cons, List.map_nil]); first | done | rfl | (simp only [List.length_drop, List.length_take]; rfl)) ?_
    with_reducible refine (impl_Sat8.calls (rd l0 x12_1) t606 _ A7.out).mono ?_
    rintro e w12 ⟨rfl, hb⟩
    refine ⟨_, rfl, ?_⟩
    replace HB := bel_on w hb;(try clear hb);(try clear hb2);(try clear hb3);(try clear hk);(try clear hi)
    refine hK.out _ _ ⟨((HB.out.cell (World.block_lt_of_cell? w _ hw605_0)).trans hw605_0), ((HB.out.cell (World.block_lt_of_cell? w _ hw607_0)).trans hw607_0)⟩ (fun hHeld => ?_)
    clear hK K
    refine normP 20 ?_
    refine one_ (i := 10) (N := some 25) #[I, I, I, I, I, I, I, I, I, I, I, O, O, O] rfl rfl (one_of HT_.out (by kernel_rfl)) (by decide) (fun K hK => ?_)
    refine goes_ Try.func140 (by kernel_rfl) rfl #[.int .i64 (rd l1 x12_1)] (by rfl) rfl rfl (by (try simp only [List.map_toArray, List.map_cons, List.map_nil]); first | done | rfl | (simp only [List.length_drop, List.length_take]; rfl)) ?_
    with_reducible refine (impl_Sat8.calls (rd l1 x12_1) t608 _ A9.out).mono ?_
    rintro e w13 ⟨rfl, hb⟩
    refine ⟨_, rfl, ?_⟩
    replace HB := bel_on w hb;(try clear hb);(try clear hb2);(try clear hb3);(try clear hk);(try clear hi)
    refine hK.out _ _ ⟨((HB.out.cell (World.block_lt_of_cell? w _ hw605_0)).trans hw605_0), ((HB.out.cell (World.block_lt_of_cell? w _ hw607_0)).trans hw607_0)⟩ (fun hHeld => ?_)
    clear hK K
    refine normP 25 ?_
    refine stepP 11 (some 26) (tk 14 4095) (any_of HT_.out (by kernel_rfl)) ?_
    refine one_ (i := 12) (N := some 27) #[I, I, I, I, I, I, I, I, I, I, I, I, I, O] rfl rfl (one_of HT_.out (by kernel_rfl)) (by decide) (fun K hK => ?_)
    refine goes_ Try.func134 (by kernel_rfl) rfl #[.int .i64 x5_1, .int .i64 (wrap64 (t606 * t608))] (by rfl) rfl rfl (by (try simp only [List.map_toArray, List.map_cons, List.map_nil]); first | done | rfl | (simp only [List.length_drop, List.length_take]; rfl)) ?_
    with_reducible refine (impl_AddSat.calls x5_1 (wrap64 (t606 * t608)) t609 _ A10.out).mono ?_
    rintro e w14 ⟨rfl, hb⟩
    refine ⟨_, rfl, ?_⟩
    replace HB := bel_on w hb;(try clear hb);(try clear hb2);(try clear hb3);(try clear hk);(try clear hi)
    refine hK.out _ _ ⟨((HB.out.cell (World.block_lt_of_cell? w _ hw605_0)).trans hw605_0), ((HB.out.cell (World.block_lt_of_cell? w _ hw607_0)).trans hw607_0)⟩ (fun hHeld => ?_)
    clear hK K
    refine normP 27 ?_
    refine stepP 13 (some 5) (tk 14 16383) (any_of HT_.out (by kernel_rfl)) ?_
    refine done_ (done_of HT_.out (by kernel_rfl)) ?_
    try go_wp2
    go_roundg k1
    case measure => have := HK1.out; omega
    case rel => exact ⟨(t609), (wrap64 (x12_1 + 1)), pv, pv, H', ⟨by have := HK1.out; omega⟩, ⟨bel_now⟩⟩

def impl_MulHigh.f (a0 : Int) (a1 : Int) : Option (Int) := (impl_Sat32.f a0).bind fun t610 => ((impl_Sat32.f a1).bind fun t611 => ((impl_Sat32.f ((wrap64 ((wrap64 (t610 * t611)) + 1073741824)) / 2147483648)).bind fun t612 => (some t612)))
theorem impl_MulHigh.calls (a0 : Int) (a1 : Int) (r : Int) (w : World) (h : impl_MulHigh.f a0 a1 = some r) :
   Calls Try.prog 142 #[.int .i64 a0, .int .i64 a1] w fun e w' => e = .returned (.int .i64 r) ∧ Below w.heap.size w w' := by
  have HB := am (Below.refl w.heap.size w);have H : ((impl_Sat32.f a0).bind fun t610 => ((impl_Sat32.f a1).bind fun t611 => ((impl_Sat32.f ((wrap64 ((wrap64 (t610 * t611)) + 1073741824)) / 2147483648)).bind fun t612 => (some t612)))) = some r := h;clear h;obtain ⟨t610, A3, H⟩ := bnd H;(try dsimp only at H);obtain ⟨t611, A4, H⟩ := bnd H;(try dsimp only at H);obtain ⟨t612, A5, H⟩ := bnd H;(try dsimp only at H);obtain rfl := Option.some.inj H
  go_enter Try.func142, Try.ntmps142
  go_wp2_with (first | ((with_reducible refine gate_callee (f := 143) rfl ?_); refine gM 6 Try.func143 #[.int .i64 a0] rfl ?_; (with_reducible refine (impl_Sat32.calls a0 t610 _ A3.out).mono ?_); rintro e w6 ⟨rfl, hb⟩; refine ⟨_, rfl, ?_⟩; replace HB := bel_on w hb; (try clear hb)) | ((with_reducible refine gate_callee (f := 143) rfl ?_); refine gM 8 Try.func143 #[.int .i64 a1] rfl ?_; (with_reducible refine (impl_Sat32.calls a1 t611 _ A4.out).mono ?_); rintro e w7 ⟨rfl, hb⟩; refine ⟨_, rfl, ?_⟩; replace HB := bel_on w hb; (try clear hb)) | ((with_reducible refine gate_callee (f := 143) rfl ?_); refine gM 12 Try.func143 #[.int .i64 ((wrap64 ((wrap64 (t610 * t611)) + 1073741824)) / 2147483648)] rfl ?_; (with_reducible refine (impl_Sat32.calls ((wrap64 ((wrap64 (t610 * t611)) + 1073741824)) / 2147483648) t612 _ A5.out).mono ?_); rintro e w8 ⟨rfl, hb⟩; refine ⟨_, rfl, ?_⟩; replace HB := bel_on w hb; (try clear hb)))
  go_ret
  exact ⟨eqN, bel_now⟩

def impl_rounded.f : Nat → Int → Int → Option (Int)
  | 0, _, _ => none
  | k + 1, a0, a1 => if a0 < 0 then ((impl_rounded.f k (wrap64 (-a0)) a1).bind fun t613 => (some (wrap64 (-t613)))) else (if (wrap64 (2 * a1)) = 0 then (none) else (some (wrap64 (Int.tdiv (wrap64 ((wrap64 (2 * a0)) + a1)) (wrap64 (2 * a1))))))
theorem impl_rounded.calls (k : Nat) : ∀ (a0 : Int) (a1 : Int) (r : Int) (w : World) (h : impl_rounded.f k a0 a1 = some r),
   Calls Try.prog 105 #[.int .i64 a0, .int .i64 a1] w fun e w' => e = .returned (.int .i64 r) ∧ Drawn0 w w' := by
  induction k using Nat.strongRecOn with
  | _ k ih =>
  intro a0 a1 r w h
  cases k with
  | zero => exact absurd h (by simp [impl_rounded.f])
  | succ k =>
  simp only [impl_rounded.f] at h;have H : (if a0 < 0 then ((impl_rounded.f k (wrap64 (-a0)) a1).bind fun t613 => (some (wrap64 (-t613)))) else (if (wrap64 (2 * a1)) = 0 then (none) else (some (wrap64 (Int.tdiv (wrap64 ((wrap64 (2 * a0)) + a1)) (wrap64 (2 * a1))))))) = some r := h;clear h;by_cases c3 : a0 < 0
  case' neg => skip
  rw [if_neg c3] at H;have c3b0 : decide (a0 < 0) = false := decide_eq_false c3;clear c3;by_cases c5 : (wrap64 (2 * a1)) = 0
  ·rw [if_pos c5] at H;exact absurd H (by simp)
  rw [if_neg c5] at H;have c5b0 : ((wrap64 (2 * a1)) == 0) = false := beq_eq_false_iff_ne.mpr c5;have c5b1 : ((wrap64 (2 * a1)) != 0) = true := bne_iff_ne.mpr c5;obtain rfl := Option.some.inj H;rotate_left;rw [if_pos c3] at H;have c3b0 : decide (a0 < 0) = true := decide_eq_true c3;clear c3;obtain ⟨t613, A4, H⟩ := bnd H;(try dsimp only at H);obtain rfl := Option.some.inj H;rotate_left
  all_goals (go_enter Try.func105, Try.ntmps105; go_wp2_with (first | ((with_reducible refine gate_callee (f := 105) rfl ?_); refine gM 10 Try.func105 #[.int .i64 (wrap64 (-a0)), .int .i64 a1] rfl ?_; (with_reducible refine (ih k (by omega) (wrap64 (-a0)) a1 t613 _ A4.out).mono ?_); rintro e w' ⟨rfl, ⟨nd, rfl⟩⟩; refine ⟨_, rfl, ?_⟩)))
  ·go_ret
   exact ⟨by first | rfl | (simp; done) | (simp [*]; done), by repeat (first | exact Drawn0.refl _ | apply Drawn0.step)⟩
  ·go_ret
   exact ⟨by first | rfl | (simp; done) | (simp [*]; done), by repeat (first | exact Drawn0.refl _ | apply Drawn0.step)⟩

def impl_RoundShift.f (k : Nat) (a0 : Int) (a1 : Int) : Option (Int) := (impl_Sat32.f a0).bind fun t614 => ((impl_cut.f a1 0 31).bind fun t615 => (if 0 ≤ t615 then ((impl_rounded.f k t614 (shl .i64 1 t615)).bind fun t616 => (some t616)) else (none)))
theorem impl_RoundShift.calls (k : Nat) (a0 : Int) (a1 : Int) (r : Int) (w : World) (h : impl_RoundShift.f k a0 a1 = some r) :
   Calls Try.prog 141 #[.int .i64 a0, .int .i64 a1] w fun e w' => e = .returned (.int .i64 r) ∧ Below w.heap.size w w' := by
  have HB := am (Below.refl w.heap.size w);have H : ((impl_Sat32.f a0).bind fun t614 => ((impl_cut.f a1 0 31).bind fun t615 => (if 0 ≤ t615 then ((impl_rounded.f k t614 (shl .i64 1 t615)).bind fun t616 => (some t616)) else (none)))) = some r := h;clear h;obtain ⟨t614, A3, H⟩ := bnd H;(try dsimp only at H);obtain ⟨t615, A4, H⟩ := bnd H;(try dsimp only at H);obtain ⟨c5, H⟩ := gd H;have c5b0 := eq_true c5;have c5b1 : decide (0 ≤ t615) = true := decide_eq_true c5;clear c5;obtain ⟨ji6, hji6⟩ : ∃ j_ : Int, (shl .i64 1 t615) = j_ := ⟨_, rfl⟩;replace H : ((impl_rounded.f k t614 (ji6)).bind fun t616 => (some t616)) = some r := by first | (rw [hji6] at H; exact H) | (simp only [hji6] at H ⊢; exact H)
  (try rw [hji6] at A3);(try rw [hji6] at A4);have hji6_ : (IntKind.i64.wrap (1 * 2 ^ min t615.toNat 64)) = ji6 := hji6;have hji6z : t615 ≤ 64 → (IntKind.i64.wrap (1 * 2 ^ t615.toNat)) = ji6 := shl_small hji6;have hji6u : (IntKind.i64.wrap (2 ^ min t615.toNat 64)) = ji6 := by have h_ := hji6_; rw [Int.one_mul] at h_; exact h_
  have hji6v : t615 ≤ 64 → (IntKind.i64.wrap (2 ^ t615.toNat)) = ji6 := fun hle_ => by have h_ := hji6z hle_; rw [Int.one_mul] at h_; exact h_
  have hji6y : (wrap64 (1 * 2 ^ min t615.toNat 64)) = ji6 := (i64_w _).symm.trans hji6_;have hji6x : t615 ≤ 64 → (wrap64 (1 * 2 ^ t615.toNat)) = ji6 := fun h_ => (i64_w _).symm.trans (hji6z h_);obtain ⟨t616, A7, H⟩ := bnd H;(try dsimp only at H);obtain rfl := Option.some.inj H
  go_enter Try.func141, Try.ntmps141
  go_wp2_with (first | ((with_reducible refine gate_callee (f := 143) rfl ?_); refine gM 6 Try.func143 #[.int .i64 a0] rfl ?_; (with_reducible refine (impl_Sat32.calls a0 t614 _ A3.out).mono ?_); rintro e w8 ⟨rfl, hb⟩; refine ⟨_, rfl, ?_⟩; replace HB := bel_on w hb; (try clear hb)) | ((with_reducible refine gate_callee (f := 144) rfl ?_); refine gM 8 Try.func144 #[.int .i64 a1, .int .i64 0, .int .i64 31] rfl ?_; (with_reducible refine (impl_cut.calls a1 0 31 t615 _ A4.out).mono ?_); rintro e w9 ⟨rfl, hb⟩; refine ⟨_, rfl, ?_⟩; replace HB := bel_on w hb; (try clear hb)) | ((with_reducible refine gate_callee (f := 105) rfl ?_); refine goesL_ (some 10) rfl rfl Try.func105 (by kernel_rfl) rfl #[.int .i64 t614, .int .i64 ji6] rfl (by (try simp only [List.map_toArray, List.map_cons, List.map_nil]); first | done | (simp only [hji6]; rfl) | rfl | (simp only [List.length_drop, List.length_take]; rfl)) ?_; (with_reducible refine (impl_rounded.calls k t614 ji6 t616 _ A7.out).mono ?_); rintro e w' ⟨rfl, ⟨nd, rfl⟩⟩; refine ⟨_, rfl, ?_⟩))
  go_ret
  exact ⟨by first | rfl | (simp [errW_none, errW_some] <;> rfl) | (simp only [← hji6]; first | rfl | (simp [errW_none, errW_some] <;> rfl)) | (simp [*, errW_none, errW_some] <;> rfl), bel_now⟩

def impl_Requant.f (k : Nat) (a0 : Int) (a1 : Int) (a2 : Int) (a3 : Int) : Option (Int) := (impl_MulHigh.f a0 a1).bind fun t617 => ((impl_RoundShift.f k t617 a2).bind fun t618 => ((impl_Sat8.f a3).bind fun t619 => ((impl_Sat8.f (wrap64 (t618 + t619))).bind fun t620 => (some t620))))
theorem impl_Requant.calls (k : Nat) (a0 : Int) (a1 : Int) (a2 : Int) (a3 : Int) (r : Int) (w : World) (h : impl_Requant.f k a0 a1 a2 a3 = some r) :
   Calls Try.prog 133 #[.int .i64 a0, .int .i64 a1, .int .i64 a2, .int .i64 a3] w fun e w' => e = .returned (.int .i64 r) ∧ Below w.heap.size w w' := by
  have HB := am (Below.refl w.heap.size w);have H : ((impl_MulHigh.f a0 a1).bind fun t617 => ((impl_RoundShift.f k t617 a2).bind fun t618 => ((impl_Sat8.f a3).bind fun t619 => ((impl_Sat8.f (wrap64 (t618 + t619))).bind fun t620 => (some t620))))) = some r := h;clear h;obtain ⟨t617, A5, H⟩ := bnd H;(try dsimp only at H);obtain ⟨t618, A6, H⟩ := bnd H;(try dsimp only at H);obtain ⟨t619, A7, H⟩ := bnd H;(try dsimp only at H);obtain ⟨t620, A8, H⟩ := bnd H;(try dsimp only at H);obtain rfl := Option.some.inj H
  go_enter Try.func133, Try.ntmps133
  go_wp2_with (first | ((with_reducible refine gate_callee (f := 142) rfl ?_); refine gM 11 Try.func142 #[.int .i64 a0, .int .i64 a1] rfl ?_; (with_reducible refine (impl_MulHigh.calls a0 a1 t617 _ A5.out).mono ?_); rintro e w9 ⟨rfl, hb⟩; refine ⟨_, rfl, ?_⟩; replace HB := bel_on w hb; (try clear hb)) | ((with_reducible refine gate_callee (f := 141) rfl ?_); refine gM 13 Try.func141 #[.int .i64 t617, .int .i64 a2] rfl ?_; (with_reducible refine (impl_RoundShift.calls k t617 a2 t618 _ A6.out).mono ?_); rintro e w10 ⟨rfl, hb⟩; refine ⟨_, rfl, ?_⟩; replace HB := bel_on w hb; (try clear hb)) | ((with_reducible refine gate_callee (f := 140) rfl ?_); refine gM 15 Try.func140 #[.int .i64 a3] rfl ?_; (with_reducible refine (impl_Sat8.calls a3 t619 _ A7.out).mono ?_); rintro e w11 ⟨rfl, hb⟩; refine ⟨_, rfl, ?_⟩; replace HB := bel_on w hb; (try clear hb)) | ((with_reducible refine gate_callee (f := 140) rfl ?_); refine gM 17 Try.func140 #[.int .i64 (wrap64 (t618 + t619))] rfl ?_; (with_reducible refine (impl_Sat8.calls (wrap64 (t618 + t619)) t620 _ A8.out).mono ?_); rintro e w12 ⟨rfl, hb⟩; refine ⟨_, rfl, ?_⟩; replace HB := bel_on w hb; (try clear hb)))
  go_ret
  exact ⟨eqN, bel_now⟩

def impl_Layer_scaled.f (k : Nat) (a0_0 : Int) (a0_1 : Int) (a0_2 : Int) (a0_3 : Int) (a0_4 : Int) (a0_5 : Int) (a0_6 : Int) (l0_7 : List Int) (l0_8 : List Int) (l1 : List Int) (a2 : Int) : Option (Int) := if 0 ≤ (wrap64 (a2 * (l1.length : Int))) then (if (wrap64 (a2 * (l1.length : Int))) ≤ (wrap64 ((wrap64 (a2 + 1)) * (l1.length : Int))) then (if (wrap64 ((wrap64 (a2 + 1)) * (l1.length : Int))) ≤ (l0_7.length : Int) then ((impl_DotOf.f k l1 ((l0_7.take ((wrap64 ((wrap64 (a2 + 1)) * (l1.length : Int))) : Int).toNat).drop ((wrap64 (a2 * (l1.length : Int))) : Int).toNat)).bind fun t623 => (if 0 ≤ a2 then (if a2 < (l0_8.length : Int) then ((impl_AddSat.f t623 (rd l0_8 a2)).bind fun t625 => ((impl_Requant.f k t625 a0_4 a0_5 a0_6).bind fun t626 => (some t626))) else (none)) else (none))) else (none)) else (none)) else (none)
def impl_Layer_scaled.T2 : Bool × List (List Nat × List Nat) := (true, [([], []), ([], []), ([1], [1]), ([], []), ([2, 3], [2, 3]), ([4], [4]), ([0, 5], [0, 5]), ([], []), ([7], [7]), ([], []), ([9], [9]), ([], []), ([11], [11]), ([6, 8, 10, 12, 6], [6, 8, 10, 12]), ([13, 13, 0, 1, 2, 3, 4, 5, 6, 7, 8, 9, 10, 11, 12, 13], [13])])
def impl_Layer_scaled.B2 : List Nat := [0, 0, 2, 0, 14, 30, 63, 0, 128, 0, 512, 0, 2048, 8191, 16383]
theorem impl_Layer_scaled.tab2 : rtab .any (opsOf Try.f102 2) = impl_Layer_scaled.T2 := by kernel_rfl
theorem impl_Layer_scaled.bits2 : waitsOk impl_Layer_scaled.T2.2 impl_Layer_scaled.B2 = true := by kernel_rfl
theorem impl_Layer_scaled.calls (k : Nat) (a0_0 : Int) (a0_1 : Int) (a0_2 : Int) (a0_3 : Int) (a0_4 : Int) (a0_5 : Int) (a0_6 : Int) (A0_7 : Option Addr) (c0_7 : Nat) (l0_7 : List Int) (A0_8 : Option Addr) (c0_8 : Nat) (l0_8 : List Int) (A1 : Option Addr) (c1 : Nat) (l1 : List Int) (a2 : Int) (r : Int) (w : World) (hr0_7 : Kd.C (Kd.int .i64) w A0_7 l0_7.length l0_7) (hc0_7 : l0_7.length ≤ c0_7) (hr0_8 : Kd.C (Kd.int .i64) w A0_8 l0_8.length l0_8) (hc0_8 : l0_8.length ≤ c0_8) (hr1 : Kd.C (Kd.int .i64) w A1 l1.length l1) (hc1 : l1.length ≤ c1) (h : impl_Layer_scaled.f k a0_0 a0_1 a0_2 a0_3 a0_4 a0_5 a0_6 l0_7 l0_8 l1 a2 = some r) :
   Calls Try.prog 102 #[.agg #[.int .i64 a0_0, .int .i64 a0_1, .int .i64 a0_2, .int .i64 a0_3, .int .i64 a0_4, .int .i64 a0_5, .int .i64 a0_6, .slice A0_7 l0_7.length c0_7, .slice A0_8 l0_8.length c0_8], .slice A1 l1.length c1, .int .i64 a2] w fun e w' => e = .returned (.int .i64 r) ∧ Below w.heap.size w w' := by
  have hu37 := Try.underlying37;have HR0_7 := am hr0_7;have HC0_7 := am hc0_7;clear hr0_7 hc0_7;have HR0_8 := am hr0_8;have HC0_8 := am hc0_8;clear hr0_8 hc0_8;have HR1 := am hr1;have HC1 := am hc1;clear hr1 hc1;have HB := am (Below.refl w.heap.size w);have H : (if 0 ≤ (wrap64 (a2 * (l1.length : Int))) then (if (wrap64 (a2 * (l1.length : Int))) ≤ (wrap64 ((wrap64 (a2 + 1)) * (l1.length : Int))) then (if (wrap64 ((wrap64 (a2 + 1)) * (l1.length : Int))) ≤ (l0_7.length : Int) then ((impl_DotOf.f k l1 ((l0_7.take ((wrap64 ((wrap64 (a2 + 1)) * (l1.length : Int))) : Int).toNat).drop ((wrap64 (a2 * (l1.length : Int))) : Int).toNat)).bind fun t623 => (if 0 ≤ a2 then (if a2 < (l0_8.length : Int) then ((impl_AddSat.f t623 (rd l0_8 a2)).bind fun t625 => ((impl_Requant.f k t625 a0_4 a0_5 a0_6).bind fun t626 => (some t626))) else (none)) else (none))) else (none)) else (none)) else (none)) = some r := h;clear h;obtain ⟨ji4, hji4⟩ : ∃ j_ : Int, (wrap64 (a2 * (l1.length : Int))) = j_ := ⟨_, rfl⟩;replace H : (if 0 ≤ (ji4) then (if (ji4) ≤ (wrap64 ((wrap64 (a2 + 1)) * (l1.length : Int))) then (if (wrap64 ((wrap64 (a2 + 1)) * (l1.length : Int))) ≤ (l0_7.length : Int) then ((impl_DotOf.f k l1 ((l0_7.take ((wrap64 ((wrap64 (a2 + 1)) * (l1.length : Int))) : Int).toNat).drop ((ji4) : Int).toNat)).bind fun t623 => (if 0 ≤ a2 then (if a2 < (l0_8.length : Int) then ((impl_AddSat.f t623 (rd l0_8 a2)).bind fun t625 => ((impl_Requant.f k t625 a0_4 a0_5 a0_6).bind fun t626 => (some t626))) else (none)) else (none))) else (none)) else (none)) else (none)) = some r := by first | (rw [hji4] at H; exact H) | (simp only [hji4] at H ⊢; exact H)
  have hji4w : (IntKind.i64.wrap (a2 * (l1.length : Int))) = ji4 := (i64_w _).trans hji4;obtain ⟨c5, H⟩ := gd H;have c5b0 := eq_true c5;have c5b1 : decide (0 ≤ (ji4)) = true := decide_eq_true c5;clear c5;obtain ⟨c6, H⟩ := gd H;have c6b0 := eq_true c6;have c6b1 : decide ((ji4) ≤ (wrap64 ((wrap64 (a2 + 1)) * (l1.length : Int)))) = true := decide_eq_true c6;obtain ⟨c7, H⟩ := gd H;have c7b0 := eq_true c7;have c7b1 : decide ((wrap64 ((wrap64 (a2 + 1)) * (l1.length : Int))) ≤ (l0_7.length : Int)) = true := decide_eq_true c7;obtain ⟨t623, A8, H⟩ := bnd H;(try dsimp only at H);obtain ⟨c9, H⟩ := gd H;have c9b0 : decide (0 ≤ a2) = true := decide_eq_true c9;clear c9;obtain ⟨c10, H⟩ := gd H;have c10b0 : decide (a2 < (l0_8.length : Int)) = true := decide_eq_true c10;clear c10;obtain ⟨t625, A11, H⟩ := bnd H;(try dsimp only at H);obtain ⟨t626, A12, H⟩ := bnd H;(try dsimp only at H);obtain rfl := Option.some.inj H
  go_enter Try.func102, Try.ntmps102
  try go_wp2_with (first | ((with_reducible refine gate_dst (N := 3) rfl ?_); refine boxM 3 #[.int .i64 a0_0, .int .i64 a0_1, .int .i64 a0_2, .int .i64 a0_3, .int .i64 a0_4, .int .i64 a0_5, .int .i64 a0_6, .slice A0_7 l0_7.length c0_7, .slice A0_8 l0_8.length c0_8] 37 ?_; intro gb621 hg w13 BK621 hb; obtain ⟨HB, GW621, GE621⟩ := box_at w hb hg; clear hb hg; have hcz14 := cells9 BK621.out; obtain ⟨i015, hi015, _, hsz15, _⟩ := info_parts info3; obtain ⟨A15, hcut15, hA15, hC15⟩ := print_mid_of (P := Try.prog) (Value.int .i64) 0 24 3 .i64 .i64 Try.underlying24 hi015 hsz15 A0_7 c0_7 l0_7 (ji4) (wrap64 ((wrap64 (a2 + 1)) * (l1.length : Int))) (of_decide_eq_true (by first | (with_reducible assumption) | assumption)) (by first | omega | exact of_decide_eq_true (by first | (with_reducible assumption) | assumption)) (of_decide_eq_true (by first | (with_reducible assumption) | assumption)) HC0_7.out; have HR622 := am (Kd.C_of_reads (h1 := fun _ => rfl) (hA15 _ (Kd.reads_of_C HR0_7.out))); have HC622 := am hC15; clear hA15 hC15 hi015 hsz15) | ((with_reducible refine gate_callee (f := 132) rfl ?_); refine goesL_ (some 21) rfl rfl Try.func132 (by kernel_rfl) rfl #[.slice A1 l1.length c1, .slice A15 ((l0_7.take ((wrap64 ((wrap64 (a2 + 1)) * (l1.length : Int))) : Int).toNat).drop ((ji4) : Int).toNat).length (c0_7 - (ji4).toNat)] rfl (by (try simp only [List.map_toArray, List.map_cons, List.map_nil]); first | done | (rw [show ((l0_7.take ((wrap64 ((wrap64 (a2 + 1)) * (l1.length : Int))) : Int).toNat).drop ((ji4) : Int).toNat).length = ((wrap64 ((wrap64 (a2 + 1)) * (l1.length : Int))).toNat - (ji4).toNat) from (by rw [List.length_drop, List.length_take]; have h_ : ((wrap64 ((wrap64 (a2 + 1)) * (l1.length : Int))) : Int) ≤ (l0_7.length : Int) := of_decide_eq_true (by first | (with_reducible assumption) | assumption); omega)] <;> rfl) | (simp only [hji4]; rfl) | rfl | (simp only [List.length_drop, List.length_take]; rfl)) ?_; (with_reducible refine (impl_DotOf.calls k _ _ l1 _ _ ((l0_7.take ((wrap64 ((wrap64 (a2 + 1)) * (l1.length : Int))) : Int).toNat).drop ((ji4) : Int).toNat) t623 _ ?side1 HC1.out ?side3 HC622.out A8.out).mono ?_); (case side1 => exact C_now HR1.out); (case side3 => exact C_now HR622.out); rintro e w16 ⟨rfl, hb⟩; refine ⟨_, rfl, ?_⟩; replace HB := bel_on w hb; replace BK621 := blk_on gb621 hb; (try clear hb)))
  replace BK621 := am (blk_drew BK621.out);replace HB := am (below_drew1 HB.out);have p624 : 0 ≤ (a2 : Int) := of_decide_eq_true (by first | (with_reducible assumption) | assumption);have q624 : a2 < (l0_8.length : Int) := of_decide_eq_true (by first | (with_reducible assumption) | assumption);obtain ⟨ad624, e624, hx624_0⟩ := Kd.at_int HR0_8.out a2 p624 q624;have hw624_0 := hx624_0;cases e624;replace hx624_0 := (HB.out.cell (World.block_lt_of_cell? w _ hx624_0)).trans hx624_0;replace p624 := eq_true p624;replace q624 := eq_true q624
  refine start_ (n := 15) (S := fun w' => w'.cell? ⟨gb621, 0, none⟩ = some (.int .i64 a0_0) ∧ w'.cell? ⟨gb621, 1, none⟩ = some (.int .i64 a0_1) ∧ w'.cell? ⟨gb621, 2, none⟩ = some (.int .i64 a0_2) ∧ w'.cell? ⟨gb621, 3, none⟩ = some (.int .i64 a0_3) ∧ w'.cell? ⟨gb621, 4, none⟩ = some (.int .i64 a0_4) ∧ w'.cell? ⟨gb621, 5, none⟩ = some (.int .i64 a0_5) ∧ w'.cell? ⟨gb621, 6, none⟩ = some (.int .i64 a0_6) ∧ w'.cell? ⟨gb621, 7, none⟩ = some (.slice A0_7 l0_7.length c0_7) ∧ w'.cell? ⟨gb621, 8, none⟩ = some (.slice (some ad624) l0_8.length c0_8) ∧ w'.cell? (ad624.add (a2).toNat) = some (.int .i64 (rd l0_8 a2))) (ds := []) #[O, O, O, O, O, O, O, O, O, O, O, O, O, O, O] (by kernel_rfl) rfl rfl ⟨bc BK621 0, bc BK621 1, bc BK621 2, bc BK621 3, bc BK621 4, bc BK621 5, bc BK621 6, bc BK621 7, bc BK621 8, ((HB.out.cell (World.block_lt_of_cell? w _ hw624_0)).trans hw624_0)⟩ (fun hHeld => ?_); refine with_tabW impl_Layer_scaled.tab2 impl_Layer_scaled.bits2 (fun HT_ HW_ => ?_)
  generalize w16.drew = w17 at BK621 HB hx624_0 hHeld ⊢
  refine stepP 0 (some 22) (tk 15 1) (any_of HT_.out (by kernel_rfl)) ?_
  refine stepP 1 (some 23) (tk 15 3) (any_of HT_.out (by kernel_rfl)) ?_
  refine stepP 3 (some 25) (tk 15 11) (any_of HT_.out (by kernel_rfl)) ?_
  refine stepP 7 (some 29) (tk 15 139) (any_of HT_.out (by kernel_rfl)) ?_
  refine stepP 9 (some 31) (tk 15 651) (any_of HT_.out (by kernel_rfl)) ?_
  refine stepP 11 (some 33) (tk 15 2699) (any_of HT_.out (by kernel_rfl)) ?_
  refine stepT 2 (some 24) (tk 15 2703) (take_ofW HT_.out HW_.out (by kernel_rfl)) hHeld ?_
  refine stepP 4 (some 26) (tk 15 2719) (any_of HT_.out (by kernel_rfl)) ?_
  refine stepT 5 (some 27) (tk 15 2751) (take_ofW HT_.out HW_.out (by kernel_rfl)) hHeld ?_
  refine stepT 8 (some 30) (tk 15 3007) (take_ofW HT_.out HW_.out (by kernel_rfl)) hHeld ?_
  refine stepT 10 (some 32) (tk 15 4031) (take_ofW HT_.out HW_.out (by kernel_rfl)) hHeld ?_
  refine stepT 12 (some 34) (tk 15 8127) (take_ofW HT_.out HW_.out (by kernel_rfl)) hHeld ?_
  refine one_ (i := 6) (N := some 28) #[I, I, I, I, I, I, I, I, I, I, I, I, I, O, O] rfl rfl (one_of HT_.out (by kernel_rfl)) (by decide) (fun K hK => ?_)
  refine goes_ Try.func134 (by kernel_rfl) rfl #[.int .i64 t623, .int .i64 (rd l0_8 a2)] (by rfl) rfl rfl (by (try simp only [List.map_toArray, List.map_cons, List.map_nil]); first | done | rfl | (simp only [List.length_drop, List.length_take]; rfl)) ?_
  with_reducible refine (impl_AddSat.calls t623 (rd l0_8 a2) t625 _ A11.out).mono ?_
  rintro e w18 ⟨rfl, hb⟩
  refine ⟨_, rfl, ?_⟩
  replace BK621 := blk_on gb621 hb;replace HB := bel_on w hb;(try clear hb);(try clear hb2);(try clear hb3);(try clear hk);(try clear hi)
  refine hK.out _ _ ⟨bc BK621 0, bc BK621 1, bc BK621 2, bc BK621 3, bc BK621 4, bc BK621 5, bc BK621 6, bc BK621 7, bc BK621 8, ((HB.out.cell (World.block_lt_of_cell? w _ hw624_0)).trans hw624_0)⟩ (fun hHeld => ?_)
  clear hK K
  refine normP 28 ?_
  refine one_ (i := 13) (N := some 35) #[I, I, I, I, I, I, I, I, I, I, I, I, I, I, O] rfl rfl (one_of HT_.out (by kernel_rfl)) (by decide) (fun K hK => ?_)
  refine goes_ Try.func133 (by kernel_rfl) rfl #[.int .i64 t625, .int .i64 a0_4, .int .i64 a0_5, .int .i64 a0_6] (by rfl) rfl rfl (by (try simp only [List.map_toArray, List.map_cons, List.map_nil]); first | done | rfl | (simp only [List.length_drop, List.length_take]; rfl)) ?_
  with_reducible refine (impl_Requant.calls k t625 a0_4 a0_5 a0_6 t626 _ A12.out).mono ?_
  rintro e w19 ⟨rfl, hb⟩
  refine ⟨_, rfl, ?_⟩
  replace BK621 := blk_on gb621 hb;replace HB := bel_on w hb;(try clear hb);(try clear hb2);(try clear hb3);(try clear hk);(try clear hi)
  refine hK.out _ _ ⟨bc BK621 0, bc BK621 1, bc BK621 2, bc BK621 3, bc BK621 4, bc BK621 5, bc BK621 6, bc BK621 7, bc BK621 8, ((HB.out.cell (World.block_lt_of_cell? w _ hw624_0)).trans hw624_0)⟩ (fun hHeld => ?_)
  clear hK K
  refine normP 35 ?_
  refine stepP 14 (some 6) (tk 15 32767) (any_of HT_.out (by kernel_rfl)) ?_
  refine done_ (done_of HT_.out (by kernel_rfl)) ?_
  try go_wp2
  go_ret
  exact ⟨by first | rfl | (simp [errW_none, errW_some] <;> rfl) | (simp only [← hji4]; first | rfl | (simp [errW_none, errW_some] <;> rfl)) | (simp [*, errW_none, errW_some] <;> rfl), bel_now⟩

def impl_Shape_place.f (a0_0 : Int) (a0_1 : Int) (a0_2 : Int) (a1 : Int) (a2 : Int) (a3 : Int) : Option (Int) := some (wrap64 ((wrap64 ((wrap64 ((wrap64 (a1 * a0_1)) + a2)) * a0_2)) + a3))
theorem impl_Shape_place.calls (a0_0 : Int) (a0_1 : Int) (a0_2 : Int) (a1 : Int) (a2 : Int) (a3 : Int) (r : Int) (w : World) (h : impl_Shape_place.f a0_0 a0_1 a0_2 a1 a2 a3 = some r) :
   Calls Try.prog 106 #[.agg #[.int .i64 a0_0, .int .i64 a0_1, .int .i64 a0_2], .int .i64 a1, .int .i64 a2, .int .i64 a3] w fun e w' => e = .returned (.int .i64 r) ∧ Below w.heap.size w w' := by
  have hu31 := Try.underlying31;have HB := am (Below.refl w.heap.size w);have H : (some (wrap64 ((wrap64 ((wrap64 ((wrap64 (a1 * a0_1)) + a2)) * a0_2)) + a3))) = some r := h;clear h;obtain rfl := Option.some.inj H
  go_enter Try.func106, Try.ntmps106
  go_wp2_with (first | ((with_reducible refine gate_dst (N := 4) rfl ?_); refine boxM 4 #[.int .i64 a0_0, .int .i64 a0_1, .int .i64 a0_2] 31 ?_; intro gb627 hg w5 BK627 hb; obtain ⟨HB, GW627, GE627⟩ := box_at w hb hg; clear hb hg; have hcz6 := cells3 BK627.out))
  go_ret
  exact ⟨eqN, bel_now⟩

end Go.Proofs.Ytclpojeofclbjaa.PFnLayers
