import Derived.Test.YtjmejobelkllmaaPFnOneWeightx0
import Derived.Test.YtjmejobelkllmaaPFnOneWeightx10
namespace Go.Proofs.Ytjmejobelkllmaa.PFnOneWeight
open Go.RowKit Go.Proofs.YtjmejobelkllmaaW.PrintWords Go.Proofs.YtjmejobelkllmaaW.PrintLast Go.Proofs.YtjmejobelkllmaaW.PrintMore
attribute [local go_sem] max2_int min2_int max_two min_two max_three min_three max_four min_four
set_option maxHeartbeats 8000000
set_option maxRecDepth 100000
set_option linter.unusedVariables false
set_option linter.unusedSimpArgs false

def impl_DotOf.l0 : Nat → List Int → List Int → Int → Int → Int → Option (Int)
  | 0, _, _, _, _, _ => none
  | k + 1, x0, x1, x5, x11, x12 => if x12 < x11 then (if 0 ≤ x12 then (if x12 < (x0.length : Int) then ((impl_Sat8.f (rd x0 x12)).bind fun t500 => (if x12 < (x1.length : Int) then ((impl_Sat8.f (rd x1 x12)).bind fun t502 => ((impl_AddSat.f x5 (wrap64 (t500 * t502))).bind fun t503 => (impl_DotOf.l0 k x0 x1 t503 x11 (wrap64 (x12 + 1))))) else (none))) else (none)) else (none)) else (some x5)
def impl_DotOf.f (k : Nat) (l0 : List Int) (l1 : List Int) : Option (Int) := impl_DotOf.l0 k l0 l1 0 (mn (l0.length : Int) (l1.length : Int)) 0
def impl_DotOf.T5 : Bool × List (List Nat × List Nat) := (true, [([], []), ([], []), ([], []), ([1, 2], [1, 2]), ([3], [3]), ([4], [4]), ([], []), ([], []), ([6, 7], [6, 7]), ([8], [8]), ([9, 5], [9]), ([5, 10], [5, 10]), ([0, 11, 10], [0, 11]), ([12, 12, 0, 1, 2, 3, 4, 5, 6, 7, 8, 9, 10, 11, 12], [0, 12])])
def impl_DotOf.B5 : List Nat := [0, 0, 0, 6, 14, 30, 0, 0, 192, 448, 1022, 2046, 4095, 8191]
theorem impl_DotOf.tab5 : rtab .any (opsOf Try.f89 5) = impl_DotOf.T5 := by kernel_rfl
theorem impl_DotOf.bits5 : waitsOk impl_DotOf.T5.2 impl_DotOf.B5 = true := by kernel_rfl
theorem impl_DotOf.calls (k : Nat) (A0 : Option Addr) (c0 : Nat) (l0 : List Int) (A1 : Option Addr) (c1 : Nat) (l1 : List Int) (r : Int) (w : World) (hr0 : Kd.C (Kd.int .i64) w A0 l0.length l0) (hc0 : l0.length ≤ c0) (hr1 : Kd.C (Kd.int .i64) w A1 l1.length l1) (hc1 : l1.length ≤ c1) (h : impl_DotOf.f k l0 l1 = some r) :
   Calls Try.prog 89 #[.slice A0 l0.length c0, .slice A1 l1.length c1] w fun e w' => e = .returned (.int .i64 r) ∧ Below w.heap.size w w' := by
  have HR0 := am hr0;have HC0 := am hc0;clear hr0 hc0;have HR1 := am hr1;have HC1 := am hc1;clear hr1 hc1;have HB := am (Below.refl w.heap.size w);have H : (impl_DotOf.l0 k l0 l1 0 (mn (l0.length : Int) (l1.length : Int)) 0) = some r := h;clear h;obtain ⟨ji3, hji3⟩ : ∃ j_ : Int, (mn (l0.length : Int) (l1.length : Int)) = j_ := ⟨_, rfl⟩;replace H : (impl_DotOf.l0 k l0 l1 0 ji3 0) = some r := by first | (rw [hji3] at H; exact H) | (simp only [hji3] at H ⊢; exact H)
  (try (have hji3l : 0 ≤ ji3 := by (rw [← hji3]; unfold mn; (repeat' split) <;> omega)));(try (have hji3m : 0 ≤ ji3 := by omega));have hji3_ : (if (l1.length : Int) < (l0.length : Int) then (l1.length : Int) else (l0.length : Int)) = ji3 := hji3;have hji3n : (if l1.length < l0.length then (l1.length : Int) else (l0.length : Int)) = ji3 := by rw [← hji3_]; by_cases hq_ : l1.length < l0.length <;> simp [hq_]
  have H' := am H;clear H
  go_enter Try.func89, Try.ntmps89
  go_wp2
  go_loopg [5, 12] k (fun kq v5 v12 w' => ∃ (x5_1 : Int) (x12_1 : Int), v5 = .int .i64 x5_1 ∧ v12 = .int .i64 x12_1 ∧ Aside0 (impl_DotOf.l0 kq l0 l1 x5_1 ji3 x12_1 = some r) ∧ Aside0 (kq ≤ k) ∧ Aside0 (Below w.heap.size w w'))
  case atStart => exact ⟨(0), (0), pv, pv, H', ⟨Nat.le_refl _⟩, ⟨bel_now⟩⟩
  case round =>
   clear H';try clear c1
   obtain ⟨x5_1, x12_1, rfl, rfl, HA, HK1, HB⟩ := hrel
   cases gk with
   | zero => exact absurd HA.out (by simp [impl_DotOf.l0])
   | succ k1 =>
    have H := HA.out;clear HA;simp only [impl_DotOf.l0] at H;by_cases c4 : x12_1 < ji3;rotate_left
    ·rw [if_neg c4] at H;have c4b0 : decide (x12_1 < ji3) = false := decide_eq_false c4;clear c4;obtain rfl := Option.some.inj H
     go_wp2
     go_ret
     exact ⟨by first | rfl | (simp [errW_none, errW_some] <;> rfl) | (simp only [← hji3]; first | rfl | (simp [errW_none, errW_some] <;> rfl)) | (simp [*, errW_none, errW_some] <;> rfl), bel_now⟩
    rw [if_pos c4] at H;have c4b0 : decide (x12_1 < ji3) = true := decide_eq_true c4;clear c4;obtain ⟨c5, H⟩ := gd H;have c5b0 : decide (0 ≤ x12_1) = true := decide_eq_true c5;clear c5;obtain ⟨c6, H⟩ := gd H;have c6b0 : decide (x12_1 < (l0.length : Int)) = true := decide_eq_true c6;clear c6;obtain ⟨t500, A7, H⟩ := bnd H;(try dsimp only at H);obtain ⟨c8, H⟩ := gd H;have c8b0 : decide (x12_1 < (l1.length : Int)) = true := decide_eq_true c8;clear c8;obtain ⟨t502, A9, H⟩ := bnd H;(try dsimp only at H);obtain ⟨t503, A10, H⟩ := bnd H;(try dsimp only at H);have H' := am H;clear H
    try go_wp2
    replace HB := am (below_drew1 HB.out);have p499 : 0 ≤ (x12_1 : Int) := of_decide_eq_true (by first | (with_reducible assumption) | assumption);have q499 : x12_1 < (l0.length : Int) := of_decide_eq_true (by first | (with_reducible assumption) | assumption);obtain ⟨ad499, e499, hx499_0⟩ := Kd.at_int HR0.out x12_1 p499 q499;have hw499_0 := hx499_0;cases e499;replace hx499_0 := (HB.out.cell (World.block_lt_of_cell? w _ hx499_0)).trans hx499_0;replace p499 := eq_true p499;replace q499 := eq_true q499;have p501 : 0 ≤ (x12_1 : Int) := of_decide_eq_true (by first | (with_reducible assumption) | assumption);have q501 : x12_1 < (l1.length : Int) := of_decide_eq_true (by first | (with_reducible assumption) | assumption);obtain ⟨ad501, e501, hx501_0⟩ := Kd.at_int HR1.out x12_1 p501 q501;have hw501_0 := hx501_0;cases e501;replace hx501_0 := (HB.out.cell (World.block_lt_of_cell? w _ hx501_0)).trans hx501_0;replace p501 := eq_true p501;replace q501 := eq_true q501
    refine start_ (n := 14) (S := fun w' => w'.cell? (ad499.add (x12_1).toNat) = some (.int .i64 (rd l0 x12_1)) ∧ w'.cell? (ad501.add (x12_1).toNat) = some (.int .i64 (rd l1 x12_1))) (ds := []) #[O, O, O, O, O, O, O, O, O, O, O, O, O, O] (by kernel_rfl) rfl rfl ⟨((HB.out.cell (World.block_lt_of_cell? w _ hw499_0)).trans hw499_0), ((HB.out.cell (World.block_lt_of_cell? w _ hw501_0)).trans hw501_0)⟩ (fun hHeld => ?_); refine with_tabW impl_DotOf.tab5 impl_DotOf.bits5 (fun HT_ HW_ => ?_)
    generalize wr.drew = w11 at HB hx499_0 hx501_0 hHeld ⊢
    refine stepP 0 (some 15) (tk 14 1) (any_of HT_.out (by kernel_rfl)) ?_
    refine stepP 1 (some 16) (tk 14 3) (any_of HT_.out (by kernel_rfl)) ?_
    refine stepP 2 (some 17) (tk 14 7) (any_of HT_.out (by kernel_rfl)) ?_
    refine stepP 3 (some 18) (tk 14 15) (any_of HT_.out (by kernel_rfl)) ?_
    refine stepP 6 (some 21) (tk 14 79) (any_of HT_.out (by kernel_rfl)) ?_
    refine stepP 7 (some 22) (tk 14 207) (any_of HT_.out (by kernel_rfl)) ?_
    refine stepP 8 (some 23) (tk 14 463) (any_of HT_.out (by kernel_rfl)) ?_
    refine stepT 4 (some 19) (tk 14 479) (take_ofW HT_.out HW_.out (by kernel_rfl)) hHeld ?_
    refine stepT 9 (some 24) (tk 14 991) (take_ofW HT_.out HW_.out (by kernel_rfl)) hHeld ?_
    refine one_ (i := 5) (N := some 20) #[I, I, I, I, I, I, I, I, I, I, O, O, O, O] rfl rfl (one_of HT_.out (by kernel_rfl)) (by decide) (fun K hK => ?_)
    refine goes_ Try.func95 (by kernel_rfl) rfl #[.int .i64 (rd l0 x12_1)] (by rfl) rfl rfl (by (try simp only [List.map_toArray, List.map_cons, List.map_nil]); first | done | rfl | (simp only [List.length_drop, List.length_take]; rfl)) ?_
    with_reducible refine (impl_Sat8.calls (rd l0 x12_1) t500 _ A7.out).mono ?_
    rintro e w12 ⟨rfl, hb⟩
    refine ⟨_, rfl, ?_⟩
    replace HB := bel_on w hb;(try clear hb);(try clear hb2);(try clear hb3);(try clear hk);(try clear hi)
    refine hK.out _ _ ⟨((HB.out.cell (World.block_lt_of_cell? w _ hw499_0)).trans hw499_0), ((HB.out.cell (World.block_lt_of_cell? w _ hw501_0)).trans hw501_0)⟩ (fun hHeld => ?_)
    clear hK K
    refine normP 20 ?_
    refine one_ (i := 10) (N := some 25) #[I, I, I, I, I, I, I, I, I, I, I, O, O, O] rfl rfl (one_of HT_.out (by kernel_rfl)) (by decide) (fun K hK => ?_)
    refine goes_ Try.func95 (by kernel_rfl) rfl #[.int .i64 (rd l1 x12_1)] (by rfl) rfl rfl (by (try simp only [List.map_toArray, List.map_cons, List.map_nil]); first | done | rfl | (simp only [List.length_drop, List.length_take]; rfl)) ?_
    with_reducible refine (impl_Sat8.calls (rd l1 x12_1) t502 _ A9.out).mono ?_
    rintro e w13 ⟨rfl, hb⟩
    refine ⟨_, rfl, ?_⟩
    replace HB := bel_on w hb;(try clear hb);(try clear hb2);(try clear hb3);(try clear hk);(try clear hi)
    refine hK.out _ _ ⟨((HB.out.cell (World.block_lt_of_cell? w _ hw499_0)).trans hw499_0), ((HB.out.cell (World.block_lt_of_cell? w _ hw501_0)).trans hw501_0)⟩ (fun hHeld => ?_)
    clear hK K
    refine normP 25 ?_
    refine stepP 11 (some 26) (tk 14 4095) (any_of HT_.out (by kernel_rfl)) ?_
    refine one_ (i := 12) (N := some 27) #[I, I, I, I, I, I, I, I, I, I, I, I, I, O] rfl rfl (one_of HT_.out (by kernel_rfl)) (by decide) (fun K hK => ?_)
    refine goes_ Try.func91 (by kernel_rfl) rfl #[.int .i64 x5_1, .int .i64 (wrap64 (t500 * t502))] (by rfl) rfl rfl (by (try simp only [List.map_toArray, List.map_cons, List.map_nil]); first | done | rfl | (simp only [List.length_drop, List.length_take]; rfl)) ?_
    with_reducible refine (impl_AddSat.calls x5_1 (wrap64 (t500 * t502)) t503 _ A10.out).mono ?_
    rintro e w14 ⟨rfl, hb⟩
    refine ⟨_, rfl, ?_⟩
    replace HB := bel_on w hb;(try clear hb);(try clear hb2);(try clear hb3);(try clear hk);(try clear hi)
    refine hK.out _ _ ⟨((HB.out.cell (World.block_lt_of_cell? w _ hw499_0)).trans hw499_0), ((HB.out.cell (World.block_lt_of_cell? w _ hw501_0)).trans hw501_0)⟩ (fun hHeld => ?_)
    clear hK K
    refine normP 27 ?_
    refine stepP 13 (some 5) (tk 14 16383) (any_of HT_.out (by kernel_rfl)) ?_
    refine done_ (done_of HT_.out (by kernel_rfl)) ?_
    try go_wp2
    go_roundg k1
    case measure => have := HK1.out; omega
    case rel => exact ⟨(t503), (wrap64 (x12_1 + 1)), pv, pv, H', ⟨by have := HK1.out; omega⟩, ⟨bel_now⟩⟩

def impl_MulHigh.f (a0 : Int) (a1 : Int) : Option (Int) := (impl_Sat32.f a0).bind fun t504 => ((impl_Sat32.f a1).bind fun t505 => ((impl_Sat32.f ((wrap64 ((wrap64 (t504 * t505)) + 1073741824)) / 2147483648)).bind fun t506 => (some t506)))
theorem impl_MulHigh.calls (a0 : Int) (a1 : Int) (r : Int) (w : World) (h : impl_MulHigh.f a0 a1 = some r) :
   Calls Try.prog 97 #[.int .i64 a0, .int .i64 a1] w fun e w' => e = .returned (.int .i64 r) ∧ Below w.heap.size w w' := by
  have HB := am (Below.refl w.heap.size w);have H : ((impl_Sat32.f a0).bind fun t504 => ((impl_Sat32.f a1).bind fun t505 => ((impl_Sat32.f ((wrap64 ((wrap64 (t504 * t505)) + 1073741824)) / 2147483648)).bind fun t506 => (some t506)))) = some r := h;clear h;obtain ⟨t504, A3, H⟩ := bnd H;(try dsimp only at H);obtain ⟨t505, A4, H⟩ := bnd H;(try dsimp only at H);obtain ⟨t506, A5, H⟩ := bnd H;(try dsimp only at H);obtain rfl := Option.some.inj H
  go_enter Try.func97, Try.ntmps97
  go_wp2_with (first | ((with_reducible refine gate_callee (f := 98) rfl ?_); refine gM 6 Try.func98 #[.int .i64 a0] rfl ?_; (with_reducible refine (impl_Sat32.calls a0 t504 _ A3.out).mono ?_); rintro e w6 ⟨rfl, hb⟩; refine ⟨_, rfl, ?_⟩; replace HB := bel_on w hb; (try clear hb); (try clear hb2); (try clear hb3); (try clear hk); (try clear hi)) | ((with_reducible refine gate_callee (f := 98) rfl ?_); refine gM 8 Try.func98 #[.int .i64 a1] rfl ?_; (with_reducible refine (impl_Sat32.calls a1 t505 _ A4.out).mono ?_); rintro e w7 ⟨rfl, hb⟩; refine ⟨_, rfl, ?_⟩; replace HB := bel_on w hb; (try clear hb); (try clear hb2); (try clear hb3); (try clear hk); (try clear hi)) | ((with_reducible refine gate_callee (f := 98) rfl ?_); refine gM 12 Try.func98 #[.int .i64 ((wrap64 ((wrap64 (t504 * t505)) + 1073741824)) / 2147483648)] rfl ?_; (with_reducible refine (impl_Sat32.calls ((wrap64 ((wrap64 (t504 * t505)) + 1073741824)) / 2147483648) t506 _ A5.out).mono ?_); rintro e w8 ⟨rfl, hb⟩; refine ⟨_, rfl, ?_⟩; replace HB := bel_on w hb; (try clear hb); (try clear hb2); (try clear hb3); (try clear hk); (try clear hi)))
  go_ret
  exact ⟨eqN, bel_now⟩

def impl_rounded.f : Nat → Int → Int → Option (Int)
  | 0, _, _ => none
  | k + 1, a0, a1 => if a0 < 0 then ((impl_rounded.f k (wrap64 (-a0)) a1).bind fun t507 => (some (wrap64 (-t507)))) else (if (wrap64 (2 * a1)) = 0 then (none) else (some (wrap64 (Int.tdiv (wrap64 ((wrap64 (2 * a0)) + a1)) (wrap64 (2 * a1))))))
theorem impl_rounded.calls (k : Nat) : ∀ (a0 : Int) (a1 : Int) (r : Int) (w : World) (h : impl_rounded.f k a0 a1 = some r),
   Calls Try.prog 80 #[.int .i64 a0, .int .i64 a1] w fun e w' => e = .returned (.int .i64 r) ∧ Drawn0 w w' := by
  induction k using Nat.strongRecOn with
  | _ k ih =>
  intro a0 a1 r w h
  cases k with
  | zero => exact absurd h (by simp [impl_rounded.f])
  | succ k =>
  simp only [impl_rounded.f] at h;have H : (if a0 < 0 then ((impl_rounded.f k (wrap64 (-a0)) a1).bind fun t507 => (some (wrap64 (-t507)))) else (if (wrap64 (2 * a1)) = 0 then (none) else (some (wrap64 (Int.tdiv (wrap64 ((wrap64 (2 * a0)) + a1)) (wrap64 (2 * a1))))))) = some r := h;clear h;by_cases c3 : a0 < 0
  case' neg => skip
  rw [if_neg c3] at H;have c3b0 : decide (a0 < 0) = false := decide_eq_false c3;clear c3;by_cases c5 : (wrap64 (2 * a1)) = 0
  ·rw [if_pos c5] at H;exact absurd H (by simp)
  rw [if_neg c5] at H;have c5b0 : ((wrap64 (2 * a1)) == 0) = false := beq_eq_false_iff_ne.mpr c5;have c5b1 : ((wrap64 (2 * a1)) != 0) = true := bne_iff_ne.mpr c5;obtain rfl := Option.some.inj H;rotate_left;rw [if_pos c3] at H;have c3b0 : decide (a0 < 0) = true := decide_eq_true c3;clear c3;obtain ⟨t507, A4, H⟩ := bnd H;(try dsimp only at H);obtain rfl := Option.some.inj H;rotate_left
  all_goals (go_enter Try.func80, Try.ntmps80; go_wp2_with (first | ((with_reducible refine gate_callee (f := 80) rfl ?_); refine gM 10 Try.func80 #[.int .i64 (wrap64 (-a0)), .int .i64 a1] rfl ?_; (with_reducible refine (ih k (by omega) (wrap64 (-a0)) a1 t507 _ A4.out).mono ?_); rintro e w' ⟨rfl, ⟨nd, rfl⟩⟩; refine ⟨_, rfl, ?_⟩)))
  ·go_ret
   exact ⟨by first | rfl | (simp; done) | (simp [*]; done), by repeat (first | exact Drawn0.refl _ | apply Drawn0.step)⟩
  ·go_ret
   exact ⟨by first | rfl | (simp; done) | (simp [*]; done), by repeat (first | exact Drawn0.refl _ | apply Drawn0.step)⟩

def impl_RoundShift.f (k : Nat) (a0 : Int) (a1 : Int) : Option (Int) := (impl_Sat32.f a0).bind fun t508 => ((impl_cut.f a1 0 31).bind fun t509 => (if 0 ≤ t509 then ((impl_rounded.f k t508 (shl .i64 1 t509)).bind fun t510 => (some t510)) else (none)))
theorem impl_RoundShift.calls (k : Nat) (a0 : Int) (a1 : Int) (r : Int) (w : World) (h : impl_RoundShift.f k a0 a1 = some r) :
   Calls Try.prog 96 #[.int .i64 a0, .int .i64 a1] w fun e w' => e = .returned (.int .i64 r) ∧ Below w.heap.size w w' := by
  have HB := am (Below.refl w.heap.size w);have H : ((impl_Sat32.f a0).bind fun t508 => ((impl_cut.f a1 0 31).bind fun t509 => (if 0 ≤ t509 then ((impl_rounded.f k t508 (shl .i64 1 t509)).bind fun t510 => (some t510)) else (none)))) = some r := h;clear h;obtain ⟨t508, A3, H⟩ := bnd H;(try dsimp only at H);obtain ⟨t509, A4, H⟩ := bnd H;(try dsimp only at H);obtain ⟨c5, H⟩ := gd H;have c5b0 := eq_true c5;have c5b1 : decide (0 ≤ t509) = true := decide_eq_true c5;clear c5;obtain ⟨ji6, hji6⟩ : ∃ j_ : Int, (shl .i64 1 t509) = j_ := ⟨_, rfl⟩;replace H : ((impl_rounded.f k t508 (ji6)).bind fun t510 => (some t510)) = some r := by first | (rw [hji6] at H; exact H) | (simp only [hji6] at H ⊢; exact H)
  (try rw [hji6] at A3);(try rw [hji6] at A4);have hji6_ : (IntKind.i64.wrap (1 * 2 ^ min t509.toNat 64)) = ji6 := hji6;have hji6z : t509 ≤ 64 → (IntKind.i64.wrap (1 * 2 ^ t509.toNat)) = ji6 := shl_small hji6;have hji6u : (IntKind.i64.wrap (2 ^ min t509.toNat 64)) = ji6 := by have h_ := hji6_; rw [Int.one_mul] at h_; exact h_
  have hji6v : t509 ≤ 64 → (IntKind.i64.wrap (2 ^ t509.toNat)) = ji6 := fun hle_ => by have h_ := hji6z hle_; rw [Int.one_mul] at h_; exact h_
  have hji6y : (wrap64 (1 * 2 ^ min t509.toNat 64)) = ji6 := (i64_w _).symm.trans hji6_;have hji6x : t509 ≤ 64 → (wrap64 (1 * 2 ^ t509.toNat)) = ji6 := fun h_ => (i64_w _).symm.trans (hji6z h_);obtain ⟨t510, A7, H⟩ := bnd H;(try dsimp only at H);obtain rfl := Option.some.inj H
  go_enter Try.func96, Try.ntmps96
  go_wp2_with (first | ((with_reducible refine gate_callee (f := 98) rfl ?_); refine gM 6 Try.func98 #[.int .i64 a0] rfl ?_; (with_reducible refine (impl_Sat32.calls a0 t508 _ A3.out).mono ?_); rintro e w8 ⟨rfl, hb⟩; refine ⟨_, rfl, ?_⟩; replace HB := bel_on w hb; (try clear hb); (try clear hb2); (try clear hb3); (try clear hk); (try clear hi)) | ((with_reducible refine gate_callee (f := 99) rfl ?_); refine gM 8 Try.func99 #[.int .i64 a1, .int .i64 0, .int .i64 31] rfl ?_; (with_reducible refine (impl_cut.calls a1 0 31 t509 _ A4.out).mono ?_); rintro e w9 ⟨rfl, hb⟩; refine ⟨_, rfl, ?_⟩; replace HB := bel_on w hb; (try clear hb); (try clear hb2); (try clear hb3); (try clear hk); (try clear hi)) | ((with_reducible refine gate_callee (f := 80) rfl ?_); refine goesL_ (some 10) rfl rfl Try.func80 (by kernel_rfl) rfl #[.int .i64 t508, .int .i64 ji6] rfl (by (try simp only [List.map_toArray, List.map_cons, List.map_nil]); first | done | (simp only [hji6]; rfl) | rfl | (simp only [List.length_drop, List.length_take]; rfl)) ?_; (with_reducible refine (impl_rounded.calls k t508 ji6 t510 _ A7.out).mono ?_); rintro e w' ⟨rfl, ⟨nd, rfl⟩⟩; refine ⟨_, rfl, ?_⟩))
  go_ret
  exact ⟨by first | rfl | (simp [errW_none, errW_some] <;> rfl) | (simp only [← hji6]; first | rfl | (simp [errW_none, errW_some] <;> rfl)) | (simp [*, errW_none, errW_some] <;> rfl), bel_now⟩

def impl_Requant.f (k : Nat) (a0 : Int) (a1 : Int) (a2 : Int) (a3 : Int) : Option (Int) := (impl_MulHigh.f a0 a1).bind fun t511 => ((impl_RoundShift.f k t511 a2).bind fun t512 => ((impl_Sat8.f a3).bind fun t513 => ((impl_Sat8.f (wrap64 (t512 + t513))).bind fun t514 => (some t514))))
theorem impl_Requant.calls (k : Nat) (a0 : Int) (a1 : Int) (a2 : Int) (a3 : Int) (r : Int) (w : World) (h : impl_Requant.f k a0 a1 a2 a3 = some r) :
   Calls Try.prog 90 #[.int .i64 a0, .int .i64 a1, .int .i64 a2, .int .i64 a3] w fun e w' => e = .returned (.int .i64 r) ∧ Below w.heap.size w w' := by
  have HB := am (Below.refl w.heap.size w);have H : ((impl_MulHigh.f a0 a1).bind fun t511 => ((impl_RoundShift.f k t511 a2).bind fun t512 => ((impl_Sat8.f a3).bind fun t513 => ((impl_Sat8.f (wrap64 (t512 + t513))).bind fun t514 => (some t514))))) = some r := h;clear h;obtain ⟨t511, A5, H⟩ := bnd H;(try dsimp only at H);obtain ⟨t512, A6, H⟩ := bnd H;(try dsimp only at H);obtain ⟨t513, A7, H⟩ := bnd H;(try dsimp only at H);obtain ⟨t514, A8, H⟩ := bnd H;(try dsimp only at H);obtain rfl := Option.some.inj H
  go_enter Try.func90, Try.ntmps90
  go_wp2_with (first | ((with_reducible refine gate_callee (f := 97) rfl ?_); refine gM 11 Try.func97 #[.int .i64 a0, .int .i64 a1] rfl ?_; (with_reducible refine (impl_MulHigh.calls a0 a1 t511 _ A5.out).mono ?_); rintro e w9 ⟨rfl, hb⟩; refine ⟨_, rfl, ?_⟩; replace HB := bel_on w hb; (try clear hb); (try clear hb2); (try clear hb3); (try clear hk); (try clear hi)) | ((with_reducible refine gate_callee (f := 96) rfl ?_); refine gM 13 Try.func96 #[.int .i64 t511, .int .i64 a2] rfl ?_; (with_reducible refine (impl_RoundShift.calls k t511 a2 t512 _ A6.out).mono ?_); rintro e w10 ⟨rfl, hb⟩; refine ⟨_, rfl, ?_⟩; replace HB := bel_on w hb; (try clear hb); (try clear hb2); (try clear hb3); (try clear hk); (try clear hi)) | ((with_reducible refine gate_callee (f := 95) rfl ?_); refine gM 15 Try.func95 #[.int .i64 a3] rfl ?_; (with_reducible refine (impl_Sat8.calls a3 t513 _ A7.out).mono ?_); rintro e w11 ⟨rfl, hb⟩; refine ⟨_, rfl, ?_⟩; replace HB := bel_on w hb; (try clear hb); (try clear hb2); (try clear hb3); (try clear hk); (try clear hi)) | ((with_reducible refine gate_callee (f := 95) rfl ?_); refine gM 17 Try.func95 #[.int .i64 (wrap64 (t512 + t513))] rfl ?_; (with_reducible refine (impl_Sat8.calls (wrap64 (t512 + t513)) t514 _ A8.out).mono ?_); rintro e w12 ⟨rfl, hb⟩; refine ⟨_, rfl, ?_⟩; replace HB := bel_on w hb; (try clear hb); (try clear hb2); (try clear hb3); (try clear hk); (try clear hi)))
  go_ret
  exact ⟨eqN, bel_now⟩

def impl_Layer_scaled.f (k : Nat) (a0_0 : Int) (a0_1 : Int) (a0_2 : Int) (a0_3 : Int) (a0_4 : Int) (a0_5 : Int) (a0_6 : Int) (l0_7 : List Int) (l0_8 : List Int) (l1 : List Int) (a2 : Int) : Option (Int) := if 0 ≤ (wrap64 (a2 * (l1.length : Int))) then (if (wrap64 (a2 * (l1.length : Int))) ≤ (wrap64 ((wrap64 (a2 + 1)) * (l1.length : Int))) then (if (wrap64 ((wrap64 (a2 + 1)) * (l1.length : Int))) ≤ (l0_7.length : Int) then ((impl_DotOf.f k l1 ((l0_7.take ((wrap64 ((wrap64 (a2 + 1)) * (l1.length : Int))) : Int).toNat).drop ((wrap64 (a2 * (l1.length : Int))) : Int).toNat)).bind fun t517 => (if 0 ≤ a2 then (if a2 < (l0_8.length : Int) then ((impl_AddSat.f t517 (rd l0_8 a2)).bind fun t519 => ((impl_Requant.f k t519 a0_4 a0_5 a0_6).bind fun t520 => (some t520))) else (none)) else (none))) else (none)) else (none)) else (none)
def impl_Layer_scaled.T2 : Bool × List (List Nat × List Nat) := (true, [([], []), ([], []), ([1], [1]), ([], []), ([2, 3], [2, 3]), ([4], [4]), ([0, 5], [0, 5]), ([], []), ([7], [7]), ([], []), ([9], [9]), ([], []), ([11], [11]), ([6, 8, 10, 12, 6], [6, 8, 10, 12]), ([13, 13, 0, 1, 2, 3, 4, 5, 6, 7, 8, 9, 10, 11, 12, 13], [13])])
def impl_Layer_scaled.B2 : List Nat := [0, 0, 2, 0, 14, 30, 63, 0, 128, 0, 512, 0, 2048, 8191, 16383]
theorem impl_Layer_scaled.tab2 : rtab .any (opsOf Try.f77 2) = impl_Layer_scaled.T2 := by kernel_rfl
theorem impl_Layer_scaled.bits2 : waitsOk impl_Layer_scaled.T2.2 impl_Layer_scaled.B2 = true := by kernel_rfl
theorem impl_Layer_scaled.calls (k : Nat) (a0_0 : Int) (a0_1 : Int) (a0_2 : Int) (a0_3 : Int) (a0_4 : Int) (a0_5 : Int) (a0_6 : Int) (A0_7 : Option Addr) (c0_7 : Nat) (l0_7 : List Int) (A0_8 : Option Addr) (c0_8 : Nat) (l0_8 : List Int) (A1 : Option Addr) (c1 : Nat) (l1 : List Int) (a2 : Int) (r : Int) (w : World) (hr0_7 : Kd.C (Kd.int .i64) w A0_7 l0_7.length l0_7) (hc0_7 : l0_7.length ≤ c0_7) (hr0_8 : Kd.C (Kd.int .i64) w A0_8 l0_8.length l0_8) (hc0_8 : l0_8.length ≤ c0_8) (hr1 : Kd.C (Kd.int .i64) w A1 l1.length l1) (hc1 : l1.length ≤ c1) (h : impl_Layer_scaled.f k a0_0 a0_1 a0_2 a0_3 a0_4 a0_5 a0_6 l0_7 l0_8 l1 a2 = some r) :
   Calls Try.prog 77 #[.agg #[.int .i64 a0_0, .int .i64 a0_1, .int .i64 a0_2, .int .i64 a0_3, .int .i64 a0_4, .int .i64 a0_5, .int .i64 a0_6, .slice A0_7 l0_7.length c0_7, .slice A0_8 l0_8.length c0_8], .slice A1 l1.length c1, .int .i64 a2] w fun e w' => e = .returned (.int .i64 r) ∧ Below w.heap.size w w' := by
  have hu46 := Try.underlying46;have HR0_7 := am hr0_7;have HC0_7 := am hc0_7;clear hr0_7 hc0_7;have HR0_8 := am hr0_8;have HC0_8 := am hc0_8;clear hr0_8 hc0_8;have HR1 := am hr1;have HC1 := am hc1;clear hr1 hc1;have HB := am (Below.refl w.heap.size w);have H : (if 0 ≤ (wrap64 (a2 * (l1.length : Int))) then (if (wrap64 (a2 * (l1.length : Int))) ≤ (wrap64 ((wrap64 (a2 + 1)) * (l1.length : Int))) then (if (wrap64 ((wrap64 (a2 + 1)) * (l1.length : Int))) ≤ (l0_7.length : Int) then ((impl_DotOf.f k l1 ((l0_7.take ((wrap64 ((wrap64 (a2 + 1)) * (l1.length : Int))) : Int).toNat).drop ((wrap64 (a2 * (l1.length : Int))) : Int).toNat)).bind fun t517 => (if 0 ≤ a2 then (if a2 < (l0_8.length : Int) then ((impl_AddSat.f t517 (rd l0_8 a2)).bind fun t519 => ((impl_Requant.f k t519 a0_4 a0_5 a0_6).bind fun t520 => (some t520))) else (none)) else (none))) else (none)) else (none)) else (none)) = some r := h;clear h;obtain ⟨ji4, hji4⟩ : ∃ j_ : Int, (wrap64 (a2 * (l1.length : Int))) = j_ := ⟨_, rfl⟩;replace H : (if 0 ≤ (ji4) then (if (ji4) ≤ (wrap64 ((wrap64 (a2 + 1)) * (l1.length : Int))) then (if (wrap64 ((wrap64 (a2 + 1)) * (l1.length : Int))) ≤ (l0_7.length : Int) then ((impl_DotOf.f k l1 ((l0_7.take ((wrap64 ((wrap64 (a2 + 1)) * (l1.length : Int))) : Int).toNat).drop ((ji4) : Int).toNat)).bind fun t517 => (if 0 ≤ a2 then (if a2 < (l0_8.length : Int) then ((impl_AddSat.f t517 (rd l0_8 a2)).bind fun t519 => ((impl_Requant.f k t519 a0_4 a0_5 a0_6).bind fun t520 => (some t520))) else (none)) else (none))) else (none)) else (none)) else (none)) = some r := by first | (rw [hji4] at H; exact H) | (simp only [hji4] at H ⊢; exact H)
  have hji4w : (IntKind.i64.wrap (a2 * (l1.length : Int))) = ji4 := (i64_w _).trans hji4;obtain ⟨c5, H⟩ := gd H;have c5b0 := eq_true c5;have c5b1 : decide (0 ≤ (ji4)) = true := decide_eq_true c5;clear c5;obtain ⟨c6, H⟩ := gd H;have c6b0 := eq_true c6;have c6b1 : decide ((ji4) ≤ (wrap64 ((wrap64 (a2 + 1)) * (l1.length : Int)))) = true := decide_eq_true c6;obtain ⟨c7, H⟩ := gd H;have c7b0 := eq_true c7;have c7b1 : decide ((wrap64 ((wrap64 (a2 + 1)) * (l1.length : Int))) ≤ (l0_7.length : Int)) = true := decide_eq_true c7;obtain ⟨t517, A8, H⟩ := bnd H;(try dsimp only at H);obtain ⟨c9, H⟩ := gd H;have c9b0 : decide (0 ≤ a2) = true := decide_eq_true c9;clear c9;obtain ⟨c10, H⟩ := gd H;have c10b0 : decide (a2 < (l0_8.length : Int)) = true := decide_eq_true c10;clear c10;obtain ⟨t519, A11, H⟩ := bnd H;(try dsimp only at H);obtain ⟨t520, A12, H⟩ := bnd H;(try dsimp only at H);obtain rfl := Option.some.inj H
  go_enter Try.func77, Try.ntmps77
  try go_wp2_with (first | ((with_reducible refine gate_dst (N := 3) rfl ?_); refine boxM 3 #[.int .i64 a0_0, .int .i64 a0_1, .int .i64 a0_2, .int .i64 a0_3, .int .i64 a0_4, .int .i64 a0_5, .int .i64 a0_6, .slice A0_7 l0_7.length c0_7, .slice A0_8 l0_8.length c0_8] 46 ?_; intro gb515 hg w13 BK515 hb; obtain ⟨HB, GW515, GE515⟩ := box_at w hb hg; clear hb hg; have hcz14 := cells9 BK515.out; obtain ⟨i015, hi015, _, hsz15, _⟩ := info_parts info3; obtain ⟨A15, hcut15, hA15, hC15⟩ := print_mid_of (P := Try.prog) (Value.int .i64) 0 42 3 .i64 .i64 Try.underlying42 hi015 hsz15 A0_7 c0_7 l0_7 (ji4) (wrap64 ((wrap64 (a2 + 1)) * (l1.length : Int))) (of_decide_eq_true (by first | (with_reducible assumption) | assumption)) (by first | omega | exact of_decide_eq_true (by first | (with_reducible assumption) | assumption)) (of_decide_eq_true (by first | (with_reducible assumption) | assumption)) HC0_7.out; have HR516 := am (Kd.C_of_reads (h1 := fun _ => rfl) (hA15 _ (Kd.reads_of_C HR0_7.out))); have HC516 := am hC15; clear hA15 hC15 hi015 hsz15) | ((with_reducible refine gate_callee (f := 89) rfl ?_); refine goesL_ (some 21) rfl rfl Try.func89 (by kernel_rfl) rfl #[.slice A1 l1.length c1, .slice A15 ((l0_7.take ((wrap64 ((wrap64 (a2 + 1)) * (l1.length : Int))) : Int).toNat).drop ((ji4) : Int).toNat).length (c0_7 - (ji4).toNat)] rfl (by (try simp only [List.map_toArray, List.map_cons, List.map_nil]); first | done | (rw [show ((l0_7.take ((wrap64 ((wrap64 (a2 + 1)) * (l1.length : Int))) : Int).toNat).drop ((ji4) : Int).toNat).length = ((wrap64 ((wrap64 (a2 + 1)) * (l1.length : Int))).toNat - (ji4).toNat) from (by rw [List.length_drop, List.length_take]; have h_ : ((wrap64 ((wrap64 (a2 + 1)) * (l1.length : Int))) : Int) ≤ (l0_7.length : Int) := of_decide_eq_true (by first | (with_reducible assumption) | assumption); omega)] <;> rfl) | (simp only [hji4]; rfl) | rfl | (simp only [List.length_drop, List.length_take]; rfl)) ?_; (with_reducible refine (impl_DotOf.calls k _ _ l1 _ _ ((l0_7.take ((wrap64 ((wrap64 (a2 + 1)) * (l1.length : Int))) : Int).toNat).drop ((ji4) : Int).toNat) t517 _ ?side1 HC1.out ?side3 HC516.out A8.out).mono ?_); (case side1 => exact C_now HR1.out); (case side3 => exact C_now HR516.out); rintro e w16 ⟨rfl, hb⟩; refine ⟨_, rfl, ?_⟩; replace HB := bel_on w hb; replace BK515 := blk_on gb515 hb; (try clear hb); (try clear hb2); (try clear hb3); (try clear hk); (try clear hi)))
  replace BK515 := am (blk_drew BK515.out);replace HB := am (below_drew1 HB.out);have p518 : 0 ≤ (a2 : Int) := of_decide_eq_true (by first | (with_reducible assumption) | assumption);have q518 : a2 < (l0_8.length : Int) := of_decide_eq_true (by first | (with_reducible assumption) | assumption);obtain ⟨ad518, e518, hx518_0⟩ := Kd.at_int HR0_8.out a2 p518 q518;have hw518_0 := hx518_0;cases e518;replace hx518_0 := (HB.out.cell (World.block_lt_of_cell? w _ hx518_0)).trans hx518_0;replace p518 := eq_true p518;replace q518 := eq_true q518
  refine start_ (n := 15) (S := fun w' => w'.cell? ⟨gb515, 0, none⟩ = some (.int .i64 a0_0) ∧ w'.cell? ⟨gb515, 1, none⟩ = some (.int .i64 a0_1) ∧ w'.cell? ⟨gb515, 2, none⟩ = some (.int .i64 a0_2) ∧ w'.cell? ⟨gb515, 3, none⟩ = some (.int .i64 a0_3) ∧ w'.cell? ⟨gb515, 4, none⟩ = some (.int .i64 a0_4) ∧ w'.cell? ⟨gb515, 5, none⟩ = some (.int .i64 a0_5) ∧ w'.cell? ⟨gb515, 6, none⟩ = some (.int .i64 a0_6) ∧ w'.cell? ⟨gb515, 7, none⟩ = some (.slice A0_7 l0_7.length c0_7) ∧ w'.cell? ⟨gb515, 8, none⟩ = some (.slice (some ad518) l0_8.length c0_8) ∧ w'.cell? (ad518.add (a2).toNat) = some (.int .i64 (rd l0_8 a2))) (ds := []) #[O, O, O, O, O, O, O, O, O, O, O, O, O, O, O] (by kernel_rfl) rfl rfl ⟨bc BK515 0, bc BK515 1, bc BK515 2, bc BK515 3, bc BK515 4, bc BK515 5, bc BK515 6, bc BK515 7, bc BK515 8, ((HB.out.cell (World.block_lt_of_cell? w _ hw518_0)).trans hw518_0)⟩ (fun hHeld => ?_); refine with_tabW impl_Layer_scaled.tab2 impl_Layer_scaled.bits2 (fun HT_ HW_ => ?_)
  generalize w16.drew = w17 at BK515 HB hx518_0 hHeld ⊢
  refine stepP 0 (some 22) (tk 15 1) (any_of HT_.out (by kernel_rfl)) ?_
  refine stepP 1 (some 23) (tk 15 3) (any_of HT_.out (by kernel_rfl)) ?_
  refine stepP 3 (some 25) (tk 15 11) (any_of HT_.out (by kernel_rfl)) ?_
  refine stepP 7 (some 29) (tk 15 139) (any_of HT_.out (by kernel_rfl)) ?_
  refine stepP 9 (some 31) (tk 15 651) (any_of HT_.out (by kernel_rfl)) ?_
  refine stepP 11 (some 33) (tk 15 2699) (any_of HT_.out (by kernel_rfl)) ?_
  refine stepT 2 (some 24) (tk 15 2703) (take_ofW HT_.out HW_.out (by kernel_rfl)) hHeld ?_
  refine stepP 4 (some 26) (tk 15 2719) (any_of HT_.out (by kernel_rfl)) ?_
  refine stepT 5 (some 27) (tk 15 2751) (take_ofW HT_.out HW_.out (by kernel_rfl)) hHeld ?_
  refine stepT 8 (some 30) (tk 15 3007) (take_ofW HT_.out HW_.out (by kernel_rfl)) hHeld ?_
  refine stepT 10 (some 32) (tk 15 4031) (take_ofW HT_.out HW_.out (by kernel_rfl)) hHeld ?_
  refine stepT 12 (some 34) (tk 15 8127) (take_ofW HT_.out HW_.out (by kernel_rfl)) hHeld ?_
  refine one_ (i := 6) (N := some 28) #[I, I, I, I, I, I, I, I, I, I, I, I, I, O, O] rfl rfl (one_of HT_.out (by kernel_rfl)) (by decide) (fun K hK => ?_)
  refine goes_ Try.func91 (by kernel_rfl) rfl #[.int .i64 t517, .int .i64 (rd l0_8 a2)] (by rfl) rfl rfl (by (try simp only [List.map_toArray, List.map_cons, List.map_nil]); first | done | rfl | (simp only [List.length_drop, List.length_take]; rfl)) ?_
  with_reducible refine (impl_AddSat.calls t517 (rd l0_8 a2) t519 _ A11.out).mono ?_
  rintro e w18 ⟨rfl, hb⟩
  refine ⟨_, rfl, ?_⟩
  replace BK515 := blk_on gb515 hb;replace HB := bel_on w hb;(try clear hb);(try clear hb2);(try clear hb3);(try clear hk);(try clear hi)
  refine hK.out _ _ ⟨bc BK515 0, bc BK515 1, bc BK515 2, bc BK515 3, bc BK515 4, bc BK515 5, bc BK515 6, bc BK515 7, bc BK515 8, ((HB.out.cell (World.block_lt_of_cell? w _ hw518_0)).trans hw518_0)⟩ (fun hHeld => ?_)
  clear hK K
  refine normP 28 ?_
  refine one_ (i := 13) (N := some 35) #[I, I, I, I, I, I, I, I, I, I, I, I, I, I, O] rfl rfl (one_of HT_.out (by kernel_rfl)) (by decide) (fun K hK => ?_)
  refine goes_ Try.func90 (by kernel_rfl) rfl #[.int .i64 t519, .int .i64 a0_4, .int .i64 a0_5, .int .i64 a0_6] (by rfl) rfl rfl (by (try simp only [List.map_toArray, List.map_cons, List.map_nil]); first | done | rfl | (simp only [List.length_drop, List.length_take]; rfl)) ?_
  with_reducible refine (impl_Requant.calls k t519 a0_4 a0_5 a0_6 t520 _ A12.out).mono ?_
  rintro e w19 ⟨rfl, hb⟩
  refine ⟨_, rfl, ?_⟩
  replace BK515 := blk_on gb515 hb;replace HB := bel_on w hb;(try clear hb);(try clear hb2);(try clear hb3);(try clear hk);(try clear hi)
  refine hK.out _ _ ⟨bc BK515 0, bc BK515 1, bc BK515 2, bc BK515 3, bc BK515 4, bc BK515 5, bc BK515 6, bc BK515 7, bc BK515 8, ((HB.out.cell (World.block_lt_of_cell? w _ hw518_0)).trans hw518_0)⟩ (fun hHeld => ?_)
  clear hK K
  refine normP 35 ?_
  refine stepP 14 (some 6) (tk 15 32767) (any_of HT_.out (by kernel_rfl)) ?_
  refine done_ (done_of HT_.out (by kernel_rfl)) ?_
  try go_wp2
  go_ret
  exact ⟨by first | rfl | (simp [errW_none, errW_some] <;> rfl) | (simp only [← hji4]; first | rfl | (simp [errW_none, errW_some] <;> rfl)) | (simp [*, errW_none, errW_some] <;> rfl), bel_now⟩

def impl_Shape_place.f (a0_0 : Int) (a0_1 : Int) (a0_2 : Int) (a1 : Int) (a2 : Int) (a3 : Int) : Option (Int) := some (wrap64 ((wrap64 ((wrap64 ((wrap64 (a1 * a0_1)) + a2)) * a0_2)) + a3))
theorem impl_Shape_place.calls (a0_0 : Int) (a0_1 : Int) (a0_2 : Int) (a1 : Int) (a2 : Int) (a3 : Int) (r : Int) (w : World) (h : impl_Shape_place.f a0_0 a0_1 a0_2 a1 a2 a3 = some r) :
   Calls Try.prog 81 #[.agg #[.int .i64 a0_0, .int .i64 a0_1, .int .i64 a0_2], .int .i64 a1, .int .i64 a2, .int .i64 a3] w fun e w' => e = .returned (.int .i64 r) ∧ Below w.heap.size w w' := by
  have hu24 := Try.underlying24;have HB := am (Below.refl w.heap.size w);have H : (some (wrap64 ((wrap64 ((wrap64 ((wrap64 (a1 * a0_1)) + a2)) * a0_2)) + a3))) = some r := h;clear h;obtain rfl := Option.some.inj H
  go_enter Try.func81, Try.ntmps81
  go_wp2_with (first | ((with_reducible refine gate_dst (N := 4) rfl ?_); refine boxM 4 #[.int .i64 a0_0, .int .i64 a0_1, .int .i64 a0_2] 24 ?_; intro gb521 hg w5 BK521 hb; obtain ⟨HB, GW521, GE521⟩ := box_at w hb hg; clear hb hg; have hcz6 := cells3 BK521.out))
  go_ret
  exact ⟨eqN, bel_now⟩

end Go.Proofs.Ytjmejobelkllmaa.PFnOneWeight
