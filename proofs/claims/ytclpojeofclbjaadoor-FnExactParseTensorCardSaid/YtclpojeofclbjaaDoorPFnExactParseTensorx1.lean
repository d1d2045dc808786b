import Derived.Test.YtclpojeofclbjaaDoorPFnExactParseTensorx0
namespace Go.Proofs.YtclpojeofclbjaaDoor.PFnExactParseTensor
open Go.RowKit Go.Proofs.YtclpojeofclbjaaDoorW.PrintWords Go.Proofs.YtclpojeofclbjaaDoorW.PrintLast Go.Proofs.YtclpojeofclbjaaDoorW.PrintMore
attribute [local go_sem] max2_int min2_int max_two min_two max_three min_three max_four min_four
set_option maxHeartbeats 8000000
set_option maxRecDepth 100000
set_option linter.unusedVariables false
set_option linter.unusedSimpArgs false

def spec_l02Parts.l0 : Nat → ByteArray → Int → List ByteArray → Int → Int → Option (List ByteArray)
  | 0, _, _, _, _, _ => none
  | k + 1, x0, x1, x5, x6, x7 => if x7 ≤ (x0.size : Int) then (if x7 = (x0.size : Int) then (if 0 ≤ x6 then (if x6 ≤ x7 then (if x5.length < 8796093022208 then (spec_l02Parts.l0 k x0 x1 (x5 ++ [x0.extract (x6 : Int).toNat (x7 : Int).toNat]) (wrap64 (x7 + 1)) (wrap64 (x7 + 1))) else (none)) else (none)) else (none)) else (if 0 ≤ x7 then (if x7 < (x0.size : Int) then (if (bt x0 x7) = x1 then (if 0 ≤ x6 then (if x6 ≤ x7 then (if x5.length < 8796093022208 then (spec_l02Parts.l0 k x0 x1 (x5 ++ [x0.extract (x6 : Int).toNat (x7 : Int).toNat]) (wrap64 (x7 + 1)) (wrap64 (x7 + 1))) else (none)) else (none)) else (none)) else (spec_l02Parts.l0 k x0 x1 x5 x6 (wrap64 (x7 + 1)))) else (none)) else (none))) else (some x5)
def spec_l02Parts.f (k : Nat) (a0 : ByteArray) (a1 : Int) : Option (List ByteArray) := spec_l02Parts.l0 k a0 a1 (([] : List ByteArray)) 0 0
theorem spec_l02Parts.calls (k : Nat) (a0 : ByteArray) (a1 : Int) (r : List ByteArray) (w : World) (h : spec_l02Parts.f k a0 a1 = some r) :
   Calls Tryd.prog 27 #[.string a0, .int .u8 a1] w fun e w' => ∃ v0_ : Value, e = .returned (v0_) ∧ Kd.R Kd.string 9 w' w.heap.size (fun _ => True) v0_ r ∧ Below w.heap.size w w' := by
  have HB := am (Below.refl w.heap.size w);have H : (spec_l02Parts.l0 k a0 a1 (([] : List ByteArray)) 0 0) = some r := h;clear h;obtain ⟨y101, hy101⟩ : ∃ y_ : List ByteArray, y_ = (([] : List ByteArray)) := ⟨_, rfl⟩;replace H : (spec_l02Parts.l0 k a0 a1 y101 0 0) = some r := by first | (rw [hy101]; with_reducible exact H) | (have H2_ := (Option.bind_some _ _).symm.trans H; rw [hy101]; with_reducible exact H2_) | (have H2_ := (Option.bind_some _ _).symm.trans H; with_reducible exact H2_) | with_reducible exact H | (rw [hy101]; exact H) | exact H
  have Ny101 := am hy101;clear hy101;have H' := am H;clear H
  go_enter Tryd.func27, Tryd.ntmps27
  go_wp2_with (first | ((with_reducible refine gate_dst (N := 8) rfl ?_); refine Kd.R_lit Kd.string _ 9 ?hg (N := 8) ?hd (xs := ([] : List ByteArray)) (inner := []) (ok := fun _ => True) (okp := fun _ => True) ?hr ?hp (fun _ hk => hk) trivial (Below.refl _ _) (Nat.le_refl _) (by simp) ?_; (case hd => rfl); (case hg => rfl); (case hr => first | (go_simp; done) | (go_simp; rfl)); (case hp => exact (Reps.none _ _)); intro v102 w3 ho4 hb hg_ hnew_; clear hg_ hnew_; (first | rw [← Ny101.out] at ho4 | (simp only [Int.reduceToNat] at ho4; rw [← Ny101.out] at ho4)); have n0_ := am (Kd.R_lower ho4 (below_size bel_now)); replace HB := bel_on w hb; have HO103 := n0_; clear n0_; clear hb ho4))
  go_loopg [5, 6, 7] k (fun kq v5 v6 v7 w' => ∃ (x5_1 : List ByteArray) (x6_1 : Int) (x7_1 : Int), v6 = .int .i64 x6_1 ∧ v7 = .int .i64 x7_1 ∧ Aside0 (spec_l02Parts.l0 kq a0 a1 x5_1 x6_1 x7_1 = some r) ∧ Aside0 (kq ≤ k) ∧ Aside0 (Kd.R Kd.string 9 w' w.heap.size (fun _ => True) v5 x5_1) ∧ Aside0 (Below w.heap.size w w'))
  case atStart => exact ⟨(y101), (0), (0), pv, pv, H', ⟨Nat.le_refl _⟩, ⟨R_at HO103.out⟩, ⟨bel_now⟩⟩
  case round =>
   clear H';obtain ⟨x5_1, x6_1, x7_1, rfl, rfl, HA, HK1, HO_5, HB⟩ := hrel
   cases gk with
   | zero => exact absurd HA.out (by simp [spec_l02Parts.l0])
   | succ k1 =>
    have H := HA.out;clear HA;simp only [spec_l02Parts.l0] at H;by_cases c5 : x7_1 ≤ (a0.size : Int);rotate_left
    ·rw [if_neg c5] at H;have c5b0 : decide (x7_1 ≤ (a0.size : Int)) = false := decide_eq_false c5;clear c5;obtain rfl := Option.some.inj H
     go_wp2
     go_ret
     exact ⟨_, eqN, R_at HO_5.out, bel_now⟩
    rw [if_pos c5] at H;have c5b0 : decide (x7_1 ≤ (a0.size : Int)) = true := decide_eq_true c5;clear c5;by_cases c6 : x7_1 = (a0.size : Int)
    ·rw [if_pos c6] at H;have c6b0 : (x7_1 == (a0.size : Int)) = true := beq_iff_eq.mpr c6;have c6b1 : (x7_1 != (a0.size : Int)) = false := bne_eq_false_iff_eq.mpr c6;clear c6;obtain ⟨c7, H⟩ := gd H;have c7b0 := eq_true c7;have c7b1 : decide (0 ≤ x6_1) = true := decide_eq_true c7;clear c7;obtain ⟨c8, H⟩ := gd H;have c8b0 := eq_true c8;have c8b1 : decide (x6_1 ≤ x7_1) = true := decide_eq_true c8;clear c8;have c9b0 := eq_true (of_decide_eq_true (by first | (with_reducible assumption) | assumption) : x7_1 ≤ (a0.size : Int));obtain ⟨c10, H⟩ := gd H;have LMc10 := am c10;clear c10;obtain ⟨y104, hy104⟩ : ∃ y_ : List ByteArray, y_ = (x5_1 ++ [a0.extract (x6_1 : Int).toNat (x7_1 : Int).toNat]) := ⟨_, rfl⟩;replace H : (spec_l02Parts.l0 k1 a0 a1 y104 (wrap64 (x7_1 + 1)) (wrap64 (x7_1 + 1))) = some r := by first | (rw [hy104]; with_reducible exact H) | (have H2_ := (Option.bind_some _ _).symm.trans H; rw [hy104]; with_reducible exact H2_) | (have H2_ := (Option.bind_some _ _).symm.trans H; with_reducible exact H2_) | with_reducible exact H | (rw [hy104]; exact H) | exact H
     have Ny104 := am hy104;clear hy104;have H' := am H;clear H
     go_wp2_with (first | ((with_reducible refine gate_builtin (b := .append) (xs := #[.tmp 26, .tmp 31]) rfl ?_); at_builtin; refine Kd.R_append Kd.string (w0 := w) w.heap.size rfl (.tmp 26) (.tmp 31) 53 9 (.string ⟨#[]⟩) 16 rfl Tryd.underlying53 info9 rfl (by decide) (by omega) u5 x5_1 (a0.extract (x6_1 : Int).toNat (x7_1 : Int).toNat) [.string (a0.extract (x6_1 : Int).toNat (x7_1 : Int).toNat)] (fun _ => True) (fun _ => False) rfl rfl ?aP (fun _ hk => hk.elim) ?aF ?aO ?aB ?aS ?aL ?_; (case aP => exact rfl); (case aB => exact bel_now); (case aF => exact (fun _ _ => trivial)); (case aO => exact (R_at HO_5.out)); (case aS => exact (below_size bel_now)); (case aL => have := LMc10.out; omega); intro v105 w11 ho hb hg hat; rw [← Ny104.out] at ho; have n0_ := am (hb); have n1_ := am (ho); clear HB; clear HO_5; have HB := n0_; have HO106 := n1_; clear n0_ n1_; clear ho hb hg hat))
     go_roundg k1
     case measure => have := HK1.out; omega
     case rel => exact ⟨(y104), (wrap64 (x7_1 + 1)), (wrap64 (x7_1 + 1)), pv, pv, H', ⟨by have := HK1.out; omega⟩, ⟨R_at HO106.out⟩, ⟨bel_now⟩⟩
    rw [if_neg c6] at H;have c6b0 : (x7_1 == (a0.size : Int)) = false := beq_eq_false_iff_ne.mpr c6;have c6b1 : (x7_1 != (a0.size : Int)) = true := bne_iff_ne.mpr c6;obtain ⟨c12, H⟩ := gd H;have c12b0 : decide (0 ≤ x7_1) = true := decide_eq_true c12;clear c12;obtain ⟨c13, H⟩ := gd H;have c13b0 : decide (x7_1 < (a0.size : Int)) = true := decide_eq_true c13;clear c13;by_cases c15 : (bt a0 x7_1) = a1;rotate_left
    ·rw [if_neg c15] at H;have c15b0 : ((bt a0 x7_1) == a1) = false := beq_eq_false_iff_ne.mpr c15;have c15b1 : ((bt a0 x7_1) != a1) = true := bne_iff_ne.mpr c15;have H' := am H;clear H;have p14 : 0 ≤ (x7_1 : Int) := of_decide_eq_true (by first | (with_reducible assumption) | assumption);have q14 : x7_1 < (a0.size : Int) := of_decide_eq_true (by first | (with_reducible assumption) | assumption);have hx14 := bt_at a0 x7_1;replace p14 := eq_true p14;replace q14 := eq_true q14
     go_wp2
     go_roundg k1
     case measure => have := HK1.out; omega
     case rel => exact ⟨(x5_1), (x6_1), (wrap64 (x7_1 + 1)), pv, pv, H', ⟨by have := HK1.out; omega⟩, ⟨R_at HO_5.out⟩, ⟨bel_now⟩⟩
    rw [if_pos c15] at H;have c15b0 : ((bt a0 x7_1) == a1) = true := beq_iff_eq.mpr c15;have c15b1 : ((bt a0 x7_1) != a1) = false := bne_eq_false_iff_eq.mpr c15;clear c15;obtain ⟨c16, H⟩ := gd H;have c16b0 := eq_true c16;have c16b1 : decide (0 ≤ x6_1) = true := decide_eq_true c16;clear c16;obtain ⟨c17, H⟩ := gd H;have c17b0 := eq_true c17;have c17b1 : decide (x6_1 ≤ x7_1) = true := decide_eq_true c17;clear c17;have c18b0 := eq_true (of_decide_eq_true (by first | (with_reducible assumption) | assumption) : x7_1 ≤ (a0.size : Int));obtain ⟨c19, H⟩ := gd H;have LMc19 := am c19;clear c19;obtain ⟨y107, hy107⟩ : ∃ y_ : List ByteArray, y_ = (x5_1 ++ [a0.extract (x6_1 : Int).toNat (x7_1 : Int).toNat]) := ⟨_, rfl⟩;replace H : (spec_l02Parts.l0 k1 a0 a1 y107 (wrap64 (x7_1 + 1)) (wrap64 (x7_1 + 1))) = some r := by first | (rw [hy107]; with_reducible exact H) | (have H2_ := (Option.bind_some _ _).symm.trans H; rw [hy107]; with_reducible exact H2_) | (have H2_ := (Option.bind_some _ _).symm.trans H; with_reducible exact H2_) | with_reducible exact H | (rw [hy107]; exact H) | exact H
    have Ny107 := am hy107;clear hy107;have H' := am H;clear H;have p14 : 0 ≤ (x7_1 : Int) := of_decide_eq_true (by first | (with_reducible assumption) | assumption);have q14 : x7_1 < (a0.size : Int) := of_decide_eq_true (by first | (with_reducible assumption) | assumption);have hx14 := bt_at a0 x7_1;replace p14 := eq_true p14;replace q14 := eq_true q14
    go_wp2_with (first | ((with_reducible refine gate_builtin (b := .append) (xs := #[.tmp 26, .tmp 31]) rfl ?_); at_builtin; refine Kd.R_append Kd.string (w0 := w) w.heap.size rfl (.tmp 26) (.tmp 31) 53 9 (.string ⟨#[]⟩) 16 rfl Tryd.underlying53 info9 rfl (by decide) (by omega) u5 x5_1 (a0.extract (x6_1 : Int).toNat (x7_1 : Int).toNat) [.string (a0.extract (x6_1 : Int).toNat (x7_1 : Int).toNat)] (fun _ => True) (fun _ => False) rfl rfl ?aP (fun _ hk => hk.elim) ?aF ?aO ?aB ?aS ?aL ?_; (case aP => exact rfl); (case aB => exact bel_now); (case aF => exact (fun _ _ => trivial)); (case aO => exact (R_at HO_5.out)); (case aS => exact (below_size bel_now)); (case aL => have := LMc19.out; omega); intro v108 w20 ho hb hg hat; rw [← Ny107.out] at ho; have n0_ := am (hb); have n1_ := am (ho); clear HB; clear HO_5; have HB := n0_; have HO109 := n1_; clear n0_ n1_; clear ho hb hg hat))
    go_roundg k1
    case measure => have := HK1.out; omega
    case rel => exact ⟨(y107), (wrap64 (x7_1 + 1)), (wrap64 (x7_1 + 1)), pv, pv, H', ⟨by have := HK1.out; omega⟩, ⟨R_at HO109.out⟩, ⟨bel_now⟩⟩

def spec_l01In.f (a0 : Int) (a1 : Int) (a2 : Int) : Option (Bool) := if a1 ≤ a0 then (some (decide (a0 ≤ a2))) else (some false)
theorem spec_l01In.calls (a0 : Int) (a1 : Int) (a2 : Int) (r : Bool) (w : World) (h : spec_l01In.f a0 a1 a2 = some r) :
   Calls Tryd.prog 39 #[.int .i64 a0, .int .i64 a1, .int .i64 a2] w fun e w' => e = .returned (.bool r) ∧ Drawn0 w w' := by
  have H : (if a1 ≤ a0 then (some (decide (a0 ≤ a2))) else (some false)) = some r := h;clear h;by_cases c4 : a1 ≤ a0
  ·rw [if_pos c4] at H;have c4b0 : decide (a1 ≤ a0) = true := decide_eq_true c4;clear c4;obtain rfl := Option.some.inj H
   go_enter Tryd.func39, Tryd.ntmps39
   go_wp2
   go_ret
   exact ⟨by first | rfl | (simp; done) | (simp [*]; done), by repeat (first | exact Drawn0.refl _ | apply Drawn0.step)⟩
  rw [if_neg c4] at H;have c4b0 : decide (a1 ≤ a0) = false := decide_eq_false c4;clear c4;obtain rfl := Option.some.inj H
  go_enter Tryd.func39, Tryd.ntmps39
  go_wp2
  go_ret
  exact ⟨by first | rfl | (simp; done) | (simp [*]; done), by repeat (first | exact Drawn0.refl _ | apply Drawn0.step)⟩

def spec_l01Num.l0 : Nat → Int → ByteArray → Bool → Option (ByteArray)
  | 0, _, _, _ => none
  | k + 1, x0, x3, x4 => if x0 = 0 then (if x4 = true then (if 1 + x3.size ≤ 9223372036854775807 then (some ((⟨#[45]⟩ : ByteArray) ++ x3)) else (none)) else (some x3)) else (if (Int.tmod x0 10) < 0 then ((some (([(wrap64 (48 + (wrap64 (-(Int.tmod x0 10))))) % 256] : List Int) : List Int)).bind fun y110 => (if (strOfNums y110).size + x3.size ≤ 9223372036854775807 then (spec_l01Num.l0 k (wrap64 (Int.tdiv x0 10)) ((strOfNums y110) ++ x3) x4) else (none))) else ((some (([(wrap64 (48 + (Int.tmod x0 10))) % 256] : List Int) : List Int)).bind fun y113 => (if (strOfNums y113).size + x3.size ≤ 9223372036854775807 then (spec_l01Num.l0 k (wrap64 (Int.tdiv x0 10)) ((strOfNums y113) ++ x3) x4) else (none))))
def spec_l01Num.f (k : Nat) (a0 : Int) : Option (ByteArray) := if a0 = 0 then (some (⟨#[48]⟩ : ByteArray)) else (spec_l01Num.l0 k a0 (⟨#[]⟩ : ByteArray) (decide (a0 < 0)))
theorem spec_l01Num.calls (k : Nat) (a0 : Int) (r : ByteArray) (w : World) (h : spec_l01Num.f k a0 = some r) :
   Calls Tryd.prog 17 #[.int .i64 a0] w fun e w' => e = .returned (.string r) ∧ Below w.heap.size w w' := by
  have HB := am (Below.refl w.heap.size w);have H : (if a0 = 0 then (some (⟨#[48]⟩ : ByteArray)) else (spec_l01Num.l0 k a0 (⟨#[]⟩ : ByteArray) (decide (a0 < 0)))) = some r := h;clear h;by_cases c2 : a0 = 0
  ·rw [if_pos c2] at H;have c2b0 : (a0 == 0) = true := beq_iff_eq.mpr c2;have c2b1 : (a0 != 0) = false := bne_eq_false_iff_eq.mpr c2;clear c2;obtain rfl := Option.some.inj H
   go_enter Tryd.func17, Tryd.ntmps17
   go_wp2
   go_ret
   exact ⟨eqN, bel_now⟩
  rw [if_neg c2] at H;have c2b0 : (a0 == 0) = false := beq_eq_false_iff_ne.mpr c2;have c2b1 : (a0 != 0) = true := bne_iff_ne.mpr c2;have H' := am H;clear H
  go_enter Tryd.func17, Tryd.ntmps17
  go_wp2
  go_loopg [0, 3] k (fun kq v0 v3 w' => ∃ (x0_1 : Int) (x3_1 : ByteArray), v0 = .int .i64 x0_1 ∧ v3 = .string x3_1 ∧ Aside0 (spec_l01Num.l0 kq x0_1 x3_1 (decide (a0 < 0)) = some r) ∧ Aside0 (kq ≤ k) ∧ Aside0 (Below w.heap.size w w'))
  case atStart => exact ⟨(a0), ((⟨#[]⟩ : ByteArray)), pv, pv, H', ⟨Nat.le_refl _⟩, ⟨bel_now⟩⟩
  case round =>
   clear H';try clear c2
   try clear c2b0
   try clear c2b1
   obtain ⟨x0_1, x3_1, rfl, rfl, HA, HK1, HB⟩ := hrel
   cases gk with
   | zero => exact absurd HA.out (by simp [spec_l01Num.l0])
   | succ k1 =>
    have H := HA.out;clear HA;simp only [spec_l01Num.l0] at H;by_cases c3 : x0_1 = 0
    ·rw [if_pos c3] at H;have c3b0 : (x0_1 == 0) = true := beq_iff_eq.mpr c3;have c3b1 : (x0_1 != 0) = false := bne_eq_false_iff_eq.mpr c3;clear c3;by_cases c4 : (decide (a0 < 0)) = true;rotate_left
     ·rw [if_neg c4] at H;have c4b0 : (decide (a0 < 0)) = false := by simpa using c4
      (try simp only [c4b0]);clear c4;obtain rfl := Option.some.inj H
      go_wp2
      go_ret
      exact ⟨eqN, bel_now⟩
     rw [if_pos c4] at H;have c4b0 : (decide (a0 < 0)) = true := c4;(try simp only [c4b0]);clear c4;obtain ⟨c5, H⟩ := gd H;have c5b0 := eq_true c5;have c5b1 : decide (1 + x3_1.size ≤ 9223372036854775807) = true := decide_eq_true c5
     try have c5b2 : (9223372036854775807 < 1 + x3_1.size) = False := eq_false (Nat.not_lt.2 c5)
     obtain rfl := Option.some.inj H
     go_wp2
     go_ret
     exact ⟨eqN, bel_now⟩
    rw [if_neg c3] at H;have c3b0 : (x0_1 == 0) = false := beq_eq_false_iff_ne.mpr c3;have c3b1 : (x0_1 != 0) = true := bne_iff_ne.mpr c3;by_cases c6 : (Int.tmod x0_1 10) < 0;rotate_left
    ·rw [if_neg c6] at H;have c6b0 : decide ((Int.tmod x0_1 10) < 0) = false := decide_eq_false c6;clear c6;obtain ⟨y113, hy113⟩ : ∃ y_ : List Int, y_ = (([(wrap64 (48 + (Int.tmod x0_1 10))) % 256] : List Int)) := ⟨_, rfl⟩;replace H : (if (strOfNums y113).size + x3_1.size ≤ 9223372036854775807 then (spec_l01Num.l0 k1 (wrap64 (Int.tdiv x0_1 10)) ((strOfNums y113) ++ x3_1) (decide (a0 < 0))) else (none)) = some r := by first | (rw [hy113]; with_reducible exact H) | (have H2_ := (Option.bind_some _ _).symm.trans H; rw [hy113]; with_reducible exact H2_) | (have H2_ := (Option.bind_some _ _).symm.trans H; with_reducible exact H2_) | with_reducible exact H | (rw [hy113]; exact H) | exact H
     have Ny113 := am hy113;clear hy113;obtain ⟨c11, H⟩ := gd H;have c11b0 := eq_true c11;have c11b1 : decide ((strOfNums y113).size + x3_1.size ≤ 9223372036854775807) = true := decide_eq_true c11
     try have c11b2 : (9223372036854775807 < (strOfNums y113).size + x3_1.size) = False := eq_false (Nat.not_lt.2 c11)
     have H' := am H;clear H
     go_wp2_with (first | ((with_reducible refine gate_dst (N := 21) rfl ?_); refine Kd.R_lit (Kd.int .u8) _ 5 ?hg (N := 21) ?hd (xs := ([(wrap64 (48 + (Int.tmod x0_1 10))) % 256] : List Int)) (inner := [.int .u8 ((wrap64 (48 + (Int.tmod x0_1 10))) % 256)]) (ok := fun _ => True) (okp := fun _ => True) ?hr ?hp (fun _ hk => hk) trivial (Below.refl _ _) (Nat.le_refl _) (by simp) ?_; (case hd => rfl); (case hg => rfl); (case hr => first | (go_simp; done) | (go_simp; rfl)); (case hp => exact (Reps.one (show Kd.M (Kd.int .u8) _ _ _ ((wrap64 (48 + (Int.tmod x0_1 10))) % 256) [.int .u8 ((wrap64 (48 + (Int.tmod x0_1 10))) % 256)] from rfl) (Reps.none _ _))); intro v114 w12 ho13 hb hg_ hnew_; clear hg_ hnew_; (first | rw [← Ny113.out] at ho13 | (simp only [Int.reduceToNat] at ho13; rw [← Ny113.out] at ho13)); have n0_ := am (Kd.R_lower ho13 (below_size bel_now)); replace HB := bel_on w hb; have HO115 := n0_; clear n0_; clear hb ho13; have hcv14 := own_string (P := Tryd.prog) Tryd.underlying78 Tryd.underlying5 Tryd.underlying9 (Kd.own_of_R HO115.out)))
     go_roundg k1
     case measure => have := HK1.out; omega
     case rel => exact ⟨(wrap64 (Int.tdiv x0_1 10)), ((strOfNums y113) ++ x3_1), pv, pv, H', ⟨by have := HK1.out; omega⟩, ⟨bel_now⟩⟩
    rw [if_pos c6] at H;have c6b0 : decide ((Int.tmod x0_1 10) < 0) = true := decide_eq_true c6;clear c6;obtain ⟨y110, hy110⟩ : ∃ y_ : List Int, y_ = (([(wrap64 (48 + (wrap64 (-(Int.tmod x0_1 10))))) % 256] : List Int)) := ⟨_, rfl⟩;replace H : (if (strOfNums y110).size + x3_1.size ≤ 9223372036854775807 then (spec_l01Num.l0 k1 (wrap64 (Int.tdiv x0_1 10)) ((strOfNums y110) ++ x3_1) (decide (a0 < 0))) else (none)) = some r := by first | (rw [hy110]; with_reducible exact H) | (have H2_ := (Option.bind_some _ _).symm.trans H; rw [hy110]; with_reducible exact H2_) | (have H2_ := (Option.bind_some _ _).symm.trans H; with_reducible exact H2_) | with_reducible exact H | (rw [hy110]; exact H) | exact H
    have Ny110 := am hy110;clear hy110;obtain ⟨c7, H⟩ := gd H;have c7b0 := eq_true c7;have c7b1 : decide ((strOfNums y110).size + x3_1.size ≤ 9223372036854775807) = true := decide_eq_true c7
    try have c7b2 : (9223372036854775807 < (strOfNums y110).size + x3_1.size) = False := eq_false (Nat.not_lt.2 c7)
    have H' := am H;clear H
    go_wp2_with (first | ((with_reducible refine gate_dst (N := 21) rfl ?_); refine Kd.R_lit (Kd.int .u8) _ 5 ?hg (N := 21) ?hd (xs := ([(wrap64 (48 + (wrap64 (-(Int.tmod x0_1 10))))) % 256] : List Int)) (inner := [.int .u8 ((wrap64 (48 + (wrap64 (-(Int.tmod x0_1 10))))) % 256)]) (ok := fun _ => True) (okp := fun _ => True) ?hr ?hp (fun _ hk => hk) trivial (Below.refl _ _) (Nat.le_refl _) (by simp) ?_; (case hd => rfl); (case hg => rfl); (case hr => first | (go_simp; done) | (go_simp; rfl)); (case hp => exact (Reps.one (show Kd.M (Kd.int .u8) _ _ _ ((wrap64 (48 + (wrap64 (-(Int.tmod x0_1 10))))) % 256) [.int .u8 ((wrap64 (48 + (wrap64 (-(Int.tmod x0_1 10))))) % 256)] from rfl) (Reps.none _ _))); intro v111 w8 ho9 hb hg_ hnew_; clear hg_ hnew_; (first | rw [← Ny110.out] at ho9 | (simp only [Int.reduceToNat] at ho9; rw [← Ny110.out] at ho9)); have n0_ := am (Kd.R_lower ho9 (below_size bel_now)); replace HB := bel_on w hb; have HO112 := n0_; clear n0_; clear hb ho9; have hcv10 := own_string (P := Tryd.prog) Tryd.underlying78 Tryd.underlying5 Tryd.underlying9 (Kd.own_of_R HO112.out)))
    go_roundg k1
    case measure => have := HK1.out; omega
    case rel => exact ⟨(wrap64 (Int.tdiv x0_1 10)), ((strOfNums y110) ++ x3_1), pv, pv, H', ⟨by have := HK1.out; omega⟩, ⟨bel_now⟩⟩

mutual
def spec_l02Read.j0 : Nat → ByteArray → ByteArray → Bool → Option (Int × Bool)
  | 0, _, _, _ => none
  | k + 1, x0, x4, x15 => if x15 = true then (if 1 ≤ (x0.size : Int) then (spec_l02Read.j1 k x0 (x0.extract 1 x0.size)) else (none)) else (spec_l02Read.j1 k x0 x4)
def spec_l02Read.j1 : Nat → ByteArray → ByteArray → Option (Int × Bool)
  | 0, _, _ => none
  | k + 1, x0, x4 => (spec_l01In.f (x4.size : Int) 1 9).bind fun t116 => (if t116 = true then (spec_l02Read.l0 k x0 x4 0 0) else (some (0, false)))
def spec_l02Read.l0 : Nat → ByteArray → ByteArray → Int → Int → Option (Int × Bool)
  | 0, _, _, _, _ => none
  | k + 1, x0, x4, x5, x6 => if x6 < (x4.size : Int) then (if 0 ≤ x6 then (if (bt x4 x6) < 48 then (some (0, false)) else (if (bt x4 x6) > 57 then (some (0, false)) else (spec_l02Read.l0 k x0 x4 (wrap64 ((wrap64 ((wrap64 (10 * x5)) + (wrap64 (bt x4 x6)))) - 48)) (wrap64 (x6 + 1))))) else (none)) else (if (x4.size : Int) < (x0.size : Int) then ((spec_l01Num.f k (wrap64 (-x5))).bind fun t117 => (some (wrap64 (-x5), (t117.toList == x0.toList)))) else ((spec_l01Num.f k x5).bind fun t118 => (some (x5, (t118.toList == x0.toList)))))
end
def spec_l02Read.f (k : Nat) (a0 : ByteArray) : Option (Int × Bool) := if (a0.size : Int) > 0 then (if 0 < (a0.size : Int) then (spec_l02Read.j0 k a0 a0 ((bt a0 0) == 45)) else (none)) else (spec_l02Read.j0 k a0 a0 false)
theorem spec_l02Read.calls (k : Nat) (a0 : ByteArray) (r1 : Int) (r2 : Bool) (w : World) (h : spec_l02Read.f k a0 = some (r1, r2)) :
   Calls Tryd.prog 28 #[.string a0] w fun e w' => e = .returned (.tuple #[.int .i64 r1, .bool r2]) ∧ Below w.heap.size w w' := by
  have HB := am (Below.refl w.heap.size w);have H : (if (a0.size : Int) > 0 then (if 0 < (a0.size : Int) then (spec_l02Read.j0 k a0 a0 ((bt a0 0) == 45)) else (none)) else (spec_l02Read.j0 k a0 a0 false)) = some (r1, r2) := h;clear h;have HC2 := am H;clear H
  go_enter Tryd.func28, Tryd.ntmps28
  go_upto_region 2 with (fail)
  go_cut [15] (fun v15 wc => ∃ (kq : Nat) (x15_1 : Bool), v15 = .bool x15_1 ∧ Aside0 (spec_l02Read.j0 kq a0 a0 x15_1 = some (r1, r2)) ∧ Aside0 (kq ≤ k) ∧ Aside0 (Below w.heap.size w wc))
  case first =>
   have H := HC2.out;clear HC2;by_cases c3 : (a0.size : Int) > 0;rotate_left
   ·rw [if_neg c3] at H;have c3b0 : decide (0 < (a0.size : Int)) = false := decide_eq_false c3;have c3b1 : decide (0 < a0.size) = false := decide_eq_false (by omega);clear c3
    (first | rw [c3b0] | (simp only [i64_w, i32_w]; rw [c3b0]) | skip)
    have H' := am H;clear H
    go_wp2
    go_meet
    case rel => exact ⟨_, (false), pv, H', ⟨by first | omega | exact Nat.le_refl _⟩, ⟨bel_now⟩⟩
   rw [if_pos c3] at H;have c3b0 : decide (0 < (a0.size : Int)) = true := decide_eq_true c3;have c3b1 : decide (0 < a0.size) = true := decide_eq_true (by omega);clear c3
   (first | rw [c3b0] | (simp only [i64_w, i32_w]; rw [c3b0]) | skip)
   obtain ⟨c4, H⟩ := gd H;have c4b0 : decide (0 < (a0.size : Int)) = true := decide_eq_true c4;have c4b1 : decide (0 < a0.size) = true := decide_eq_true (by omega);clear c4;have H' := am H;clear H;have p5 : 0 ≤ (0 : Int) := (by omega);have q5 : 0 < a0.size := (by have : (0 : Int) < (a0.size : Int) := of_decide_eq_true (by first | (with_reducible assumption) | assumption); omega);have hx5 : ∀ h : 0 < a0.size, ((a0[0]'h).toNat : Int) = bt a0 0 := bt_at a0 0;clear p5;have qi5 : (0 < (a0.size : Int)) = True := eq_true (of_decide_eq_true (by first | (with_reducible assumption) | assumption));replace q5 := eq_true q5
   go_wp2
   go_meet
   case rel => exact ⟨_, (((bt a0 0) == 45)), pv, H', ⟨by first | omega | exact Nat.le_refl _⟩, ⟨bel_now⟩⟩
  case rest =>
   clear HC2;obtain ⟨kq, x15_1, rfl, HA, HJ1, HB⟩ := hcut
   cases kq with
   | zero => exact absurd HA.out (by simp [spec_l02Read.j0])
   | succ kj1 =>
    have H := HA.out;clear HA;simp only [spec_l02Read.j0] at H;have HC6 := am H;clear H
    go_upto_if 15 with (fail)
    go_cut [4] (fun v4 wc => ∃ (kq : Nat) (x4_5 : ByteArray), v4 = .string x4_5 ∧ Aside0 (spec_l02Read.j1 kq a0 x4_5 = some (r1, r2)) ∧ Aside0 (kq ≤ kj1) ∧ Aside0 (Below w.heap.size w wc))
    case first =>
     have H := HC6.out;clear HC6;by_cases c7 : x15_1 = true;rotate_left
     ·replace c7 := Bool.eq_false_iff.mpr c7;subst c7
      rw [if_neg (show ¬ (false = true) by decide)] at H
      have H' := am H;clear H
      go_wp2
      go_meet
      case rel => exact ⟨_, (a0), pv, H', ⟨by have := HJ1.out; first | omega | exact Nat.le_refl _⟩, ⟨bel_now⟩⟩
     subst c7;rw [if_pos rfl] at H;obtain ⟨c8, H⟩ := gd H;have c8b0 := eq_true c8;have c8b1 : decide (1 ≤ (a0.size : Int)) = true := decide_eq_true c8;clear c8;have H' := am H;clear H
     go_wp2
     go_meet
     case rel => exact ⟨_, (a0.extract 1 a0.size), pv, H', ⟨by have := HJ1.out; first | omega | exact Nat.le_refl _⟩, ⟨bel_now⟩⟩
    case rest =>
     clear HC6;obtain ⟨kq, x4_5, rfl, HA, HJ5, HB⟩ := hcut
     cases kq with
     | zero => exact absurd HA.out (by simp [spec_l02Read.j1])
     | succ kj5 =>
      have H := HA.out;clear HA;simp only [spec_l02Read.j1] at H;obtain ⟨t116, A9, H⟩ := bnd H;(try dsimp only at H);by_cases c10 : t116 = true;rotate_left
      ·replace c10 := Bool.eq_false_iff.mpr c10;subst c10
       rw [if_neg (show ¬ (false = true) by decide)] at H
       simp only [Option.some.injEq, Prod.mk.injEq] at H;obtain ⟨rfl, rfl⟩ := H
       go_wp2_with (first | ((with_reducible refine gate_callee (f := 39) rfl ?_); refine gM 20 Tryd.func39 #[.int .i64 (x4_5.size : Int), .int .i64 1, .int .i64 9] rfl ?_; (with_reducible refine (spec_l01In.calls (x4_5.size : Int) 1 9 false _ A9.out).mono ?_); rintro e w' ⟨rfl, ⟨nd, rfl⟩⟩; refine ⟨_, rfl, ?_⟩))
       go_ret2
       exact ⟨eqN, bel_now⟩
      subst c10;rw [if_pos rfl] at H;have H' := am H;clear H
      go_wp2_with (first | ((with_reducible refine gate_callee (f := 39) rfl ?_); refine gM 20 Tryd.func39 #[.int .i64 (x4_5.size : Int), .int .i64 1, .int .i64 9] rfl ?_; (with_reducible refine (spec_l01In.calls (x4_5.size : Int) 1 9 true _ A9.out).mono ?_); rintro e w' ⟨rfl, ⟨nd, rfl⟩⟩; refine ⟨_, rfl, ?_⟩))
      go_loopg [5, 6] kj5 (fun kq v5 v6 w' => ∃ (x5_3 : Int) (x6_3 : Int), v5 = .int .i64 x5_3 ∧ v6 = .int .i64 x6_3 ∧ Aside0 (spec_l02Read.l0 kq a0 x4_5 x5_3 x6_3 = some (r1, r2)) ∧ Aside0 (kq ≤ kj5) ∧ Aside0 (Below w.heap.size w w'))
      case atStart => exact ⟨(0), (0), pv, pv, H', ⟨Nat.le_refl _⟩, ⟨bel_now⟩⟩
      case round =>
       clear H';try clear c10
       obtain ⟨x5_3, x6_3, rfl, rfl, HA, HK3, HB⟩ := hrel
       cases gk with
       | zero => exact absurd HA.out (by simp [spec_l02Read.l0])
       | succ k3 =>
        have H := HA.out;clear HA;simp only [spec_l02Read.l0] at H;by_cases c11 : x6_3 < (x4_5.size : Int);rotate_left
        ·rw [if_neg c11] at H;have c11b0 : decide (x6_3 < (x4_5.size : Int)) = false := decide_eq_false c11;clear c11;by_cases c18 : (x4_5.size : Int) < (a0.size : Int)
         ·rw [if_pos c18] at H;have c18b0 : decide ((x4_5.size : Int) < (a0.size : Int)) = true := decide_eq_true c18;have c18b1 : decide (x4_5.size < a0.size) = true := decide_eq_true (Int.ofNat_lt.mp c18);clear c18;obtain ⟨t117, A19, H⟩ := bnd H;(try dsimp only at H);simp only [Option.some.injEq, Prod.mk.injEq] at H;obtain ⟨rfl, rfl⟩ := H
          go_wp2_with (first | ((with_reducible refine gate_callee (f := 17) rfl ?_); refine gM 55 Tryd.func17 #[.int .i64 (wrap64 (-x5_3))] rfl ?_; (with_reducible refine (spec_l01Num.calls k3 (wrap64 (-x5_3)) t117 _ A19.out).mono ?_); rintro e w20 ⟨rfl, hb⟩; refine ⟨_, rfl, ?_⟩; replace HB := bel_on w hb; (try clear hb); (try clear hb2); (try clear hb3); (try clear hk); (try clear hi)))
          go_ret2
          exact ⟨eqN, bel_now⟩
         rw [if_neg c18] at H;have c18b0 : decide ((x4_5.size : Int) < (a0.size : Int)) = false := decide_eq_false c18;have c18b1 : decide (x4_5.size < a0.size) = false := decide_eq_false (fun h => c18 (Int.ofNat_lt.mpr h));clear c18;obtain ⟨t118, A21, H⟩ := bnd H;(try dsimp only at H);simp only [Option.some.injEq, Prod.mk.injEq] at H;obtain ⟨rfl, rfl⟩ := H
         go_wp2_with (first | ((with_reducible refine gate_callee (f := 17) rfl ?_); refine gM 55 Tryd.func17 #[.int .i64 x5_3] rfl ?_; (with_reducible refine (spec_l01Num.calls k3 x5_3 t118 _ A21.out).mono ?_); rintro e w22 ⟨rfl, hb⟩; refine ⟨_, rfl, ?_⟩; replace HB := bel_on w hb; (try clear hb); (try clear hb2); (try clear hb3); (try clear hk); (try clear hi)))
         go_ret2
         exact ⟨eqN, bel_now⟩
        rw [if_pos c11] at H;have c11b0 : decide (x6_3 < (x4_5.size : Int)) = true := decide_eq_true c11;clear c11;obtain ⟨c12, H⟩ := gd H;have c12b0 : decide (0 ≤ x6_3) = true := decide_eq_true c12;clear c12;by_cases c14 : (bt x4_5 x6_3) < 48
        ·rw [if_pos c14] at H;have c14b0 : decide ((bt x4_5 x6_3) < 48) = true := decide_eq_true c14;clear c14;simp only [Option.some.injEq, Prod.mk.injEq] at H;obtain ⟨rfl, rfl⟩ := H;have p13 : 0 ≤ (x6_3 : Int) := of_decide_eq_true (by first | (with_reducible assumption) | assumption);have q13 : x6_3 < (x4_5.size : Int) := of_decide_eq_true (by first | (with_reducible assumption) | assumption);have hx13 := bt_at x4_5 x6_3;replace p13 := eq_true p13;replace q13 := eq_true q13
         go_wp2
         go_ret2
         exact ⟨eqN, bel_now⟩
        rw [if_neg c14] at H;have c14b0 : decide ((bt x4_5 x6_3) < 48) = false := decide_eq_false c14;clear c14;by_cases c16 : (bt x4_5 x6_3) > 57
        ·rw [if_pos c16] at H;have c16b0 : decide (57 < (bt x4_5 x6_3)) = true := decide_eq_true c16;clear c16;simp only [Option.some.injEq, Prod.mk.injEq] at H;obtain ⟨rfl, rfl⟩ := H;have p13 : 0 ≤ (x6_3 : Int) := of_decide_eq_true (by first | (with_reducible assumption) | assumption);have q13 : x6_3 < (x4_5.size : Int) := of_decide_eq_true (by first | (with_reducible assumption) | assumption);have hx13 := bt_at x4_5 x6_3;replace p13 := eq_true p13;replace q13 := eq_true q13;have p15 : 0 ≤ (x6_3 : Int) := of_decide_eq_true (by first | (with_reducible assumption) | assumption);have q15 : x6_3 < (x4_5.size : Int) := of_decide_eq_true (by first | (with_reducible assumption) | assumption);have hx15 := bt_at x4_5 x6_3;replace p15 := eq_true p15;replace q15 := eq_true q15
         go_wp2
         go_ret2
         exact ⟨eqN, bel_now⟩
        rw [if_neg c16] at H;have c16b0 : decide (57 < (bt x4_5 x6_3)) = false := decide_eq_false c16;clear c16;have H' := am H;clear H;have p13 : 0 ≤ (x6_3 : Int) := of_decide_eq_true (by first | (with_reducible assumption) | assumption);have q13 : x6_3 < (x4_5.size : Int) := of_decide_eq_true (by first | (with_reducible assumption) | assumption);have hx13 := bt_at x4_5 x6_3;replace p13 := eq_true p13;replace q13 := eq_true q13;have p15 : 0 ≤ (x6_3 : Int) := of_decide_eq_true (by first | (with_reducible assumption) | assumption);have q15 : x6_3 < (x4_5.size : Int) := of_decide_eq_true (by first | (with_reducible assumption) | assumption);have hx15 := bt_at x4_5 x6_3;replace p15 := eq_true p15;replace q15 := eq_true q15;have p17 : 0 ≤ (x6_3 : Int) := of_decide_eq_true (by first | (with_reducible assumption) | assumption);have q17 : x6_3 < (x4_5.size : Int) := of_decide_eq_true (by first | (with_reducible assumption) | assumption);have hx17 := bt_at x4_5 x6_3;replace p17 := eq_true p17;replace q17 := eq_true q17
        go_wp2
        go_roundg k3
        case measure => have := HJ1.out; have := HJ5.out; have := HK3.out; omega
        case rel => exact ⟨(wrap64 ((wrap64 ((wrap64 (10 * x5_3)) + (wrap64 (bt x4_5 x6_3)))) - 48)), (wrap64 (x6_3 + 1)), pv, pv, H', ⟨by have := HJ1.out; have := HJ5.out; have := HK3.out; omega⟩, ⟨bel_now⟩⟩

def spec_ShapeOk.f (a0_0 : Int) (a0_1 : Int) (a0_2 : Int) : Option (Bool) := (spec_l01In.f a0_0 1 8).bind fun t120 => (if t120 = true then ((spec_l01In.f a0_1 1 8).bind fun t121 => (if t121 = true then ((spec_l01In.f a0_2 1 8).bind fun t122 => (some t122)) else (some false))) else (some false))
theorem spec_ShapeOk.calls (a0_0 : Int) (a0_1 : Int) (a0_2 : Int) (r : Bool) (w : World) (h : spec_ShapeOk.f a0_0 a0_1 a0_2 = some r) :
   Calls Tryd.prog 50 #[.agg #[.int .i64 a0_0, .int .i64 a0_1, .int .i64 a0_2]] w fun e w' => e = .returned (.bool r) ∧ Below w.heap.size w w' := by
  have hu29 := Tryd.underlying29;have HB := am (Below.refl w.heap.size w);have H : ((spec_l01In.f a0_0 1 8).bind fun t120 => (if t120 = true then ((spec_l01In.f a0_1 1 8).bind fun t121 => (if t121 = true then ((spec_l01In.f a0_2 1 8).bind fun t122 => (some t122)) else (some false))) else (some false))) = some r := h;clear h;obtain ⟨t120, A2, H⟩ := bnd H;(try dsimp only at H);by_cases c3 : t120 = true
  case' neg => skip
  replace c3 := Bool.eq_false_iff.mpr c3;subst c3
  rw [if_neg (show ¬ (false = true) by decide)] at H
  obtain rfl := Option.some.inj H;rotate_left;subst c3;rw [if_pos rfl] at H;obtain ⟨t121, A4, H⟩ := bnd H;(try dsimp only at H);by_cases c5 : t121 = true
  case' neg => skip
  replace c5 := Bool.eq_false_iff.mpr c5;subst c5
  rw [if_neg (show ¬ (false = true) by decide)] at H
  obtain rfl := Option.some.inj H;rotate_left;subst c5;rw [if_pos rfl] at H;obtain ⟨t122, A6, H⟩ := bnd H;(try dsimp only at H);obtain rfl := Option.some.inj H;rotate_left
  all_goals (go_enter Tryd.func50, Tryd.ntmps50; go_wp2_with (first | ((with_reducible refine gate_dst (N := 1) rfl ?_); refine boxM 1 #[.int .i64 a0_0, .int .i64 a0_1, .int .i64 a0_2] 29 ?_; intro gb119 hg w_ BK119 hb; obtain ⟨HB, GW119, GE119⟩ := box_at w hb hg; clear hb hg; have hcz_ := cells3 BK119.out) | ((with_reducible refine gate_callee (f := 39) rfl ?_); refine gM 5 Tryd.func39 #[.int .i64 a0_0, .int .i64 1, .int .i64 8] rfl ?_; (with_reducible refine (spec_l01In.calls a0_0 1 8 false _ A2.out).mono ?_); rintro e w' ⟨rfl, ⟨nd, rfl⟩⟩; refine ⟨_, rfl, ?_⟩) | ((with_reducible refine gate_callee (f := 39) rfl ?_); refine gM 5 Tryd.func39 #[.int .i64 a0_0, .int .i64 1, .int .i64 8] rfl ?_; (with_reducible refine (spec_l01In.calls a0_0 1 8 true _ A2.out).mono ?_); rintro e w' ⟨rfl, ⟨nd, rfl⟩⟩; refine ⟨_, rfl, ?_⟩) | (go_at_call 39; (with_reducible refine (spec_l01In.calls a0_1 1 8 false _ A4.out).mono ?_); rintro e w' ⟨rfl, ⟨nd, rfl⟩⟩) | (go_at_call 39; (with_reducible refine (spec_l01In.calls a0_1 1 8 true _ A4.out).mono ?_); rintro e w' ⟨rfl, ⟨nd, rfl⟩⟩) | (go_at_call 39; (with_reducible refine (spec_l01In.calls a0_2 1 8 t122 _ A6.out).mono ?_); rintro e w' ⟨rfl, ⟨nd, rfl⟩⟩)))
  ·go_ret
   exact ⟨eqN, bel_now⟩
  ·go_ret
   exact ⟨eqN, bel_now⟩
  ·go_ret
   exact ⟨eqN, bel_now⟩

def spec_SizeOf.f (a0_0 : Int) (a0_1 : Int) (a0_2 : Int) : Option (Int) := (spec_ShapeOk.f a0_0 a0_1 a0_2).bind fun t124 => (if t124 = true then (some (wrap64 ((wrap64 (a0_0 * a0_1)) * a0_2))) else (some 0))
theorem spec_SizeOf.calls (a0_0 : Int) (a0_1 : Int) (a0_2 : Int) (r : Int) (w : World) (h : spec_SizeOf.f a0_0 a0_1 a0_2 = some r) :
   Calls Tryd.prog 51 #[.agg #[.int .i64 a0_0, .int .i64 a0_1, .int .i64 a0_2]] w fun e w' => e = .returned (.int .i64 r) ∧ Below w.heap.size w w' := by
  have hu29 := Tryd.underlying29;have HB := am (Below.refl w.heap.size w);have H : ((spec_ShapeOk.f a0_0 a0_1 a0_2).bind fun t124 => (if t124 = true then (some (wrap64 ((wrap64 (a0_0 * a0_1)) * a0_2))) else (some 0))) = some r := h;clear h;obtain ⟨t124, A2, H⟩ := bnd H;(try dsimp only at H);by_cases c3 : t124 = true;subst c3;rw [if_pos rfl] at H;obtain rfl := Option.some.inj H;rotate_left;replace c3 := Bool.eq_false_iff.mpr c3;subst c3
  rw [if_neg (show ¬ (false = true) by decide)] at H
  obtain rfl := Option.some.inj H;rotate_left
  all_goals (go_enter Tryd.func51, Tryd.ntmps51; go_wp2_with (first | ((with_reducible refine gate_dst (N := 1) rfl ?_); refine boxM 1 #[.int .i64 a0_0, .int .i64 a0_1, .int .i64 a0_2] 29 ?_; intro gb123 hg w_ BK123 hb; obtain ⟨HB, GW123, GE123⟩ := box_at w hb hg; clear hb hg; have hcz_ := cells3 BK123.out) | ((with_reducible refine gate_callee (f := 50) rfl ?_); refine gM 4 Tryd.func50 #[.agg #[.int .i64 a0_0, .int .i64 a0_1, .int .i64 a0_2]] rfl ?_; (with_reducible refine (spec_ShapeOk.calls a0_0 a0_1 a0_2 true _ A2.out).mono ?_); rintro e w_ ⟨rfl, hb⟩; refine ⟨_, rfl, ?_⟩; replace HB := bel_on w hb; replace BK123 := blk_on gb123 hb; (try clear hb); (try clear hb2); (try clear hb3); (try clear hk); (try clear hi); have hcz_ := cells3 BK123.out) | ((with_reducible refine gate_callee (f := 50) rfl ?_); refine gM 4 Tryd.func50 #[.agg #[.int .i64 a0_0, .int .i64 a0_1, .int .i64 a0_2]] rfl ?_; (with_reducible refine (spec_ShapeOk.calls a0_0 a0_1 a0_2 false _ A2.out).mono ?_); rintro e w_ ⟨rfl, hb⟩; refine ⟨_, rfl, ?_⟩; replace HB := bel_on w hb; replace BK123 := blk_on gb123 hb; (try clear hb); (try clear hb2); (try clear hb3); (try clear hk); (try clear hi))))
  ·go_ret
   exact ⟨eqN, bel_now⟩
  ·go_ret
   exact ⟨eqN, bel_now⟩

def spec_l02Int8.f (a0 : Int) : Option (Bool) := (spec_l01In.f a0 (-128) 127).bind fun t125 => (some t125)
theorem spec_l02Int8.calls (a0 : Int) (r : Bool) (w : World) (h : spec_l02Int8.f a0 = some r) :
   Calls Tryd.prog 52 #[.int .i64 a0] w fun e w' => e = .returned (.bool r) ∧ Drawn0 w w' := by
  have H : ((spec_l01In.f a0 (-128) 127).bind fun t125 => (some t125)) = some r := h;clear h;obtain ⟨t125, A2, H⟩ := bnd H;(try dsimp only at H);obtain rfl := Option.some.inj H
  go_enter Tryd.func52, Tryd.ntmps52
  go_wp2_with (first | ((with_reducible refine gate_callee (f := 39) rfl ?_); refine gM 4 Tryd.func39 #[.int .i64 a0, .int .i64 (-128), .int .i64 127] rfl ?_; (with_reducible refine (spec_l01In.calls a0 (-128) 127 t125 _ A2.out).mono ?_); rintro e w' ⟨rfl, ⟨nd, rfl⟩⟩; refine ⟨_, rfl, ?_⟩))
  go_ret
  exact ⟨by first | rfl | (simp; done) | (simp [*]; done), by repeat (first | exact Drawn0.refl _ | apply Drawn0.step)⟩

end Go.Proofs.YtclpojeofclbjaaDoor.PFnExactParseTensor
