-- Printed by the session's own program (wip/myprint.py) for this claim out of the translation. Not trusted: Lean checks it.
import Derived.Test.YtclpojeofclbjaaDoorPFnExactModelTextx0
import Derived.Test.YtclpojeofclbjaaDoorPFnExactModelTextx1
import Derived.Test.YtclpojeofclbjaaDoorPFnExactModelTextx5
namespace Go.Proofs.YtclpojeofclbjaaDoor.PFnExactModelText
open Go.RowKit Go.Proofs.YtclpojeofclbjaaDoorW.PrintWords Go.Proofs.YtclpojeofclbjaaDoorW.PrintLast Go.Proofs.YtclpojeofclbjaaDoorW.PrintMore
attribute [local go_sem] max2_int min2_int max_two min_two max_three min_three max_four min_four   -- for this text's walks alone
set_option linter.unusedVariables false
set_option linter.unusedSimpArgs false

/-! ### spec_ModelOk: function 16 -/
def spec_ModelOk.f (k : Nat) (a0_0 : Int) (a0_1 : Int) (a0_2 : Int) (l0_3 : List (S49)) : Option (Bool) := (spec_l04Shapes.f k a0_0 a0_1 a0_2 l0_3).bind fun bt201 => (some bt201.2)
set_option maxHeartbeats 8000000 in
set_option maxRecDepth 100000 in
theorem spec_ModelOk.calls (k : Nat) (a0_0 : Int) (a0_1 : Int) (a0_2 : Int) (A0_3 : Option Addr) (c0_3 : Nat) (l0_3 : List (S49)) (r : Bool) (w : World) (hr0_3 : Kd.C k49 w A0_3 l0_3.length l0_3) (hc0_3 : l0_3.length ≤ c0_3) (h : spec_ModelOk.f k a0_0 a0_1 a0_2 l0_3 = some r) :
   Calls Tryd.prog 16 #[.agg #[.int .i64 a0_0, .int .i64 a0_1, .int .i64 a0_2, .slice A0_3 l0_3.length c0_3]] w fun e w' => e = .returned (.bool r) ∧ Below w.heap.size w w' := by
  have hu32 := Tryd.underlying32
  have HR0_3 := Aside0.mk hr0_3
  have HC0_3 := Aside0.mk hc0_3
  clear hr0_3 hc0_3
  have HB := Aside0.mk (Below.refl w.heap.size w)
  have H : ((spec_l04Shapes.f k a0_0 a0_1 a0_2 l0_3).bind fun bt201 => (some bt201.2)) = some r := h
  clear h
  replace H := Option.bind_eq_some_iff.mp H
  obtain ⟨⟨t201, t204⟩, A20, H⟩ := H
  (try dsimp only at H)
  have A2 := Aside0.mk A20
  clear A20
  obtain rfl := Option.some.inj H
  go_enter Tryd.func16, Tryd.ntmps16
  go_wp2_with (first | ((with_reducible refine gate_dst (N := 1) rfl ?_); refine boxM 1 #[.int .i64 a0_0, .int .i64 a0_1, .int .i64 a0_2, .slice A0_3 l0_3.length c0_3] 32 ?_; intro gb200 hg w3 BK200 hb; replace HB := box_at w hb hg; obtain ⟨HB, GW200, GE200⟩ := HB; clear hb hg; have hcz4 := cells4 BK200.out) | ((with_reducible refine gate_callee (f := 38) rfl ?_); refine goesM (some 7) rfl rfl Tryd.func38 (by kernel_rfl) rfl #[.agg #[.int .i64 a0_0, .int .i64 a0_1, .int .i64 a0_2, .slice A0_3 l0_3.length c0_3]] rfl ?_; (with_reducible refine (spec_l04Shapes.calls k a0_0 a0_1 a0_2 _ _ l0_3 t201 t204 _ ?side1 ?side2 A2.out).mono ?_); (case side1 => exact C_now HR0_3.out); (case side2 => exact HC0_3.out); rintro e w5 ⟨v202, rfl, ho0, hb⟩; refine ⟨_, rfl, ?_⟩; have n0_ := Aside0.mk (Kd.R_lower ho0 (below_size bel_now)); replace HB := bel_on w hb; replace BK200 := blk_on gb200 hb; have HO203 := n0_; clear n0_; (try clear hb); (try clear ho0)))
  go_ret
  exact ⟨eqN, bel_now⟩

/-! ### spec_l01Num: function 17 -/
def spec_l01Num.l0 : Nat → Int → ByteArray → Bool → Option (ByteArray)
  | 0, _, _, _ => none
  | k + 1, x0, x3, x4 => if x0 = 0 then (if x4 = true then (if 1 + x3.size ≤ 9223372036854775807 then (some ((⟨#[45]⟩ : ByteArray) ++ x3)) else (none)) else (some x3)) else (if (Int.tmod x0 10) < 0 then ((some (([(wrap64 (48 + (wrap64 (-(Int.tmod x0 10))))) % 256] : List Int) : List Int)).bind fun y205 => (if (strOfNums y205).size + x3.size ≤ 9223372036854775807 then (spec_l01Num.l0 k (wrap64 (Int.tdiv x0 10)) ((strOfNums y205) ++ x3) x4) else (none))) else ((some (([(wrap64 (48 + (Int.tmod x0 10))) % 256] : List Int) : List Int)).bind fun y208 => (if (strOfNums y208).size + x3.size ≤ 9223372036854775807 then (spec_l01Num.l0 k (wrap64 (Int.tdiv x0 10)) ((strOfNums y208) ++ x3) x4) else (none))))
def spec_l01Num.f (k : Nat) (a0 : Int) : Option (ByteArray) := if a0 = 0 then (some (⟨#[48]⟩ : ByteArray)) else (spec_l01Num.l0 k a0 (⟨#[]⟩ : ByteArray) (decide (a0 < 0)))
set_option maxHeartbeats 8000000 in
set_option maxRecDepth 100000 in
theorem spec_l01Num.calls (k : Nat) (a0 : Int) (r : ByteArray) (w : World) (h : spec_l01Num.f k a0 = some r) :
   Calls Tryd.prog 17 #[.int .i64 a0] w fun e w' => e = .returned (.string r) ∧ Below w.heap.size w w' := by
  have HB := Aside0.mk (Below.refl w.heap.size w)
  have H : (if a0 = 0 then (some (⟨#[48]⟩ : ByteArray)) else (spec_l01Num.l0 k a0 (⟨#[]⟩ : ByteArray) (decide (a0 < 0)))) = some r := h
  clear h
  by_cases c2 : a0 = 0
  ·rw [if_pos c2] at H
   have c2b0 : (a0 == 0) = true := beq_iff_eq.mpr c2
   have c2b1 : (a0 != 0) = false := bne_eq_false_iff_eq.mpr c2
   clear c2
   obtain rfl := Option.some.inj H
   go_enter Tryd.func17, Tryd.ntmps17
   go_wp2
   go_ret
   exact ⟨eqN, bel_now⟩
  rw [if_neg c2] at H
  have c2b0 : (a0 == 0) = false := beq_eq_false_iff_ne.mpr c2
  have c2b1 : (a0 != 0) = true := bne_iff_ne.mpr c2
  have H' := Aside0.mk H
  clear H
  go_enter Tryd.func17, Tryd.ntmps17
  go_wp2
  go_loopg [0, 3] k (fun kq v0 v3 w' => ∃ (x0_1 : Int) (x3_1 : ByteArray), v0 = .int .i64 x0_1 ∧ v3 = .string x3_1 ∧ Aside0 (spec_l01Num.l0 kq x0_1 x3_1 (decide (a0 < 0)) = some r) ∧ Aside0 (kq ≤ k) ∧ Aside0 (Below w.heap.size w w'))
  case atStart => exact ⟨(a0), ((⟨#[]⟩ : ByteArray)), (by first | rfl | (simp; done) | (simp [*]; done)), (by first | rfl | (simp; done) | (simp [*]; done)), H', ⟨Nat.le_refl _⟩, ⟨bel_now⟩⟩
  case round =>
   clear H'
   try clear c1
   try clear c2
   try clear c2b0
   try clear c2b1
   try clear p2
   obtain ⟨x0_1, x3_1, rfl, rfl, HA, HK1, HB⟩ := hrel
   cases gk with
   | zero => exact absurd HA.out (by simp [spec_l01Num.l0])
   | succ k1 =>
    have H := HA.out
    clear HA
    simp only [spec_l01Num.l0] at H
    by_cases c3 : x0_1 = 0
    ·rw [if_pos c3] at H
     have c3b0 : (x0_1 == 0) = true := beq_iff_eq.mpr c3
     have c3b1 : (x0_1 != 0) = false := bne_eq_false_iff_eq.mpr c3
     clear c3
     by_cases c4 : (decide (a0 < 0)) = true
     rotate_left
     ·rw [if_neg c4] at H
      have c4b0 : (decide (a0 < 0)) = false := by simpa using c4
      (try simp only [c4b0])
      clear c4
      obtain rfl := Option.some.inj H
      go_wp2
      go_ret
      exact ⟨eqN, bel_now⟩
     rw [if_pos c4] at H
     have c4b0 : (decide (a0 < 0)) = true := c4
     (try simp only [c4b0])
     clear c4
     by_cases c5 : 1 + x3_1.size ≤ 9223372036854775807
     rotate_left
     ·rw [if_neg c5] at H
      exact absurd H (by simp)
     rw [if_pos c5] at H
     have c5b0 := eq_true c5
     have c5b1 : decide (1 + x3_1.size ≤ 9223372036854775807) = true := decide_eq_true c5
     try have c5b2 : (9223372036854775807 < 1 + x3_1.size) = False := eq_false (Nat.not_lt.2 c5)
     obtain rfl := Option.some.inj H
     go_wp2
     go_ret
     exact ⟨eqN, bel_now⟩
    rw [if_neg c3] at H
    have c3b0 : (x0_1 == 0) = false := beq_eq_false_iff_ne.mpr c3
    have c3b1 : (x0_1 != 0) = true := bne_iff_ne.mpr c3
    by_cases c6 : (Int.tmod x0_1 10) < 0
    rotate_left
    ·rw [if_neg c6] at H
     have c6b0 : decide ((Int.tmod x0_1 10) < 0) = false := decide_eq_false c6
     clear c6
     obtain ⟨y208, hy208⟩ : ∃ y_ : List Int, y_ = (([(wrap64 (48 + (Int.tmod x0_1 10))) % 256] : List Int)) := ⟨_, rfl⟩
     replace H : (if (strOfNums y208).size + x3_1.size ≤ 9223372036854775807 then (spec_l01Num.l0 k1 (wrap64 (Int.tdiv x0_1 10)) ((strOfNums y208) ++ x3_1) (decide (a0 < 0))) else (none)) = some r := by first | (rw [hy208]; with_reducible exact H) | (have H2_ := (Option.bind_some _ _).symm.trans H; rw [hy208]; with_reducible exact H2_) | (have H2_ := (Option.bind_some _ _).symm.trans H; with_reducible exact H2_) | with_reducible exact H | (rw [hy208]; exact H) | exact H
     have Ny208 := Aside0.mk hy208
     clear hy208
     by_cases c11 : (strOfNums y208).size + x3_1.size ≤ 9223372036854775807
     rotate_left
     ·rw [if_neg c11] at H
      exact absurd H (by simp)
     rw [if_pos c11] at H
     have c11b0 := eq_true c11
     have c11b1 : decide ((strOfNums y208).size + x3_1.size ≤ 9223372036854775807) = true := decide_eq_true c11
     try have c11b2 : (9223372036854775807 < (strOfNums y208).size + x3_1.size) = False := eq_false (Nat.not_lt.2 c11)
     have H' := Aside0.mk H
     clear H
     go_wp2_with (first | ((with_reducible refine gate_dst (N := 21) rfl ?_); refine Kd.R_lit (Kd.int .u8) _ 5 ?hg (N := 21) ?hd (xs := ([(wrap64 (48 + (Int.tmod x0_1 10))) % 256] : List Int)) (inner := [.int .u8 ((wrap64 (48 + (Int.tmod x0_1 10))) % 256)]) (ok := fun _ => True) (okp := fun _ => True) ?hr ?hp (fun _ hk => hk) trivial (Below.refl _ _) (Nat.le_refl _) (by simp) ?_; (case hd => rfl); (case hg => rfl); (case hr => first | (go_simp; done) | (go_simp; rfl)); (case hp => exact (Reps.one (show Kd.M (Kd.int .u8) _ _ _ ((wrap64 (48 + (Int.tmod x0_1 10))) % 256) [.int .u8 ((wrap64 (48 + (Int.tmod x0_1 10))) % 256)] from rfl) (Reps.none _ _))); intro v209 w12 ho13 hb hg_ hnew_; clear hg_ hnew_; (first | rw [← Ny208.out] at ho13 | (simp only [Int.reduceToNat] at ho13; rw [← Ny208.out] at ho13)); have n0_ := Aside0.mk (Kd.R_lower ho13 (below_size bel_now)); replace HB := bel_on w hb; have HO210 := n0_; clear n0_; clear hb ho13; have hcv14 := own_string (P := Tryd.prog) Tryd.underlying78 Tryd.underlying5 Tryd.underlying9 (Kd.own_of_R HO210.out)))
     go_roundg k1
     case measure => have := HK1.out; omega
     case rel => exact ⟨(wrap64 (Int.tdiv x0_1 10)), ((strOfNums y208) ++ x3_1), (by first | rfl | (simp; done) | (simp [*]; done)), (by first | rfl | (simp; done) | (simp [*]; done)), H', ⟨by have := HK1.out; omega⟩, ⟨bel_now⟩⟩
    rw [if_pos c6] at H
    have c6b0 : decide ((Int.tmod x0_1 10) < 0) = true := decide_eq_true c6
    clear c6
    obtain ⟨y205, hy205⟩ : ∃ y_ : List Int, y_ = (([(wrap64 (48 + (wrap64 (-(Int.tmod x0_1 10))))) % 256] : List Int)) := ⟨_, rfl⟩
    replace H : (if (strOfNums y205).size + x3_1.size ≤ 9223372036854775807 then (spec_l01Num.l0 k1 (wrap64 (Int.tdiv x0_1 10)) ((strOfNums y205) ++ x3_1) (decide (a0 < 0))) else (none)) = some r := by first | (rw [hy205]; with_reducible exact H) | (have H2_ := (Option.bind_some _ _).symm.trans H; rw [hy205]; with_reducible exact H2_) | (have H2_ := (Option.bind_some _ _).symm.trans H; with_reducible exact H2_) | with_reducible exact H | (rw [hy205]; exact H) | exact H
    have Ny205 := Aside0.mk hy205
    clear hy205
    by_cases c7 : (strOfNums y205).size + x3_1.size ≤ 9223372036854775807
    rotate_left
    ·rw [if_neg c7] at H
     exact absurd H (by simp)
    rw [if_pos c7] at H
    have c7b0 := eq_true c7
    have c7b1 : decide ((strOfNums y205).size + x3_1.size ≤ 9223372036854775807) = true := decide_eq_true c7
    try have c7b2 : (9223372036854775807 < (strOfNums y205).size + x3_1.size) = False := eq_false (Nat.not_lt.2 c7)
    have H' := Aside0.mk H
    clear H
    go_wp2_with (first | ((with_reducible refine gate_dst (N := 21) rfl ?_); refine Kd.R_lit (Kd.int .u8) _ 5 ?hg (N := 21) ?hd (xs := ([(wrap64 (48 + (wrap64 (-(Int.tmod x0_1 10))))) % 256] : List Int)) (inner := [.int .u8 ((wrap64 (48 + (wrap64 (-(Int.tmod x0_1 10))))) % 256)]) (ok := fun _ => True) (okp := fun _ => True) ?hr ?hp (fun _ hk => hk) trivial (Below.refl _ _) (Nat.le_refl _) (by simp) ?_; (case hd => rfl); (case hg => rfl); (case hr => first | (go_simp; done) | (go_simp; rfl)); (case hp => exact (Reps.one (show Kd.M (Kd.int .u8) _ _ _ ((wrap64 (48 + (wrap64 (-(Int.tmod x0_1 10))))) % 256) [.int .u8 ((wrap64 (48 + (wrap64 (-(Int.tmod x0_1 10))))) % 256)] from rfl) (Reps.none _ _))); intro v206 w8 ho9 hb hg_ hnew_; clear hg_ hnew_; (first | rw [← Ny205.out] at ho9 | (simp only [Int.reduceToNat] at ho9; rw [← Ny205.out] at ho9)); have n0_ := Aside0.mk (Kd.R_lower ho9 (below_size bel_now)); replace HB := bel_on w hb; have HO207 := n0_; clear n0_; clear hb ho9; have hcv10 := own_string (P := Tryd.prog) Tryd.underlying78 Tryd.underlying5 Tryd.underlying9 (Kd.own_of_R HO207.out)))
    go_roundg k1
    case measure => have := HK1.out; omega
    case rel => exact ⟨(wrap64 (Int.tdiv x0_1 10)), ((strOfNums y205) ++ x3_1), (by first | rfl | (simp; done) | (simp [*]; done)), (by first | rfl | (simp; done) | (simp [*]; done)), H', ⟨by have := HK1.out; omega⟩, ⟨bel_now⟩⟩

/-! ### spec_LayerText: function 18 -/
def spec_LayerText.l0 : Nat → List Int → ByteArray → Int → Option (ByteArray)
  | 0, _, _, _ => none
  | k + 1, x4, x5, x6 => if x6 < (x4.length : Int) then (if x5.size + 1 ≤ 9223372036854775807 then (if 0 ≤ x6 then ((spec_l01Num.f k (rd x4 x6)).bind fun t221 => (if (x5 ++ (⟨#[32]⟩ : ByteArray)).size + t221.size ≤ 9223372036854775807 then (spec_LayerText.l0 k x4 ((x5 ++ (⟨#[32]⟩ : ByteArray)) ++ t221) (wrap64 (x6 + 1))) else (none))) else (none)) else (none)) else (some x5)
def spec_LayerText.f (k : Nat) (a0_0 : Int) (a0_1 : Int) (a0_2 : Int) (a0_3 : Int) (a0_4 : Int) (a0_5 : Int) (a0_6 : Int) (l0_7 : List Int) (l0_8 : List Int) : Option (ByteArray) := (some (([(⟨#[100, 101, 110, 115, 101]⟩ : ByteArray), (⟨#[99, 111, 110, 118]⟩ : ByteArray), (⟨#[109, 97, 120]⟩ : ByteArray), (⟨#[97, 118, 103]⟩ : ByteArray), (⟨#[114, 101, 108, 117]⟩ : ByteArray), (⟨#[102, 108, 97, 116]⟩ : ByteArray)] : List ByteArray) : List ByteArray)).bind fun y212 => ((spec_l01In.f a0_0 0 5).bind fun t215 => (if t215 = true then (if 0 ≤ a0_0 then (if a0_0 < (y212.length : Int) then (spec_LayerText.l0 k (([a0_1, a0_2, a0_3, a0_4, a0_5, a0_6, (l0_7.length : Int), (l0_8.length : Int)] : List Int)) (rdOf ByteArray.empty y212 a0_0) 0) else (none)) else (none)) else (some (⟨#[]⟩ : ByteArray))))
set_option maxHeartbeats 8000000 in
set_option maxRecDepth 100000 in
theorem spec_LayerText.calls (k : Nat) (a0_0 : Int) (a0_1 : Int) (a0_2 : Int) (a0_3 : Int) (a0_4 : Int) (a0_5 : Int) (a0_6 : Int) (A0_7 : Option Addr) (c0_7 : Nat) (l0_7 : List Int) (A0_8 : Option Addr) (c0_8 : Nat) (l0_8 : List Int) (r : ByteArray) (w : World) (hr0_7 : Kd.C (Kd.int .i64) w A0_7 l0_7.length l0_7) (hc0_7 : l0_7.length ≤ c0_7) (hr0_8 : Kd.C (Kd.int .i64) w A0_8 l0_8.length l0_8) (hc0_8 : l0_8.length ≤ c0_8) (h : spec_LayerText.f k a0_0 a0_1 a0_2 a0_3 a0_4 a0_5 a0_6 l0_7 l0_8 = some r) :
   Calls Tryd.prog 18 #[.agg #[.int .i64 a0_0, .int .i64 a0_1, .int .i64 a0_2, .int .i64 a0_3, .int .i64 a0_4, .int .i64 a0_5, .int .i64 a0_6, .slice A0_7 l0_7.length c0_7, .slice A0_8 l0_8.length c0_8]] w fun e w' => e = .returned (.string r) ∧ Below w.heap.size w w' := by
  have hu49 := Tryd.underlying49
  have HR0_7 := Aside0.mk hr0_7
  have HC0_7 := Aside0.mk hc0_7
  clear hr0_7 hc0_7
  have HR0_8 := Aside0.mk hr0_8
  have HC0_8 := Aside0.mk hc0_8
  clear hr0_8 hc0_8
  have HB := Aside0.mk (Below.refl w.heap.size w)
  have H : ((some (([(⟨#[100, 101, 110, 115, 101]⟩ : ByteArray), (⟨#[99, 111, 110, 118]⟩ : ByteArray), (⟨#[109, 97, 120]⟩ : ByteArray), (⟨#[97, 118, 103]⟩ : ByteArray), (⟨#[114, 101, 108, 117]⟩ : ByteArray), (⟨#[102, 108, 97, 116]⟩ : ByteArray)] : List ByteArray) : List ByteArray)).bind fun y212 => ((spec_l01In.f a0_0 0 5).bind fun t215 => (if t215 = true then (if 0 ≤ a0_0 then (if a0_0 < (y212.length : Int) then (spec_LayerText.l0 k (([a0_1, a0_2, a0_3, a0_4, a0_5, a0_6, (l0_7.length : Int), (l0_8.length : Int)] : List Int)) (rdOf ByteArray.empty y212 a0_0) 0) else (none)) else (none)) else (some (⟨#[]⟩ : ByteArray))))) = some r := h
  clear h
  obtain ⟨y212, hy212⟩ : ∃ y_ : List ByteArray, y_ = (([(⟨#[100, 101, 110, 115, 101]⟩ : ByteArray), (⟨#[99, 111, 110, 118]⟩ : ByteArray), (⟨#[109, 97, 120]⟩ : ByteArray), (⟨#[97, 118, 103]⟩ : ByteArray), (⟨#[114, 101, 108, 117]⟩ : ByteArray), (⟨#[102, 108, 97, 116]⟩ : ByteArray)] : List ByteArray)) := ⟨_, rfl⟩
  replace H : ((spec_l01In.f a0_0 0 5).bind fun t215 => (if t215 = true then (if 0 ≤ a0_0 then (if a0_0 < (y212.length : Int) then (spec_LayerText.l0 k (([a0_1, a0_2, a0_3, a0_4, a0_5, a0_6, (l0_7.length : Int), (l0_8.length : Int)] : List Int)) (rdOf ByteArray.empty y212 a0_0) 0) else (none)) else (none)) else (some (⟨#[]⟩ : ByteArray)))) = some r := by first | (rw [hy212]; with_reducible exact H) | (have H2_ := (Option.bind_some _ _).symm.trans H; rw [hy212]; with_reducible exact H2_) | (have H2_ := (Option.bind_some _ _).symm.trans H; with_reducible exact H2_) | with_reducible exact H | (rw [hy212]; exact H) | exact H
  have Ny212 := Aside0.mk hy212
  clear hy212
  replace H := Option.bind_eq_some_iff.mp H
  obtain ⟨t215, A20, H⟩ := H
  (try dsimp only at H)
  have A2 := Aside0.mk A20
  clear A20
  by_cases c3 : t215 = true
  rotate_left
  ·replace c3 := Bool.eq_false_iff.mpr c3
   subst c3
   rw [if_neg (show ¬ (false = true) by decide)] at H
   obtain rfl := Option.some.inj H
   go_enter Tryd.func18, Tryd.ntmps18
   go_wp2_with (first | ((with_reducible refine gate_dst (N := 1) rfl ?_); refine boxM 1 #[.int .i64 a0_0, .int .i64 a0_1, .int .i64 a0_2, .int .i64 a0_3, .int .i64 a0_4, .int .i64 a0_5, .int .i64 a0_6, .slice A0_7 l0_7.length c0_7, .slice A0_8 l0_8.length c0_8] 49 ?_; intro gb211 hg w22 BK211 hb; replace HB := box_at w hb hg; obtain ⟨HB, GW211, GE211⟩ := HB; clear hb hg) | ((with_reducible refine gate_dst (N := 7) rfl ?_); refine Kd.R_lit Kd.string _ 9 ?hg (N := 7) ?hd (xs := ([(⟨#[100, 101, 110, 115, 101]⟩ : ByteArray), (⟨#[99, 111, 110, 118]⟩ : ByteArray), (⟨#[109, 97, 120]⟩ : ByteArray), (⟨#[97, 118, 103]⟩ : ByteArray), (⟨#[114, 101, 108, 117]⟩ : ByteArray), (⟨#[102, 108, 97, 116]⟩ : ByteArray)] : List ByteArray)) (inner := [.string (⟨#[100, 101, 110, 115, 101]⟩ : ByteArray), .string (⟨#[99, 111, 110, 118]⟩ : ByteArray), .string (⟨#[109, 97, 120]⟩ : ByteArray), .string (⟨#[97, 118, 103]⟩ : ByteArray), .string (⟨#[114, 101, 108, 117]⟩ : ByteArray), .string (⟨#[102, 108, 97, 116]⟩ : ByteArray)]) (ok := fun _ => True) (okp := fun _ => True) ?hr ?hp (fun _ hk => hk) trivial (Below.refl _ _) (Nat.le_refl _) (by simp) ?_; (case hd => rfl); (case hg => rfl); (case hr => first | (go_simp; done) | (go_simp; rfl)); (case hp => exact (Reps.one (show Kd.M Kd.string _ _ _ (⟨#[100, 101, 110, 115, 101]⟩ : ByteArray) [.string (⟨#[100, 101, 110, 115, 101]⟩ : ByteArray)] from rfl) (Reps.one (show Kd.M Kd.string _ _ _ (⟨#[99, 111, 110, 118]⟩ : ByteArray) [.string (⟨#[99, 111, 110, 118]⟩ : ByteArray)] from rfl) (Reps.one (show Kd.M Kd.string _ _ _ (⟨#[109, 97, 120]⟩ : ByteArray) [.string (⟨#[109, 97, 120]⟩ : ByteArray)] from rfl) (Reps.one (show Kd.M Kd.string _ _ _ (⟨#[97, 118, 103]⟩ : ByteArray) [.string (⟨#[97, 118, 103]⟩ : ByteArray)] from rfl) (Reps.one (show Kd.M Kd.string _ _ _ (⟨#[114, 101, 108, 117]⟩ : ByteArray) [.string (⟨#[114, 101, 108, 117]⟩ : ByteArray)] from rfl) (Reps.one (show Kd.M Kd.string _ _ _ (⟨#[102, 108, 97, 116]⟩ : ByteArray) [.string (⟨#[102, 108, 97, 116]⟩ : ByteArray)] from rfl) (Reps.none _ _)))))))); intro v213 w23 ho24 hb hg_ hnew_; clear hg_ hnew_; (first | rw [← Ny212.out] at ho24 | (simp only [Int.reduceToNat] at ho24; rw [← Ny212.out] at ho24)); have n0_ := Aside0.mk (Kd.R_lower ho24 (below_size bel_now)); replace HB := bel_on w hb; replace BK211 := blk_on gb211 hb; have HO214 := n0_; clear n0_; clear hb ho24; have hcz25 := cells9 BK211.out) | ((with_reducible refine gate_callee (f := 39) rfl ?_); refine goesM (some 10) rfl rfl Tryd.func39 (by kernel_rfl) rfl #[.int .i64 a0_0, .int .i64 0, .int .i64 5] rfl ?_; (with_reducible refine (spec_l01In.calls a0_0 0 5 false _ A2.out).mono ?_); rintro e w' ⟨rfl, ⟨nd, rfl⟩⟩; refine ⟨_, rfl, ?_⟩))
   go_ret
   exact ⟨eqN, bel_now⟩
  subst c3
  rw [if_pos rfl] at H
  obtain ⟨y216, hy216⟩ : ∃ y_ : List Int, y_ = (([a0_1, a0_2, a0_3, a0_4, a0_5, a0_6, (l0_7.length : Int), (l0_8.length : Int)] : List Int)) := ⟨_, rfl⟩
  replace H : (if 0 ≤ a0_0 then (if a0_0 < (y212.length : Int) then (spec_LayerText.l0 k y216 (rdOf ByteArray.empty y212 a0_0) 0) else (none)) else (none)) = some r := by first | (rw [hy216]; with_reducible exact H) | (have H2_ := (Option.bind_some _ _).symm.trans H; rw [hy216]; with_reducible exact H2_) | (have H2_ := (Option.bind_some _ _).symm.trans H; with_reducible exact H2_) | with_reducible exact H | (rw [hy216]; exact H) | exact H
  have Ny216 := Aside0.mk hy216
  clear hy216
  by_cases c4 : 0 ≤ a0_0
  rotate_left
  ·rw [if_neg c4] at H
   exact absurd H (by simp)
  rw [if_pos c4] at H
  have c4b0 : decide (0 ≤ a0_0) = true := decide_eq_true c4
  clear c4
  by_cases c5 : a0_0 < (y212.length : Int)
  rotate_left
  ·rw [if_neg c5] at H
   exact absurd H (by simp)
  rw [if_pos c5] at H
  have c5b0 : decide (a0_0 < (y212.length : Int)) = true := decide_eq_true c5
  clear c5
  have H' := Aside0.mk H
  clear H
  go_enter Tryd.func18, Tryd.ntmps18
  go_wp2_with (first | ((with_reducible refine gate_dst (N := 1) rfl ?_); refine boxM 1 #[.int .i64 a0_0, .int .i64 a0_1, .int .i64 a0_2, .int .i64 a0_3, .int .i64 a0_4, .int .i64 a0_5, .int .i64 a0_6, .slice A0_7 l0_7.length c0_7, .slice A0_8 l0_8.length c0_8] 49 ?_; intro gb211 hg w6 BK211 hb; replace HB := box_at w hb hg; obtain ⟨HB, GW211, GE211⟩ := HB; clear hb hg) | ((with_reducible refine gate_dst (N := 7) rfl ?_); refine Kd.R_lit Kd.string _ 9 ?hg (N := 7) ?hd (xs := ([(⟨#[100, 101, 110, 115, 101]⟩ : ByteArray), (⟨#[99, 111, 110, 118]⟩ : ByteArray), (⟨#[109, 97, 120]⟩ : ByteArray), (⟨#[97, 118, 103]⟩ : ByteArray), (⟨#[114, 101, 108, 117]⟩ : ByteArray), (⟨#[102, 108, 97, 116]⟩ : ByteArray)] : List ByteArray)) (inner := [.string (⟨#[100, 101, 110, 115, 101]⟩ : ByteArray), .string (⟨#[99, 111, 110, 118]⟩ : ByteArray), .string (⟨#[109, 97, 120]⟩ : ByteArray), .string (⟨#[97, 118, 103]⟩ : ByteArray), .string (⟨#[114, 101, 108, 117]⟩ : ByteArray), .string (⟨#[102, 108, 97, 116]⟩ : ByteArray)]) (ok := fun _ => True) (okp := fun _ => True) ?hr ?hp (fun _ hk => hk) trivial (Below.refl _ _) (Nat.le_refl _) (by simp) ?_; (case hd => rfl); (case hg => rfl); (case hr => first | (go_simp; done) | (go_simp; rfl)); (case hp => exact (Reps.one (show Kd.M Kd.string _ _ _ (⟨#[100, 101, 110, 115, 101]⟩ : ByteArray) [.string (⟨#[100, 101, 110, 115, 101]⟩ : ByteArray)] from rfl) (Reps.one (show Kd.M Kd.string _ _ _ (⟨#[99, 111, 110, 118]⟩ : ByteArray) [.string (⟨#[99, 111, 110, 118]⟩ : ByteArray)] from rfl) (Reps.one (show Kd.M Kd.string _ _ _ (⟨#[109, 97, 120]⟩ : ByteArray) [.string (⟨#[109, 97, 120]⟩ : ByteArray)] from rfl) (Reps.one (show Kd.M Kd.string _ _ _ (⟨#[97, 118, 103]⟩ : ByteArray) [.string (⟨#[97, 118, 103]⟩ : ByteArray)] from rfl) (Reps.one (show Kd.M Kd.string _ _ _ (⟨#[114, 101, 108, 117]⟩ : ByteArray) [.string (⟨#[114, 101, 108, 117]⟩ : ByteArray)] from rfl) (Reps.one (show Kd.M Kd.string _ _ _ (⟨#[102, 108, 97, 116]⟩ : ByteArray) [.string (⟨#[102, 108, 97, 116]⟩ : ByteArray)] from rfl) (Reps.none _ _)))))))); intro v213 w7 ho8 hb hg_ hnew_; clear hg_ hnew_; (first | rw [← Ny212.out] at ho8 | (simp only [Int.reduceToNat] at ho8; rw [← Ny212.out] at ho8)); have n0_ := Aside0.mk (Kd.R_lower ho8 (below_size bel_now)); replace HB := bel_on w hb; replace BK211 := blk_on gb211 hb; have HO214 := n0_; clear n0_; clear hb ho8; have hcz9 := cells9 BK211.out) | ((with_reducible refine gate_callee (f := 39) rfl ?_); refine goesM (some 10) rfl rfl Tryd.func39 (by kernel_rfl) rfl #[.int .i64 a0_0, .int .i64 0, .int .i64 5] rfl ?_; (with_reducible refine (spec_l01In.calls a0_0 0 5 true _ A2.out).mono ?_); rintro e w' ⟨rfl, ⟨nd, rfl⟩⟩; refine ⟨_, rfl, ?_⟩) | ((with_reducible refine gate_dst (N := 30) rfl ?_); refine Kd.R_lit (Kd.int .i64) _ 3 ?hg (N := 30) ?hd (xs := ([a0_1, a0_2, a0_3, a0_4, a0_5, a0_6, (l0_7.length : Int), (l0_8.length : Int)] : List Int)) (inner := [.int .i64 a0_1, .int .i64 a0_2, .int .i64 a0_3, .int .i64 a0_4, .int .i64 a0_5, .int .i64 a0_6, .int .i64 (l0_7.length : Int), .int .i64 (l0_8.length : Int)]) (ok := fun _ => True) (okp := fun _ => True) ?hr ?hp (fun _ hk => hk) trivial (Below.refl _ _) (Nat.le_refl _) (by simp) ?_; (case hd => rfl); (case hg => rfl); (case hr => first | (go_simp; done) | (go_simp; rfl)); (case hp => exact (Reps.one (show Kd.M (Kd.int .i64) _ _ _ a0_1 [.int .i64 a0_1] from rfl) (Reps.one (show Kd.M (Kd.int .i64) _ _ _ a0_2 [.int .i64 a0_2] from rfl) (Reps.one (show Kd.M (Kd.int .i64) _ _ _ a0_3 [.int .i64 a0_3] from rfl) (Reps.one (show Kd.M (Kd.int .i64) _ _ _ a0_4 [.int .i64 a0_4] from rfl) (Reps.one (show Kd.M (Kd.int .i64) _ _ _ a0_5 [.int .i64 a0_5] from rfl) (Reps.one (show Kd.M (Kd.int .i64) _ _ _ a0_6 [.int .i64 a0_6] from rfl) (Reps.one (show Kd.M (Kd.int .i64) _ _ _ (l0_7.length : Int) [.int .i64 (l0_7.length : Int)] from rfl) (Reps.one (show Kd.M (Kd.int .i64) _ _ _ (l0_8.length : Int) [.int .i64 (l0_8.length : Int)] from rfl) (Reps.none _ _)))))))))); intro v217 w10 ho11 hb hg_ hnew_; clear hg_ hnew_; (first | rw [← Ny216.out] at ho11 | (simp only [Int.reduceToNat] at ho11; rw [← Ny216.out] at ho11)); have n1_ := Aside0.mk (Kd.R_lower ho11 (below_size bel_now)); replace HO214 := Aside0.mk (Kd.R_below (R_at HO214.out) hb); replace HB := bel_on w hb; replace BK211 := blk_on gb211 hb; have HO218 := n1_; clear n1_; clear hb ho11; have hcz12 := cells9 BK211.out; obtain ⟨Ao13, co13, eo13⟩ := Kd.R_slice HO214.out; subst eo13; have p219 : 0 ≤ (a0_0 : Int) := of_decide_eq_true (by first | (with_reducible assumption) | assumption); have q219 : a0_0 < (y212.length : Int) := of_decide_eq_true (by first | (with_reducible assumption) | assumption); obtain ⟨ad219, e219, hx219_0⟩ := Kd.at_string (Kd.R_reads' HO214.out).2.2 a0_0 p219 q219; cases e219; replace p219 := eq_true p219; replace q219 := eq_true q219))
  go_loopg [5, 6] k (fun kq v5 v6 w' => ∃ (x5_1 : ByteArray) (x6_1 : Int), v5 = .string x5_1 ∧ v6 = .int .i64 x6_1 ∧ Aside0 (spec_LayerText.l0 kq y216 x5_1 x6_1 = some r) ∧ Aside0 (kq ≤ k) ∧ Aside0 (Kd.R (Kd.int .i64) 3 w' w.heap.size (fun _ => True) v217 y216) ∧ Aside0 (w'.heap[gb211]? = some (.cells #[.int .i64 a0_0, .int .i64 a0_1, .int .i64 a0_2, .int .i64 a0_3, .int .i64 a0_4, .int .i64 a0_5, .int .i64 a0_6, (.slice A0_7 l0_7.length c0_7), (.slice A0_8 l0_8.length c0_8)] 49 (0, 0))) ∧ Aside0 (Below w.heap.size w w'))
  case atStart => exact ⟨(rdOf ByteArray.empty y212 a0_0), (0), (by first | rfl | (simp; done) | (simp [*]; done)), (by first | rfl | (simp; done) | (simp [*]; done)), H', ⟨Nat.le_refl _⟩, ⟨by (with_reducible repeat (first | apply Kd.R_alloc | apply Kd.R_drewN | apply Kd.R_drew)); exact HO218.out⟩, ⟨bks BK211⟩, ⟨bel_now⟩⟩
  case round =>
   clear H'
   try clear c1
   try clear p2
   try clear q2
   try clear hx2
   try clear c3
   try clear c4
   try clear c4b0
   try clear c5
   try clear c5b0
   try clear hcz12
   try clear hcz9
   try clear hx219_0
   try clear p219
   try clear q219
   obtain ⟨x5_1, x6_1, rfl, rfl, HA, HK1, HO_4, BK211, HB⟩ := hrel
   cases gk with
   | zero => exact absurd HA.out (by simp [spec_LayerText.l0])
   | succ k1 =>
    have H := HA.out
    clear HA
    simp only [spec_LayerText.l0] at H
    by_cases c14 : x6_1 < (y216.length : Int)
    rotate_left
    ·rw [if_neg c14] at H
     have c14b0 : decide (x6_1 < (y216.length : Int)) = false := decide_eq_false c14
     clear c14
     obtain rfl := Option.some.inj H
     obtain ⟨Ao21, co21, eo21⟩ := Kd.R_slice HO_4.out
     subst eo21
     go_wp2
     go_ret
     exact ⟨eqN, bel_now⟩
    rw [if_pos c14] at H
    have c14b0 : decide (x6_1 < (y216.length : Int)) = true := decide_eq_true c14
    clear c14
    by_cases c15 : x5_1.size + 1 ≤ 9223372036854775807
    rotate_left
    ·rw [if_neg c15] at H
     exact absurd H (by simp)
    rw [if_pos c15] at H
    have c15b0 := eq_true c15
    have c15b1 : decide (x5_1.size + 1 ≤ 9223372036854775807) = true := decide_eq_true c15
    try have c15b2 : (9223372036854775807 < x5_1.size + 1) = False := eq_false (Nat.not_lt.2 c15)
    by_cases c16 : 0 ≤ x6_1
    rotate_left
    ·rw [if_neg c16] at H
     exact absurd H (by simp)
    rw [if_pos c16] at H
    have c16b0 : decide (0 ≤ x6_1) = true := decide_eq_true c16
    clear c16
    replace H := Option.bind_eq_some_iff.mp H
    obtain ⟨t221, A170, H⟩ := H
    (try dsimp only at H)
    have A17 := Aside0.mk A170
    clear A170
    by_cases c18 : (x5_1 ++ (⟨#[32]⟩ : ByteArray)).size + t221.size ≤ 9223372036854775807
    rotate_left
    ·rw [if_neg c18] at H
     exact absurd H (by simp)
    rw [if_pos c18] at H
    have c18b0 := eq_true c18
    have c18b1 : decide ((x5_1 ++ (⟨#[32]⟩ : ByteArray)).size + t221.size ≤ 9223372036854775807) = true := decide_eq_true c18
    try have c18b2 : (9223372036854775807 < (x5_1 ++ (⟨#[32]⟩ : ByteArray)).size + t221.size) = False := eq_false (Nat.not_lt.2 c18)
    try have c18b3 : (9223372036854775807 < x5_1.size + 1 + t221.size) = False := eq_false (by have h_ := c18; simp only [ByteArray.size_append, show (⟨#[32]⟩ : ByteArray).size = 1 from rfl] at h_; omega)
    have H' := Aside0.mk H
    clear H
    obtain ⟨Ao19, co19, eo19⟩ := Kd.R_slice HO_4.out
    subst eo19
    have p220 : 0 ≤ (x6_1 : Int) := of_decide_eq_true (by first | (with_reducible assumption) | assumption)
    have q220 : x6_1 < (y216.length : Int) := of_decide_eq_true (by first | (with_reducible assumption) | assumption)
    obtain ⟨ad220, e220, hx220_0⟩ := Kd.at_int (Kd.R_reads' HO_4.out).2.2 x6_1 p220 q220
    cases e220
    replace p220 := eq_true p220
    replace q220 := eq_true q220
    go_wp2_with (first | ((with_reducible refine gate_callee (f := 17) rfl ?_); refine goesM (some 48) rfl rfl Tryd.func17 (by kernel_rfl) rfl #[.int .i64 (rd y216 x6_1)] rfl ?_; (with_reducible refine (spec_l01Num.calls k1 (rd y216 x6_1) t221 _ A17.out).mono ?_); rintro e w20 ⟨rfl, hb⟩; refine ⟨_, rfl, ?_⟩; replace HO_4 := Aside0.mk (Kd.R_below (R_at HO_4.out) hb); replace HB := bel_on w hb; replace BK211 := blk_on gb211 hb; (try clear hb)))
    go_roundg k1
    case measure => have := HK1.out; omega
    case rel => exact ⟨((x5_1 ++ (⟨#[32]⟩ : ByteArray)) ++ t221), (wrap64 (x6_1 + 1)), (by first | rfl | (simp; done) | (simp [*]; done)), (by first | rfl | (simp; done) | (simp [*]; done)), H', ⟨by have := HK1.out; omega⟩, ⟨by (with_reducible repeat (first | apply Kd.R_alloc | apply Kd.R_drewN | apply Kd.R_drew)); exact HO_4.out⟩, ⟨bks BK211⟩, ⟨bel_now⟩⟩

/-! ### spec_ModelText: function 6 -/
def spec_ModelText.l0 : Nat → ByteArray → Int → Int → Int → Int → List (S49) → Option (ByteArray)
  | 0, _, _, _, _, _, _ => none
  | k + 1, x3, x4, x223000, x223001, x223002, x223003 => if x4 < (x223003.length : Int) then (if x3.size + 3 ≤ 9223372036854775807 then (if 0 ≤ x4 then ((spec_LayerText.f k ((rd_T49 x223003 x4).f0) ((rd_T49 x223003 x4).f1) ((rd_T49 x223003 x4).f2) ((rd_T49 x223003 x4).f3) ((rd_T49 x223003 x4).f4) ((rd_T49 x223003 x4).f5) ((rd_T49 x223003 x4).f6) ((rd_T49 x223003 x4).f7) ((rd_T49 x223003 x4).f8)).bind fun t228 => (if (x3 ++ (⟨#[32, 62, 32]⟩ : ByteArray)).size + t228.size ≤ 9223372036854775807 then (spec_ModelText.l0 k ((x3 ++ (⟨#[32, 62, 32]⟩ : ByteArray)) ++ t228) (wrap64 (x4 + 1)) x223000 x223001 x223002 x223003) else (none))) else (none)) else (none)) else (some x3)
def spec_ModelText.f (k : Nat) (a0_0 : Int) (a0_1 : Int) (a0_2 : Int) (l0_3 : List (S49)) : Option (ByteArray) := (spec_ModelOk.f k a0_0 a0_1 a0_2 l0_3).bind fun t223 => (if t223 = true then ((spec_l01Num.f k a0_0).bind fun t224 => (if t224.size + 1 ≤ 9223372036854775807 then ((spec_l01Num.f k a0_1).bind fun t225 => (if (t224 ++ (⟨#[120]⟩ : ByteArray)).size + t225.size ≤ 9223372036854775807 then (if ((t224 ++ (⟨#[120]⟩ : ByteArray)) ++ t225).size + 1 ≤ 9223372036854775807 then ((spec_l01Num.f k a0_2).bind fun t226 => (if (((t224 ++ (⟨#[120]⟩ : ByteArray)) ++ t225) ++ (⟨#[120]⟩ : ByteArray)).size + t226.size ≤ 9223372036854775807 then (spec_ModelText.l0 k ((((t224 ++ (⟨#[120]⟩ : ByteArray)) ++ t225) ++ (⟨#[120]⟩ : ByteArray)) ++ t226) 0 a0_0 a0_1 a0_2 l0_3) else (none))) else (none)) else (none))) else (none))) else (some (⟨#[]⟩ : ByteArray)))
def spec_ModelText.T3 : Bool × List (List Nat × List Nat) := (true, [([], []), ([0], [0]), ([1], [1]), ([2], [2]), ([3], [3]), ([], []), ([5], [5]), ([6], [6]), ([7, 3], [7]), ([4, 8], [4, 8]), ([9], [9]), ([], []), ([11], [11]), ([12], [12]), ([13, 8], [13]), ([10, 14], [10, 14]), ([15, 14, 0, 1, 2, 3, 4, 5, 6, 7, 8, 9, 10, 11, 12, 13, 14, 15], [15])])
def spec_ModelText.B3 : List Nat := [0, 1, 3, 7, 15, 0, 32, 96, 239, 511, 1023, 0, 2048, 6144, 14831, 32767, 65535]
theorem spec_ModelText.tab3 : rtab .any (opsOf Tryd.f6 3) = spec_ModelText.T3 := by kernel_rfl
theorem spec_ModelText.bits3 : waitsOk spec_ModelText.T3.2 spec_ModelText.B3 = true := by kernel_rfl
set_option maxHeartbeats 8000000 in
set_option maxRecDepth 100000 in
theorem spec_ModelText.calls (k : Nat) (a0_0 : Int) (a0_1 : Int) (a0_2 : Int) (A0_3 : Option Addr) (c0_3 : Nat) (l0_3 : List (S49)) (r : ByteArray) (w : World) (hr0_3 : Kd.C k49 w A0_3 l0_3.length l0_3) (hc0_3 : l0_3.length ≤ c0_3) (h : spec_ModelText.f k a0_0 a0_1 a0_2 l0_3 = some r) :
   Calls Tryd.prog 6 #[.agg #[.int .i64 a0_0, .int .i64 a0_1, .int .i64 a0_2, .slice A0_3 l0_3.length c0_3]] w fun e w' => e = .returned (.string r) ∧ Below w.heap.size w w' := by
  have hu32 := Tryd.underlying32
  have hu49 := Tryd.underlying49
  have HR0_3 := Aside0.mk hr0_3
  have HC0_3 := Aside0.mk hc0_3
  clear hr0_3 hc0_3
  have HB := Aside0.mk (Below.refl w.heap.size w)
  have H : ((spec_ModelOk.f k a0_0 a0_1 a0_2 l0_3).bind fun t223 => (if t223 = true then ((spec_l01Num.f k a0_0).bind fun t224 => (if t224.size + 1 ≤ 9223372036854775807 then ((spec_l01Num.f k a0_1).bind fun t225 => (if (t224 ++ (⟨#[120]⟩ : ByteArray)).size + t225.size ≤ 9223372036854775807 then (if ((t224 ++ (⟨#[120]⟩ : ByteArray)) ++ t225).size + 1 ≤ 9223372036854775807 then ((spec_l01Num.f k a0_2).bind fun t226 => (if (((t224 ++ (⟨#[120]⟩ : ByteArray)) ++ t225) ++ (⟨#[120]⟩ : ByteArray)).size + t226.size ≤ 9223372036854775807 then (spec_ModelText.l0 k ((((t224 ++ (⟨#[120]⟩ : ByteArray)) ++ t225) ++ (⟨#[120]⟩ : ByteArray)) ++ t226) 0 a0_0 a0_1 a0_2 l0_3) else (none))) else (none)) else (none))) else (none))) else (some (⟨#[]⟩ : ByteArray)))) = some r := h
  clear h
  replace H := Option.bind_eq_some_iff.mp H
  obtain ⟨t223, A20, H⟩ := H
  (try dsimp only at H)
  have A2 := Aside0.mk A20
  clear A20
  by_cases c3 : t223 = true
  rotate_left
  ·replace c3 := Bool.eq_false_iff.mpr c3
   subst c3
   rw [if_neg (show ¬ (false = true) by decide)] at H
   obtain rfl := Option.some.inj H
   go_enter Tryd.func6, Tryd.ntmps6
   go_wp2_with (first | ((with_reducible refine gate_dst (N := 1) rfl ?_); refine boxM 1 #[.int .i64 a0_0, .int .i64 a0_1, .int .i64 a0_2, .slice A0_3 l0_3.length c0_3] 32 ?_; intro gb222 hg w26 BK222 hb; replace HB := box_at w hb hg; obtain ⟨HB, GW222, GE222⟩ := HB; clear hb hg; have hcz27 := cells4 BK222.out) | ((with_reducible refine gate_callee (f := 16) rfl ?_); refine goesM (some 6) rfl rfl Tryd.func16 (by kernel_rfl) rfl #[.agg #[.int .i64 a0_0, .int .i64 a0_1, .int .i64 a0_2, .slice A0_3 l0_3.length c0_3]] rfl ?_; (with_reducible refine (spec_ModelOk.calls k a0_0 a0_1 a0_2 _ _ l0_3 false _ ?side1 ?side2 A2.out).mono ?_); (case side1 => exact C_now HR0_3.out); (case side2 => exact HC0_3.out); rintro e w28 ⟨rfl, hb⟩; refine ⟨_, rfl, ?_⟩; replace HB := bel_on w hb; replace BK222 := blk_on gb222 hb; (try clear hb)))
   go_ret
   exact ⟨eqN, bel_now⟩
  subst c3
  rw [if_pos rfl] at H
  replace H := Option.bind_eq_some_iff.mp H
  obtain ⟨t224, A40, H⟩ := H
  (try dsimp only at H)
  have A4 := Aside0.mk A40
  clear A40
  by_cases c5 : t224.size + 1 ≤ 9223372036854775807
  rotate_left
  ·rw [if_neg c5] at H
   exact absurd H (by simp)
  rw [if_pos c5] at H
  have c5b0 := eq_true c5
  have c5b1 : decide (t224.size + 1 ≤ 9223372036854775807) = true := decide_eq_true c5
  try have c5b2 : (9223372036854775807 < t224.size + 1) = False := eq_false (Nat.not_lt.2 c5)
  replace H := Option.bind_eq_some_iff.mp H
  obtain ⟨t225, A60, H⟩ := H
  (try dsimp only at H)
  have A6 := Aside0.mk A60
  clear A60
  by_cases c7 : (t224 ++ (⟨#[120]⟩ : ByteArray)).size + t225.size ≤ 9223372036854775807
  rotate_left
  ·rw [if_neg c7] at H
   exact absurd H (by simp)
  rw [if_pos c7] at H
  have c7b0 := eq_true c7
  have c7b1 : decide ((t224 ++ (⟨#[120]⟩ : ByteArray)).size + t225.size ≤ 9223372036854775807) = true := decide_eq_true c7
  try have c7b2 : (9223372036854775807 < (t224 ++ (⟨#[120]⟩ : ByteArray)).size + t225.size) = False := eq_false (Nat.not_lt.2 c7)
  try have c7b3 : (9223372036854775807 < t224.size + 1 + t225.size) = False := eq_false (by have h_ := c7; simp only [ByteArray.size_append, show (⟨#[120]⟩ : ByteArray).size = 1 from rfl] at h_; omega)
  by_cases c8 : ((t224 ++ (⟨#[120]⟩ : ByteArray)) ++ t225).size + 1 ≤ 9223372036854775807
  rotate_left
  ·rw [if_neg c8] at H
   exact absurd H (by simp)
  rw [if_pos c8] at H
  have c8b0 := eq_true c8
  have c8b1 : decide (((t224 ++ (⟨#[120]⟩ : ByteArray)) ++ t225).size + 1 ≤ 9223372036854775807) = true := decide_eq_true c8
  try have c8b2 : (9223372036854775807 < ((t224 ++ (⟨#[120]⟩ : ByteArray)) ++ t225).size + 1) = False := eq_false (Nat.not_lt.2 c8)
  try have c8b3 : (9223372036854775807 < t224.size + 1 + t225.size + 1) = False := eq_false (by have h_ := c8; simp only [ByteArray.size_append, show (⟨#[120]⟩ : ByteArray).size = 1 from rfl] at h_; omega)
  replace H := Option.bind_eq_some_iff.mp H
  obtain ⟨t226, A90, H⟩ := H
  (try dsimp only at H)
  have A9 := Aside0.mk A90
  clear A90
  by_cases c10 : (((t224 ++ (⟨#[120]⟩ : ByteArray)) ++ t225) ++ (⟨#[120]⟩ : ByteArray)).size + t226.size ≤ 9223372036854775807
  rotate_left
  ·rw [if_neg c10] at H
   exact absurd H (by simp)
  rw [if_pos c10] at H
  have c10b0 := eq_true c10
  have c10b1 : decide ((((t224 ++ (⟨#[120]⟩ : ByteArray)) ++ t225) ++ (⟨#[120]⟩ : ByteArray)).size + t226.size ≤ 9223372036854775807) = true := decide_eq_true c10
  try have c10b2 : (9223372036854775807 < (((t224 ++ (⟨#[120]⟩ : ByteArray)) ++ t225) ++ (⟨#[120]⟩ : ByteArray)).size + t226.size) = False := eq_false (Nat.not_lt.2 c10)
  try have c10b3 : (9223372036854775807 < t224.size + 1 + t225.size + 1 + t226.size) = False := eq_false (by have h_ := c10; simp only [ByteArray.size_append, show (⟨#[120]⟩ : ByteArray).size = 1 from rfl] at h_; omega)
  have H' := Aside0.mk H
  clear H
  go_enter Tryd.func6, Tryd.ntmps6
  try go_wp2_with (first | ((with_reducible refine gate_dst (N := 1) rfl ?_); refine boxM 1 #[.int .i64 a0_0, .int .i64 a0_1, .int .i64 a0_2, .slice A0_3 l0_3.length c0_3] 32 ?_; intro gb222 hg w11 BK222 hb; replace HB := box_at w hb hg; obtain ⟨HB, GW222, GE222⟩ := HB; clear hb hg; have hcz12 := cells4 BK222.out) | ((with_reducible refine gate_callee (f := 16) rfl ?_); refine goesM (some 6) rfl rfl Tryd.func16 (by kernel_rfl) rfl #[.agg #[.int .i64 a0_0, .int .i64 a0_1, .int .i64 a0_2, .slice A0_3 l0_3.length c0_3]] rfl ?_; (with_reducible refine (spec_ModelOk.calls k a0_0 a0_1 a0_2 _ _ l0_3 true _ ?side1 ?side2 A2.out).mono ?_); (case side1 => exact C_now HR0_3.out); (case side2 => exact HC0_3.out); rintro e w13 ⟨rfl, hb⟩; refine ⟨_, rfl, ?_⟩; replace HB := bel_on w hb; replace BK222 := blk_on gb222 hb; (try clear hb)))
  replace BK222 := Aside0.mk (blk_drew BK222.out)
  replace HB := Aside0.mk (below_drew1 HB.out)
  refine start_ (n := 17) (S := fun w' => w'.cell? ⟨gb222, 0, none⟩ = some (.int .i64 a0_0) ∧ w'.cell? ⟨gb222, 1, none⟩ = some (.int .i64 a0_1) ∧ w'.cell? ⟨gb222, 2, none⟩ = some (.int .i64 a0_2) ∧ w'.cell? ⟨gb222, 3, none⟩ = some (.slice A0_3 l0_3.length c0_3)) (ds := []) #[O, O, O, O, O, O, O, O, O, O, O, O, O, O, O, O, O] (by kernel_rfl) rfl rfl ⟨bc BK222 0, bc BK222 1, bc BK222 2, bc BK222 3⟩ (fun hHeld => ?_); refine with_tabW spec_ModelText.tab3 spec_ModelText.bits3 (fun HT_ HW_ => ?_)
  generalize w13.drew = w14 at BK222 HB hHeld ⊢
  refine stepP 0 (some 8) (tk 17 1) (any_of HT_.out (by kernel_rfl)) ?_
  refine stepP 1 (some 9) (tk 17 3) (any_of HT_.out (by kernel_rfl)) ?_
  refine stepP 5 (some 13) (tk 17 35) (any_of HT_.out (by kernel_rfl)) ?_
  refine stepP 6 (some 14) (tk 17 99) (any_of HT_.out (by kernel_rfl)) ?_
  refine stepP 11 (some 19) (tk 17 2147) (any_of HT_.out (by kernel_rfl)) ?_
  refine stepP 12 (some 20) (tk 17 6243) (any_of HT_.out (by kernel_rfl)) ?_
  refine stepT 2 (some 10) (tk 17 6247) (take_ofW HT_.out HW_.out (by kernel_rfl)) hHeld ?_
  refine stepT 7 (some 15) (tk 17 6375) (take_ofW HT_.out HW_.out (by kernel_rfl)) hHeld ?_
  refine stepT 13 (some 21) (tk 17 14567) (take_ofW HT_.out HW_.out (by kernel_rfl)) hHeld ?_
  refine one_ (i := 3) (N := some 11) #[I, I, I, I, O, I, I, I, O, O, O, I, I, I, O, O, O] rfl rfl (one_of HT_.out (by kernel_rfl)) (by decide) (fun K hK => ?_)
  refine goes_ Tryd.func17 (by kernel_rfl) rfl #[.int .i64 a0_0] (by rfl) rfl rfl (by (try simp only [List.map_toArray, List.map_cons, List.map_nil]); first | done | rfl | (simp only [List.length_drop, List.length_take]; rfl)) ?_
  with_reducible refine (spec_l01Num.calls k a0_0 t224 _ A4.out).mono ?_
  rintro e w15 ⟨rfl, hb⟩
  refine ⟨_, rfl, ?_⟩
  replace BK222 := blk_on gb222 hb
  replace HB := bel_on w hb
  (try clear hb)
  refine hK.out _ _ ⟨bc BK222 0, bc BK222 1, bc BK222 2, bc BK222 3⟩ (fun hHeld => ?_)
  clear hK K
  refine normP 11 ?_
  refine stepP 4 (some 12) (tk 17 14591) (any_of HT_.out (by kernel_rfl)) ?_
  refine one_ (i := 8) (N := some 16) #[I, I, I, I, I, I, I, I, I, O, O, I, I, I, O, O, O] rfl rfl (one_of HT_.out (by kernel_rfl)) (by decide) (fun K hK => ?_)
  refine goes_ Tryd.func17 (by kernel_rfl) rfl #[.int .i64 a0_1] (by rfl) rfl rfl (by (try simp only [List.map_toArray, List.map_cons, List.map_nil]); first | done | rfl | (simp only [List.length_drop, List.length_take]; rfl)) ?_
  with_reducible refine (spec_l01Num.calls k a0_1 t225 _ A6.out).mono ?_
  rintro e w16 ⟨rfl, hb⟩
  refine ⟨_, rfl, ?_⟩
  replace BK222 := blk_on gb222 hb
  replace HB := bel_on w hb
  (try clear hb)
  refine hK.out _ _ ⟨bc BK222 0, bc BK222 1, bc BK222 2, bc BK222 3⟩ (fun hHeld => ?_)
  clear hK K
  refine normP 16 ?_
  refine stepP 9 (some 17) (tk 17 15359) (any_of HT_.out (by kernel_rfl)) ?_
  refine stepP 10 (some 18) (tk 17 16383) (any_of HT_.out (by kernel_rfl)) ?_
  refine one_ (i := 14) (N := some 22) #[I, I, I, I, I, I, I, I, I, I, I, I, I, I, I, O, O] rfl rfl (one_of HT_.out (by kernel_rfl)) (by decide) (fun K hK => ?_)
  refine goes_ Tryd.func17 (by kernel_rfl) rfl #[.int .i64 a0_2] (by rfl) rfl rfl (by (try simp only [List.map_toArray, List.map_cons, List.map_nil]); first | done | rfl | (simp only [List.length_drop, List.length_take]; rfl)) ?_
  with_reducible refine (spec_l01Num.calls k a0_2 t226 _ A9.out).mono ?_
  rintro e w17 ⟨rfl, hb⟩
  refine ⟨_, rfl, ?_⟩
  replace BK222 := blk_on gb222 hb
  replace HB := bel_on w hb
  (try clear hb)
  refine hK.out _ _ ⟨bc BK222 0, bc BK222 1, bc BK222 2, bc BK222 3⟩ (fun hHeld => ?_)
  clear hK K
  refine normP 22 ?_
  refine stepP 15 (some 23) (tk 17 65535) (any_of HT_.out (by kernel_rfl)) ?_
  refine stepP 16 (some 3) (tk 17 131071) (any_of HT_.out (by kernel_rfl)) ?_
  refine done_ (done_of HT_.out (by kernel_rfl)) ?_
  try go_wp2
  go_loopg [3, 4] k (fun kq v3 v4 w' => ∃ (x3_1 : ByteArray) (x4_1 : Int), v3 = .string x3_1 ∧ v4 = .int .i64 x4_1 ∧ Aside0 (spec_ModelText.l0 kq x3_1 x4_1 a0_0 a0_1 a0_2 l0_3 = some r) ∧ Aside0 (kq ≤ k) ∧ Aside0 (w'.heap[gb222]? = some (.cells #[.int .i64 a0_0, .int .i64 a0_1, .int .i64 a0_2, (.slice A0_3 l0_3.length c0_3)] 32 (0, 0))) ∧ Aside0 (Below w.heap.size w w'))
  case atStart => exact ⟨((((t224 ++ (⟨#[120]⟩ : ByteArray)) ++ t225) ++ (⟨#[120]⟩ : ByteArray)) ++ t226), (0), (by first | rfl | (simp; done) | (simp [*]; done)), (by first | rfl | (simp; done) | (simp [*]; done)), H', ⟨Nat.le_refl _⟩, ⟨bks BK222⟩, ⟨bel_now⟩⟩
  case round =>
   clear H'
   try clear c1
   try clear p2
   try clear c3
   try clear c5
   try clear c5b0
   try clear c5b1
   try clear c5b2
   try clear c6
   try clear c7
   try clear c7b0
   try clear c7b1
   try clear c7b2
   try clear c8
   try clear c8b0
   try clear c8b1
   try clear c8b2
   try clear c10
   try clear c10b0
   try clear c10b1
   try clear c10b2
   try clear c16
   try clear c17
   try clear hcz12
   obtain ⟨x3_1, x4_1, rfl, rfl, HA, HK1, BK222, HB⟩ := hrel
   cases gk with
   | zero => exact absurd HA.out (by simp [spec_ModelText.l0])
   | succ k1 =>
    have H := HA.out
    clear HA
    simp only [spec_ModelText.l0] at H
    by_cases c18 : x4_1 < (l0_3.length : Int)
    rotate_left
    ·rw [if_neg c18] at H
     have c18b0 : decide (x4_1 < (l0_3.length : Int)) = false := decide_eq_false c18
     clear c18
     obtain rfl := Option.some.inj H
     have hcz25 := cells4 BK222.out
     go_wp2
     go_ret
     exact ⟨eqN, bel_now⟩
    rw [if_pos c18] at H
    have c18b0 : decide (x4_1 < (l0_3.length : Int)) = true := decide_eq_true c18
    clear c18
    by_cases c19 : x3_1.size + 3 ≤ 9223372036854775807
    rotate_left
    ·rw [if_neg c19] at H
     exact absurd H (by simp)
    rw [if_pos c19] at H
    have c19b0 := eq_true c19
    have c19b1 : decide (x3_1.size + 3 ≤ 9223372036854775807) = true := decide_eq_true c19
    try have c19b2 : (9223372036854775807 < x3_1.size + 3) = False := eq_false (Nat.not_lt.2 c19)
    by_cases c20 : 0 ≤ x4_1
    rotate_left
    ·rw [if_neg c20] at H
     exact absurd H (by simp)
    rw [if_pos c20] at H
    have c20b0 : decide (0 ≤ x4_1) = true := decide_eq_true c20
    clear c20
    replace H := Option.bind_eq_some_iff.mp H
    obtain ⟨t228, A210, H⟩ := H
    (try dsimp only at H)
    have A21 := Aside0.mk A210
    clear A210
    by_cases c22 : (x3_1 ++ (⟨#[32, 62, 32]⟩ : ByteArray)).size + t228.size ≤ 9223372036854775807
    rotate_left
    ·rw [if_neg c22] at H
     exact absurd H (by simp)
    rw [if_pos c22] at H
    have c22b0 := eq_true c22
    have c22b1 : decide ((x3_1 ++ (⟨#[32, 62, 32]⟩ : ByteArray)).size + t228.size ≤ 9223372036854775807) = true := decide_eq_true c22
    try have c22b2 : (9223372036854775807 < (x3_1 ++ (⟨#[32, 62, 32]⟩ : ByteArray)).size + t228.size) = False := eq_false (Nat.not_lt.2 c22)
    try have c22b3 : (9223372036854775807 < x3_1.size + 3 + t228.size) = False := eq_false (by have h_ := c22; simp only [ByteArray.size_append, show (⟨#[32, 62, 32]⟩ : ByteArray).size = 3 from rfl] at h_; omega)
    have H' := Aside0.mk H
    clear H
    have hcz23 := cells4 BK222.out
    have p227 : 0 ≤ (x4_1 : Int) := of_decide_eq_true (by first | (with_reducible assumption) | assumption)
    have q227 : x4_1 < (l0_3.length : Int) := of_decide_eq_true (by first | (with_reducible assumption) | assumption)
    obtain ⟨ad227, A227_7, c227_7, A227_8, c227_8, e227, hx227_0, hx227_1, hx227_2, hx227_3, hx227_4, hx227_5, hx227_6, hx227_7, hx227_8, hl227_7, hi227_7, hl227_8, hi227_8⟩ := at_T49 HR0_3.out x4_1 p227 q227
    cases e227
    replace hx227_0 := (HB.out.cell (World.block_lt_of_cell? w _ hx227_0)).trans hx227_0
    replace hx227_1 := (HB.out.cell (World.block_lt_of_cell? w _ hx227_1)).trans hx227_1
    replace hx227_2 := (HB.out.cell (World.block_lt_of_cell? w _ hx227_2)).trans hx227_2
    replace hx227_3 := (HB.out.cell (World.block_lt_of_cell? w _ hx227_3)).trans hx227_3
    replace hx227_4 := (HB.out.cell (World.block_lt_of_cell? w _ hx227_4)).trans hx227_4
    replace hx227_5 := (HB.out.cell (World.block_lt_of_cell? w _ hx227_5)).trans hx227_5
    replace hx227_6 := (HB.out.cell (World.block_lt_of_cell? w _ hx227_6)).trans hx227_6
    replace hx227_7 := (HB.out.cell (World.block_lt_of_cell? w _ hx227_7)).trans hx227_7
    replace hx227_8 := (HB.out.cell (World.block_lt_of_cell? w _ hx227_8)).trans hx227_8
    have HR227_7 := Aside0.mk hi227_7
    have HC227_7 := Aside0.mk hl227_7
    clear hi227_7 hl227_7
    have HR227_8 := Aside0.mk hi227_8
    have HC227_8 := Aside0.mk hl227_8
    clear hi227_8 hl227_8
    replace p227 := eq_true p227
    replace q227 := eq_true q227
    go_wp2_with (first | ((with_reducible refine gate_callee (f := 18) rfl ?_); refine goesM (some 38) rfl rfl Tryd.func18 (by kernel_rfl) rfl #[.agg #[.int .i64 ((rd_T49 l0_3 x4_1).f0), .int .i64 ((rd_T49 l0_3 x4_1).f1), .int .i64 ((rd_T49 l0_3 x4_1).f2), .int .i64 ((rd_T49 l0_3 x4_1).f3), .int .i64 ((rd_T49 l0_3 x4_1).f4), .int .i64 ((rd_T49 l0_3 x4_1).f5), .int .i64 ((rd_T49 l0_3 x4_1).f6), .slice A227_7 ((rd_T49 l0_3 x4_1).f7).length c227_7, .slice A227_8 ((rd_T49 l0_3 x4_1).f8).length c227_8]] rfl ?_; (with_reducible refine (spec_LayerText.calls k1 ((rd_T49 l0_3 x4_1).f0) ((rd_T49 l0_3 x4_1).f1) ((rd_T49 l0_3 x4_1).f2) ((rd_T49 l0_3 x4_1).f3) ((rd_T49 l0_3 x4_1).f4) ((rd_T49 l0_3 x4_1).f5) ((rd_T49 l0_3 x4_1).f6) _ _ ((rd_T49 l0_3 x4_1).f7) _ _ ((rd_T49 l0_3 x4_1).f8) t228 _ ?side1 ?side2 ?side3 ?side4 A21.out).mono ?_); (case side1 => exact C_now HR227_7.out); (case side2 => exact HC227_7.out); (case side3 => exact C_now HR227_8.out); (case side4 => exact HC227_8.out); rintro e w24 ⟨rfl, hb⟩; refine ⟨_, rfl, ?_⟩; replace HB := bel_on w hb; replace BK222 := blk_on gb222 hb; (try clear hb)))
    go_roundg k1
    case measure => have := HK1.out; omega
    case rel => exact ⟨((x3_1 ++ (⟨#[32, 62, 32]⟩ : ByteArray)) ++ t228), (wrap64 (x4_1 + 1)), (by first | rfl | (simp; done) | (simp [*]; done)), (by first | rfl | (simp; done) | (simp [*]; done)), H', ⟨by have := HK1.out; omega⟩, ⟨bks BK222⟩, ⟨bel_now⟩⟩

/-! ### impl_in: function 41 -/
def impl_in.f (a0 : Int) (a1 : Int) (a2 : Int) : Option (Bool) := if a1 ≤ a0 then (some (decide (a0 ≤ a2))) else (some false)
set_option maxHeartbeats 8000000 in
set_option maxRecDepth 100000 in
theorem impl_in.calls (a0 : Int) (a1 : Int) (a2 : Int) (r : Bool) (w : World) (h : impl_in.f a0 a1 a2 = some r) :
   Calls Tryd.prog 41 #[.int .i64 a0, .int .i64 a1, .int .i64 a2] w fun e w' => e = .returned (.bool r) ∧ Drawn0 w w' := by
  have H : (if a1 ≤ a0 then (some (decide (a0 ≤ a2))) else (some false)) = some r := h
  clear h
  by_cases c4 : a1 ≤ a0
  ·rw [if_pos c4] at H
   have c4b0 : decide (a1 ≤ a0) = true := decide_eq_true c4
   clear c4
   obtain rfl := Option.some.inj H
   go_enter Tryd.func41, Tryd.ntmps41
   go_wp2
   go_ret
   exact ⟨by first | rfl | (simp; done) | (simp [*]; done), by repeat (first | exact Drawn0.refl _ | apply Drawn0.step)⟩
  rw [if_neg c4] at H
  have c4b0 : decide (a1 ≤ a0) = false := decide_eq_false c4
  clear c4
  obtain rfl := Option.some.inj H
  go_enter Tryd.func41, Tryd.ntmps41
  go_wp2
  go_ret
  exact ⟨by first | rfl | (simp; done) | (simp [*]; done), by repeat (first | exact Drawn0.refl _ | apply Drawn0.step)⟩

end Go.Proofs.YtclpojeofclbjaaDoor.PFnExactModelText
