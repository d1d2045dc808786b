import Derived.Test.YtjmejobelkllmaaPFnStoredx0
import Derived.Test.YtjmejobelkllmaaPFnStoredx2
import Derived.Test.YtjmejobelkllmaaPFnStoredx4
namespace Go.Proofs.Ytjmejobelkllmaa.PFnStored
open Go.RowKit Go.Proofs.YtjmejobelkllmaaW.PrintWords Go.Proofs.YtjmejobelkllmaaW.PrintLast Go.Proofs.YtjmejobelkllmaaW.PrintMore
attribute [local go_sem] max2_int min2_int max_two min_two max_three min_three max_four min_four
set_option maxHeartbeats 8000000
set_option maxRecDepth 100000
set_option linter.unusedVariables false
set_option linter.unusedSimpArgs false

mutual
def spec_l03Plain.j0 : Nat → Bool → Int → Int → Int → Int → Int → Int → Int → List Int → List Int → Option (Bool)
  | 0, _, _, _, _, _, _, _, _, _, _ => none
  | k + 1, x2, x207000, x207001, x207002, x207003, x207004, x207005, x207006, x207007, x207008 => if x2 = true then ((spec_l01In.f x207001 1 8).bind fun t209 => (if t209 = true then ((spec_l01In.f x207004 0 2147483647).bind fun t210 => (if t210 = true then ((spec_l01In.f x207005 0 31).bind fun t211 => (if t211 = true then ((spec_l02Int8.f x207006).bind fun t212 => (if t212 = true then (spec_l03Plain.j1 k ((x207008.length : Int) != x207001) x207000 x207001 x207002 x207003 x207004 x207005 x207006 x207007 x207008) else (spec_l03Plain.j1 k true x207000 x207001 x207002 x207003 x207004 x207005 x207006 x207007 x207008))) else (spec_l03Plain.j1 k true x207000 x207001 x207002 x207003 x207004 x207005 x207006 x207007 x207008))) else (spec_l03Plain.j1 k true x207000 x207001 x207002 x207003 x207004 x207005 x207006 x207007 x207008))) else (spec_l03Plain.j1 k true x207000 x207001 x207002 x207003 x207004 x207005 x207006 x207007 x207008))) else (if x207001 = 0 then (if x207004 = 0 then (if x207005 = 0 then (if (x207007.length : Int) > 0 then (spec_l03Plain.j4 k true x207000 x207001 x207002 x207003 x207004 x207005 x207006 x207007 x207008) else (spec_l03Plain.j4 k (decide ((x207008.length : Int) > 0)) x207000 x207001 x207002 x207003 x207004 x207005 x207006 x207007 x207008)) else (spec_l03Plain.j4 k true x207000 x207001 x207002 x207003 x207004 x207005 x207006 x207007 x207008)) else (spec_l03Plain.j4 k true x207000 x207001 x207002 x207003 x207004 x207005 x207006 x207007 x207008)) else (spec_l03Plain.j4 k true x207000 x207001 x207002 x207003 x207004 x207005 x207006 x207007 x207008))
def spec_l03Plain.j1 : Nat → Bool → Int → Int → Int → Int → Int → Int → Int → List Int → List Int → Option (Bool)
  | 0, _, _, _, _, _, _, _, _, _, _ => none
  | k + 1, x58, x207000, x207001, x207002, x207003, x207004, x207005, x207006, x207007, x207008 => if x58 = true then (some false) else (spec_l03Plain.l0 k 0 x207000 x207001 x207002 x207003 x207004 x207005 x207006 x207007 x207008)
def spec_l03Plain.l0 : Nat → Int → Int → Int → Int → Int → Int → Int → Int → List Int → List Int → Option (Bool)
  | 0, _, _, _, _, _, _, _, _, _, _ => none
  | k + 1, x7, x207000, x207001, x207002, x207003, x207004, x207005, x207006, x207007, x207008 => if x7 < (x207008.length : Int) then (if 0 ≤ x7 then ((spec_l01In.f (rd x207008 x7) (-1000000) 1000000).bind fun t214 => (if t214 = true then (spec_l03Plain.l0 k (wrap64 (x7 + 1)) x207000 x207001 x207002 x207003 x207004 x207005 x207006 x207007 x207008) else (some false))) else (none)) else (spec_l03Plain.l1 k 0 x207000 x207001 x207002 x207003 x207004 x207005 x207006 x207007 x207008)
def spec_l03Plain.l1 : Nat → Int → Int → Int → Int → Int → Int → Int → Int → List Int → List Int → Option (Bool)
  | 0, _, _, _, _, _, _, _, _, _, _ => none
  | k + 1, x8, x207000, x207001, x207002, x207003, x207004, x207005, x207006, x207007, x207008 => if x8 < (x207007.length : Int) then (if 0 ≤ x8 then ((spec_l02Int8.f (rd x207007 x8)).bind fun t216 => (if t216 = true then (spec_l03Plain.l1 k (wrap64 (x8 + 1)) x207000 x207001 x207002 x207003 x207004 x207005 x207006 x207007 x207008) else (some false))) else (none)) else (some true)
def spec_l03Plain.j4 : Nat → Bool → Int → Int → Int → Int → Int → Int → Int → List Int → List Int → Option (Bool)
  | 0, _, _, _, _, _, _, _, _, _, _ => none
  | k + 1, x111, x207000, x207001, x207002, x207003, x207004, x207005, x207006, x207007, x207008 => if x111 = true then (some false) else (if x207000 = 4 then ((spec_l02Int8.f x207006).bind fun t217 => (some t217)) else (some (x207006 == 0)))
end
def spec_l03Plain.f (k : Nat) (a0_0 : Int) (a0_1 : Int) (a0_2 : Int) (a0_3 : Int) (a0_4 : Int) (a0_5 : Int) (a0_6 : Int) (l0_7 : List Int) (l0_8 : List Int) (a1 : Bool) (a2 : Bool) : Option (Bool) := if a1 = true then ((spec_l01In.f a0_2 1 3).bind fun t207 => (if t207 = true then ((spec_l01In.f a0_3 1 2).bind fun t208 => (if t208 = true then (spec_l03Plain.j0 k a2 a0_0 a0_1 a0_2 a0_3 a0_4 a0_5 a0_6 l0_7 l0_8) else (some false))) else (some false))) else (if a0_2 = 0 then (if a0_3 = 0 then (spec_l03Plain.j0 k a2 a0_0 a0_1 a0_2 a0_3 a0_4 a0_5 a0_6 l0_7 l0_8) else (some false)) else (some false))
theorem spec_l03Plain.calls (k : Nat) (a0_0 : Int) (a0_1 : Int) (a0_2 : Int) (a0_3 : Int) (a0_4 : Int) (a0_5 : Int) (a0_6 : Int) (A0_7 : Option Addr) (c0_7 : Nat) (l0_7 : List Int) (A0_8 : Option Addr) (c0_8 : Nat) (l0_8 : List Int) (a1 : Bool) (a2 : Bool) (r : Bool) (w : World) (hr0_7 : Kd.C (Kd.int .i64) w A0_7 l0_7.length l0_7) (hc0_7 : l0_7.length ≤ c0_7) (hr0_8 : Kd.C (Kd.int .i64) w A0_8 l0_8.length l0_8) (hc0_8 : l0_8.length ≤ c0_8) (h : spec_l03Plain.f k a0_0 a0_1 a0_2 a0_3 a0_4 a0_5 a0_6 l0_7 l0_8 a1 a2 = some r) :
   Calls Try.prog 93 #[.agg #[.int .i64 a0_0, .int .i64 a0_1, .int .i64 a0_2, .int .i64 a0_3, .int .i64 a0_4, .int .i64 a0_5, .int .i64 a0_6, .slice A0_7 l0_7.length c0_7, .slice A0_8 l0_8.length c0_8], .bool a1, .bool a2] w fun e w' => e = .returned (.bool r) ∧ Below w.heap.size w w' := by
  have hu46 := Try.underlying46;have HR0_7 := am hr0_7;have HC0_7 := am hc0_7;clear hr0_7 hc0_7;have HR0_8 := am hr0_8;have HC0_8 := am hc0_8;clear hr0_8 hc0_8;have HB := am (Below.refl w.heap.size w);have H : (if a1 = true then ((spec_l01In.f a0_2 1 3).bind fun t207 => (if t207 = true then ((spec_l01In.f a0_3 1 2).bind fun t208 => (if t208 = true then (spec_l03Plain.j0 k a2 a0_0 a0_1 a0_2 a0_3 a0_4 a0_5 a0_6 l0_7 l0_8) else (some false))) else (some false))) else (if a0_2 = 0 then (if a0_3 = 0 then (spec_l03Plain.j0 k a2 a0_0 a0_1 a0_2 a0_3 a0_4 a0_5 a0_6 l0_7 l0_8) else (some false)) else (some false))) = some r := h;clear h;have HC4 := am H;clear H
  go_enter Try.func93, Try.ntmps93
  go_upto_if 9 with (first | ((with_reducible refine gate_dst (N := 3) rfl ?_); (try (refine gate_guard (by rfl) ?_; dsimp only)); refine boxM 3 #[.int .i64 a0_0, .int .i64 a0_1, .int .i64 a0_2, .int .i64 a0_3, .int .i64 a0_4, .int .i64 a0_5, .int .i64 a0_6, .slice A0_7 l0_7.length c0_7, .slice A0_8 l0_8.length c0_8] 46 ?_; intro gb206 hg w5 BK206 hb; obtain ⟨HB, GW206, GE206⟩ := box_at w hb hg; clear hb hg))
  (try simp only [Act.put, zA, zB, zC])
  go_cut [] (fun wc => ∃ (kq : Nat), Aside0 (spec_l03Plain.j0 kq a2 a0_0 a0_1 a0_2 a0_3 a0_4 a0_5 a0_6 l0_7 l0_8 = some r) ∧ Aside0 (kq ≤ k) ∧ Aside0 (wc.heap[gb206]? = some (.cells #[.int .i64 a0_0, .int .i64 a0_1, .int .i64 a0_2, .int .i64 a0_3, .int .i64 a0_4, .int .i64 a0_5, .int .i64 a0_6, (.slice A0_7 l0_7.length c0_7), (.slice A0_8 l0_8.length c0_8)] 46 (0, 0))) ∧ Aside0 (Below w.heap.size w wc))
  case first =>
   have H := HC4.out;clear HC4;by_cases c6 : a1 = true;rotate_left
   ·replace c6 := Bool.eq_false_iff.mpr c6;subst c6
    rw [if_neg (show ¬ (false = true) by decide)] at H
    by_cases c14 : a0_2 = 0;rotate_left
    ·rw [if_neg c14] at H;have c14b0 : (a0_2 == 0) = false := beq_eq_false_iff_ne.mpr c14;have c14b1 : (a0_2 != 0) = true := bne_iff_ne.mpr c14
     (first | rw [c14b0] | (simp only [i64_w, i32_w]; rw [c14b0]) | skip)
     obtain rfl := Option.some.inj H;have hcz18 := cells9 BK206.out
     go_wp2
     go_ret
     exact ⟨eqN, bel_now⟩
    rw [if_pos c14] at H;have c14b0 : (a0_2 == 0) = true := beq_iff_eq.mpr c14;have c14b1 : (a0_2 != 0) = false := bne_eq_false_iff_eq.mpr c14;clear c14
    (first | rw [c14b0] | (simp only [i64_w, i32_w]; rw [c14b0]) | skip)
    by_cases c15 : a0_3 = 0;rotate_left
    ·rw [if_neg c15] at H;have c15b0 : (a0_3 == 0) = false := beq_eq_false_iff_ne.mpr c15;have c15b1 : (a0_3 != 0) = true := bne_iff_ne.mpr c15;obtain rfl := Option.some.inj H;have hcz17 := cells9 BK206.out
     go_wp2
     go_ret
     exact ⟨eqN, bel_now⟩
    rw [if_pos c15] at H;have c15b0 : (a0_3 == 0) = true := beq_iff_eq.mpr c15;have c15b1 : (a0_3 != 0) = false := bne_eq_false_iff_eq.mpr c15;clear c15;have H' := am H;clear H;have hcz16 := cells9 BK206.out
    go_wp2
    go_meet
    case rel => exact ⟨_, H', ⟨by first | omega | exact Nat.le_refl _⟩, ⟨bks BK206⟩, ⟨bel_now⟩⟩
   subst c6;rw [if_pos rfl] at H;obtain ⟨t207, A7, H⟩ := bnd H;(try dsimp only at H);by_cases c8 : t207 = true;rotate_left
   ·replace c8 := Bool.eq_false_iff.mpr c8;subst c8
    rw [if_neg (show ¬ (false = true) by decide)] at H
    obtain rfl := Option.some.inj H;have hcz13 := cells9 BK206.out
    go_wp2_with (first | ((with_reducible refine gate_callee (f := 68) rfl ?_); refine gM 12 Try.func68 #[.int .i64 a0_2, .int .i64 1, .int .i64 3] rfl ?_; (with_reducible refine (spec_l01In.calls a0_2 1 3 false _ A7.out).mono ?_); rintro e w' ⟨rfl, ⟨nd, rfl⟩⟩; refine ⟨_, rfl, ?_⟩))
    go_ret
    exact ⟨eqN, bel_now⟩
   subst c8;rw [if_pos rfl] at H;obtain ⟨t208, A9, H⟩ := bnd H;(try dsimp only at H);by_cases c10 : t208 = true
   ·subst c10;rw [if_pos rfl] at H;have H' := am H;clear H;have hcz11 := cells9 BK206.out
    go_wp2_with (first | ((with_reducible refine gate_callee (f := 68) rfl ?_); refine gM 12 Try.func68 #[.int .i64 a0_2, .int .i64 1, .int .i64 3] rfl ?_; (with_reducible refine (spec_l01In.calls a0_2 1 3 true _ A7.out).mono ?_); rintro e w' ⟨rfl, ⟨nd, rfl⟩⟩; refine ⟨_, rfl, ?_⟩) | (go_at_call 68; (with_reducible refine (spec_l01In.calls a0_3 1 2 true _ A9.out).mono ?_); rintro e w' ⟨rfl, ⟨nd, rfl⟩⟩))
    go_meet
    case rel => exact ⟨_, H', ⟨by first | omega | exact Nat.le_refl _⟩, ⟨bks BK206⟩, ⟨bel_now⟩⟩
   replace c10 := Bool.eq_false_iff.mpr c10;subst c10
   rw [if_neg (show ¬ (false = true) by decide)] at H
   obtain rfl := Option.some.inj H;have hcz12 := cells9 BK206.out
   go_wp2_with (first | ((with_reducible refine gate_callee (f := 68) rfl ?_); refine gM 12 Try.func68 #[.int .i64 a0_2, .int .i64 1, .int .i64 3] rfl ?_; (with_reducible refine (spec_l01In.calls a0_2 1 3 true _ A7.out).mono ?_); rintro e w' ⟨rfl, ⟨nd, rfl⟩⟩; refine ⟨_, rfl, ?_⟩) | (go_at_call 68; (with_reducible refine (spec_l01In.calls a0_3 1 2 false _ A9.out).mono ?_); rintro e w' ⟨rfl, ⟨nd, rfl⟩⟩))
   go_ret
   exact ⟨eqN, bel_now⟩
  case rest =>
   clear HC4;obtain ⟨kq, HA, HJ3, BK206, HB⟩ := hcut
   cases kq with
   | zero => exact absurd HA.out (by simp [spec_l03Plain.j0])
   | succ kj3 =>
    have H := HA.out;clear HA;simp only [spec_l03Plain.j0] at H;by_cases c19 : a2 = true;rotate_left
    ·replace c19 := Bool.eq_false_iff.mpr c19;subst c19
     rw [if_neg (show ¬ (false = true) by decide)] at H
     have HC49 := am H;clear H
     go_upto_region 20 with (fail)
     go_cut [111] (fun v111 wc => ∃ (kq : Nat) (x111_48 : Bool), v111 = .bool x111_48 ∧ Aside0 (spec_l03Plain.j4 kq x111_48 a0_0 a0_1 a0_2 a0_3 a0_4 a0_5 a0_6 l0_7 l0_8 = some r) ∧ Aside0 (kq ≤ kj3) ∧ Aside0 (wc.heap[gb206]? = some (.cells #[.int .i64 a0_0, .int .i64 a0_1, .int .i64 a0_2, .int .i64 a0_3, .int .i64 a0_4, .int .i64 a0_5, .int .i64 a0_6, (.slice A0_7 l0_7.length c0_7), (.slice A0_8 l0_8.length c0_8)] 46 (0, 0))) ∧ Aside0 (Below w.heap.size w wc))
     case first =>
      have H := HC49.out;clear HC49;by_cases c50 : a0_1 = 0;rotate_left
      ·rw [if_neg c50] at H;have c50b0 : (a0_1 == 0) = false := beq_eq_false_iff_ne.mpr c50;have c50b1 : (a0_1 != 0) = true := bne_iff_ne.mpr c50
       (first | rw [c50b0] | (simp only [i64_w, i32_w]; rw [c50b0]) | skip)
       have H' := am H;clear H;have hcz58 := cells9 BK206.out
       go_wp2
       go_meet
       case rel => exact ⟨_, (true), pv, H', ⟨by have := HJ3.out; first | omega | exact Nat.le_refl _⟩, ⟨bks BK206⟩, ⟨bel_now⟩⟩
      rw [if_pos c50] at H;have c50b0 : (a0_1 == 0) = true := beq_iff_eq.mpr c50;have c50b1 : (a0_1 != 0) = false := bne_eq_false_iff_eq.mpr c50;clear c50
      (first | rw [c50b0] | (simp only [i64_w, i32_w]; rw [c50b0]) | skip)
      by_cases c51 : a0_4 = 0;rotate_left
      ·rw [if_neg c51] at H;have c51b0 : (a0_4 == 0) = false := beq_eq_false_iff_ne.mpr c51;have c51b1 : (a0_4 != 0) = true := bne_iff_ne.mpr c51;have H' := am H;clear H;have hcz57 := cells9 BK206.out
       go_wp2
       go_meet
       case rel => exact ⟨_, (true), pv, H', ⟨by have := HJ3.out; first | omega | exact Nat.le_refl _⟩, ⟨bks BK206⟩, ⟨bel_now⟩⟩
      rw [if_pos c51] at H;have c51b0 : (a0_4 == 0) = true := beq_iff_eq.mpr c51;have c51b1 : (a0_4 != 0) = false := bne_eq_false_iff_eq.mpr c51;clear c51;by_cases c52 : a0_5 = 0;rotate_left
      ·rw [if_neg c52] at H;have c52b0 : (a0_5 == 0) = false := beq_eq_false_iff_ne.mpr c52;have c52b1 : (a0_5 != 0) = true := bne_iff_ne.mpr c52;have H' := am H;clear H;have hcz56 := cells9 BK206.out
       go_wp2
       go_meet
       case rel => exact ⟨_, (true), pv, H', ⟨by have := HJ3.out; first | omega | exact Nat.le_refl _⟩, ⟨bks BK206⟩, ⟨bel_now⟩⟩
      rw [if_pos c52] at H;have c52b0 : (a0_5 == 0) = true := beq_iff_eq.mpr c52;have c52b1 : (a0_5 != 0) = false := bne_eq_false_iff_eq.mpr c52;clear c52;by_cases c53 : (l0_7.length : Int) > 0
      ·rw [if_pos c53] at H;have c53b0 : decide (0 < (l0_7.length : Int)) = true := decide_eq_true c53;have c53b1 : decide (0 < l0_7.length) = true := decide_eq_true (by omega);clear c53;have H' := am H;clear H;have hcz54 := cells9 BK206.out
       go_wp2
       go_meet
       case rel => exact ⟨_, (true), pv, H', ⟨by have := HJ3.out; first | omega | exact Nat.le_refl _⟩, ⟨bks BK206⟩, ⟨bel_now⟩⟩
      rw [if_neg c53] at H;have c53b0 : decide (0 < (l0_7.length : Int)) = false := decide_eq_false c53;have c53b1 : decide (0 < l0_7.length) = false := decide_eq_false (by omega);clear c53;have H' := am H;clear H;have hcz55 := cells9 BK206.out
      go_wp2
      go_meet
      case rel => exact ⟨_, (decide ((l0_8.length : Int) > 0)), pv, H', ⟨by have := HJ3.out; first | omega | exact Nat.le_refl _⟩, ⟨bks BK206⟩, ⟨bel_now⟩⟩
     case rest =>
      clear HC49;try clear c19
      obtain ⟨kq, x111_48, rfl, HA, HJ48, BK206, HB⟩ := hcut
      cases kq with
      | zero => exact absurd HA.out (by simp [spec_l03Plain.j4])
      | succ kj48 =>
       have H := HA.out;clear HA;simp only [spec_l03Plain.j4] at H;by_cases c59 : x111_48 = true
       ·subst c59;rw [if_pos rfl] at H;obtain rfl := Option.some.inj H
        go_wp2
        go_ret
        exact ⟨eqN, bel_now⟩
       replace c59 := Bool.eq_false_iff.mpr c59;subst c59
       rw [if_neg (show ¬ (false = true) by decide)] at H
       by_cases c60 : a0_0 = 4;rotate_left
       ·rw [if_neg c60] at H;have c60b0 : (a0_0 == 4) = false := beq_eq_false_iff_ne.mpr c60;have c60b1 : (a0_0 != 4) = true := bne_iff_ne.mpr c60;obtain rfl := Option.some.inj H;have hcz63 := cells9 BK206.out
        go_wp2
        go_ret
        exact ⟨eqN, bel_now⟩
       rw [if_pos c60] at H;have c60b0 : (a0_0 == 4) = true := beq_iff_eq.mpr c60;have c60b1 : (a0_0 != 4) = false := bne_eq_false_iff_eq.mpr c60;clear c60;obtain ⟨t217, A61, H⟩ := bnd H;(try dsimp only at H);obtain rfl := Option.some.inj H;have hcz62 := cells9 BK206.out
       go_wp2_with (first | ((with_reducible refine gate_callee (f := 47) rfl ?_); refine gM 117 Try.func47 #[.int .i64 a0_6] rfl ?_; (with_reducible refine (spec_l02Int8.calls a0_6 t217 _ A61.out).mono ?_); rintro e w' ⟨rfl, ⟨nd, rfl⟩⟩; refine ⟨_, rfl, ?_⟩))
       go_ret
       exact ⟨eqN, bel_now⟩
    subst c19;rw [if_pos rfl] at H;have HC20 := am H;clear H
    go_upto_region 7 with (fail)
    go_cut [58] (fun v58 wc => ∃ (kq : Nat) (x58_19 : Bool), v58 = .bool x58_19 ∧ Aside0 (spec_l03Plain.j1 kq x58_19 a0_0 a0_1 a0_2 a0_3 a0_4 a0_5 a0_6 l0_7 l0_8 = some r) ∧ Aside0 (kq ≤ kj3) ∧ Aside0 (wc.heap[gb206]? = some (.cells #[.int .i64 a0_0, .int .i64 a0_1, .int .i64 a0_2, .int .i64 a0_3, .int .i64 a0_4, .int .i64 a0_5, .int .i64 a0_6, (.slice A0_7 l0_7.length c0_7), (.slice A0_8 l0_8.length c0_8)] 46 (0, 0))) ∧ Aside0 (Below w.heap.size w wc))
    case first =>
     have H := HC20.out;clear HC20;obtain ⟨t209, A21, H⟩ := bnd H;(try dsimp only at H);by_cases c22 : t209 = true;rotate_left
     ·replace c22 := Bool.eq_false_iff.mpr c22;subst c22
      rw [if_neg (show ¬ (false = true) by decide)] at H
      have H' := am H;clear H;have hcz33 := cells9 BK206.out
      go_wp2_with (first | ((with_reducible refine gate_callee (f := 68) rfl ?_); refine gM 31 Try.func68 #[.int .i64 a0_1, .int .i64 1, .int .i64 8] rfl ?_; (with_reducible refine (spec_l01In.calls a0_1 1 8 false _ A21.out).mono ?_); rintro e w' ⟨rfl, ⟨nd, rfl⟩⟩; refine ⟨_, rfl, ?_⟩))
      go_meet
      case rel => exact ⟨_, (true), pv, H', ⟨by have := HJ3.out; first | omega | exact Nat.le_refl _⟩, ⟨bks BK206⟩, ⟨bel_now⟩⟩
     subst c22;rw [if_pos rfl] at H;obtain ⟨t210, A23, H⟩ := bnd H;(try dsimp only at H);by_cases c24 : t210 = true;rotate_left
     ·replace c24 := Bool.eq_false_iff.mpr c24;subst c24
      rw [if_neg (show ¬ (false = true) by decide)] at H
      have H' := am H;clear H;have hcz32 := cells9 BK206.out
      go_wp2_with (first | ((with_reducible refine gate_callee (f := 68) rfl ?_); refine gM 31 Try.func68 #[.int .i64 a0_1, .int .i64 1, .int .i64 8] rfl ?_; (with_reducible refine (spec_l01In.calls a0_1 1 8 true _ A21.out).mono ?_); rintro e w' ⟨rfl, ⟨nd, rfl⟩⟩; refine ⟨_, rfl, ?_⟩) | (go_at_call 68; (with_reducible refine (spec_l01In.calls a0_4 0 2147483647 false _ A23.out).mono ?_); rintro e w' ⟨rfl, ⟨nd, rfl⟩⟩))
      go_meet
      case rel => exact ⟨_, (true), pv, H', ⟨by have := HJ3.out; first | omega | exact Nat.le_refl _⟩, ⟨bks BK206⟩, ⟨bel_now⟩⟩
     subst c24;rw [if_pos rfl] at H;obtain ⟨t211, A25, H⟩ := bnd H;(try dsimp only at H);by_cases c26 : t211 = true;rotate_left
     ·replace c26 := Bool.eq_false_iff.mpr c26;subst c26
      rw [if_neg (show ¬ (false = true) by decide)] at H
      have H' := am H;clear H;have hcz31 := cells9 BK206.out
      go_wp2_with (first | ((with_reducible refine gate_callee (f := 68) rfl ?_); refine gM 31 Try.func68 #[.int .i64 a0_1, .int .i64 1, .int .i64 8] rfl ?_; (with_reducible refine (spec_l01In.calls a0_1 1 8 true _ A21.out).mono ?_); rintro e w' ⟨rfl, ⟨nd, rfl⟩⟩; refine ⟨_, rfl, ?_⟩) | (go_at_call 68; (with_reducible refine (spec_l01In.calls a0_4 0 2147483647 true _ A23.out).mono ?_); rintro e w' ⟨rfl, ⟨nd, rfl⟩⟩) | (go_at_call 68; (with_reducible refine (spec_l01In.calls a0_5 0 31 false _ A25.out).mono ?_); rintro e w' ⟨rfl, ⟨nd, rfl⟩⟩))
      go_meet
      case rel => exact ⟨_, (true), pv, H', ⟨by have := HJ3.out; first | omega | exact Nat.le_refl _⟩, ⟨bks BK206⟩, ⟨bel_now⟩⟩
     subst c26;rw [if_pos rfl] at H;obtain ⟨t212, A27, H⟩ := bnd H;(try dsimp only at H);by_cases c28 : t212 = true
     ·subst c28;rw [if_pos rfl] at H;have H' := am H;clear H;have hcz29 := cells9 BK206.out
      go_wp2_with (first | ((with_reducible refine gate_callee (f := 68) rfl ?_); refine gM 31 Try.func68 #[.int .i64 a0_1, .int .i64 1, .int .i64 8] rfl ?_; (with_reducible refine (spec_l01In.calls a0_1 1 8 true _ A21.out).mono ?_); rintro e w' ⟨rfl, ⟨nd, rfl⟩⟩; refine ⟨_, rfl, ?_⟩) | (go_at_call 68; (with_reducible refine (spec_l01In.calls a0_4 0 2147483647 true _ A23.out).mono ?_); rintro e w' ⟨rfl, ⟨nd, rfl⟩⟩) | (go_at_call 68; (with_reducible refine (spec_l01In.calls a0_5 0 31 true _ A25.out).mono ?_); rintro e w' ⟨rfl, ⟨nd, rfl⟩⟩) | (go_at_call 47; (with_reducible refine (spec_l02Int8.calls a0_6 true _ A27.out).mono ?_); rintro e w' ⟨rfl, ⟨nd, rfl⟩⟩))
      go_meet
      case rel => exact ⟨_, (((l0_8.length : Int) != a0_1)), pv, H', ⟨by have := HJ3.out; first | omega | exact Nat.le_refl _⟩, ⟨bks BK206⟩, ⟨bel_now⟩⟩
     replace c28 := Bool.eq_false_iff.mpr c28;subst c28
     rw [if_neg (show ¬ (false = true) by decide)] at H
     have H' := am H;clear H;have hcz30 := cells9 BK206.out
     go_wp2_with (first | ((with_reducible refine gate_callee (f := 68) rfl ?_); refine gM 31 Try.func68 #[.int .i64 a0_1, .int .i64 1, .int .i64 8] rfl ?_; (with_reducible refine (spec_l01In.calls a0_1 1 8 true _ A21.out).mono ?_); rintro e w' ⟨rfl, ⟨nd, rfl⟩⟩; refine ⟨_, rfl, ?_⟩) | (go_at_call 68; (with_reducible refine (spec_l01In.calls a0_4 0 2147483647 true _ A23.out).mono ?_); rintro e w' ⟨rfl, ⟨nd, rfl⟩⟩) | (go_at_call 68; (with_reducible refine (spec_l01In.calls a0_5 0 31 true _ A25.out).mono ?_); rintro e w' ⟨rfl, ⟨nd, rfl⟩⟩) | (go_at_call 47; (with_reducible refine (spec_l02Int8.calls a0_6 false _ A27.out).mono ?_); rintro e w' ⟨rfl, ⟨nd, rfl⟩⟩))
     go_meet
     case rel => exact ⟨_, (true), pv, H', ⟨by have := HJ3.out; first | omega | exact Nat.le_refl _⟩, ⟨bks BK206⟩, ⟨bel_now⟩⟩
    case rest =>
     clear HC20;try clear c19
     obtain ⟨kq, x58_19, rfl, HA, HJ19, BK206, HB⟩ := hcut
     cases kq with
     | zero => exact absurd HA.out (by simp [spec_l03Plain.j1])
     | succ kj19 =>
      have H := HA.out;clear HA;simp only [spec_l03Plain.j1] at H;by_cases c34 : x58_19 = true
      ·subst c34;rw [if_pos rfl] at H;obtain rfl := Option.some.inj H
       go_wp2
       go_ret
       exact ⟨eqN, bel_now⟩
      replace c34 := Bool.eq_false_iff.mpr c34;subst c34
      rw [if_neg (show ¬ (false = true) by decide)] at H
      have H' := am H;clear H
      go_wp2
      go_loopg [7] kj19 (fun kq v7 w' => ∃ (x7_3 : Int), v7 = .int .i64 x7_3 ∧ Aside0 (spec_l03Plain.l0 kq x7_3 a0_0 a0_1 a0_2 a0_3 a0_4 a0_5 a0_6 l0_7 l0_8 = some r) ∧ Aside0 (kq ≤ kj19) ∧ Aside0 (w'.heap[gb206]? = some (.cells #[.int .i64 a0_0, .int .i64 a0_1, .int .i64 a0_2, .int .i64 a0_3, .int .i64 a0_4, .int .i64 a0_5, .int .i64 a0_6, (.slice A0_7 l0_7.length c0_7), (.slice A0_8 l0_8.length c0_8)] 46 (0, 0))) ∧ Aside0 (Below w.heap.size w w'))
      case atStart => exact ⟨(0), pv, H', ⟨Nat.le_refl _⟩, ⟨bks BK206⟩, ⟨bel_now⟩⟩
      case round =>
       clear H';try clear c19
       try clear c34
       obtain ⟨x7_3, rfl, HA, HK3, BK206, HB⟩ := hrel
       cases gk with
       | zero => exact absurd HA.out (by simp [spec_l03Plain.l0])
       | succ k3 =>
        have H := HA.out;clear HA;simp only [spec_l03Plain.l0] at H;by_cases c35 : x7_3 < (l0_8.length : Int)
        ·rw [if_pos c35] at H;have c35b0 : decide (x7_3 < (l0_8.length : Int)) = true := decide_eq_true c35;clear c35;obtain ⟨c36, H⟩ := gd H;have c36b0 : decide (0 ≤ x7_3) = true := decide_eq_true c36;clear c36;obtain ⟨t214, A37, H⟩ := bnd H;(try dsimp only at H);by_cases c38 : t214 = true;rotate_left
         ·replace c38 := Bool.eq_false_iff.mpr c38;subst c38
          rw [if_neg (show ¬ (false = true) by decide)] at H
          obtain rfl := Option.some.inj H;have hcz40 := cells9 BK206.out;have p213 : 0 ≤ (x7_3 : Int) := of_decide_eq_true (by first | (with_reducible assumption) | assumption);have q213 : x7_3 < (l0_8.length : Int) := of_decide_eq_true (by first | (with_reducible assumption) | assumption);obtain ⟨ad213, e213, hx213_0⟩ := Kd.at_int HR0_8.out x7_3 p213 q213;cases e213;replace hx213_0 := (HB.out.cell (World.block_lt_of_cell? w _ hx213_0)).trans hx213_0;replace p213 := eq_true p213;replace q213 := eq_true q213
          go_wp2_with (first | ((with_reducible refine gate_callee (f := 68) rfl ?_); refine gM 71 Try.func68 #[.int .i64 (rd l0_8 x7_3), .int .i64 (-1000000), .int .i64 1000000] rfl ?_; (with_reducible refine (spec_l01In.calls (rd l0_8 x7_3) (-1000000) 1000000 false _ A37.out).mono ?_); rintro e w' ⟨rfl, ⟨nd, rfl⟩⟩; refine ⟨_, rfl, ?_⟩))
          go_ret
          exact ⟨eqN, bel_now⟩
         subst c38;rw [if_pos rfl] at H;have H' := am H;clear H;have hcz39 := cells9 BK206.out;have p213 : 0 ≤ (x7_3 : Int) := of_decide_eq_true (by first | (with_reducible assumption) | assumption);have q213 : x7_3 < (l0_8.length : Int) := of_decide_eq_true (by first | (with_reducible assumption) | assumption);obtain ⟨ad213, e213, hx213_0⟩ := Kd.at_int HR0_8.out x7_3 p213 q213;cases e213;replace hx213_0 := (HB.out.cell (World.block_lt_of_cell? w _ hx213_0)).trans hx213_0;replace p213 := eq_true p213;replace q213 := eq_true q213
         go_wp2_with (first | ((with_reducible refine gate_callee (f := 68) rfl ?_); refine gM 71 Try.func68 #[.int .i64 (rd l0_8 x7_3), .int .i64 (-1000000), .int .i64 1000000] rfl ?_; (with_reducible refine (spec_l01In.calls (rd l0_8 x7_3) (-1000000) 1000000 true _ A37.out).mono ?_); rintro e w' ⟨rfl, ⟨nd, rfl⟩⟩; refine ⟨_, rfl, ?_⟩))
         go_roundg k3
         case measure => have := HJ3.out; have := HJ19.out; have := HK3.out; omega
         case rel => exact ⟨(wrap64 (x7_3 + 1)), pv, H', ⟨by have := HJ3.out; have := HJ19.out; have := HK3.out; omega⟩, ⟨bks BK206⟩, ⟨bel_now⟩⟩
        rw [if_neg c35] at H;have c35b0 : decide (x7_3 < (l0_8.length : Int)) = false := decide_eq_false c35;clear c35;have H' := am H;clear H;have hcz41 := cells9 BK206.out
        go_wp2
        go_loopg [8] k3 (fun kq v8 w' => ∃ (x8_4 : Int), v8 = .int .i64 x8_4 ∧ Aside0 (spec_l03Plain.l1 kq x8_4 a0_0 a0_1 a0_2 a0_3 a0_4 a0_5 a0_6 l0_7 l0_8 = some r) ∧ Aside0 (kq ≤ k3) ∧ Aside0 (w'.heap[gb206]? = some (.cells #[.int .i64 a0_0, .int .i64 a0_1, .int .i64 a0_2, .int .i64 a0_3, .int .i64 a0_4, .int .i64 a0_5, .int .i64 a0_6, (.slice A0_7 l0_7.length c0_7), (.slice A0_8 l0_8.length c0_8)] 46 (0, 0))) ∧ Aside0 (Below w.heap.size w w'))
        case atStart => exact ⟨(0), pv, H', ⟨Nat.le_refl _⟩, ⟨bks BK206⟩, ⟨bel_now⟩⟩
        case round =>
         clear H';try clear c19
         try clear c34
         try clear c35
         try clear c35b0
         try clear hcz41
         obtain ⟨x8_4, rfl, HA, HK4, BK206, HB⟩ := hrel
         cases gk with
         | zero => exact absurd HA.out (by simp [spec_l03Plain.l1])
         | succ k4 =>
          have H := HA.out;clear HA;simp only [spec_l03Plain.l1] at H;by_cases c42 : x8_4 < (l0_7.length : Int);rotate_left
          ·rw [if_neg c42] at H;have c42b0 : decide (x8_4 < (l0_7.length : Int)) = false := decide_eq_false c42;clear c42;obtain rfl := Option.some.inj H;have hcz48 := cells9 BK206.out
           go_wp2
           go_ret
           exact ⟨eqN, bel_now⟩
          rw [if_pos c42] at H;have c42b0 : decide (x8_4 < (l0_7.length : Int)) = true := decide_eq_true c42;clear c42;obtain ⟨c43, H⟩ := gd H;have c43b0 : decide (0 ≤ x8_4) = true := decide_eq_true c43;clear c43;obtain ⟨t216, A44, H⟩ := bnd H;(try dsimp only at H);by_cases c45 : t216 = true;rotate_left
          ·replace c45 := Bool.eq_false_iff.mpr c45;subst c45
           rw [if_neg (show ¬ (false = true) by decide)] at H
           obtain rfl := Option.some.inj H;have hcz47 := cells9 BK206.out;have p215 : 0 ≤ (x8_4 : Int) := of_decide_eq_true (by first | (with_reducible assumption) | assumption);have q215 : x8_4 < (l0_7.length : Int) := of_decide_eq_true (by first | (with_reducible assumption) | assumption);obtain ⟨ad215, e215, hx215_0⟩ := Kd.at_int HR0_7.out x8_4 p215 q215;cases e215;replace hx215_0 := (HB.out.cell (World.block_lt_of_cell? w _ hx215_0)).trans hx215_0;replace p215 := eq_true p215;replace q215 := eq_true q215
           go_wp2_with (first | ((with_reducible refine gate_callee (f := 47) rfl ?_); refine gM 85 Try.func47 #[.int .i64 (rd l0_7 x8_4)] rfl ?_; (with_reducible refine (spec_l02Int8.calls (rd l0_7 x8_4) false _ A44.out).mono ?_); rintro e w' ⟨rfl, ⟨nd, rfl⟩⟩; refine ⟨_, rfl, ?_⟩))
           go_ret
           exact ⟨eqN, bel_now⟩
          subst c45;rw [if_pos rfl] at H;have H' := am H;clear H;have hcz46 := cells9 BK206.out;have p215 : 0 ≤ (x8_4 : Int) := of_decide_eq_true (by first | (with_reducible assumption) | assumption);have q215 : x8_4 < (l0_7.length : Int) := of_decide_eq_true (by first | (with_reducible assumption) | assumption);obtain ⟨ad215, e215, hx215_0⟩ := Kd.at_int HR0_7.out x8_4 p215 q215;cases e215;replace hx215_0 := (HB.out.cell (World.block_lt_of_cell? w _ hx215_0)).trans hx215_0;replace p215 := eq_true p215;replace q215 := eq_true q215
          go_wp2_with (first | ((with_reducible refine gate_callee (f := 47) rfl ?_); refine gM 85 Try.func47 #[.int .i64 (rd l0_7 x8_4)] rfl ?_; (with_reducible refine (spec_l02Int8.calls (rd l0_7 x8_4) true _ A44.out).mono ?_); rintro e w' ⟨rfl, ⟨nd, rfl⟩⟩; refine ⟨_, rfl, ?_⟩))
          go_roundg k4
          case measure => have := HJ3.out; have := HJ19.out; have := HK3.out; have := HK4.out; omega
          case rel => exact ⟨(wrap64 (x8_4 + 1)), pv, H', ⟨by have := HJ3.out; have := HJ19.out; have := HK3.out; have := HK4.out; omega⟩, ⟨bks BK206⟩, ⟨bel_now⟩⟩

end Go.Proofs.Ytjmejobelkllmaa.PFnStored
