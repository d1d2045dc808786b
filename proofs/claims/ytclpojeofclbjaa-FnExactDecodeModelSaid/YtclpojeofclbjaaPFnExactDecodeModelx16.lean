import Derived.Test.YtclpojeofclbjaaPFnExactDecodeModelx0
namespace Go.Proofs.Ytclpojeofclbjaa.PFnExactDecodeModel
open Go.RowKit Go.Proofs.YtclpojeofclbjaaW.PrintWords Go.Proofs.YtclpojeofclbjaaW.PrintLast Go.Proofs.YtclpojeofclbjaaW.PrintMore
attribute [local go_sem] max2_int min2_int max_two min_two max_three min_three max_four min_four
set_option maxHeartbeats 8000000
set_option maxRecDepth 100000
set_option linter.unusedVariables false
set_option linter.unusedSimpArgs false

def laws_eqByteS.l0 : Nat → List Int → List Int → Int → Option (Bool)
  | 0, _, _, _ => none
  | k + 1, x0, x1, x5 => if x5 < (x0.length : Int) then (if 0 ≤ x5 then (if x5 < (x1.length : Int) then (if (rd x0 x5) = (rd x1 x5) then (laws_eqByteS.l0 k x0 x1 (wrap64 (x5 + 1))) else (some false)) else (none)) else (none)) else (some true)
def laws_eqByteS.f (k : Nat) (l0 : List Int) (l1 : List Int) : Option (Bool) := if (l0.length : Int) = (l1.length : Int) then (laws_eqByteS.l0 k l0 l1 0) else (some false)
theorem laws_eqByteS.calls (k : Nat) (A0 : Option Addr) (c0 : Nat) (l0 : List Int) (A1 : Option Addr) (c1 : Nat) (l1 : List Int) (r : Bool) (w : World) (hr0 : Kd.C (Kd.int .u8) w A0 l0.length l0) (hc0 : l0.length ≤ c0) (hr1 : Kd.C (Kd.int .u8) w A1 l1.length l1) (hc1 : l1.length ≤ c1) (h : laws_eqByteS.f k l0 l1 = some r) :
   Calls Try.prog 39 #[.slice A0 l0.length c0, .slice A1 l1.length c1] w fun e w' => e = .returned (.bool r) ∧ Drawn0 w w' := by
  have HR0 := am hr0;have HC0 := am hc0;clear hr0 hc0;have HR1 := am hr1;have HC1 := am hc1;clear hr1 hc1;have H : (if (l0.length : Int) = (l1.length : Int) then (laws_eqByteS.l0 k l0 l1 0) else (some false)) = some r := h;clear h;by_cases c3 : (l0.length : Int) = (l1.length : Int);rotate_left
  ·rw [if_neg c3] at H;have c3b0 : ((l0.length : Int) == (l1.length : Int)) = false := beq_eq_false_iff_ne.mpr c3;have c3b1 : ((l0.length : Int) != (l1.length : Int)) = true := bne_iff_ne.mpr c3;have c3b2 : (l0.length == l1.length) = false := by first | simpa using c3 | (simp at c3 ⊢; omega)
   obtain rfl := Option.some.inj H
   go_enter Try.func39, Try.ntmps39
   go_wp2
   repeat (go_quiet (fail); try go_wp2)
   go_ret
   exact ⟨by first | rfl | (simp; done) | (simp [*]; done), by repeat (first | exact Drawn0.refl _ | apply Drawn0.step)⟩
  rw [if_pos c3] at H;have c3b0 : ((l0.length : Int) == (l1.length : Int)) = true := beq_iff_eq.mpr c3;have c3b1 : ((l0.length : Int) != (l1.length : Int)) = false := bne_eq_false_iff_eq.mpr c3;have c3b2 : (l0.length == l1.length) = true := by first | simpa using c3 | (simp at c3 ⊢; omega)
  clear c3;have H' := am H;clear H
  go_enter Try.func39, Try.ntmps39
  go_wp2
  repeat (go_quiet (fail); try go_wp2)
  go_loopg [5] k (fun kq v5 w' => ∃ (x5_1 : Int), v5 = .int .i64 x5_1 ∧ Aside0 (laws_eqByteS.l0 kq l0 l1 x5_1 = some r) ∧ Aside0 (kq ≤ k) ∧ Drawn0 w w')
  case atStart => exact ⟨(0), pv, H', ⟨Nat.le_refl _⟩, by repeat (first | exact Drawn0.refl _ | apply Drawn0.step)⟩
  case round =>
   clear H';try clear c1
   try clear c3
   try clear c3b0
   try clear c3b1
   try clear c3b2
   obtain ⟨x5_1, rfl, HA, HK1, ⟨m1, rfl⟩⟩ := hrel
   cases gk with
   | zero => exact absurd HA.out (by simp [laws_eqByteS.l0])
   | succ k1 =>
    have H := HA.out;clear HA;simp only [laws_eqByteS.l0] at H;by_cases c4 : x5_1 < (l0.length : Int);rotate_left
    ·rw [if_neg c4] at H;have c4b0 : decide (x5_1 < (l0.length : Int)) = false := decide_eq_false c4;clear c4;obtain rfl := Option.some.inj H
     go_wp2
     repeat (go_quiet (fail); try go_wp2)
     go_ret
     exact ⟨by first | rfl | (simp; done) | (simp [*]; done), by repeat (first | exact Drawn0.refl _ | apply Drawn0.step)⟩
    rw [if_pos c4] at H;have c4b0 : decide (x5_1 < (l0.length : Int)) = true := decide_eq_true c4;clear c4;obtain ⟨c5, H⟩ := gd H;have c5b0 : decide (0 ≤ x5_1) = true := decide_eq_true c5;clear c5;obtain ⟨c6, H⟩ := gd H;have c6b0 : decide (x5_1 < (l1.length : Int)) = true := decide_eq_true c6;clear c6;by_cases c7 : (rd l0 x5_1) = (rd l1 x5_1);rotate_left
    ·rw [if_neg c7] at H;have c7b0 : ((rd l0 x5_1) == (rd l1 x5_1)) = false := beq_eq_false_iff_ne.mpr c7;have c7b1 : ((rd l0 x5_1) != (rd l1 x5_1)) = true := bne_iff_ne.mpr c7;obtain rfl := Option.some.inj H;have p407 : 0 ≤ (x5_1 : Int) := of_decide_eq_true (by first | (with_reducible assumption) | assumption);have q407 : x5_1 < (l0.length : Int) := of_decide_eq_true (by first | (with_reducible assumption) | assumption);obtain ⟨ad407, e407, hx407_0⟩ := Kd.at_int HR0.out x5_1 p407 q407;cases e407;replace p407 := eq_true p407;replace q407 := eq_true q407;have p408 : 0 ≤ (x5_1 : Int) := of_decide_eq_true (by first | (with_reducible assumption) | assumption);have q408 : x5_1 < (l1.length : Int) := of_decide_eq_true (by first | (with_reducible assumption) | assumption);obtain ⟨ad408, e408, hx408_0⟩ := Kd.at_int HR1.out x5_1 p408 q408;cases e408;replace p408 := eq_true p408;replace q408 := eq_true q408
     go_wp2
     repeat (go_quiet (fail); try go_wp2)
     go_ret
     exact ⟨by first | rfl | (simp; done) | (simp [*]; done), by repeat (first | exact Drawn0.refl _ | apply Drawn0.step)⟩
    rw [if_pos c7] at H;have c7b0 : ((rd l0 x5_1) == (rd l1 x5_1)) = true := beq_iff_eq.mpr c7;have c7b1 : ((rd l0 x5_1) != (rd l1 x5_1)) = false := bne_eq_false_iff_eq.mpr c7;clear c7;have H' := am H;clear H;have p407 : 0 ≤ (x5_1 : Int) := of_decide_eq_true (by first | (with_reducible assumption) | assumption);have q407 : x5_1 < (l0.length : Int) := of_decide_eq_true (by first | (with_reducible assumption) | assumption);obtain ⟨ad407, e407, hx407_0⟩ := Kd.at_int HR0.out x5_1 p407 q407;cases e407;replace p407 := eq_true p407;replace q407 := eq_true q407;have p408 : 0 ≤ (x5_1 : Int) := of_decide_eq_true (by first | (with_reducible assumption) | assumption);have q408 : x5_1 < (l1.length : Int) := of_decide_eq_true (by first | (with_reducible assumption) | assumption);obtain ⟨ad408, e408, hx408_0⟩ := Kd.at_int HR1.out x5_1 p408 q408;cases e408;replace p408 := eq_true p408;replace q408 := eq_true q408
    go_wp2
    repeat (go_quiet (fail); try go_wp2)
    go_roundg k1
    case measure => have := HK1.out; omega
    case rel => exact ⟨(wrap64 (x5_1 + 1)), pv, H', ⟨by have := HK1.out; omega⟩, by repeat (first | exact Drawn0.refl _ | apply Drawn0.step)⟩

def laws_markByteS.l0 : Nat → List Int → Int → Int → Option (Int × List Int)
  | 0, _, _, _ => none
  | k + 1, x0, x1, x5 => if x5 < (x0.length : Int) then (if 0 ≤ x5 then (laws_markByteS.l0 k (x0.set (x5 : Int).toNat ((x1) % 256)) (wrap64 (x1 + 1)) (wrap64 (x5 + 1))) else (none)) else (some (x1, x0))
def laws_markByteS.f (k : Nat) (l0 : List Int) (a1 : Int) : Option (Int × List Int) := laws_markByteS.l0 k l0 a1 0
theorem laws_markByteS.calls (k : Nat) (P0_ : Nat → Prop) (u9000_ : Value) (l0 : List Int) (a1 : Int) (r1 : Int) (r2 : List Int) (w0 w : World) (hB : Below w0.heap.size w0 w) (ho0 : Kd.R (Kd.int .u8) 5 w w0.heap.size P0_ u9000_ l0) (h : laws_markByteS.f k l0 a1 = some (r1, r2)) :
   Calls Try.prog 40 #[u9000_, .int .i64 a1] w fun e w' => e = .returned (.int .i64 r1) ∧ Kd.R (Kd.int .u8) 5 w' w0.heap.size (fun k_ => (P0_ k_ ∨ w.heap.size ≤ k_)) u9000_ r2 ∧ Below w0.heap.size w0 w' ∧ Kept w w' (fun k_ => P0_ k_) := by
  have HO0 := am (show Kd.R (Kd.int .u8) 5 w w0.heap.size (fun k_ => (P0_ k_ ∨ w.heap.size ≤ k_)) u9000_ l0 from Kd.R_mono ho0 (fun k_ hk => (.inl hk)))
  have HK := am (Kept.refl w (fun k_ => P0_ k_));have HW0 := am hB.size;have HB := am hB;clear hB;have H : (laws_markByteS.l0 k l0 a1 0) = some (r1, r2) := h;clear h;have H' := am H;clear H
  go_enter Try.func40, Try.ntmps40
  go_wp2
  go_loopg [1, 5] k (fun kq v1 v5 w' => ∃ (x0_1 : List Int) (x1_1 : Int) (x5_1 : Int), v1 = .int .i64 x1_1 ∧ v5 = .int .i64 x5_1 ∧ Aside0 (laws_markByteS.l0 kq x0_1 x1_1 x5_1 = some (r1, r2)) ∧ Aside0 (kq ≤ k) ∧ Aside0 (Kd.R (Kd.int .u8) 5 w' w0.heap.size (fun k_ => (P0_ k_ ∨ w.heap.size ≤ k_)) u9000_ x0_1) ∧ Aside0 (Kept w w' (fun k_ => P0_ k_)) ∧ Aside0 (Below w0.heap.size w0 w'))
  case atStart => exact ⟨(l0), (a1), (0), pv, pv, H', ⟨Nat.le_refl _⟩, ⟨R_at HO0.out⟩, ⟨by repeat (first | (with_reducible first | exact HK.out | apply Kept.alloc | apply Kept.drewN | apply Kept.drew) | exact HK.out)⟩, ⟨bel_now⟩⟩
  case round =>
   clear H';obtain ⟨x0_1, x1_1, x5_1, rfl, rfl, HA, HK1, HO_0, HK, HB⟩ := hrel
   cases gk with
   | zero => exact absurd HA.out (by simp [laws_markByteS.l0])
   | succ k1 =>
    have H := HA.out;clear HA;simp only [laws_markByteS.l0] at H;by_cases c3 : x5_1 < (x0_1.length : Int);rotate_left
    ·rw [if_neg c3] at H;have c3b0 : decide (x5_1 < (x0_1.length : Int)) = false := decide_eq_false c3;clear c3;simp only [Option.some.injEq, Prod.mk.injEq] at H;obtain ⟨rfl, rfl⟩ := H;obtain ⟨Ao9, co9, eo9⟩ := Kd.R_slice HO_0.out;subst eo9
     go_wp2
     go_ret
     exact ⟨eqN, R_at HO_0.out, by repeat (first | (with_reducible first | exact HB.out | apply below_alloc | apply pw_below_drewN | apply below_drew1) | exact HB.out), by repeat (first | (with_reducible first | exact HK.out | apply Kept.alloc | apply Kept.drewN | apply Kept.drew) | exact HK.out)⟩
    rw [if_pos c3] at H;have c3b0 : decide (x5_1 < (x0_1.length : Int)) = true := decide_eq_true c3;clear c3;obtain ⟨c4, H⟩ := gd H;have c4b0 : decide (0 ≤ x5_1) = true := decide_eq_true c4;clear c4;obtain ⟨y409, hy409⟩ : ∃ y_ : List Int, y_ = (x0_1.set (x5_1 : Int).toNat ((x1_1) % 256)) := ⟨_, rfl⟩;replace H : (laws_markByteS.l0 k1 y409 (wrap64 (x1_1 + 1)) (wrap64 (x5_1 + 1))) = some (r1, r2) := by first | (rw [hy409]; with_reducible exact H) | (have H2_ := (Option.bind_some _ _).symm.trans H; rw [hy409]; with_reducible exact H2_) | (have H2_ := (Option.bind_some _ _).symm.trans H; with_reducible exact H2_) | with_reducible exact H | (rw [hy409]; exact H) | exact H
    have Ny409 := am hy409;clear hy409;have H' := am H;clear H;obtain ⟨Ao6, co6, eo6⟩ := Kd.R_slice HO_0.out;subst eo6;have p5 : 0 ≤ (x5_1 : Int) := of_decide_eq_true (by first | (with_reducible assumption) | assumption);have q5 : (x5_1 : Int) < ((x0_1.length : Int) : Int) := of_decide_eq_true (by first | (with_reducible assumption) | assumption);obtain ⟨go5, co5, eo5, gb5, gl5, cl5, HG5⟩ := Kd.R_form HO_0.out (by omega)
    (first | cases eo5 | (injection eo5 with ea_ en_ ec_; (first | subst ea_ | (injection ea_ with ea_; subst ea_)); subst ec_; clear en_))
    have GB5 := am gb5;have GG5 := am HG5;clear gb5 gl5 HG5;have HMgo5 := am (show (P0_ go5 ∨ w.heap.size ≤ go5) from (HO_0.out.1 _ rfl))
    obtain ⟨hx5_0, hf5_0⟩ := Kd.R_celln 0 HO_0.out (x5_1 : Int) p5 q5;replace p5 := eq_true p5;replace q5 := eq_true q5;have HP7 := Kd.R_putg HO_0.out (x5_1 : Int) ((x1_1) % 256)
    go_wp2_with (first | ((with_reducible refine gate_store (t := 5) (p := 16) rfl ?_); refine store_event (t := 5) (p := 16) (v := ?vo_w8) (w1 := (wr.setCell ⟨go5, (x5_1 : Int).toNat, none⟩ (.int .u8 ((x1_1) % 256)))) ?hg ?ho ?hn ?hr ?_; (case ho => rfl); (case hg => rfl); (case hn => rfl); (case hr => first | (go_simp; done) | (go_simp; rfl)); intro w8 hw; have hg : wr.grownBy w8 (some go5) := (by rw [hw]; exact HP7.2); have hp_ : Kd.R (Kd.int .u8) 5 w8 w0.heap.size (fun k_ => (P0_ k_ ∨ w.heap.size ≤ k_)) (.slice (some ⟨go5, 0, none⟩) x0_1.length co6) y409 := (by rw [hw, Ny409.out]; exact HP7.1); clear HP7; have n0_ := am (hp_); have n1_ := am ((by rw [hw]; exact below_set (HB.out) GB5.out : Below w0.heap.size w0 w8)); have n2_ := am (Kept.of_grown (S := (fun k_ => P0_ k_)) hg (by repeat (first | (with_reducible first | exact HK.out | apply Kept.alloc | apply Kept.drewN | apply Kept.drew) | exact HK.out)) (fun k_ e_ => (HO_0.out.1 k_ e_))); clear HO_0; clear HB; clear HK; have HO_0 := n0_; have HB := n1_; have HK := n2_; clear n0_ n1_ n2_; clear hg hw hp_))
    go_roundg k1
    case measure => have := HK1.out; omega
    case rel => exact ⟨(y409), (wrap64 (x1_1 + 1)), (wrap64 (x5_1 + 1)), pv, pv, H', ⟨by have := HK1.out; omega⟩, ⟨R_at HO_0.out⟩, ⟨by repeat (first | (with_reducible first | exact HK.out | apply Kept.alloc | apply Kept.drewN | apply Kept.drew) | exact HK.out)⟩, ⟨bel_now⟩⟩

def marksFrom (a : Int) (n : Nat) : List Int := (List.range n).map fun (j : Nat) => a + (j : Int)
theorem marksFrom_len (a : Int) (n : Nat) : (marksFrom a n).length = n := by simp [marksFrom]
theorem marksX_step {l : List Int} {a x : Int} {i n : Nat} (hl : l.length = n) (hi : i < n) (h : ∀ j, j < i → l[j]? = some (a + (j : Int))) (hx : x = a + (i : Int)) : ∀ j, j < i + 1 → (l.set i x)[j]? = some (a + (j : Int)) := by
  intro j hj;by_cases e : j = i
  ·subst e;rw [List.getElem?_set_self (by omega), hx]
  rw [List.getElem?_set_ne (by omega)];exact h j (by omega)
theorem marksX_all {l : List Int} {a : Int} {n : Nat} (hl : l.length = n) (h : ∀ j, j < n → l[j]? = some (a + (j : Int))) : l = marksFrom a n := by
  unfold marksFrom
  apply List.ext_getElem?
  intro j;by_cases hj : j < n
  ·rw [h j hj]
   simp [hj]
  rw [List.getElem?_eq_none (by omega), List.getElem?_eq_none (by simp; omega)]
theorem marksX_ints (P : Nat → Prop) (v : Value) (l : List Int) (a r : Int) (w0 w : World) (hB : Below w0.heap.size w0 w) (h : Kd.R (Kd.int .i64) 3 w w0.heap.size P v l) (hr : 0 ≤ a ∧ a + (l.length : Int) ≤ 1000000000000000 ∧ r = a + (l.length : Int)) :
   Calls Try.prog 26 #[v, .int .i64 a] w fun e w' => e = .returned (.int .i64 r) ∧ Aside0 (Kd.R (Kd.int .i64) 3 w' w0.heap.size P v (marksFrom a l.length)) ∧ Aside0 (Below w0.heap.size w0 w') ∧ Aside0 (w.grownBy w' v.ownBlock) := by
  obtain ⟨n, hn⟩ : ∃ n, n = l.length := ⟨_, rfl⟩;obtain ⟨A, c, rfl⟩ := Kd.R_slice h;rw [← hn] at h hr ⊢;have HR := am h;have HN := am hr;have HK := am (World.grownBy.refl w (Value.slice A n c).ownBlock);have HB := am hB;have HL := am hn;clear h hr hB hn
  go_enter Try.func26, Try.ntmps26
  go_wp2
  go_loopg [1, 5] n (fun kq v1 v5 w' => ∃ (x0_1 : List Int) (x1_1 : Int) (x5_1 : Int), v1 = .int .i64 x1_1 ∧ v5 = .int .i64 x5_1 ∧ Aside0 (0 ≤ x5_1 ∧ x5_1 ≤ n ∧ x1_1 = a + x5_1 ∧ n - x5_1.toNat ≤ kq ∧ x0_1.length = n ∧ ∀ j, j < x5_1.toNat → x0_1[j]? = some (a + (j : Int))) ∧ Aside0 (Kd.R (Kd.int .i64) 3 w' w0.heap.size P (.slice A n c) x0_1) ∧ Aside0 (Below w0.heap.size w0 w') ∧ Aside0 (w.grownBy w' (Value.slice A n c).ownBlock))
  case atStart => exact ⟨l, a, 0, rfl, rfl, ⟨by have := HL.out; refine ⟨by omega, by omega, by omega, by omega, by omega, fun j hj => ?_⟩; simp at hj⟩, HR, HB, HK⟩
  case round =>
   clear HB HK HR;obtain ⟨x0_1, x1_1, x5_1, rfl, rfl, HX, HR, HB, HK⟩ := hrel;by_cases c3 : x5_1 < (n : Int)
   ·have c3b0 : decide (x5_1 < (n : Int)) = true := decide_eq_true c3;have c4b0 : decide (0 ≤ x5_1) = true := decide_eq_true HX.out.1;obtain ⟨g, cap, hv, hg, _⟩ := Kd.R_form HR.out (by have := HX.out; omega)
    injection hv with hv1 hv2 hv3
    subst hv1;subst hv3;have hlen := HX.out.2.2.2.2.1;have HG := am hg;have HRR := HR.out;rw [← hlen] at HRR;obtain ⟨hx5_0, hf5_0⟩ := Kd.R_cell (0 : Int) HRR x5_1 HX.out.1 (by omega);have HP7 := Kd.R_put HRR x5_1 x1_1;rw [hlen] at HP7;clear hg hv2 c3 HRR hlen;have p5 := eq_true HX.out.1;have q5 := eq_true (of_decide_eq_true c3b0)
    go_wp2_with (first | ((with_reducible refine gate_store (t := 3) (p := 15) rfl ?_); refine store_event (t := 3) (p := 15) (v := ?vo_w8) (w1 := (wr.setCell ⟨g, x5_1.toNat, none⟩ (.int .i64 x1_1))) ?hg ?ho ?hn ?hr ?_; (case ho => rfl); (case hg => rfl); (case hn => rfl); (case hr => first | (go_simp; done) | (go_simp; rfl)); intro w8 hw; have n0 := am (show Kd.R (Kd.int .i64) 3 w8 w0.heap.size P (.slice (some ⟨g, 0, none⟩) n c) (x0_1.set x5_1.toNat x1_1) from by rw [hw]; exact HP7.1); have n1 := am (show w.grownBy w8 (Value.slice (some ⟨g, 0, none⟩) n c).ownBlock from by rw [hw]; exact HK.out.trans HP7.2); have n2 := am (show Below w0.heap.size w0 w8 from by rw [hw]; exact below_set HB.out HG.out); clear hw HK HB HR HP7 hx5_0 hf5_0; have HR := n0; have HK := n1; have HB := n2; clear n0 n1 n2))
    go_roundg (gk - 1)
    case measure => have := HX.out; have := of_decide_eq_true c3b0; omega
    case rel => exact ⟨_, wrap64 (x1_1 + 1), wrap64 (x5_1 + 1), pv, pv, ⟨by
     have h1 := HX.out;have h2 := HN.out;have h3 := of_decide_eq_true c3b0;have h4 := marksX_step h1.2.2.2.2.1 (show x5_1.toNat < n by omega) h1.2.2.2.2.2 (show x1_1 = a + ((x5_1.toNat : Nat) : Int) by omega)
     rw [show wrap64 (x5_1 + 1) = x5_1 + 1 by unfold wrap64; omega, show wrap64 (x1_1 + 1) = x1_1 + 1 by unfold wrap64; omega, show (x5_1 + 1).toNat = x5_1.toNat + 1 by omega]
     exact ⟨by omega, by omega, by omega, by omega, by rw [List.length_set]; exact h1.2.2.2.2.1, h4⟩⟩, HR, HB, HK⟩
   ·have c3b0 : decide (x5_1 < (n : Int)) = false := decide_eq_false c3;clear c3
    go_wp2
    go_ret
    have h1 := HX.out;have h2 := of_decide_eq_false c3b0;have h3 := HN.out;have hl := marksX_all h1.2.2.2.2.1 (fun j hj => h1.2.2.2.2.2 j (by omega));have hQ := HR.out;rw [hl] at hQ;exact ⟨by rw [show x1_1 = r by omega]; rfl, ⟨hQ⟩, HB, HK⟩
/-- An element's cells, lent out of a row of layers that is being marked. -/
def Lent (w0 w W : World) (P : Nat → Prop) (g n cap : Nat) (L : List S37) (i : Int) (c : List Value) (v7 v8 : Value) (l7 l8 : List Int) : Prop :=
  ∃ oki : Nat → Prop, Kd.H k37 37 W w0.heap.size P (.slice (some ⟨g, 0, none⟩) n cap) L i oki c ∧ (∀ k, oki k → P k ∧ k ≠ g) ∧ Kd.R (Kd.int .i64) 3 W w0.heap.size oki v7 l7 ∧ Kd.R (Kd.int .i64) 3 W w0.heap.size oki v8 l8 ∧ (∀ k, v7.ownBlock = some k → v8.ownBlock = some k → False) ∧ Below w0.heap.size w0 W ∧ Kept w W P
theorem lent_of {w0 w W : World} {P : Nat → Prop} {g n cap : Nat} {L : List S37} (h : Kd.S k37 37 W w0.heap.size P (.slice (some ⟨g, 0, none⟩) n cap) L) (i : Int) (h0 : 0 ≤ i) (h1 : i < n) (hb : Below w0.heap.size w0 W) (hk : Kept w W P) : ∃ v7 v8, Lent w0 w W P g n cap L i [.int .i64 (L.getD i.toNat z37).f0, .int .i64 (L.getD i.toNat z37).f1, .int .i64 (L.getD i.toNat z37).f2, .int .i64 (L.getD i.toNat z37).f3, .int .i64 (L.getD i.toNat z37).f4, .int .i64 (L.getD i.toNat z37).f5, .int .i64 (L.getD i.toNat z37).f6, v7, v8] v7 v8 (L.getD i.toNat z37).f7 (L.getD i.toNat z37).f8 := by
  obtain ⟨oki, c, hcl, hM, hcc, hoki, hH⟩ := Kd.S_lend h z37 i h0 h1;obtain ⟨v7, v8, rfl, g7, g8, hx⟩ := k37_openX hM;exact ⟨v7, v8, oki, hH, hoki, g7, g8, hx, hb, hk⟩
section Lents
variable {w0 w W W' : World} {P : Nat → Prop} {g n cap : Nat} {L : List S37} {i : Int} {c : List Value} {v7 v8 : Value} {l7 l8 l' : List Int}
theorem Lent.cell (h : Lent w0 w W P g n cap L i c v7 v8 l7 l8) (h0 : 0 ≤ i) (h1 : i < n) : (∀ j u, c[j]? = some u → W.cell? ⟨g, i.toNat * 9 + j, none⟩ = some u) ∧ ∀ j, W.frozen? ⟨g, j, none⟩ = false := by
  obtain ⟨oki, hH, -⟩ := h;obtain ⟨_, _, _, _, _, hcc, _⟩ := Kd.H_raw hH h0 h1;obtain ⟨_, f, hR⟩ := hH;obtain ⟨cells, hb⟩ := Kd.R_typed hR g rfl;exact ⟨hcc, fun j => blk_frozen hb j⟩
theorem Lent.set (h : Lent w0 w W P g n cap L i c v7 v8 l7 l8) (h0 : 0 ≤ i) (h1 : i < n) (hg : w0.heap.size ≤ g) (hp : P g) {j : Nat} (hj : j + 1 ≤ 9) (x : Int) : Lent w0 w (W.setCell ⟨g, i.toNat * 9 + j, none⟩ (.int .i64 x)) P g n cap L i (c.take j ++ [.int .i64 x] ++ c.drop (j + 1)) v7 v8 l7 l8 := by
  obtain ⟨oki, hH, ho, r7, r8, hx, hb, hk⟩ := h;have e := (Kd.H_seg hH h0 h1 (seg := [.int .i64 x]) (j := j) hj (by intro q hq; simp only [List.mem_singleton] at hq; rw [hq]; rfl)).1;exact ⟨oki, e, ho, Kd.R_far r7 (p := ⟨g, i.toNat * 9 + j, none⟩) (fun k hk => (ho k hk).2) _, Kd.R_far r8 (p := ⟨g, i.toNat * 9 + j, none⟩) (fun k hk => (ho k hk).2) _, hx, below_set hb hg, hk.setCell (.inl hp) _⟩
theorem Lent.mark7 (h : Lent w0 w W P g n cap L i c v7 v8 l7 l8) (r : Kd.R (Kd.int .i64) 3 W' w0.heap.size (fun k => some k = v7.ownBlock) v7 l') (hb' : Below w0.heap.size w0 W') (hg : W.grownBy W' v7.ownBlock) : Lent w0 w W' P g n cap L i c v7 v8 l' l8 := by
  obtain ⟨oki, hH, ho, r7, r8, hx, hb, hk⟩ := h;exact ⟨oki, Kd.H_grown hH hg (fun k hk => r7.1 k hk), ho, Kd.R_mono r (fun k hk => r7.1 k hk.symm), Kd.R_mono (Kd.R_grown (Kd.R_tight2 rfl r8) hg (fun k hk e => hx k e.symm hk.1.symm)) (fun k hk => hk.2), hx, hb', Kept.of_grown hg hk (fun k hk' => .inl (ho k (r7.1 k hk')).1)⟩
theorem Lent.mark8 (h : Lent w0 w W P g n cap L i c v7 v8 l7 l8) (r : Kd.R (Kd.int .i64) 3 W' w0.heap.size (fun k => some k = v8.ownBlock) v8 l') (hb' : Below w0.heap.size w0 W') (hg : W.grownBy W' v8.ownBlock) : Lent w0 w W' P g n cap L i c v7 v8 l7 l' := by
  obtain ⟨oki, hH, ho, r7, r8, hx, hb, hk⟩ := h;exact ⟨oki, Kd.H_grown hH hg (fun k hk => r8.1 k hk), ho, Kd.R_mono (Kd.R_grown (Kd.R_tight2 rfl r7) hg (fun k hk e => hx k hk.1.symm e.symm)) (fun k hk => hk.2), Kd.R_mono r (fun k hk => r8.1 k hk.symm), hx, hb', Kept.of_grown hg hk (fun k hk' => .inl (ho k (r8.1 k hk')).1)⟩
theorem Lent.row7 (h : Lent w0 w W P g n cap L i c v7 v8 l7 l8) : Kd.R (Kd.int .i64) 3 W w0.heap.size (fun k => some k = v7.ownBlock) v7 l7 := by
  obtain ⟨oki, hH, ho, r7, r8, hx, hb, hk⟩ := h;exact Kd.R_tight rfl r7
theorem Lent.row8 (h : Lent w0 w W P g n cap L i c v7 v8 l7 l8) : Kd.R (Kd.int .i64) 3 W w0.heap.size (fun k => some k = v8.ownBlock) v8 l8 := by
  obtain ⟨oki, hH, ho, r7, r8, hx, hb, hk⟩ := h;exact Kd.R_tight rfl r8
theorem Lent.below (h : Lent w0 w W P g n cap L i c v7 v8 l7 l8) : Below w0.heap.size w0 W := h.elim fun _ h => h.2.2.2.2.2.1
theorem Lent.kept (h : Lent w0 w W P g n cap L i c v7 v8 l7 l8) : Kept w W P := h.elim fun _ h => h.2.2.2.2.2.2
theorem Lent.back {a0 a1 a2 a3 a4 a5 a6 : Int} (h : Lent w0 w W P g n cap L i [.int .i64 a0, .int .i64 a1, .int .i64 a2, .int .i64 a3, .int .i64 a4, .int .i64 a5, .int .i64 a6, v7, v8] v7 v8 l7 l8) : Kd.S k37 37 W w0.heap.size P (.slice (some ⟨g, 0, none⟩) n cap) (L.set i.toNat ⟨a0, a1, a2, a3, a4, a5, a6, l7, l8⟩) := by
  obtain ⟨oki, hH, ho, r7, r8, hx, hb, hk⟩ := h;exact Kd.H_back hH (k37_mkM W _ oki ⟨a0, a1, a2, a3, a4, a5, a6, l7, l8⟩ r7 r8 hx) (fun k hk => hk)
end Lents
def marksTot : List S37 → Int
  | [] => 0
  | x :: l => 7 + (x.f7.length : Int) + (x.f8.length : Int) + marksTot l
theorem marksTot_nn : ∀ l, 0 ≤ marksTot l
  | [] => Int.le_refl _
  | x :: l => by have := marksTot_nn l; simp only [marksTot]; omega
theorem marksTot_len : ∀ l, (l.length : Int) ≤ marksTot l
  | [] => Int.le_refl _
  | x :: l => by have := marksTot_len l; simp only [marksTot, List.length_cons]; omega
def markL (x : S37) (a : Int) : S37 := ⟨a, a + 1, a + 2, a + 3, a + 4, a + 5, a + 6, marksFrom (a + 7) x.f7.length, marksFrom (a + 7 + (x.f7.length : Int)) x.f8.length⟩
def markLs : List S37 → Int → List S37
  | [], _ => []
  | x :: l, a => markL x a :: markLs l (a + (7 + (x.f7.length : Int) + (x.f8.length : Int)))
theorem markLs_len : ∀ (l : List S37) (a : Int), (markLs l a).length = l.length
  | [], _ => rfl
  | x :: l, a => by simp [markLs, markLs_len l]
theorem markLs_at : ∀ (l : List S37) (a : Int) (i : Nat) (h : i < l.length), (markLs l a)[i]? = some (markL l[i] (a + marksTot (l.take i)))
  | x :: l, a, 0, _ => by simp [markLs, marksTot]
  | x :: l, a, i + 1, h => by
   have := markLs_at l (a + (7 + (x.f7.length : Int) + (x.f8.length : Int))) i (by simpa using h);simp only [markLs, List.getElem?_cons_succ, List.getElem_cons_succ, List.take_succ_cons, marksTot]
   rw [this, show a + (7 + (x.f7.length : Int) + (x.f8.length : Int)) + marksTot (l.take i) = a + (7 + (x.f7.length : Int) + (x.f8.length : Int) + marksTot (l.take i)) by omega]
theorem marksTot_at (l : List S37) : ∀ (i : Nat) (h : i < l.length), marksTot (l.take i) + (7 + (l[i].f7.length : Int) + (l[i].f8.length : Int)) = marksTot (l.take (i + 1)) ∧ marksTot (l.take (i + 1)) ≤ marksTot l := by
  induction l with
  | nil => intro i h; simp at h
  | cons x l ih =>
   intro i h
   cases i with
   | zero => have := marksTot_nn l; simp [marksTot]; omega
   | succ i =>
    have := ih i (by simpa using h);simp only [List.take_succ_cons, marksTot, List.getElem_cons_succ]
    omega
/-- The row as it stands behind i rounds. -/
def marked (l : List S37) (a : Int) (i : Nat) : List S37 := (markLs l a).take i ++ l.drop i
theorem marked_len (l : List S37) (a : Int) {i : Nat} (h : i ≤ l.length) : (marked l a i).length = l.length := by
  unfold marked
  rw [List.length_append, List.length_take, List.length_drop, markLs_len]
  omega
theorem marked_here (l : List S37) (a : Int) {i : Nat} (h : i < l.length) : (marked l a i).getD i z37 = l[i] := by
  unfold marked
  rw [List.getD_eq_getElem?_getD, List.getElem?_append_right (by rw [List.length_take, markLs_len]; omega), List.length_take, markLs_len, show i - min i l.length = 0 by omega, List.getElem?_drop, Nat.add_zero, List.getElem?_eq_getElem h]
  rfl
theorem marked_step (l : List S37) (a : Int) {i : Nat} (h : i < l.length) : (marked l a i).set i (markL l[i] (a + marksTot (l.take i))) = marked l a (i + 1) := by
  unfold marked
  rw [List.take_add_one, markLs_at l a i h, Option.toList_some, List.set_append_right _ _ (by rw [List.length_take, markLs_len]; omega), List.length_take, markLs_len, show i - min i l.length = 0 by omega, List.drop_eq_getElem_cons h, List.set_cons_zero, List.append_assoc, List.singleton_append]
theorem marked_end (l : List S37) (a : Int) : marked l a l.length = markLs l a := by
  unfold marked
  rw [List.drop_length, List.append_nil];exact List.take_of_length_le (by rw [markLs_len]; exact Nat.le_refl _)
theorem lent_at {w0 w W : World} {P : Nat → Prop} {g n cap i : Nat} {L : List S37} {c : List Value} {v7 v8 : Value} {l7 l8 : List Int} (h : Lent w0 w W P g n cap L (i : Int) c v7 v8 l7 l8) (j : Nat) {u : Value} (hu : c[j]? = some u) (h0 : 0 ≤ (i : Int)) (h1 : (i : Int) < (n : Int)) : W.cell? ⟨g, i * 9 + j, none⟩ = some u ∧ W.frozen? ⟨g, i * 9 + j, none⟩ = false := by
  obtain ⟨h1', h2⟩ := Lent.cell h h0 h1;exact ⟨by have := h1' j u hu; rwa [Int.toNat_natCast] at this, h2 _⟩
theorem marksX_layers (P : Nat → Prop) (v : Value) (l : List S37) (a r : Int) (w0 w : World) (hB : Below w0.heap.size w0 w) (h : Kd.S k37 37 w w0.heap.size P v l) (hr : 0 ≤ a ∧ a + marksTot l ≤ 1000000000000000 ∧ r = a + marksTot l) :
   Calls Try.prog 89 #[v, .int .i64 a] w fun e w' => e = .returned (.int .i64 r) ∧ Aside0 (Kd.S k37 37 w' w0.heap.size P v (markLs l a)) ∧ Aside0 (Below w0.heap.size w0 w') ∧ Aside0 (Kept w w' P) := by
  obtain ⟨A, c, rfl⟩ := Kd.S_slice h;have HO := am h;have HN := am hr;have HK := am (Kept.refl w P);have HB := am hB;clear h hr hB
  go_enter Try.func89, Try.ntmps89
  go_wp2
  go_loopg [1, 5] l.length (fun kq v1 v5 w' => ∃ (x1_1 : Int) (i : Nat), v1 = .int .i64 x1_1 ∧ v5 = .int .i64 (i : Int) ∧ Aside0 (i ≤ l.length ∧ x1_1 = a + marksTot (l.take i) ∧ l.length - i ≤ kq) ∧ Aside0 (Kd.S k37 37 w' w0.heap.size P (.slice A l.length c) (marked l a i)) ∧ Aside0 (Below w0.heap.size w0 w') ∧ Aside0 (Kept w w' P))
  case atStart => exact ⟨a, 0, rfl, rfl, ⟨by simp [marksTot]⟩, HO, HB, HK⟩
  case round =>
   clear HB HK HO;obtain ⟨x1_1, i, rfl, rfl, HX, HO, HB, HK⟩ := hrel;by_cases c3 : i < l.length;rotate_left
   ·have cb : decide ((i : Int) < (l.length : Int)) = false := decide_eq_false (by omega)
    go_wp2
    go_ret
    have h1 := HX.out;have h3 := HN.out
    obtain rfl : i = l.length := by omega
    rw [List.take_length] at h1;exact ⟨by rw [show x1_1 = r by omega]; rfl, ⟨by rw [← marked_end]; exact HO.out⟩, HB, HK⟩
   have cb : decide ((i : Int) < (l.length : Int)) = true := decide_eq_true (by omega);have hi0 : 0 ≤ (i : Int) := by omega
   have hi1 : (i : Int) < (l.length : Int) := by omega
   obtain ⟨g, hA⟩ : ∃ g, A = some ⟨g, 0, none⟩ := by
    obtain ⟨g, c', hv, _⟩ := Kd.S_form HO.out (by rw [marked_len l a (by omega)]; omega)
    injection hv with hv
    exact ⟨g, hv⟩
   subst hA;have HG := am (show w0.heap.size ≤ g from Kd.S_base HO.out g rfl)
   have HP := am (show P g from (Kd.S_R HO.out).1 g rfl)
   obtain ⟨v7, v8, hL⟩ := lent_of HO.out (i : Int) hi0 hi1 HB.out HK.out;rw [Int.toNat_natCast, marked_here l a c3] at hL;have HST := am (marked_step l a c3);have HTT := am (marksTot_at l i c3);have HTN := am (marksTot_nn (l.take i))
   unfold markL at HST
   generalize l[i] = x at hL HST HTT
   obtain ⟨y0, y1, y2, y3, y4, y5, y6, l7, l8⟩ := x;dsimp only at hL HST HTT;obtain ⟨A7, c7, rfl⟩ := Kd.R_slice hL.row7;obtain ⟨A8, c8, rfl⟩ := Kd.R_slice hL.row8;have HL := am hL;clear hL;obtain ⟨r7, hr7⟩ : ∃ r, r = x1_1 + 7 + (l7.length : Int) := ⟨_, rfl⟩;obtain ⟨r8, hr8⟩ : ∃ r, r = r7 + (l8.length : Int) := ⟨_, rfl⟩
   have HT := am (show r8 = a + marksTot (l.take (i + 1)) ∧ a ≤ x1_1 ∧ r8 ≤ 1000000000000000 by
    have h1 := HX.out;have h2 := HTT.out;have h3 := HN.out;have h4 := HTN.out
    omega)
   have HW := am (show ((wrap64 (x1_1 + 1)) = x1_1 + 1 ∧ (wrap64 ((wrap64 (x1_1 + 1)) + 1)) = x1_1 + 2 ∧ (wrap64 ((wrap64 ((wrap64 (x1_1 + 1)) + 1)) + 1)) = x1_1 + 3 ∧ (wrap64 ((wrap64 ((wrap64 ((wrap64 (x1_1 + 1)) + 1)) + 1)) + 1)) = x1_1 + 4 ∧ (wrap64 ((wrap64 ((wrap64 ((wrap64 ((wrap64 (x1_1 + 1)) + 1)) + 1)) + 1)) + 1)) = x1_1 + 5 ∧ (wrap64 ((wrap64 ((wrap64 ((wrap64 ((wrap64 ((wrap64 (x1_1 + 1)) + 1)) + 1)) + 1)) + 1)) + 1)) = x1_1 + 6 ∧ (wrap64 ((wrap64 ((wrap64 ((wrap64 ((wrap64 ((wrap64 ((wrap64 (x1_1 + 1)) + 1)) + 1)) + 1)) + 1)) + 1)) + 1)) = x1_1 + 7) by
    have h1 := HT.out;have h3 := HN.out
    unfold wrap64
    omega)
   have HS7 := am (show 0 ≤ (wrap64 ((wrap64 ((wrap64 ((wrap64 ((wrap64 ((wrap64 ((wrap64 (x1_1 + 1)) + 1)) + 1)) + 1)) + 1)) + 1)) + 1)) ∧ (wrap64 ((wrap64 ((wrap64 ((wrap64 ((wrap64 ((wrap64 ((wrap64 (x1_1 + 1)) + 1)) + 1)) + 1)) + 1)) + 1)) + 1)) + (l7.length : Int) ≤ 1000000000000000 ∧ r7 = (wrap64 ((wrap64 ((wrap64 ((wrap64 ((wrap64 ((wrap64 ((wrap64 (x1_1 + 1)) + 1)) + 1)) + 1)) + 1)) + 1)) + 1)) + (l7.length : Int) by
    have h1 := HT.out;have h3 := HN.out;rw [HW.out.2.2.2.2.2.2]
    omega)
   have HS8 := am (show 0 ≤ r7 ∧ r7 + (l8.length : Int) ≤ 1000000000000000 ∧ r8 = r7 + (l8.length : Int) by
    have h1 := HT.out;have h3 := HN.out
    omega)
   have HR7 := am hr7;clear hr7 hr8 HO HB HK;obtain ⟨hx0, hf0⟩ := lent_at HL.out 0 rfl hi0 hi1;rw [Nat.add_zero] at hx0 hf0;have p5 := eq_true hi0;have q5 := eq_true hi1
   go_wp2_with (first | ((with_reducible refine gate_store (t := 3) (p := 16) rfl ?_); refine store_event (t := 3) (p := 16) (v := ?vo0_) (w1 := wr.setCell ⟨g, i * 9, none⟩ (.int .i64 x1_1)) ?hg ?ho ?hn ?hr ?_; (case ho => rfl); (case hg => rfl); (case hn => rfl); (case hr => first | (go_simp; done) | (go_simp; rfl)); intro u0_ hw; have n1 := am (show Lent w0 w u0_ P g l.length c (marked l a i) (i : Int) [.int .i64 x1_1, .int .i64 y1, .int .i64 y2, .int .i64 y3, .int .i64 y4, .int .i64 y5, .int .i64 y6, .slice A7 l7.length c7, .slice A8 l8.length c8] (.slice A7 l7.length c7) (.slice A8 l8.length c8) l7 l8 from by rw [hw]; exact Lent.set (j := 0) HL.out hi0 hi1 HG.out HP.out (by decide) _); clear hw HL hx0 hf0; have HL := n1; clear n1; obtain ⟨hx1, hf1⟩ := lent_at HL.out 1 rfl hi0 hi1) | ((with_reducible refine gate_store (t := 3) (p := 23) rfl ?_); refine store_event (t := 3) (p := 23) (v := ?vo1_) (w1 := u0_.setCell ⟨g, i * 9 + 1, none⟩ (.int .i64 (wrap64 (x1_1 + 1)))) ?hg ?ho ?hn ?hr ?_; (case ho => rfl); (case hg => rfl); (case hn => rfl); (case hr => first | (go_simp; done) | (go_simp; rfl)); intro u1_ hw; have n1 := am (show Lent w0 w u1_ P g l.length c (marked l a i) (i : Int) [.int .i64 x1_1, .int .i64 (wrap64 (x1_1 + 1)), .int .i64 y2, .int .i64 y3, .int .i64 y4, .int .i64 y5, .int .i64 y6, .slice A7 l7.length c7, .slice A8 l8.length c8] (.slice A7 l7.length c7) (.slice A8 l8.length c8) l7 l8 from by rw [hw]; exact Lent.set (j := 1) HL.out hi0 hi1 HG.out HP.out (by decide) _); clear hw HL hx1 hf1; have HL := n1; clear n1; obtain ⟨hx2, hf2⟩ := lent_at HL.out 2 rfl hi0 hi1) | ((with_reducible refine gate_store (t := 3) (p := 30) rfl ?_); refine store_event (t := 3) (p := 30) (v := ?vo2_) (w1 := u1_.setCell ⟨g, i * 9 + 2, none⟩ (.int .i64 (wrap64 ((wrap64 (x1_1 + 1)) + 1)))) ?hg ?ho ?hn ?hr ?_; (case ho => rfl); (case hg => rfl); (case hn => rfl); (case hr => first | (go_simp; done) | (go_simp; rfl)); intro u2_ hw; have n1 := am (show Lent w0 w u2_ P g l.length c (marked l a i) (i : Int) [.int .i64 x1_1, .int .i64 (wrap64 (x1_1 + 1)), .int .i64 (wrap64 ((wrap64 (x1_1 + 1)) + 1)), .int .i64 y3, .int .i64 y4, .int .i64 y5, .int .i64 y6, .slice A7 l7.length c7, .slice A8 l8.length c8] (.slice A7 l7.length c7) (.slice A8 l8.length c8) l7 l8 from by rw [hw]; exact Lent.set (j := 2) HL.out hi0 hi1 HG.out HP.out (by decide) _); clear hw HL hx2 hf2; have HL := n1; clear n1; obtain ⟨hx3, hf3⟩ := lent_at HL.out 3 rfl hi0 hi1) | ((with_reducible refine gate_store (t := 3) (p := 37) rfl ?_); refine store_event (t := 3) (p := 37) (v := ?vo3_) (w1 := u2_.setCell ⟨g, i * 9 + 3, none⟩ (.int .i64 (wrap64 ((wrap64 ((wrap64 (x1_1 + 1)) + 1)) + 1)))) ?hg ?ho ?hn ?hr ?_; (case ho => rfl); (case hg => rfl); (case hn => rfl); (case hr => first | (go_simp; done) | (go_simp; rfl)); intro u3_ hw; have n1 := am (show Lent w0 w u3_ P g l.length c (marked l a i) (i : Int) [.int .i64 x1_1, .int .i64 (wrap64 (x1_1 + 1)), .int .i64 (wrap64 ((wrap64 (x1_1 + 1)) + 1)), .int .i64 (wrap64 ((wrap64 ((wrap64 (x1_1 + 1)) + 1)) + 1)), .int .i64 y4, .int .i64 y5, .int .i64 y6, .slice A7 l7.length c7, .slice A8 l8.length c8] (.slice A7 l7.length c7) (.slice A8 l8.length c8) l7 l8 from by rw [hw]; exact Lent.set (j := 3) HL.out hi0 hi1 HG.out HP.out (by decide) _); clear hw HL hx3 hf3; have HL := n1; clear n1; obtain ⟨hx4, hf4⟩ := lent_at HL.out 4 rfl hi0 hi1) | ((with_reducible refine gate_store (t := 3) (p := 44) rfl ?_); refine store_event (t := 3) (p := 44) (v := ?vo4_) (w1 := u3_.setCell ⟨g, i * 9 + 4, none⟩ (.int .i64 (wrap64 ((wrap64 ((wrap64 ((wrap64 (x1_1 + 1)) + 1)) + 1)) + 1)))) ?hg ?ho ?hn ?hr ?_; (case ho => rfl); (case hg => rfl); (case hn => rfl); (case hr => first | (go_simp; done) | (go_simp; rfl)); intro u4_ hw; have n1 := am (show Lent w0 w u4_ P g l.length c (marked l a i) (i : Int) [.int .i64 x1_1, .int .i64 (wrap64 (x1_1 + 1)), .int .i64 (wrap64 ((wrap64 (x1_1 + 1)) + 1)), .int .i64 (wrap64 ((wrap64 ((wrap64 (x1_1 + 1)) + 1)) + 1)), .int .i64 (wrap64 ((wrap64 ((wrap64 ((wrap64 (x1_1 + 1)) + 1)) + 1)) + 1)), .int .i64 y5, .int .i64 y6, .slice A7 l7.length c7, .slice A8 l8.length c8] (.slice A7 l7.length c7) (.slice A8 l8.length c8) l7 l8 from by rw [hw]; exact Lent.set (j := 4) HL.out hi0 hi1 HG.out HP.out (by decide) _); clear hw HL hx4 hf4; have HL := n1; clear n1; obtain ⟨hx5, hf5⟩ := lent_at HL.out 5 rfl hi0 hi1) | ((with_reducible refine gate_store (t := 3) (p := 51) rfl ?_); refine store_event (t := 3) (p := 51) (v := ?vo5_) (w1 := u4_.setCell ⟨g, i * 9 + 5, none⟩ (.int .i64 (wrap64 ((wrap64 ((wrap64 ((wrap64 ((wrap64 (x1_1 + 1)) + 1)) + 1)) + 1)) + 1)))) ?hg ?ho ?hn ?hr ?_; (case ho => rfl); (case hg => rfl); (case hn => rfl); (case hr => first | (go_simp; done) | (go_simp; rfl)); intro u5_ hw; have n1 := am (show Lent w0 w u5_ P g l.length c (marked l a i) (i : Int) [.int .i64 x1_1, .int .i64 (wrap64 (x1_1 + 1)), .int .i64 (wrap64 ((wrap64 (x1_1 + 1)) + 1)), .int .i64 (wrap64 ((wrap64 ((wrap64 (x1_1 + 1)) + 1)) + 1)), .int .i64 (wrap64 ((wrap64 ((wrap64 ((wrap64 (x1_1 + 1)) + 1)) + 1)) + 1)), .int .i64 (wrap64 ((wrap64 ((wrap64 ((wrap64 ((wrap64 (x1_1 + 1)) + 1)) + 1)) + 1)) + 1)), .int .i64 y6, .slice A7 l7.length c7, .slice A8 l8.length c8] (.slice A7 l7.length c7) (.slice A8 l8.length c8) l7 l8 from by rw [hw]; exact Lent.set (j := 5) HL.out hi0 hi1 HG.out HP.out (by decide) _); clear hw HL hx5 hf5; have HL := n1; clear n1; obtain ⟨hx6, hf6⟩ := lent_at HL.out 6 rfl hi0 hi1) | ((with_reducible refine gate_store (t := 3) (p := 58) rfl ?_); refine store_event (t := 3) (p := 58) (v := ?vo6_) (w1 := u5_.setCell ⟨g, i * 9 + 6, none⟩ (.int .i64 (wrap64 ((wrap64 ((wrap64 ((wrap64 ((wrap64 ((wrap64 (x1_1 + 1)) + 1)) + 1)) + 1)) + 1)) + 1)))) ?hg ?ho ?hn ?hr ?_; (case ho => rfl); (case hg => rfl); (case hn => rfl); (case hr => first | (go_simp; done) | (go_simp; rfl)); intro u6_ hw; have n1 := am (show Lent w0 w u6_ P g l.length c (marked l a i) (i : Int) [.int .i64 x1_1, .int .i64 (wrap64 (x1_1 + 1)), .int .i64 (wrap64 ((wrap64 (x1_1 + 1)) + 1)), .int .i64 (wrap64 ((wrap64 ((wrap64 (x1_1 + 1)) + 1)) + 1)), .int .i64 (wrap64 ((wrap64 ((wrap64 ((wrap64 (x1_1 + 1)) + 1)) + 1)) + 1)), .int .i64 (wrap64 ((wrap64 ((wrap64 ((wrap64 ((wrap64 (x1_1 + 1)) + 1)) + 1)) + 1)) + 1)), .int .i64 (wrap64 ((wrap64 ((wrap64 ((wrap64 ((wrap64 ((wrap64 (x1_1 + 1)) + 1)) + 1)) + 1)) + 1)) + 1)), .slice A7 l7.length c7, .slice A8 l8.length c8] (.slice A7 l7.length c7) (.slice A8 l8.length c8) l7 l8 from by rw [hw]; exact Lent.set (j := 6) HL.out hi0 hi1 HG.out HP.out (by decide) _); clear hw HL hx6 hf6; have HL := n1; clear n1; obtain ⟨hx7, hf7⟩ := lent_at HL.out 7 rfl hi0 hi1) | ((with_reducible refine gate_callee (f := 26) rfl ?_); refine gM 67 Try.func26 #[(.slice A7 l7.length c7), .int .i64 (wrap64 ((wrap64 ((wrap64 ((wrap64 ((wrap64 ((wrap64 ((wrap64 (x1_1 + 1)) + 1)) + 1)) + 1)) + 1)) + 1)) + 1))] rfl ?_; (with_reducible refine (marksX_ints (fun k => some k = (Value.slice A7 l7.length c7).ownBlock) (.slice A7 l7.length c7) l7 _ r7 w0 _ ?s1 ?s2 ?s3).mono ?_); (case s1 => exact HL.out.below); (case s2 => exact HL.out.row7); (case s3 => exact HS7.out); rintro e u8_ ⟨rfl, nr, nb, nk⟩; refine ⟨_, rfl, ?_⟩; have n1 := am (HL.out.mark7 nr.out nb.out nk.out); clear HL hx7 hf7 nr nb nk; have HL := n1; clear n1; obtain ⟨hx8, hf8⟩ := lent_at HL.out 8 rfl hi0 hi1) | ((with_reducible refine gate_callee (f := 26) rfl ?_); refine gM 74 Try.func26 #[(.slice A8 l8.length c8), .int .i64 r7] rfl ?_; (with_reducible refine (marksX_ints (fun k => some k = (Value.slice A8 l8.length c8).ownBlock) (.slice A8 l8.length c8) l8 _ r8 w0 _ ?s1 ?s2 ?s3).mono ?_); (case s1 => exact HL.out.below); (case s2 => exact HL.out.row8); (case s3 => exact HS8.out); rintro e u9_ ⟨rfl, nr, nb, nk⟩; refine ⟨_, rfl, ?_⟩; have n1 := am (HL.out.mark8 nr.out nb.out nk.out); clear HL hx8 hf8 nr nb nk; have HL := n1; clear n1; have HB := am HL.out.below; have HK := am HL.out.kept; have HO := am HL.out.back))
   go_roundg (gk - 1)
   case measure => have := HX.out; omega
   case rel => exact ⟨r8, i + 1, (by first | rfl | (simp; done)), (by
    have h1 := HX.out;have h4 := marksTot_len l;have h5 := HN.out
    first | exact congrArg (Value.int .i64) (by unfold wrap64; omega) | (rw [show wrap64 ((i : Int) + 1) = ((i + 1 : Nat) : Int) by unfold wrap64; omega])), ⟨by
    have h1 := HX.out;have h2 := HT.out
    omega⟩, ⟨by
    have h := HO.out;have hW := HW.out;rw [Int.toNat_natCast, hW.2.2.2.2.2.2, hW.2.2.2.2.2.1, hW.2.2.2.2.1, hW.2.2.2.1, hW.2.2.1, hW.2.1, hW.1, HR7.out] at h;have hs := HST.out;rw [← HX.out.2.1] at hs;rw [hs] at h
    exact h⟩, HB, HK⟩
theorem marksX_model (a0_0 : Int) (a0_1 : Int) (a0_2 : Int) (P : Nat → Prop) (v : Value) (l : List S37) (a1 r1 : Int) (w0 w : World) (hB : Below w0.heap.size w0 w) (hR : Kd.S k37 37 w w0.heap.size P v l) (hr : 0 ≤ a1 ∧ a1 + marksTot l ≤ 1000000000000000 ∧ r1 = a1 + marksTot l) :
   Calls Try.prog 41 #[.agg #[.int .i64 a0_0, .int .i64 a0_1, .int .i64 a0_2, v], .int .i64 a1] w fun e w' => e = .returned (.int .i64 r1) ∧ Aside0 (Kd.S k37 37 w' w0.heap.size P v (markLs l a1)) ∧ Aside0 (Below w0.heap.size w0 w') ∧ Aside0 (Kept w w' P) := by
  have hu := Try.underlying53;obtain ⟨A, c, rfl⟩ := Kd.S_slice hR;have HR := am hR;have HN := am hr;have HB := am hB;have HL := am hB.size;clear hr hR hB
  go_enter Try.func41, Try.ntmps41
  go_wp2_with (first | ((with_reducible refine gate_dst (N := 2) rfl ?_); refine boxM 2 #[.int .i64 a0_0, .int .i64 a0_1, .int .i64 a0_2, .slice A l.length c] 53 ?_; intro gb hg w5 BK hb; have HBW := am hb; clear hb hg; obtain ⟨hcz0, hcz1, hcz2, hcz3, hfz0, hfz1, hfz2, hfz3⟩ := cells4 BK.out) | ((with_reducible refine gate_callee (f := 89) rfl ?_); refine gM 8 Try.func89 #[.slice A l.length c, .int .i64 a1] rfl ?_; (with_reducible refine (marksX_layers P (.slice A l.length c) l _ r1 w0 _ ?s1 ?s2 ?s3).mono ?_); (case s1 => exact (below_then HB.out HL.out HBW.out)); (case s2 => exact Kd.S_below HR.out HBW.out); (case s3 => exact HN.out); rintro e w8_ ⟨rfl, nr, nb, nk⟩; refine ⟨_, rfl, ?_⟩))
  go_ret
  exact ⟨eqN, nr, nb, ⟨(Kept.of_below HBW.out P).then_ nk.out (fun _ h => .inl h)⟩⟩
def laws_markModel.f (a0_0 a0_1 a0_2 : Int) (l0_3 : List S37) (a1 : Int) : Option (Int × List S37) := if 0 ≤ a1 ∧ a1 + marksTot l0_3 ≤ 1000000000000000 then some (a1 + marksTot l0_3, markLs l0_3 a1) else none
theorem laws_markModel.calls (a0_0 : Int) (a0_1 : Int) (a0_2 : Int) (P0_3_ : Nat → Prop) (u9000_ : Value) (l0_3 : List S37) (a1 : Int) (r1 : Int) (r2 : List S37) (w0 w : World) (hB : Below w0.heap.size w0 w) (ho0_3 : Kd.S k37 37 w w0.heap.size P0_3_ u9000_ l0_3) (h : laws_markModel.f a0_0 a0_1 a0_2 l0_3 a1 = some (r1, r2)) :
   Calls Try.prog 41 #[.agg #[.int .i64 a0_0, .int .i64 a0_1, .int .i64 a0_2, u9000_], .int .i64 a1] w fun e w' => e = .returned (.int .i64 r1) ∧ Kd.S k37 37 w' w0.heap.size P0_3_ u9000_ r2 ∧ Below w0.heap.size w0 w' ∧ Kept w w' (fun k_ => P0_3_ k_) := by
  have hr : (0 ≤ a1 ∧ a1 + marksTot l0_3 ≤ 1000000000000000 ∧ r1 = a1 + marksTot l0_3) ∧ r2 = markLs l0_3 a1 := by
   unfold laws_markModel.f at h
   split at h
   ·rename_i hc;have h := Option.some.inj h
    injection h with h1 h2
    exact ⟨⟨hc.1, hc.2, h1.symm⟩, h2.symm⟩
   ·cases h
  rw [hr.2];exact (marksX_model a0_0 a0_1 a0_2 P0_3_ u9000_ l0_3 a1 r1 w0 w hB ho0_3 hr.1).mono fun e w' ⟨h1, h2, h3, h4⟩ => ⟨h1, h2.out, h3.out, h4.out⟩

def laws_heldIntS.l0 : Nat → List Int → Int → Int → Option (Int)
  | 0, _, _, _ => none
  | k + 1, x0, x1, x5 => if x5 < (x0.length : Int) then (if 0 ≤ x5 then (if (rd x0 x5) = x1 then (laws_heldIntS.l0 k x0 (wrap64 (x1 + 1)) (wrap64 (x5 + 1))) else (some (-1))) else (none)) else (some x1)
def laws_heldIntS.f (k : Nat) (l0 : List Int) (a1 : Int) : Option (Int) := laws_heldIntS.l0 k l0 a1 0
theorem laws_heldIntS.calls (k : Nat) (A0 : Option Addr) (c0 : Nat) (l0 : List Int) (a1 : Int) (r : Int) (w : World) (hr0 : Kd.C (Kd.int .i64) w A0 l0.length l0) (hc0 : l0.length ≤ c0) (h : laws_heldIntS.f k l0 a1 = some r) :
   Calls Try.prog 27 #[.slice A0 l0.length c0, .int .i64 a1] w fun e w' => e = .returned (.int .i64 r) ∧ Drawn0 w w' := by
  have HR0 := am hr0;have HC0 := am hc0;clear hr0 hc0;have H : (laws_heldIntS.l0 k l0 a1 0) = some r := h;clear h;have H' := am H;clear H
  go_enter Try.func27, Try.ntmps27
  go_wp2
  go_loopg [1, 5] k (fun kq v1 v5 w' => ∃ (x1_1 : Int) (x5_1 : Int), v1 = .int .i64 x1_1 ∧ v5 = .int .i64 x5_1 ∧ Aside0 (laws_heldIntS.l0 kq l0 x1_1 x5_1 = some r) ∧ Aside0 (kq ≤ k) ∧ Drawn0 w w')
  case atStart => exact ⟨(a1), (0), pv, pv, H', ⟨Nat.le_refl _⟩, by repeat (first | exact Drawn0.refl _ | apply Drawn0.step)⟩
  case round =>
   clear H';obtain ⟨x1_1, x5_1, rfl, rfl, HA, HK1, ⟨m1, rfl⟩⟩ := hrel
   cases gk with
   | zero => exact absurd HA.out (by simp [laws_heldIntS.l0])
   | succ k1 =>
    have H := HA.out;clear HA;simp only [laws_heldIntS.l0] at H;by_cases c3 : x5_1 < (l0.length : Int);rotate_left
    ·rw [if_neg c3] at H;have c3b0 : decide (x5_1 < (l0.length : Int)) = false := decide_eq_false c3;clear c3;obtain rfl := Option.some.inj H
     go_wp2
     go_ret
     exact ⟨by first | rfl | (simp; done) | (simp [*]; done), by repeat (first | exact Drawn0.refl _ | apply Drawn0.step)⟩
    rw [if_pos c3] at H;have c3b0 : decide (x5_1 < (l0.length : Int)) = true := decide_eq_true c3;clear c3;obtain ⟨c4, H⟩ := gd H;have c4b0 : decide (0 ≤ x5_1) = true := decide_eq_true c4;clear c4;by_cases c5 : (rd l0 x5_1) = x1_1;rotate_left
    ·rw [if_neg c5] at H;have c5b0 : ((rd l0 x5_1) == x1_1) = false := beq_eq_false_iff_ne.mpr c5;have c5b1 : ((rd l0 x5_1) != x1_1) = true := bne_iff_ne.mpr c5;obtain rfl := Option.some.inj H;have p410 : 0 ≤ (x5_1 : Int) := of_decide_eq_true (by first | (with_reducible assumption) | assumption);have q410 : x5_1 < (l0.length : Int) := of_decide_eq_true (by first | (with_reducible assumption) | assumption);obtain ⟨ad410, e410, hx410_0⟩ := Kd.at_int HR0.out x5_1 p410 q410;cases e410;replace p410 := eq_true p410;replace q410 := eq_true q410
     go_wp2
     go_ret
     exact ⟨by first | rfl | (simp; done) | (simp [*]; done), by repeat (first | exact Drawn0.refl _ | apply Drawn0.step)⟩
    rw [if_pos c5] at H;have c5b0 : ((rd l0 x5_1) == x1_1) = true := beq_iff_eq.mpr c5;have c5b1 : ((rd l0 x5_1) != x1_1) = false := bne_eq_false_iff_eq.mpr c5;clear c5;have H' := am H;clear H;have p410 : 0 ≤ (x5_1 : Int) := of_decide_eq_true (by first | (with_reducible assumption) | assumption);have q410 : x5_1 < (l0.length : Int) := of_decide_eq_true (by first | (with_reducible assumption) | assumption);obtain ⟨ad410, e410, hx410_0⟩ := Kd.at_int HR0.out x5_1 p410 q410;cases e410;replace p410 := eq_true p410;replace q410 := eq_true q410
    go_wp2
    go_roundg k1
    case measure => have := HK1.out; omega
    case rel => exact ⟨(wrap64 (x1_1 + 1)), (wrap64 (x5_1 + 1)), pv, pv, H', ⟨by have := HK1.out; omega⟩, by repeat (first | exact Drawn0.refl _ | apply Drawn0.step)⟩

end Go.Proofs.Ytclpojeofclbjaa.PFnExactDecodeModel
