-- Printed by the session's own program (wip/myprint.py) for this claim out of the translation. Not trusted: Lean checks it.
import Derived.Test.YtljdcemdhmaahaaPFnExactEncodeModelx0
import Derived.Test.YtljdcemdhmaahaaPFnExactEncodeModelx10
namespace Go.Proofs.Ytljdcemdhmaahaa.PFnExactEncodeModel
open Go.RowKit Go.Proofs.YtljdcemdhmaahaaW.PrintWords Go.Proofs.YtljdcemdhmaahaaW.PrintLast Go.Proofs.YtljdcemdhmaahaaW.PrintMore
attribute [local go_sem] max2_int min2_int max_two min_two max_three min_three max_four min_four   -- for this text's walks alone
set_option linter.unusedVariables false
set_option linter.unusedSimpArgs false

/-! ### impl_SumOf: function 55 -/
def impl_SumOf.l0 : Nat → Int → List Int → Int → Int → Option (Int)
  | 0, _, _, _, _ => none
  | k + 1, x3, x6, x7, x8 => if x8 < x7 then (if 0 ≤ x8 then (if x8 < (x6.length : Int) then (impl_SumOf.l0 k (Int.tmod (wrap64 ((wrap64 ((wrap64 (x3 * 257)) + (wrap64 (rd x6 x8)))) + 1)) 1000003) x6 x7 (wrap64 (x8 + 1))) else (none)) else (none)) else (some x3)
def impl_SumOf.f (k : Nat) (l0 : List Int) : Option (Int) := impl_SumOf.l0 k 1 l0 (l0.length : Int) 0
set_option maxHeartbeats 8000000 in
set_option maxRecDepth 100000 in
theorem impl_SumOf.calls (k : Nat) (A0 : Option Addr) (c0 : Nat) (l0 : List Int) (r : Int) (w : World) (hr0 : Kd.C (Kd.int .u8) w A0 l0.length l0) (hc0 : l0.length ≤ c0) (h : impl_SumOf.f k l0 = some r) :
   Calls Try.prog 55 #[.slice A0 l0.length c0] w fun e w' => e = .returned (.int .i64 r) ∧ Drawn0 w w' := by
  have HR0 := Aside0.mk hr0
  have HC0 := Aside0.mk hc0
  clear hr0 hc0
  have H : (impl_SumOf.l0 k 1 l0 (l0.length : Int) 0) = some r := h
  clear h
  have H' := Aside0.mk H
  clear H
  go_enter Try.func55, Try.ntmps55
  go_wp2
  go_loopg [3, 8] k (fun kq v3 v8 w' => ∃ (x3_1 : Int) (x8_1 : Int), v3 = .int .i64 x3_1 ∧ v8 = .int .i64 x8_1 ∧ Aside0 (impl_SumOf.l0 kq x3_1 l0 (l0.length : Int) x8_1 = some r) ∧ Aside0 (kq ≤ k) ∧ Drawn0 w w')
  case atStart => exact ⟨(1), (0), (by first | rfl | (simp; done) | (simp [*]; done)), (by first | rfl | (simp; done) | (simp [*]; done)), H', ⟨Nat.le_refl _⟩, by repeat (first | exact Drawn0.refl _ | apply Drawn0.step)⟩
  case round =>
   clear H'
   obtain ⟨x3_1, x8_1, rfl, rfl, HA, HK1, ⟨m1, rfl⟩⟩ := hrel
   cases gk with
   | zero => exact absurd HA.out (by simp [impl_SumOf.l0])
   | succ k1 =>
    have H := HA.out
    clear HA
    simp only [impl_SumOf.l0] at H
    by_cases c2 : x8_1 < (l0.length : Int)
    rotate_left
    ·rw [if_neg c2] at H
     have c2b0 : decide (x8_1 < (l0.length : Int)) = false := decide_eq_false c2
     clear c2
     obtain rfl := Option.some.inj H
     go_wp2
     go_ret
     exact ⟨by first | rfl | (simp; done) | (simp [*]; done), by repeat (first | exact Drawn0.refl _ | apply Drawn0.step)⟩
    rw [if_pos c2] at H
    have c2b0 : decide (x8_1 < (l0.length : Int)) = true := decide_eq_true c2
    clear c2
    by_cases c3 : 0 ≤ x8_1
    rotate_left
    ·rw [if_neg c3] at H
     exact absurd H (by simp)
    rw [if_pos c3] at H
    have c3b0 : decide (0 ≤ x8_1) = true := decide_eq_true c3
    clear c3
    by_cases c4 : x8_1 < (l0.length : Int)
    rotate_left
    ·rw [if_neg c4] at H
     exact absurd H (by simp)
    rw [if_pos c4] at H
    have c4b0 : decide (x8_1 < (l0.length : Int)) = true := decide_eq_true c4
    clear c4
    have H' := Aside0.mk H
    clear H
    have p357 : 0 ≤ (x8_1 : Int) := of_decide_eq_true (by first | (with_reducible assumption) | assumption)
    have q357 : x8_1 < (l0.length : Int) := of_decide_eq_true (by first | (with_reducible assumption) | assumption)
    obtain ⟨ad357, e357, hx357_0⟩ := Kd.at_int HR0.out x8_1 p357 q357
    cases e357
    replace p357 := eq_true p357
    replace q357 := eq_true q357
    go_wp2
    go_roundg k1
    case measure => have := HK1.out; omega
    case rel => exact ⟨(Int.tmod (wrap64 ((wrap64 ((wrap64 (x3_1 * 257)) + (wrap64 (rd l0 x8_1)))) + 1)) 1000003), (wrap64 (x8_1 + 1)), (by first | rfl | (simp; done) | (simp [*]; done)), (by first | rfl | (simp; done) | (simp [*]; done)), H', ⟨by have := HK1.out; omega⟩, by repeat (first | exact Drawn0.refl _ | apply Drawn0.step)⟩

/-! ### impl_EncodeModel: function 14 (by hand) -/
def inGo (k : Nat) : List (List Int) → List Int → Option (List Int)
  | [], o => some o
  | x :: l, o => (impl_putWide.f k o [(x.length : Int)]).bind fun o1 => (impl_putWide.f k o1 x).bind fun o2 => inGo k l o2
def encGo (k : Nat) : List S73 → List Int → Option (List Int)
  | [], o => some o
  | x :: l, o => (impl_Layer_numbers.f x.f0 x.f1 x.f2 x.f3 x.f4 x.f5 x.f6 x.f7 x.f8).bind fun ns => (impl_putWide.f k o ns).bind fun o1 => (inGo k [x.f7, x.f8] o1).bind fun o2 => encGo k l o2
def impl_EncodeModel.f (k : Nat) (a0_0 a0_1 a0_2 : Int) (l0_3 : List S73) : Option (List Int × Bool) := (impl_ModelOk.f k a0_0 a0_1 a0_2 l0_3).bind fun ok => if ok = false then some ([], false) else (impl_Model_head.f k a0_0 a0_1 a0_2 l0_3).bind fun h => (encGo k l0_3 h).bind fun o => (impl_SumOf.f k o).bind fun s => (impl_putWide.f k o [s]).bind fun o2 => if (o2.length : Int) > 6000 then some ([], false) else some (o2, true)
/-- All but blocks of bytes stays. -/
def Oth (W w' : World) : Prop := W.heap.size ≤ w'.heap.size ∧ ∀ (b : Nat) (cs : Array Value) (t : TypeId), W.heap[b]? = some (.cells cs t (0, 0)) → t ≠ 5 → w'.heap[b]? = some (.cells cs t (0, 0))
theorem put_call (k : Nat) (w W : World) (vo : Value) (o : List Int) (A1 : Option Addr) (c1 : Nat) (l1 r : List Int) (hB : Below w.heap.size w W) (ho : Kd.R (Kd.int .u8) 5 W w.heap.size (fun _ => True) vo o) (hr : ∀ W_, Kept W W_ (fun k_ => some k_ = vo.ownBlock) → Kd.C (Kd.int .i64) W_ A1 l1.length l1) (hc1 : l1.length ≤ c1) (h : impl_putWide.f k o l1 = some r) :
   Calls Try.prog 53 #[vo, .slice A1 l1.length c1] W fun e w' => ∃ v0_ : Value, e = .returned v0_ ∧ Aside0 (Kd.R (Kd.int .u8) 5 w' w.heap.size (fun _ => True) v0_ r) ∧ Aside0 (Below w.heap.size w w') ∧ Aside0 (Oth W w') :=
  (impl_putWide.calls k (fun k_ => some k_ = vo.ownBlock) vo o A1 c1 l1 r w W hB (Kd.R_tight rfl ho) hr hc1 h).mono fun e w' ⟨v0, h1, h2, h3, h4⟩ => ⟨v0, h1, ⟨Kd.R_mono h2 fun _ _ => trivial⟩, ⟨h3⟩, ⟨h4.1, fun b cs t hb ht => (h4.2 b (blk_lt hb) (fun e_ => Kd.R_ne ho hb (Ne.symm ht) e_)).trans hb⟩⟩
theorem put_came (k : Nat) (w W : World) (vo : Value) (o : List Int) (A1 : Option Addr) (c1 : Nat) (l1 r : List Int) (hB : Below w.heap.size w W) (ho : Kd.R (Kd.int .u8) 5 W w.heap.size (fun _ => True) vo o) (hr : Kd.C (Kd.int .i64) w A1 l1.length l1) (hc1 : l1.length ≤ c1) (h : impl_putWide.f k o l1 = some r) :
   Calls Try.prog 53 #[vo, .slice A1 l1.length c1] W fun e w' => ∃ v0_ : Value, e = .returned v0_ ∧ Aside0 (Kd.R (Kd.int .u8) 5 w' w.heap.size (fun _ => True) v0_ r) ∧ Aside0 (Below w.heap.size w w') ∧ Aside0 (Oth W w') :=
  put_call k w W vo o A1 c1 l1 r hB ho (Kd.C_kept_came (Kd.heap_int .i64) hr hB (fun k_ e_ => Kd.R_base ho k_ e_.symm)) hc1 h
theorem put_new (k : Nat) (w W : World) (vo : Value) (o : List Int) (A1 : Option Addr) (c1 : Nat) (l1 r : List Int) (hB : Below w.heap.size w W) (ho : Kd.R (Kd.int .u8) 5 W w.heap.size (fun _ => True) vo o) (hr : Kd.R (Kd.int .i64) 3 W 0 (fun _ => True) (.slice A1 l1.length c1) l1) (h : impl_putWide.f k o l1 = some r) :
   Calls Try.prog 53 #[vo, .slice A1 l1.length c1] W fun e w' => ∃ v0_ : Value, e = .returned v0_ ∧ Aside0 (Kd.R (Kd.int .u8) 5 w' w.heap.size (fun _ => True) v0_ r) ∧ Aside0 (Below w.heap.size w w') ∧ Aside0 (Oth W w') :=
  put_call k w W vo o A1 c1 l1 r hB ho (Kd.C_kept_own (Kd.R_apart' hr (Kd.R_typed ho) (by decide)) (fun _ hk e_ => hk.2 e_)) (Kd.R_reads' hr).2.1 h
theorem lit_R {W : World} {g base : Nat} {x : Int} (hb : base ≤ g) (h : W.heap[g]? = some (.cells #[.int .i64 x] 3 (0, 0))) : Kd.R (Kd.int .i64) 3 W base (fun _ => True) (.slice (some ⟨g, 0, none⟩) 1 1) [x] := by
  refine Kd.R_of_own ?_ (fun _ _ => trivial)
  exact ⟨rfl, .inr ⟨g, 1, #[.int .i64 x], rfl, hb, h, Nat.le_refl _, by unfold maxLen; decide, rfl, rfl⟩⟩
theorem put_lit (k : Nat) (w W : World) (vo : Value) (o : List Int) (g : Nat) (x : Int) (r : List Int) (hB : Below w.heap.size w W) (ho : Kd.R (Kd.int .u8) 5 W w.heap.size (fun _ => True) vo o) (hr : W.heap[g]? = some (.cells #[.int .i64 x] 3 (0, 0))) (h : impl_putWide.f k o [x] = some r) :
   Calls Try.prog 53 #[vo, .slice (some ⟨g, 0, none⟩) 1 1] W fun e w' => ∃ v0_ : Value, e = .returned v0_ ∧ Aside0 (Kd.R (Kd.int .u8) 5 w' w.heap.size (fun _ => True) v0_ r) ∧ Aside0 (Below w.heap.size w w') ∧ Aside0 (Oth W w') :=
  put_new k w W vo o (some ⟨g, 0, none⟩) 1 [x] r hB ho (lit_R (Nat.zero_le _) hr) h
theorem Oth.blk {W w' : World} {b t : Nat} {cs : Array Value} (h : Aside0 (Oth W w')) (hb : Aside0 (W.heap[b]? = some (.cells cs t (0, 0)))) (ht : t ≠ 5 := by decide) : Aside0 (w'.heap[b]? = some (.cells cs t (0, 0))) := ⟨h.out.2 b cs t hb.out ht⟩
theorem boxL {P : Program} {ops : Array Oper} {Q : Exit → Act → World → Prop} {rest : List Oper} {o : Oper} {a : Act} {W : World} (N : Tmp) (cs : Array Value) (t : TypeId) {n c : Nat}
   (h : ∀ g, g = W.heap.size → ∀ w1, Aside0 (w1.heap[g]? = some (.cells cs t (0, 0))) → Below W.heap.size W w1 → wpList P ops Q rest (a.put o.dst (.slice (some ⟨g, 0, none⟩) n c)) w1)
   (hd : o.dst = some N := by rfl) (hg : o.guard = none := by rfl) (hr : (execOp a.eval o).run P W = .ok (.value (.slice (some ⟨W.heap.size, 0, none⟩) n c)) (W.alloc (.cells cs t (0, 0))) := by first | (go_simp; done) | (go_simp; rfl)) : wpList P ops Q (o :: rest) a W := by
  refine wpList_plain hg fun K hK => ?_
  unfold Oper.wp
  rw [hr]
  exact hK _ _ (h _ rfl _ ⟨heap_alloc_new W (.cells cs t (0, 0))⟩ (below_alloc (Below.refl W.heap.size W) _))
set_option maxHeartbeats 8000000 in
set_option maxRecDepth 100000 in
theorem impl_EncodeModel.calls (k : Nat) (a0_0 : Int) (a0_1 : Int) (a0_2 : Int) (A0_3 : Option Addr) (c0_3 : Nat) (l0_3 : List S73) (r1 : List Int) (r2 : Bool) (w : World) (hr0_3 : Kd.C k73 w A0_3 l0_3.length l0_3) (hc0_3 : l0_3.length ≤ c0_3) (h : impl_EncodeModel.f k a0_0 a0_1 a0_2 l0_3 = some (r1, r2)) :
   Calls Try.prog 14 #[.agg #[.int .i64 a0_0, .int .i64 a0_1, .int .i64 a0_2, .slice A0_3 l0_3.length c0_3]] w fun e w' => ∃ v0_ : Value, e = .returned (.tuple #[v0_, .bool r2]) ∧ Kd.R (Kd.int .u8) 5 w' w.heap.size (fun _ => True) v0_ r1 ∧ Below w.heap.size w w' := by
  have hu1 := Try.underlying28
  have hu2 := Try.underlying73
  have HR0 := Aside0.mk hr0_3
  have HC0 := Aside0.mk hc0_3
  clear hr0_3 hc0_3
  have HB := Aside0.mk (Below.refl w.heap.size w)
  unfold impl_EncodeModel.f at h
  replace h := Option.bind_eq_some_iff.mp h
  obtain ⟨ok, Aok, h⟩ := h
  have AK := Aside0.mk Aok
  clear Aok
  by_cases c1 : ok = false
  ·subst c1
   rw [if_pos rfl] at h
   simp only [Option.some.injEq, Prod.mk.injEq] at h
   obtain ⟨rfl, rfl⟩ := h
   go_enter Try.func14, Try.ntmps14
   go_wp2_with (first | ((with_reducible refine gate_dst (N := 1) rfl ?_); refine boxM 1 #[.int .i64 a0_0, .int .i64 a0_1, .int .i64 a0_2, .slice A0_3 l0_3.length c0_3] 28 ?_; intro gb1 hg w2_ BK1 hb; replace HB := bel_on w hb; clear hb hg; have hcz1 := cells4 BK1.out) | ((with_reducible refine gate_callee (f := 51) rfl ?_); refine goesM (some 10) rfl rfl Try.func51 (by kernel_rfl) rfl #[.agg #[.int .i64 a0_0, .int .i64 a0_1, .int .i64 a0_2, .slice A0_3 l0_3.length c0_3]] rfl ?_; (with_reducible refine (impl_ModelOk.calls k a0_0 a0_1 a0_2 _ _ l0_3 false _ ?s1 ?s2 AK.out).mono ?_); (case s1 => exact Kd.C_below HR0.out HB.out); (case s2 => exact HC0.out); rintro e w3_ ⟨rfl, hb⟩; refine ⟨_, rfl, ?_⟩; replace HB := bel_on w hb; clear hb))
   go_ret2
   exact ⟨_, eqN, Kd.R_nil _ _ _ _ _, HB.out⟩
  replace c1 : ok = true := by cases ok <;> simp_all
  subst c1
  rw [if_neg (by decide)] at h
  replace h := Option.bind_eq_some_iff.mp h
  obtain ⟨hd, Ahd, h⟩ := h
  have AH := Aside0.mk Ahd
  clear Ahd
  replace h := Option.bind_eq_some_iff.mp h
  obtain ⟨O, AO_, h⟩ := h
  have AO := Aside0.mk AO_
  clear AO_
  replace h := Option.bind_eq_some_iff.mp h
  obtain ⟨sm, As_, h⟩ := h
  have AS := Aside0.mk As_
  clear As_
  replace h := Option.bind_eq_some_iff.mp h
  obtain ⟨O2, Ap_, h⟩ := h
  have AP := Aside0.mk Ap_
  clear Ap_
  have HH := Aside0.mk h
  clear h
  go_enter Try.func14, Try.ntmps14
  go_wp2_with (first | ((with_reducible refine gate_dst (N := 1) rfl ?_); refine boxM 1 #[.int .i64 a0_0, .int .i64 a0_1, .int .i64 a0_2, .slice A0_3 l0_3.length c0_3] 28 ?_; intro gb1 hg w2_ BK1 hb; replace HB := bel_on w hb; clear hb hg; have hcz1 := cells4 BK1.out) | ((with_reducible refine gate_callee (f := 51) rfl ?_); refine goesM (some 10) rfl rfl Try.func51 (by kernel_rfl) rfl #[.agg #[.int .i64 a0_0, .int .i64 a0_1, .int .i64 a0_2, .slice A0_3 l0_3.length c0_3]] rfl ?_; (with_reducible refine (impl_ModelOk.calls k a0_0 a0_1 a0_2 _ _ l0_3 true _ ?s1 ?s2 AK.out).mono ?_); (case s1 => exact Kd.C_below HR0.out HB.out); (case s2 => exact HC0.out); rintro e w3_ ⟨rfl, hb⟩; refine ⟨_, rfl, ?_⟩; replace HB := bel_on w hb; replace BK1 := blk_on gb1 hb; clear hb hcz1; have hcz2 := cells4 BK1.out) | ((with_reducible refine gate_callee (f := 52) rfl ?_); refine goesM (some 13) rfl rfl Try.func52 (by kernel_rfl) rfl #[.agg #[.int .i64 a0_0, .int .i64 a0_1, .int .i64 a0_2, .slice A0_3 l0_3.length c0_3]] rfl ?_; (with_reducible refine (impl_Model_head.calls k a0_0 a0_1 a0_2 _ _ l0_3 hd _ ?s1 ?s2 AH.out).mono ?_); (case s1 => exact Kd.C_below HR0.out HB.out); (case s2 => exact HC0.out); rintro e w4_ ⟨vh, rfl, ho, hb⟩; refine ⟨_, rfl, ?_⟩; have HO := Aside0.mk (Kd.R_mono (Kd.R_lower ho (below_size HB.out)) (fun _ _ => trivial)); replace HB := bel_on w hb; replace BK1 := blk_on gb1 hb; clear hb ho hcz2; have hcz3 := cells4 BK1.out))
  go_loopg [4, 17] l0_3.length (fun kq v4 v17 w' => ∃ (o1 : List Int) (vo1 : Value) (x17_1 : Int), v4 = vo1 ∧ v17 = .int .i64 x17_1 ∧ Aside0 (0 ≤ x17_1 ∧ x17_1 ≤ l0_3.length ∧ l0_3.length - x17_1.toNat ≤ kq ∧ encGo k (l0_3.drop x17_1.toNat) o1 = some O) ∧ Aside0 (Kd.R (Kd.int .u8) 5 w' w.heap.size (fun _ => True) vo1 o1) ∧ Aside0 (Below w.heap.size w w'))
  case atStart => exact ⟨hd, vh, 0, rfl, rfl, ⟨by refine ⟨by omega, by omega, by simp, ?_⟩; simpa using AO.out⟩, HO, HB⟩
  case round =>
   clear HO HB
   obtain ⟨o1, vo1, x17_1, rfl, rfl, HX, HO, HB⟩ := hrel
   by_cases c3 : x17_1 < (l0_3.length : Int)
   rotate_left
   ·have c3b0 : decide (x17_1 < (l0_3.length : Int)) = false := decide_eq_false c3
    have hE := HX.out.2.2.2
    rw [List.drop_eq_nil_of_le (by have := HX.out; omega)] at hE
    have E5 := Aside0.mk (Option.some.inj hE)
    clear hE c3
    obtain ⟨A1, c1_, e1_⟩ := Kd.R_slice HO.out
    subst e1_
    have hE5 := E5.out
    subst hE5
    have hH := HH.out
    by_cases c6 : (O2.length : Int) > 6000
    ·rw [if_pos c6] at hH
     simp only [Option.some.injEq, Prod.mk.injEq] at hH
     obtain ⟨rfl, rfl⟩ := hH
     have c6b0 : decide ((O2.length : Int) > 6000) = true := decide_eq_true c6
     have c6b1 : decide (6000 < (O2.length : Int)) = true := decide_eq_true c6
     have c6b2 : decide (6000 < O2.length) = true := decide_eq_true (by omega)
     clear c6
     go_wp2_with (first | ((with_reducible refine gate_callee (f := 55) rfl ?_); refine goesM (some 46) rfl rfl Try.func55 (by kernel_rfl) rfl #[.slice A1 o1.length c1_] rfl ?_; (with_reducible refine (impl_SumOf.calls k _ _ o1 sm _ ?s1 ?s2 AS.out).mono ?_); (case s1 => exact (Kd.R_reads' HO.out).2.2); (case s2 => exact (Kd.R_reads' HO.out).2.1); rintro e w5_ ⟨rfl, ⟨nd, rfl⟩⟩; refine ⟨_, rfl, ?_⟩; have HO1 := Aside0.mk (Kd.R_drewN HO.out nd); have HB1 := Aside0.mk (pw_below_drewN HB.out nd); clear HO HB; have HO := HO1; have HB := HB1; clear HO1 HB1) | ((with_reducible refine gate_dst (N := 47) rfl ?_); refine boxL (n := 1) (c := 1) 47 #[.int .i64 sm] 3 ?_; intro gl hg wl_ BL hb; have HO1 := Aside0.mk (Kd.R_below HO.out hb); have HB1 := bel_on w hb; clear HO HB; have HO := HO1; have HB := HB1; clear HO1 HB1 hb hg) | ((with_reducible refine gate_callee (f := 53) rfl ?_); refine goesM (some 48) rfl rfl Try.func53 (by kernel_rfl) rfl #[.slice A1 o1.length c1_, .slice (some ⟨gl, 0, none⟩) 1 1] rfl ?_; (with_reducible refine (put_lit k w _ _ o1 gl sm O2 ?s1 ?s2 ?s3 ?s4).mono ?_); (case s1 => exact HB.out); (case s2 => exact HO.out); (case s3 => exact BL.out); (case s4 => exact AP.out); rintro e wp_ ⟨vowp_, rfl, nR, nB, nO⟩; refine ⟨_, rfl, ?_⟩; clear HO HB ; have HO := nR; have HB := nB; clear nR nB nO ; clear BL; obtain ⟨Aq, cq, eq_⟩ := Kd.R_slice HO.out; subst eq_))
     go_ret2
     exact ⟨_, eqN, Kd.R_nil _ _ _ _ _, HB.out⟩
    rw [if_neg c6] at hH
    simp only [Option.some.injEq, Prod.mk.injEq] at hH
    obtain ⟨rfl, rfl⟩ := hH
    have c6b0 : decide ((O2.length : Int) > 6000) = false := decide_eq_false c6
    have c6b1 : decide (6000 < (O2.length : Int)) = false := decide_eq_false c6
    have c6b2 : decide (6000 < O2.length) = false := decide_eq_false (by omega)
    clear c6
    go_wp2_with (first | ((with_reducible refine gate_callee (f := 55) rfl ?_); refine goesM (some 46) rfl rfl Try.func55 (by kernel_rfl) rfl #[.slice A1 o1.length c1_] rfl ?_; (with_reducible refine (impl_SumOf.calls k _ _ o1 sm _ ?s1 ?s2 AS.out).mono ?_); (case s1 => exact (Kd.R_reads' HO.out).2.2); (case s2 => exact (Kd.R_reads' HO.out).2.1); rintro e w5_ ⟨rfl, ⟨nd, rfl⟩⟩; refine ⟨_, rfl, ?_⟩; have HO1 := Aside0.mk (Kd.R_drewN HO.out nd); have HB1 := Aside0.mk (pw_below_drewN HB.out nd); clear HO HB; have HO := HO1; have HB := HB1; clear HO1 HB1) | ((with_reducible refine gate_dst (N := 47) rfl ?_); refine boxL (n := 1) (c := 1) 47 #[.int .i64 sm] 3 ?_; intro gl hg wl_ BL hb; have HO1 := Aside0.mk (Kd.R_below HO.out hb); have HB1 := bel_on w hb; clear HO HB; have HO := HO1; have HB := HB1; clear HO1 HB1 hb hg) | ((with_reducible refine gate_callee (f := 53) rfl ?_); refine goesM (some 48) rfl rfl Try.func53 (by kernel_rfl) rfl #[.slice A1 o1.length c1_, .slice (some ⟨gl, 0, none⟩) 1 1] rfl ?_; (with_reducible refine (put_lit k w _ _ o1 gl sm O2 ?s1 ?s2 ?s3 ?s4).mono ?_); (case s1 => exact HB.out); (case s2 => exact HO.out); (case s3 => exact BL.out); (case s4 => exact AP.out); rintro e wp_ ⟨vowp_, rfl, nR, nB, nO⟩; refine ⟨_, rfl, ?_⟩; clear HO HB ; have HO := nR; have HB := nB; clear nR nB nO ; clear BL; obtain ⟨Aq, cq, eq_⟩ := Kd.R_slice HO.out; subst eq_))
    go_ret2
    exact ⟨_, eqN, HO.out, HB.out⟩
   have c3b0 : decide (x17_1 < (l0_3.length : Int)) = true := decide_eq_true c3
   have c4b0 : decide (0 ≤ x17_1) = true := decide_eq_true HX.out.1
   obtain ⟨ad, A7, c7, A8, c8, ea, hx0, hx1, hx2, hx3, hx4, hx5, hx6, hx7, hx8, hl7, hi7, hl8, hi8⟩ := at_T73 HR0.out x17_1 HX.out.1 c3
   cases ea
   replace hx0 := (HB.out.cell (World.block_lt_of_cell? w _ hx0)).trans hx0
   replace hx1 := (HB.out.cell (World.block_lt_of_cell? w _ hx1)).trans hx1
   replace hx2 := (HB.out.cell (World.block_lt_of_cell? w _ hx2)).trans hx2
   replace hx3 := (HB.out.cell (World.block_lt_of_cell? w _ hx3)).trans hx3
   replace hx4 := (HB.out.cell (World.block_lt_of_cell? w _ hx4)).trans hx4
   replace hx5 := (HB.out.cell (World.block_lt_of_cell? w _ hx5)).trans hx5
   replace hx6 := (HB.out.cell (World.block_lt_of_cell? w _ hx6)).trans hx6
   replace hx7 := (HB.out.cell (World.block_lt_of_cell? w _ hx7)).trans hx7
   replace hx8 := (HB.out.cell (World.block_lt_of_cell? w _ hx8)).trans hx8
   have HR7 := Aside0.mk hi7
   have HC7 := Aside0.mk hl7
   have HR8 := Aside0.mk hi8
   have HC8 := Aside0.mk hl8
   clear hi7 hl7 hi8 hl8
   have hE := HX.out.2.2.2
   rw [List.drop_eq_getElem_cons (show x17_1.toNat < l0_3.length by have := HX.out; omega), show l0_3[x17_1.toNat]'(by have := HX.out; omega) = (rd_T73 l0_3 x17_1) by unfold rd_T73; rw [List.getD_eq_getElem?_getD, List.getElem?_eq_getElem (by have := HX.out; omega)]; rfl] at hE
   simp only [encGo] at hE
   replace hE := Option.bind_eq_some_iff.mp hE
   obtain ⟨ns, E1_, hE⟩ := hE
   have E1 := Aside0.mk E1_
   clear E1_
   replace hE := Option.bind_eq_some_iff.mp hE
   obtain ⟨o2, E2_, hE⟩ := hE
   have E2 := Aside0.mk E2_
   clear E2_
   replace hE := Option.bind_eq_some_iff.mp hE
   obtain ⟨o5, E3_, hE⟩ := hE
   have E3 := Aside0.mk E3_
   have E4 := Aside0.mk hE
   clear E3_ hE c3
   obtain ⟨A1, c1_, e1_⟩ := Kd.R_slice HO.out
   subst e1_
   have p5 := eq_true HX.out.1
   have q5 := eq_true (of_decide_eq_true c3b0)
   go_wp2_with (first | ((with_reducible refine gate_dst (N := 6) rfl ?_); refine boxM 6 #[.int .i64 0, .int .i64 0, .int .i64 0, .int .i64 0, .int .i64 0, .int .i64 0, .int .i64 0, .slice none 0 0, .slice none 0 0] 73 ?_; intro gb6 hg w4_ BK6 hb; have HO1 := Aside0.mk (Kd.R_below HO.out hb); have GE6 := Aside0.mk (show w.heap.size ≤ gb6 by rw [hg]; exact below_size HB.out); replace HB := bel_on w hb; clear HO hb hg; have HO := HO1; clear HO1; have hcz6 := cells9 BK6.out) | ((with_reducible refine gate_store (t := 73) (p := 6) rfl ?_); refine store_event (t := 73) (p := 6) (v := ?vs) (w1 := (((((((((w4_.setCell ⟨gb6, 0, none⟩ (.int .i64 (rd_T73 l0_3 x17_1).f0)).setCell ⟨gb6, 1, none⟩ (.int .i64 (rd_T73 l0_3 x17_1).f1)).setCell ⟨gb6, 2, none⟩ (.int .i64 (rd_T73 l0_3 x17_1).f2)).setCell ⟨gb6, 3, none⟩ (.int .i64 (rd_T73 l0_3 x17_1).f3)).setCell ⟨gb6, 4, none⟩ (.int .i64 (rd_T73 l0_3 x17_1).f4)).setCell ⟨gb6, 5, none⟩ (.int .i64 (rd_T73 l0_3 x17_1).f5)).setCell ⟨gb6, 6, none⟩ (.int .i64 (rd_T73 l0_3 x17_1).f6)).setCell ⟨gb6, 7, none⟩ (.slice A7 (rd_T73 l0_3 x17_1).f7.length c7)).setCell ⟨gb6, 8, none⟩ (.slice A8 (rd_T73 l0_3 x17_1).f8.length c8))) ?hg ?ho ?hn ?hr ?_; (case ho => rfl); (case hg => rfl); (case hn => rfl); (case hr => first | (go_simp; done) | (go_simp; rfl)); intro w5_ hw; have n1 := Aside0.mk (show w5_.heap[gb6]? = some (.cells #[.int .i64 (rd_T73 l0_3 x17_1).f0, .int .i64 (rd_T73 l0_3 x17_1).f1, .int .i64 (rd_T73 l0_3 x17_1).f2, .int .i64 (rd_T73 l0_3 x17_1).f3, .int .i64 (rd_T73 l0_3 x17_1).f4, .int .i64 (rd_T73 l0_3 x17_1).f5, .int .i64 (rd_T73 l0_3 x17_1).f6, .slice A7 (rd_T73 l0_3 x17_1).f7.length c7, .slice A8 (rd_T73 l0_3 x17_1).f8.length c8] 73 (0, 0)) from by rw [hw]; exact putl9 BK6.out); have n2 := Aside0.mk (show Kd.R (Kd.int .u8) 5 w5_ w.heap.size (fun _ => True) _ o1 from by rw [hw]; exact R_far9 HO.out BK6.out (by decide)); have n3 := Aside0.mk (show Below w.heap.size w w5_ from by rw [hw]; exact below_set (below_set (below_set (below_set (below_set (below_set (below_set (below_set (below_set HB.out GE6.out) GE6.out) GE6.out) GE6.out) GE6.out) GE6.out) GE6.out) GE6.out) GE6.out); clear hw HO HB BK6 hcz6; have BK6 := n1; have HO := n2; have HB := n3; clear n1 n2 n3; have hcz7 := cells9 BK6.out) | ((with_reducible refine gate_callee (f := 54) rfl ?_); refine goesM (some 23) rfl rfl Try.func54 (by kernel_rfl) rfl #[.agg #[.int .i64 (rd_T73 l0_3 x17_1).f0, .int .i64 (rd_T73 l0_3 x17_1).f1, .int .i64 (rd_T73 l0_3 x17_1).f2, .int .i64 (rd_T73 l0_3 x17_1).f3, .int .i64 (rd_T73 l0_3 x17_1).f4, .int .i64 (rd_T73 l0_3 x17_1).f5, .int .i64 (rd_T73 l0_3 x17_1).f6, .slice A7 (rd_T73 l0_3 x17_1).f7.length c7, .slice A8 (rd_T73 l0_3 x17_1).f8.length c8]] rfl ?_; (with_reducible refine (impl_Layer_numbers.calls (rd_T73 l0_3 x17_1).f0 (rd_T73 l0_3 x17_1).f1 (rd_T73 l0_3 x17_1).f2 (rd_T73 l0_3 x17_1).f3 (rd_T73 l0_3 x17_1).f4 (rd_T73 l0_3 x17_1).f5 (rd_T73 l0_3 x17_1).f6 _ _ (rd_T73 l0_3 x17_1).f7 _ _ (rd_T73 l0_3 x17_1).f8 ns _ ?s1 ?s2 ?s3 ?s4 E1.out).mono ?_); (case s1 => exact Kd.C_below HR7.out HB.out); (case s2 => exact HC7.out); (case s3 => exact Kd.C_below HR8.out HB.out); (case s4 => exact HC8.out); rintro e w6_ ⟨vn, rfl, hn, hb⟩; refine ⟨_, rfl, ?_⟩; have HN := Aside0.mk (Kd.R_lower hn (Nat.zero_le _)); have HO1 := Aside0.mk (Kd.R_below HO.out hb); replace HB := bel_on w hb; replace BK6 := blk_on gb6 hb; clear HO hb hn hcz7; have HO := HO1; clear HO1; have hcz8 := cells9 BK6.out; obtain ⟨An, cn, en⟩ := Kd.R_slice HN.out; subst en) | ((with_reducible refine gate_callee (f := 53) rfl ?_); refine goesM (some 24) rfl rfl Try.func53 (by kernel_rfl) rfl #[.slice A1 o1.length c1_, .slice An ns.length cn] rfl ?_; (with_reducible refine (put_new k w _ _ o1 An cn ns o2 ?s1 ?s2 ?s3 ?s4).mono ?_); (case s1 => exact HB.out); (case s2 => exact HO.out); (case s3 => exact HN.out); (case s4 => exact E2.out); rintro e w7_ ⟨vow7_, rfl, nR, nB, nO⟩; refine ⟨_, rfl, ?_⟩; have n_BK6 := Oth.blk nO BK6; clear HO HB BK6; have HO := nR; have HB := nB; have BK6 := n_BK6; clear nR nB nO n_BK6; clear HN hcz8; have hcz9 := cells9 BK6.out) | ((with_reducible refine gate_dst (N := 29) rfl ?_); refine boxL (n := 2) (c := 2) 29 #[.slice A7 (rd_T73 l0_3 x17_1).f7.length c7, .slice A8 (rd_T73 l0_3 x17_1).f8.length c8] 51 ?_; intro gs hg w8_ BS hb; have HO1 := Aside0.mk (Kd.R_below HO.out hb); replace HB := bel_on w hb; clear HO hb hg BK6 hcz9; have HO := HO1; clear HO1))
   obtain ⟨k1, rfl⟩ : ∃ m, gk = m + 1 := ⟨gk - 1, by have := HX.out; have := of_decide_eq_true c3b0; omega⟩
   go_loopg [4, 8, 31] 2 (fun kq v4 v8 v31 w' => ∃ (o3 : List Int) (vo3 : Value) (x31_1 : Int), v4 = vo3 ∧ v31 = .int .i64 x31_1 ∧ Aside0 (x31_1 = 0 ∧ 2 ≤ kq ∧ inGo k [(rd_T73 l0_3 x17_1).f7, (rd_T73 l0_3 x17_1).f8] o3 = some o5 ∨ x31_1 = 1 ∧ 1 ≤ kq ∧ inGo k [(rd_T73 l0_3 x17_1).f8] o3 = some o5 ∨ x31_1 = 2 ∧ inGo k [] o3 = some o5) ∧ Aside0 (Kd.R (Kd.int .u8) 5 w' w.heap.size (fun _ => True) vo3 o3) ∧ Aside0 (w'.heap[gs]? = some (.cells #[.slice A7 (rd_T73 l0_3 x17_1).f7.length c7, .slice A8 (rd_T73 l0_3 x17_1).f8.length c8] 51 (0, 0))) ∧ Aside0 (Below w.heap.size w w'))
   case atStart => exact ⟨o2, _, 0, rfl, rfl, ⟨.inl ⟨rfl, by decide, E3.out⟩⟩, HO, BS, HB⟩
   case round =>
    clear HO HB BS
    obtain ⟨o3, vo3, x31_1, rfl, rfl, HY, HO, BS, HB⟩ := hrel
    obtain ⟨A3, c3, e3_⟩ := Kd.R_slice HO.out
    subst e3_
    rcases HY.out with ⟨rfl, hk, hY⟩ | ⟨rfl, hk, hY⟩ | ⟨rfl, hY⟩
    ·have c7b0 : decide ((0 : Int) < 2) = true := by decide
     simp only [inGo] at hY
     replace hY := Option.bind_eq_some_iff.mp hY
     obtain ⟨p1, q1_, hY⟩ := hY
     have Q1 := Aside0.mk q1_
     clear q1_
     replace hY := Option.bind_eq_some_iff.mp hY
     obtain ⟨p2, q2_, hY⟩ := hY
     have Q2 := Aside0.mk q2_
     have Q3 := Aside0.mk hY
     clear q2_ hY HY
     have hs0 : wr.cell? ⟨gs, 0, none⟩ = some (.slice A7 (rd_T73 l0_3 x17_1).f7.length c7) := bc BS 0
     go_wp2_with (first | ((with_reducible refine gate_dst (N := 38) rfl ?_); refine boxL (n := 1) (c := 1) 38 #[.int .i64 ((rd_T73 l0_3 x17_1).f7.length : Int)] 3 ?_; intro gl hg wl_ BL hb; have HO1 := Aside0.mk (Kd.R_below HO.out hb); have HB1 := bel_on w hb; have BS1 := blk_on gs hb; clear HO HB BS; have HO := HO1; have HB := HB1; have BS := BS1; clear HO1 HB1 BS1 hb hg) | ((with_reducible refine gate_callee (f := 53) rfl ?_); refine goesM (some 39) rfl rfl Try.func53 (by kernel_rfl) rfl #[.slice A3 o3.length c3, .slice (some ⟨gl, 0, none⟩) 1 1] rfl ?_; (with_reducible refine (put_lit k w _ _ o3 gl ((rd_T73 l0_3 x17_1).f7.length : Int) p1 ?s1 ?s2 ?s3 ?s4).mono ?_); (case s1 => exact HB.out); (case s2 => exact HO.out); (case s3 => exact BL.out); (case s4 => exact Q1.out); rintro e wp_ ⟨vowp_, rfl, nR, nB, nO⟩; refine ⟨_, rfl, ?_⟩; have n_BS := Oth.blk nO BS; clear HO HB BS; have HO := nR; have HB := nB; have BS := n_BS; clear nR nB nO n_BS; clear BL; obtain ⟨Aq, cq, eq_⟩ := Kd.R_slice HO.out; subst eq_) | ((with_reducible refine gate_callee (f := 53) rfl ?_); refine goesM (some 41) rfl rfl Try.func53 (by kernel_rfl) rfl #[.slice Aq p1.length cq, .slice A7 (rd_T73 l0_3 x17_1).f7.length c7] rfl ?_; (with_reducible refine (put_came k w _ _ p1 A7 c7 (rd_T73 l0_3 x17_1).f7 p2 ?s1 ?s2 ?s3 ?s4 ?s5).mono ?_); (case s1 => exact HB.out); (case s2 => exact HO.out); (case s3 => exact HR7.out); (case s4 => exact HC7.out); (case s5 => exact Q2.out); rintro e wq_ ⟨vowq_, rfl, nR, nB, nO⟩; refine ⟨_, rfl, ?_⟩; have n_BS := Oth.blk nO BS; clear HO HB BS; have HO := nR; have HB := nB; have BS := n_BS; clear nR nB nO n_BS))
     go_roundg (gk - 1)
     case measure => omega
     case rel => exact ⟨p2, _, 1, (by first | rfl | (simp; done) | (simp [*]; done)), (by first | rfl | (simp; done) | (simp [*]; done)), ⟨.inr (.inl ⟨rfl, by omega, Q3.out⟩)⟩, HO, BS, HB⟩
    ·have c7b0 : decide ((1 : Int) < 2) = true := by decide
     simp only [inGo] at hY
     replace hY := Option.bind_eq_some_iff.mp hY
     obtain ⟨p1, q1_, hY⟩ := hY
     have Q1 := Aside0.mk q1_
     clear q1_
     replace hY := Option.bind_eq_some_iff.mp hY
     obtain ⟨p2, q2_, hY⟩ := hY
     have Q2 := Aside0.mk q2_
     have Q3 := Aside0.mk hY
     clear q2_ hY HY
     have hs0 : wr.cell? ⟨gs, 1, none⟩ = some (.slice A8 (rd_T73 l0_3 x17_1).f8.length c8) := bc BS 1
     go_wp2_with (first | ((with_reducible refine gate_dst (N := 38) rfl ?_); refine boxL (n := 1) (c := 1) 38 #[.int .i64 ((rd_T73 l0_3 x17_1).f8.length : Int)] 3 ?_; intro gl hg wl_ BL hb; have HO1 := Aside0.mk (Kd.R_below HO.out hb); have HB1 := bel_on w hb; have BS1 := blk_on gs hb; clear HO HB BS; have HO := HO1; have HB := HB1; have BS := BS1; clear HO1 HB1 BS1 hb hg) | ((with_reducible refine gate_callee (f := 53) rfl ?_); refine goesM (some 39) rfl rfl Try.func53 (by kernel_rfl) rfl #[.slice A3 o3.length c3, .slice (some ⟨gl, 0, none⟩) 1 1] rfl ?_; (with_reducible refine (put_lit k w _ _ o3 gl ((rd_T73 l0_3 x17_1).f8.length : Int) p1 ?s1 ?s2 ?s3 ?s4).mono ?_); (case s1 => exact HB.out); (case s2 => exact HO.out); (case s3 => exact BL.out); (case s4 => exact Q1.out); rintro e wp_ ⟨vowp_, rfl, nR, nB, nO⟩; refine ⟨_, rfl, ?_⟩; have n_BS := Oth.blk nO BS; clear HO HB BS; have HO := nR; have HB := nB; have BS := n_BS; clear nR nB nO n_BS; clear BL; obtain ⟨Aq, cq, eq_⟩ := Kd.R_slice HO.out; subst eq_) | ((with_reducible refine gate_callee (f := 53) rfl ?_); refine goesM (some 41) rfl rfl Try.func53 (by kernel_rfl) rfl #[.slice Aq p1.length cq, .slice A8 (rd_T73 l0_3 x17_1).f8.length c8] rfl ?_; (with_reducible refine (put_came k w _ _ p1 A8 c8 (rd_T73 l0_3 x17_1).f8 p2 ?s1 ?s2 ?s3 ?s4 ?s5).mono ?_); (case s1 => exact HB.out); (case s2 => exact HO.out); (case s3 => exact HR8.out); (case s4 => exact HC8.out); (case s5 => exact Q2.out); rintro e wq_ ⟨vowq_, rfl, nR, nB, nO⟩; refine ⟨_, rfl, ?_⟩; have n_BS := Oth.blk nO BS; clear HO HB BS; have HO := nR; have HB := nB; have BS := n_BS; clear nR nB nO n_BS))
     go_roundg (gk - 1)
     case measure => omega
     case rel => exact ⟨p2, _, 2, (by first | rfl | (simp; done) | (simp [*]; done)), (by first | rfl | (simp; done) | (simp [*]; done)), ⟨.inr (.inr ⟨rfl, Q3.out⟩)⟩, HO, BS, HB⟩
    have E5 := Aside0.mk (Option.some.inj hY)
    clear hY HY
    go_wp2
    go_roundg k1
    case measure => omega
    case rel => exact ⟨o3, _, wrap64 (x17_1 + 1), (by first | rfl | (simp; done) | (simp [*]; done)), (by first | rfl | (simp; done) | (simp [*]; done)), ⟨by
     have h1 := HX.out
     have h3 := of_decide_eq_true c3b0
     have h4 := E5.out
     have h5 := E4.out
     have h6 := HR0.out.2.1
     rw [h4, show wrap64 (x17_1 + 1) = x17_1 + 1 by unfold wrap64; omega, show (x17_1 + 1).toNat = x17_1.toNat + 1 by omega]
     exact ⟨by omega, by omega, by omega, h5⟩⟩, HO, HB⟩

/-! ### laws_eqByteS: function 43 -/
def laws_eqByteS.l0 : Nat → List Int → List Int → Int → Option (Bool)
  | 0, _, _, _ => none
  | k + 1, x0, x1, x5 => if x5 < (x0.length : Int) then (if 0 ≤ x5 then (if x5 < (x1.length : Int) then (if (rd x0 x5) = (rd x1 x5) then (laws_eqByteS.l0 k x0 x1 (wrap64 (x5 + 1))) else (some false)) else (none)) else (none)) else (some true)
def laws_eqByteS.f (k : Nat) (l0 : List Int) (l1 : List Int) : Option (Bool) := if (l0.length : Int) = (l1.length : Int) then (laws_eqByteS.l0 k l0 l1 0) else (some false)
set_option maxHeartbeats 8000000 in
set_option maxRecDepth 100000 in
theorem laws_eqByteS.calls (k : Nat) (A0 : Option Addr) (c0 : Nat) (l0 : List Int) (A1 : Option Addr) (c1 : Nat) (l1 : List Int) (r : Bool) (w : World) (hr0 : Kd.C (Kd.int .u8) w A0 l0.length l0) (hc0 : l0.length ≤ c0) (hr1 : Kd.C (Kd.int .u8) w A1 l1.length l1) (hc1 : l1.length ≤ c1) (h : laws_eqByteS.f k l0 l1 = some r) :
   Calls Try.prog 43 #[.slice A0 l0.length c0, .slice A1 l1.length c1] w fun e w' => e = .returned (.bool r) ∧ Drawn0 w w' := by
  have HR0 := Aside0.mk hr0
  have HC0 := Aside0.mk hc0
  clear hr0 hc0
  have HR1 := Aside0.mk hr1
  have HC1 := Aside0.mk hc1
  clear hr1 hc1
  have H : (if (l0.length : Int) = (l1.length : Int) then (laws_eqByteS.l0 k l0 l1 0) else (some false)) = some r := h
  clear h
  by_cases c3 : (l0.length : Int) = (l1.length : Int)
  rotate_left
  ·rw [if_neg c3] at H
   have c3b0 : ((l0.length : Int) == (l1.length : Int)) = false := beq_eq_false_iff_ne.mpr c3
   have c3b1 : ((l0.length : Int) != (l1.length : Int)) = true := bne_iff_ne.mpr c3
   have c3b2 : (l0.length == l1.length) = false := by first | simpa using c3 | (simp at c3 ⊢; omega)
   obtain rfl := Option.some.inj H
   go_enter Try.func43, Try.ntmps43
   go_wp2
   repeat (go_quiet (fail); try go_wp2)
   go_ret
   exact ⟨by first | rfl | (simp; done) | (simp [*]; done), by repeat (first | exact Drawn0.refl _ | apply Drawn0.step)⟩
  rw [if_pos c3] at H
  have c3b0 : ((l0.length : Int) == (l1.length : Int)) = true := beq_iff_eq.mpr c3
  have c3b1 : ((l0.length : Int) != (l1.length : Int)) = false := bne_eq_false_iff_eq.mpr c3
  have c3b2 : (l0.length == l1.length) = true := by first | simpa using c3 | (simp at c3 ⊢; omega)
  clear c3
  have H' := Aside0.mk H
  clear H
  go_enter Try.func43, Try.ntmps43
  go_wp2
  repeat (go_quiet (fail); try go_wp2)
  go_loopg [5] k (fun kq v5 w' => ∃ (x5_1 : Int), v5 = .int .i64 x5_1 ∧ Aside0 (laws_eqByteS.l0 kq l0 l1 x5_1 = some r) ∧ Aside0 (kq ≤ k) ∧ Drawn0 w w')
  case atStart => exact ⟨(0), (by first | rfl | (simp; done) | (simp [*]; done)), H', ⟨Nat.le_refl _⟩, by repeat (first | exact Drawn0.refl _ | apply Drawn0.step)⟩
  case round =>
   clear H'
   try clear c1
   try clear p2
   try clear c3
   try clear c3b0
   try clear c3b1
   try clear c3b2
   obtain ⟨x5_1, rfl, HA, HK1, ⟨m1, rfl⟩⟩ := hrel
   cases gk with
   | zero => exact absurd HA.out (by simp [laws_eqByteS.l0])
   | succ k1 =>
    have H := HA.out
    clear HA
    simp only [laws_eqByteS.l0] at H
    by_cases c4 : x5_1 < (l0.length : Int)
    rotate_left
    ·rw [if_neg c4] at H
     have c4b0 : decide (x5_1 < (l0.length : Int)) = false := decide_eq_false c4
     clear c4
     obtain rfl := Option.some.inj H
     go_wp2
     repeat (go_quiet (fail); try go_wp2)
     go_ret
     exact ⟨by first | rfl | (simp; done) | (simp [*]; done), by repeat (first | exact Drawn0.refl _ | apply Drawn0.step)⟩
    rw [if_pos c4] at H
    have c4b0 : decide (x5_1 < (l0.length : Int)) = true := decide_eq_true c4
    clear c4
    by_cases c5 : 0 ≤ x5_1
    rotate_left
    ·rw [if_neg c5] at H
     exact absurd H (by simp)
    rw [if_pos c5] at H
    have c5b0 : decide (0 ≤ x5_1) = true := decide_eq_true c5
    clear c5
    by_cases c6 : x5_1 < (l1.length : Int)
    rotate_left
    ·rw [if_neg c6] at H
     exact absurd H (by simp)
    rw [if_pos c6] at H
    have c6b0 : decide (x5_1 < (l1.length : Int)) = true := decide_eq_true c6
    clear c6
    by_cases c7 : (rd l0 x5_1) = (rd l1 x5_1)
    rotate_left
    ·rw [if_neg c7] at H
     have c7b0 : ((rd l0 x5_1) == (rd l1 x5_1)) = false := beq_eq_false_iff_ne.mpr c7
     have c7b1 : ((rd l0 x5_1) != (rd l1 x5_1)) = true := bne_iff_ne.mpr c7
     obtain rfl := Option.some.inj H
     have p358 : 0 ≤ (x5_1 : Int) := of_decide_eq_true (by first | (with_reducible assumption) | assumption)
     have q358 : x5_1 < (l0.length : Int) := of_decide_eq_true (by first | (with_reducible assumption) | assumption)
     obtain ⟨ad358, e358, hx358_0⟩ := Kd.at_int HR0.out x5_1 p358 q358
     cases e358
     replace p358 := eq_true p358
     replace q358 := eq_true q358
     have p359 : 0 ≤ (x5_1 : Int) := of_decide_eq_true (by first | (with_reducible assumption) | assumption)
     have q359 : x5_1 < (l1.length : Int) := of_decide_eq_true (by first | (with_reducible assumption) | assumption)
     obtain ⟨ad359, e359, hx359_0⟩ := Kd.at_int HR1.out x5_1 p359 q359
     cases e359
     replace p359 := eq_true p359
     replace q359 := eq_true q359
     go_wp2
     repeat (go_quiet (fail); try go_wp2)
     go_ret
     exact ⟨by first | rfl | (simp; done) | (simp [*]; done), by repeat (first | exact Drawn0.refl _ | apply Drawn0.step)⟩
    rw [if_pos c7] at H
    have c7b0 : ((rd l0 x5_1) == (rd l1 x5_1)) = true := beq_iff_eq.mpr c7
    have c7b1 : ((rd l0 x5_1) != (rd l1 x5_1)) = false := bne_eq_false_iff_eq.mpr c7
    clear c7
    have H' := Aside0.mk H
    clear H
    have p358 : 0 ≤ (x5_1 : Int) := of_decide_eq_true (by first | (with_reducible assumption) | assumption)
    have q358 : x5_1 < (l0.length : Int) := of_decide_eq_true (by first | (with_reducible assumption) | assumption)
    obtain ⟨ad358, e358, hx358_0⟩ := Kd.at_int HR0.out x5_1 p358 q358
    cases e358
    replace p358 := eq_true p358
    replace q358 := eq_true q358
    have p359 : 0 ≤ (x5_1 : Int) := of_decide_eq_true (by first | (with_reducible assumption) | assumption)
    have q359 : x5_1 < (l1.length : Int) := of_decide_eq_true (by first | (with_reducible assumption) | assumption)
    obtain ⟨ad359, e359, hx359_0⟩ := Kd.at_int HR1.out x5_1 p359 q359
    cases e359
    replace p359 := eq_true p359
    replace q359 := eq_true q359
    go_wp2
    repeat (go_quiet (fail); try go_wp2)
    go_roundg k1
    case measure => have := HK1.out; omega
    case rel => exact ⟨(wrap64 (x5_1 + 1)), (by first | rfl | (simp; done) | (simp [*]; done)), H', ⟨by have := HK1.out; omega⟩, by repeat (first | exact Drawn0.refl _ | apply Drawn0.step)⟩

/-! ### laws_eqShape: function 71 -/
def laws_eqShape.f (a0_0 : Int) (a0_1 : Int) (a0_2 : Int) (a1_0 : Int) (a1_1 : Int) (a1_2 : Int) : Option (Bool) := if a0_0 = a1_0 then (if a0_1 = a1_1 then (if a0_2 = a1_2 then (some true) else (some false)) else (some false)) else (some false)
set_option maxHeartbeats 8000000 in
set_option maxRecDepth 100000 in
theorem laws_eqShape.calls (a0_0 : Int) (a0_1 : Int) (a0_2 : Int) (a1_0 : Int) (a1_1 : Int) (a1_2 : Int) (r : Bool) (w : World) (h : laws_eqShape.f a0_0 a0_1 a0_2 a1_0 a1_1 a1_2 = some r) :
   Calls Try.prog 71 #[.agg #[.int .i64 a0_0, .int .i64 a0_1, .int .i64 a0_2], .agg #[.int .i64 a1_0, .int .i64 a1_1, .int .i64 a1_2]] w fun e w' => e = .returned (.bool r) ∧ Below w.heap.size w w' := by
  have hu25 := Try.underlying25
  have HB := Aside0.mk (Below.refl w.heap.size w)
  have H : (if a0_0 = a1_0 then (if a0_1 = a1_1 then (if a0_2 = a1_2 then (some true) else (some false)) else (some false)) else (some false)) = some r := h
  clear h
  by_cases c3 : a0_0 = a1_0
  rotate_left
  ·rw [if_neg c3] at H
   have c3b0 : (a0_0 == a1_0) = false := beq_eq_false_iff_ne.mpr c3
   have c3b1 : (a0_0 != a1_0) = true := bne_iff_ne.mpr c3
   obtain rfl := Option.some.inj H
   go_enter Try.func71, Try.ntmps71
   go_wp2_with (first | ((with_reducible refine gate_dst (N := 2) rfl ?_); refine boxM 2 #[.int .i64 a0_0, .int .i64 a0_1, .int .i64 a0_2] 25 ?_; intro gb360 hg w21 BK360 hb; replace HB := box_at w hb hg; obtain ⟨HB, GW360, GE360⟩ := HB; clear hb hg) | ((with_reducible refine gate_dst (N := 3) rfl ?_); refine boxM 3 #[.int .i64 a1_0, .int .i64 a1_1, .int .i64 a1_2] 25 ?_; intro gb361 hg w22 BK361 hb; replace HB := box_at w hb hg; obtain ⟨HB, GW361, GE361⟩ := HB; replace BK360 := box_on gb360 hb hg; obtain ⟨BK360, NB360_361, NB361_360⟩ := BK360; clear hb hg; have hn23 := ne2 NB360_361; have hcz24 := cells3 BK360.out; have hcz25 := cells3 BK361.out))
   go_ret
   exact ⟨eqN, bel_now⟩
  rw [if_pos c3] at H
  have c3b0 : (a0_0 == a1_0) = true := beq_iff_eq.mpr c3
  have c3b1 : (a0_0 != a1_0) = false := bne_eq_false_iff_eq.mpr c3
  clear c3
  by_cases c4 : a0_1 = a1_1
  rotate_left
  ·rw [if_neg c4] at H
   have c4b0 : (a0_1 == a1_1) = false := beq_eq_false_iff_ne.mpr c4
   have c4b1 : (a0_1 != a1_1) = true := bne_iff_ne.mpr c4
   obtain rfl := Option.some.inj H
   go_enter Try.func71, Try.ntmps71
   go_wp2_with (first | ((with_reducible refine gate_dst (N := 2) rfl ?_); refine boxM 2 #[.int .i64 a0_0, .int .i64 a0_1, .int .i64 a0_2] 25 ?_; intro gb360 hg w16 BK360 hb; replace HB := box_at w hb hg; obtain ⟨HB, GW360, GE360⟩ := HB; clear hb hg) | ((with_reducible refine gate_dst (N := 3) rfl ?_); refine boxM 3 #[.int .i64 a1_0, .int .i64 a1_1, .int .i64 a1_2] 25 ?_; intro gb361 hg w17 BK361 hb; replace HB := box_at w hb hg; obtain ⟨HB, GW361, GE361⟩ := HB; replace BK360 := box_on gb360 hb hg; obtain ⟨BK360, NB360_361, NB361_360⟩ := BK360; clear hb hg; have hn18 := ne2 NB360_361; have hcz19 := cells3 BK360.out; have hcz20 := cells3 BK361.out))
   go_ret
   exact ⟨eqN, bel_now⟩
  rw [if_pos c4] at H
  have c4b0 : (a0_1 == a1_1) = true := beq_iff_eq.mpr c4
  have c4b1 : (a0_1 != a1_1) = false := bne_eq_false_iff_eq.mpr c4
  clear c4
  by_cases c5 : a0_2 = a1_2
  ·rw [if_pos c5] at H
   have c5b0 : (a0_2 == a1_2) = true := beq_iff_eq.mpr c5
   have c5b1 : (a0_2 != a1_2) = false := bne_eq_false_iff_eq.mpr c5
   clear c5
   obtain rfl := Option.some.inj H
   go_enter Try.func71, Try.ntmps71
   go_wp2_with (first | ((with_reducible refine gate_dst (N := 2) rfl ?_); refine boxM 2 #[.int .i64 a0_0, .int .i64 a0_1, .int .i64 a0_2] 25 ?_; intro gb360 hg w6 BK360 hb; replace HB := box_at w hb hg; obtain ⟨HB, GW360, GE360⟩ := HB; clear hb hg) | ((with_reducible refine gate_dst (N := 3) rfl ?_); refine boxM 3 #[.int .i64 a1_0, .int .i64 a1_1, .int .i64 a1_2] 25 ?_; intro gb361 hg w7 BK361 hb; replace HB := box_at w hb hg; obtain ⟨HB, GW361, GE361⟩ := HB; replace BK360 := box_on gb360 hb hg; obtain ⟨BK360, NB360_361, NB361_360⟩ := BK360; clear hb hg; have hn8 := ne2 NB360_361; have hcz9 := cells3 BK360.out; have hcz10 := cells3 BK361.out))
   go_ret
   exact ⟨eqN, bel_now⟩
  rw [if_neg c5] at H
  have c5b0 : (a0_2 == a1_2) = false := beq_eq_false_iff_ne.mpr c5
  have c5b1 : (a0_2 != a1_2) = true := bne_iff_ne.mpr c5
  obtain rfl := Option.some.inj H
  go_enter Try.func71, Try.ntmps71
  go_wp2_with (first | ((with_reducible refine gate_dst (N := 2) rfl ?_); refine boxM 2 #[.int .i64 a0_0, .int .i64 a0_1, .int .i64 a0_2] 25 ?_; intro gb360 hg w11 BK360 hb; replace HB := box_at w hb hg; obtain ⟨HB, GW360, GE360⟩ := HB; clear hb hg) | ((with_reducible refine gate_dst (N := 3) rfl ?_); refine boxM 3 #[.int .i64 a1_0, .int .i64 a1_1, .int .i64 a1_2] 25 ?_; intro gb361 hg w12 BK361 hb; replace HB := box_at w hb hg; obtain ⟨HB, GW361, GE361⟩ := HB; replace BK360 := box_on gb360 hb hg; obtain ⟨BK360, NB360_361, NB361_360⟩ := BK360; clear hb hg; have hn13 := ne2 NB360_361; have hcz14 := cells3 BK360.out; have hcz15 := cells3 BK361.out))
  go_ret
  exact ⟨eqN, bel_now⟩

/-! ### laws_eqIntS: function 35 -/
def laws_eqIntS.l0 : Nat → List Int → List Int → Int → Option (Bool)
  | 0, _, _, _ => none
  | k + 1, x0, x1, x5 => if x5 < (x0.length : Int) then (if 0 ≤ x5 then (if x5 < (x1.length : Int) then (if (rd x0 x5) = (rd x1 x5) then (laws_eqIntS.l0 k x0 x1 (wrap64 (x5 + 1))) else (some false)) else (none)) else (none)) else (some true)
def laws_eqIntS.f (k : Nat) (l0 : List Int) (l1 : List Int) : Option (Bool) := if (l0.length : Int) = (l1.length : Int) then (laws_eqIntS.l0 k l0 l1 0) else (some false)
set_option maxHeartbeats 8000000 in
set_option maxRecDepth 100000 in
theorem laws_eqIntS.calls (k : Nat) (A0 : Option Addr) (c0 : Nat) (l0 : List Int) (A1 : Option Addr) (c1 : Nat) (l1 : List Int) (r : Bool) (w : World) (hr0 : Kd.C (Kd.int .i64) w A0 l0.length l0) (hc0 : l0.length ≤ c0) (hr1 : Kd.C (Kd.int .i64) w A1 l1.length l1) (hc1 : l1.length ≤ c1) (h : laws_eqIntS.f k l0 l1 = some r) :
   Calls Try.prog 35 #[.slice A0 l0.length c0, .slice A1 l1.length c1] w fun e w' => e = .returned (.bool r) ∧ Drawn0 w w' := by
  have HR0 := Aside0.mk hr0
  have HC0 := Aside0.mk hc0
  clear hr0 hc0
  have HR1 := Aside0.mk hr1
  have HC1 := Aside0.mk hc1
  clear hr1 hc1
  have H : (if (l0.length : Int) = (l1.length : Int) then (laws_eqIntS.l0 k l0 l1 0) else (some false)) = some r := h
  clear h
  by_cases c3 : (l0.length : Int) = (l1.length : Int)
  rotate_left
  ·rw [if_neg c3] at H
   have c3b0 : ((l0.length : Int) == (l1.length : Int)) = false := beq_eq_false_iff_ne.mpr c3
   have c3b1 : ((l0.length : Int) != (l1.length : Int)) = true := bne_iff_ne.mpr c3
   have c3b2 : (l0.length == l1.length) = false := by first | simpa using c3 | (simp at c3 ⊢; omega)
   obtain rfl := Option.some.inj H
   go_enter Try.func35, Try.ntmps35
   go_wp2
   repeat (go_quiet (fail); try go_wp2)
   go_ret
   exact ⟨by first | rfl | (simp; done) | (simp [*]; done), by repeat (first | exact Drawn0.refl _ | apply Drawn0.step)⟩
  rw [if_pos c3] at H
  have c3b0 : ((l0.length : Int) == (l1.length : Int)) = true := beq_iff_eq.mpr c3
  have c3b1 : ((l0.length : Int) != (l1.length : Int)) = false := bne_eq_false_iff_eq.mpr c3
  have c3b2 : (l0.length == l1.length) = true := by first | simpa using c3 | (simp at c3 ⊢; omega)
  clear c3
  have H' := Aside0.mk H
  clear H
  go_enter Try.func35, Try.ntmps35
  go_wp2
  repeat (go_quiet (fail); try go_wp2)
  go_loopg [5] k (fun kq v5 w' => ∃ (x5_1 : Int), v5 = .int .i64 x5_1 ∧ Aside0 (laws_eqIntS.l0 kq l0 l1 x5_1 = some r) ∧ Aside0 (kq ≤ k) ∧ Drawn0 w w')
  case atStart => exact ⟨(0), (by first | rfl | (simp; done) | (simp [*]; done)), H', ⟨Nat.le_refl _⟩, by repeat (first | exact Drawn0.refl _ | apply Drawn0.step)⟩
  case round =>
   clear H'
   try clear c1
   try clear p2
   try clear c3
   try clear c3b0
   try clear c3b1
   try clear c3b2
   obtain ⟨x5_1, rfl, HA, HK1, ⟨m1, rfl⟩⟩ := hrel
   cases gk with
   | zero => exact absurd HA.out (by simp [laws_eqIntS.l0])
   | succ k1 =>
    have H := HA.out
    clear HA
    simp only [laws_eqIntS.l0] at H
    by_cases c4 : x5_1 < (l0.length : Int)
    rotate_left
    ·rw [if_neg c4] at H
     have c4b0 : decide (x5_1 < (l0.length : Int)) = false := decide_eq_false c4
     clear c4
     obtain rfl := Option.some.inj H
     go_wp2
     repeat (go_quiet (fail); try go_wp2)
     go_ret
     exact ⟨by first | rfl | (simp; done) | (simp [*]; done), by repeat (first | exact Drawn0.refl _ | apply Drawn0.step)⟩
    rw [if_pos c4] at H
    have c4b0 : decide (x5_1 < (l0.length : Int)) = true := decide_eq_true c4
    clear c4
    by_cases c5 : 0 ≤ x5_1
    rotate_left
    ·rw [if_neg c5] at H
     exact absurd H (by simp)
    rw [if_pos c5] at H
    have c5b0 : decide (0 ≤ x5_1) = true := decide_eq_true c5
    clear c5
    by_cases c6 : x5_1 < (l1.length : Int)
    rotate_left
    ·rw [if_neg c6] at H
     exact absurd H (by simp)
    rw [if_pos c6] at H
    have c6b0 : decide (x5_1 < (l1.length : Int)) = true := decide_eq_true c6
    clear c6
    by_cases c7 : (rd l0 x5_1) = (rd l1 x5_1)
    rotate_left
    ·rw [if_neg c7] at H
     have c7b0 : ((rd l0 x5_1) == (rd l1 x5_1)) = false := beq_eq_false_iff_ne.mpr c7
     have c7b1 : ((rd l0 x5_1) != (rd l1 x5_1)) = true := bne_iff_ne.mpr c7
     obtain rfl := Option.some.inj H
     have p362 : 0 ≤ (x5_1 : Int) := of_decide_eq_true (by first | (with_reducible assumption) | assumption)
     have q362 : x5_1 < (l0.length : Int) := of_decide_eq_true (by first | (with_reducible assumption) | assumption)
     obtain ⟨ad362, e362, hx362_0⟩ := Kd.at_int HR0.out x5_1 p362 q362
     cases e362
     replace p362 := eq_true p362
     replace q362 := eq_true q362
     have p363 : 0 ≤ (x5_1 : Int) := of_decide_eq_true (by first | (with_reducible assumption) | assumption)
     have q363 : x5_1 < (l1.length : Int) := of_decide_eq_true (by first | (with_reducible assumption) | assumption)
     obtain ⟨ad363, e363, hx363_0⟩ := Kd.at_int HR1.out x5_1 p363 q363
     cases e363
     replace p363 := eq_true p363
     replace q363 := eq_true q363
     go_wp2
     repeat (go_quiet (fail); try go_wp2)
     go_ret
     exact ⟨by first | rfl | (simp; done) | (simp [*]; done), by repeat (first | exact Drawn0.refl _ | apply Drawn0.step)⟩
    rw [if_pos c7] at H
    have c7b0 : ((rd l0 x5_1) == (rd l1 x5_1)) = true := beq_iff_eq.mpr c7
    have c7b1 : ((rd l0 x5_1) != (rd l1 x5_1)) = false := bne_eq_false_iff_eq.mpr c7
    clear c7
    have H' := Aside0.mk H
    clear H
    have p362 : 0 ≤ (x5_1 : Int) := of_decide_eq_true (by first | (with_reducible assumption) | assumption)
    have q362 : x5_1 < (l0.length : Int) := of_decide_eq_true (by first | (with_reducible assumption) | assumption)
    obtain ⟨ad362, e362, hx362_0⟩ := Kd.at_int HR0.out x5_1 p362 q362
    cases e362
    replace p362 := eq_true p362
    replace q362 := eq_true q362
    have p363 : 0 ≤ (x5_1 : Int) := of_decide_eq_true (by first | (with_reducible assumption) | assumption)
    have q363 : x5_1 < (l1.length : Int) := of_decide_eq_true (by first | (with_reducible assumption) | assumption)
    obtain ⟨ad363, e363, hx363_0⟩ := Kd.at_int HR1.out x5_1 p363 q363
    cases e363
    replace p363 := eq_true p363
    replace q363 := eq_true q363
    go_wp2
    repeat (go_quiet (fail); try go_wp2)
    go_roundg k1
    case measure => have := HK1.out; omega
    case rel => exact ⟨(wrap64 (x5_1 + 1)), (by first | rfl | (simp; done) | (simp [*]; done)), H', ⟨by have := HK1.out; omega⟩, by repeat (first | exact Drawn0.refl _ | apply Drawn0.step)⟩

/-! ### laws_eqLayer: function 101 -/
def laws_eqLayer.f (k : Nat) (a0_0 : Int) (a0_1 : Int) (a0_2 : Int) (a0_3 : Int) (a0_4 : Int) (a0_5 : Int) (a0_6 : Int) (l0_7 : List Int) (l0_8 : List Int) (a1_0 : Int) (a1_1 : Int) (a1_2 : Int) (a1_3 : Int) (a1_4 : Int) (a1_5 : Int) (a1_6 : Int) (l1_7 : List Int) (l1_8 : List Int) : Option (Bool) := if a0_0 = a1_0 then (if a0_1 = a1_1 then (if a0_2 = a1_2 then (if a0_3 = a1_3 then (if a0_4 = a1_4 then (if a0_5 = a1_5 then (if a0_6 = a1_6 then ((laws_eqIntS.f k l0_7 l1_7).bind fun t366 => (if t366 = true then ((laws_eqIntS.f k l0_8 l1_8).bind fun t367 => (if t367 = true then (some true) else (some false))) else (some false))) else (some false)) else (some false)) else (some false)) else (some false)) else (some false)) else (some false)) else (some false)
set_option maxHeartbeats 8000000 in
set_option maxRecDepth 100000 in
theorem laws_eqLayer.calls (k : Nat) (a0_0 : Int) (a0_1 : Int) (a0_2 : Int) (a0_3 : Int) (a0_4 : Int) (a0_5 : Int) (a0_6 : Int) (A0_7 : Option Addr) (c0_7 : Nat) (l0_7 : List Int) (A0_8 : Option Addr) (c0_8 : Nat) (l0_8 : List Int) (a1_0 : Int) (a1_1 : Int) (a1_2 : Int) (a1_3 : Int) (a1_4 : Int) (a1_5 : Int) (a1_6 : Int) (A1_7 : Option Addr) (c1_7 : Nat) (l1_7 : List Int) (A1_8 : Option Addr) (c1_8 : Nat) (l1_8 : List Int) (r : Bool) (w : World) (hr0_7 : Kd.C (Kd.int .i64) w A0_7 l0_7.length l0_7) (hc0_7 : l0_7.length ≤ c0_7) (hr0_8 : Kd.C (Kd.int .i64) w A0_8 l0_8.length l0_8) (hc0_8 : l0_8.length ≤ c0_8) (hr1_7 : Kd.C (Kd.int .i64) w A1_7 l1_7.length l1_7) (hc1_7 : l1_7.length ≤ c1_7) (hr1_8 : Kd.C (Kd.int .i64) w A1_8 l1_8.length l1_8) (hc1_8 : l1_8.length ≤ c1_8) (h : laws_eqLayer.f k a0_0 a0_1 a0_2 a0_3 a0_4 a0_5 a0_6 l0_7 l0_8 a1_0 a1_1 a1_2 a1_3 a1_4 a1_5 a1_6 l1_7 l1_8 = some r) :
   Calls Try.prog 101 #[.agg #[.int .i64 a0_0, .int .i64 a0_1, .int .i64 a0_2, .int .i64 a0_3, .int .i64 a0_4, .int .i64 a0_5, .int .i64 a0_6, .slice A0_7 l0_7.length c0_7, .slice A0_8 l0_8.length c0_8], .agg #[.int .i64 a1_0, .int .i64 a1_1, .int .i64 a1_2, .int .i64 a1_3, .int .i64 a1_4, .int .i64 a1_5, .int .i64 a1_6, .slice A1_7 l1_7.length c1_7, .slice A1_8 l1_8.length c1_8]] w fun e w' => e = .returned (.bool r) ∧ Below w.heap.size w w' := by
  have hu73 := Try.underlying73
  have HR0_7 := Aside0.mk hr0_7
  have HC0_7 := Aside0.mk hc0_7
  clear hr0_7 hc0_7
  have HR0_8 := Aside0.mk hr0_8
  have HC0_8 := Aside0.mk hc0_8
  clear hr0_8 hc0_8
  have HR1_7 := Aside0.mk hr1_7
  have HC1_7 := Aside0.mk hc1_7
  clear hr1_7 hc1_7
  have HR1_8 := Aside0.mk hr1_8
  have HC1_8 := Aside0.mk hc1_8
  clear hr1_8 hc1_8
  have HB := Aside0.mk (Below.refl w.heap.size w)
  have H : (if a0_0 = a1_0 then (if a0_1 = a1_1 then (if a0_2 = a1_2 then (if a0_3 = a1_3 then (if a0_4 = a1_4 then (if a0_5 = a1_5 then (if a0_6 = a1_6 then ((laws_eqIntS.f k l0_7 l1_7).bind fun t366 => (if t366 = true then ((laws_eqIntS.f k l0_8 l1_8).bind fun t367 => (if t367 = true then (some true) else (some false))) else (some false))) else (some false)) else (some false)) else (some false)) else (some false)) else (some false)) else (some false)) else (some false)) = some r := h
  clear h
  by_cases c3 : a0_0 = a1_0
  rotate_left
  ·rw [if_neg c3] at H
   have c3b0 : (a0_0 == a1_0) = false := beq_eq_false_iff_ne.mpr c3
   have c3b1 : (a0_0 != a1_0) = true := bne_iff_ne.mpr c3
   obtain rfl := Option.some.inj H
   go_enter Try.func101, Try.ntmps101
   go_wp2_with (first | ((with_reducible refine gate_dst (N := 2) rfl ?_); refine boxM 2 #[.int .i64 a0_0, .int .i64 a0_1, .int .i64 a0_2, .int .i64 a0_3, .int .i64 a0_4, .int .i64 a0_5, .int .i64 a0_6, .slice A0_7 l0_7.length c0_7, .slice A0_8 l0_8.length c0_8] 73 ?_; intro gb364 hg w59 BK364 hb; replace HB := box_at w hb hg; obtain ⟨HB, GW364, GE364⟩ := HB; clear hb hg) | ((with_reducible refine gate_dst (N := 3) rfl ?_); refine boxM 3 #[.int .i64 a1_0, .int .i64 a1_1, .int .i64 a1_2, .int .i64 a1_3, .int .i64 a1_4, .int .i64 a1_5, .int .i64 a1_6, .slice A1_7 l1_7.length c1_7, .slice A1_8 l1_8.length c1_8] 73 ?_; intro gb365 hg w60 BK365 hb; replace HB := box_at w hb hg; obtain ⟨HB, GW365, GE365⟩ := HB; replace BK364 := box_on gb364 hb hg; obtain ⟨BK364, NB364_365, NB365_364⟩ := BK364; clear hb hg; have hn61 := ne2 NB364_365; have hcz62 := cells9 BK364.out; have hcz63 := cells9 BK365.out))
   go_ret
   exact ⟨eqN, bel_now⟩
  rw [if_pos c3] at H
  have c3b0 : (a0_0 == a1_0) = true := beq_iff_eq.mpr c3
  have c3b1 : (a0_0 != a1_0) = false := bne_eq_false_iff_eq.mpr c3
  clear c3
  by_cases c4 : a0_1 = a1_1
  rotate_left
  ·rw [if_neg c4] at H
   have c4b0 : (a0_1 == a1_1) = false := beq_eq_false_iff_ne.mpr c4
   have c4b1 : (a0_1 != a1_1) = true := bne_iff_ne.mpr c4
   obtain rfl := Option.some.inj H
   go_enter Try.func101, Try.ntmps101
   go_wp2_with (first | ((with_reducible refine gate_dst (N := 2) rfl ?_); refine boxM 2 #[.int .i64 a0_0, .int .i64 a0_1, .int .i64 a0_2, .int .i64 a0_3, .int .i64 a0_4, .int .i64 a0_5, .int .i64 a0_6, .slice A0_7 l0_7.length c0_7, .slice A0_8 l0_8.length c0_8] 73 ?_; intro gb364 hg w54 BK364 hb; replace HB := box_at w hb hg; obtain ⟨HB, GW364, GE364⟩ := HB; clear hb hg) | ((with_reducible refine gate_dst (N := 3) rfl ?_); refine boxM 3 #[.int .i64 a1_0, .int .i64 a1_1, .int .i64 a1_2, .int .i64 a1_3, .int .i64 a1_4, .int .i64 a1_5, .int .i64 a1_6, .slice A1_7 l1_7.length c1_7, .slice A1_8 l1_8.length c1_8] 73 ?_; intro gb365 hg w55 BK365 hb; replace HB := box_at w hb hg; obtain ⟨HB, GW365, GE365⟩ := HB; replace BK364 := box_on gb364 hb hg; obtain ⟨BK364, NB364_365, NB365_364⟩ := BK364; clear hb hg; have hn56 := ne2 NB364_365; have hcz57 := cells9 BK364.out; have hcz58 := cells9 BK365.out))
   go_ret
   exact ⟨eqN, bel_now⟩
  rw [if_pos c4] at H
  have c4b0 : (a0_1 == a1_1) = true := beq_iff_eq.mpr c4
  have c4b1 : (a0_1 != a1_1) = false := bne_eq_false_iff_eq.mpr c4
  clear c4
  by_cases c5 : a0_2 = a1_2
  rotate_left
  ·rw [if_neg c5] at H
   have c5b0 : (a0_2 == a1_2) = false := beq_eq_false_iff_ne.mpr c5
   have c5b1 : (a0_2 != a1_2) = true := bne_iff_ne.mpr c5
   obtain rfl := Option.some.inj H
   go_enter Try.func101, Try.ntmps101
   go_wp2_with (first | ((with_reducible refine gate_dst (N := 2) rfl ?_); refine boxM 2 #[.int .i64 a0_0, .int .i64 a0_1, .int .i64 a0_2, .int .i64 a0_3, .int .i64 a0_4, .int .i64 a0_5, .int .i64 a0_6, .slice A0_7 l0_7.length c0_7, .slice A0_8 l0_8.length c0_8] 73 ?_; intro gb364 hg w49 BK364 hb; replace HB := box_at w hb hg; obtain ⟨HB, GW364, GE364⟩ := HB; clear hb hg) | ((with_reducible refine gate_dst (N := 3) rfl ?_); refine boxM 3 #[.int .i64 a1_0, .int .i64 a1_1, .int .i64 a1_2, .int .i64 a1_3, .int .i64 a1_4, .int .i64 a1_5, .int .i64 a1_6, .slice A1_7 l1_7.length c1_7, .slice A1_8 l1_8.length c1_8] 73 ?_; intro gb365 hg w50 BK365 hb; replace HB := box_at w hb hg; obtain ⟨HB, GW365, GE365⟩ := HB; replace BK364 := box_on gb364 hb hg; obtain ⟨BK364, NB364_365, NB365_364⟩ := BK364; clear hb hg; have hn51 := ne2 NB364_365; have hcz52 := cells9 BK364.out; have hcz53 := cells9 BK365.out))
   go_ret
   exact ⟨eqN, bel_now⟩
  rw [if_pos c5] at H
  have c5b0 : (a0_2 == a1_2) = true := beq_iff_eq.mpr c5
  have c5b1 : (a0_2 != a1_2) = false := bne_eq_false_iff_eq.mpr c5
  clear c5
  by_cases c6 : a0_3 = a1_3
  rotate_left
  ·rw [if_neg c6] at H
   have c6b0 : (a0_3 == a1_3) = false := beq_eq_false_iff_ne.mpr c6
   have c6b1 : (a0_3 != a1_3) = true := bne_iff_ne.mpr c6
   obtain rfl := Option.some.inj H
   go_enter Try.func101, Try.ntmps101
   go_wp2_with (first | ((with_reducible refine gate_dst (N := 2) rfl ?_); refine boxM 2 #[.int .i64 a0_0, .int .i64 a0_1, .int .i64 a0_2, .int .i64 a0_3, .int .i64 a0_4, .int .i64 a0_5, .int .i64 a0_6, .slice A0_7 l0_7.length c0_7, .slice A0_8 l0_8.length c0_8] 73 ?_; intro gb364 hg w44 BK364 hb; replace HB := box_at w hb hg; obtain ⟨HB, GW364, GE364⟩ := HB; clear hb hg) | ((with_reducible refine gate_dst (N := 3) rfl ?_); refine boxM 3 #[.int .i64 a1_0, .int .i64 a1_1, .int .i64 a1_2, .int .i64 a1_3, .int .i64 a1_4, .int .i64 a1_5, .int .i64 a1_6, .slice A1_7 l1_7.length c1_7, .slice A1_8 l1_8.length c1_8] 73 ?_; intro gb365 hg w45 BK365 hb; replace HB := box_at w hb hg; obtain ⟨HB, GW365, GE365⟩ := HB; replace BK364 := box_on gb364 hb hg; obtain ⟨BK364, NB364_365, NB365_364⟩ := BK364; clear hb hg; have hn46 := ne2 NB364_365; have hcz47 := cells9 BK364.out; have hcz48 := cells9 BK365.out))
   go_ret
   exact ⟨eqN, bel_now⟩
  rw [if_pos c6] at H
  have c6b0 : (a0_3 == a1_3) = true := beq_iff_eq.mpr c6
  have c6b1 : (a0_3 != a1_3) = false := bne_eq_false_iff_eq.mpr c6
  clear c6
  by_cases c7 : a0_4 = a1_4
  rotate_left
  ·rw [if_neg c7] at H
   have c7b0 : (a0_4 == a1_4) = false := beq_eq_false_iff_ne.mpr c7
   have c7b1 : (a0_4 != a1_4) = true := bne_iff_ne.mpr c7
   obtain rfl := Option.some.inj H
   go_enter Try.func101, Try.ntmps101
   go_wp2_with (first | ((with_reducible refine gate_dst (N := 2) rfl ?_); refine boxM 2 #[.int .i64 a0_0, .int .i64 a0_1, .int .i64 a0_2, .int .i64 a0_3, .int .i64 a0_4, .int .i64 a0_5, .int .i64 a0_6, .slice A0_7 l0_7.length c0_7, .slice A0_8 l0_8.length c0_8] 73 ?_; intro gb364 hg w39 BK364 hb; replace HB := box_at w hb hg; obtain ⟨HB, GW364, GE364⟩ := HB; clear hb hg) | ((with_reducible refine gate_dst (N := 3) rfl ?_); refine boxM 3 #[.int .i64 a1_0, .int .i64 a1_1, .int .i64 a1_2, .int .i64 a1_3, .int .i64 a1_4, .int .i64 a1_5, .int .i64 a1_6, .slice A1_7 l1_7.length c1_7, .slice A1_8 l1_8.length c1_8] 73 ?_; intro gb365 hg w40 BK365 hb; replace HB := box_at w hb hg; obtain ⟨HB, GW365, GE365⟩ := HB; replace BK364 := box_on gb364 hb hg; obtain ⟨BK364, NB364_365, NB365_364⟩ := BK364; clear hb hg; have hn41 := ne2 NB364_365; have hcz42 := cells9 BK364.out; have hcz43 := cells9 BK365.out))
   go_ret
   exact ⟨eqN, bel_now⟩
  rw [if_pos c7] at H
  have c7b0 : (a0_4 == a1_4) = true := beq_iff_eq.mpr c7
  have c7b1 : (a0_4 != a1_4) = false := bne_eq_false_iff_eq.mpr c7
  clear c7
  by_cases c8 : a0_5 = a1_5
  rotate_left
  ·rw [if_neg c8] at H
   have c8b0 : (a0_5 == a1_5) = false := beq_eq_false_iff_ne.mpr c8
   have c8b1 : (a0_5 != a1_5) = true := bne_iff_ne.mpr c8
   obtain rfl := Option.some.inj H
   go_enter Try.func101, Try.ntmps101
   go_wp2_with (first | ((with_reducible refine gate_dst (N := 2) rfl ?_); refine boxM 2 #[.int .i64 a0_0, .int .i64 a0_1, .int .i64 a0_2, .int .i64 a0_3, .int .i64 a0_4, .int .i64 a0_5, .int .i64 a0_6, .slice A0_7 l0_7.length c0_7, .slice A0_8 l0_8.length c0_8] 73 ?_; intro gb364 hg w34 BK364 hb; replace HB := box_at w hb hg; obtain ⟨HB, GW364, GE364⟩ := HB; clear hb hg) | ((with_reducible refine gate_dst (N := 3) rfl ?_); refine boxM 3 #[.int .i64 a1_0, .int .i64 a1_1, .int .i64 a1_2, .int .i64 a1_3, .int .i64 a1_4, .int .i64 a1_5, .int .i64 a1_6, .slice A1_7 l1_7.length c1_7, .slice A1_8 l1_8.length c1_8] 73 ?_; intro gb365 hg w35 BK365 hb; replace HB := box_at w hb hg; obtain ⟨HB, GW365, GE365⟩ := HB; replace BK364 := box_on gb364 hb hg; obtain ⟨BK364, NB364_365, NB365_364⟩ := BK364; clear hb hg; have hn36 := ne2 NB364_365; have hcz37 := cells9 BK364.out; have hcz38 := cells9 BK365.out))
   go_ret
   exact ⟨eqN, bel_now⟩
  rw [if_pos c8] at H
  have c8b0 : (a0_5 == a1_5) = true := beq_iff_eq.mpr c8
  have c8b1 : (a0_5 != a1_5) = false := bne_eq_false_iff_eq.mpr c8
  clear c8
  by_cases c9 : a0_6 = a1_6
  rotate_left
  ·rw [if_neg c9] at H
   have c9b0 : (a0_6 == a1_6) = false := beq_eq_false_iff_ne.mpr c9
   have c9b1 : (a0_6 != a1_6) = true := bne_iff_ne.mpr c9
   obtain rfl := Option.some.inj H
   go_enter Try.func101, Try.ntmps101
   go_wp2_with (first | ((with_reducible refine gate_dst (N := 2) rfl ?_); refine boxM 2 #[.int .i64 a0_0, .int .i64 a0_1, .int .i64 a0_2, .int .i64 a0_3, .int .i64 a0_4, .int .i64 a0_5, .int .i64 a0_6, .slice A0_7 l0_7.length c0_7, .slice A0_8 l0_8.length c0_8] 73 ?_; intro gb364 hg w29 BK364 hb; replace HB := box_at w hb hg; obtain ⟨HB, GW364, GE364⟩ := HB; clear hb hg) | ((with_reducible refine gate_dst (N := 3) rfl ?_); refine boxM 3 #[.int .i64 a1_0, .int .i64 a1_1, .int .i64 a1_2, .int .i64 a1_3, .int .i64 a1_4, .int .i64 a1_5, .int .i64 a1_6, .slice A1_7 l1_7.length c1_7, .slice A1_8 l1_8.length c1_8] 73 ?_; intro gb365 hg w30 BK365 hb; replace HB := box_at w hb hg; obtain ⟨HB, GW365, GE365⟩ := HB; replace BK364 := box_on gb364 hb hg; obtain ⟨BK364, NB364_365, NB365_364⟩ := BK364; clear hb hg; have hn31 := ne2 NB364_365; have hcz32 := cells9 BK364.out; have hcz33 := cells9 BK365.out))
   go_ret
   exact ⟨eqN, bel_now⟩
  rw [if_pos c9] at H
  have c9b0 : (a0_6 == a1_6) = true := beq_iff_eq.mpr c9
  have c9b1 : (a0_6 != a1_6) = false := bne_eq_false_iff_eq.mpr c9
  clear c9
  replace H := Option.bind_eq_some_iff.mp H
  obtain ⟨t366, A100, H⟩ := H
  (try dsimp only at H)
  have A10 := Aside0.mk A100
  clear A100
  by_cases c11 : t366 = true
  rotate_left
  ·replace c11 := Bool.eq_false_iff.mpr c11
   subst c11
   rw [if_neg (show ¬ (false = true) by decide)] at H
   obtain rfl := Option.some.inj H
   go_enter Try.func101, Try.ntmps101
   go_wp2_with (first | ((with_reducible refine gate_dst (N := 2) rfl ?_); refine boxM 2 #[.int .i64 a0_0, .int .i64 a0_1, .int .i64 a0_2, .int .i64 a0_3, .int .i64 a0_4, .int .i64 a0_5, .int .i64 a0_6, .slice A0_7 l0_7.length c0_7, .slice A0_8 l0_8.length c0_8] 73 ?_; intro gb364 hg w24 BK364 hb; replace HB := box_at w hb hg; obtain ⟨HB, GW364, GE364⟩ := HB; clear hb hg) | ((with_reducible refine gate_dst (N := 3) rfl ?_); refine boxM 3 #[.int .i64 a1_0, .int .i64 a1_1, .int .i64 a1_2, .int .i64 a1_3, .int .i64 a1_4, .int .i64 a1_5, .int .i64 a1_6, .slice A1_7 l1_7.length c1_7, .slice A1_8 l1_8.length c1_8] 73 ?_; intro gb365 hg w25 BK365 hb; replace HB := box_at w hb hg; obtain ⟨HB, GW365, GE365⟩ := HB; replace BK364 := box_on gb364 hb hg; obtain ⟨BK364, NB364_365, NB365_364⟩ := BK364; clear hb hg; have hn26 := ne2 NB364_365; have hcz27 := cells9 BK364.out; have hcz28 := cells9 BK365.out) | ((with_reducible refine gate_callee (f := 35) rfl ?_); refine goesM (some 44) rfl rfl Try.func35 (by kernel_rfl) rfl #[.slice A0_7 l0_7.length c0_7, .slice A1_7 l1_7.length c1_7] rfl ?_; (with_reducible refine (laws_eqIntS.calls k _ _ l0_7 _ _ l1_7 false _ ?side1 ?side2 ?side3 ?side4 A10.out).mono ?_); (case side1 => exact C_now HR0_7.out); (case side2 => exact HC0_7.out); (case side3 => exact C_now HR1_7.out); (case side4 => exact HC1_7.out); rintro e w' ⟨rfl, ⟨nd, rfl⟩⟩; refine ⟨_, rfl, ?_⟩))
   go_ret
   exact ⟨eqN, bel_now⟩
  subst c11
  rw [if_pos rfl] at H
  replace H := Option.bind_eq_some_iff.mp H
  obtain ⟨t367, A120, H⟩ := H
  (try dsimp only at H)
  have A12 := Aside0.mk A120
  clear A120
  by_cases c13 : t367 = true
  ·subst c13
   rw [if_pos rfl] at H
   obtain rfl := Option.some.inj H
   go_enter Try.func101, Try.ntmps101
   go_wp2_with (first | ((with_reducible refine gate_dst (N := 2) rfl ?_); refine boxM 2 #[.int .i64 a0_0, .int .i64 a0_1, .int .i64 a0_2, .int .i64 a0_3, .int .i64 a0_4, .int .i64 a0_5, .int .i64 a0_6, .slice A0_7 l0_7.length c0_7, .slice A0_8 l0_8.length c0_8] 73 ?_; intro gb364 hg w14 BK364 hb; replace HB := box_at w hb hg; obtain ⟨HB, GW364, GE364⟩ := HB; clear hb hg) | ((with_reducible refine gate_dst (N := 3) rfl ?_); refine boxM 3 #[.int .i64 a1_0, .int .i64 a1_1, .int .i64 a1_2, .int .i64 a1_3, .int .i64 a1_4, .int .i64 a1_5, .int .i64 a1_6, .slice A1_7 l1_7.length c1_7, .slice A1_8 l1_8.length c1_8] 73 ?_; intro gb365 hg w15 BK365 hb; replace HB := box_at w hb hg; obtain ⟨HB, GW365, GE365⟩ := HB; replace BK364 := box_on gb364 hb hg; obtain ⟨BK364, NB364_365, NB365_364⟩ := BK364; clear hb hg; have hn16 := ne2 NB364_365; have hcz17 := cells9 BK364.out; have hcz18 := cells9 BK365.out) | ((with_reducible refine gate_callee (f := 35) rfl ?_); refine goesM (some 44) rfl rfl Try.func35 (by kernel_rfl) rfl #[.slice A0_7 l0_7.length c0_7, .slice A1_7 l1_7.length c1_7] rfl ?_; (with_reducible refine (laws_eqIntS.calls k _ _ l0_7 _ _ l1_7 true _ ?side1 ?side2 ?side3 ?side4 A10.out).mono ?_); (case side1 => exact C_now HR0_7.out); (case side2 => exact HC0_7.out); (case side3 => exact C_now HR1_7.out); (case side4 => exact HC1_7.out); rintro e w' ⟨rfl, ⟨nd, rfl⟩⟩; refine ⟨_, rfl, ?_⟩) | ((with_reducible refine gate_callee (f := 35) rfl ?_); refine goesM (some 50) rfl rfl Try.func35 (by kernel_rfl) rfl #[.slice A0_8 l0_8.length c0_8, .slice A1_8 l1_8.length c1_8] rfl ?_; (with_reducible refine (laws_eqIntS.calls k _ _ l0_8 _ _ l1_8 true _ ?side1 ?side2 ?side3 ?side4 A12.out).mono ?_); (case side1 => exact C_now HR0_8.out); (case side2 => exact HC0_8.out); (case side3 => exact C_now HR1_8.out); (case side4 => exact HC1_8.out); rintro e w' ⟨rfl, ⟨nd, rfl⟩⟩; refine ⟨_, rfl, ?_⟩))
   go_ret
   exact ⟨eqN, bel_now⟩
  replace c13 := Bool.eq_false_iff.mpr c13
  subst c13
  rw [if_neg (show ¬ (false = true) by decide)] at H
  obtain rfl := Option.some.inj H
  go_enter Try.func101, Try.ntmps101
  go_wp2_with (first | ((with_reducible refine gate_dst (N := 2) rfl ?_); refine boxM 2 #[.int .i64 a0_0, .int .i64 a0_1, .int .i64 a0_2, .int .i64 a0_3, .int .i64 a0_4, .int .i64 a0_5, .int .i64 a0_6, .slice A0_7 l0_7.length c0_7, .slice A0_8 l0_8.length c0_8] 73 ?_; intro gb364 hg w19 BK364 hb; replace HB := box_at w hb hg; obtain ⟨HB, GW364, GE364⟩ := HB; clear hb hg) | ((with_reducible refine gate_dst (N := 3) rfl ?_); refine boxM 3 #[.int .i64 a1_0, .int .i64 a1_1, .int .i64 a1_2, .int .i64 a1_3, .int .i64 a1_4, .int .i64 a1_5, .int .i64 a1_6, .slice A1_7 l1_7.length c1_7, .slice A1_8 l1_8.length c1_8] 73 ?_; intro gb365 hg w20 BK365 hb; replace HB := box_at w hb hg; obtain ⟨HB, GW365, GE365⟩ := HB; replace BK364 := box_on gb364 hb hg; obtain ⟨BK364, NB364_365, NB365_364⟩ := BK364; clear hb hg; have hn21 := ne2 NB364_365; have hcz22 := cells9 BK364.out; have hcz23 := cells9 BK365.out) | ((with_reducible refine gate_callee (f := 35) rfl ?_); refine goesM (some 44) rfl rfl Try.func35 (by kernel_rfl) rfl #[.slice A0_7 l0_7.length c0_7, .slice A1_7 l1_7.length c1_7] rfl ?_; (with_reducible refine (laws_eqIntS.calls k _ _ l0_7 _ _ l1_7 true _ ?side1 ?side2 ?side3 ?side4 A10.out).mono ?_); (case side1 => exact C_now HR0_7.out); (case side2 => exact HC0_7.out); (case side3 => exact C_now HR1_7.out); (case side4 => exact HC1_7.out); rintro e w' ⟨rfl, ⟨nd, rfl⟩⟩; refine ⟨_, rfl, ?_⟩) | ((with_reducible refine gate_callee (f := 35) rfl ?_); refine goesM (some 50) rfl rfl Try.func35 (by kernel_rfl) rfl #[.slice A0_8 l0_8.length c0_8, .slice A1_8 l1_8.length c1_8] rfl ?_; (with_reducible refine (laws_eqIntS.calls k _ _ l0_8 _ _ l1_8 false _ ?side1 ?side2 ?side3 ?side4 A12.out).mono ?_); (case side1 => exact C_now HR0_8.out); (case side2 => exact HC0_8.out); (case side3 => exact C_now HR1_8.out); (case side4 => exact HC1_8.out); rintro e w' ⟨rfl, ⟨nd, rfl⟩⟩; refine ⟨_, rfl, ?_⟩))
  go_ret
  exact ⟨eqN, bel_now⟩

end Go.Proofs.Ytljdcemdhmaahaa.PFnExactEncodeModel
