import Derived.Test.YtclpojeofclbjaaPFnExactEvalModelx0
import Derived.Test.YtclpojeofclbjaaPFnExactEvalModelx21
import Derived.Test.YtclpojeofclbjaaPFnExactEvalModelx22
namespace Go.Proofs.Ytclpojeofclbjaa.PFnExactEvalModel
open Go.RowKit Go.Proofs.YtclpojeofclbjaaW.PrintWords Go.Proofs.YtclpojeofclbjaaW.PrintLast Go.Proofs.YtclpojeofclbjaaW.PrintMore
attribute [local go_sem] max2_int min2_int max_two min_two max_three min_three max_four min_four
set_option maxHeartbeats 8000000
set_option maxRecDepth 100000
set_option linter.unusedVariables false
set_option linter.unusedSimpArgs false

def laws_eqModel.f (k : Nat) (a0_0 : Int) (a0_1 : Int) (a0_2 : Int) (l0_3 : List (S37)) (a1_0 : Int) (a1_1 : Int) (a1_2 : Int) (l1_3 : List (S37)) : Option (Bool) := (laws_eqShape.f a0_0 a0_1 a0_2 a1_0 a1_1 a1_2).bind fun t507 => (if t507 = true then ((laws_eqLayerS.f k l0_3 l1_3).bind fun t508 => (if t508 = true then (some true) else (some false))) else (some false))
theorem laws_eqModel.calls (k : Nat) (a0_0 : Int) (a0_1 : Int) (a0_2 : Int) (A0_3 : Option Addr) (c0_3 : Nat) (l0_3 : List (S37)) (a1_0 : Int) (a1_1 : Int) (a1_2 : Int) (A1_3 : Option Addr) (c1_3 : Nat) (l1_3 : List (S37)) (r : Bool) (w : World) (hr0_3 : Kd.C k37 w A0_3 l0_3.length l0_3) (hc0_3 : l0_3.length ≤ c0_3) (hr1_3 : Kd.C k37 w A1_3 l1_3.length l1_3) (hc1_3 : l1_3.length ≤ c1_3) (h : laws_eqModel.f k a0_0 a0_1 a0_2 l0_3 a1_0 a1_1 a1_2 l1_3 = some r) :
   Calls Try.prog 38 #[.agg #[.int .i64 a0_0, .int .i64 a0_1, .int .i64 a0_2, .slice A0_3 l0_3.length c0_3], .agg #[.int .i64 a1_0, .int .i64 a1_1, .int .i64 a1_2, .slice A1_3 l1_3.length c1_3]] w fun e w' => e = .returned (.bool r) ∧ Below w.heap.size w w' := by
  have hu53 := Try.underlying53;have hu31 := Try.underlying31;have HR0_3 := am hr0_3;have HC0_3 := am hc0_3;clear hr0_3 hc0_3;have HR1_3 := am hr1_3;have HC1_3 := am hc1_3;clear hr1_3 hc1_3;have HB := am (Below.refl w.heap.size w);have H : ((laws_eqShape.f a0_0 a0_1 a0_2 a1_0 a1_1 a1_2).bind fun t507 => (if t507 = true then ((laws_eqLayerS.f k l0_3 l1_3).bind fun t508 => (if t508 = true then (some true) else (some false))) else (some false))) = some r := h;clear h;obtain ⟨t507, A3, H⟩ := bnd H;(try dsimp only at H);by_cases c4 : t507 = true
  case' neg => skip
  replace c4 := Bool.eq_false_iff.mpr c4;subst c4
  rw [if_neg (show ¬ (false = true) by decide)] at H
  obtain rfl := Option.some.inj H;rotate_left;subst c4;rw [if_pos rfl] at H;obtain ⟨t508, A5, H⟩ := bnd H;(try dsimp only at H);by_cases c6 : t508 = true;subst c6;rw [if_pos rfl] at H;obtain rfl := Option.some.inj H;rotate_left;replace c6 := Bool.eq_false_iff.mpr c6;subst c6
  rw [if_neg (show ¬ (false = true) by decide)] at H
  obtain rfl := Option.some.inj H;rotate_left
  all_goals (go_enter Try.func38, Try.ntmps38; go_wp2_with (first | ((with_reducible refine gate_dst (N := 2) rfl ?_); refine boxM 2 #[.int .i64 a0_0, .int .i64 a0_1, .int .i64 a0_2, .slice A0_3 l0_3.length c0_3] 53 ?_; intro gb505 hg w_ BK505 hb; obtain ⟨HB, GW505, GE505⟩ := box_at w hb hg; clear hb hg) | ((with_reducible refine gate_dst (N := 3) rfl ?_); refine boxM 3 #[.int .i64 a1_0, .int .i64 a1_1, .int .i64 a1_2, .slice A1_3 l1_3.length c1_3] 53 ?_; intro gb506 hg w_ BK506 hb; obtain ⟨HB, GW506, GE506⟩ := box_at w hb hg; obtain ⟨BK505, NB505_506, NB506_505⟩ := box_on gb505 hb hg; clear hb hg; have hn_ := ne2 NB505_506; have hcz_ := cells4 BK505.out; have hcz_ := cells4 BK506.out) | ((with_reducible refine gate_callee (f := 54) rfl ?_); refine gM 9 Try.func54 #[.agg #[.int .i64 a0_0, .int .i64 a0_1, .int .i64 a0_2], .agg #[.int .i64 a1_0, .int .i64 a1_1, .int .i64 a1_2]] rfl ?_; (with_reducible refine (laws_eqShape.calls a0_0 a0_1 a0_2 a1_0 a1_1 a1_2 false _ A3.out).mono ?_); rintro e w_ ⟨rfl, hb⟩; refine ⟨_, rfl, ?_⟩; replace HB := bel_on w hb; replace BK505 := blk_on gb505 hb; replace BK506 := blk_on gb506 hb; (try clear hb)) | ((with_reducible refine gate_callee (f := 54) rfl ?_); refine gM 9 Try.func54 #[.agg #[.int .i64 a0_0, .int .i64 a0_1, .int .i64 a0_2], .agg #[.int .i64 a1_0, .int .i64 a1_1, .int .i64 a1_2]] rfl ?_; (with_reducible refine (laws_eqShape.calls a0_0 a0_1 a0_2 a1_0 a1_1 a1_2 true _ A3.out).mono ?_); rintro e w_ ⟨rfl, hb⟩; refine ⟨_, rfl, ?_⟩; replace HB := bel_on w hb; replace BK505 := blk_on gb505 hb; replace BK506 := blk_on gb506 hb; (try clear hb); have hcz_ := cells4 BK505.out; have hcz_ := cells4 BK506.out) | ((with_reducible refine gate_callee (f := 88) rfl ?_); refine gM 15 Try.func88 #[.slice A0_3 l0_3.length c0_3, .slice A1_3 l1_3.length c1_3] rfl ?_; (with_reducible refine (laws_eqLayerS.calls k _ _ l0_3 _ _ l1_3 true _ ?side1 HC0_3.out ?side3 HC1_3.out A5.out).mono ?_); (case side1 => exact C_now HR0_3.out); (case side3 => exact C_now HR1_3.out); rintro e w_ ⟨rfl, hb⟩; refine ⟨_, rfl, ?_⟩; replace HB := bel_on w hb; replace BK505 := blk_on gb505 hb; replace BK506 := blk_on gb506 hb; (try clear hb)) | ((with_reducible refine gate_callee (f := 88) rfl ?_); refine gM 15 Try.func88 #[.slice A0_3 l0_3.length c0_3, .slice A1_3 l1_3.length c1_3] rfl ?_; (with_reducible refine (laws_eqLayerS.calls k _ _ l0_3 _ _ l1_3 false _ ?side1 HC0_3.out ?side3 HC1_3.out A5.out).mono ?_); (case side1 => exact C_now HR0_3.out); (case side3 => exact C_now HR1_3.out); rintro e w_ ⟨rfl, hb⟩; refine ⟨_, rfl, ?_⟩; replace HB := bel_on w hb; replace BK505 := blk_on gb505 hb; replace BK506 := blk_on gb506 hb; (try clear hb))))
  ·go_ret
   exact ⟨eqN, bel_now⟩
  ·go_ret
   exact ⟨eqN, bel_now⟩
  ·go_ret
   exact ⟨eqN, bel_now⟩

-- what is written are whole numbers where whole numbers stood
def IK (S : Nat → Prop) (w w' : World) : Prop := w.heap.size ≤ w'.heap.size ∧ ∀ b, b < w.heap.size → w'.heap[b]? = w.heap[b]? ∨ (S b ∧ ∃ (cs cs' : Array Value) (t : TypeId), w.heap[b]? = some (.cells cs t (0, 0)) ∧ w'.heap[b]? = some (.cells cs' t (0, 0)) ∧ cs'.size = cs.size ∧ ∀ j : Nat, cs'[j]? = cs[j]? ∨ ((∃ x, cs[j]? = some (.int .i64 x)) ∧ ∃ x, cs'[j]? = some (.int .i64 x)))
theorem IK.refl (S : Nat → Prop) (w : World) : IK S w w := ⟨Nat.le_refl _, fun _ _ => .inl rfl⟩
theorem IK.trans {S : Nat → Prop} {w w1 w2 : World} (h : IK S w w1) (k : IK S w1 w2) : IK S w w2 := by
  refine ⟨Nat.le_trans h.1 k.1, fun b hb => ?_⟩
  have hb1 : b < w1.heap.size := Nat.lt_of_lt_of_le hb h.1
  rcases h.2 b hb with e1 | ⟨s1, cs, cs1, t, e1, e2, z1, p1⟩
  ·rcases k.2 b hb1 with e2 | ⟨s2, ds, ds1, u, f1, f2, z2, p2⟩
   ·exact .inl (e2.trans e1)
   exact .inr ⟨s2, ds, ds1, u, e1.symm.trans f1, f2, z2, p2⟩
  rcases k.2 b hb1 with f | ⟨s2, ds, ds1, u, f1, f2, z2, p2⟩
  ·exact .inr ⟨s1, cs, cs1, t, e1, f.trans e2, z1, p1⟩
  rw [e2] at f1
  injection f1 with f1
  injection f1 with a b c
  subst a;subst b
  refine .inr ⟨s1, cs, ds1, t, e1, f2, z2.trans z1, fun j => ?_⟩
  rcases p1 j with q1 | ⟨q1, q2⟩ <;> rcases p2 j with r1 | ⟨r1, r2⟩
  ·exact .inl (r1.trans q1)
  ·rw [q1] at r1;exact .inr ⟨r1, r2⟩
  ·rw [← r1] at q2;exact .inr ⟨q1, q2⟩
  exact .inr ⟨q1, r2⟩
theorem IK.weak {S S' : Nat → Prop} {w w1 : World} (h : IK S w w1) (hs : ∀ k, S k → S' k) : IK S' w w1 := ⟨h.1, fun b hb => (h.2 b hb).imp id (fun h => ⟨hs b h.1, h.2⟩)⟩
theorem IK.below {S : Nat → Prop} {w W W' : World} (h : IK S w W) (hb : Below W.heap.size W W') : IK S w W' := h.trans ⟨hb.size, fun b hlt => .inl (hb.block b hlt)⟩
theorem IK.set {S : Nat → Prop} {w W : World} {g j t : Nat} {x : Int} (h : IK S w W) (hs : S g) (hb : ∃ (cs : Array Value) (y : Int), W.heap[g]? = some (.cells cs t (0, 0)) ∧ cs[j]? = some (.int .i64 y)) : IK S w (W.setCell ⟨g, j, none⟩ (.int .i64 x)) := by
  obtain ⟨cs, y, h1, h2⟩ := hb
  refine h.trans ⟨by simp [World.setCell], fun b hlt => ?_⟩
  by_cases hbg : b = g
  ·subst hbg
   refine .inr ⟨hs, cs, cs.setIfInBounds j (.int .i64 x), t, h1, blk_set h1 j _, by simp, fun i => ?_⟩
   by_cases hi : j = i
   ·subst hi
    refine .inr ⟨⟨y, h2⟩, x, ?_⟩
    have := (Array.getElem?_eq_some_iff.1 h2).1
    simp [this]
   ·left
    simp [Array.getElem?_setIfInBounds, hi]
  ·exact .inl (Below.heap_setCell W _ _ b hbg)
/-- A block that was cells is cells, its whole numbers are whole numbers, all else in it is as it was. -/
theorem IK.blk {S : Nat → Prop} {w W : World} {g t : Nat} {cs : Array Value} (h : IK S w W) (hb : w.heap[g]? = some (.cells cs t (0, 0))) : ∃ cs' : Array Value, W.heap[g]? = some (.cells cs' t (0, 0)) ∧ cs'.size = cs.size ∧ ∀ j : Nat, cs'[j]? = cs[j]? ∨ ((∃ x, cs[j]? = some (.int .i64 x)) ∧ ∃ x, cs'[j]? = some (.int .i64 x)) := by
  rcases h.2 g (blk_lt hb) with e | ⟨_, ds, ds', u, e1, e2, z, p⟩
  ·exact ⟨cs, e.trans hb, rfl, fun j => .inl rfl⟩
  rw [hb] at e1
  injection e1 with e1
  injection e1 with a b c
  subst a;subst b;exact ⟨ds', e2, z, p⟩
theorem IK.int {S : Nat → Prop} {w W : World} {g t j : Nat} {cs : Array Value} (h : IK S w W) (hb : w.heap[g]? = some (.cells cs t (0, 0))) (hj : ∃ x, cs[j]? = some (.int .i64 x)) : ∃ (cs' : Array Value) (y : Int), W.heap[g]? = some (.cells cs' t (0, 0)) ∧ cs'[j]? = some (.int .i64 y) := by
  obtain ⟨cs', e, _, p⟩ := h.blk hb
  rcases p j with q | ⟨_, y, q⟩
  ·obtain ⟨x, hx⟩ := hj;exact ⟨cs', x, e, q.trans hx⟩
  exact ⟨cs', y, e, q⟩
theorem IK.slice {S : Nat → Prop} {w W : World} {g t j n c : Nat} {A : Option Addr} {cs : Array Value} (h : IK S w W) (hb : w.heap[g]? = some (.cells cs t (0, 0))) (hj : cs[j]? = some (.slice A n c)) : W.cell? ⟨g, j, none⟩ = some (.slice A n c) := by
  obtain ⟨cs', e, _, p⟩ := h.blk hb;rw [blk_cell e]
  rcases p j with q | ⟨⟨x, q⟩, _⟩
  ·exact q.trans hj
  rw [hj] at q;cases q
theorem IK.kept {S : Nat → Prop} {w W : World} (h : IK S w W) : Kept w W S := ⟨h.1, fun b hb hn => (h.2 b hb).elim id (fun h => absurd h.1 hn)⟩
/-- A row of n whole numbers. -/
def RowI (w : World) (base : Nat) (P : Nat → Prop) (v : Value) (n : Nat) : Prop := (v = .slice none 0 0 ∧ n = 0) ∨ ∃ (g c : Nat) (cs : Array Value), v = .slice (some ⟨g, 0, none⟩) n c ∧ base ≤ g ∧ P g ∧ w.heap[g]? = some (.cells cs 3 (0, 0)) ∧ ∀ j : Nat, j < n → ∃ x, cs[j]? = some (.int .i64 x)
theorem RowI.slice {w : World} {base n : Nat} {P : Nat → Prop} {v : Value} (h : RowI w base P v n) : ∃ A c, v = .slice A n c := by
  rcases h with ⟨rfl, rfl⟩ | ⟨g, c, cs, rfl, _⟩
  ·exact ⟨_, _, rfl⟩
  exact ⟨_, _, rfl⟩
theorem RowI.of_R {w : World} {base : Nat} {P : Nat → Prop} {v : Value} {l : List Int} (h : Kd.R (Kd.int .i64) 3 w base P v l) : RowI w base P v l.length := by
  have ho := Kd.own_of_R h
  rcases ho.2 with ⟨rfl, h0⟩ | ⟨g, cap, cur, rfl, hb, hh, h1, h2, h3, h4⟩
  ·exact .inl ⟨rfl, h0⟩
  refine .inr ⟨g, cap, cur, rfl, hb, h.1 g rfl, hh, fun j hj => ?_⟩
  refine ⟨l[j], ?_⟩
  have h5 : (cur.toList.take (l.length * 1))[j]? = some (.int .i64 l[j]) := by
   rw [h4]
   simp [encs, hj]
  rw [List.getElem?_take] at h5
  split at h5
  ·simpa using h5
  cases h5
theorem RowI.ik {S : Nat → Prop} {w W : World} {base n : Nat} {P : Nat → Prop} {v : Value} (h : RowI w base P v n) (hk : IK S w W) : RowI W base P v n := by
  rcases h with h | ⟨g, c, cs, hv, hb, hp, hh, hi⟩
  ·exact .inl h
  obtain ⟨cs', e, _, p⟩ := hk.blk hh
  refine .inr ⟨g, c, cs', hv, hb, hp, e, fun j hj => ?_⟩
  rcases p j with q | ⟨_, q⟩
  rotate_left
  ·exact q
  obtain ⟨x, hx⟩ := hi j hj;exact ⟨x, q.trans hx⟩
theorem marks_ints (P : Nat → Prop) (v : Value) (n : Nat) (a r : Int) (w0 w : World) (hB : Below w0.heap.size w0 w) (h : RowI w w0.heap.size P v n) (hr : 0 ≤ a ∧ a + n ≤ 1000000000000000 ∧ r = a + n) :
   Calls Try.prog 26 #[v, .int .i64 a] w fun e w' => e = .returned (.int .i64 r) ∧ Aside0 (Below w0.heap.size w0 w') ∧ Aside0 (IK P w w') := by
  obtain ⟨A, c, rfl⟩ : ∃ A c, v = .slice A n c := by
   rcases h with ⟨rfl, rfl⟩ | ⟨g, c, cs, rfl, _⟩
   ·exact ⟨_, _, rfl⟩
   ·exact ⟨_, _, rfl⟩
  have HR := am h;have HN := am hr;have HK := am (IK.refl P w);have HB := am hB;clear h hr hB
  go_enter Try.func26, Try.ntmps26
  go_wp2
  go_loopg [1, 5] n (fun kq v1 v5 w' => ∃ (x1_1 : Int) (x5_1 : Int), v1 = .int .i64 x1_1 ∧ v5 = .int .i64 x5_1 ∧ Aside0 (0 ≤ x5_1 ∧ x5_1 ≤ n ∧ x1_1 = a + x5_1 ∧ n - x5_1.toNat ≤ kq) ∧ Aside0 (Below w0.heap.size w0 w') ∧ Aside0 (IK P w w'))
  case atStart => exact ⟨a, 0, rfl, rfl, ⟨by omega⟩, HB, HK⟩
  case round =>
   clear HB HK;obtain ⟨x1_1, x5_1, rfl, rfl, HX, HB, HK⟩ := hrel;by_cases c3 : x5_1 < (n : Int);rotate_left
   ·have c3b0 : decide (x5_1 < (n : Int)) = false := decide_eq_false c3;clear c3
    go_wp2
    go_ret
    exact ⟨by have := HX.out; have := of_decide_eq_false c3b0; have := HN.out; rw [show x1_1 = r by omega]; rfl, HB, HK⟩
   have c3b0 : decide (x5_1 < (n : Int)) = true := decide_eq_true c3;have c4b0 : decide (0 ≤ x5_1) = true := decide_eq_true HX.out.1
   rcases HR.out.ik HK.out with ⟨_, hz⟩ | ⟨g, c', cs, hv, hg, hp, hh, hi⟩
   ·have := HX.out.1
    omega
   cases hv;have HH := am hh;have HG := am hg;have HP := am hp;have hy := hi x5_1.toNat (by have := HX.out.1; omega);obtain ⟨y, hy⟩ := hy;have HY := am hy;have hx5_0 : wr.cell? ⟨g, x5_1.toNat, none⟩ = some (.int .i64 y) := (blk_cell hh _).trans hy;have hf5_0 : wr.frozen? ⟨g, x5_1.toNat, none⟩ = false := blk_frozen hh _;clear hh hg hp hi hy c3;have p5 := eq_true HX.out.1;have q5 := eq_true (of_decide_eq_true c3b0)
   go_wp2_with (first | ((with_reducible refine gate_store (t := 3) (p := 15) rfl ?_); refine store_event (t := 3) (p := 15) (v := ?vo_w8) (w1 := (wr.setCell ⟨g, x5_1.toNat, none⟩ (.int .i64 x1_1))) ?hg ?ho ?hn ?hr ?_; (case ho => rfl); (case hg => rfl); (case hn => rfl); (case hr => first | (go_simp; done) | (go_simp; rfl)); intro w8 hw; have n1 := am (show IK P w w8 from by rw [hw]; exact HK.out.set HP.out ⟨_, _, HH.out, HY.out⟩); have n2 := am (show Below w0.heap.size w0 w8 from by rw [hw]; exact below_set HB.out HG.out); clear hw HK HB HH HY hx5_0 hf5_0; have HK := n1; have HB := n2; clear n1 n2))
   go_roundg (gk - 1)
   case measure => have := HX.out; have := of_decide_eq_true c3b0; omega
   case rel => exact ⟨wrap64 (x1_1 + 1), wrap64 (x5_1 + 1), pv, pv, ⟨by have := HX.out; have := HN.out; have := of_decide_eq_true c3b0; unfold wrap64; omega⟩, HB, HK⟩
theorem marks_at {S : Nat → Prop} {w W : World} {g t j : Nat} {cs : Array Value} (hk : IK S w W) (hh : w.heap[g]? = some (.cells cs t (0, 0))) (hj : ∃ x, cs[j]? = some (.int .i64 x)) : ∃ y, W.cell? ⟨g, j, none⟩ = some (.int .i64 y) ∧ W.frozen? ⟨g, j, none⟩ = false := by
  obtain ⟨cs', y, e, h⟩ := hk.int hh hj;exact ⟨y, (blk_cell e _).trans h, blk_frozen e _⟩
theorem marks_cell {S : Nat → Prop} {w W : World} {g t j : Nat} {cs : Array Value} (hk : IK S w W) (hh : w.heap[g]? = some (.cells cs t (0, 0))) (hj : ∃ x, cs[j]? = some (.int .i64 x)) : ∃ (cs : Array Value) (y : Int), W.heap[g]? = some (.cells cs t (0, 0)) ∧ cs[j]? = some (.int .i64 y) := hk.int hh hj
theorem marks_elem {w : World} {base g n c : Nat} {P : Nat → Prop} {l : List S37} (h : Kd.R k37 37 w base P (.slice (some ⟨g, 0, none⟩) n c) l) (i : Int) (h0 : 0 ≤ i) (h1 : i < n) : ∃ (cs : Array Value) (A7 A8 : Option Addr) (c7 c8 : Nat), w.heap[g]? = some (.cells cs 37 (0, 0)) ∧ P g ∧ base ≤ g ∧ (∀ j, j < 7 → ∃ x, cs[i.toNat * 9 + j]? = some (.int .i64 x)) ∧ cs[i.toNat * 9 + 7]? = some (.slice A7 (rd_T37 l i).f7.length c7) ∧ cs[i.toNat * 9 + 8]? = some (.slice A8 (rd_T37 l i).f8.length c8) ∧ RowI w base P (.slice A7 (rd_T37 l i).f7.length c7) (rd_T37 l i).f7.length ∧ RowI w base P (.slice A8 (rd_T37 l i).f8.length c8) (rd_T37 l i).f8.length := by
  obtain ⟨cells, hb⟩ := Kd.R_typed h g rfl;obtain ⟨ce, hl, hM, hcc, _⟩ := Kd.R_elem h z37 i h0 h1;obtain ⟨v7, v8, rfl, g7, g8⟩ := k37_openM hM;have hc : ∀ j u, ([.int .i64 (l.getD i.toNat z37).f0, .int .i64 (l.getD i.toNat z37).f1, .int .i64 (l.getD i.toNat z37).f2, .int .i64 (l.getD i.toNat z37).f3, .int .i64 (l.getD i.toNat z37).f4, .int .i64 (l.getD i.toNat z37).f5, .int .i64 (l.getD i.toNat z37).f6, v7, v8] : List Value)[j]? = some u → cells[i.toNat * 9 + j]? = some u := fun j u hu => by
   have := hcc j u hu
   rwa [show k37.sz = 9 from rfl, blk_cell hb] at this
  obtain ⟨A7, c7, rfl⟩ := Kd.R_slice g7;obtain ⟨A8, c8, rfl⟩ := Kd.R_slice g8
  refine ⟨cells, A7, A8, c7, c8, hb, h.1 g rfl, Kd.R_base h g rfl, fun j hj => ?_, hc 7 _ rfl, hc 8 _ rfl, RowI.of_R (Kd.R_mono g7 fun _ hk => hk.1), RowI.of_R (Kd.R_mono g8 fun _ hk => hk.1)⟩
  match j, hj with
  | 0, _ => exact ⟨_, hc 0 _ rfl⟩
  | 1, _ => exact ⟨_, hc 1 _ rfl⟩
  | 2, _ => exact ⟨_, hc 2 _ rfl⟩
  | 3, _ => exact ⟨_, hc 3 _ rfl⟩
  | 4, _ => exact ⟨_, hc 4 _ rfl⟩
  | 5, _ => exact ⟨_, hc 5 _ rfl⟩
  | 6, _ => exact ⟨_, hc 6 _ rfl⟩
def marksTot : List S37 → Int
  | [] => 0
  | x :: l => 7 + (x.f7.length : Int) + (x.f8.length : Int) + marksTot l
theorem marksTot_nn : ∀ l, 0 ≤ marksTot l
  | [] => Int.le_refl _
  | x :: l => by have := marksTot_nn l; simp only [marksTot]; omega
theorem marksTot_len : ∀ l, (l.length : Int) ≤ marksTot l
  | [] => Int.le_refl _
  | x :: l => by have := marksTot_len l; simp only [marksTot, List.length_cons]; omega
theorem marksTot_at : ∀ (l : List S37) (i : Nat), i < l.length → marksTot (l.take i) + (7 + ((l.getD i z37).f7.length : Int) + ((l.getD i z37).f8.length : Int)) = marksTot (l.take (i + 1)) ∧ marksTot (l.take (i + 1)) ≤ marksTot l
  | x :: l, 0, _ => by have := marksTot_nn l; simp [marksTot]; omega
  | x :: l, i + 1, h => by
   have := marksTot_at l i (by simpa using h);simp only [List.take_succ_cons, marksTot, List.getD_cons_succ]
   omega
theorem marks_layers (P : Nat → Prop) (v : Value) (l : List S37) (a r : Int) (w0 w : World) (hB : Below w0.heap.size w0 w) (h : Kd.R k37 37 w w0.heap.size P v l) (hr : 0 ≤ a ∧ a + marksTot l ≤ 1000000000000000 ∧ r = a + marksTot l) :
   Calls Try.prog 89 #[v, .int .i64 a] w fun e w' => e = .returned (.int .i64 r) ∧ Aside0 (Below w0.heap.size w0 w') ∧ Aside0 (IK P w w') := by
  obtain ⟨A, c, rfl⟩ := Kd.R_slice h;have HR := am h;have HN := am hr;have HK := am (IK.refl P w);have HB := am hB;clear h hr hB
  go_enter Try.func89, Try.ntmps89
  go_wp2
  go_loopg [1, 5] l.length (fun kq v1 v5 w' => ∃ (x1_1 : Int) (x5_1 : Int), v1 = .int .i64 x1_1 ∧ v5 = .int .i64 x5_1 ∧ Aside0 (0 ≤ x5_1 ∧ x5_1 ≤ l.length ∧ x1_1 = a + marksTot (l.take x5_1.toNat) ∧ l.length - x5_1.toNat ≤ kq) ∧ Aside0 (Below w0.heap.size w0 w') ∧ Aside0 (IK P w w'))
  case atStart => exact ⟨a, 0, rfl, rfl, ⟨by simp [marksTot]⟩, HB, HK⟩
  case round =>
   clear HB HK;obtain ⟨x1_1, x5_1, rfl, rfl, HX, HB, HK⟩ := hrel;by_cases c3 : x5_1 < (l.length : Int);rotate_left
   ·have c3b0 : decide (x5_1 < (l.length : Int)) = false := decide_eq_false c3;clear c3
    go_wp2
    go_ret
    exact ⟨by
     have h1 := HX.out;have h2 := of_decide_eq_false c3b0;have h3 := HN.out
     rw [show x5_1.toNat = l.length by omega, List.take_length] at h1
     rw [show x1_1 = r by omega]; rfl, HB, HK⟩
   have c3b0 : decide (x5_1 < (l.length : Int)) = true := decide_eq_true c3;have c4b0 : decide (0 ≤ x5_1) = true := decide_eq_true HX.out.1
   obtain ⟨g, hA⟩ : ∃ g, A = some ⟨g, 0, none⟩ := by
    obtain ⟨g, c', hv, _⟩ := Kd.R_form HR.out (by have := HX.out.1; omega)
    injection hv with hv
    exact ⟨g, hv⟩
   subst hA;obtain ⟨cs, A7, A8, c7, c8, hh, hp, hg, hi, h7, h8, ro7, ro8⟩ := marks_elem HR.out x5_1 HX.out.1 c3;obtain ⟨n7, hn7⟩ : ∃ n, n = (rd_T37 l x5_1).f7.length := ⟨_, rfl⟩;obtain ⟨n8, hn8⟩ : ∃ n, n = (rd_T37 l x5_1).f8.length := ⟨_, rfl⟩;rw [← hn7] at h7 ro7;rw [← hn8] at h8 ro8;have HR7 := am ro7;have HR8 := am ro8;clear ro7 ro8;obtain ⟨r7, hr7⟩ : ∃ r, r = x1_1 + 7 + (n7 : Int) := ⟨_, rfl⟩;obtain ⟨r8, hr8⟩ : ∃ r, r = r7 + (n8 : Int) := ⟨_, rfl⟩;have HTT := am (marksTot_at l x5_1.toNat (by have := HX.out.1; omega))
   have HT := am (show r8 = a + marksTot (l.take (x5_1 + 1).toNat) ∧ a ≤ x1_1 ∧ r8 ≤ 1000000000000000 by
    have h1 := HX.out;have h2 := HTT.out;have h3 := HN.out;have h4 := marksTot_nn (l.take x5_1.toNat)
    rw [show (x5_1 + 1).toNat = x5_1.toNat + 1 by omega]
    simp only [rd_T37] at hn7 hn8;rw [← hn7, ← hn8] at h2
    omega)
   have HS7 := am (show 0 ≤ (wrap64 ((wrap64 ((wrap64 ((wrap64 ((wrap64 ((wrap64 ((wrap64 (x1_1 + 1)) + 1)) + 1)) + 1)) + 1)) + 1)) + 1)) ∧ (wrap64 ((wrap64 ((wrap64 ((wrap64 ((wrap64 ((wrap64 ((wrap64 (x1_1 + 1)) + 1)) + 1)) + 1)) + 1)) + 1)) + 1)) + n7 ≤ 1000000000000000 ∧ r7 = (wrap64 ((wrap64 ((wrap64 ((wrap64 ((wrap64 ((wrap64 ((wrap64 (x1_1 + 1)) + 1)) + 1)) + 1)) + 1)) + 1)) + 1)) + n7 by
    have h1 := HT.out;have h3 := HN.out
    rw [show (wrap64 ((wrap64 ((wrap64 ((wrap64 ((wrap64 ((wrap64 ((wrap64 (x1_1 + 1)) + 1)) + 1)) + 1)) + 1)) + 1)) + 1)) = x1_1 + 7 by unfold wrap64; omega]
    omega)
   have HS8 := am (show 0 ≤ r7 ∧ r7 + n8 ≤ 1000000000000000 ∧ r8 = r7 + n8 by
    have h1 := HT.out;have h3 := HN.out
    omega)
   clear hr7 hr8 hn7 hn8;have HH := am hh;have HG := am hg;have HP := am hp;have HI := am hi;have H7 := am h7;have H8 := am h8;clear hh hg hp hi h7 h8 c3;obtain ⟨y0, hx0, hf0⟩ := marks_at HK.out HH.out (HI.out 0 (by decide));rw [Nat.add_zero] at hx0 hf0;have p5 := eq_true HX.out.1;have q5 := eq_true (of_decide_eq_true c3b0)
   go_wp2_with (first | ((with_reducible refine gate_store (t := 3) (p := 16) rfl ?_); refine store_event (t := 3) (p := 16) (v := ?vo0_) (w1 := wr.setCell ⟨g, x5_1.toNat * 9, none⟩ (.int .i64 x1_1)) ?hg ?ho ?hn ?hr ?_; (case ho => rfl); (case hg => rfl); (case hn => rfl); (case hr => first | (go_simp; done) | (go_simp; rfl)); intro w0_ hw; have n1 := am (show IK P w w0_ from by rw [hw]; exact HK.out.set HP.out (marks_cell HK.out HH.out (HI.out 0 (by decide)))); have n2 := am (show Below w0.heap.size w0 w0_ from by rw [hw]; exact below_set HB.out HG.out); clear hw HK HB hx0 hf0; have HK := n1; have HB := n2; clear n1 n2; obtain ⟨y1, hx1, hf1⟩ := marks_at HK.out HH.out (HI.out 1 (by decide))) | ((with_reducible refine gate_store (t := 3) (p := 23) rfl ?_); refine store_event (t := 3) (p := 23) (v := ?vo1_) (w1 := w0_.setCell ⟨g, x5_1.toNat * 9 + 1, none⟩ (.int .i64 (wrap64 (x1_1 + 1)))) ?hg ?ho ?hn ?hr ?_; (case ho => rfl); (case hg => rfl); (case hn => rfl); (case hr => first | (go_simp; done) | (go_simp; rfl)); intro w1_ hw; have n1 := am (show IK P w w1_ from by rw [hw]; exact HK.out.set HP.out (marks_cell HK.out HH.out (HI.out 1 (by decide)))); have n2 := am (show Below w0.heap.size w0 w1_ from by rw [hw]; exact below_set HB.out HG.out); clear hw HK HB hx1 hf1; have HK := n1; have HB := n2; clear n1 n2; obtain ⟨y2, hx2, hf2⟩ := marks_at HK.out HH.out (HI.out 2 (by decide))) | ((with_reducible refine gate_store (t := 3) (p := 30) rfl ?_); refine store_event (t := 3) (p := 30) (v := ?vo2_) (w1 := w1_.setCell ⟨g, x5_1.toNat * 9 + 2, none⟩ (.int .i64 (wrap64 ((wrap64 (x1_1 + 1)) + 1)))) ?hg ?ho ?hn ?hr ?_; (case ho => rfl); (case hg => rfl); (case hn => rfl); (case hr => first | (go_simp; done) | (go_simp; rfl)); intro w2_ hw; have n1 := am (show IK P w w2_ from by rw [hw]; exact HK.out.set HP.out (marks_cell HK.out HH.out (HI.out 2 (by decide)))); have n2 := am (show Below w0.heap.size w0 w2_ from by rw [hw]; exact below_set HB.out HG.out); clear hw HK HB hx2 hf2; have HK := n1; have HB := n2; clear n1 n2; obtain ⟨y3, hx3, hf3⟩ := marks_at HK.out HH.out (HI.out 3 (by decide))) | ((with_reducible refine gate_store (t := 3) (p := 37) rfl ?_); refine store_event (t := 3) (p := 37) (v := ?vo3_) (w1 := w2_.setCell ⟨g, x5_1.toNat * 9 + 3, none⟩ (.int .i64 (wrap64 ((wrap64 ((wrap64 (x1_1 + 1)) + 1)) + 1)))) ?hg ?ho ?hn ?hr ?_; (case ho => rfl); (case hg => rfl); (case hn => rfl); (case hr => first | (go_simp; done) | (go_simp; rfl)); intro w3_ hw; have n1 := am (show IK P w w3_ from by rw [hw]; exact HK.out.set HP.out (marks_cell HK.out HH.out (HI.out 3 (by decide)))); have n2 := am (show Below w0.heap.size w0 w3_ from by rw [hw]; exact below_set HB.out HG.out); clear hw HK HB hx3 hf3; have HK := n1; have HB := n2; clear n1 n2; obtain ⟨y4, hx4, hf4⟩ := marks_at HK.out HH.out (HI.out 4 (by decide))) | ((with_reducible refine gate_store (t := 3) (p := 44) rfl ?_); refine store_event (t := 3) (p := 44) (v := ?vo4_) (w1 := w3_.setCell ⟨g, x5_1.toNat * 9 + 4, none⟩ (.int .i64 (wrap64 ((wrap64 ((wrap64 ((wrap64 (x1_1 + 1)) + 1)) + 1)) + 1)))) ?hg ?ho ?hn ?hr ?_; (case ho => rfl); (case hg => rfl); (case hn => rfl); (case hr => first | (go_simp; done) | (go_simp; rfl)); intro w4_ hw; have n1 := am (show IK P w w4_ from by rw [hw]; exact HK.out.set HP.out (marks_cell HK.out HH.out (HI.out 4 (by decide)))); have n2 := am (show Below w0.heap.size w0 w4_ from by rw [hw]; exact below_set HB.out HG.out); clear hw HK HB hx4 hf4; have HK := n1; have HB := n2; clear n1 n2; obtain ⟨y5, hx5, hf5⟩ := marks_at HK.out HH.out (HI.out 5 (by decide))) | ((with_reducible refine gate_store (t := 3) (p := 51) rfl ?_); refine store_event (t := 3) (p := 51) (v := ?vo5_) (w1 := w4_.setCell ⟨g, x5_1.toNat * 9 + 5, none⟩ (.int .i64 (wrap64 ((wrap64 ((wrap64 ((wrap64 ((wrap64 (x1_1 + 1)) + 1)) + 1)) + 1)) + 1)))) ?hg ?ho ?hn ?hr ?_; (case ho => rfl); (case hg => rfl); (case hn => rfl); (case hr => first | (go_simp; done) | (go_simp; rfl)); intro w5_ hw; have n1 := am (show IK P w w5_ from by rw [hw]; exact HK.out.set HP.out (marks_cell HK.out HH.out (HI.out 5 (by decide)))); have n2 := am (show Below w0.heap.size w0 w5_ from by rw [hw]; exact below_set HB.out HG.out); clear hw HK HB hx5 hf5; have HK := n1; have HB := n2; clear n1 n2; obtain ⟨y6, hx6, hf6⟩ := marks_at HK.out HH.out (HI.out 6 (by decide))) | ((with_reducible refine gate_store (t := 3) (p := 58) rfl ?_); refine store_event (t := 3) (p := 58) (v := ?vo6_) (w1 := w5_.setCell ⟨g, x5_1.toNat * 9 + 6, none⟩ (.int .i64 (wrap64 ((wrap64 ((wrap64 ((wrap64 ((wrap64 ((wrap64 (x1_1 + 1)) + 1)) + 1)) + 1)) + 1)) + 1)))) ?hg ?ho ?hn ?hr ?_; (case ho => rfl); (case hg => rfl); (case hn => rfl); (case hr => first | (go_simp; done) | (go_simp; rfl)); intro w6_ hw; have n1 := am (show IK P w w6_ from by rw [hw]; exact HK.out.set HP.out (marks_cell HK.out HH.out (HI.out 6 (by decide)))); have n2 := am (show Below w0.heap.size w0 w6_ from by rw [hw]; exact below_set HB.out HG.out); clear hw HK HB hx6 hf6; have HK := n1; have HB := n2; clear n1 n2; have hx7 := HK.out.slice HH.out H7.out) | ((with_reducible refine gate_callee (f := 26) rfl ?_); refine gM 67 Try.func26 #[(.slice A7 n7 c7), .int .i64 (wrap64 ((wrap64 ((wrap64 ((wrap64 ((wrap64 ((wrap64 ((wrap64 (x1_1 + 1)) + 1)) + 1)) + 1)) + 1)) + 1)) + 1))] rfl ?_; (with_reducible refine (marks_ints P (.slice A7 n7 c7) n7 _ r7 w0 _ ?s1 ?s2 ?s3).mono ?_); (case s1 => exact HB.out); (case s2 => exact HR7.out.ik HK.out); (case s3 => exact HS7.out); rintro e w8_ ⟨rfl, nb, nk⟩; refine ⟨_, rfl, ?_⟩; have nk := am (HK.out.trans nk.out); clear HK HB hx7; have HK := nk; have HB := nb; clear nk nb; have hx8 := HK.out.slice HH.out H8.out) | ((with_reducible refine gate_callee (f := 26) rfl ?_); refine gM 74 Try.func26 #[(.slice A8 n8 c8), .int .i64 r7] rfl ?_; (with_reducible refine (marks_ints P (.slice A8 n8 c8) n8 _ r8 w0 _ ?s1 ?s2 ?s3).mono ?_); (case s1 => exact HB.out); (case s2 => exact HR8.out.ik HK.out); (case s3 => exact HS8.out); rintro e w9_ ⟨rfl, nb, nk⟩; refine ⟨_, rfl, ?_⟩; have nk := am (HK.out.trans nk.out); clear HK HB hx8; have HK := nk; have HB := nb; clear nk nb))
   go_roundg (gk - 1)
   case measure => have := HX.out; have := of_decide_eq_true c3b0; omega
   case rel => exact ⟨r8, wrap64 (x5_1 + 1), pv, pv, ⟨by
    have h1 := HX.out;have h2 := HT.out;have h3 := of_decide_eq_true c3b0;have h4 := marksTot_len l;have h5 := HN.out
    rw [show wrap64 (x5_1 + 1) = x5_1 + 1 by unfold wrap64; omega]
    omega⟩, HB, HK⟩
theorem marks_model (a0_0 : Int) (a0_1 : Int) (a0_2 : Int) (P : Nat → Prop) (v : Value) (l : List S37) (a1 r1 : Int) (w0 w : World) (hB : Below w0.heap.size w0 w) (hR : Kd.R k37 37 w w0.heap.size P v l) (hr : 0 ≤ a1 ∧ a1 + marksTot l ≤ 1000000000000000 ∧ r1 = a1 + marksTot l) :
   Calls Try.prog 41 #[.agg #[.int .i64 a0_0, .int .i64 a0_1, .int .i64 a0_2, v], .int .i64 a1] w fun e w' => e = .returned (.int .i64 r1) ∧ Aside0 (Below w0.heap.size w0 w') ∧ Aside0 (IK P w w') := by
  have hu := Try.underlying53;obtain ⟨A, c, rfl⟩ := Kd.R_slice hR;have HR := am hR;have HN := am hr;have HB := am hB;have HL := am hB.size;clear hr hR hB
  go_enter Try.func41, Try.ntmps41
  go_wp2_with (first | ((with_reducible refine gate_dst (N := 2) rfl ?_); refine boxM 2 #[.int .i64 a0_0, .int .i64 a0_1, .int .i64 a0_2, .slice A l.length c] 53 ?_; intro gb hg w5 BK hb; have HBW := am hb; clear hb hg; obtain ⟨hcz0, hcz1, hcz2, hcz3, hfz0, hfz1, hfz2, hfz3⟩ := cells4 BK.out) | ((with_reducible refine gate_callee (f := 89) rfl ?_); refine gM 8 Try.func89 #[.slice A l.length c, .int .i64 a1] rfl ?_; (with_reducible refine (marks_layers P (.slice A l.length c) l _ r1 w0 _ ?s1 ?s2 ?s3).mono ?_); (case s1 => exact (below_then HB.out HL.out HBW.out)); (case s2 => exact Kd.R_below HR.out HBW.out); (case s3 => exact HN.out); rintro e w8_ ⟨rfl, nb, nk⟩; refine ⟨_, rfl, ?_⟩))
  go_ret
  exact ⟨eqN, nb, ⟨((IK.refl P w).below HBW.out).trans nk.out⟩⟩
def laws_markModel.f (a0_0 a0_1 a0_2 : Int) (l0_3 : List S37) (a1 : Int) : Option Int := if 0 ≤ a1 ∧ a1 + marksTot l0_3 ≤ 1000000000000000 then some (a1 + marksTot l0_3) else none
theorem laws_markModel.calls (a0_0 : Int) (a0_1 : Int) (a0_2 : Int) (P0_3_ : Nat → Prop) (u9000_ : Value) (l0_3 : List S37) (a1 : Int) (r1 : Int) (w0 w : World) (hB : Below w0.heap.size w0 w) (ho0_3 : Kd.S k37 37 w w0.heap.size P0_3_ u9000_ l0_3) (h : laws_markModel.f a0_0 a0_1 a0_2 l0_3 a1 = some r1) :
   Calls Try.prog 41 #[.agg #[.int .i64 a0_0, .int .i64 a0_1, .int .i64 a0_2, u9000_], .int .i64 a1] w fun e w' => e = .returned (.int .i64 r1) ∧ Below w0.heap.size w0 w' ∧ Kept w w' (fun k_ => P0_3_ k_) := by
  have hr : 0 ≤ a1 ∧ a1 + marksTot l0_3 ≤ 1000000000000000 ∧ r1 = a1 + marksTot l0_3 := by
   unfold laws_markModel.f at h
   split at h
   ·rename_i hc;exact ⟨hc.1, hc.2, (Option.some.inj h).symm⟩
   ·cases h
  exact (marks_model a0_0 a0_1 a0_2 P0_3_ u9000_ l0_3 a1 r1 w0 w hB (Kd.S_R ho0_3) hr).mono fun e w' ⟨h1, h2, h3⟩ => ⟨h1, h2.out, h3.out.kept⟩

def laws_markIntS.l0 : Nat → List Int → Int → Int → Option (Int × List Int)
  | 0, _, _, _ => none
  | k + 1, x0, x1, x5 => if x5 < (x0.length : Int) then (if 0 ≤ x5 then (laws_markIntS.l0 k (x0.set (x5 : Int).toNat x1) (wrap64 (x1 + 1)) (wrap64 (x5 + 1))) else (none)) else (some (x1, x0))
def laws_markIntS.f (k : Nat) (l0 : List Int) (a1 : Int) : Option (Int × List Int) := laws_markIntS.l0 k l0 a1 0
theorem laws_markIntS.calls (k : Nat) (P0_ : Nat → Prop) (u9000_ : Value) (l0 : List Int) (a1 : Int) (r1 : Int) (r2 : List Int) (w0 w : World) (hB : Below w0.heap.size w0 w) (ho0 : Kd.R (Kd.int .i64) 3 w w0.heap.size P0_ u9000_ l0) (h : laws_markIntS.f k l0 a1 = some (r1, r2)) :
   Calls Try.prog 26 #[u9000_, .int .i64 a1] w fun e w' => e = .returned (.int .i64 r1) ∧ Kd.R (Kd.int .i64) 3 w' w0.heap.size (fun k_ => (P0_ k_ ∨ w.heap.size ≤ k_)) u9000_ r2 ∧ Below w0.heap.size w0 w' ∧ Kept w w' (fun k_ => P0_ k_) := by
  have HO0 := am (show Kd.R (Kd.int .i64) 3 w w0.heap.size (fun k_ => (P0_ k_ ∨ w.heap.size ≤ k_)) u9000_ l0 from Kd.R_mono ho0 (fun k_ hk => (.inl hk)))
  have HK := am (Kept.refl w (fun k_ => P0_ k_));have HW0 := am hB.size;have HB := am hB;clear hB;have H : (laws_markIntS.l0 k l0 a1 0) = some (r1, r2) := h;clear h;have H' := am H;clear H
  go_enter Try.func26, Try.ntmps26
  go_wp2
  go_loopg [1, 5] k (fun kq v1 v5 w' => ∃ (x0_1 : List Int) (x1_1 : Int) (x5_1 : Int), v1 = .int .i64 x1_1 ∧ v5 = .int .i64 x5_1 ∧ Aside0 (laws_markIntS.l0 kq x0_1 x1_1 x5_1 = some (r1, r2)) ∧ Aside0 (kq ≤ k) ∧ Aside0 (Kd.R (Kd.int .i64) 3 w' w0.heap.size (fun k_ => (P0_ k_ ∨ w.heap.size ≤ k_)) u9000_ x0_1) ∧ Aside0 (Kept w w' (fun k_ => P0_ k_)) ∧ Aside0 (Below w0.heap.size w0 w'))
  case atStart => exact ⟨(l0), (a1), (0), pv, pv, H', ⟨Nat.le_refl _⟩, ⟨R_at HO0.out⟩, ⟨by repeat (first | (with_reducible first | exact HK.out | apply Kept.alloc | apply Kept.drewN | apply Kept.drew) | exact HK.out)⟩, ⟨bel_now⟩⟩
  case round =>
   clear H';obtain ⟨x0_1, x1_1, x5_1, rfl, rfl, HA, HK1, HO_0, HK, HB⟩ := hrel
   cases gk with
   | zero => exact absurd HA.out (by simp [laws_markIntS.l0])
   | succ k1 =>
    have H := HA.out;clear HA;simp only [laws_markIntS.l0] at H;by_cases c3 : x5_1 < (x0_1.length : Int);rotate_left
    ·rw [if_neg c3] at H;have c3b0 : decide (x5_1 < (x0_1.length : Int)) = false := decide_eq_false c3;clear c3;simp only [Option.some.injEq, Prod.mk.injEq] at H;obtain ⟨rfl, rfl⟩ := H;obtain ⟨Ao9, co9, eo9⟩ := Kd.R_slice HO_0.out;subst eo9
     go_wp2
     go_ret
     exact ⟨eqN, R_at HO_0.out, by repeat (first | (with_reducible first | exact HB.out | apply below_alloc | apply pw_below_drewN | apply below_drew1) | exact HB.out), by repeat (first | (with_reducible first | exact HK.out | apply Kept.alloc | apply Kept.drewN | apply Kept.drew) | exact HK.out)⟩
    rw [if_pos c3] at H;have c3b0 : decide (x5_1 < (x0_1.length : Int)) = true := decide_eq_true c3;clear c3;obtain ⟨c4, H⟩ := gd H;have c4b0 : decide (0 ≤ x5_1) = true := decide_eq_true c4;clear c4;obtain ⟨y509, hy509⟩ : ∃ y_ : List Int, y_ = (x0_1.set (x5_1 : Int).toNat x1_1) := ⟨_, rfl⟩;replace H : (laws_markIntS.l0 k1 y509 (wrap64 (x1_1 + 1)) (wrap64 (x5_1 + 1))) = some (r1, r2) := by first | (rw [hy509]; with_reducible exact H) | (have H2_ := (Option.bind_some _ _).symm.trans H; rw [hy509]; with_reducible exact H2_) | (have H2_ := (Option.bind_some _ _).symm.trans H; with_reducible exact H2_) | with_reducible exact H | (rw [hy509]; exact H) | exact H
    have Ny509 := am hy509;clear hy509;have H' := am H;clear H;obtain ⟨Ao6, co6, eo6⟩ := Kd.R_slice HO_0.out;subst eo6;have p5 : 0 ≤ (x5_1 : Int) := of_decide_eq_true (by first | (with_reducible assumption) | assumption);have q5 : (x5_1 : Int) < ((x0_1.length : Int) : Int) := of_decide_eq_true (by first | (with_reducible assumption) | assumption);obtain ⟨go5, co5, eo5, gb5, gl5, cl5, HG5⟩ := Kd.R_form HO_0.out (by omega)
    (first | cases eo5 | (injection eo5 with ea_ en_ ec_; (first | subst ea_ | (injection ea_ with ea_; subst ea_)); subst ec_; clear en_))
    have GB5 := am gb5;have GG5 := am HG5;clear gb5 gl5 HG5;have HMgo5 := am (show (P0_ go5 ∨ w.heap.size ≤ go5) from (HO_0.out.1 _ rfl))
    obtain ⟨hx5_0, hf5_0⟩ := Kd.R_celln 0 HO_0.out (x5_1 : Int) p5 q5;replace p5 := eq_true p5;replace q5 := eq_true q5;have HP7 := Kd.R_putg HO_0.out (x5_1 : Int) x1_1
    go_wp2_with (first | ((with_reducible refine gate_store (t := 3) (p := 15) rfl ?_); refine store_event (t := 3) (p := 15) (v := ?vo_w8) (w1 := (wr.setCell ⟨go5, (x5_1 : Int).toNat, none⟩ (.int .i64 x1_1))) ?hg ?ho ?hn ?hr ?_; (case ho => rfl); (case hg => rfl); (case hn => rfl); (case hr => first | (go_simp; done) | (go_simp; rfl)); intro w8 hw; have hg : wr.grownBy w8 (some go5) := (by rw [hw]; exact HP7.2); have hp_ : Kd.R (Kd.int .i64) 3 w8 w0.heap.size (fun k_ => (P0_ k_ ∨ w.heap.size ≤ k_)) (.slice (some ⟨go5, 0, none⟩) x0_1.length co6) y509 := (by rw [hw, Ny509.out]; exact HP7.1); clear HP7; have n0_ := am (hp_); have n1_ := am ((by rw [hw]; exact below_set (HB.out) GB5.out : Below w0.heap.size w0 w8)); have n2_ := am (Kept.of_grown (S := (fun k_ => P0_ k_)) hg (by repeat (first | (with_reducible first | exact HK.out | apply Kept.alloc | apply Kept.drewN | apply Kept.drew) | exact HK.out)) (fun k_ e_ => (HO_0.out.1 k_ e_))); clear HO_0; clear HB; clear HK; have HO_0 := n0_; have HB := n1_; have HK := n2_; clear n0_ n1_ n2_; clear hg hw hp_))
    go_roundg k1
    case measure => have := HK1.out; omega
    case rel => exact ⟨(y509), (wrap64 (x1_1 + 1)), (wrap64 (x5_1 + 1)), pv, pv, H', ⟨by have := HK1.out; omega⟩, ⟨R_at HO_0.out⟩, ⟨by repeat (first | (with_reducible first | exact HK.out | apply Kept.alloc | apply Kept.drewN | apply Kept.drew) | exact HK.out)⟩, ⟨bel_now⟩⟩

def laws_markTensor.f (k : Nat) (a0_0 : Int) (a0_1 : Int) (a0_2 : Int) (l0_3 : List Int) (a1 : Int) : Option (Int × List Int) := (laws_markIntS.f k l0_3 a1).bind fun bt511 => (some (bt511.1, bt511.2))
theorem laws_markTensor.calls (k : Nat) (a0_0 : Int) (a0_1 : Int) (a0_2 : Int) (P0_3_ : Nat → Prop) (u9000_ : Value) (l0_3 : List Int) (a1 : Int) (r1 : Int) (r2 : List Int) (w0 w : World) (hB : Below w0.heap.size w0 w) (ho0_3 : Kd.R (Kd.int .i64) 3 w w0.heap.size P0_3_ u9000_ l0_3) (h : laws_markTensor.f k a0_0 a0_1 a0_2 l0_3 a1 = some (r1, r2)) :
   Calls Try.prog 16 #[.agg #[.int .i64 a0_0, .int .i64 a0_1, .int .i64 a0_2, u9000_], .int .i64 a1] w fun e w' => e = .returned (.int .i64 r1) ∧ Kd.R (Kd.int .i64) 3 w' w0.heap.size (fun k_ => (P0_3_ k_ ∨ w.heap.size ≤ k_)) u9000_ r2 ∧ Below w0.heap.size w0 w' ∧ Kept w w' (fun k_ => P0_3_ k_) := by
  have hu33 := Try.underlying33;have HO0_3 := am (show Kd.R (Kd.int .i64) 3 w w0.heap.size (fun k_ => (P0_3_ k_ ∨ w.heap.size ≤ k_)) u9000_ l0_3 from Kd.R_mono ho0_3 (fun k_ hk => (.inl hk)))
  have HK := am (Kept.refl w (fun k_ => P0_3_ k_));have HW0 := am hB.size;have HB := am hB;clear hB;have H : ((laws_markIntS.f k l0_3 a1).bind fun bt511 => (some (bt511.1, bt511.2))) = some (r1, r2) := h;clear h;replace H := Option.bind_eq_some_iff.mp H;obtain ⟨⟨t511, t512⟩, A30, H⟩ := H;(try dsimp only at H);have A3 := am A30;clear A30;simp only [Option.some.injEq, Prod.mk.injEq] at H;obtain ⟨rfl, rfl⟩ := H;obtain ⟨Ao4, co4, eo4⟩ := Kd.R_slice HO0_3.out;subst eo4
  go_enter Try.func16, Try.ntmps16
  go_wp2_with (first | ((with_reducible refine gate_dst (N := 2) rfl ?_); refine box_event ?hg (N := 2) ?hd (cs := #[.int .i64 a0_0, .int .i64 a0_1, .int .i64 a0_2, .slice Ao4 l0_3.length co4]) (t := 33) ?hr ?_; (case hd => rfl); (case hg => rfl); (case hr => first | (go_simp; done) | (go_simp; rfl)); intro gb510 hg w5 hbox hb; have n3_ := am (hbox); have n4_ := am ((by rw [hg]; exact (by first | exact HK.out.1 | exact (show Kept w _ (fun k_ => P0_3_ k_) from by repeat (first | (with_reducible first | exact HK.out | apply Kept.alloc | apply Kept.drewN | apply Kept.drew) | exact HK.out)).1) : w.heap.size ≤ gb510)); have n5_ := am ((by rw [hg]; exact (below_size bel_now) : w0.heap.size ≤ gb510)); replace HO0_3 := am (Kd.R_below (R_at HO0_3.out) hb); replace HK := am (Kept.below (S := (fun k_ => P0_3_ k_)) (by repeat (first | (with_reducible first | exact HK.out | apply Kept.alloc | apply Kept.drewN | apply Kept.drew) | exact HK.out)) hb); replace HB := bel_on w0 hb; have BK510 := n3_; have GW510 := n4_; have GE510 := n5_; clear n3_ n4_ n5_; clear hb hbox hg; have hcz6 := cells4 BK510.out) | ((with_reducible refine gate_callee (f := 26) rfl ?_); refine gM 8 Try.func26 #[.slice Ao4 l0_3.length co4, .int .i64 a1] rfl ?_; (with_reducible refine (laws_markIntS.calls k (fun k_ => some k_ = (.slice Ao4 l0_3.length co4 : Value).ownBlock) (.slice Ao4 l0_3.length co4) l0_3 a1 t511 t512 w0 _ ?side1 ?side2 A3.out).mono ?_); (case side1 => exact bel_now); (case side2 => exact Kd.R_tight rfl HO0_3.out); rintro e w7 ⟨rfl, hy0, hb, hkp⟩; refine ⟨_, rfl, ?_⟩; have n0_ := am (Kd.R_reok rfl hy0 (fun k_ e_ => HO0_3.out.1 k_ e_)); have n1_ := am (blk_kept blk_now hkp (fun hs_ => (fun e_ => (Kd.R_ne HO0_3.out BK510.out (by decide)) e_) hs_)); have n2_ := am (Kept.then_ (S := (fun k_ => P0_3_ k_)) (by repeat (first | (with_reducible first | exact HK.out | apply Kept.alloc | apply Kept.drewN | apply Kept.drew | refine Kept.setCell ?_ (.inr GW510.out) _) | exact HK.out)) hkp (fun k_ hs_ => (fun e_ => (HO0_3.out.1 k_ e_.symm)) hs_)); have n3_ := am (hb); clear HO0_3; clear BK510; clear HK; clear HB; have HO0_3 := n0_; have BK510 := n1_; have HK := n2_; have HB := n3_; clear n0_ n1_ n2_ n3_; (try clear hb); (try clear hkp); (try clear hy0)))
  go_ret
  exact ⟨eqN, R_at HO0_3.out, by repeat (first | (with_reducible first | exact HB.out | apply below_alloc | apply pw_below_drewN | apply below_drew1 | refine below_set ?_ GE510.out) | exact HB.out), by repeat (first | (with_reducible first | exact HK.out | apply Kept.alloc | apply Kept.drewN | apply Kept.drew | refine Kept.setCell ?_ (.inr GW510.out) _) | exact HK.out)⟩

def laws_heldIntS.l0 : Nat → List Int → Int → Int → Option (Int)
  | 0, _, _, _ => none
  | k + 1, x0, x1, x5 => if x5 < (x0.length : Int) then (if 0 ≤ x5 then (if (rd x0 x5) = x1 then (laws_heldIntS.l0 k x0 (wrap64 (x1 + 1)) (wrap64 (x5 + 1))) else (some (-1))) else (none)) else (some x1)
def laws_heldIntS.f (k : Nat) (l0 : List Int) (a1 : Int) : Option (Int) := laws_heldIntS.l0 k l0 a1 0
theorem laws_heldIntS.calls (k : Nat) (A0 : Option Addr) (c0 : Nat) (l0 : List Int) (a1 : Int) (r : Int) (w : World) (hr0 : Kd.C (Kd.int .i64) w A0 l0.length l0) (hc0 : l0.length ≤ c0) (h : laws_heldIntS.f k l0 a1 = some r) :
   Calls Try.prog 27 #[.slice A0 l0.length c0, .int .i64 a1] w fun e w' => e = .returned (.int .i64 r) ∧ Drawn0 w w' := by
  have HR0 := am hr0;have HC0 := am hc0;clear hr0 hc0;have H : (laws_heldIntS.l0 k l0 a1 0) = some r := h;clear h;have H' := am H;clear H
  go_enter Try.func27, Try.ntmps27
  go_wp2
  go_loopg [1, 5] k (fun kq v1 v5 w' => ∃ (x1_1 : Int) (x5_1 : Int), v1 = .int .i64 x1_1 ∧ v5 = .int .i64 x5_1 ∧ Aside0 (laws_heldIntS.l0 kq l0 x1_1 x5_1 = some r) ∧ Aside0 (kq ≤ k) ∧ Drawn0 w w')
  case atStart => exact ⟨(a1), (0), pv, pv, H', ⟨Nat.le_refl _⟩, by repeat (first | exact Drawn0.refl _ | apply Drawn0.step)⟩
  case round =>
   clear H';obtain ⟨x1_1, x5_1, rfl, rfl, HA, HK1, ⟨m1, rfl⟩⟩ := hrel
   cases gk with
   | zero => exact absurd HA.out (by simp [laws_heldIntS.l0])
   | succ k1 =>
    have H := HA.out;clear HA;simp only [laws_heldIntS.l0] at H;by_cases c3 : x5_1 < (l0.length : Int);rotate_left
    ·rw [if_neg c3] at H;have c3b0 : decide (x5_1 < (l0.length : Int)) = false := decide_eq_false c3;clear c3;obtain rfl := Option.some.inj H
     go_wp2
     go_ret
     exact ⟨by first | rfl | (simp; done) | (simp [*]; done), by repeat (first | exact Drawn0.refl _ | apply Drawn0.step)⟩
    rw [if_pos c3] at H;have c3b0 : decide (x5_1 < (l0.length : Int)) = true := decide_eq_true c3;clear c3;obtain ⟨c4, H⟩ := gd H;have c4b0 : decide (0 ≤ x5_1) = true := decide_eq_true c4;clear c4;by_cases c5 : (rd l0 x5_1) = x1_1;rotate_left
    ·rw [if_neg c5] at H;have c5b0 : ((rd l0 x5_1) == x1_1) = false := beq_eq_false_iff_ne.mpr c5;have c5b1 : ((rd l0 x5_1) != x1_1) = true := bne_iff_ne.mpr c5;obtain rfl := Option.some.inj H;have p513 : 0 ≤ (x5_1 : Int) := of_decide_eq_true (by first | (with_reducible assumption) | assumption);have q513 : x5_1 < (l0.length : Int) := of_decide_eq_true (by first | (with_reducible assumption) | assumption);obtain ⟨ad513, e513, hx513_0⟩ := Kd.at_int HR0.out x5_1 p513 q513;cases e513;replace p513 := eq_true p513;replace q513 := eq_true q513
     go_wp2
     go_ret
     exact ⟨by first | rfl | (simp; done) | (simp [*]; done), by repeat (first | exact Drawn0.refl _ | apply Drawn0.step)⟩
    rw [if_pos c5] at H;have c5b0 : ((rd l0 x5_1) == x1_1) = true := beq_iff_eq.mpr c5;have c5b1 : ((rd l0 x5_1) != x1_1) = false := bne_eq_false_iff_eq.mpr c5;clear c5;have H' := am H;clear H;have p513 : 0 ≤ (x5_1 : Int) := of_decide_eq_true (by first | (with_reducible assumption) | assumption);have q513 : x5_1 < (l0.length : Int) := of_decide_eq_true (by first | (with_reducible assumption) | assumption);obtain ⟨ad513, e513, hx513_0⟩ := Kd.at_int HR0.out x5_1 p513 q513;cases e513;replace p513 := eq_true p513;replace q513 := eq_true q513
    go_wp2
    go_roundg k1
    case measure => have := HK1.out; omega
    case rel => exact ⟨(wrap64 (x1_1 + 1)), (wrap64 (x5_1 + 1)), pv, pv, H', ⟨by have := HK1.out; omega⟩, by repeat (first | exact Drawn0.refl _ | apply Drawn0.step)⟩

def laws_heldTensor.f (k : Nat) (a0_0 : Int) (a0_1 : Int) (a0_2 : Int) (l0_3 : List Int) (a1 : Int) : Option (Int) := (laws_heldIntS.f k l0_3 a1).bind fun t515 => (if t515 < 0 then (some (-1)) else (some t515))
theorem laws_heldTensor.calls (k : Nat) (a0_0 : Int) (a0_1 : Int) (a0_2 : Int) (A0_3 : Option Addr) (c0_3 : Nat) (l0_3 : List Int) (a1 : Int) (r : Int) (w : World) (hr0_3 : Kd.C (Kd.int .i64) w A0_3 l0_3.length l0_3) (hc0_3 : l0_3.length ≤ c0_3) (h : laws_heldTensor.f k a0_0 a0_1 a0_2 l0_3 a1 = some r) :
   Calls Try.prog 18 #[.agg #[.int .i64 a0_0, .int .i64 a0_1, .int .i64 a0_2, .slice A0_3 l0_3.length c0_3], .int .i64 a1] w fun e w' => e = .returned (.int .i64 r) ∧ Below w.heap.size w w' := by
  have hu33 := Try.underlying33;have HR0_3 := am hr0_3;have HC0_3 := am hc0_3;clear hr0_3 hc0_3;have HB := am (Below.refl w.heap.size w);have H : ((laws_heldIntS.f k l0_3 a1).bind fun t515 => (if t515 < 0 then (some (-1)) else (some t515))) = some r := h;clear h;obtain ⟨t515, A3, H⟩ := bnd H;(try dsimp only at H);by_cases c4 : t515 < 0;rw [if_pos c4] at H;have c4b0 : decide (t515 < 0) = true := decide_eq_true c4;clear c4;obtain rfl := Option.some.inj H;rotate_left;rw [if_neg c4] at H;have c4b0 : decide (t515 < 0) = false := decide_eq_false c4;clear c4;obtain rfl := Option.some.inj H;rotate_left
  all_goals (go_enter Try.func18, Try.ntmps18; go_wp2_with (first | ((with_reducible refine gate_dst (N := 2) rfl ?_); refine boxM 2 #[.int .i64 a0_0, .int .i64 a0_1, .int .i64 a0_2, .slice A0_3 l0_3.length c0_3] 33 ?_; intro gb514 hg w_ BK514 hb; obtain ⟨HB, GW514, GE514⟩ := box_at w hb hg; clear hb hg; have hcz_ := cells4 BK514.out) | ((with_reducible refine gate_callee (f := 27) rfl ?_); refine gM 8 Try.func27 #[.slice A0_3 l0_3.length c0_3, .int .i64 a1] rfl ?_; (with_reducible refine (laws_heldIntS.calls k _ _ l0_3 a1 t515 _ ?side1 HC0_3.out A3.out).mono ?_); (case side1 => exact C_now HR0_3.out); rintro e w' ⟨rfl, ⟨nd, rfl⟩⟩; refine ⟨_, rfl, ?_⟩)))
  ·go_ret
   exact ⟨eqN, bel_now⟩
  ·go_ret
   exact ⟨eqN, bel_now⟩

end Go.Proofs.Ytclpojeofclbjaa.PFnExactEvalModel
