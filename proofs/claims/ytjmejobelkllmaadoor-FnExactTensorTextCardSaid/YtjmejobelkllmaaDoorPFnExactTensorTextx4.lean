-- Printed by the session's own program (wip/myprint.py) for this claim out of the translation. Not trusted: Lean checks it.
import Derived.Test.YtjmejobelkllmaaDoorPFnExactTensorTextx0
import Derived.Test.YtjmejobelkllmaaDoorPFnExactTensorTextx1
import Derived.Test.YtjmejobelkllmaaDoorPFnExactTensorTextx2
import Derived.Test.YtjmejobelkllmaaDoorPFnExactTensorTextx3
namespace Go.Proofs.YtjmejobelkllmaaDoor.PFnExactTensorText
open Go.RowKit Go.Proofs.YtjmejobelkllmaaDoorW.PrintWords Go.Proofs.YtjmejobelkllmaaDoorW.PrintLast Go.Proofs.YtjmejobelkllmaaDoorW.PrintMore
attribute [local go_sem] max2_int min2_int max_two min_two max_three min_three max_four min_four   -- for this text's walks alone
set_option linter.unusedVariables false
set_option linter.unusedSimpArgs false

/-! ### impl_spaced: function 26 (by hand) -/
/- a builder of the call's own, at this dump's numbers -/
abbrev IsB (B b : Nat) (l : List UInt8) (W : World) : Prop := Lib.IsBuilder 63 5 B b (Lib.byteCells l) W
theorem isB_below {B b : Nat} {l : List UInt8} {W W' : World} (h : IsB B b l W) (hb : Below W.heap.size W W') : IsB B b l W' := by
  have f : ∀ p, Lib.BuilderAt 63 5 B b p (Lib.byteCells l) W → Lib.BuilderAt 63 5 B b p (Lib.byteCells l) W' := fun p ⟨h1, v, h2, h3, h4⟩ =>
   ⟨h1, v, (hb.block b (blk_lt h2)).trans h2, h3.kept (grown_of_below hb none) (by cases v.ownBlock <;> simp), h4⟩
  exact h.imp (f _) (f _)
theorem bld_used (b : Nat) (w : World) (h0 : w.cell? ⟨b, 0, none⟩ = some (.pointer (some ⟨b, 0, none⟩))) :
   Calls Tryd.prog 44 #[.pointer (some ⟨b, 0, none⟩)] w fun e w' => e = .returned (.tuple #[]) ∧ w' = w := by
  obtain ⟨j, hj, _⟩ := Option.map_eq_some_iff.1 (show (Tryd.prog.info? 63).map (·.size) = some 2 by kernel_rfl)
  go_enter Tryd.func44, Tryd.ntmps44
  go_wp2
  rw [Lib.run_neq_ptr_same w _ Tryd.underlying61 hj]
  go_wp2
  go_end0
  exact ⟨rfl, rfl⟩
theorem bld_fresh (b : Nat) (w : World) (h0 : w.cell? ⟨b, 0, none⟩ = some (.pointer none)) (hsh : w.shape? b = some (63, 2)) (hfz : w.frozen? ⟨b, 0, none⟩ = false) :
   Calls Tryd.prog 44 #[.pointer (some ⟨b, 0, none⟩)] w fun e w' => e = .returned (.tuple #[]) ∧ w' = w.setCell ⟨b, 0, none⟩ (.pointer (some ⟨b, 0, none⟩)) := by
  obtain ⟨j, hj, hjs⟩ := Option.map_eq_some_iff.1 (show (Tryd.prog.info? 63).map (·.size) = some 2 by kernel_rfl)
  have hlies : liesAt Tryd.prog Tryd.prog.depth 63 (2 / Tryd.prog.cellsOf 63) 0 63 1 = true := by kernel_rfl
  go_enter Tryd.func44, Tryd.ntmps44
  go_wp2
  rw [Lib.run_to_unsafe w ⟨b, 0, none⟩ Tryd.underlying61 Tryd.underlying81 hj (by rw [hjs]; decide) hsh (Nat.zero_lt_succ 1)]
  simp only [Result.andThen]
  rw [Oper.upon_value]
  go_wp2
  rw [run_callFunc_extern Tryd.func51 (by kernel_rfl) (by kernel_rfl) (by kernel_rfl) (e := Extern.AbiNoEscape.same) (by kernel_rfl)]
  rw [Lib.run_noEscape]
  simp only [Result.andThen]
  rw [Oper.upon_value]
  go_wp2
  rw [Lib.run_from_unsafe w ⟨b, 0, none⟩ Tryd.underlying81 Tryd.underlying61 hj hsh hlies]
  simp only [Result.andThen]
  rw [Oper.upon_value]
  go_wp2
  go_end0
  exact ⟨rfl, rfl⟩
theorem bld_check (B b : Nat) (bs : List Value) (w : World) (h : Lib.IsBuilder 63 5 B b bs w) :
   Calls Tryd.prog 44 #[.pointer (some ⟨b, 0, none⟩)] w fun e w' => e = .returned (.tuple #[]) ∧ Lib.BuilderAt 63 5 B b (.pointer (some ⟨b, 0, none⟩)) bs w' ∧ Below B w w' := by
  rcases h with h | h
  rotate_left
  ·refine (bld_used b w h.cell0).mono ?_
   rintro e w' ⟨rfl, rfl⟩
   exact ⟨rfl, h, Below.refl B _⟩
  refine (bld_fresh b w h.cell0 h.shape h.frozen0).mono ?_
  rintro e w' ⟨rfl, rfl⟩
  exact ⟨rfl, h.used _, (Below.refl B w).setCell (p := ⟨b, 0, none⟩) h.1 _⟩
set_option maxHeartbeats 2000000 in
set_option maxRecDepth 100000 in
theorem bld_write (B b : Nat) (bs : List Value) (s : ByteArray) (w : World) (h : Lib.IsBuilder 63 5 B b bs w) (hlen : bs.length + s.size ≤ 140737488355328) (hBw : B ≤ w.heap.size) :
   Calls Tryd.prog 35 #[.pointer (some ⟨b, 0, none⟩), .string s] w fun e w' => e = .returned (.tuple #[.int .i64 s.size, .nilIface]) ∧ Lib.IsBuilder 63 5 B b (bs ++ Lib.strCells s) w' ∧ Below B w w' := by
  obtain ⟨i0, hi, hz0, hz1, hz2⟩ := info_parts (show (Tryd.prog.info? 5).map (fun i => (i.zero, i.size, i.bytes)) = some (some (.int .u8 0), 1, 1) by kernel_rfl)
  go_enter Tryd.func35, Tryd.ntmps35
  go_wp2_with (go_at_call 44; refine (bld_check B b bs _ h).mono ?_)
  rintro e w1 ⟨rfl, h1, hb1⟩
  obtain ⟨hB, v, hbk, hown, hne⟩ := h1
  have c0 : w1.cell? ⟨b, 0, none⟩ = some (.pointer (some ⟨b, 0, none⟩)) := by rw [Lib.cell_of_heap hbk]; rfl
  have c1 : w1.cell? ⟨b, 1, none⟩ = some v := by rw [Lib.cell_of_heap hbk]; rfl
  go_wp2_with (at_builtin; refine Lib.wpList_append_own_string _ rfl _ _ 60 9 rfl B 5 i0 Tryd.underlying60 Tryd.underlying9 hi hz0 hz1 hz2 _ _ _ rfl hown s rfl ?c3 ?c4 ?c5 ?_)
  case c3 => unfold maxLen; omega
  case c4 => omega
  case c5 => have := hb1.size; omega
  intro v' w2 hown' hgrow _
  have hlt : b < w1.heap.size := blk_lt hbk
  have hb2 : w2.heap[b]? = some (.cells #[.pointer (some ⟨b, 0, none⟩), v] 63 (0, 0)) := by
   rw [hgrow.block b hlt (fun e => hne e.symm)]
   exact hbk
  have d0 : w2.cell? ⟨b, 0, none⟩ = some (.pointer (some ⟨b, 0, none⟩)) := by rw [Lib.cell_of_heap hb2]; rfl
  have d1 : w2.cell? ⟨b, 1, none⟩ = some v := by rw [Lib.cell_of_heap hb2]; rfl
  have f1 : w2.frozen? ⟨b, 1, none⟩ = false := Lib.frozen_of_heap hb2 1
  obtain ⟨ao, n', cap, rfl⟩ : ∃ ao n' cap, v' = .slice ao n' cap := by
   rcases hown'.2 with ⟨hv, _⟩ | ⟨g, cap, cur, hv, _⟩
   ·exact ⟨_, _, _, hv⟩
   ·exact ⟨_, _, _, hv⟩
  go_wp2
  go_ret2
  refine ⟨rfl, .inr ?_, ?_⟩
  ·exact Lib.BuilderAt.put (T := 63) (e := 5) hB hb2 (bs' := bs ++ Lib.strCells s) (by simpa [Lib.strCells_length] using hown') (by decide)
  exact (hb1.grown hgrow (by have := hb1.size; omega) (fun k hk => (hown.lt k hk).1)).setCell (p := ⟨b, 1, none⟩) hB _
def spacedL : List Int → List UInt8
  | [] => []
  | x :: l => 32 :: (Lib.itoa x ++ spacedL l)
theorem spacedL_append : ∀ a b : List Int, spacedL (a ++ b) = spacedL a ++ spacedL b
  | [], _ => rfl
  | x :: a, b => by simp only [List.cons_append, spacedL, spacedL_append a b, List.append_assoc]
theorem spacedL_take {l : List Int} {i : Nat} (h : i < l.length) : spacedL (l.take (i + 1)) = spacedL (l.take i) ++ (32 :: Lib.itoa (rd l (i : Int))) := by
  have e : rd l (i : Int) = l[i] := by simp [rd, h]
  rw [List.take_add_one, List.getElem?_eq_getElem h, spacedL_append, e]
  simp [spacedL]
theorem digits_le : ∀ (n x : Nat), x < 10 ^ (n + 1) → Lib.nDigits x ≤ n + 1
  | 0, x, h => by rw [Lib.nDigits_small (by omega)]; omega
  | n + 1, x, h => by
   by_cases h1 : x < 10
   ·rw [Lib.nDigits_small h1]; omega
   ·rw [Lib.nDigits_big h1]
    have := digits_le n (x / 10) (by rw [Nat.pow_succ] at h; omega)
    omega
theorem itoa_len {x : Int} (h0 : -9223372036854775808 ≤ x) (h1 : x ≤ 9223372036854775807) : (Lib.itoa x).length ≤ 20 := by
  unfold Lib.itoa
  split
  ·have := digits_le 18 x.natAbs (by omega)
   rw [List.length_cons, Lib.decDigits_length]
   omega
  have := digits_le 18 x.toNat (by omega)
  rw [Lib.decDigits_length]
  omega
theorem spacedL_len : ∀ l : List Int, (∀ x ∈ l, -9223372036854775808 ≤ x ∧ x ≤ 9223372036854775807) → (spacedL l).length ≤ 21 * l.length
  | [], _ => by simp [spacedL]
  | x :: l, h => by
   have h1 := h x (by simp)
   have h2 := itoa_len h1.1 h1.2
   have h3 := spacedL_len l (fun y hy => h y (List.mem_cons_of_mem _ hy))
   simp only [spacedL, List.length_cons, List.length_append]
   omega
def impl_spaced.f (l0 : List Int) : Option (ByteArray) := if l0.length ≤ 6000000000000 ∧ (∀ x ∈ l0, -9223372036854775808 ≤ x ∧ x ≤ 9223372036854775807) then (some ⟨(spacedL l0).toArray⟩) else (none)
set_option maxHeartbeats 8000000 in
set_option maxRecDepth 100000 in
theorem impl_spaced.calls (A0 : Option Addr) (c0 : Nat) (l0 : List Int) (r : ByteArray) (w : World) (hr0 : Kd.C (Kd.int .i64) w A0 l0.length l0) (hc0 : l0.length ≤ c0) (htab : TabT w) (h : impl_spaced.f l0 = some r) :
   Calls Tryd.prog 26 #[.slice A0 l0.length c0] w fun e w' => e = .returned (.string r) ∧ Below w.heap.size w w' := by
  unfold impl_spaced.f at h
  split at h
  case isFalse => cases h
  rename_i hd
  obtain rfl := Option.some.inj h
  have HD := Aside0.mk hd
  have HTB := Aside0.mk htab
  have HR0 := Aside0.mk hr0
  have HB := Aside0.mk (Below.refl w.heap.size w)
  clear h hd htab hr0
  go_enter Tryd.func26, Tryd.ntmps26
  go_wp2_with (first | ((with_reducible refine gate_dst (N := 7) rfl ?_); refine box_event ?hg (N := 7) ?hd (cs := #[.pointer none, .slice none 0 0]) (t := 63) ?hr ?_; (case hd => rfl); (case hg => rfl); (case hr => first | (go_simp; done) | (go_simp; rfl)); intro gb hg w5 BK hb; replace HB := box_at w hb hg; obtain ⟨HB, GW, GE⟩ := HB; have HBD := Aside0.mk (show IsB w.heap.size gb (spacedL (l0.take 0)) w5 from .inl ⟨GW.out, _, BK, World.ownsRow_nil _ _ _ _, by simp [Value.ownBlock]⟩); clear hb hg))
  go_loopg [10] l0.length (fun kq v10 w' => ∃ i : Nat, v10 = .int .i64 (i : Int) ∧ Aside0 (i ≤ l0.length ∧ l0.length - i ≤ kq) ∧ Aside0 (IsB w.heap.size gb (spacedL (l0.take i)) w') ∧ Aside0 (Below w.heap.size w w'))
  case atStart => exact ⟨0, rfl, ⟨by omega⟩, HBD, HB⟩
  case round =>
   clear HBD HB BK
   obtain ⟨i, rfl, hi, HBD, HB⟩ := hrel
   by_cases c : i < l0.length
   rotate_left
   ·have hi' := hi.out
    obtain rfl : i = l0.length := by omega
    have cb : decide ((l0.length : Int) < (l0.length : Int)) = false := decide_eq_false (by omega)
    rw [List.take_length] at HBD
    go_wp2_with (first | ((with_reducible refine gate_callee (f := 36) rfl ?_); refine goesM (some 21) rfl rfl Tryd.func36 (by kernel_rfl) rfl #[.pointer (some ⟨gb, 0, none⟩)] rfl ?_; refine (Tryd.Builder_String_any w.heap.size gb (spacedL l0) _ HBD.out HB.out.size).mono ?_; rintro e w8 ⟨rfl, hb⟩; refine ⟨_, rfl, ?_⟩; replace HB := Aside0.mk (HB.out.trans hb); clear hb))
    go_ret
    exact ⟨by first | rfl | (simp; done), HB.out⟩
   have cb : decide ((i : Int) < (l0.length : Int)) = true := decide_eq_true (by omega)
   have p1 : 0 ≤ (i : Int) := by omega
   have q1 : (i : Int) < (l0.length : Int) := by omega
   obtain ⟨ad, eA, hx⟩ := Kd.at_int HR0.out (i : Int) p1 q1
   cases eA
   replace hx := pw_cell_below HB.out hx
   have hx2 := hx
   rw [Int.toNat_natCast] at hx2
   have hd1 := HD.out.2 (rd l0 (i : Int)) (by simp [rd, c])
   have HTk := Aside0.mk (spacedL_take c)
   have hl1 := spacedL_len (l0.take i) (fun y hy => HD.out.2 y (List.mem_of_mem_take hy))
   have hl2 := itoa_len hd1.1 hd1.2
   rw [List.length_take] at hl1
   generalize rd l0 (i : Int) = x at hx hx2 hd1 HTk hl2
   obtain ⟨s, hs⟩ : ∃ s : ByteArray, s = ⟨(Lib.itoa x).toArray⟩ := ⟨_, rfl⟩
   have hsz : s.size = (Lib.itoa x).length := by rw [hs]; rfl
   have HF := Aside0.mk (show strconv_Itoa.f x = some s by unfold strconv_Itoa.f; rw [if_pos hd1.1, if_pos hd1.2, hs])
   have HLn := Aside0.mk (show (spacedL (l0.take i)).length + (1 + s.size) ≤ 140737488355328 by have := HD.out.1; omega)
   have HSC := Aside0.mk (show Lib.strCells ((⟨#[32]⟩ : ByteArray) ++ s) = Lib.byteCells (32 :: Lib.itoa x) by rw [Lib.strCells_eq, hs]; simp [ByteArray.data_append])
   have hs1 : (9223372036854775807 < 1 + s.size) = False := eq_false (by omega)
   have hw8 := Aside0.mk (show IntKind.i64.wrap ((i : Int) + 1) = ((i + 1 : Nat) : Int) by (have := HD.out.1; unfold IntKind.wrap; simp [IntKind.bits, IntKind.signed]; omega))
   replace p1 := eq_true p1
   replace q1 := eq_true q1
   clear hs hsz hl1 hl2 hd1
   go_wp2_with (first | ((with_reducible refine gate_callee (f := 20) rfl ?_); refine goesM (some 16) rfl rfl Tryd.func20 (by kernel_rfl) rfl #[.int .i64 x] rfl ?_; (with_reducible refine (strconv_Itoa.calls (htab := tab_now HTB) x s _ HF.out).mono ?_); rintro e w6 ⟨rfl, hb⟩; refine ⟨_, rfl, ?_⟩; replace HBD := Aside0.mk (isB_below HBD.out hb); replace HB := bel_on w hb; clear hb) | ((with_reducible refine gate_callee (f := 35) rfl ?_); refine goesM (some 18) rfl rfl Tryd.func35 (by kernel_rfl) rfl #[.pointer (some ⟨gb, 0, none⟩), .string ((⟨#[32]⟩ : ByteArray) ++ s)] rfl ?_; refine (bld_write w.heap.size gb (Lib.byteCells (spacedL (l0.take i))) ((⟨#[32]⟩ : ByteArray) ++ s) _ HBD.out ?sl ?sb).mono ?_; (case sl => have h_ := HLn.out; rw [ByteArray.size_append]; simp only [Lib.byteCells, List.length_map]; exact h_); (case sb => exact HB.out.size); rintro e w7 ⟨rfl, h7, hb⟩; refine ⟨_, rfl, ?_⟩; rw [HSC.out, Lib.byteCells, Lib.byteCells, ← List.map_append, ← HTk.out] at h7; replace HBD := Aside0.mk h7; replace HB := Aside0.mk (HB.out.trans hb); clear hb h7))
   go_roundg (gk - 1)
   case measure => have := hi.out; omega
   case rel => exact ⟨i + 1, by first | (rw [hw8.out]; done) | exact congrArg (Value.int .i64) (by have := HD.out.1; unfold wrap64; omega), ⟨by have := hi.out; omega⟩, HBD, HB⟩

/-! ### impl_TensorText: function 16 -/
def impl_TensorText.f (k : Nat) (a0_0 : Int) (a0_1 : Int) (a0_2 : Int) (l0_3 : List Int) : Option (ByteArray) := (impl_TensorOk.f k a0_0 a0_1 a0_2 l0_3).bind fun t165 => (if t165 = true then ((impl_Shape_sides.f a0_0 a0_1 a0_2).bind fun t166 => (if t166.size + 1 ≤ 9223372036854775807 then ((impl_spaced.f l0_3).bind fun t167 => (if (t166 ++ (⟨#[58]⟩ : ByteArray)).size + t167.size ≤ 9223372036854775807 then (some ((t166 ++ (⟨#[58]⟩ : ByteArray)) ++ t167)) else (none))) else (none))) else (some (⟨#[]⟩ : ByteArray)))
def impl_TensorText.T3 : Bool × List (List Nat × List Nat) := (true, [([], []), ([0], [0]), ([1], [1]), ([2], [2]), ([], []), ([4], [4]), ([5, 2], [5]), ([3, 6], [3, 6]), ([7, 6, 0, 1, 2, 3, 4, 5, 6, 7], [7])])
def impl_TensorText.B3 : List Nat := [0, 1, 3, 7, 0, 16, 55, 127, 255]
theorem impl_TensorText.tab3 : rtab .any (opsOf Tryd.f16 3) = impl_TensorText.T3 := by kernel_rfl
theorem impl_TensorText.bits3 : waitsOk impl_TensorText.T3.2 impl_TensorText.B3 = true := by kernel_rfl
set_option maxHeartbeats 8000000 in
set_option maxRecDepth 100000 in
theorem impl_TensorText.calls (k : Nat) (a0_0 : Int) (a0_1 : Int) (a0_2 : Int) (A0_3 : Option Addr) (c0_3 : Nat) (l0_3 : List Int) (r : ByteArray) (w : World) (hr0_3 : Kd.C (Kd.int .i64) w A0_3 l0_3.length l0_3) (hc0_3 : l0_3.length ≤ c0_3) (htab : TabT w) (h : impl_TensorText.f k a0_0 a0_1 a0_2 l0_3 = some r) :
   Calls Tryd.prog 16 #[.agg #[.int .i64 a0_0, .int .i64 a0_1, .int .i64 a0_2, .slice A0_3 l0_3.length c0_3]] w fun e w' => e = .returned (.string r) ∧ Below w.heap.size w w' := by
  have HTB := Aside0.mk htab
  clear htab
  have hu42 := Tryd.underlying42
  have hu40 := Tryd.underlying40
  have HR0_3 := Aside0.mk hr0_3
  have HC0_3 := Aside0.mk hc0_3
  clear hr0_3 hc0_3
  have HB := Aside0.mk (Below.refl w.heap.size w)
  have H : ((impl_TensorOk.f k a0_0 a0_1 a0_2 l0_3).bind fun t165 => (if t165 = true then ((impl_Shape_sides.f a0_0 a0_1 a0_2).bind fun t166 => (if t166.size + 1 ≤ 9223372036854775807 then ((impl_spaced.f l0_3).bind fun t167 => (if (t166 ++ (⟨#[58]⟩ : ByteArray)).size + t167.size ≤ 9223372036854775807 then (some ((t166 ++ (⟨#[58]⟩ : ByteArray)) ++ t167)) else (none))) else (none))) else (some (⟨#[]⟩ : ByteArray)))) = some r := h
  clear h
  replace H := Option.bind_eq_some_iff.mp H
  obtain ⟨t165, A20, H⟩ := H
  (try dsimp only at H)
  have A2 := Aside0.mk A20
  clear A20
  by_cases c3 : t165 = true
  rotate_left
  ·replace c3 := Bool.eq_false_iff.mpr c3
   subst c3
   rw [if_neg (show ¬ (false = true) by decide)] at H
   obtain rfl := Option.some.inj H
   go_enter Tryd.func16, Tryd.ntmps16
   go_wp2_with (first | ((with_reducible refine gate_dst (N := 1) rfl ?_); refine boxM 1 #[.int .i64 a0_0, .int .i64 a0_1, .int .i64 a0_2, .slice A0_3 l0_3.length c0_3] 42 ?_; intro gb164 hg w14 BK164 hb; replace HB := box_at w hb hg; obtain ⟨HB, GW164, GE164⟩ := HB; clear hb hg; have hcz15 := cells4 BK164.out) | ((with_reducible refine gate_callee (f := 31) rfl ?_); refine goesM (some 4) rfl rfl Tryd.func31 (by kernel_rfl) rfl #[.agg #[.int .i64 a0_0, .int .i64 a0_1, .int .i64 a0_2, .slice A0_3 l0_3.length c0_3]] rfl ?_; (with_reducible refine (impl_TensorOk.calls k a0_0 a0_1 a0_2 _ _ l0_3 false _ ?side1 ?side2 A2.out).mono ?_); (case side1 => exact C_now HR0_3.out); (case side2 => exact HC0_3.out); rintro e w16 ⟨rfl, hb⟩; refine ⟨_, rfl, ?_⟩; replace HB := bel_on w hb; replace BK164 := blk_on gb164 hb; (try clear hb)))
   go_ret
   exact ⟨eqN, bel_now⟩
  subst c3
  rw [if_pos rfl] at H
  replace H := Option.bind_eq_some_iff.mp H
  obtain ⟨t166, A40, H⟩ := H
  (try dsimp only at H)
  have A4 := Aside0.mk A40
  clear A40
  by_cases c5 : t166.size + 1 ≤ 9223372036854775807
  rotate_left
  ·rw [if_neg c5] at H
   exact absurd H (by simp)
  rw [if_pos c5] at H
  have c5b0 := eq_true c5
  have c5b1 : decide (t166.size + 1 ≤ 9223372036854775807) = true := decide_eq_true c5
  try have c5b2 : (9223372036854775807 < t166.size + 1) = False := eq_false (Nat.not_lt.2 c5)
  replace H := Option.bind_eq_some_iff.mp H
  obtain ⟨t167, A60, H⟩ := H
  (try dsimp only at H)
  have A6 := Aside0.mk A60
  clear A60
  by_cases c7 : (t166 ++ (⟨#[58]⟩ : ByteArray)).size + t167.size ≤ 9223372036854775807
  rotate_left
  ·rw [if_neg c7] at H
   exact absurd H (by simp)
  rw [if_pos c7] at H
  have c7b0 := eq_true c7
  have c7b1 : decide ((t166 ++ (⟨#[58]⟩ : ByteArray)).size + t167.size ≤ 9223372036854775807) = true := decide_eq_true c7
  try have c7b2 : (9223372036854775807 < (t166 ++ (⟨#[58]⟩ : ByteArray)).size + t167.size) = False := eq_false (Nat.not_lt.2 c7)
  try have c7b3 : (9223372036854775807 < t166.size + 1 + t167.size) = False := eq_false (by have h_ := c7; simp only [ByteArray.size_append, show (⟨#[58]⟩ : ByteArray).size = 1 from rfl] at h_; omega)
  obtain rfl := Option.some.inj H
  go_enter Tryd.func16, Tryd.ntmps16
  try go_wp2_with (first | ((with_reducible refine gate_dst (N := 1) rfl ?_); refine boxM 1 #[.int .i64 a0_0, .int .i64 a0_1, .int .i64 a0_2, .slice A0_3 l0_3.length c0_3] 42 ?_; intro gb164 hg w8 BK164 hb; replace HB := box_at w hb hg; obtain ⟨HB, GW164, GE164⟩ := HB; clear hb hg; have hcz9 := cells4 BK164.out) | ((with_reducible refine gate_callee (f := 31) rfl ?_); refine goesM (some 4) rfl rfl Tryd.func31 (by kernel_rfl) rfl #[.agg #[.int .i64 a0_0, .int .i64 a0_1, .int .i64 a0_2, .slice A0_3 l0_3.length c0_3]] rfl ?_; (with_reducible refine (impl_TensorOk.calls k a0_0 a0_1 a0_2 _ _ l0_3 true _ ?side1 ?side2 A2.out).mono ?_); (case side1 => exact C_now HR0_3.out); (case side2 => exact HC0_3.out); rintro e w10 ⟨rfl, hb⟩; refine ⟨_, rfl, ?_⟩; replace HB := bel_on w hb; replace BK164 := blk_on gb164 hb; (try clear hb)))
  replace BK164 := Aside0.mk (blk_drew BK164.out)
  replace HB := Aside0.mk (below_drew1 HB.out)
  refine start_ (n := 9) (S := fun w' => w'.cell? ⟨gb164, 0, none⟩ = some (.int .i64 a0_0) ∧ w'.cell? ⟨gb164, 1, none⟩ = some (.int .i64 a0_1) ∧ w'.cell? ⟨gb164, 2, none⟩ = some (.int .i64 a0_2) ∧ w'.cell? ⟨gb164, 3, none⟩ = some (.slice A0_3 l0_3.length c0_3)) (ds := []) #[O, O, O, O, O, O, O, O, O] (by kernel_rfl) rfl rfl ⟨bc BK164 0, bc BK164 1, bc BK164 2, bc BK164 3⟩ (fun hHeld => ?_); refine with_tabW impl_TensorText.tab3 impl_TensorText.bits3 (fun HT_ HW_ => ?_)
  generalize w10.drew = w11 at BK164 HB hHeld ⊢
  refine stepP 0 (some 6) (tk 9 1) (any_of HT_.out (by kernel_rfl)) ?_
  refine stepP 4 (some 10) (tk 9 17) (any_of HT_.out (by kernel_rfl)) ?_
  refine stepT 1 (some 7) (tk 9 19) (take_ofW HT_.out HW_.out (by kernel_rfl)) hHeld ?_
  refine stepT 5 (some 11) (tk 9 51) (take_ofW HT_.out HW_.out (by kernel_rfl)) hHeld ?_
  refine one_ (i := 2) (N := some 8) #[I, I, I, O, I, I, O, O, O] rfl rfl (one_of HT_.out (by kernel_rfl)) (by decide) (fun K hK => ?_)
  refine goes_ Tryd.func32 (by kernel_rfl) rfl #[.agg #[.int .i64 a0_0, .int .i64 a0_1, .int .i64 a0_2]] (by rfl) rfl rfl (by (try simp only [List.map_toArray, List.map_cons, List.map_nil]); first | done | rfl | (simp only [List.length_drop, List.length_take]; rfl)) ?_
  with_reducible refine (impl_Shape_sides.calls (htab := tab_now HTB) a0_0 a0_1 a0_2 t166 _ A4.out).mono ?_
  rintro e w12 ⟨rfl, hb⟩
  refine ⟨_, rfl, ?_⟩
  replace BK164 := blk_on gb164 hb
  replace HB := bel_on w hb
  (try clear hb)
  refine hK.out _ _ ⟨bc BK164 0, bc BK164 1, bc BK164 2, bc BK164 3⟩ (fun hHeld => ?_)
  clear hK K
  refine normP 8 ?_
  refine stepP 3 (some 9) (tk 9 63) (any_of HT_.out (by kernel_rfl)) ?_
  refine one_ (i := 6) (N := some 12) #[I, I, I, I, I, I, I, O, O] rfl rfl (one_of HT_.out (by kernel_rfl)) (by decide) (fun K hK => ?_)
  refine goes_ Tryd.func26 (by kernel_rfl) rfl #[.slice A0_3 l0_3.length c0_3] (by rfl) rfl rfl (by (try simp only [List.map_toArray, List.map_cons, List.map_nil]); first | done | rfl | (simp only [List.length_drop, List.length_take]; rfl)) ?_
  with_reducible refine (impl_spaced.calls (htab := tab_now HTB) _ _ l0_3 t167 _ ?side1 ?side2 A6.out).mono ?_
  (case side1 => exact C_now HR0_3.out)
  (case side2 => exact HC0_3.out)
  rintro e w13 ⟨rfl, hb⟩
  refine ⟨_, rfl, ?_⟩
  replace BK164 := blk_on gb164 hb
  replace HB := bel_on w hb
  (try clear hb)
  refine hK.out _ _ ⟨bc BK164 0, bc BK164 1, bc BK164 2, bc BK164 3⟩ (fun hHeld => ?_)
  clear hK K
  refine normP 12 ?_
  refine stepP 7 (some 13) (tk 9 255) (any_of HT_.out (by kernel_rfl)) ?_
  refine stepP 8 (some 2) (tk 9 511) (any_of HT_.out (by kernel_rfl)) ?_
  refine done_ (done_of HT_.out (by kernel_rfl)) ?_
  try go_wp2
  go_ret
  exact ⟨eqN, bel_now⟩

/-! ### laws_eqShape: function 33 -/
def laws_eqShape.f (a0_0 : Int) (a0_1 : Int) (a0_2 : Int) (a1_0 : Int) (a1_1 : Int) (a1_2 : Int) : Option (Bool) := if a0_0 = a1_0 then (if a0_1 = a1_1 then (if a0_2 = a1_2 then (some true) else (some false)) else (some false)) else (some false)
set_option maxHeartbeats 8000000 in
set_option maxRecDepth 100000 in
theorem laws_eqShape.calls (a0_0 : Int) (a0_1 : Int) (a0_2 : Int) (a1_0 : Int) (a1_1 : Int) (a1_2 : Int) (r : Bool) (w : World) (h : laws_eqShape.f a0_0 a0_1 a0_2 a1_0 a1_1 a1_2 = some r) :
   Calls Tryd.prog 33 #[.agg #[.int .i64 a0_0, .int .i64 a0_1, .int .i64 a0_2], .agg #[.int .i64 a1_0, .int .i64 a1_1, .int .i64 a1_2]] w fun e w' => e = .returned (.bool r) ∧ Below w.heap.size w w' := by
  have hu40 := Tryd.underlying40
  have HB := Aside0.mk (Below.refl w.heap.size w)
  have H : (if a0_0 = a1_0 then (if a0_1 = a1_1 then (if a0_2 = a1_2 then (some true) else (some false)) else (some false)) else (some false)) = some r := h
  clear h
  by_cases c3 : a0_0 = a1_0
  rotate_left
  ·rw [if_neg c3] at H
   have c3b0 : (a0_0 == a1_0) = false := beq_eq_false_iff_ne.mpr c3
   have c3b1 : (a0_0 != a1_0) = true := bne_iff_ne.mpr c3
   obtain rfl := Option.some.inj H
   go_enter Tryd.func33, Tryd.ntmps33
   go_wp2_with (first | ((with_reducible refine gate_dst (N := 2) rfl ?_); refine boxM 2 #[.int .i64 a0_0, .int .i64 a0_1, .int .i64 a0_2] 40 ?_; intro gb168 hg w21 BK168 hb; replace HB := box_at w hb hg; obtain ⟨HB, GW168, GE168⟩ := HB; clear hb hg) | ((with_reducible refine gate_dst (N := 3) rfl ?_); refine boxM 3 #[.int .i64 a1_0, .int .i64 a1_1, .int .i64 a1_2] 40 ?_; intro gb169 hg w22 BK169 hb; replace HB := box_at w hb hg; obtain ⟨HB, GW169, GE169⟩ := HB; replace BK168 := box_on gb168 hb hg; obtain ⟨BK168, NB168_169, NB169_168⟩ := BK168; clear hb hg; have hn23 := ne2 NB168_169; have hcz24 := cells3 BK168.out; have hcz25 := cells3 BK169.out))
   go_ret
   exact ⟨eqN, bel_now⟩
  rw [if_pos c3] at H
  have c3b0 : (a0_0 == a1_0) = true := beq_iff_eq.mpr c3
  have c3b1 : (a0_0 != a1_0) = false := bne_eq_false_iff_eq.mpr c3
  clear c3
  by_cases c4 : a0_1 = a1_1
  rotate_left
  ·rw [if_neg c4] at H
   have c4b0 : (a0_1 == a1_1) = false := beq_eq_false_iff_ne.mpr c4
   have c4b1 : (a0_1 != a1_1) = true := bne_iff_ne.mpr c4
   obtain rfl := Option.some.inj H
   go_enter Tryd.func33, Tryd.ntmps33
   go_wp2_with (first | ((with_reducible refine gate_dst (N := 2) rfl ?_); refine boxM 2 #[.int .i64 a0_0, .int .i64 a0_1, .int .i64 a0_2] 40 ?_; intro gb168 hg w16 BK168 hb; replace HB := box_at w hb hg; obtain ⟨HB, GW168, GE168⟩ := HB; clear hb hg) | ((with_reducible refine gate_dst (N := 3) rfl ?_); refine boxM 3 #[.int .i64 a1_0, .int .i64 a1_1, .int .i64 a1_2] 40 ?_; intro gb169 hg w17 BK169 hb; replace HB := box_at w hb hg; obtain ⟨HB, GW169, GE169⟩ := HB; replace BK168 := box_on gb168 hb hg; obtain ⟨BK168, NB168_169, NB169_168⟩ := BK168; clear hb hg; have hn18 := ne2 NB168_169; have hcz19 := cells3 BK168.out; have hcz20 := cells3 BK169.out))
   go_ret
   exact ⟨eqN, bel_now⟩
  rw [if_pos c4] at H
  have c4b0 : (a0_1 == a1_1) = true := beq_iff_eq.mpr c4
  have c4b1 : (a0_1 != a1_1) = false := bne_eq_false_iff_eq.mpr c4
  clear c4
  by_cases c5 : a0_2 = a1_2
  ·rw [if_pos c5] at H
   have c5b0 : (a0_2 == a1_2) = true := beq_iff_eq.mpr c5
   have c5b1 : (a0_2 != a1_2) = false := bne_eq_false_iff_eq.mpr c5
   clear c5
   obtain rfl := Option.some.inj H
   go_enter Tryd.func33, Tryd.ntmps33
   go_wp2_with (first | ((with_reducible refine gate_dst (N := 2) rfl ?_); refine boxM 2 #[.int .i64 a0_0, .int .i64 a0_1, .int .i64 a0_2] 40 ?_; intro gb168 hg w6 BK168 hb; replace HB := box_at w hb hg; obtain ⟨HB, GW168, GE168⟩ := HB; clear hb hg) | ((with_reducible refine gate_dst (N := 3) rfl ?_); refine boxM 3 #[.int .i64 a1_0, .int .i64 a1_1, .int .i64 a1_2] 40 ?_; intro gb169 hg w7 BK169 hb; replace HB := box_at w hb hg; obtain ⟨HB, GW169, GE169⟩ := HB; replace BK168 := box_on gb168 hb hg; obtain ⟨BK168, NB168_169, NB169_168⟩ := BK168; clear hb hg; have hn8 := ne2 NB168_169; have hcz9 := cells3 BK168.out; have hcz10 := cells3 BK169.out))
   go_ret
   exact ⟨eqN, bel_now⟩
  rw [if_neg c5] at H
  have c5b0 : (a0_2 == a1_2) = false := beq_eq_false_iff_ne.mpr c5
  have c5b1 : (a0_2 != a1_2) = true := bne_iff_ne.mpr c5
  obtain rfl := Option.some.inj H
  go_enter Tryd.func33, Tryd.ntmps33
  go_wp2_with (first | ((with_reducible refine gate_dst (N := 2) rfl ?_); refine boxM 2 #[.int .i64 a0_0, .int .i64 a0_1, .int .i64 a0_2] 40 ?_; intro gb168 hg w11 BK168 hb; replace HB := box_at w hb hg; obtain ⟨HB, GW168, GE168⟩ := HB; clear hb hg) | ((with_reducible refine gate_dst (N := 3) rfl ?_); refine boxM 3 #[.int .i64 a1_0, .int .i64 a1_1, .int .i64 a1_2] 40 ?_; intro gb169 hg w12 BK169 hb; replace HB := box_at w hb hg; obtain ⟨HB, GW169, GE169⟩ := HB; replace BK168 := box_on gb168 hb hg; obtain ⟨BK168, NB168_169, NB169_168⟩ := BK168; clear hb hg; have hn13 := ne2 NB168_169; have hcz14 := cells3 BK168.out; have hcz15 := cells3 BK169.out))
  go_ret
  exact ⟨eqN, bel_now⟩

/-! ### laws_eqIntS: function 28 -/
def laws_eqIntS.l0 : Nat → List Int → List Int → Int → Option (Bool)
  | 0, _, _, _ => none
  | k + 1, x0, x1, x5 => if x5 < (x0.length : Int) then (if 0 ≤ x5 then (if x5 < (x1.length : Int) then (if (rd x0 x5) = (rd x1 x5) then (laws_eqIntS.l0 k x0 x1 (wrap64 (x5 + 1))) else (some false)) else (none)) else (none)) else (some true)
def laws_eqIntS.f (k : Nat) (l0 : List Int) (l1 : List Int) : Option (Bool) := if (l0.length : Int) = (l1.length : Int) then (laws_eqIntS.l0 k l0 l1 0) else (some false)
set_option maxHeartbeats 8000000 in
set_option maxRecDepth 100000 in
theorem laws_eqIntS.calls (k : Nat) (A0 : Option Addr) (c0 : Nat) (l0 : List Int) (A1 : Option Addr) (c1 : Nat) (l1 : List Int) (r : Bool) (w : World) (hr0 : Kd.C (Kd.int .i64) w A0 l0.length l0) (hc0 : l0.length ≤ c0) (hr1 : Kd.C (Kd.int .i64) w A1 l1.length l1) (hc1 : l1.length ≤ c1) (h : laws_eqIntS.f k l0 l1 = some r) :
   Calls Tryd.prog 28 #[.slice A0 l0.length c0, .slice A1 l1.length c1] w fun e w' => e = .returned (.bool r) ∧ Drawn0 w w' := by
  have HR0 := Aside0.mk hr0
  have HC0 := Aside0.mk hc0
  clear hr0 hc0
  have HR1 := Aside0.mk hr1
  have HC1 := Aside0.mk hc1
  clear hr1 hc1
  have H : (if (l0.length : Int) = (l1.length : Int) then (laws_eqIntS.l0 k l0 l1 0) else (some false)) = some r := h
  clear h
  by_cases c3 : (l0.length : Int) = (l1.length : Int)
  rotate_left
  ·rw [if_neg c3] at H
   have c3b0 : ((l0.length : Int) == (l1.length : Int)) = false := beq_eq_false_iff_ne.mpr c3
   have c3b1 : ((l0.length : Int) != (l1.length : Int)) = true := bne_iff_ne.mpr c3
   have c3b2 : (l0.length == l1.length) = false := by first | simpa using c3 | (simp at c3 ⊢; omega)
   obtain rfl := Option.some.inj H
   go_enter Tryd.func28, Tryd.ntmps28
   go_wp2
   repeat (go_quiet (fail); try go_wp2)
   go_ret
   exact ⟨by first | rfl | (simp; done) | (simp [*]; done), by repeat (first | exact Drawn0.refl _ | apply Drawn0.step)⟩
  rw [if_pos c3] at H
  have c3b0 : ((l0.length : Int) == (l1.length : Int)) = true := beq_iff_eq.mpr c3
  have c3b1 : ((l0.length : Int) != (l1.length : Int)) = false := bne_eq_false_iff_eq.mpr c3
  have c3b2 : (l0.length == l1.length) = true := by first | simpa using c3 | (simp at c3 ⊢; omega)
  clear c3
  have H' := Aside0.mk H
  clear H
  go_enter Tryd.func28, Tryd.ntmps28
  go_wp2
  repeat (go_quiet (fail); try go_wp2)
  go_loopg [5] k (fun kq v5 w' => ∃ (x5_1 : Int), v5 = .int .i64 x5_1 ∧ Aside0 (laws_eqIntS.l0 kq l0 l1 x5_1 = some r) ∧ Aside0 (kq ≤ k) ∧ Drawn0 w w')
  case atStart => exact ⟨(0), (by first | rfl | (simp; done) | (simp [*]; done)), H', ⟨Nat.le_refl _⟩, by repeat (first | exact Drawn0.refl _ | apply Drawn0.step)⟩
  case round =>
   clear H'
   try clear c1
   try clear c2
   try clear p2
   try clear c3
   try clear c3b0
   try clear c3b1
   try clear c3b2
   obtain ⟨x5_1, rfl, HA, HK1, ⟨m1, rfl⟩⟩ := hrel
   cases gk with
   | zero => exact absurd HA.out (by simp [laws_eqIntS.l0])
   | succ k1 =>
    have H := HA.out
    clear HA
    simp only [laws_eqIntS.l0] at H
    by_cases c4 : x5_1 < (l0.length : Int)
    rotate_left
    ·rw [if_neg c4] at H
     have c4b0 : decide (x5_1 < (l0.length : Int)) = false := decide_eq_false c4
     clear c4
     obtain rfl := Option.some.inj H
     go_wp2
     repeat (go_quiet (fail); try go_wp2)
     go_ret
     exact ⟨by first | rfl | (simp; done) | (simp [*]; done), by repeat (first | exact Drawn0.refl _ | apply Drawn0.step)⟩
    rw [if_pos c4] at H
    have c4b0 : decide (x5_1 < (l0.length : Int)) = true := decide_eq_true c4
    clear c4
    by_cases c5 : 0 ≤ x5_1
    rotate_left
    ·rw [if_neg c5] at H
     exact absurd H (by simp)
    rw [if_pos c5] at H
    have c5b0 : decide (0 ≤ x5_1) = true := decide_eq_true c5
    clear c5
    by_cases c6 : x5_1 < (l1.length : Int)
    rotate_left
    ·rw [if_neg c6] at H
     exact absurd H (by simp)
    rw [if_pos c6] at H
    have c6b0 : decide (x5_1 < (l1.length : Int)) = true := decide_eq_true c6
    clear c6
    by_cases c7 : (rd l0 x5_1) = (rd l1 x5_1)
    rotate_left
    ·rw [if_neg c7] at H
     have c7b0 : ((rd l0 x5_1) == (rd l1 x5_1)) = false := beq_eq_false_iff_ne.mpr c7
     have c7b1 : ((rd l0 x5_1) != (rd l1 x5_1)) = true := bne_iff_ne.mpr c7
     obtain rfl := Option.some.inj H
     have p170 : 0 ≤ (x5_1 : Int) := of_decide_eq_true (by first | (with_reducible assumption) | assumption)
     have q170 : x5_1 < (l0.length : Int) := of_decide_eq_true (by first | (with_reducible assumption) | assumption)
     obtain ⟨ad170, e170, hx170_0⟩ := Kd.at_int HR0.out x5_1 p170 q170
     cases e170
     replace p170 := eq_true p170
     replace q170 := eq_true q170
     have p171 : 0 ≤ (x5_1 : Int) := of_decide_eq_true (by first | (with_reducible assumption) | assumption)
     have q171 : x5_1 < (l1.length : Int) := of_decide_eq_true (by first | (with_reducible assumption) | assumption)
     obtain ⟨ad171, e171, hx171_0⟩ := Kd.at_int HR1.out x5_1 p171 q171
     cases e171
     replace p171 := eq_true p171
     replace q171 := eq_true q171
     go_wp2
     repeat (go_quiet (fail); try go_wp2)
     go_ret
     exact ⟨by first | rfl | (simp; done) | (simp [*]; done), by repeat (first | exact Drawn0.refl _ | apply Drawn0.step)⟩
    rw [if_pos c7] at H
    have c7b0 : ((rd l0 x5_1) == (rd l1 x5_1)) = true := beq_iff_eq.mpr c7
    have c7b1 : ((rd l0 x5_1) != (rd l1 x5_1)) = false := bne_eq_false_iff_eq.mpr c7
    clear c7
    have H' := Aside0.mk H
    clear H
    have p170 : 0 ≤ (x5_1 : Int) := of_decide_eq_true (by first | (with_reducible assumption) | assumption)
    have q170 : x5_1 < (l0.length : Int) := of_decide_eq_true (by first | (with_reducible assumption) | assumption)
    obtain ⟨ad170, e170, hx170_0⟩ := Kd.at_int HR0.out x5_1 p170 q170
    cases e170
    replace p170 := eq_true p170
    replace q170 := eq_true q170
    have p171 : 0 ≤ (x5_1 : Int) := of_decide_eq_true (by first | (with_reducible assumption) | assumption)
    have q171 : x5_1 < (l1.length : Int) := of_decide_eq_true (by first | (with_reducible assumption) | assumption)
    obtain ⟨ad171, e171, hx171_0⟩ := Kd.at_int HR1.out x5_1 p171 q171
    cases e171
    replace p171 := eq_true p171
    replace q171 := eq_true q171
    go_wp2
    repeat (go_quiet (fail); try go_wp2)
    go_roundg k1
    case measure => have := HK1.out; omega
    case rel => exact ⟨(wrap64 (x5_1 + 1)), (by first | rfl | (simp; done) | (simp [*]; done)), H', ⟨by have := HK1.out; omega⟩, by repeat (first | exact Drawn0.refl _ | apply Drawn0.step)⟩

/-! ### laws_eqTensor: function 17 -/
def laws_eqTensor.f (k : Nat) (a0_0 : Int) (a0_1 : Int) (a0_2 : Int) (l0_3 : List Int) (a1_0 : Int) (a1_1 : Int) (a1_2 : Int) (l1_3 : List Int) : Option (Bool) := (laws_eqShape.f a0_0 a0_1 a0_2 a1_0 a1_1 a1_2).bind fun t174 => (if t174 = true then ((laws_eqIntS.f k l0_3 l1_3).bind fun t175 => (if t175 = true then (some true) else (some false))) else (some false))
set_option maxHeartbeats 8000000 in
set_option maxRecDepth 100000 in
theorem laws_eqTensor.calls (k : Nat) (a0_0 : Int) (a0_1 : Int) (a0_2 : Int) (A0_3 : Option Addr) (c0_3 : Nat) (l0_3 : List Int) (a1_0 : Int) (a1_1 : Int) (a1_2 : Int) (A1_3 : Option Addr) (c1_3 : Nat) (l1_3 : List Int) (r : Bool) (w : World) (hr0_3 : Kd.C (Kd.int .i64) w A0_3 l0_3.length l0_3) (hc0_3 : l0_3.length ≤ c0_3) (hr1_3 : Kd.C (Kd.int .i64) w A1_3 l1_3.length l1_3) (hc1_3 : l1_3.length ≤ c1_3) (h : laws_eqTensor.f k a0_0 a0_1 a0_2 l0_3 a1_0 a1_1 a1_2 l1_3 = some r) :
   Calls Tryd.prog 17 #[.agg #[.int .i64 a0_0, .int .i64 a0_1, .int .i64 a0_2, .slice A0_3 l0_3.length c0_3], .agg #[.int .i64 a1_0, .int .i64 a1_1, .int .i64 a1_2, .slice A1_3 l1_3.length c1_3]] w fun e w' => e = .returned (.bool r) ∧ Below w.heap.size w w' := by
  have hu42 := Tryd.underlying42
  have hu40 := Tryd.underlying40
  have HR0_3 := Aside0.mk hr0_3
  have HC0_3 := Aside0.mk hc0_3
  clear hr0_3 hc0_3
  have HR1_3 := Aside0.mk hr1_3
  have HC1_3 := Aside0.mk hc1_3
  clear hr1_3 hc1_3
  have HB := Aside0.mk (Below.refl w.heap.size w)
  have H : ((laws_eqShape.f a0_0 a0_1 a0_2 a1_0 a1_1 a1_2).bind fun t174 => (if t174 = true then ((laws_eqIntS.f k l0_3 l1_3).bind fun t175 => (if t175 = true then (some true) else (some false))) else (some false))) = some r := h
  clear h
  replace H := Option.bind_eq_some_iff.mp H
  obtain ⟨t174, A30, H⟩ := H
  (try dsimp only at H)
  have A3 := Aside0.mk A30
  clear A30
  by_cases c4 : t174 = true
  rotate_left
  ·replace c4 := Bool.eq_false_iff.mpr c4
   subst c4
   rw [if_neg (show ¬ (false = true) by decide)] at H
   obtain rfl := Option.some.inj H
   go_enter Tryd.func17, Tryd.ntmps17
   go_wp2_with (first | ((with_reducible refine gate_dst (N := 2) rfl ?_); refine boxM 2 #[.int .i64 a0_0, .int .i64 a0_1, .int .i64 a0_2, .slice A0_3 l0_3.length c0_3] 42 ?_; intro gb172 hg w23 BK172 hb; replace HB := box_at w hb hg; obtain ⟨HB, GW172, GE172⟩ := HB; clear hb hg) | ((with_reducible refine gate_dst (N := 3) rfl ?_); refine boxM 3 #[.int .i64 a1_0, .int .i64 a1_1, .int .i64 a1_2, .slice A1_3 l1_3.length c1_3] 42 ?_; intro gb173 hg w24 BK173 hb; replace HB := box_at w hb hg; obtain ⟨HB, GW173, GE173⟩ := HB; replace BK172 := box_on gb172 hb hg; obtain ⟨BK172, NB172_173, NB173_172⟩ := BK172; clear hb hg; have hn25 := ne2 NB172_173; have hcz26 := cells4 BK172.out; have hcz27 := cells4 BK173.out) | ((with_reducible refine gate_callee (f := 33) rfl ?_); refine goesM (some 9) rfl rfl Tryd.func33 (by kernel_rfl) rfl #[.agg #[.int .i64 a0_0, .int .i64 a0_1, .int .i64 a0_2], .agg #[.int .i64 a1_0, .int .i64 a1_1, .int .i64 a1_2]] rfl ?_; (with_reducible refine (laws_eqShape.calls a0_0 a0_1 a0_2 a1_0 a1_1 a1_2 false _ A3.out).mono ?_); rintro e w28 ⟨rfl, hb⟩; refine ⟨_, rfl, ?_⟩; replace HB := bel_on w hb; replace BK172 := blk_on gb172 hb; replace BK173 := blk_on gb173 hb; (try clear hb)))
   go_ret
   exact ⟨eqN, bel_now⟩
  subst c4
  rw [if_pos rfl] at H
  replace H := Option.bind_eq_some_iff.mp H
  obtain ⟨t175, A50, H⟩ := H
  (try dsimp only at H)
  have A5 := Aside0.mk A50
  clear A50
  by_cases c6 : t175 = true
  ·subst c6
   rw [if_pos rfl] at H
   obtain rfl := Option.some.inj H
   go_enter Tryd.func17, Tryd.ntmps17
   go_wp2_with (first | ((with_reducible refine gate_dst (N := 2) rfl ?_); refine boxM 2 #[.int .i64 a0_0, .int .i64 a0_1, .int .i64 a0_2, .slice A0_3 l0_3.length c0_3] 42 ?_; intro gb172 hg w7 BK172 hb; replace HB := box_at w hb hg; obtain ⟨HB, GW172, GE172⟩ := HB; clear hb hg) | ((with_reducible refine gate_dst (N := 3) rfl ?_); refine boxM 3 #[.int .i64 a1_0, .int .i64 a1_1, .int .i64 a1_2, .slice A1_3 l1_3.length c1_3] 42 ?_; intro gb173 hg w8 BK173 hb; replace HB := box_at w hb hg; obtain ⟨HB, GW173, GE173⟩ := HB; replace BK172 := box_on gb172 hb hg; obtain ⟨BK172, NB172_173, NB173_172⟩ := BK172; clear hb hg; have hn9 := ne2 NB172_173; have hcz10 := cells4 BK172.out; have hcz11 := cells4 BK173.out) | ((with_reducible refine gate_callee (f := 33) rfl ?_); refine goesM (some 9) rfl rfl Tryd.func33 (by kernel_rfl) rfl #[.agg #[.int .i64 a0_0, .int .i64 a0_1, .int .i64 a0_2], .agg #[.int .i64 a1_0, .int .i64 a1_1, .int .i64 a1_2]] rfl ?_; (with_reducible refine (laws_eqShape.calls a0_0 a0_1 a0_2 a1_0 a1_1 a1_2 true _ A3.out).mono ?_); rintro e w12 ⟨rfl, hb⟩; refine ⟨_, rfl, ?_⟩; replace HB := bel_on w hb; replace BK172 := blk_on gb172 hb; replace BK173 := blk_on gb173 hb; (try clear hb); have hcz13 := cells4 BK172.out; have hcz14 := cells4 BK173.out) | ((with_reducible refine gate_callee (f := 28) rfl ?_); refine goesM (some 15) rfl rfl Tryd.func28 (by kernel_rfl) rfl #[.slice A0_3 l0_3.length c0_3, .slice A1_3 l1_3.length c1_3] rfl ?_; (with_reducible refine (laws_eqIntS.calls k _ _ l0_3 _ _ l1_3 true _ ?side1 ?side2 ?side3 ?side4 A5.out).mono ?_); (case side1 => exact C_now HR0_3.out); (case side2 => exact HC0_3.out); (case side3 => exact C_now HR1_3.out); (case side4 => exact HC1_3.out); rintro e w' ⟨rfl, ⟨nd, rfl⟩⟩; refine ⟨_, rfl, ?_⟩))
   go_ret
   exact ⟨eqN, bel_now⟩
  replace c6 := Bool.eq_false_iff.mpr c6
  subst c6
  rw [if_neg (show ¬ (false = true) by decide)] at H
  obtain rfl := Option.some.inj H
  go_enter Tryd.func17, Tryd.ntmps17
  go_wp2_with (first | ((with_reducible refine gate_dst (N := 2) rfl ?_); refine boxM 2 #[.int .i64 a0_0, .int .i64 a0_1, .int .i64 a0_2, .slice A0_3 l0_3.length c0_3] 42 ?_; intro gb172 hg w15 BK172 hb; replace HB := box_at w hb hg; obtain ⟨HB, GW172, GE172⟩ := HB; clear hb hg) | ((with_reducible refine gate_dst (N := 3) rfl ?_); refine boxM 3 #[.int .i64 a1_0, .int .i64 a1_1, .int .i64 a1_2, .slice A1_3 l1_3.length c1_3] 42 ?_; intro gb173 hg w16 BK173 hb; replace HB := box_at w hb hg; obtain ⟨HB, GW173, GE173⟩ := HB; replace BK172 := box_on gb172 hb hg; obtain ⟨BK172, NB172_173, NB173_172⟩ := BK172; clear hb hg; have hn17 := ne2 NB172_173; have hcz18 := cells4 BK172.out; have hcz19 := cells4 BK173.out) | ((with_reducible refine gate_callee (f := 33) rfl ?_); refine goesM (some 9) rfl rfl Tryd.func33 (by kernel_rfl) rfl #[.agg #[.int .i64 a0_0, .int .i64 a0_1, .int .i64 a0_2], .agg #[.int .i64 a1_0, .int .i64 a1_1, .int .i64 a1_2]] rfl ?_; (with_reducible refine (laws_eqShape.calls a0_0 a0_1 a0_2 a1_0 a1_1 a1_2 true _ A3.out).mono ?_); rintro e w20 ⟨rfl, hb⟩; refine ⟨_, rfl, ?_⟩; replace HB := bel_on w hb; replace BK172 := blk_on gb172 hb; replace BK173 := blk_on gb173 hb; (try clear hb); have hcz21 := cells4 BK172.out; have hcz22 := cells4 BK173.out) | ((with_reducible refine gate_callee (f := 28) rfl ?_); refine goesM (some 15) rfl rfl Tryd.func28 (by kernel_rfl) rfl #[.slice A0_3 l0_3.length c0_3, .slice A1_3 l1_3.length c1_3] rfl ?_; (with_reducible refine (laws_eqIntS.calls k _ _ l0_3 _ _ l1_3 false _ ?side1 ?side2 ?side3 ?side4 A5.out).mono ?_); (case side1 => exact C_now HR0_3.out); (case side2 => exact HC0_3.out); (case side3 => exact C_now HR1_3.out); (case side4 => exact HC1_3.out); rintro e w' ⟨rfl, ⟨nd, rfl⟩⟩; refine ⟨_, rfl, ?_⟩))
  go_ret
  exact ⟨eqN, bel_now⟩

/-! ### laws_FnExactTensorText: function 5 -/
def laws_FnExactTensorText.f (k : Nat) (a0_0 : Int) (a0_1 : Int) (a0_2 : Int) (l0_3 : List Int) : Option (Bool) := (laws_szTensor.f a0_0 a0_1 a0_2 l0_3 1048576).bind fun t177 => (if t177 < 0 then (some true) else ((laws_toTensor.f k a0_0 a0_1 a0_2 l0_3).bind fun bt178 => ((spec_TensorText.f k bt178.1 bt178.2.1 bt178.2.2.1 bt178.2.2.2).bind fun t184 => ((laws_toTensor.f k a0_0 a0_1 a0_2 l0_3).bind fun bt185 => ((impl_TensorText.f k bt185.1 bt185.2.1 bt185.2.2.1 bt185.2.2.2).bind fun t192 => (if t192.toList = t184.toList then ((laws_toTensor.f k a0_0 a0_1 a0_2 l0_3).bind fun bt193 => ((laws_eqTensor.f k bt185.1 bt185.2.1 bt185.2.2.1 bt185.2.2.2 bt193.1 bt193.2.1 bt193.2.2.1 bt193.2.2.2).bind fun t199 => (if t199 = true then (some true) else (some false)))) else (some false)))))))
set_option maxHeartbeats 8000000 in
set_option maxRecDepth 100000 in
theorem laws_FnExactTensorText.calls (k : Nat) (a0_0 : Int) (a0_1 : Int) (a0_2 : Int) (A0_3 : Option Addr) (c0_3 : Nat) (l0_3 : List Int) (w : World) (hr0_3 : Kd.C (Kd.int .i64) w A0_3 l0_3.length l0_3) (hc0_3 : l0_3.length ≤ c0_3) (htab : TabT w) (h : laws_FnExactTensorText.f k a0_0 a0_1 a0_2 l0_3 = some true) :
   Calls Tryd.prog 5 #[.agg #[.int .i64 a0_0, .int .i64 a0_1, .int .i64 a0_2, .slice A0_3 l0_3.length c0_3]] w fun e w' => e = .returned (.bool true) ∧ Below w.heap.size w w' := by
  have HTB := Aside0.mk htab
  clear htab
  have hu37 := Tryd.underlying37
  have hu42 := Tryd.underlying42
  have HR0_3 := Aside0.mk hr0_3
  have HC0_3 := Aside0.mk hc0_3
  clear hr0_3 hc0_3
  have HB := Aside0.mk (Below.refl w.heap.size w)
  have H : ((laws_szTensor.f a0_0 a0_1 a0_2 l0_3 1048576).bind fun t177 => (if t177 < 0 then (some true) else ((laws_toTensor.f k a0_0 a0_1 a0_2 l0_3).bind fun bt178 => ((spec_TensorText.f k bt178.1 bt178.2.1 bt178.2.2.1 bt178.2.2.2).bind fun t184 => ((laws_toTensor.f k a0_0 a0_1 a0_2 l0_3).bind fun bt185 => ((impl_TensorText.f k bt185.1 bt185.2.1 bt185.2.2.1 bt185.2.2.2).bind fun t192 => (if t192.toList = t184.toList then ((laws_toTensor.f k a0_0 a0_1 a0_2 l0_3).bind fun bt193 => ((laws_eqTensor.f k bt185.1 bt185.2.1 bt185.2.2.1 bt185.2.2.2 bt193.1 bt193.2.1 bt193.2.2.1 bt193.2.2.2).bind fun t199 => (if t199 = true then (some true) else (some false)))) else (some false)))))))) = some true := h
  clear h
  replace H := Option.bind_eq_some_iff.mp H
  obtain ⟨t177, A20, H⟩ := H
  (try dsimp only at H)
  have A2 := Aside0.mk A20
  clear A20
  by_cases c3 : t177 < 0
  ·rw [if_pos c3] at H
   have c3b0 : decide (t177 < 0) = true := decide_eq_true c3
   clear c3
   clear H
   go_enter Tryd.func5, Tryd.ntmps5
   go_wp2_with (first | ((with_reducible refine gate_dst (N := 1) rfl ?_); refine boxM 1 #[.int .i64 a0_0, .int .i64 a0_1, .int .i64 a0_2, .slice A0_3 l0_3.length c0_3] 37 ?_; intro gb176 hg w4 BK176 hb; replace HB := box_at w hb hg; obtain ⟨HB, GW176, GE176⟩ := HB; clear hb hg; have hcz5 := cells4 BK176.out) | ((with_reducible refine gate_callee (f := 13) rfl ?_); refine goesM (some 9) rfl rfl Tryd.func13 (by kernel_rfl) rfl #[.agg #[.int .i64 a0_0, .int .i64 a0_1, .int .i64 a0_2, .slice A0_3 l0_3.length c0_3], .int .i64 1048576] rfl ?_; (with_reducible refine (laws_szTensor.calls a0_0 a0_1 a0_2 _ _ l0_3 1048576 t177 _ ?side1 ?side2 A2.out).mono ?_); (case side1 => exact C_now HR0_3.out); (case side2 => exact HC0_3.out); rintro e w6 ⟨rfl, hb⟩; refine ⟨_, rfl, ?_⟩; replace HB := bel_on w hb; replace BK176 := blk_on gb176 hb; (try clear hb)))
   go_ret
   exact ⟨eqN, bel_now⟩
  rw [if_neg c3] at H
  have c3b0 : decide (t177 < 0) = false := decide_eq_false c3
  clear c3
  replace H := Option.bind_eq_some_iff.mp H
  obtain ⟨⟨t178, t179, t180, t181⟩, A70, H⟩ := H
  (try dsimp only at H)
  have A7 := Aside0.mk A70
  clear A70
  replace H := Option.bind_eq_some_iff.mp H
  obtain ⟨t184, A80, H⟩ := H
  (try dsimp only at H)
  have A8 := Aside0.mk A80
  clear A80
  replace H := Option.bind_eq_some_iff.mp H
  obtain ⟨⟨t185, t186, t187, t188⟩, A90, H⟩ := H
  (try dsimp only at H)
  have A9 := Aside0.mk A90
  clear A90
  replace H := Option.bind_eq_some_iff.mp H
  obtain ⟨t192, A100, H⟩ := H
  (try dsimp only at H)
  have A10 := Aside0.mk A100
  clear A100
  by_cases c11 : t192.toList = t184.toList
  rotate_left
  ·rw [if_neg c11] at H
   have c11b0 : (t192.toList == t184.toList) = false := beq_eq_false_iff_ne.mpr c11
   have c11b1 : (t192.toList != t184.toList) = true := bne_iff_ne.mpr c11
   exact absurd H (by decide)
  rw [if_pos c11] at H
  have c11b0 : (t192.toList == t184.toList) = true := beq_iff_eq.mpr c11
  have c11b1 : (t192.toList != t184.toList) = false := bne_eq_false_iff_eq.mpr c11
  clear c11
  replace H := Option.bind_eq_some_iff.mp H
  obtain ⟨⟨t193, t194, t195, t196⟩, A120, H⟩ := H
  (try dsimp only at H)
  have A12 := Aside0.mk A120
  clear A120
  replace H := Option.bind_eq_some_iff.mp H
  obtain ⟨t199, A130, H⟩ := H
  (try dsimp only at H)
  have A13 := Aside0.mk A130
  clear A130
  by_cases c14 : t199 = true
  rotate_left
  ·replace c14 := Bool.eq_false_iff.mpr c14
   subst c14
   rw [if_neg (show ¬ (false = true) by decide)] at H
   exact absurd H (by decide)
  subst c14
  have H1 : (some true) = some true := rfl
  clear H
  have H := H1
  clear H1
  clear H
  go_enter Tryd.func5, Tryd.ntmps5
  try go_wp2_with (first | ((with_reducible refine gate_dst (N := 1) rfl ?_); refine boxM 1 #[.int .i64 a0_0, .int .i64 a0_1, .int .i64 a0_2, .slice A0_3 l0_3.length c0_3] 37 ?_; intro gb176 hg w15 BK176 hb; replace HB := box_at w hb hg; obtain ⟨HB, GW176, GE176⟩ := HB; clear hb hg; have hcz16 := cells4 BK176.out) | ((with_reducible refine gate_callee (f := 13) rfl ?_); refine goesM (some 9) rfl rfl Tryd.func13 (by kernel_rfl) rfl #[.agg #[.int .i64 a0_0, .int .i64 a0_1, .int .i64 a0_2, .slice A0_3 l0_3.length c0_3], .int .i64 1048576] rfl ?_; (with_reducible refine (laws_szTensor.calls a0_0 a0_1 a0_2 _ _ l0_3 1048576 t177 _ ?side1 ?side2 A2.out).mono ?_); (case side1 => exact C_now HR0_3.out); (case side2 => exact HC0_3.out); rintro e w17 ⟨rfl, hb⟩; refine ⟨_, rfl, ?_⟩; replace HB := bel_on w hb; replace BK176 := blk_on gb176 hb; (try clear hb); have hcz18 := cells4 BK176.out) | ((with_reducible refine gate_callee (f := 15) rfl ?_); refine goesM (some 13) rfl rfl Tryd.func15 (by kernel_rfl) rfl #[.agg #[.int .i64 a0_0, .int .i64 a0_1, .int .i64 a0_2, .slice A0_3 l0_3.length c0_3]] rfl ?_; (with_reducible refine (laws_toTensor.calls k a0_0 a0_1 a0_2 _ _ l0_3 t178 t179 t180 t181 _ ?side1 ?side2 A7.out).mono ?_); (case side1 => exact C_now HR0_3.out); (case side2 => exact HC0_3.out); rintro e w19 ⟨v182, rfl, ho0, hb⟩; refine ⟨_, rfl, ?_⟩; have n0_ := Aside0.mk (Kd.R_lower ho0 (below_size bel_now)); replace HB := bel_on w hb; replace BK176 := blk_on gb176 hb; have HO183 := n0_; clear n0_; (try clear hb); (try clear ho0); obtain ⟨Ao20, co20, eo20⟩ := Kd.R_slice HO183.out; subst eo20) | ((with_reducible refine gate_callee (f := 14) rfl ?_); refine goesM (some 14) rfl rfl Tryd.func14 (by kernel_rfl) rfl #[.agg #[.int .i64 t178, .int .i64 t179, .int .i64 t180, .slice Ao20 t181.length co20]] rfl ?_; (with_reducible refine (spec_TensorText.calls k t178 t179 t180 _ _ t181 t184 _ ?side1 ?side2 A8.out).mono ?_); (case side1 => exact (Kd.R_reads' (R_at HO183.out)).2.2); (case side2 => exact (Kd.R_reads' HO183.out).2.1); rintro e w21 ⟨rfl, hb⟩; refine ⟨_, rfl, ?_⟩; replace HO183 := Aside0.mk (Kd.R_below (R_at HO183.out) hb); replace HB := bel_on w hb; replace BK176 := blk_on gb176 hb; (try clear hb); have hcz22 := cells4 BK176.out) | ((with_reducible refine gate_callee (f := 15) rfl ?_); refine goesM (some 16) rfl rfl Tryd.func15 (by kernel_rfl) rfl #[.agg #[.int .i64 a0_0, .int .i64 a0_1, .int .i64 a0_2, .slice A0_3 l0_3.length c0_3]] rfl ?_; (with_reducible refine (laws_toTensor.calls k a0_0 a0_1 a0_2 _ _ l0_3 t185 t186 t187 t188 _ ?side1 ?side2 A9.out).mono ?_); (case side1 => exact C_now HR0_3.out); (case side2 => exact HC0_3.out); rintro e w23 ⟨v189, rfl, ho0, hb⟩; refine ⟨_, rfl, ?_⟩; have n1_ := Aside0.mk (Kd.R_lower (Kd.R_new' ho0 (Kd.R_lt (R_at HO183.out))) (below_size bel_now)); replace HO183 := Aside0.mk (Kd.R_elder' (R_at HO183.out) (Kd.R_base ho0) hb); replace HB := bel_on w hb; replace BK176 := blk_on gb176 hb; have HO190 := n1_; clear n1_; (try clear hb); (try clear ho0)) | ((with_reducible refine gate_dst (N := 5) rfl ?_); refine boxM 5 #[.int .i64 0, .int .i64 0, .int .i64 0, .slice none 0 0] 42 ?_; intro gb191 hg w24 BK191 hb; replace HB := box_at w hb hg; obtain ⟨HB, GW191, GE191⟩ := HB; replace BK176 := box_on gb176 hb hg; obtain ⟨BK176, NB176_191, NB191_176⟩ := BK176; replace HO183 := Aside0.mk (Kd.R_below (R_at HO183.out) hb); replace HO190 := Aside0.mk (Kd.R_below (R_at HO190.out) hb); clear hb hg; have hn25 := ne2 NB191_176; have hcz26 := cells4 BK191.out; obtain ⟨Ao27, co27, eo27⟩ := Kd.R_slice HO190.out; subst eo27) | ((with_reducible refine gate_callee (f := 16) rfl ?_); refine goesM (some 18) rfl rfl Tryd.func16 (by kernel_rfl) rfl #[.agg #[.int .i64 t185, .int .i64 t186, .int .i64 t187, .slice Ao27 t188.length co27]] rfl ?_; (with_reducible refine (impl_TensorText.calls (htab := tab_now HTB) k t185 t186 t187 _ _ t188 t192 _ ?side1 ?side2 A10.out).mono ?_); (case side1 => refine (Kd.R_reads' (e := 3) (base := w.heap.size) (ok := fun k_ => (True ∧ nb k_ Ao20 t181.length co20)) (n := t188.length) (c := co27) ?_).2.2; exact (R_at (R_far4 HO190.out BK191.out (by decide)))); (case side2 => exact (Kd.R_reads' HO190.out).2.1); rintro e w28 ⟨rfl, hb⟩; refine ⟨_, rfl, ?_⟩; have n0_ := Aside0.mk (Kd.R_below (R_at (R_far4 HO183.out BK191.out (by decide))) hb); have n1_ := Aside0.mk (Kd.R_below (R_at (R_far4 HO190.out BK191.out (by decide))) hb); replace HB := bel_on w hb; replace BK176 := Aside0.mk (blk_below (g := gb176) (o := .cells #[.int .i64 a0_0, .int .i64 a0_1, .int .i64 a0_2, .slice A0_3 l0_3.length c0_3] 37 (0, 0)) (blk_fars BK176.out) hb); replace BK191 := Aside0.mk (blk_below (g := gb191) (o := .cells #[.int .i64 t185, .int .i64 t186, .int .i64 t187, .slice Ao27 t188.length co27] 42 (0, 0)) (blk_fars (puts4 BK191.out)) hb); clear HO183 HO190; have HO183 := n0_; have HO190 := n1_; clear n0_ n1_; (try clear hb)))
  replace HO183 := Aside0.mk (Kd.R_drew HO183.out)
  replace HO190 := Aside0.mk (Kd.R_drew HO190.out)
  replace BK176 := Aside0.mk (blk_drew BK176.out)
  replace BK191 := Aside0.mk (blk_drew BK191.out)
  replace HB := Aside0.mk (below_drew1 HB.out)
  refine start_ (n := 5) (S := fun w' => w'.cell? ⟨gb191, 0, none⟩ = some (.int .i64 t185) ∧ w'.cell? ⟨gb191, 1, none⟩ = some (.int .i64 t186) ∧ w'.cell? ⟨gb191, 2, none⟩ = some (.int .i64 t187) ∧ w'.cell? ⟨gb191, 3, none⟩ = some (.slice Ao27 t188.length co27) ∧ w'.cell? ⟨gb176, 0, none⟩ = some (.int .i64 a0_0) ∧ w'.cell? ⟨gb176, 1, none⟩ = some (.int .i64 a0_1) ∧ w'.cell? ⟨gb176, 2, none⟩ = some (.int .i64 a0_2) ∧ w'.cell? ⟨gb176, 3, none⟩ = some (.slice A0_3 l0_3.length c0_3)) (ds := []) #[false, false, false, false, false] (by kernel_rfl) rfl rfl ⟨bc BK191 0, bc BK191 1, bc BK191 2, bc BK191 3, bc BK176 0, bc BK176 1, bc BK176 2, bc BK176 3⟩ (fun hHeld => ?_)
  generalize w28.drew = w29 at HO183 HO190 BK176 BK191 HB hHeld ⊢
  refine stepT 0 (some 22) (tk 5 1) (by kernel_rfl) hHeld ?_
  refine stepT 1 (some 23) (tk 5 3) (by kernel_rfl) hHeld ?_
  refine one_ (i := 2) (N := some 24) #[true, true, true, false, false] rfl rfl (by kernel_rfl) (by decide) (fun K hK => ?_)
  refine goes_ Tryd.func15 (by kernel_rfl) rfl #[.agg #[.int .i64 a0_0, .int .i64 a0_1, .int .i64 a0_2, .slice A0_3 l0_3.length c0_3]] (by rfl) rfl rfl (by (try simp only [List.map_toArray, List.map_cons, List.map_nil]); first | done | rfl | (simp only [List.length_drop, List.length_take]; rfl)) ?_
  with_reducible refine (laws_toTensor.calls k a0_0 a0_1 a0_2 _ _ l0_3 t193 t194 t195 t196 _ ?side1 ?side2 A12.out).mono ?_
  (case side1 => exact C_now HR0_3.out)
  (case side2 => exact HC0_3.out)
  rintro e w30 ⟨v197, rfl, ho0, hb⟩
  refine ⟨_, rfl, ?_⟩
  have n2_ := Aside0.mk (Kd.R_lower (Kd.R_new' (Kd.R_new' ho0 (Kd.R_lt (R_at HO183.out))) (Kd.R_lt (R_at HO190.out))) (below_size bel_now))
  replace HO183 := Aside0.mk (Kd.R_elder' (R_at HO183.out) (Kd.R_base ho0) hb)
  replace HO190 := Aside0.mk (Kd.R_elder' (R_at HO190.out) (Kd.R_base ho0) hb)
  replace BK176 := blk_on gb176 hb
  replace BK191 := blk_on gb191 hb
  replace HB := bel_on w hb
  have HO198 := n2_
  clear n2_
  (try clear hb)
  (try clear ho0)
  obtain ⟨Ao31, co31, eo31⟩ := Kd.R_slice HO198.out
  (first | subst eo31 | (injection eo31 with f1_ f2_ f3_; have f4_ := f1_.symm; have f5_ := f3_.symm; clear f1_ f2_ f3_; subst f4_; subst f5_))
  refine hK.out _ _ ⟨bc BK191 0, bc BK191 1, bc BK191 2, bc BK191 3, bc BK176 0, bc BK176 1, bc BK176 2, bc BK176 3⟩ (fun hHeld => ?_)
  clear hK K
  refine normP 24 ?_
  refine one_ (i := 3) (N := some 25) #[true, true, true, true, false] rfl rfl (by kernel_rfl) (by decide) (fun K hK => ?_)
  refine goes_ Tryd.func17 (by kernel_rfl) rfl #[.agg #[.int .i64 t185, .int .i64 t186, .int .i64 t187, .slice Ao27 t188.length co27], .agg #[.int .i64 t193, .int .i64 t194, .int .i64 t195, .slice Ao31 t196.length co31]] (by rfl) rfl rfl (by (try simp only [List.map_toArray, List.map_cons, List.map_nil]); first | done | rfl | (simp only [List.length_drop, List.length_take]; rfl)) ?_
  with_reducible refine (laws_eqTensor.calls k t185 t186 t187 _ _ t188 t193 t194 t195 _ _ t196 true _ ?side1 ?side2 ?side3 ?side4 A13.out).mono ?_
  (case side1 => exact (Kd.R_reads' (R_at HO190.out)).2.2)
  (case side2 => exact (Kd.R_reads' HO190.out).2.1)
  (case side3 => exact (Kd.R_reads' (R_at HO198.out)).2.2)
  (case side4 => exact (Kd.R_reads' HO198.out).2.1)
  rintro e w32 ⟨rfl, hb⟩
  refine ⟨_, rfl, ?_⟩
  replace HO183 := Aside0.mk (Kd.R_below (R_at HO183.out) hb)
  replace HO190 := Aside0.mk (Kd.R_below (R_at HO190.out) hb)
  replace HO198 := Aside0.mk (Kd.R_below (R_at HO198.out) hb)
  replace BK176 := blk_on gb176 hb
  replace BK191 := blk_on gb191 hb
  replace HB := bel_on w hb
  (try clear hb)
  refine hK.out _ _ ⟨bc BK191 0, bc BK191 1, bc BK191 2, bc BK191 3, bc BK176 0, bc BK176 1, bc BK176 2, bc BK176 3⟩ (fun hHeld => ?_)
  clear hK K
  refine normP 25 ?_
  refine stepP 4 (some 26) (tk 5 31) (by kernel_rfl) ?_
  refine done_ (by kernel_rfl) ?_
  try go_wp2
  go_ret
  exact ⟨eqN, bel_now⟩

end Go.Proofs.YtjmejobelkllmaaDoor.PFnExactTensorText
