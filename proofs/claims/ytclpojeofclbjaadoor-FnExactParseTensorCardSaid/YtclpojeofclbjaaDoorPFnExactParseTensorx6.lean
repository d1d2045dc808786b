import Derived.Test.YtclpojeofclbjaaDoorPFnExactParseTensorx0
import Derived.Test.YtclpojeofclbjaaDoorPFnExactParseTensorx4
import Derived.Test.YtclpojeofclbjaaDoorPFnExactParseTensorx5
namespace Go.Proofs.YtclpojeofclbjaaDoor.PFnExactParseTensor
open Go.RowKit Go.Proofs.YtclpojeofclbjaaDoorW.PrintWords Go.Proofs.YtclpojeofclbjaaDoorW.PrintLast Go.Proofs.YtclpojeofclbjaaDoorW.PrintMore
attribute [local go_sem] max2_int min2_int max_two min_two max_three min_three max_four min_four
set_option maxHeartbeats 8000000
set_option maxRecDepth 100000
set_option linter.unusedVariables false
set_option linter.unusedSimpArgs false

/- a builder of the call's own, at this dump's numbers -/
abbrev IsB (B b : Nat) (l : List UInt8) (W : World) : Prop := Lib.IsBuilder 86 5 B b (Lib.byteCells l) W
theorem isB_below {B b : Nat} {l : List UInt8} {W W' : World} (h : IsB B b l W) (hb : Below W.heap.size W W') : IsB B b l W' := by
  have f : ∀ p, Lib.BuilderAt 86 5 B b p (Lib.byteCells l) W → Lib.BuilderAt 86 5 B b p (Lib.byteCells l) W' := fun p ⟨h1, v, h2, h3, h4⟩ =>
   ⟨h1, v, (hb.block b (blk_lt h2)).trans h2, h3.kept (grown_of_below hb none) (by cases v.ownBlock <;> simp), h4⟩
  exact h.imp (f _) (f _)
set_option maxRecDepth 100000 in
theorem bld_used (b : Nat) (w : World) (h0 : w.cell? ⟨b, 0, none⟩ = some (.pointer (some ⟨b, 0, none⟩))) :
   Calls Tryd.prog 63 #[.pointer (some ⟨b, 0, none⟩)] w fun e w' => e = .returned (.tuple #[]) ∧ w' = w := by
  obtain ⟨j, hj, _⟩ := Option.map_eq_some_iff.1 (show (Tryd.prog.info? 86).map (·.size) = some 2 by kernel_rfl)
  go_enter Tryd.func63, Tryd.ntmps63
  go_wp2
  rw [Lib.run_neq_ptr_same w _ Tryd.underlying84 hj]
  go_wp2
  go_end0
  exact ⟨rfl, rfl⟩
set_option maxRecDepth 100000 in
theorem bld_fresh (b : Nat) (w : World) (h0 : w.cell? ⟨b, 0, none⟩ = some (.pointer none)) (hsh : w.shape? b = some (86, 2)) (hfz : w.frozen? ⟨b, 0, none⟩ = false) :
   Calls Tryd.prog 63 #[.pointer (some ⟨b, 0, none⟩)] w fun e w' => e = .returned (.tuple #[]) ∧ w' = w.setCell ⟨b, 0, none⟩ (.pointer (some ⟨b, 0, none⟩)) := by
  obtain ⟨j, hj, hjs⟩ := Option.map_eq_some_iff.1 (show (Tryd.prog.info? 86).map (·.size) = some 2 by kernel_rfl)
  have hlies : liesAt Tryd.prog Tryd.prog.depth 86 (2 / Tryd.prog.cellsOf 86) 0 86 1 = true := by kernel_rfl
  go_enter Tryd.func63, Tryd.ntmps63
  go_wp2
  rw [Lib.run_to_unsafe w ⟨b, 0, none⟩ Tryd.underlying84 Tryd.underlying111 hj (by rw [hjs]; decide) hsh (Nat.zero_lt_succ 1)];simp only [Result.andThen];rw [Oper.upon_value]
  go_wp2
  rw [run_callFunc_extern Tryd.func84 (by kernel_rfl) (by kernel_rfl) (by kernel_rfl) (e := Extern.AbiNoEscape.same) (by kernel_rfl)];rw [Lib.run_noEscape];simp only [Result.andThen];rw [Oper.upon_value]
  go_wp2
  rw [Lib.run_from_unsafe w ⟨b, 0, none⟩ Tryd.underlying111 Tryd.underlying84 hj hsh hlies];simp only [Result.andThen];rw [Oper.upon_value]
  go_wp2
  go_end0
  exact ⟨rfl, rfl⟩
theorem bld_check (B b : Nat) (bs : List Value) (w : World) (h : Lib.IsBuilder 86 5 B b bs w) :
   Calls Tryd.prog 63 #[.pointer (some ⟨b, 0, none⟩)] w fun e w' => e = .returned (.tuple #[]) ∧ Lib.BuilderAt 86 5 B b (.pointer (some ⟨b, 0, none⟩)) bs w' ∧ Below B w w' := by
  rcases h with h | h
  rotate_left
  ·refine (bld_used b w h.cell0).mono ?_
   rintro e w' ⟨rfl, rfl⟩;exact ⟨rfl, h, Below.refl B _⟩
  refine (bld_fresh b w h.cell0 h.shape h.frozen0).mono ?_
  rintro e w' ⟨rfl, rfl⟩;exact ⟨rfl, h.used _, (Below.refl B w).setCell (p := ⟨b, 0, none⟩) h.1 _⟩
set_option maxHeartbeats 2000000 in
set_option maxRecDepth 100000 in
theorem bld_write (B b : Nat) (bs : List Value) (s : ByteArray) (w : World) (h : Lib.IsBuilder 86 5 B b bs w) (hlen : bs.length + s.size ≤ 140737488355328) (hBw : B ≤ w.heap.size) :
   Calls Tryd.prog 47 #[.pointer (some ⟨b, 0, none⟩), .string s] w fun e w' => e = .returned (.tuple #[.int .i64 s.size, .nilIface]) ∧ Lib.IsBuilder 86 5 B b (bs ++ Lib.strCells s) w' ∧ Below B w w' := by
  obtain ⟨i0, hi, hz0, hz1, hz2⟩ := info_parts (show (Tryd.prog.info? 5).map (fun i => (i.zero, i.size, i.bytes)) = some (some (.int .u8 0), 1, 1) by kernel_rfl)
  go_enter Tryd.func47, Tryd.ntmps47
  go_wp2_with (go_at_call 63; refine (bld_check B b bs _ h).mono ?_)
  rintro e w1 ⟨rfl, h1, hb1⟩;obtain ⟨hB, v, hbk, hown, hne⟩ := h1;have c0 : w1.cell? ⟨b, 0, none⟩ = some (.pointer (some ⟨b, 0, none⟩)) := by rw [Lib.cell_of_heap hbk]; rfl
  have c1 : w1.cell? ⟨b, 1, none⟩ = some v := by rw [Lib.cell_of_heap hbk]; rfl
  go_wp2_with (at_builtin; refine Lib.wpList_append_own_string _ rfl _ _ 78 9 rfl B 5 i0 Tryd.underlying78 Tryd.underlying9 hi hz0 hz1 hz2 _ _ _ rfl hown s rfl ?c3 ?c4 ?c5 ?_)
  case c3 => unfold maxLen; omega
  case c4 => omega
  case c5 => have := hb1.size; omega
  intro v' w2 hown' hgrow _;have hlt : b < w1.heap.size := blk_lt hbk;have hb2 : w2.heap[b]? = some (.cells #[.pointer (some ⟨b, 0, none⟩), v] 86 (0, 0)) := by
   rw [hgrow.block b hlt (fun e => hne e.symm)];exact hbk
  have d0 : w2.cell? ⟨b, 0, none⟩ = some (.pointer (some ⟨b, 0, none⟩)) := by rw [Lib.cell_of_heap hb2]; rfl
  have d1 : w2.cell? ⟨b, 1, none⟩ = some v := by rw [Lib.cell_of_heap hb2]; rfl
  have f1 : w2.frozen? ⟨b, 1, none⟩ = false := Lib.frozen_of_heap hb2 1
  obtain ⟨ao, n', cap, rfl⟩ : ∃ ao n' cap, v' = .slice ao n' cap := by
   rcases hown'.2 with ⟨hv, _⟩ | ⟨g, cap, cur, hv, _⟩
   ·exact ⟨_, _, _, hv⟩
   ·exact ⟨_, _, _, hv⟩
  go_wp2
  go_ret2
  refine ⟨rfl, .inr ?_, ?_⟩
  ·exact Lib.BuilderAt.put (T := 86) (e := 5) hB hb2 (bs' := bs ++ Lib.strCells s) (by simpa [Lib.strCells_length] using hown') (by decide)
  exact (hb1.grown hgrow (by have := hb1.size; omega) (fun k hk => (hown.lt k hk).1)).setCell (p := ⟨b, 1, none⟩) hB _
def spacedL : List Int → List UInt8
  | [] => []
  | x :: l => 32 :: (Lib.itoa x ++ spacedL l)
theorem spacedL_append : ∀ a b : List Int, spacedL (a ++ b) = spacedL a ++ spacedL b
  | [], _ => rfl
  | x :: a, b => by simp only [List.cons_append, spacedL, spacedL_append a b, List.append_assoc]
theorem spacedL_take {l : List Int} {i : Nat} (h : i < l.length) : spacedL (l.take (i + 1)) = spacedL (l.take i) ++ (32 :: Lib.itoa (rd l (i : Int))) := by
  have e : rd l (i : Int) = l[i] := by simp [rd, h]
  rw [List.take_add_one, List.getElem?_eq_getElem h, spacedL_append, e]
  simp [spacedL]
theorem digits_le : ∀ (n x : Nat), x < 10 ^ (n + 1) → Lib.nDigits x ≤ n + 1
  | 0, x, h => by rw [Lib.nDigits_small (by omega)]; omega
  | n + 1, x, h => by
   by_cases h1 : x < 10
   ·rw [Lib.nDigits_small h1]; omega
   ·rw [Lib.nDigits_big h1];have := digits_le n (x / 10) (by rw [Nat.pow_succ] at h; omega)
    omega
theorem itoa_len {x : Int} (h0 : -9223372036854775808 ≤ x) (h1 : x ≤ 9223372036854775807) : (Lib.itoa x).length ≤ 20 := by
  unfold Lib.itoa
  split
  ·have := digits_le 18 x.natAbs (by omega);rw [List.length_cons, Lib.decDigits_length]
   omega
  have := digits_le 18 x.toNat (by omega);rw [Lib.decDigits_length]
  omega
theorem spacedL_len : ∀ l : List Int, (∀ x ∈ l, -9223372036854775808 ≤ x ∧ x ≤ 9223372036854775807) → (spacedL l).length ≤ 21 * l.length
  | [], _ => by simp [spacedL]
  | x :: l, h => by
   have h1 := h x (by simp);have h2 := itoa_len h1.1 h1.2;have h3 := spacedL_len l (fun y hy => h y (List.mem_cons_of_mem _ hy));simp only [spacedL, List.length_cons, List.length_append]
   omega
def impl_spaced.f (l0 : List Int) : Option (ByteArray) := if l0.length ≤ 6000000000000 ∧ (∀ x ∈ l0, -9223372036854775808 ≤ x ∧ x ≤ 9223372036854775807) then (some ⟨(spacedL l0).toArray⟩) else (none)
theorem impl_spaced.calls (A0 : Option Addr) (c0 : Nat) (l0 : List Int) (r : ByteArray) (w : World) (hr0 : Kd.C (Kd.int .i64) w A0 l0.length l0) (hc0 : l0.length ≤ c0) (htab : TabT w) (h : impl_spaced.f l0 = some r) :
   Calls Tryd.prog 44 #[.slice A0 l0.length c0] w fun e w' => e = .returned (.string r) ∧ Below w.heap.size w w' := by
  unfold impl_spaced.f at h
  split at h
  case isFalse => cases h
  rename_i hd;obtain rfl := Option.some.inj h;have HD := am hd;have HTB := am htab;have HR0 := am hr0;have HB := am (Below.refl w.heap.size w);clear h hd htab hr0
  go_enter Tryd.func44, Tryd.ntmps44
  go_wp2_with (first | ((with_reducible refine gate_dst (N := 7) rfl ?_); refine box_event ?hg (N := 7) ?hd (cs := #[.pointer none, .slice none 0 0]) (t := 86) ?hr ?_; (case hd => rfl); (case hg => rfl); (case hr => first | (go_simp; done) | (go_simp; rfl)); intro gb hg w5 BK hb; obtain ⟨HB, GW, GE⟩ := box_at w hb hg; have HBD := am (show IsB w.heap.size gb (spacedL (l0.take 0)) w5 from .inl ⟨GW.out, _, BK, World.ownsRow_nil _ _ _ _, by simp [Value.ownBlock]⟩); clear hb hg))
  go_loopg [10] l0.length (fun kq v10 w' => ∃ i : Nat, v10 = .int .i64 (i : Int) ∧ Aside0 (i ≤ l0.length ∧ l0.length - i ≤ kq) ∧ Aside0 (IsB w.heap.size gb (spacedL (l0.take i)) w') ∧ Aside0 (Below w.heap.size w w'))
  case atStart => exact ⟨0, rfl, ⟨by omega⟩, HBD, HB⟩
  case round =>
   clear HBD HB BK;obtain ⟨i, rfl, hi, HBD, HB⟩ := hrel;by_cases c : i < l0.length;rotate_left
   ·have hi' := hi.out
    obtain rfl : i = l0.length := by omega
    have cb : decide ((l0.length : Int) < (l0.length : Int)) = false := decide_eq_false (by omega);rw [List.take_length] at HBD
    go_wp2_with (first | ((with_reducible refine gate_callee (f := 48) rfl ?_); refine gM 21 Tryd.func48 #[.pointer (some ⟨gb, 0, none⟩)] rfl ?_; refine (Tryd.Builder_String_any w.heap.size gb (spacedL l0) _ HBD.out HB.out.size).mono ?_; rintro e w8 ⟨rfl, hb⟩; refine ⟨_, rfl, ?_⟩; replace HB := am (HB.out.trans hb); clear hb))
    go_ret
    exact ⟨by first | rfl | (simp; done), HB.out⟩
   have cb : decide ((i : Int) < (l0.length : Int)) = true := decide_eq_true (by omega);have p1 : 0 ≤ (i : Int) := by omega
   have q1 : (i : Int) < (l0.length : Int) := by omega
   obtain ⟨ad, eA, hx⟩ := Kd.at_int HR0.out (i : Int) p1 q1;cases eA;replace hx := pw_cell_below HB.out hx;have hx2 := hx;rw [Int.toNat_natCast] at hx2;have hd1 := HD.out.2 (rd l0 (i : Int)) (by simp [rd, c]);have HTk := am (spacedL_take c);have hl1 := spacedL_len (l0.take i) (fun y hy => HD.out.2 y (List.mem_of_mem_take hy));have hl2 := itoa_len hd1.1 hd1.2;rw [List.length_take] at hl1
   generalize rd l0 (i : Int) = x at hx hx2 hd1 HTk hl2
   obtain ⟨s, hs⟩ : ∃ s : ByteArray, s = ⟨(Lib.itoa x).toArray⟩ := ⟨_, rfl⟩;have hsz : s.size = (Lib.itoa x).length := by rw [hs]; rfl
   have HF := am (show strconv_Itoa.f x = some s by unfold strconv_Itoa.f; rw [if_pos hd1.1, if_pos hd1.2, hs])
   have HLn := am (show (spacedL (l0.take i)).length + (1 + s.size) ≤ 140737488355328 by have := HD.out.1; omega)
   have HSC := am (show Lib.strCells ((⟨#[32]⟩ : ByteArray) ++ s) = Lib.byteCells (32 :: Lib.itoa x) by rw [Lib.strCells_eq, hs]; simp [ByteArray.data_append])
   have hs1 : (9223372036854775807 < 1 + s.size) = False := eq_false (by omega);have hw8 := am (show IntKind.i64.wrap ((i : Int) + 1) = ((i + 1 : Nat) : Int) by (have := HD.out.1; unfold IntKind.wrap; simp [IntKind.bits, IntKind.signed]; omega))
   replace p1 := eq_true p1;replace q1 := eq_true q1;clear hs hsz hl1 hl2 hd1
   go_wp2_with (first | ((with_reducible refine gate_callee (f := 43) rfl ?_); refine gM 16 Tryd.func43 #[.int .i64 x] rfl ?_; (with_reducible refine (strconv_Itoa.calls (htab := tab_now HTB) x s _ HF.out).mono ?_); rintro e w6 ⟨rfl, hb⟩; refine ⟨_, rfl, ?_⟩; replace HBD := am (isB_below HBD.out hb); replace HB := bel_on w hb; clear hb) | ((with_reducible refine gate_callee (f := 47) rfl ?_); refine gM 18 Tryd.func47 #[.pointer (some ⟨gb, 0, none⟩), .string ((⟨#[32]⟩ : ByteArray) ++ s)] rfl ?_; refine (bld_write w.heap.size gb (Lib.byteCells (spacedL (l0.take i))) ((⟨#[32]⟩ : ByteArray) ++ s) _ HBD.out ?sl ?sb).mono ?_; (case sl => have h_ := HLn.out; rw [ByteArray.size_append]; simp only [Lib.byteCells, List.length_map]; exact h_); (case sb => exact HB.out.size); rintro e w7 ⟨rfl, h7, hb⟩; refine ⟨_, rfl, ?_⟩; rw [HSC.out, Lib.byteCells, Lib.byteCells, ← List.map_append, ← HTk.out] at h7; replace HBD := am h7; replace HB := am (HB.out.trans hb); clear hb h7))
   go_roundg (gk - 1)
   case measure => have := hi.out; omega
   case rel => exact ⟨i + 1, by first | (rw [hw8.out]; done) | exact congrArg (Value.int .i64) (by have := HD.out.1; unfold wrap64; omega), ⟨by have := hi.out; omega⟩, HBD, HB⟩

def impl_TensorText.f (k : Nat) (a0_0 : Int) (a0_1 : Int) (a0_2 : Int) (l0_3 : List Int) : Option (ByteArray) := (impl_TensorOk.f k a0_0 a0_1 a0_2 l0_3).bind fun t184 => (if t184 = true then ((impl_Shape_sides.f a0_0 a0_1 a0_2).bind fun t185 => (if t185.size + 1 ≤ 9223372036854775807 then ((impl_spaced.f l0_3).bind fun t186 => (if (t185 ++ (⟨#[58]⟩ : ByteArray)).size + t186.size ≤ 9223372036854775807 then (some ((t185 ++ (⟨#[58]⟩ : ByteArray)) ++ t186)) else (none))) else (none))) else (some (⟨#[]⟩ : ByteArray)))
def impl_TensorText.T3 : Bool × List (List Nat × List Nat) := (true, [([], []), ([0], [0]), ([1], [1]), ([2], [2]), ([], []), ([4], [4]), ([5, 2], [5]), ([3, 6], [3, 6]), ([7, 6, 0, 1, 2, 3, 4, 5, 6, 7], [7])])
def impl_TensorText.B3 : List Nat := [0, 1, 3, 7, 0, 16, 55, 127, 255]
theorem impl_TensorText.tab3 : rtab .any (opsOf Tryd.f33 3) = impl_TensorText.T3 := by kernel_rfl
theorem impl_TensorText.bits3 : waitsOk impl_TensorText.T3.2 impl_TensorText.B3 = true := by kernel_rfl
theorem impl_TensorText.calls (k : Nat) (a0_0 : Int) (a0_1 : Int) (a0_2 : Int) (A0_3 : Option Addr) (c0_3 : Nat) (l0_3 : List Int) (r : ByteArray) (w : World) (hr0_3 : Kd.C (Kd.int .i64) w A0_3 l0_3.length l0_3) (hc0_3 : l0_3.length ≤ c0_3) (htab : TabT w) (h : impl_TensorText.f k a0_0 a0_1 a0_2 l0_3 = some r) :
   Calls Tryd.prog 33 #[.agg #[.int .i64 a0_0, .int .i64 a0_1, .int .i64 a0_2, .slice A0_3 l0_3.length c0_3]] w fun e w' => e = .returned (.string r) ∧ Below w.heap.size w w' := by
  have HTB := am htab;clear htab;have hu38 := Tryd.underlying38;have hu29 := Tryd.underlying29;have HR0_3 := am hr0_3;have HC0_3 := am hc0_3;clear hr0_3 hc0_3;have HB := am (Below.refl w.heap.size w);have H : ((impl_TensorOk.f k a0_0 a0_1 a0_2 l0_3).bind fun t184 => (if t184 = true then ((impl_Shape_sides.f a0_0 a0_1 a0_2).bind fun t185 => (if t185.size + 1 ≤ 9223372036854775807 then ((impl_spaced.f l0_3).bind fun t186 => (if (t185 ++ (⟨#[58]⟩ : ByteArray)).size + t186.size ≤ 9223372036854775807 then (some ((t185 ++ (⟨#[58]⟩ : ByteArray)) ++ t186)) else (none))) else (none))) else (some (⟨#[]⟩ : ByteArray)))) = some r := h;clear h;obtain ⟨t184, A2, H⟩ := bnd H;(try dsimp only at H);by_cases c3 : t184 = true;rotate_left
  ·replace c3 := Bool.eq_false_iff.mpr c3;subst c3
   rw [if_neg (show ¬ (false = true) by decide)] at H
   obtain rfl := Option.some.inj H
   go_enter Tryd.func33, Tryd.ntmps33
   go_wp2_with (first | ((with_reducible refine gate_dst (N := 1) rfl ?_); refine boxM 1 #[.int .i64 a0_0, .int .i64 a0_1, .int .i64 a0_2, .slice A0_3 l0_3.length c0_3] 38 ?_; intro gb183 hg w14 BK183 hb; obtain ⟨HB, GW183, GE183⟩ := box_at w hb hg; clear hb hg; have hcz15 := cells4 BK183.out) | ((with_reducible refine gate_callee (f := 57) rfl ?_); refine gM 4 Tryd.func57 #[.agg #[.int .i64 a0_0, .int .i64 a0_1, .int .i64 a0_2, .slice A0_3 l0_3.length c0_3]] rfl ?_; (with_reducible refine (impl_TensorOk.calls k a0_0 a0_1 a0_2 _ _ l0_3 false _ ?side1 HC0_3.out A2.out).mono ?_); (case side1 => exact C_now HR0_3.out); rintro e w16 ⟨rfl, hb⟩; refine ⟨_, rfl, ?_⟩; replace HB := bel_on w hb; replace BK183 := blk_on gb183 hb; (try clear hb); (try clear hb2); (try clear hb3); (try clear hk); (try clear hi)))
   go_ret
   exact ⟨eqN, bel_now⟩
  subst c3;rw [if_pos rfl] at H;obtain ⟨t185, A4, H⟩ := bnd H;(try dsimp only at H);obtain ⟨c5, H⟩ := gd H;have c5b0 := eq_true c5;have c5b1 : decide (t185.size + 1 ≤ 9223372036854775807) = true := decide_eq_true c5
  try have c5b2 : (9223372036854775807 < t185.size + 1) = False := eq_false (Nat.not_lt.2 c5)
  obtain ⟨t186, A6, H⟩ := bnd H;(try dsimp only at H);obtain ⟨c7, H⟩ := gd H;have c7b0 := eq_true c7;have c7b1 : decide ((t185 ++ (⟨#[58]⟩ : ByteArray)).size + t186.size ≤ 9223372036854775807) = true := decide_eq_true c7
  try have c7b2 : (9223372036854775807 < (t185 ++ (⟨#[58]⟩ : ByteArray)).size + t186.size) = False := eq_false (Nat.not_lt.2 c7)
  try have c7b3 : (9223372036854775807 < t185.size + 1 + t186.size) = False := eq_false (by have h_ := c7; simp only [ByteArray.size_append, show (⟨#[58]⟩ : ByteArray).size = 1 from rfl] at h_; omega)
  obtain rfl := Option.some.inj H
  go_enter Tryd.func33, Tryd.ntmps33
  try go_wp2_with (first | ((with_reducible refine gate_dst (N := 1) rfl ?_); refine boxM 1 #[.int .i64 a0_0, .int .i64 a0_1, .int .i64 a0_2, .slice A0_3 l0_3.length c0_3] 38 ?_; intro gb183 hg w8 BK183 hb; obtain ⟨HB, GW183, GE183⟩ := box_at w hb hg; clear hb hg; have hcz9 := cells4 BK183.out) | ((with_reducible refine gate_callee (f := 57) rfl ?_); refine gM 4 Tryd.func57 #[.agg #[.int .i64 a0_0, .int .i64 a0_1, .int .i64 a0_2, .slice A0_3 l0_3.length c0_3]] rfl ?_; (with_reducible refine (impl_TensorOk.calls k a0_0 a0_1 a0_2 _ _ l0_3 true _ ?side1 HC0_3.out A2.out).mono ?_); (case side1 => exact C_now HR0_3.out); rintro e w10 ⟨rfl, hb⟩; refine ⟨_, rfl, ?_⟩; replace HB := bel_on w hb; replace BK183 := blk_on gb183 hb; (try clear hb); (try clear hb2); (try clear hb3); (try clear hk); (try clear hi)))
  replace BK183 := am (blk_drew BK183.out);replace HB := am (below_drew1 HB.out)
  refine start_ (n := 9) (S := fun w' => w'.cell? ⟨gb183, 0, none⟩ = some (.int .i64 a0_0) ∧ w'.cell? ⟨gb183, 1, none⟩ = some (.int .i64 a0_1) ∧ w'.cell? ⟨gb183, 2, none⟩ = some (.int .i64 a0_2) ∧ w'.cell? ⟨gb183, 3, none⟩ = some (.slice A0_3 l0_3.length c0_3)) (ds := []) #[O, O, O, O, O, O, O, O, O] (by kernel_rfl) rfl rfl ⟨bc BK183 0, bc BK183 1, bc BK183 2, bc BK183 3⟩ (fun hHeld => ?_); refine with_tabW impl_TensorText.tab3 impl_TensorText.bits3 (fun HT_ HW_ => ?_)
  generalize w10.drew = w11 at BK183 HB hHeld ⊢
  refine stepP 0 (some 6) (tk 9 1) (any_of HT_.out (by kernel_rfl)) ?_
  refine stepP 4 (some 10) (tk 9 17) (any_of HT_.out (by kernel_rfl)) ?_
  refine stepT 1 (some 7) (tk 9 19) (take_ofW HT_.out HW_.out (by kernel_rfl)) hHeld ?_
  refine stepT 5 (some 11) (tk 9 51) (take_ofW HT_.out HW_.out (by kernel_rfl)) hHeld ?_
  refine one_ (i := 2) (N := some 8) #[I, I, I, O, I, I, O, O, O] rfl rfl (one_of HT_.out (by kernel_rfl)) (by decide) (fun K hK => ?_)
  refine goes_ Tryd.func22 (by kernel_rfl) rfl #[.agg #[.int .i64 a0_0, .int .i64 a0_1, .int .i64 a0_2]] (by rfl) rfl rfl (by (try simp only [List.map_toArray, List.map_cons, List.map_nil]); first | done | rfl | (simp only [List.length_drop, List.length_take]; rfl)) ?_
  with_reducible refine (impl_Shape_sides.calls (htab := tab_now HTB) a0_0 a0_1 a0_2 t185 _ A4.out).mono ?_
  rintro e w12 ⟨rfl, hb⟩
  refine ⟨_, rfl, ?_⟩
  replace BK183 := blk_on gb183 hb;replace HB := bel_on w hb;(try clear hb);(try clear hb2);(try clear hb3);(try clear hk);(try clear hi)
  refine hK.out _ _ ⟨bc BK183 0, bc BK183 1, bc BK183 2, bc BK183 3⟩ (fun hHeld => ?_)
  clear hK K
  refine normP 8 ?_
  refine stepP 3 (some 9) (tk 9 63) (any_of HT_.out (by kernel_rfl)) ?_
  refine one_ (i := 6) (N := some 12) #[I, I, I, I, I, I, I, O, O] rfl rfl (one_of HT_.out (by kernel_rfl)) (by decide) (fun K hK => ?_)
  refine goes_ Tryd.func44 (by kernel_rfl) rfl #[.slice A0_3 l0_3.length c0_3] (by rfl) rfl rfl (by (try simp only [List.map_toArray, List.map_cons, List.map_nil]); first | done | rfl | (simp only [List.length_drop, List.length_take]; rfl)) ?_
  with_reducible refine (impl_spaced.calls (htab := tab_now HTB) _ _ l0_3 t186 _ ?side1 ?side2 A6.out).mono ?_
  (case side1 => exact C_now HR0_3.out)
  (case side2 => exact HC0_3.out)
  rintro e w13 ⟨rfl, hb⟩
  refine ⟨_, rfl, ?_⟩
  replace BK183 := blk_on gb183 hb;replace HB := bel_on w hb;(try clear hb);(try clear hb2);(try clear hb3);(try clear hk);(try clear hi)
  refine hK.out _ _ ⟨bc BK183 0, bc BK183 1, bc BK183 2, bc BK183 3⟩ (fun hHeld => ?_)
  clear hK K
  refine normP 12 ?_
  refine stepP 7 (some 13) (tk 9 255) (any_of HT_.out (by kernel_rfl)) ?_
  refine stepP 8 (some 2) (tk 9 511) (any_of HT_.out (by kernel_rfl)) ?_
  refine done_ (done_of HT_.out (by kernel_rfl)) ?_
  try go_wp2
  go_ret
  exact ⟨eqN, bel_now⟩

mutual
def impl_ParseTensor.j0 : Nat → ByteArray → List ByteArray → List ByteArray → Bool → Option (Int × Int × Int × List Int × Bool)
  | 0, _, _, _, _ => none
  | k + 1, x0, x7, x8, x33 => if x33 = true then (some (0, 0, 0, ([] : List Int), false)) else (if 0 < (x7.length : Int) then ((strconv_Atoi.f (rdOf ByteArray.empty x7 0)).bind fun t199 => (if 1 < (x7.length : Int) then ((strconv_Atoi.f (rdOf ByteArray.empty x7 1)).bind fun t201 => (if 2 < (x7.length : Int) then ((strconv_Atoi.f (rdOf ByteArray.empty x7 2)).bind fun t203 => (if 1 ≤ (x8.length : Int) then ((some (x8.drop 1 : List ByteArray)).bind fun y204 => (impl_ParseTensor.l0 k x0 y204 (y204.length : Int) 0 t199 t201 t203 ([] : List Int))) else (none))) else (none))) else (none))) else (none))
def impl_ParseTensor.l0 : Nat → ByteArray → List ByteArray → Int → Int → Int → Int → Int → List Int → Option (Int × Int × Int × List Int × Bool)
  | 0, _, _, _, _, _, _, _, _ => none
  | k + 1, x0, x61, x62, x63, x198000, x198001, x198002, x198003 => if x63 < x62 then (if 0 ≤ x63 then (if x63 < (x61.length : Int) then ((strconv_Atoi.f (rdOf ByteArray.empty x61 x63)).bind fun t209 => (if x198003.length < 17592186044416 then (impl_ParseTensor.l0 k x0 x61 x62 (wrap64 (x63 + 1)) x198000 x198001 x198002 (x198003 ++ [t209])) else (none))) else (none)) else (none)) else (if x0.toList = ([] : List UInt8) then (some (0, 0, 0, ([] : List Int), false)) else ((impl_TensorText.f k x198000 x198001 x198002 x198003).bind fun t213 => (if t213.toList = x0.toList then (some (x198000, x198001, x198002, x198003, true)) else (some (0, 0, 0, ([] : List Int), false)))))
end
def impl_ParseTensor.f (k : Nat) (a0 : ByteArray) : Option (Int × Int × Int × List Int × Bool) := (strings_Cut.f a0 (⟨#[58]⟩ : ByteArray)).bind fun bt188 => ((strings_Split.f bt188.1 (⟨#[120]⟩ : ByteArray)).bind fun t191 => ((strings_Split.f bt188.2.1 (⟨#[32]⟩ : ByteArray)).bind fun t194 => (if (t191.length : Int) = 3 then (impl_ParseTensor.j0 k a0 t191 t194 (decide ((t194.length : Int) > 513))) else (impl_ParseTensor.j0 k a0 t191 t194 true))))
def pick4 {α : Type} (a b c d : α) : Nat → α
  | 0 => a
  | 1 => b
  | 2 => c
  | _ => d
def tenT (a b c : Int) : Nat → Array Value
  | 0 => #[.int .i64 0, .int .i64 0, .int .i64 0, .slice none 0 0]
  | 1 => #[.int .i64 a, .int .i64 0, .int .i64 0, .slice none 0 0]
  | 2 => #[.int .i64 a, .int .i64 b, .int .i64 0, .slice none 0 0]
  | _ => #[.int .i64 a, .int .i64 b, .int .i64 c, .slice none 0 0]
def ptrs3 (g : Nat) : Array Value := #[.pointer (some ⟨g, 0, none⟩), .pointer (some ⟨g, 1, none⟩), .pointer (some ⟨g, 2, none⟩)]
theorem blk_alloc_at {W : World} {n : Nat} {o : Obj} (h : n = W.heap.size) : (W.alloc o).heap[n]? = some o := by
  subst h
  exact heap_alloc_new W o
theorem lt3 {i : Nat} (h : i < 3) : i = 0 ∨ i = 1 ∨ i = 2 := by omega
theorem ptrs3_get (g : Nat) {i : Nat} (h : i < 3) : (ptrs3 g)[i]? = some (.pointer (some ⟨g, i, none⟩)) := by
  rcases lt3 h with rfl | rfl | rfl <;> rfl
theorem tenT_get (a b c : Int) {i : Nat} (hi : i < 3) : (tenT a b c i)[i]? = some (.int .i64 0) := by
  rcases lt3 hi with rfl | rfl | rfl <;> rfl
theorem tenT_set (a b c z : Int) {i : Nat} (hi : i < 3) : (tenT a b c i).setIfInBounds i (.int .i64 (pick4 a b c z i)) = tenT a b c (i + 1) := by
  rcases lt3 hi with rfl | rfl | rfl <;> rfl
theorem impl_ParseTensor.calls (k : Nat) (a0 : ByteArray) (r1 : Int) (r2 : Int) (r3 : Int) (r4 : List Int) (r5 : Bool) (w : World) (htab : TabT w) (h : impl_ParseTensor.f k a0 = some (r1, r2, r3, r4, r5)) :
   Calls Tryd.prog 11 #[.string a0] w fun e w' => ∃ v3_ : Value, e = .returned (.tuple #[.agg #[.int .i64 r1, .int .i64 r2, .int .i64 r3, v3_], .bool r5]) ∧ Kd.R (Kd.int .i64) 3 w' w.heap.size (fun _ => True) v3_ r4 ∧ Below w.heap.size w w' := by
  have HTB := am htab;clear htab;have hu38 := Tryd.underlying38;have HB := am (Below.refl w.heap.size w);have H : ((strings_Cut.f a0 (⟨#[58]⟩ : ByteArray)).bind fun bt188 => ((strings_Split.f bt188.1 (⟨#[120]⟩ : ByteArray)).bind fun t191 => ((strings_Split.f bt188.2.1 (⟨#[32]⟩ : ByteArray)).bind fun t194 => (if (t191.length : Int) = 3 then (impl_ParseTensor.j0 k a0 t191 t194 (decide ((t194.length : Int) > 513))) else (impl_ParseTensor.j0 k a0 t191 t194 true))))) = some (r1, r2, r3, r4, r5) := h;clear h;replace H := Option.bind_eq_some_iff.mp H;obtain ⟨⟨t188, t189, t190⟩, A20, H⟩ := H;(try dsimp only at H);have A2 := am A20;clear A20;obtain ⟨t191, A3, H⟩ := bnd H;(try dsimp only at H);obtain ⟨t194, A4, H⟩ := bnd H;(try dsimp only at H);have HC5 := am H;clear H
  go_enter Tryd.func11, Tryd.ntmps11
  go_upto_region 4 with (first | ((with_reducible refine gate_dst (N := 2) rfl ?_); (try (refine gate_guard (by rfl) ?_; dsimp only)); refine boxM 2 #[.int .i64 0, .int .i64 0, .int .i64 0, .slice none 0 0] 38 ?_; intro gb187 hg w6 BK187 hb; obtain ⟨HB, GW187, GE187⟩ := box_at w hb hg; clear hb hg) | ((with_reducible refine gate_callee (f := 30) rfl ?_); refine gM 18 Tryd.func30 #[.string a0, .string (⟨#[58]⟩ : ByteArray)] rfl ?_; (with_reducible refine (strings_Cut.calls (htab := tab_now HTB) a0 (⟨#[58]⟩ : ByteArray) t188 t189 t190 _ A2.out).mono ?_); rintro e w7 ⟨rfl, hb⟩; refine ⟨_, rfl, ?_⟩; replace HB := bel_on w hb; replace BK187 := blk_on gb187 hb; (try clear hb); (try clear hb2); (try clear hb3); (try clear hk); (try clear hi)) | ((with_reducible refine gate_callee (f := 31) rfl ?_); refine gM 23 Tryd.func31 #[.string t188, .string (⟨#[120]⟩ : ByteArray)] rfl ?_; (with_reducible refine (strings_Split.calls (htab := tab_now HTB) t188 (⟨#[120]⟩ : ByteArray) t191 _ A3.out).mono ?_); rintro e w8 ⟨v192, rfl, ho0, hb⟩; refine ⟨_, rfl, ?_⟩; have n0_ := am (Kd.R_lower ho0 (below_size bel_now)); replace HB := bel_on w hb; replace BK187 := blk_on gb187 hb; have HO193 := n0_; clear n0_; (try clear hb); (try clear hb2); (try clear hb3); (try clear hk); (try clear hi); (try clear ho0)) | ((with_reducible refine gate_callee (f := 31) rfl ?_); refine gM 25 Tryd.func31 #[.string t189, .string (⟨#[32]⟩ : ByteArray)] rfl ?_; (with_reducible refine (strings_Split.calls (htab := tab_now HTB) t189 (⟨#[32]⟩ : ByteArray) t194 _ A4.out).mono ?_); rintro e w9 ⟨v195, rfl, ho0, hb⟩; refine ⟨_, rfl, ?_⟩; have n1_ := am (Kd.R_lower (Kd.R_new' ho0 (Kd.R_lt (R_at HO193.out))) (below_size bel_now)); replace HO193 := am (Kd.R_elder' (R_at HO193.out) (Kd.R_base ho0) hb); replace HB := bel_on w hb; replace BK187 := blk_on gb187 hb; have HO196 := n1_; clear n1_; (try clear hb); (try clear hb2); (try clear hb3); (try clear hk); (try clear hi); (try clear ho0)))
  (try simp only [Act.put, zA, zB, zC])
  go_cut [33] (fun v33 wc => ∃ (kq : Nat) (x33_4 : Bool), v33 = .bool x33_4 ∧ Aside0 (impl_ParseTensor.j0 kq a0 t191 t194 x33_4 = some (r1, r2, r3, r4, r5)) ∧ Aside0 (kq ≤ k) ∧ Aside0 (Kd.R Kd.string 9 wc w.heap.size (fun k_ => some k_ ≠ (v195 : Value).ownBlock) v192 t191) ∧ Aside0 (Kd.R Kd.string 9 wc w.heap.size (fun k_ => some k_ ≠ (v192 : Value).ownBlock) v195 t194) ∧ Aside0 (wc.heap[gb187]? = some (.cells #[.int .i64 0, .int .i64 0, .int .i64 0, (.slice none 0 0)] 38 (0, 0))) ∧ Aside0 (Below w.heap.size w wc))
  case first =>
   have H := HC5.out;clear HC5;by_cases c10 : (t191.length : Int) = 3;rotate_left
   ·rw [if_neg c10] at H;have c10b0 : ((t191.length : Int) == 3) = false := beq_eq_false_iff_ne.mpr c10;have c10b1 : ((t191.length : Int) != 3) = true := bne_iff_ne.mpr c10
    (first | rw [c10b0] | (simp only [i64_w, i32_w]; rw [c10b0]) | skip)
    have H' := am H;clear H;obtain ⟨Ao13, co13, eo13⟩ := Kd.R_slice HO193.out;subst eo13
    go_wp2
    go_meet
    case rel => exact ⟨_, (true), pv, H', ⟨by first | omega | exact Nat.le_refl _⟩, ⟨by (with_reducible repeat (first | apply Kd.R_alloc | apply Kd.R_drewN | apply Kd.R_drew)); exact Kd.R_mono HO193.out (fun _ hk => hk.2)⟩, ⟨by (with_reducible repeat (first | apply Kd.R_alloc | apply Kd.R_drewN | apply Kd.R_drew)); exact Kd.R_mono HO196.out (fun _ hk => hk.2)⟩, ⟨bks BK187⟩, ⟨bel_now⟩⟩
   rw [if_pos c10] at H;have c10b0 : ((t191.length : Int) == 3) = true := beq_iff_eq.mpr c10;have c10b1 : ((t191.length : Int) != 3) = false := bne_eq_false_iff_eq.mpr c10;clear c10
   (first | rw [c10b0] | (simp only [i64_w, i32_w]; rw [c10b0]) | skip)
   have H' := am H;clear H;obtain ⟨Ao11, co11, eo11⟩ := Kd.R_slice HO193.out;subst eo11;obtain ⟨Ao12, co12, eo12⟩ := Kd.R_slice HO196.out;subst eo12
   go_wp2
   go_meet
   case rel => exact ⟨_, (decide ((t194.length : Int) > 513)), pv, H', ⟨by first | omega | exact Nat.le_refl _⟩, ⟨by (with_reducible repeat (first | apply Kd.R_alloc | apply Kd.R_drewN | apply Kd.R_drew)); exact Kd.R_mono HO193.out (fun _ hk => hk.2)⟩, ⟨by (with_reducible repeat (first | apply Kd.R_alloc | apply Kd.R_drewN | apply Kd.R_drew)); exact Kd.R_mono HO196.out (fun _ hk => hk.2)⟩, ⟨bks BK187⟩, ⟨bel_now⟩⟩
  case rest =>
   clear HC5;obtain ⟨kq, x33_4, rfl, HA, HJ4, HO_7, HO_8, BK187, HB⟩ := hcut
   cases kq with
   | zero => exact absurd HA.out (by simp [impl_ParseTensor.j0])
   | succ kj4 =>
    have H := HA.out;clear HA;simp only [impl_ParseTensor.j0] at H;by_cases c14 : x33_4 = true
    ·subst c14;rw [if_pos rfl] at H;simp only [Option.some.injEq, Prod.mk.injEq] at H;obtain ⟨rfl, rfl, rfl, rfl, rfl⟩ := H;have hcz15 := cells4 BK187.out
     go_wp2
     refine bodyPost_ret (results_ct rfl _ _ gb187 38 #[.int .i64 0, .int .i64 0, .int .i64 0, .slice none 0 0] (0, 0) _ rfl (blk_fars (puts4 BK187.out)) Tryd.underlying38 rfl (by kernel_rfl)) rfl ?_
     exact ⟨_, eqN, by first | exact Kd.R_nil _ _ _ _ _ | exact Kd.N_nil _ _ _ _ _ | exact Kd.V_nil _ _ _ _ _ | exact Kd.Q_nil _ _ _ _ _ | exact Kd.S_nil _ _ _ _ _, bel_now⟩
    replace c14 := Bool.eq_false_iff.mpr c14;subst c14
    rw [if_neg (show ¬ (false = true) by decide)] at H
    obtain ⟨c16, H⟩ := gd H;have c16b0 : decide (0 < (t191.length : Int)) = true := decide_eq_true c16;have c16b1 : decide (0 < t191.length) = true := decide_eq_true (by omega);clear c16;obtain ⟨t199, A17, H⟩ := bnd H;(try dsimp only at H);obtain ⟨c18, H⟩ := gd H;have c18b0 : decide (1 < (t191.length : Int)) = true := decide_eq_true c18;have c18b1 : decide (1 < t191.length) = true := decide_eq_true (by omega);clear c18;obtain ⟨t201, A19, H⟩ := bnd H;(try dsimp only at H);obtain ⟨c20, H⟩ := gd H;have c20b0 : decide (2 < (t191.length : Int)) = true := decide_eq_true c20;have c20b1 : decide (2 < t191.length) = true := decide_eq_true (by omega);clear c20;obtain ⟨t203, A21, H⟩ := bnd H;(try dsimp only at H);obtain ⟨c22, H⟩ := gd H;have c22b0 := eq_true c22;have c22b1 : decide (1 ≤ (t194.length : Int)) = true := decide_eq_true c22;clear c22;obtain ⟨y204, hy204⟩ : ∃ y_ : List ByteArray, y_ = (t194.drop 1) := ⟨_, rfl⟩;replace H : (impl_ParseTensor.l0 kj4 a0 y204 (y204.length : Int) 0 t199 t201 t203 ([] : List Int)) = some (r1, r2, r3, r4, r5) := by first | (rw [hy204]; with_reducible exact H) | (have H2_ := (Option.bind_some _ _).symm.trans H; rw [hy204]; with_reducible exact H2_) | (have H2_ := (Option.bind_some _ _).symm.trans H; with_reducible exact H2_) | with_reducible exact H | (rw [hy204]; exact H) | exact H
    have Ny204 := am hy204;clear hy204;have H' := am H;clear H
    go_wp2_with (first | ((with_reducible refine gate_dst (N := 9) rfl ?_); (try (refine gate_guard (by rfl) ?_; dsimp only)); refine boxM 9 #[.int .i64 0, .int .i64 0, .int .i64 0, .slice none 0 0] 38 ?_; intro gb197 hg w23 BK197 hb; obtain ⟨HB, GW197, GE197⟩ := box_at w hb hg; obtain ⟨BK187, NB187_197, NB197_187⟩ := box_on gb187 hb hg; replace HO_7 := am (Kd.R_below (R_at HO_7.out) hb); replace HO_8 := am (Kd.R_below (R_at HO_8.out) hb); clear hb hg; have hn24 := ne2 NB197_187; have hcz25 := cells4 BK197.out; obtain ⟨Ao26, co26, eo26⟩ := Kd.R_slice HO_7.out; subst eo26))
    have h3_ := Aside0.mk (show 2 < t191.length from by first | omega | (have := of_decide_eq_true c20b0; omega))
    obtain ⟨ad_, e_, h0_⟩ := Kd.at_string (Kd.R_reads' HO_7.out).2.2 0 (by omega) (by have := h3_.out; omega)
    cases e_
    clear h0_
    have hnum := Aside0.mk (show ∀ i : Nat, i < 3 → strconv_Atoi.f (rdOf ByteArray.empty t191 (i : Int)) = some (pick4 t199 t201 t203 0 i) from fun i hi => by
      rcases lt3 hi with rfl | rfl | rfl
      · exact A17.out
      · exact A19.out
      · exact A21.out)
    have hl1 := blk_lt BK197.out
    have hl2 := blk_lt BK187.out
    obtain ⟨gp, hgp⟩ : ∃ n : Nat, n = w23.heap.size := ⟨_, rfl⟩
    rw [← hgp]
    have NBpr := Aside0.mk (show gp ≠ gb187 by omega)
    have NBpl := Aside0.mk (show gp ≠ gb197 by omega)
    clear hl1 hl2
    go_loopg [44] 3 (fun kq v44 w' => ∃ i : Nat, v44 = .int .i64 (i : Int) ∧ Aside0 (i ≤ 3 ∧ 3 - i ≤ kq) ∧ Aside0 (Kd.R Kd.string 9 w' w.heap.size (fun k_ => True) (.slice (some ad_) t191.length co26) t191) ∧ Aside0 (Kd.R Kd.string 9 w' w.heap.size (fun k_ => True) v195 t194) ∧ Aside0 (w'.heap[gb187]? = some (.cells #[.int .i64 0, .int .i64 0, .int .i64 0, .slice none 0 0] 38 (0, 0))) ∧ Aside0 (w'.heap[gb197]? = some (.cells (tenT t199 t201 t203 i) 38 (0, 0))) ∧ Aside0 (w'.heap[gp]? = some (.cells (ptrs3 gb197) 64 (0, 0))) ∧ Aside0 (Below w.heap.size w w'))
    case atStart => exact ⟨0, rfl, ⟨by omega⟩, ⟨Kd.R_alloc (Kd.R_mono (R_far4 HO_7.out BK197.out (by decide)) (fun _ _ => trivial)) _⟩, ⟨Kd.R_alloc (Kd.R_mono (R_far4 HO_8.out BK197.out (by decide)) (fun _ _ => trivial)) _⟩, ⟨blk_alloc (blk_fars BK187.out) _⟩, ⟨blk_alloc (blk_fars (puts4 BK197.out)) _⟩, ⟨blk_alloc_at (by rw [hgp]; simp)⟩, ⟨bel_now⟩⟩
    case round =>
      clear HO_7 HO_8 BK187 BK197 HB hgp
      obtain ⟨i, rfl, hi3, HO_7, HO_8, BK187, BK197, BKp, HB⟩ := hrel
      by_cases c : i < 3
      · have cb : decide ((i : Int) < 3) = true := decide_eq_true (by omega)
        have p1 : (0 ≤ (i : Int)) = True := eq_true (by omega)
        have p2 : ((i : Int) < 3) = True := eq_true (by omega)
        have p3 : ((i : Int) < (t191.length : Int)) = True := eq_true (by have := h3_.out; omega)
        have hcp := (blk_cell BKp.out i).trans (ptrs3_get gb197 c)
        obtain ⟨ad2, e2, hx⟩ := Kd.at_string (Kd.R_reads' HO_7.out).2.2 (i : Int) (by omega) (by have := h3_.out; omega)
        obtain rfl : ad_ = ad2 := by injection e2
        rw [Int.toNat_natCast] at hx
        have hw4 := Aside0.mk (show IntKind.i64.wrap ((i : Int) + 1) = ((i + 1 : Nat) : Int) by (unfold IntKind.wrap; simp [IntKind.bits, IntKind.signed]; omega))
        go_wp2_with (first | ((with_reducible refine gate_callee (f := 32) rfl ?_); refine gM 55 Tryd.func32 #[.string (rdOf ByteArray.empty t191 (i : Int))] rfl ?_; (with_reducible refine (strconv_Atoi.calls (htab := tab_now HTB) (rdOf ByteArray.empty t191 (i : Int)) (pick4 t199 t201 t203 0 i) _ (hnum.out i c)).mono ?_); rintro e w16 ⟨ev_, rfl, hb⟩; refine ⟨_, rfl, ?_⟩; replace HO_7 := am (Kd.R_below (R_at HO_7.out) hb); replace HO_8 := am (Kd.R_below (R_at HO_8.out) hb); replace HB := bel_on w hb; replace BK187 := blk_on gb187 hb; replace BK197 := blk_on gb197 hb; replace BKp := blk_on gp hb; (try clear hb); have hcl := (blk_cell BK197.out i).trans (tenT_get _ _ _ c); have hfl := blk_frozen BK197.out i))
        go_roundg (gk - 1)
        case measure => have := hi3.out; omega
        case rel => exact ⟨i + 1, by first | (rw [hw4.out]; done) | exact congrArg (Value.int .i64) (by omega), ⟨by have := hi3.out; omega⟩, ⟨Kd.R_mono (Kd.R_far (p := ⟨gb197, i, none⟩) (Kd.R_mono (Kd.R_types HO_7.out BK197.out (by decide)) (fun _ hk => hk.2)) (fun _ hk => hk) _) (fun _ _ => trivial)⟩, ⟨Kd.R_mono (Kd.R_far (p := ⟨gb197, i, none⟩) (Kd.R_mono (Kd.R_types HO_8.out BK197.out (by decide)) (fun _ hk => hk.2)) (fun _ hk => hk) _) (fun _ _ => trivial)⟩, ⟨blk_far BK187.out NB187_197.out _⟩, ⟨by rw [← tenT_set _ _ _ 0 c]; exact blk_put BK197.out i _ rfl⟩, ⟨blk_far BKp.out NBpl.out _⟩, ⟨bel_now⟩⟩
      · have hi' := hi3.out
        obtain rfl : i = 3 := by omega
        have cb : decide (((3 : Nat) : Int) < 3) = false := rfl
        simp only [tenT] at BK197
        obtain ⟨Ao35, co35, eo35⟩ := Kd.R_slice HO_8.out;subst eo35;have q34 : (1 : Int) ≤ ((t194.length : Int) : Int) := of_decide_eq_true (by first | (with_reducible assumption) | assumption);obtain ⟨i034, hi034, _, hsz34, _⟩ := info_parts info9;have hroom34 : t194.length ≤ co35 := (Kd.R_reads' HO_8.out).2.1;have hC34 : Kd.C Kd.string _ Ao35 t194.length t194 := (Kd.R_reads' HO_8.out).2.2;have hcut34 := cut_from (P := Tryd.prog) 53 9 .i64 Tryd.underlying53 hi034 1 hsz34 Ao35 t194.length co35 1 (by omega) q34;have hr34 := Kd.C_drop (m := (1 : Int).toNat) (c := co35) hC34 (by omega) hroom34;obtain ⟨A34, hA34⟩ : ∃ A1, A1 = (if co35 = (1 : Int).toNat then Ao35 else (Ao35 : Option Addr).map (·.add ((1 : Int).toNat * 1))) := ⟨_, rfl⟩;obtain ⟨c34, hc34⟩ : ∃ c1, c1 = co35 - (1 : Int).toNat := ⟨_, rfl⟩;have hy34 : y204.length = t194.length - (1 : Int).toNat := (by rw [Ny204.out, List.length_drop] <;> omega);rw [show (t194).drop (1 : Int).toNat = y204 from Ny204.out.symm] at hr34;replace hr34 : Kd.C Kd.string _ A34 y204.length y204 := (by rw [hA34];exact hr34);rw [← hy34, ← hA34, ← hc34] at hcut34;have HR207 := am hr34;have HC207 := am (show y204.length ≤ c34 from by rw [hy34, hc34];exact Nat.sub_le_sub_right hroom34 _);clear hr34 hC34 hroom34 hi034 hsz34 hc34;have KY34 := am hy34;have KA34 := am hA34;clear hy34 hA34;have KL34 := am (show 1 ≤ t194.length from by omega);replace q34 := eq_true q34
        clear HR207
        have HRf := Aside0.mk (show ∀ w1 : World, Kd.R Kd.string 9 w1 w.heap.size (fun _ => True) (.slice Ao35 t194.length co35) t194 → Kd.C Kd.string w1 A34 y204.length y204 from fun w1 h1 => by
          have h2 := Kd.C_drop (m := (1 : Int).toNat) (c := co35) (Kd.R_reads' h1).2.2 (by have := KL34.out; simpa using this) (Kd.R_reads' h1).2.1
          rw [show (t194).drop (1 : Int).toNat = y204 from Ny204.out.symm] at h2
          rw [KA34.out]; exact h2)
        go_wp2
        go_loopg [63] kj4 (fun kq v63 w' => ∃ (x63_2 : Int) (x198003_2 : List Int) (u198003 : Value), v63 = .int .i64 x63_2 ∧ Aside0 (impl_ParseTensor.l0 kq a0 y204 (y204.length : Int) x63_2 t199 t201 t203 x198003_2 = some (r1, r2, r3, r4, r5)) ∧ Aside0 (kq ≤ kj4) ∧ Aside0 (Kd.R (Kd.int .i64) 3 w' w.heap.size (fun _ => True) u198003 x198003_2) ∧ Aside0 (Kd.R Kd.string 9 w' w.heap.size (fun _ => True) (.slice Ao35 t194.length co35) t194) ∧ Aside0 (w'.heap[gb187]? = some (.cells #[.int .i64 0, .int .i64 0, .int .i64 0, (.slice none 0 0)] 38 (0, 0))) ∧ Aside0 (w'.heap[gb197]? = some (.cells #[.int .i64 t199, .int .i64 t201, .int .i64 t203, u198003] 38 (0, 0))) ∧ Aside0 (Below w.heap.size w w'))
        case atStart => exact ⟨(0), (([] : List Int)), (.slice none 0 0), pv, H', ⟨Nat.le_refl _⟩, ⟨by first | exact Kd.R_nil _ _ _ _ _ | exact Kd.N_nil _ _ _ _ _ | exact Kd.V_nil _ _ _ _ _ | exact Kd.Q_nil _ _ _ _ _ | exact Kd.S_nil _ _ _ _ _⟩, ⟨R_at HO_8.out⟩, ⟨bks BK187⟩, ⟨bks BK197⟩, ⟨bel_now⟩⟩
        case round =>
         clear H';try clear c1
         try clear c14
         try clear c16
         try clear c16b0
         try clear c16b1
         try clear c18
         try clear c18b0
         try clear c18b1
         try clear c20
         try clear c20b0
         try clear c20b1
         try clear c22
         try clear c22b0
         try clear c22b1
         try clear c34
         try clear q34 q34
         try clear hcz25
         try clear hcz28
         try clear hcz30
         try clear hcz32
         try clear hx198_0
         try clear hx200_0
         try clear hx202_0
         try clear p198
         try clear p200
         try clear p202
         try clear q198
         try clear q200
         try clear q202
         clear HO_8;obtain ⟨x63_2, x198003_2, u198003, rfl, HA, HK2, HO_198003, HO_8, BK187, BK197, HB⟩ := hrel
         cases gk with
         | zero => exact absurd HA.out (by simp [impl_ParseTensor.l0])
         | succ k2 =>
          have H := HA.out;clear HA;simp only [impl_ParseTensor.l0] at H;by_cases c36 : x63_2 < (y204.length : Int);rotate_left
          ·rw [if_neg c36] at H;have c36b0 : decide (x63_2 < (y204.length : Int)) = false := decide_eq_false c36;clear c36;by_cases c47 : a0.toList = ([] : List UInt8)
           ·rw [if_pos c47] at H;have c47b0 : (a0.toList == ([] : List UInt8)) = true := beq_iff_eq.mpr c47;have c47b1 : (a0.toList != ([] : List UInt8)) = false := bne_eq_false_iff_eq.mpr c47;clear c47;simp only [Option.some.injEq, Prod.mk.injEq] at H;obtain ⟨rfl, rfl, rfl, rfl, rfl⟩ := H;have hn48 := ne2 NB187_197;have hcz49 := cells4 BK187.out
            go_wp2
            refine bodyPost_ret (results_ct rfl _ _ gb187 38 #[.int .i64 0, .int .i64 0, .int .i64 0, .slice none 0 0] (0, 0) _ rfl (blk_fars (puts4 BK187.out)) Tryd.underlying38 rfl (by kernel_rfl)) rfl ?_
            exact ⟨_, eqN, by first | exact Kd.R_nil _ _ _ _ _ | exact Kd.N_nil _ _ _ _ _ | exact Kd.V_nil _ _ _ _ _ | exact Kd.Q_nil _ _ _ _ _ | exact Kd.S_nil _ _ _ _ _, bel_now⟩
           rw [if_neg c47] at H;have c47b0 : (a0.toList == ([] : List UInt8)) = false := beq_eq_false_iff_ne.mpr c47;have c47b1 : (a0.toList != ([] : List UInt8)) = true := bne_iff_ne.mpr c47;obtain ⟨t213, A50, H⟩ := bnd H;(try dsimp only at H);by_cases c51 : t213.toList = a0.toList;rotate_left
           ·rw [if_neg c51] at H;have c51b0 : (t213.toList == a0.toList) = false := beq_eq_false_iff_ne.mpr c51;have c51b1 : (t213.toList != a0.toList) = true := bne_iff_ne.mpr c51;simp only [Option.some.injEq, Prod.mk.injEq] at H;obtain ⟨rfl, rfl, rfl, rfl, rfl⟩ := H;have hn58 := ne2 NB197_187;have hcz59 := cells4 BK197.out;obtain ⟨Ao60, co60, eo60⟩ := Kd.R_slice HO_198003.out;subst eo60
            go_wp2_with (first | (go_at_call 33; (with_reducible refine (impl_TensorText.calls (htab := tab_now HTB) k2 t199 t201 t203 _ _ x198003_2 t213 _ ?side1 ?side2 A50.out).mono ?_); (case side1 => exact (Kd.R_reads' (R_at HO_198003.out)).2.2); (case side2 => exact (Kd.R_reads' HO_198003.out).2.1); rintro e w61 ⟨rfl, hb⟩; replace HO_198003 := am (Kd.R_below (R_at HO_198003.out) hb); replace HB := bel_on w hb; replace BK187 := blk_on gb187 hb; replace BK197 := blk_on gb197 hb; (try clear hb); (try clear hb2); (try clear hb3); (try clear hk); (try clear hi); have hcz62 := cells4 BK187.out))
            refine bodyPost_ret (results_ct rfl _ _ gb187 38 #[.int .i64 0, .int .i64 0, .int .i64 0, .slice none 0 0] (0, 0) _ rfl (blk_fars (puts4 BK187.out)) Tryd.underlying38 rfl (by kernel_rfl)) rfl ?_
            exact ⟨_, eqN, by first | exact Kd.R_nil _ _ _ _ _ | exact Kd.N_nil _ _ _ _ _ | exact Kd.V_nil _ _ _ _ _ | exact Kd.Q_nil _ _ _ _ _ | exact Kd.S_nil _ _ _ _ _, bel_now⟩
           rw [if_pos c51] at H;have c51b0 : (t213.toList == a0.toList) = true := beq_iff_eq.mpr c51;have c51b1 : (t213.toList != a0.toList) = false := bne_eq_false_iff_eq.mpr c51;clear c51;simp only [Option.some.injEq, Prod.mk.injEq] at H;obtain ⟨rfl, rfl, rfl, rfl, rfl⟩ := H;have hn52 := ne2 NB197_187;have hcz53 := cells4 BK197.out;obtain ⟨Ao54, co54, eo54⟩ := Kd.R_slice HO_198003.out;subst eo54
           go_wp2_with (first | (go_at_call 33; (with_reducible refine (impl_TensorText.calls (htab := tab_now HTB) k2 t199 t201 t203 _ _ x198003_2 t213 _ ?side1 ?side2 A50.out).mono ?_); (case side1 => exact (Kd.R_reads' (R_at HO_198003.out)).2.2); (case side2 => exact (Kd.R_reads' HO_198003.out).2.1); rintro e w55 ⟨rfl, hb⟩; replace HO_198003 := am (Kd.R_below (R_at HO_198003.out) hb); replace HB := bel_on w hb; replace BK187 := blk_on gb187 hb; replace BK197 := blk_on gb197 hb; (try clear hb); (try clear hb2); (try clear hb3); (try clear hk); (try clear hi); have hcz56 := cells4 BK197.out; have hcz57 := cells4 BK187.out))
           refine bodyPost_ret (results_ct rfl _ _ gb187 38 #[.int .i64 t199, .int .i64 t201, .int .i64 t203, .slice Ao54 x198003_2.length co54] (0, 0) _ rfl (blk_fars (puts4 BK187.out)) Tryd.underlying38 rfl (by kernel_rfl)) rfl ?_
           exact ⟨_, eqN, by (with_reducible repeat (first | apply Kd.R_alloc | apply Kd.R_drewN | apply Kd.R_drew)); exact Kd.R_mono (Kd.R_far (p := ⟨gb187, 3, none⟩) (Kd.R_far (p := ⟨gb187, 2, none⟩) (Kd.R_far (p := ⟨gb187, 1, none⟩) (Kd.R_far (p := ⟨gb187, 0, none⟩) (Kd.R_types HO_198003.out BK187.out (by decide)) (fun _ hk => hk.2) (.int .i64 t199)) (fun _ hk => hk.2) (.int .i64 t201)) (fun _ hk => hk.2) (.int .i64 t203)) (fun _ hk => hk.2) (.slice Ao54 x198003_2.length co54)) (fun _ hk => trivial), bel_now⟩
          rw [if_pos c36] at H;have c36b0 : decide (x63_2 < (y204.length : Int)) = true := decide_eq_true c36;clear c36;obtain ⟨c37, H⟩ := gd H;have c37b0 : decide (0 ≤ x63_2) = true := decide_eq_true c37;clear c37;obtain ⟨c38, H⟩ := gd H;have c38b0 : decide (x63_2 < (y204.length : Int)) = true := decide_eq_true c38;clear c38;obtain ⟨t209, A39, H⟩ := bnd H;(try dsimp only at H);obtain ⟨c40, H⟩ := gd H;have LMc40 := am c40;clear c40;obtain ⟨y210, hy210⟩ : ∃ y_ : List Int, y_ = (x198003_2 ++ [t209]) := ⟨_, rfl⟩;replace H : (impl_ParseTensor.l0 k2 a0 y204 (y204.length : Int) (wrap64 (x63_2 + 1)) t199 t201 t203 y210) = some (r1, r2, r3, r4, r5) := by first | (rw [hy210]; with_reducible exact H) | (have H2_ := (Option.bind_some _ _).symm.trans H; rw [hy210]; with_reducible exact H2_) | (have H2_ := (Option.bind_some _ _).symm.trans H; with_reducible exact H2_) | with_reducible exact H | (rw [hy210]; exact H) | exact H
          have Ny210 := am hy210;clear hy210;have H' := am H;clear H;have p208 : 0 ≤ (x63_2 : Int) := of_decide_eq_true (by first | (with_reducible assumption) | assumption);have q208 : x63_2 < (y204.length : Int) := of_decide_eq_true (by first | (with_reducible assumption) | assumption);obtain ⟨ad208, e208, hx208_0⟩ := Kd.at_string (HRf.out _ HO_8.out) x63_2 p208 q208;cases e208;replace p208 := eq_true p208;replace q208 := eq_true q208
          go_wp2_with (first | ((with_reducible refine gate_callee (f := 32) rfl ?_); refine gM 69 Tryd.func32 #[.string (rdOf ByteArray.empty y204 x63_2)] rfl ?_; (with_reducible refine (strconv_Atoi.calls (htab := tab_now HTB) (rdOf ByteArray.empty y204 x63_2) t209 _ A39.out).mono ?_); rintro e w41 ⟨ev_, rfl, hb⟩; refine ⟨_, rfl, ?_⟩; replace HO_8 := am (Kd.R_below (R_at HO_8.out) hb); replace HO_198003 := am (Kd.R_below (R_at HO_198003.out) hb); replace HB := bel_on w hb; replace BK187 := blk_on gb187 hb; replace BK197 := blk_on gb197 hb; (try clear hb); (try clear hb2); (try clear hb3); (try clear hk); (try clear hi); have hn42 := ne2 NB197_187; have hcz43 := cells4 BK197.out) | ((with_reducible refine gate_builtin (b := .append) (xs := #[.tmp 73, .tmp 75]) rfl ?_); (try (refine gate_guard (by rfl) ?_; dsimp only)); at_builtin; refine Kd.R_append (Kd.int .i64) (w0 := w) w.heap.size rfl (.tmp 73) (.tmp 75) 36 3 (.int .i64 0) 8 rfl Tryd.underlying36 info3 rfl (by decide) (by omega) u198003 x198003_2 t209 [.int .i64 t209] (fun _ => True) (fun _ => False) rfl rfl ?aP (fun _ hk => hk.elim) ?aF ?aO ?aB ?aS ?aL ?_; (case aP => exact rfl); (case aB => exact bel_now); (case aF => exact (fun _ _ => trivial)); (case aO => exact (R_at HO_198003.out)); (case aS => exact (below_size bel_now)); (case aL => have := LMc40.out; omega); intro v211 w44 ho hb hg hat; rw [← Ny210.out] at ho; have n0_ := am (blk_grown (g := gb187) blk_now hg (Kd.R_ne HO_198003.out BK187.out (by decide))); have n1_ := am (blk_grown (g := gb197) blk_now hg (Kd.R_ne HO_198003.out BK197.out (by decide))); have n2_ := am (hb); have n3_ := am (ho); have n4_ := am (Kd.R_mono (Kd.R_grown (R_at (Kd.R_apartR HO_8.out HO_198003.out (by decide))) hg (fun k hk => hk.2)) (fun _ _ => trivial)); clear HO_8; have HO_8 := n4_; clear n4_; clear BK187; clear BK197; clear HB; clear HO_198003; have BK187 := n0_; have BK197 := n1_; have HB := n2_; have HO212 := n3_; clear n0_ n1_ n2_ n3_; clear ho hb hg hat; obtain ⟨Ao45, co45, eo45⟩ := Kd.R_slice HO212.out; subst eo45; have hcz46 := cells4 BK197.out))
          go_roundg k2
          case measure => have := HJ4.out; have := HK2.out; omega
          case rel => exact ⟨(wrap64 (x63_2 + 1)), (y210), (.slice Ao45 y210.length co45), pv, H', ⟨by have := HJ4.out; have := HK2.out; omega⟩, ⟨by (with_reducible repeat (first | apply Kd.R_alloc | apply Kd.R_drewN | apply Kd.R_drew)); exact Kd.R_mono (Kd.R_far (p := ⟨gb197, 3, none⟩) (Kd.R_types HO212.out BK197.out (by decide)) (fun _ hk => hk.2) (.slice Ao45 y210.length co45)) (fun _ hk => trivial)⟩, ⟨Kd.R_mono (Kd.R_far (p := ⟨gb197, 3, none⟩) (Kd.R_mono (Kd.R_types (R_at HO_8.out) BK197.out (by decide)) (fun _ hk => hk.2)) (fun _ hk => hk) _) (fun _ _ => trivial)⟩, ⟨by (with_reducible repeat (first | refine blk_drewN ?_ _ | refine blk_drew ?_ | refine blk_alloc ?_ _)); refine blk_far ?_ NB187_197.out _; (with_reducible repeat (first | refine blk_drewN ?_ _ | refine blk_drew ?_ | refine blk_alloc ?_ _)); exact BK187.out⟩, ⟨by (with_reducible repeat (first | refine blk_drewN ?_ _ | refine blk_drew ?_ | refine blk_alloc ?_ _)); refine blk_put (cs := #[.int .i64 t199, .int .i64 t201, .int .i64 t203, u198003]) ?_ 3 _ rfl; (with_reducible repeat (first | refine blk_drewN ?_ _ | refine blk_drew ?_ | refine blk_alloc ?_ _)); exact BK197.out⟩, ⟨bel_now⟩⟩

def laws_eqShape.f (a0_0 : Int) (a0_1 : Int) (a0_2 : Int) (a1_0 : Int) (a1_1 : Int) (a1_2 : Int) : Option (Bool) := if a0_0 = a1_0 then (if a0_1 = a1_1 then (if a0_2 = a1_2 then (some true) else (some false)) else (some false)) else (some false)
theorem laws_eqShape.calls (a0_0 : Int) (a0_1 : Int) (a0_2 : Int) (a1_0 : Int) (a1_1 : Int) (a1_2 : Int) (r : Bool) (w : World) (h : laws_eqShape.f a0_0 a0_1 a0_2 a1_0 a1_1 a1_2 = some r) :
   Calls Tryd.prog 25 #[.agg #[.int .i64 a0_0, .int .i64 a0_1, .int .i64 a0_2], .agg #[.int .i64 a1_0, .int .i64 a1_1, .int .i64 a1_2]] w fun e w' => e = .returned (.bool r) ∧ Below w.heap.size w w' := by
  have hu29 := Tryd.underlying29;have HB := am (Below.refl w.heap.size w);have H : (if a0_0 = a1_0 then (if a0_1 = a1_1 then (if a0_2 = a1_2 then (some true) else (some false)) else (some false)) else (some false)) = some r := h;clear h;by_cases c3 : a0_0 = a1_0
  case' neg => skip
  rw [if_neg c3] at H;have c3b0 : (a0_0 == a1_0) = false := beq_eq_false_iff_ne.mpr c3;have c3b1 : (a0_0 != a1_0) = true := bne_iff_ne.mpr c3;obtain rfl := Option.some.inj H;rotate_left;rw [if_pos c3] at H;have c3b0 : (a0_0 == a1_0) = true := beq_iff_eq.mpr c3;have c3b1 : (a0_0 != a1_0) = false := bne_eq_false_iff_eq.mpr c3;clear c3;by_cases c4 : a0_1 = a1_1
  case' neg => skip
  rw [if_neg c4] at H;have c4b0 : (a0_1 == a1_1) = false := beq_eq_false_iff_ne.mpr c4;have c4b1 : (a0_1 != a1_1) = true := bne_iff_ne.mpr c4;obtain rfl := Option.some.inj H;rotate_left;rw [if_pos c4] at H;have c4b0 : (a0_1 == a1_1) = true := beq_iff_eq.mpr c4;have c4b1 : (a0_1 != a1_1) = false := bne_eq_false_iff_eq.mpr c4;clear c4;by_cases c5 : a0_2 = a1_2;rw [if_pos c5] at H;have c5b0 : (a0_2 == a1_2) = true := beq_iff_eq.mpr c5;have c5b1 : (a0_2 != a1_2) = false := bne_eq_false_iff_eq.mpr c5;clear c5;obtain rfl := Option.some.inj H;rotate_left;rw [if_neg c5] at H;have c5b0 : (a0_2 == a1_2) = false := beq_eq_false_iff_ne.mpr c5;have c5b1 : (a0_2 != a1_2) = true := bne_iff_ne.mpr c5;obtain rfl := Option.some.inj H;rotate_left
  all_goals (go_enter Tryd.func25, Tryd.ntmps25; go_wp2_with (first | ((with_reducible refine gate_dst (N := 2) rfl ?_); refine boxM 2 #[.int .i64 a0_0, .int .i64 a0_1, .int .i64 a0_2] 29 ?_; intro gb214 hg w_ BK214 hb; obtain ⟨HB, GW214, GE214⟩ := box_at w hb hg; clear hb hg) | ((with_reducible refine gate_dst (N := 3) rfl ?_); refine boxM 3 #[.int .i64 a1_0, .int .i64 a1_1, .int .i64 a1_2] 29 ?_; intro gb215 hg w_ BK215 hb; obtain ⟨HB, GW215, GE215⟩ := box_at w hb hg; obtain ⟨BK214, NB214_215, NB215_214⟩ := box_on gb214 hb hg; clear hb hg; have hn_ := ne2 NB214_215; have hcz_ := cells3 BK214.out; have hcz_ := cells3 BK215.out)))
  ·go_ret
   exact ⟨eqN, bel_now⟩
  ·go_ret
   exact ⟨eqN, bel_now⟩
  ·go_ret
   exact ⟨eqN, bel_now⟩
  ·go_ret
   exact ⟨eqN, bel_now⟩

end Go.Proofs.YtclpojeofclbjaaDoor.PFnExactParseTensor
