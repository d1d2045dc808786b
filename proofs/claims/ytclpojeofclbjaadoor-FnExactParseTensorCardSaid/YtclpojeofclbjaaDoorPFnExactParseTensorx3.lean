import Derived.Test.YtclpojeofclbjaaDoorPFnExactParseTensorx0
import Derived.Test.YtclpojeofclbjaaDoorPFnExactParseTensorx1
import Derived.Test.YtclpojeofclbjaaDoorPFnExactParseTensorx2
namespace Go.Proofs.YtclpojeofclbjaaDoor.PFnExactParseTensor
open Go.RowKit Go.Proofs.YtclpojeofclbjaaDoorW.PrintWords Go.Proofs.YtclpojeofclbjaaDoorW.PrintLast Go.Proofs.YtclpojeofclbjaaDoorW.PrintMore
attribute [local go_sem] max2_int min2_int max_two min_two max_three min_three max_four min_four
set_option maxHeartbeats 8000000
set_option maxRecDepth 100000
set_option linter.unusedVariables false
set_option linter.unusedSimpArgs false

mutual
def spec_ParseTensor.j0 : Nat → List ByteArray → Bool → Int → Int → Int → Option (Int × Int × Int × List Int × Bool)
  | 0, _, _, _, _, _ => none
  | k + 1, x5, x39, x133000, x133001, x133002 => if x39 = true then (some (x133000, x133001, x133002, ([] : List Int), false)) else (if 0 < (x5.length : Int) then (if 0 ≤ (wrap64 (((rdOf ByteArray.empty x5 0).size : Int) - 1)) then (if (wrap64 (((rdOf ByteArray.empty x5 0).size : Int) - 1)) ≤ ((rdOf ByteArray.empty x5 0).size : Int) then ((spec_l02Parts.f k ((rdOf ByteArray.empty x5 0).extract 0 ((wrap64 (((rdOf ByteArray.empty x5 0).size : Int) - 1)) : Int).toNat) 120).bind fun t141 => (if (t141.length : Int) = 3 then (spec_ParseTensor.l0 k x5 t141 (([] : List Int)) 0 x133000 x133001 x133002) else (some (x133000, x133001, x133002, ([] : List Int), false)))) else (none)) else (none)) else (none))
def spec_ParseTensor.l0 : Nat → List ByteArray → List ByteArray → List Int → Int → Int → Int → Int → Option (Int × Int × Int × List Int × Bool)
  | 0, _, _, _, _, _, _, _ => none
  | k + 1, x5, x6, x7, x8, x133000, x133001, x133002 => if x8 < 3 then (if 0 ≤ x8 then (if x8 < (x6.length : Int) then ((spec_l02Read.f k (rdOf ByteArray.empty x6 x8)).bind fun bt148 => (if bt148.2 = true then (if x7.length < 17592186044416 then (spec_ParseTensor.l0 k x5 x6 (x7 ++ [bt148.1]) (wrap64 (x8 + 1)) x133000 x133001 x133002) else (none)) else (some (x133000, x133001, x133002, ([] : List Int), false)))) else (none)) else (none)) else (if 0 < (x7.length : Int) then (if 1 < (x7.length : Int) then (if 2 < (x7.length : Int) then (spec_ParseTensor.l1 k x5 1 x133000 x133001 x133002 (rd x7 0) (rd x7 1) (rd x7 2) ([] : List Int)) else (none)) else (none)) else (none))
def spec_ParseTensor.l1 : Nat → List ByteArray → Int → Int → Int → Int → Int → Int → Int → List Int → Option (Int × Int × Int × List Int × Bool)
  | 0, _, _, _, _, _, _, _, _, _ => none
  | k + 1, x5, x12, x133000, x133001, x133002, x157000, x157001, x157002, x157003 => if x12 < (x5.length : Int) then (if 0 ≤ x12 then ((spec_l02Read.f k (rdOf ByteArray.empty x5 x12)).bind fun bt158 => (if bt158.2 = true then (if x157003.length < 17592186044416 then (spec_ParseTensor.l1 k x5 (wrap64 (x12 + 1)) x133000 x133001 x133002 x157000 x157001 x157002 (x157003 ++ [bt158.1])) else (none)) else (some (x133000, x133001, x133002, ([] : List Int), false)))) else (none)) else ((spec_TensorOk.f k x157000 x157001 x157002 x157003).bind fun t163 => (if t163 = true then (some (x157000, x157001, x157002, x157003, true)) else (some (x133000, x133001, x133002, ([] : List Int), false))))
end
def spec_ParseTensor.f (k : Nat) (a0 : ByteArray) : Option (Int × Int × Int × List Int × Bool) := (spec_l02Parts.f k a0 32).bind fun t133 => (if (t133.length : Int) > 513 then (spec_ParseTensor.j0 k t133 true 0 0 0) else (if 0 < (t133.length : Int) then (if ((rdOf ByteArray.empty t133 0).size : Int) = 0 then (spec_ParseTensor.j0 k t133 true 0 0 0) else (if 0 ≤ (wrap64 (((rdOf ByteArray.empty t133 0).size : Int) - 1)) then (if (wrap64 (((rdOf ByteArray.empty t133 0).size : Int) - 1)) < ((rdOf ByteArray.empty t133 0).size : Int) then (spec_ParseTensor.j0 k t133 ((bt (rdOf ByteArray.empty t133 0) (wrap64 (((rdOf ByteArray.empty t133 0).size : Int) - 1))) != 58) 0 0 0) else (none)) else (none))) else (none)))
def spec_ParseTensor.T3 : Bool × List (List Nat × List Nat) := (true, [([], []), ([0], [0]), ([1], [1]), ([2], [2]), ([3], [3]), ([4, 3], [3, 4]), ([5, 3], [3, 5]), ([6, 3], [3, 6]), ([7, 3], [3, 7]), ([3, 8], [3, 8]), ([9, 3], [9]), ([10], [10]), ([11, 10], [10, 11]), ([12, 10], [10, 12]), ([10], [10]), ([14, 10], [10, 14]), ([15, 10], [10, 15]), ([16, 10], [10, 16]), ([17, 10], [10, 17]), ([13, 18, 10], [10, 13, 18]), ([19, 10], [10, 19]), ([10, 20], [10, 20])])
def spec_ParseTensor.B3 : List Nat := [0, 1, 3, 7, 15, 31, 63, 127, 255, 511, 1023, 2047, 4095, 8191, 2047, 18431, 51199, 116735, 247807, 524287, 1048575, 2097151]
theorem spec_ParseTensor.tab3 : rtab .any (opsOf Tryd.f10 3) = spec_ParseTensor.T3 := by kernel_rfl
theorem spec_ParseTensor.bits3 : waitsOk spec_ParseTensor.T3.2 spec_ParseTensor.B3 = true := by kernel_rfl
def spec_ParseTensor.T5 : Bool × List (List Nat × List Nat) := (true, [([], []), ([0], [0]), ([1], [1]), ([], []), ([3], [3]), ([4], [4]), ([5], [5]), ([6], [6]), ([2, 7], [2, 7]), ([8], [8]), ([9, 9, 0, 1, 2, 3, 4, 5, 6, 7, 8, 9], [9])])
def spec_ParseTensor.B5 : List Nat := [0, 1, 3, 0, 8, 24, 56, 120, 255, 511, 1023]
theorem spec_ParseTensor.tab5 : rtab .any (opsOf Tryd.f10 5) = spec_ParseTensor.T5 := by kernel_rfl
theorem spec_ParseTensor.bits5 : waitsOk spec_ParseTensor.T5.2 spec_ParseTensor.B5 = true := by kernel_rfl
def spec_ParseTensor.T16 : Bool × List (List Nat × List Nat) := (true, [([], []), ([0], [0]), ([1], [1]), ([], []), ([3], [3]), ([4], [4]), ([], []), ([6], [6]), ([7], [7]), ([2, 5, 8], [2, 5, 8]), ([9], [9]), ([], []), ([11, 10, 0, 1, 2, 3, 4, 5, 6, 7, 8, 9, 10, 11], [10, 11])])
def spec_ParseTensor.B16 : List Nat := [0, 1, 3, 0, 8, 24, 0, 64, 192, 511, 1023, 0, 4095]
theorem spec_ParseTensor.tab16 : rtab .any (opsOf Tryd.f10 16) = spec_ParseTensor.T16 := by kernel_rfl
theorem spec_ParseTensor.bits16 : waitsOk spec_ParseTensor.T16.2 spec_ParseTensor.B16 = true := by kernel_rfl
theorem spec_ParseTensor.calls (k : Nat) (a0 : ByteArray) (r1 : Int) (r2 : Int) (r3 : Int) (r4 : List Int) (r5 : Bool) (w : World) (h : spec_ParseTensor.f k a0 = some (r1, r2, r3, r4, r5)) :
   Calls Tryd.prog 10 #[.string a0] w fun e w' => ∃ v3_ : Value, e = .returned (.tuple #[.agg #[.int .i64 r1, .int .i64 r2, .int .i64 r3, v3_], .bool r5]) ∧ Kd.R (Kd.int .i64) 3 w' w.heap.size (fun _ => True) v3_ r4 ∧ Below w.heap.size w w' := by
  have hu38 := Tryd.underlying38;have hu29 := Tryd.underlying29;have HB := am (Below.refl w.heap.size w);have H : ((spec_l02Parts.f k a0 32).bind fun t133 => (if (t133.length : Int) > 513 then (spec_ParseTensor.j0 k t133 true 0 0 0) else (if 0 < (t133.length : Int) then (if ((rdOf ByteArray.empty t133 0).size : Int) = 0 then (spec_ParseTensor.j0 k t133 true 0 0 0) else (if 0 ≤ (wrap64 (((rdOf ByteArray.empty t133 0).size : Int) - 1)) then (if (wrap64 (((rdOf ByteArray.empty t133 0).size : Int) - 1)) < ((rdOf ByteArray.empty t133 0).size : Int) then (spec_ParseTensor.j0 k t133 ((bt (rdOf ByteArray.empty t133 0) (wrap64 (((rdOf ByteArray.empty t133 0).size : Int) - 1))) != 58) 0 0 0) else (none)) else (none))) else (none)))) = some (r1, r2, r3, r4, r5) := h;clear h;obtain ⟨t133, A2, H⟩ := bnd H;(try dsimp only at H);have HC3 := am H;clear H
  go_enter Tryd.func10, Tryd.ntmps10
  go_upto_region 3 with (first | ((with_reducible refine gate_dst (N := 2) rfl ?_); (try (refine gate_guard (by rfl) ?_; dsimp only)); refine boxM 2 #[.int .i64 0, .int .i64 0, .int .i64 0, .slice none 0 0] 38 ?_; intro gb131 hg w4 BK131 hb; obtain ⟨HB, GW131, GE131⟩ := box_at w hb hg; clear hb hg) | ((with_reducible refine gate_dst (N := 4) rfl ?_); (try (refine gate_guard (by rfl) ?_; dsimp only)); refine boxM 4 #[.int .i64 0, .int .i64 0, .int .i64 0, .slice none 0 0] 38 ?_; intro gb132 hg w5 BK132 hb; obtain ⟨HB, GW132, GE132⟩ := box_at w hb hg; obtain ⟨BK131, NB131_132, NB132_131⟩ := box_on gb131 hb hg; clear hb hg; have hn6 := ne2 NB132_131; have hcz7 := cells4 BK132.out) | ((with_reducible refine gate_callee (f := 27) rfl ?_); refine gM 17 Tryd.func27 #[.string a0, .int .u8 32] rfl ?_; (with_reducible refine (spec_l02Parts.calls k a0 32 t133 _ A2.out).mono ?_); rintro e w8 ⟨v134, rfl, ho0, hb⟩; refine ⟨_, rfl, ?_⟩; have n0_ := am (Kd.R_lower ho0 (below_size bel_now)); replace HB := bel_on w hb; replace BK131 := am (blk_below (g := gb131) (o := .cells #[.int .i64 0, .int .i64 0, .int .i64 0, .slice none 0 0] 38 (0, 0)) (blk_fars BK131.out) hb); replace BK132 := am (blk_below (g := gb132) (o := .cells #[.int .i64 0, .int .i64 0, .int .i64 0, .slice none 0 0] 38 (0, 0)) (blk_fars (puts4 BK132.out)) hb); have HO135 := n0_; clear n0_; (try clear hb); (try clear hb2); (try clear hb3); (try clear hk); (try clear hi); (try clear ho0)))
  (try simp only [Act.put, zA, zB, zC])
  go_cut [39] (fun v39 wc => ∃ (kq : Nat) (x39_2 : Bool), v39 = .bool x39_2 ∧ Aside0 (spec_ParseTensor.j0 kq t133 x39_2 0 0 0 = some (r1, r2, r3, r4, r5)) ∧ Aside0 (kq ≤ k) ∧ Aside0 (Kd.R Kd.string 9 wc w.heap.size (fun _ => True) v134 t133) ∧ Aside0 (wc.heap[gb131]? = some (.cells #[.int .i64 0, .int .i64 0, .int .i64 0, (.slice none 0 0)] 38 (0, 0))) ∧ Aside0 (wc.heap[gb132]? = some (.cells #[.int .i64 0, .int .i64 0, .int .i64 0, (.slice none 0 0)] 38 (0, 0))) ∧ Aside0 (Below w.heap.size w wc))
  case first =>
   have H := HC3.out;clear HC3;by_cases c9 : (t133.length : Int) > 513
   ·rw [if_pos c9] at H;have c9b0 : decide (513 < (t133.length : Int)) = true := decide_eq_true c9;have c9b1 : decide (513 < t133.length) = true := decide_eq_true (by omega);clear c9
    (first | rw [c9b0] | (simp only [i64_w, i32_w]; rw [c9b0]) | skip)
    have H' := am H;clear H
    try go_wp2
    replace HO135 := am (Kd.R_drew HO135.out);replace BK131 := am (blk_drew BK131.out);replace BK132 := am (blk_drew BK132.out);replace HB := am (below_drew1 HB.out);obtain ⟨Ao11, co11, eo11⟩ := Kd.R_slice HO135.out
    (first | subst eo11 | (injection eo11 with f1_ f2_ f3_; have f4_ := f1_.symm; have f5_ := f3_.symm; clear f1_ f2_ f3_; subst f4_; subst f5_))
    refine start_ (n := 22) (S := fun w' => True) (ds := []) #[O, O, O, O, O, O, O, O, O, O, O, O, O, O, O, O, O, O, O, O, O, O] (by kernel_rfl) rfl rfl trivial (fun hHeld => ?_); refine with_tabW spec_ParseTensor.tab3 spec_ParseTensor.bits3 (fun HT_ HW_ => ?_)
    generalize w8.drew = w10 at HO135 BK131 BK132 HB hHeld ⊢
    refine stepP 0 (some 18) (tk 22 1) (any_of HT_.out (by kernel_rfl)) ?_
    refine stepP 1 (some 19) (tk 22 3) (any_of HT_.out (by kernel_rfl)) ?_
    refine stepP 2 (some 20) (tk 22 7) (any_of HT_.out (by kernel_rfl)) ?_
    refine stepP 3 (some 21) (tk 22 15) (any_of HT_.out (by kernel_rfl)) ?_
    refine stepU 4 (some 22) (tk 22 31) (any_of HT_.out (by kernel_rfl)) ?_
    refine stepU 5 (some 23) (tk 22 63) (any_of HT_.out (by kernel_rfl)) ?_
    refine stepU 6 (some 24) (tk 22 127) (any_of HT_.out (by kernel_rfl)) ?_
    refine stepU 7 (some 25) (tk 22 255) (any_of HT_.out (by kernel_rfl)) ?_
    refine stepU 8 (some 26) (tk 22 511) (any_of HT_.out (by kernel_rfl)) ?_
    refine stepP 9 (some 27) (tk 22 1023) (any_of HT_.out (by kernel_rfl)) ?_
    refine stepP 10 (some 28) (tk 22 2047) (any_of HT_.out (by kernel_rfl)) ?_
    refine stepU 11 (some 29) (tk 22 4095) (any_of HT_.out (by kernel_rfl)) ?_
    refine stepU 12 (some 30) (tk 22 8191) (any_of HT_.out (by kernel_rfl)) ?_
    refine stepU 13 (some 31) (tk 22 16383) (any_of HT_.out (by kernel_rfl)) ?_
    refine stepU 14 (some 32) (tk 22 32767) (any_of HT_.out (by kernel_rfl)) ?_
    refine stepU 15 (some 33) (tk 22 65535) (any_of HT_.out (by kernel_rfl)) ?_
    refine stepU 16 (some 34) (tk 22 131071) (any_of HT_.out (by kernel_rfl)) ?_
    refine stepU 17 (some 35) (tk 22 262143) (any_of HT_.out (by kernel_rfl)) ?_
    refine stepU 18 (some 36) (tk 22 524287) (any_of HT_.out (by kernel_rfl)) ?_
    refine stepU 19 (some 37) (tk 22 1048575) (any_of HT_.out (by kernel_rfl)) ?_
    refine stepU 20 (some 38) (tk 22 2097151) (any_of HT_.out (by kernel_rfl)) ?_
    refine stepP 21 (some 39) (tk 22 4194303) (any_of HT_.out (by kernel_rfl)) ?_
    refine done_ (done_of HT_.out (by kernel_rfl)) ?_
    try go_wp2
    go_meet
    case rel => exact ⟨_, (true), pv, H', ⟨by first | omega | exact Nat.le_refl _⟩, ⟨R_at HO135.out⟩, ⟨bks BK131⟩, ⟨bks BK132⟩, ⟨bel_now⟩⟩
   rw [if_neg c9] at H;have c9b0 : decide (513 < (t133.length : Int)) = false := decide_eq_false c9;have c9b1 : decide (513 < t133.length) = false := decide_eq_false (by omega);clear c9
   (first | rw [c9b0] | (simp only [i64_w, i32_w]; rw [c9b0]) | skip)
   obtain ⟨c12, H⟩ := gd H;have c12b0 : decide (0 < (t133.length : Int)) = true := decide_eq_true c12;have c12b1 : decide (0 < t133.length) = true := decide_eq_true (by omega);clear c12;by_cases c13 : ((rdOf ByteArray.empty t133 0).size : Int) = 0
   ·rw [if_pos c13] at H;have c13b0 : (((rdOf ByteArray.empty t133 0).size : Int) == 0) = true := beq_iff_eq.mpr c13;have c13b1 : (((rdOf ByteArray.empty t133 0).size : Int) != 0) = false := bne_eq_false_iff_eq.mpr c13;clear c13;have H' := am H;clear H
    try go_wp2
    replace HO135 := am (Kd.R_drew HO135.out);replace BK131 := am (blk_drew BK131.out);replace BK132 := am (blk_drew BK132.out);replace HB := am (below_drew1 HB.out);obtain ⟨Ao15, co15, eo15⟩ := Kd.R_slice HO135.out
    (first | subst eo15 | (injection eo15 with f1_ f2_ f3_; have f4_ := f1_.symm; have f5_ := f3_.symm; clear f1_ f2_ f3_; subst f4_; subst f5_))
    have p136 : 0 ≤ (0 : Int) := (by omega);have q136 : 0 < (t133.length : Int) := of_decide_eq_true (by first | (with_reducible assumption) | assumption);obtain ⟨ad136, e136, hx136_0⟩ := Kd.at_string (Kd.R_reads' HO135.out).2.2 0 p136 q136;cases e136;have qi136 : (0 < t133.length) = True := eq_true (by omega)
    (try rw [show ((0 : Int)).toNat = 0 from rfl] at hx136_0)
    (try rw [Addr.add_zero'] at hx136_0);replace p136 := eq_true p136;replace q136 := eq_true q136
    refine start_ (n := 22) (S := fun w' => w'.cell? ad136 = some (.string (rdOf ByteArray.empty t133 0))) (ds := []) #[O, O, O, O, O, O, O, O, O, O, O, O, O, O, O, O, O, O, O, O, O, O] (by kernel_rfl) rfl rfl (hx136_0) (fun hHeld => ?_); refine with_tabW spec_ParseTensor.tab3 spec_ParseTensor.bits3 (fun HT_ HW_ => ?_)
    generalize w8.drew = w14 at HO135 BK131 BK132 HB hx136_0 hHeld ⊢
    refine stepP 0 (some 18) (tk 22 1) (any_of HT_.out (by kernel_rfl)) ?_
    refine stepP 1 (some 19) (tk 22 3) (any_of HT_.out (by kernel_rfl)) ?_
    refine stepP 2 (some 20) (tk 22 7) (any_of HT_.out (by kernel_rfl)) ?_
    refine stepP 3 (some 21) (tk 22 15) (any_of HT_.out (by kernel_rfl)) ?_
    refine stepP 4 (some 22) (tk 22 31) (any_of HT_.out (by kernel_rfl)) ?_
    refine stepP 5 (some 23) (tk 22 63) (any_of HT_.out (by kernel_rfl)) ?_
    refine take_ (i := 6) (N := some 24) (v := ?_) (a' := ?_) #[I, I, I, I, I, I, I, O, O, O, O, O, O, O, O, O, O, O, O, O, O, O] rfl rfl (take_ofW HT_.out HW_.out (by kernel_rfl)) (fun _ _ _ h => h) (Or.inl ⟨by rfl, ?_⟩) hHeld ?_ ?_
    rotate_left
    ·intro w' s0
     go_simp
     with_reducible rfl
    rotate_left
    ·simp only [Act.put, zA, zB, zC, i64_w, i32_w]
     rfl
    refine stepP 7 (some 25) (tk 22 255) (any_of HT_.out (by kernel_rfl)) ?_
    refine stepP 8 (some 26) (tk 22 511) (any_of HT_.out (by kernel_rfl)) ?_
    refine stepP 9 (some 27) (tk 22 1023) (any_of HT_.out (by kernel_rfl)) ?_
    refine stepP 10 (some 28) (tk 22 2047) (any_of HT_.out (by kernel_rfl)) ?_
    refine stepU 11 (some 29) (tk 22 4095) (any_of HT_.out (by kernel_rfl)) ?_
    refine stepU 12 (some 30) (tk 22 8191) (any_of HT_.out (by kernel_rfl)) ?_
    refine stepU 13 (some 31) (tk 22 16383) (any_of HT_.out (by kernel_rfl)) ?_
    refine stepU 14 (some 32) (tk 22 32767) (any_of HT_.out (by kernel_rfl)) ?_
    refine stepU 15 (some 33) (tk 22 65535) (any_of HT_.out (by kernel_rfl)) ?_
    refine stepU 16 (some 34) (tk 22 131071) (any_of HT_.out (by kernel_rfl)) ?_
    refine stepU 17 (some 35) (tk 22 262143) (any_of HT_.out (by kernel_rfl)) ?_
    refine stepU 18 (some 36) (tk 22 524287) (any_of HT_.out (by kernel_rfl)) ?_
    refine stepU 19 (some 37) (tk 22 1048575) (any_of HT_.out (by kernel_rfl)) ?_
    refine stepU 20 (some 38) (tk 22 2097151) (any_of HT_.out (by kernel_rfl)) ?_
    refine stepP 21 (some 39) (tk 22 4194303) (any_of HT_.out (by kernel_rfl)) ?_
    refine done_ (done_of HT_.out (by kernel_rfl)) ?_
    try go_wp2
    go_meet
    case rel => exact ⟨_, (true), pv, H', ⟨by first | omega | exact Nat.le_refl _⟩, ⟨R_at HO135.out⟩, ⟨bks BK131⟩, ⟨bks BK132⟩, ⟨bel_now⟩⟩
   rw [if_neg c13] at H;have c13b0 : (((rdOf ByteArray.empty t133 0).size : Int) == 0) = false := beq_eq_false_iff_ne.mpr c13;have c13b1 : (((rdOf ByteArray.empty t133 0).size : Int) != 0) = true := bne_iff_ne.mpr c13;obtain ⟨ji16, hji16⟩ : ∃ j_ : Int, (wrap64 (((rdOf ByteArray.empty t133 0).size : Int) - 1)) = j_ := ⟨_, rfl⟩;replace H : (if 0 ≤ (ji16) then (if (ji16) < ((rdOf ByteArray.empty t133 0).size : Int) then (spec_ParseTensor.j0 k t133 ((bt (rdOf ByteArray.empty t133 0) (ji16)) != 58) 0 0 0) else (none)) else (none)) = some (r1, r2, r3, r4, r5) := by first | (rw [hji16] at H; exact H) | (simp only [hji16] at H ⊢; exact H)
   have hji16w : (IntKind.i64.wrap (((rdOf ByteArray.empty t133 0).size : Int) - 1)) = ji16 := (i64_w _).trans hji16;obtain ⟨c17, H⟩ := gd H;have c17b0 : decide (0 ≤ (ji16)) = true := decide_eq_true c17;clear c17;obtain ⟨c18, H⟩ := gd H;have c18b0 : decide ((ji16) < ((rdOf ByteArray.empty t133 0).size : Int)) = true := decide_eq_true c18;clear c18;have H' := am H;clear H
   try go_wp2
   replace HO135 := am (Kd.R_drew HO135.out);replace BK131 := am (blk_drew BK131.out);replace BK132 := am (blk_drew BK132.out);replace HB := am (below_drew1 HB.out);obtain ⟨Ao21, co21, eo21⟩ := Kd.R_slice HO135.out
   (first | subst eo21 | (injection eo21 with f1_ f2_ f3_; have f4_ := f1_.symm; have f5_ := f3_.symm; clear f1_ f2_ f3_; subst f4_; subst f5_))
   have p136 : 0 ≤ (0 : Int) := (by omega);have q136 : 0 < (t133.length : Int) := of_decide_eq_true (by first | (with_reducible assumption) | assumption);obtain ⟨ad136, e136, hx136_0⟩ := Kd.at_string (Kd.R_reads' HO135.out).2.2 0 p136 q136;cases e136;have qi136 : (0 < t133.length) = True := eq_true (by omega)
   (try rw [show ((0 : Int)).toNat = 0 from rfl] at hx136_0)
   (try rw [Addr.add_zero'] at hx136_0);replace p136 := eq_true p136;replace q136 := eq_true q136;have p137 : 0 ≤ (0 : Int) := (by omega);have q137 : 0 < (t133.length : Int) := of_decide_eq_true (by first | (with_reducible assumption) | assumption);obtain ⟨ad137, e137, hx137_0⟩ := Kd.at_string (Kd.R_reads' HO135.out).2.2 0 p137 q137;obtain rfl : ad136 = ad137 := (by injection e137);have qi137 : (0 < t133.length) = True := eq_true (by omega)
   (try rw [show ((0 : Int)).toNat = 0 from rfl] at hx137_0)
   (try rw [Addr.add_zero'] at hx137_0);replace p137 := eq_true p137;replace q137 := eq_true q137;have p138 : 0 ≤ (0 : Int) := (by omega);have q138 : 0 < (t133.length : Int) := of_decide_eq_true (by first | (with_reducible assumption) | assumption);obtain ⟨ad138, e138, hx138_0⟩ := Kd.at_string (Kd.R_reads' HO135.out).2.2 0 p138 q138;obtain rfl : ad136 = ad138 := (by injection e138);have qi138 : (0 < t133.length) = True := eq_true (by omega)
   (try rw [show ((0 : Int)).toNat = 0 from rfl] at hx138_0)
   (try rw [Addr.add_zero'] at hx138_0);replace p138 := eq_true p138;replace q138 := eq_true q138;have p19 : 0 ≤ ((ji16) : Int) := of_decide_eq_true (by first | (with_reducible assumption) | assumption);have q19 : (ji16) < ((rdOf ByteArray.empty t133 0).size : Int) := of_decide_eq_true (by first | (with_reducible assumption) | assumption);have hx19 := bt_at (rdOf ByteArray.empty t133 0) (ji16);replace p19 := eq_true p19;replace q19 := eq_true q19
   refine start_ (n := 22) (S := fun w' => w'.cell? ad136 = some (.string (rdOf ByteArray.empty t133 0)) ∧ w'.cell? ad136 = some (.string (rdOf ByteArray.empty t133 0)) ∧ w'.cell? ad136 = some (.string (rdOf ByteArray.empty t133 0))) (ds := []) #[O, O, O, O, O, O, O, O, O, O, O, O, O, O, O, O, O, O, O, O, O, O] (by kernel_rfl) rfl rfl ⟨hx136_0, hx137_0, hx138_0⟩ (fun hHeld => ?_); refine with_tabW spec_ParseTensor.tab3 spec_ParseTensor.bits3 (fun HT_ HW_ => ?_)
   generalize w8.drew = w20 at HO135 BK131 BK132 HB hx136_0 hx137_0 hx138_0 hHeld ⊢
   refine stepP 0 (some 18) (tk 22 1) (any_of HT_.out (by kernel_rfl)) ?_
   refine stepP 1 (some 19) (tk 22 3) (any_of HT_.out (by kernel_rfl)) ?_
   refine stepP 2 (some 20) (tk 22 7) (any_of HT_.out (by kernel_rfl)) ?_
   refine stepP 3 (some 21) (tk 22 15) (any_of HT_.out (by kernel_rfl)) ?_
   refine stepP 4 (some 22) (tk 22 31) (any_of HT_.out (by kernel_rfl)) ?_
   refine stepP 5 (some 23) (tk 22 63) (any_of HT_.out (by kernel_rfl)) ?_
   refine stepT 6 (some 24) (tk 22 127) (take_ofW HT_.out HW_.out (by kernel_rfl)) hHeld ?_
   refine stepP 7 (some 25) (tk 22 255) (any_of HT_.out (by kernel_rfl)) ?_
   refine stepP 8 (some 26) (tk 22 511) (any_of HT_.out (by kernel_rfl)) ?_
   refine stepP 9 (some 27) (tk 22 1023) (any_of HT_.out (by kernel_rfl)) ?_
   refine stepP 10 (some 28) (tk 22 2047) (any_of HT_.out (by kernel_rfl)) ?_
   refine stepP 11 (some 29) (tk 22 4095) (any_of HT_.out (by kernel_rfl)) ?_
   refine stepP 12 (some 30) (tk 22 8191) (any_of HT_.out (by kernel_rfl)) ?_
   refine stepP 14 (some 32) (tk 22 24575) (any_of HT_.out (by kernel_rfl)) ?_
   refine stepP 15 (some 33) (tk 22 57343) (any_of HT_.out (by kernel_rfl)) ?_
   refine stepT 13 (some 31) (tk 22 65535) (take_ofW HT_.out HW_.out (by kernel_rfl)) hHeld ?_
   refine stepT 16 (some 34) (tk 22 131071) (take_ofW HT_.out HW_.out (by kernel_rfl)) hHeld ?_
   refine stepP 17 (some 35) (tk 22 262143) (any_of HT_.out (by kernel_rfl)) ?_
   refine stepP 18 (some 36) (tk 22 524287) (any_of HT_.out (by kernel_rfl)) ?_
   refine stepT 19 (some 37) (tk 22 1048575) (take_ofW HT_.out HW_.out (by kernel_rfl)) hHeld ?_
   refine stepP 20 (some 38) (tk 22 2097151) (any_of HT_.out (by kernel_rfl)) ?_
   refine stepP 21 (some 39) (tk 22 4194303) (any_of HT_.out (by kernel_rfl)) ?_
   refine done_ (done_of HT_.out (by kernel_rfl)) ?_
   try go_wp2
   go_meet
   case rel => exact ⟨_, (((bt (rdOf ByteArray.empty t133 0) (ji16)) != 58)), (by first | rfl | (simp; done) | (simp only [← hji16] <;> (first | rfl | simp)) | (simp [*]; done)), H', ⟨by first | omega | exact Nat.le_refl _⟩, ⟨R_at HO135.out⟩, ⟨bks BK131⟩, ⟨bks BK132⟩, ⟨bel_now⟩⟩
  case rest =>
   clear HC3;try clear hcz7
   obtain ⟨kq, x39_2, rfl, HA, HJ2, HO_5, BK131, BK132, HB⟩ := hcut
   cases kq with
   | zero => exact absurd HA.out (by simp [spec_ParseTensor.j0])
   | succ kj2 =>
    have H := HA.out;clear HA;simp only [spec_ParseTensor.j0] at H;by_cases c22 : x39_2 = true
    ·subst c22;rw [if_pos rfl] at H;simp only [Option.some.injEq, Prod.mk.injEq] at H;obtain ⟨rfl, rfl, rfl, rfl, rfl⟩ := H;have hn23 := ne2 NB132_131;have hcz24 := cells4 BK132.out;have hcz25 := cells4 BK131.out
     go_wp2
     refine bodyPost_ret (results_ct rfl _ _ gb131 38 #[.int .i64 0, .int .i64 0, .int .i64 0, .slice none 0 0] (0, 0) _ rfl (blk_fars (puts4 BK131.out)) Tryd.underlying38 rfl (by kernel_rfl)) rfl ?_
     exact ⟨_, eqN, by first | exact Kd.R_nil _ _ _ _ _ | exact Kd.N_nil _ _ _ _ _ | exact Kd.V_nil _ _ _ _ _ | exact Kd.Q_nil _ _ _ _ _ | exact Kd.S_nil _ _ _ _ _, bel_now⟩
    replace c22 := Bool.eq_false_iff.mpr c22;subst c22
    rw [if_neg (show ¬ (false = true) by decide)] at H
    obtain ⟨c26, H⟩ := gd H;have c26b0 : decide (0 < (t133.length : Int)) = true := decide_eq_true c26;have c26b1 : decide (0 < t133.length) = true := decide_eq_true (by omega);clear c26;obtain ⟨ji27, hji27⟩ : ∃ j_ : Int, (wrap64 (((rdOf ByteArray.empty t133 0).size : Int) - 1)) = j_ := ⟨_, rfl⟩;replace H : (if 0 ≤ (ji27) then (if (ji27) ≤ ((rdOf ByteArray.empty t133 0).size : Int) then ((spec_l02Parts.f kj2 ((rdOf ByteArray.empty t133 0).extract 0 ((ji27) : Int).toNat) 120).bind fun t141 => (if (t141.length : Int) = 3 then (spec_ParseTensor.l0 kj2 t133 t141 (([] : List Int)) 0 0 0 0) else (some (0, 0, 0, ([] : List Int), false)))) else (none)) else (none)) = some (r1, r2, r3, r4, r5) := by first | (rw [hji27] at H; exact H) | (simp only [hji27] at H ⊢; exact H)
    have hji27w : (IntKind.i64.wrap (((rdOf ByteArray.empty t133 0).size : Int) - 1)) = ji27 := (i64_w _).trans hji27;obtain ⟨c28, H⟩ := gd H;have c28b0 := eq_true c28;have c28b1 : decide (0 ≤ (ji27)) = true := decide_eq_true c28;clear c28;obtain ⟨c29, H⟩ := gd H;have c29b0 := eq_true c29;have c29b1 : decide ((ji27) ≤ ((rdOf ByteArray.empty t133 0).size : Int)) = true := decide_eq_true c29;clear c29;obtain ⟨t141, A30, H⟩ := bnd H;(try dsimp only at H);by_cases c31 : (t141.length : Int) = 3;rotate_left
    ·rw [if_neg c31] at H;have c31b0 : ((t141.length : Int) == 3) = false := beq_eq_false_iff_ne.mpr c31;have c31b1 : ((t141.length : Int) != 3) = true := bne_iff_ne.mpr c31;simp only [Option.some.injEq, Prod.mk.injEq] at H;obtain ⟨rfl, rfl, rfl, rfl, rfl⟩ := H
     try go_wp2
     replace HO_5 := am (Kd.R_drew HO_5.out);replace BK131 := am (blk_drew BK131.out);replace BK132 := am (blk_drew BK132.out);replace HB := am (below_drew1 HB.out);obtain ⟨Ao97, co97, eo97⟩ := Kd.R_slice HO_5.out
     (first | subst eo97 | (injection eo97 with f1_ f2_ f3_; have f4_ := f1_.symm; have f5_ := f3_.symm; clear f1_ f2_ f3_; subst f4_; subst f5_))
     have p139 : 0 ≤ (0 : Int) := (by omega);have q139 : 0 < (t133.length : Int) := of_decide_eq_true (by first | (with_reducible assumption) | assumption);obtain ⟨ad139, e139, hx139_0⟩ := Kd.at_string (Kd.R_reads' HO_5.out).2.2 0 p139 q139;cases e139;have qi139 : (0 < t133.length) = True := eq_true (by omega)
     (try rw [show ((0 : Int)).toNat = 0 from rfl] at hx139_0)
     (try rw [Addr.add_zero'] at hx139_0);replace p139 := eq_true p139;replace q139 := eq_true q139;have p140 : 0 ≤ (0 : Int) := (by omega);have q140 : 0 < (t133.length : Int) := of_decide_eq_true (by first | (with_reducible assumption) | assumption);obtain ⟨ad140, e140, hx140_0⟩ := Kd.at_string (Kd.R_reads' HO_5.out).2.2 0 p140 q140;obtain rfl : ad139 = ad140 := (by injection e140);have qi140 : (0 < t133.length) = True := eq_true (by omega)
     (try rw [show ((0 : Int)).toNat = 0 from rfl] at hx140_0)
     (try rw [Addr.add_zero'] at hx140_0);replace p140 := eq_true p140;replace q140 := eq_true q140
     refine start_ (n := 11) (S := fun w' => w'.cell? ad139 = some (.string (rdOf ByteArray.empty t133 0)) ∧ w'.cell? ad139 = some (.string (rdOf ByteArray.empty t133 0))) (ds := []) #[O, O, O, O, O, O, O, O, O, O, O] (by kernel_rfl) rfl rfl ⟨hx139_0, hx140_0⟩ (fun hHeld => ?_); refine with_tabW spec_ParseTensor.tab5 spec_ParseTensor.bits5 (fun HT_ HW_ => ?_)
     generalize wc.drew = w96 at HO_5 BK131 BK132 HB hx139_0 hx140_0 hHeld ⊢
     refine stepP 0 (some 41) (tk 11 1) (any_of HT_.out (by kernel_rfl)) ?_
     refine stepP 1 (some 42) (tk 11 3) (any_of HT_.out (by kernel_rfl)) ?_
     refine stepP 3 (some 44) (tk 11 11) (any_of HT_.out (by kernel_rfl)) ?_
     refine stepP 4 (some 45) (tk 11 27) (any_of HT_.out (by kernel_rfl)) ?_
     refine stepT 2 (some 43) (tk 11 31) (take_ofW HT_.out HW_.out (by kernel_rfl)) hHeld ?_
     refine stepT 5 (some 46) (tk 11 63) (take_ofW HT_.out HW_.out (by kernel_rfl)) hHeld ?_
     refine stepP 6 (some 47) (tk 11 127) (any_of HT_.out (by kernel_rfl)) ?_
     refine stepP 7 (some 48) (tk 11 255) (any_of HT_.out (by kernel_rfl)) ?_
     refine stepP 8 (some 49) (tk 11 511) (any_of HT_.out (by kernel_rfl)) ?_
     refine one_ (i := 9) (N := some 50) #[I, I, I, I, I, I, I, I, I, I, O] rfl rfl (one_of HT_.out (by kernel_rfl)) (by decide) (fun K hK => ?_)
     refine goes_ Tryd.func27 (by kernel_rfl) rfl #[.string ((rdOf ByteArray.empty t133 0).extract 0 ((ji27) : Int).toNat), .int .u8 120] (by rfl) rfl rfl (by (try simp only [List.map_toArray, List.map_cons, List.map_nil]); first | done | (simp only [hji27]; rfl) | rfl | (simp only [List.length_drop, List.length_take]; rfl)) ?_
     with_reducible refine (spec_l02Parts.calls kj2 ((rdOf ByteArray.empty t133 0).extract 0 ((ji27) : Int).toNat) 120 t141 _ A30.out).mono ?_
     rintro e w98 ⟨v142, rfl, ho0, hb⟩;have HS0_ := (hb.cell (World.block_lt_of_cell? _ _ (hHeld.1))).trans (hHeld.1);have HS1_ := (hb.cell (World.block_lt_of_cell? _ _ (hHeld.2))).trans (hHeld.2)
     refine ⟨_, rfl, ?_⟩
     have n1_ := am (Kd.R_lower (Kd.R_new' ho0 (Kd.R_lt (R_at HO_5.out))) (below_size bel_now));replace HO_5 := am (Kd.R_elder' (R_at HO_5.out) (Kd.R_base ho0) hb);replace BK131 := blk_on gb131 hb;replace BK132 := blk_on gb132 hb;replace HB := bel_on w hb;have HO143 := n1_;clear n1_;(try clear hb);(try clear hb2);(try clear hb3);(try clear hk);(try clear hi);(try clear ho0)
     refine hK.out _ _ ⟨HS0_, HS1_⟩ (fun hHeld => ?_)
     clear hK K
     refine normP 50 ?_
     refine stepP 10 (some 6) (tk 11 2047) (any_of HT_.out (by kernel_rfl)) ?_
     refine done_ (done_of HT_.out (by kernel_rfl)) ?_
     obtain ⟨Ao99, co99, eo99⟩ := Kd.R_slice HO143.out;subst eo99;have hn100 := ne2 NB132_131;have hcz101 := cells4 BK132.out;have hcz102 := cells4 BK131.out
     try go_wp2
     refine bodyPost_ret (results_ct rfl _ _ gb131 38 #[.int .i64 0, .int .i64 0, .int .i64 0, .slice none 0 0] (0, 0) _ rfl (blk_fars (puts4 BK131.out)) Tryd.underlying38 rfl (by kernel_rfl)) rfl ?_
     exact ⟨_, by first | rfl | (simp [errW_none, errW_some] <;> rfl) | (simp only [← hji27]; first | rfl | (simp [errW_none, errW_some] <;> rfl)) | (simp [*, errW_none, errW_some] <;> rfl), by first | exact Kd.R_nil _ _ _ _ _ | exact Kd.N_nil _ _ _ _ _ | exact Kd.V_nil _ _ _ _ _ | exact Kd.Q_nil _ _ _ _ _ | exact Kd.S_nil _ _ _ _ _, bel_now⟩
    rw [if_pos c31] at H;have c31b0 : ((t141.length : Int) == 3) = true := beq_iff_eq.mpr c31;have c31b1 : ((t141.length : Int) != 3) = false := bne_eq_false_iff_eq.mpr c31;clear c31;obtain ⟨y144, hy144⟩ : ∃ y_ : List Int, y_ = (([] : List Int)) := ⟨_, rfl⟩;replace H : (spec_ParseTensor.l0 kj2 t133 t141 y144 0 0 0 0) = some (r1, r2, r3, r4, r5) := by first | (rw [hy144]; with_reducible exact H) | (have H2_ := (Option.bind_some _ _).symm.trans H; rw [hy144]; with_reducible exact H2_) | (have H2_ := (Option.bind_some _ _).symm.trans H; with_reducible exact H2_) | with_reducible exact H | (rw [hy144]; exact H) | exact H
    have Ny144 := am hy144;clear hy144;have H' := am H;clear H
    try go_wp2
    replace HO_5 := am (Kd.R_drew HO_5.out);replace BK131 := am (blk_drew BK131.out);replace BK132 := am (blk_drew BK132.out);replace HB := am (below_drew1 HB.out);obtain ⟨Ao33, co33, eo33⟩ := Kd.R_slice HO_5.out
    (first | subst eo33 | (injection eo33 with f1_ f2_ f3_; have f4_ := f1_.symm; have f5_ := f3_.symm; clear f1_ f2_ f3_; subst f4_; subst f5_))
    have p139 : 0 ≤ (0 : Int) := (by omega);have q139 : 0 < (t133.length : Int) := of_decide_eq_true (by first | (with_reducible assumption) | assumption);obtain ⟨ad139, e139, hx139_0⟩ := Kd.at_string (Kd.R_reads' HO_5.out).2.2 0 p139 q139;cases e139;have qi139 : (0 < t133.length) = True := eq_true (by omega)
    (try rw [show ((0 : Int)).toNat = 0 from rfl] at hx139_0)
    (try rw [Addr.add_zero'] at hx139_0);replace p139 := eq_true p139;replace q139 := eq_true q139;have p140 : 0 ≤ (0 : Int) := (by omega);have q140 : 0 < (t133.length : Int) := of_decide_eq_true (by first | (with_reducible assumption) | assumption);obtain ⟨ad140, e140, hx140_0⟩ := Kd.at_string (Kd.R_reads' HO_5.out).2.2 0 p140 q140;obtain rfl : ad139 = ad140 := (by injection e140);have qi140 : (0 < t133.length) = True := eq_true (by omega)
    (try rw [show ((0 : Int)).toNat = 0 from rfl] at hx140_0)
    (try rw [Addr.add_zero'] at hx140_0);replace p140 := eq_true p140;replace q140 := eq_true q140
    refine start_ (n := 11) (S := fun w' => w'.cell? ad139 = some (.string (rdOf ByteArray.empty t133 0)) ∧ w'.cell? ad139 = some (.string (rdOf ByteArray.empty t133 0))) (ds := []) #[O, O, O, O, O, O, O, O, O, O, O] (by kernel_rfl) rfl rfl ⟨hx139_0, hx140_0⟩ (fun hHeld => ?_); refine with_tabW spec_ParseTensor.tab5 spec_ParseTensor.bits5 (fun HT_ HW_ => ?_)
    generalize wc.drew = w32 at HO_5 BK131 BK132 HB hx139_0 hx140_0 hHeld ⊢
    refine stepP 0 (some 41) (tk 11 1) (any_of HT_.out (by kernel_rfl)) ?_
    refine stepP 1 (some 42) (tk 11 3) (any_of HT_.out (by kernel_rfl)) ?_
    refine stepP 3 (some 44) (tk 11 11) (any_of HT_.out (by kernel_rfl)) ?_
    refine stepP 4 (some 45) (tk 11 27) (any_of HT_.out (by kernel_rfl)) ?_
    refine stepT 2 (some 43) (tk 11 31) (take_ofW HT_.out HW_.out (by kernel_rfl)) hHeld ?_
    refine stepT 5 (some 46) (tk 11 63) (take_ofW HT_.out HW_.out (by kernel_rfl)) hHeld ?_
    refine stepP 6 (some 47) (tk 11 127) (any_of HT_.out (by kernel_rfl)) ?_
    refine stepP 7 (some 48) (tk 11 255) (any_of HT_.out (by kernel_rfl)) ?_
    refine stepP 8 (some 49) (tk 11 511) (any_of HT_.out (by kernel_rfl)) ?_
    refine one_ (i := 9) (N := some 50) #[I, I, I, I, I, I, I, I, I, I, O] rfl rfl (one_of HT_.out (by kernel_rfl)) (by decide) (fun K hK => ?_)
    refine goes_ Tryd.func27 (by kernel_rfl) rfl #[.string ((rdOf ByteArray.empty t133 0).extract 0 ((ji27) : Int).toNat), .int .u8 120] (by rfl) rfl rfl (by (try simp only [List.map_toArray, List.map_cons, List.map_nil]); first | done | (simp only [hji27]; rfl) | rfl | (simp only [List.length_drop, List.length_take]; rfl)) ?_
    with_reducible refine (spec_l02Parts.calls kj2 ((rdOf ByteArray.empty t133 0).extract 0 ((ji27) : Int).toNat) 120 t141 _ A30.out).mono ?_
    rintro e w34 ⟨v142, rfl, ho0, hb⟩;have HS0_ := (hb.cell (World.block_lt_of_cell? _ _ (hHeld.1))).trans (hHeld.1);have HS1_ := (hb.cell (World.block_lt_of_cell? _ _ (hHeld.2))).trans (hHeld.2)
    refine ⟨_, rfl, ?_⟩
    have n1_ := am (Kd.R_lower (Kd.R_new' ho0 (Kd.R_lt (R_at HO_5.out))) (below_size bel_now));replace HO_5 := am (Kd.R_elder' (R_at HO_5.out) (Kd.R_base ho0) hb);replace BK131 := blk_on gb131 hb;replace BK132 := blk_on gb132 hb;replace HB := bel_on w hb;have HO143 := n1_;clear n1_;(try clear hb);(try clear hb2);(try clear hb3);(try clear hk);(try clear hi);(try clear ho0)
    refine hK.out _ _ ⟨HS0_, HS1_⟩ (fun hHeld => ?_)
    clear hK K
    refine normP 50 ?_
    refine stepP 10 (some 6) (tk 11 2047) (any_of HT_.out (by kernel_rfl)) ?_
    refine done_ (done_of HT_.out (by kernel_rfl)) ?_
    obtain ⟨Ao35, co35, eo35⟩ := Kd.R_slice HO143.out;subst eo35
    try go_wp2_with (first | ((with_reducible refine gate_dst (N := 55) rfl ?_); (try (refine gate_guard (by rfl) ?_; dsimp only)); refine Kd.R_lit (Kd.int .i64) _ 3 ?hg (N := 55) ?hd (xs := ([] : List Int)) (inner := []) (ok := fun _ => True) (okp := fun _ => True) ?hr ?hp (fun _ hk => hk) trivial (Below.refl _ _) (Nat.le_refl _) (by simp) ?_; (case hd => rfl); (case hg => rfl); (case hr => first | (go_simp; done) | (go_simp; rfl)); (case hp => exact (Reps.none _ _)); intro v145 w36 ho37 hb hg_ hnew_; clear hg_ hnew_; (first | rw [← Ny144.out] at ho37 | (simp only [Int.reduceToNat] at ho37; rw [← Ny144.out] at ho37)); have n2_ := am (Kd.R_lower ho37 (below_size bel_now)); replace HO_5 := am (Kd.R_below (R_at HO_5.out) hb); replace HO143 := am (Kd.R_below (R_at HO143.out) hb); replace HB := bel_on w hb; replace BK131 := blk_on gb131 hb; replace BK132 := blk_on gb132 hb; have HO146 := n2_; clear n2_; clear hb ho37))
    go_loopg [7, 8] kj2 (fun kq v7 v8 w' => ∃ (x7_2 : List Int) (x8_2 : Int) (x132000_2 : Int) (x132001_2 : Int) (x132002_2 : Int), v8 = .int .i64 x8_2 ∧ Aside0 (spec_ParseTensor.l0 kq t133 t141 x7_2 x8_2 0 0 0 = some (r1, r2, r3, r4, r5)) ∧ Aside0 (kq ≤ kj2) ∧ Aside0 (Kd.R Kd.string 9 w' w.heap.size (fun k_ => some k_ ≠ ((.slice Ao35 t141.length co35) : Value).ownBlock) (.slice (some ad139) t133.length co33) t133) ∧ Aside0 (Kd.R Kd.string 9 w' w.heap.size (fun k_ => some k_ ≠ ((.slice (some ad139) t133.length co33) : Value).ownBlock) (.slice Ao35 t141.length co35) t141) ∧ Aside0 (Kd.R (Kd.int .i64) 3 w' w.heap.size (fun _ => True) v7 x7_2) ∧ Aside0 (w'.heap[gb131]? = some (.cells #[.int .i64 x132000_2, .int .i64 x132001_2, .int .i64 x132002_2, (.slice none 0 0)] 38 (0, 0))) ∧ Aside0 (w'.heap[gb132]? = some (.cells #[.int .i64 0, .int .i64 0, .int .i64 0, (.slice none 0 0)] 38 (0, 0))) ∧ Aside0 (Below w.heap.size w w'))
    case atStart => exact ⟨(y144), (0), (0), (0), (0), pv, H', ⟨Nat.le_refl _⟩, ⟨by (with_reducible repeat (first | apply Kd.R_alloc | apply Kd.R_drewN | apply Kd.R_drew)); exact Kd.R_mono HO_5.out (fun _ hk => hk.2)⟩, ⟨by (with_reducible repeat (first | apply Kd.R_alloc | apply Kd.R_drewN | apply Kd.R_drew)); exact Kd.R_mono HO143.out (fun _ hk => hk.2)⟩, ⟨R_at HO146.out⟩, ⟨bks BK131⟩, ⟨bks BK132⟩, ⟨bel_now⟩⟩
    case round =>
     clear H';try clear c22
     try clear c26
     try clear c26b0
     try clear c26b1
     try clear c28
     try clear c28b0
     try clear c28b1
     try clear c29
     try clear c29b0
     try clear c29b1
     try clear c31
     try clear c31b0
     try clear c31b1
     try clear hcz7
     try clear hx139_0
     try clear hx140_0
     try clear p139
     try clear p140
     try clear q139
     try clear q140
     obtain ⟨x7_2, x8_2, x132000_2, x132001_2, x132002_2, rfl, HA, HK2, HO_5, HO_6, HO_7, BK131, BK132, HB⟩ := hrel
     cases gk with
     | zero => exact absurd HA.out (by simp [spec_ParseTensor.l0])
     | succ k2 =>
      have H := HA.out;clear HA;simp only [spec_ParseTensor.l0] at H;by_cases c38 : x8_2 < 3
      ·rw [if_pos c38] at H;have c38b0 : decide (x8_2 < 3) = true := decide_eq_true c38;clear c38;obtain ⟨c39, H⟩ := gd H;have c39b0 : decide (0 ≤ x8_2) = true := decide_eq_true c39;clear c39;obtain ⟨c40, H⟩ := gd H;have c40b0 : decide (x8_2 < (t141.length : Int)) = true := decide_eq_true c40;clear c40;replace H := Option.bind_eq_some_iff.mp H;obtain ⟨⟨t148, t149⟩, A410, H⟩ := H;(try dsimp only at H);have A41 := am A410;clear A410;by_cases c42 : t149 = true;rotate_left
       ·replace c42 := Bool.eq_false_iff.mpr c42;subst c42
        rw [if_neg (show ¬ (false = true) by decide)] at H
        simp only [Option.some.injEq, Prod.mk.injEq] at H;obtain ⟨rfl, rfl, rfl, rfl, rfl⟩ := H;have p147 : 0 ≤ (x8_2 : Int) := of_decide_eq_true (by first | (with_reducible assumption) | assumption);have q147 : x8_2 < (t141.length : Int) := of_decide_eq_true (by first | (with_reducible assumption) | assumption);obtain ⟨ad147, e147, hx147_0⟩ := Kd.at_string (Kd.R_reads' HO_6.out).2.2 x8_2 p147 q147;cases e147;replace p147 := eq_true p147;replace q147 := eq_true q147
        go_wp2_with (first | ((with_reducible refine gate_callee (f := 28) rfl ?_); refine gM 65 Tryd.func28 #[.string (rdOf ByteArray.empty t141 x8_2)] rfl ?_; (with_reducible refine (spec_l02Read.calls k2 (rdOf ByteArray.empty t141 x8_2) t148 false _ A41.out).mono ?_); rintro e w46 ⟨rfl, hb⟩; refine ⟨_, rfl, ?_⟩; replace HO_5 := am (Kd.R_below (R_at HO_5.out) hb); replace HO_6 := am (Kd.R_below (R_at HO_6.out) hb); replace HO_7 := am (Kd.R_below (R_at HO_7.out) hb); replace HB := bel_on w hb; replace BK131 := blk_on gb131 hb; replace BK132 := blk_on gb132 hb; (try clear hb); (try clear hb2); (try clear hb3); (try clear hk); (try clear hi); have hn47 := ne2 NB132_131; have hcz48 := cells4 BK132.out; have hcz49 := cells4 BK131.out))
        refine bodyPost_ret (results_ct rfl _ _ gb131 38 #[.int .i64 0, .int .i64 0, .int .i64 0, .slice none 0 0] (0, 0) _ rfl (blk_fars (puts4 BK131.out)) Tryd.underlying38 rfl (by kernel_rfl)) rfl ?_
        exact ⟨_, by first | rfl | (simp [errW_none, errW_some] <;> rfl) | (simp only [← hji27]; first | rfl | (simp [errW_none, errW_some] <;> rfl)) | (simp [*, errW_none, errW_some] <;> rfl), by first | exact Kd.R_nil _ _ _ _ _ | exact Kd.N_nil _ _ _ _ _ | exact Kd.V_nil _ _ _ _ _ | exact Kd.Q_nil _ _ _ _ _ | exact Kd.S_nil _ _ _ _ _, bel_now⟩
       subst c42;rw [if_pos rfl] at H;obtain ⟨c43, H⟩ := gd H;have LMc43 := am c43;clear c43;obtain ⟨y150, hy150⟩ : ∃ y_ : List Int, y_ = (x7_2 ++ [t148]) := ⟨_, rfl⟩;replace H : (spec_ParseTensor.l0 k2 t133 t141 y150 (wrap64 (x8_2 + 1)) 0 0 0) = some (r1, r2, r3, r4, r5) := by first | (rw [hy150]; with_reducible exact H) | (have H2_ := (Option.bind_some _ _).symm.trans H; rw [hy150]; with_reducible exact H2_) | (have H2_ := (Option.bind_some _ _).symm.trans H; with_reducible exact H2_) | with_reducible exact H | (rw [hy150]; exact H) | exact H
       have Ny150 := am hy150;clear hy150;have H' := am H;clear H;have p147 : 0 ≤ (x8_2 : Int) := of_decide_eq_true (by first | (with_reducible assumption) | assumption);have q147 : x8_2 < (t141.length : Int) := of_decide_eq_true (by first | (with_reducible assumption) | assumption);obtain ⟨ad147, e147, hx147_0⟩ := Kd.at_string (Kd.R_reads' HO_6.out).2.2 x8_2 p147 q147;cases e147;replace p147 := eq_true p147;replace q147 := eq_true q147
       go_wp2_with (first | ((with_reducible refine gate_callee (f := 28) rfl ?_); refine gM 65 Tryd.func28 #[.string (rdOf ByteArray.empty t141 x8_2)] rfl ?_; (with_reducible refine (spec_l02Read.calls k2 (rdOf ByteArray.empty t141 x8_2) t148 true _ A41.out).mono ?_); rintro e w44 ⟨rfl, hb⟩; refine ⟨_, rfl, ?_⟩; replace HO_5 := am (Kd.R_below (R_at HO_5.out) hb); replace HO_6 := am (Kd.R_below (R_at HO_6.out) hb); replace HO_7 := am (Kd.R_below (R_at HO_7.out) hb); replace HB := bel_on w hb; replace BK131 := blk_on gb131 hb; replace BK132 := blk_on gb132 hb; (try clear hb); (try clear hb2); (try clear hb3); (try clear hk); (try clear hi)) | ((with_reducible refine gate_builtin (b := .append) (xs := #[.tmp 71, .tmp 73]) rfl ?_); (try (refine gate_guard (by rfl) ?_; dsimp only)); at_builtin; refine Kd.R_append (Kd.int .i64) (w0 := w) w.heap.size rfl (.tmp 71) (.tmp 73) 36 3 (.int .i64 0) 8 rfl Tryd.underlying36 info3 rfl (by decide) (by omega) u7 x7_2 t148 [.int .i64 t148] (fun _ => True) (fun _ => False) rfl rfl ?aP (fun _ hk => hk.elim) ?aF ?aO ?aB ?aS ?aL ?_; (case aP => exact rfl); (case aB => exact bel_now); (case aF => exact (fun _ _ => trivial)); (case aO => exact (R_at HO_7.out)); (case aS => exact (below_size bel_now)); (case aL => have := LMc43.out; omega); intro v151 w45 ho hb hg hat; rw [← Ny150.out] at ho; have n0_ := am (Kd.R_over' (R_at HO_5.out) (Kd.R_typed (R_at HO_7.out)) (by decide) hg); have n1_ := am (Kd.R_over' (R_at HO_6.out) (Kd.R_typed (R_at HO_7.out)) (by decide) hg); have n2_ := am (blk_grown (g := gb131) blk_now hg (Kd.R_ne HO_7.out BK131.out (by decide))); have n3_ := am (blk_grown (g := gb132) blk_now hg (Kd.R_ne HO_7.out BK132.out (by decide))); have n4_ := am (hb); have n5_ := am (ho); clear HO_5; clear HO_6; clear BK131; clear BK132; clear HB; clear HO_7; have HO_5 := n0_; have HO_6 := n1_; have BK131 := n2_; have BK132 := n3_; have HB := n4_; have HO152 := n5_; clear n0_ n1_ n2_ n3_ n4_ n5_; clear ho hb hg hat))
       go_roundg k2
       case measure => have := HJ2.out; have := HK2.out; omega
       case rel => exact ⟨(y150), (wrap64 (x8_2 + 1)), (x132000_2), (x132001_2), (x132002_2), pv, H', ⟨by have := HJ2.out; have := HK2.out; omega⟩, ⟨R_at HO_5.out⟩, ⟨R_at HO_6.out⟩, ⟨R_at HO152.out⟩, ⟨bks BK131⟩, ⟨bks BK132⟩, ⟨bel_now⟩⟩
      rw [if_neg c38] at H;have c38b0 : decide (x8_2 < 3) = false := decide_eq_false c38;clear c38;obtain ⟨c50, H⟩ := gd H;have c50b0 : decide (0 < (x7_2.length : Int)) = true := decide_eq_true c50;have c50b1 : decide (0 < x7_2.length) = true := decide_eq_true (by omega);clear c50;obtain ⟨c51, H⟩ := gd H;have c51b0 : decide (1 < (x7_2.length : Int)) = true := decide_eq_true c51;have c51b1 : decide (1 < x7_2.length) = true := decide_eq_true (by omega);clear c51;obtain ⟨c52, H⟩ := gd H;have c52b0 : decide (2 < (x7_2.length : Int)) = true := decide_eq_true c52;have c52b1 : decide (2 < x7_2.length) = true := decide_eq_true (by omega);clear c52;have H' := am H;clear H
      try go_wp2
      replace HO_5 := am (Kd.R_drew HO_5.out);replace HO_6 := am (Kd.R_drew HO_6.out);replace HO_7 := am (Kd.R_drew HO_7.out);replace BK131 := am (blk_drew BK131.out);replace BK132 := am (blk_drew BK132.out);replace HB := am (below_drew1 HB.out);obtain ⟨Ao54, co54, eo54⟩ := Kd.R_slice HO_7.out
      (first | subst eo54 | (injection eo54 with f1_ f2_ f3_; have f4_ := f1_.symm; have f5_ := f3_.symm; clear f1_ f2_ f3_; subst f4_; subst f5_))
      have p153 : 0 ≤ (0 : Int) := (by omega);have q153 : 0 < (x7_2.length : Int) := of_decide_eq_true (by first | (with_reducible assumption) | assumption);obtain ⟨ad153, e153, hx153_0⟩ := Kd.at_int (Kd.R_reads' HO_7.out).2.2 0 p153 q153;cases e153;have qi153 : (0 < x7_2.length) = True := eq_true (by omega)
      (try rw [show ((0 : Int)).toNat = 0 from rfl] at hx153_0)
      (try rw [Addr.add_zero'] at hx153_0);replace p153 := eq_true p153;replace q153 := eq_true q153;have p154 : 0 ≤ (1 : Int) := (by omega);have q154 : 1 < (x7_2.length : Int) := of_decide_eq_true (by first | (with_reducible assumption) | assumption);obtain ⟨ad154, e154, hx154_0⟩ := Kd.at_int (Kd.R_reads' HO_7.out).2.2 1 p154 q154;obtain rfl : ad153 = ad154 := (by injection e154)
      (try simp only [show (1 : Int).toNat = 1 from rfl, Nat.reduceMul, Nat.reduceEqDiff, Go.Addr.add, ↓reduceIte] at hx154_0)
      have qi154 : (1 < x7_2.length) = True := eq_true (by omega)
      (try rw [show ((1 : Int)).toNat = 1 from rfl] at hx154_0)
      replace p154 := eq_true p154;replace q154 := eq_true q154;have p155 : 0 ≤ (2 : Int) := (by omega);have q155 : 2 < (x7_2.length : Int) := of_decide_eq_true (by first | (with_reducible assumption) | assumption);obtain ⟨ad155, e155, hx155_0⟩ := Kd.at_int (Kd.R_reads' HO_7.out).2.2 2 p155 q155;obtain rfl : ad153 = ad155 := (by injection e155)
      (try simp only [show (2 : Int).toNat = 2 from rfl, Nat.reduceMul, Nat.reduceEqDiff, Go.Addr.add, ↓reduceIte] at hx155_0)
      have qi155 : (2 < x7_2.length) = True := eq_true (by omega)
      (try rw [show ((2 : Int)).toNat = 2 from rfl] at hx155_0)
      replace p155 := eq_true p155;replace q155 := eq_true q155
      refine start_ (n := 13) (S := fun w' => w'.cell? ad153 = some (.int .i64 (rd x7_2 0)) ∧ w'.cell? ⟨ad153.block, ad153.off + 1, none⟩ = some (.int .i64 (rd x7_2 1)) ∧ w'.cell? ⟨ad153.block, ad153.off + 2, none⟩ = some (.int .i64 (rd x7_2 2))) (ds := []) #[O, O, O, O, O, O, O, O, O, O, O, O, O] (by kernel_rfl) rfl rfl ⟨hx153_0, hx154_0, hx155_0⟩ (fun hHeld => ?_); refine with_tabW spec_ParseTensor.tab16 spec_ParseTensor.bits16 (fun HT_ HW_ => ?_)
      generalize wr.drew = w53 at HO_5 HO_6 HO_7 BK131 BK132 HB hx153_0 hx154_0 hx155_0 hHeld ⊢
      refine stepP 0 (some 75) (tk 13 1) (any_of HT_.out (by kernel_rfl)) ?_
      refine stepP 1 (some 76) (tk 13 3) (any_of HT_.out (by kernel_rfl)) ?_
      refine stepP 3 (some 78) (tk 13 11) (any_of HT_.out (by kernel_rfl)) ?_
      refine stepP 4 (some 79) (tk 13 27) (any_of HT_.out (by kernel_rfl)) ?_
      refine stepP 6 (some 81) (tk 13 91) (any_of HT_.out (by kernel_rfl)) ?_
      refine stepP 7 (some 82) (tk 13 219) (any_of HT_.out (by kernel_rfl)) ?_
      refine stepT 2 (some 77) (tk 13 223) (take_ofW HT_.out HW_.out (by kernel_rfl)) hHeld ?_
      refine stepT 5 (some 80) (tk 13 255) (take_ofW HT_.out HW_.out (by kernel_rfl)) hHeld ?_
      refine stepT 8 (some 83) (tk 13 511) (take_ofW HT_.out HW_.out (by kernel_rfl)) hHeld ?_
      refine stepP 9 (some 84) (tk 13 1023) (any_of HT_.out (by kernel_rfl)) ?_
      refine stepP 10 (some 85) (tk 13 2047) (any_of HT_.out (by kernel_rfl)) ?_
      refine one_ (i := 11) (N := some 11) #[I, I, I, I, I, I, I, I, I, I, I, I, O] rfl rfl (one_of HT_.out (by kernel_rfl)) (by decide) (fun K hK => ?_)
      refine box_step ?hg (N := 11) ?hd (cs := #[.int .i64 0, .int .i64 0, .int .i64 0, .slice none 0 0]) (t := 38) ?hr ?_; (case hd => rfl); (case hg => rfl); (case hr => first | (go_simp; done) | (go_simp; rfl))
      intro gb156 hg w55 hbox hb;have HS0_ := (hb.cell (World.block_lt_of_cell? _ _ (hHeld.1))).trans (hHeld.1);have HS1_ := (hb.cell (World.block_lt_of_cell? _ _ (hHeld.2.1))).trans (hHeld.2.1);have HS2_ := (hb.cell (World.block_lt_of_cell? _ _ (hHeld.2.2))).trans (hHeld.2.2);have n6_ := am (hbox);have n7_ := am ((by rw [hg]; exact (below_size bel_now) : w.heap.size ≤ gb156));have n8_ := am ((by rw [hg]; exact (below_size bel_now) : w.heap.size ≤ gb156));have n9_ := am ((by rw [hg]; exact Nat.ne_of_lt (blk_lt (g := gb131) blk_now) : gb131 ≠ gb156));have n10_ := am ((by rw [hg]; exact Nat.ne_of_gt (blk_lt (g := gb131) blk_now) : gb156 ≠ gb131));have n11_ := am ((by rw [hg]; exact Nat.ne_of_lt (blk_lt (g := gb132) blk_now) : gb132 ≠ gb156));have n12_ := am ((by rw [hg]; exact Nat.ne_of_gt (blk_lt (g := gb132) blk_now) : gb156 ≠ gb132));replace HO_5 := am (Kd.R_below (R_at HO_5.out) hb);replace HO_6 := am (Kd.R_below (R_at HO_6.out) hb);replace HO_7 := am (Kd.R_below (R_at HO_7.out) hb);replace BK131 := blk_on gb131 hb;replace BK132 := blk_on gb132 hb;replace HB := bel_on w hb;have BK156 := n6_;have GW156 := n7_;have GE156 := n8_;have NB131_156 := n9_;have NB156_131 := n10_;have NB132_156 := n11_;have NB156_132 := n12_;clear n6_ n7_ n8_ n9_ n10_ n11_ n12_;clear hb hbox hg
      refine hK.out _ _ ⟨HS0_, HS1_, HS2_⟩ (fun hHeld => ?_)
      clear hK K
      refine normP 11 ?_
      refine one_ (i := 12) (N := none) #[I, I, I, I, I, I, I, I, I, I, I, I, I] rfl rfl (one_of HT_.out (by kernel_rfl)) (by decide) (fun K hK => ?_)
      have hs56 : w55.cell? ⟨gb156, 0, none⟩ = some (.int .i64 0) := (blk_cell BK156.out 0).trans rfl;have hfs56 := blk_frozen BK156.out 0;have hns56_0 := NB131_156.out;have hns56_1 := NB132_156.out;have hms56_0 := NB156_131.out;have hms56_1 := NB156_132.out;have hs57 : w55.cell? ⟨gb156, 1, none⟩ = some (.int .i64 0) := (blk_cell BK156.out 1).trans rfl;have hfs57 := blk_frozen BK156.out 1;have hns57_0 := NB131_156.out;have hns57_1 := NB132_156.out;have hms57_0 := NB156_131.out;have hms57_1 := NB156_132.out;have hs58 : w55.cell? ⟨gb156, 2, none⟩ = some (.int .i64 0) := (blk_cell BK156.out 2).trans rfl;have hfs58 := blk_frozen BK156.out 2;have hns58_0 := NB131_156.out;have hns58_1 := NB132_156.out;have hms58_0 := NB156_131.out;have hms58_1 := NB156_132.out;have hs59 : w55.cell? ⟨gb156, 3, none⟩ = some (.slice none 0 0) := (blk_cell BK156.out 3).trans rfl;have hfs59 := blk_frozen BK156.out 3;have hns59_0 := NB131_156.out;have hns59_1 := NB132_156.out;have hms59_0 := NB156_131.out;have hms59_1 := NB156_132.out
      refine skip_ (w1 := ?_) (by rfl) rfl ?_ ?_
      rotate_left
      ·go_simp
       rfl
      refine hK.out _ _ ⟨(far4 (by first | exact Kd.own_blk (Kd.R_ne HO_7.out BK156.out (by decide)) | (rw [add_block]; exact Kd.own_blk (Kd.R_ne HO_7.out BK156.out (by decide))) | (show (Addr.add _ _).block ≠ _; rw [add_block]; exact Kd.own_blk (Kd.R_ne HO_7.out BK156.out (by decide))) | (dsimp only; exact Kd.own_blk (Kd.R_ne HO_7.out BK156.out (by decide)))) (hHeld.1)), (far4 (by first | exact Kd.own_blk (Kd.R_ne HO_7.out BK156.out (by decide)) | (rw [add_block]; exact Kd.own_blk (Kd.R_ne HO_7.out BK156.out (by decide))) | (show (Addr.add _ _).block ≠ _; rw [add_block]; exact Kd.own_blk (Kd.R_ne HO_7.out BK156.out (by decide))) | (dsimp only; exact Kd.own_blk (Kd.R_ne HO_7.out BK156.out (by decide)))) (hHeld.2.1)), (far4 (by first | exact Kd.own_blk (Kd.R_ne HO_7.out BK156.out (by decide)) | (rw [add_block]; exact Kd.own_blk (Kd.R_ne HO_7.out BK156.out (by decide))) | (show (Addr.add _ _).block ≠ _; rw [add_block]; exact Kd.own_blk (Kd.R_ne HO_7.out BK156.out (by decide))) | (dsimp only; exact Kd.own_blk (Kd.R_ne HO_7.out BK156.out (by decide)))) (hHeld.2.2))⟩ (fun hHeld => ?_)
      clear hK K
      refine done_ (done_of HT_.out (by kernel_rfl)) ?_
      try go_wp2
      go_loopg [12] k2 (fun kq v12 w' => ∃ (x12_3 : Int) (x132000_3 : Int) (x132001_3 : Int) (x132002_3 : Int) (x157003_3 : List Int) (u157003 : Value), v12 = .int .i64 x12_3 ∧ Aside0 (spec_ParseTensor.l1 kq t133 x12_3 0 0 0 (rd x7_2 0) (rd x7_2 1) (rd x7_2 2) x157003_3 = some (r1, r2, r3, r4, r5)) ∧ Aside0 (kq ≤ k2) ∧ Aside0 (Kd.R Kd.string 9 w' w.heap.size (fun _ => True) (.slice (some ad139) t133.length co33) t133) ∧ Aside0 (Kd.R (Kd.int .i64) 3 w' w.heap.size (fun _ => True) u157003 x157003_3) ∧ Aside0 (w'.heap[gb131]? = some (.cells #[.int .i64 x132000_3, .int .i64 x132001_3, .int .i64 x132002_3, (.slice none 0 0)] 38 (0, 0))) ∧ Aside0 (w'.heap[gb132]? = some (.cells #[.int .i64 0, .int .i64 0, .int .i64 0, (.slice none 0 0)] 38 (0, 0))) ∧ Aside0 (w'.heap[gb156]? = some (.cells #[.int .i64 (rd x7_2 0), .int .i64 (rd x7_2 1), .int .i64 (rd x7_2 2), u157003] 38 (0, 0))) ∧ Aside0 (Below w.heap.size w w'))
      case atStart => exact ⟨(1), (x132000_2), (x132001_2), (x132002_2), (([] : List Int)), (.slice none 0 0), pv, H', ⟨Nat.le_refl _⟩, ⟨by (with_reducible repeat (first | apply Kd.R_alloc | apply Kd.R_drewN | apply Kd.R_drew)); exact Kd.R_mono (Kd.R_far (p := ⟨gb156, 3, none⟩) (Kd.R_far (p := ⟨gb156, 2, none⟩) (Kd.R_far (p := ⟨gb156, 1, none⟩) (Kd.R_far (p := ⟨gb156, 0, none⟩) (Kd.R_types HO_5.out BK156.out (by decide)) (fun _ hk => hk.2) (.int .i64 (rd x7_2 0))) (fun _ hk => hk.2) (.int .i64 (rd x7_2 1))) (fun _ hk => hk.2) (.int .i64 (rd x7_2 2))) (fun _ hk => hk.2) (.slice none 0 0)) (fun _ hk => trivial)⟩, ⟨by first | exact Kd.R_nil _ _ _ _ _ | exact Kd.N_nil _ _ _ _ _ | exact Kd.V_nil _ _ _ _ _ | exact Kd.Q_nil _ _ _ _ _ | exact Kd.S_nil _ _ _ _ _⟩, ⟨by (with_reducible repeat (first | refine blk_drewN ?_ _ | refine blk_drew ?_ | refine blk_alloc ?_ _)); refine blk_far ?_ NB131_156.out _; (with_reducible repeat (first | refine blk_drewN ?_ _ | refine blk_drew ?_ | refine blk_alloc ?_ _)); refine blk_far ?_ NB131_156.out _; (with_reducible repeat (first | refine blk_drewN ?_ _ | refine blk_drew ?_ | refine blk_alloc ?_ _)); refine blk_far ?_ NB131_156.out _; (with_reducible repeat (first | refine blk_drewN ?_ _ | refine blk_drew ?_ | refine blk_alloc ?_ _)); refine blk_far ?_ NB131_156.out _; (with_reducible repeat (first | refine blk_drewN ?_ _ | refine blk_drew ?_ | refine blk_alloc ?_ _)); exact BK131.out⟩, ⟨by (with_reducible repeat (first | refine blk_drewN ?_ _ | refine blk_drew ?_ | refine blk_alloc ?_ _)); refine blk_far ?_ NB132_156.out _; (with_reducible repeat (first | refine blk_drewN ?_ _ | refine blk_drew ?_ | refine blk_alloc ?_ _)); refine blk_far ?_ NB132_156.out _; (with_reducible repeat (first | refine blk_drewN ?_ _ | refine blk_drew ?_ | refine blk_alloc ?_ _)); refine blk_far ?_ NB132_156.out _; (with_reducible repeat (first | refine blk_drewN ?_ _ | refine blk_drew ?_ | refine blk_alloc ?_ _)); refine blk_far ?_ NB132_156.out _; (with_reducible repeat (first | refine blk_drewN ?_ _ | refine blk_drew ?_ | refine blk_alloc ?_ _)); exact BK132.out⟩, ⟨by (with_reducible repeat (first | refine blk_drewN ?_ _ | refine blk_drew ?_ | refine blk_alloc ?_ _)); refine blk_put (cs := #[.int .i64 (rd x7_2 0), .int .i64 (rd x7_2 1), .int .i64 (rd x7_2 2), .slice none 0 0]) ?_ 3 _ rfl; (with_reducible repeat (first | refine blk_drewN ?_ _ | refine blk_drew ?_ | refine blk_alloc ?_ _)); refine blk_put (cs := #[.int .i64 (rd x7_2 0), .int .i64 (rd x7_2 1), .int .i64 0, .slice none 0 0]) ?_ 2 _ rfl; (with_reducible repeat (first | refine blk_drewN ?_ _ | refine blk_drew ?_ | refine blk_alloc ?_ _)); refine blk_put (cs := #[.int .i64 (rd x7_2 0), .int .i64 0, .int .i64 0, .slice none 0 0]) ?_ 1 _ rfl; (with_reducible repeat (first | refine blk_drewN ?_ _ | refine blk_drew ?_ | refine blk_alloc ?_ _)); refine blk_put (cs := #[.int .i64 0, .int .i64 0, .int .i64 0, .slice none 0 0]) ?_ 0 _ rfl; (with_reducible repeat (first | refine blk_drewN ?_ _ | refine blk_drew ?_ | refine blk_alloc ?_ _)); exact BK156.out⟩, ⟨bel_now⟩⟩
      case round =>
       clear H';try clear c22
       try clear c26
       try clear c26b0
       try clear c26b1
       try clear c28
       try clear c28b0
       try clear c28b1
       try clear c29
       try clear c29b0
       try clear c29b1
       try clear c31
       try clear c31b0
       try clear c31b1
       try clear c38
       try clear c38b0
       try clear c50
       try clear c50b0
       try clear c50b1
       try clear c51
       try clear c51b0
       try clear c51b1
       try clear c52
       try clear c52b0
       try clear c52b1
       try clear hcz7
       try clear hx139_0
       try clear hx140_0
       try clear hx153_0
       try clear hx154_0
       try clear hx155_0
       try clear p139
       try clear p140
       try clear p153
       try clear p154
       try clear p155
       try clear q139
       try clear q140
       try clear q153
       try clear q154
       try clear q155
       obtain ⟨x12_3, x132000_3, x132001_3, x132002_3, x157003_3, u157003, rfl, HA, HK3, HO_5, HO_157003, BK131, BK132, BK156, HB⟩ := hrel
       cases gk with
       | zero => exact absurd HA.out (by simp [spec_ParseTensor.l1])
       | succ k3 =>
        have H := HA.out;clear HA;simp only [spec_ParseTensor.l1] at H;by_cases c60 : x12_3 < (t133.length : Int);rotate_left
        ·rw [if_neg c60] at H;have c60b0 : decide (x12_3 < (t133.length : Int)) = false := decide_eq_false c60;clear c60;obtain ⟨t163, A78, H⟩ := bnd H;(try dsimp only at H);by_cases c79 : t163 = true;rotate_left
         ·replace c79 := Bool.eq_false_iff.mpr c79;subst c79
          rw [if_neg (show ¬ (false = true) by decide)] at H
          simp only [Option.some.injEq, Prod.mk.injEq] at H;obtain ⟨rfl, rfl, rfl, rfl, rfl⟩ := H;have hn88 := ne2 NB156_131;have hn89 := ne2 NB156_132;have hcz90 := cells4 BK156.out;obtain ⟨Ao91, co91, eo91⟩ := Kd.R_slice HO_157003.out;subst eo91
          go_wp2_with (first | ((with_reducible refine gate_callee (f := 29) rfl ?_); refine gM 110 Tryd.func29 #[.agg #[.int .i64 (rd x7_2 0), .int .i64 (rd x7_2 1), .int .i64 (rd x7_2 2), .slice Ao91 x157003_3.length co91]] rfl ?_; (with_reducible refine (spec_TensorOk.calls k3 (rd x7_2 0) (rd x7_2 1) (rd x7_2 2) _ _ x157003_3 false _ ?side1 ?side2 A78.out).mono ?_); (case side1 => exact (Kd.R_reads' (R_at HO_157003.out)).2.2); (case side2 => exact (Kd.R_reads' HO_157003.out).2.1); rintro e w92 ⟨rfl, hb⟩; refine ⟨_, rfl, ?_⟩; replace HO_5 := am (Kd.R_below (R_at HO_5.out) hb); replace HO_157003 := am (Kd.R_below (R_at HO_157003.out) hb); replace HB := bel_on w hb; replace BK131 := blk_on gb131 hb; replace BK132 := blk_on gb132 hb; replace BK156 := blk_on gb156 hb; (try clear hb); (try clear hb2); (try clear hb3); (try clear hk); (try clear hi); have hn93 := ne2 NB132_131; have hcz94 := cells4 BK132.out; have hcz95 := cells4 BK131.out))
          refine bodyPost_ret (results_ct rfl _ _ gb131 38 #[.int .i64 0, .int .i64 0, .int .i64 0, .slice none 0 0] (0, 0) _ rfl (blk_fars (puts4 BK131.out)) Tryd.underlying38 rfl (by kernel_rfl)) rfl ?_
          exact ⟨_, by first | rfl | (simp [errW_none, errW_some] <;> rfl) | (simp only [← hji27]; first | rfl | (simp [errW_none, errW_some] <;> rfl)) | (simp [*, errW_none, errW_some] <;> rfl), by first | exact Kd.R_nil _ _ _ _ _ | exact Kd.N_nil _ _ _ _ _ | exact Kd.V_nil _ _ _ _ _ | exact Kd.Q_nil _ _ _ _ _ | exact Kd.S_nil _ _ _ _ _, bel_now⟩
         subst c79;rw [if_pos rfl] at H;simp only [Option.some.injEq, Prod.mk.injEq] at H;obtain ⟨rfl, rfl, rfl, rfl, rfl⟩ := H;have hn80 := ne2 NB156_131;have hn81 := ne2 NB156_132;have hcz82 := cells4 BK156.out;obtain ⟨Ao83, co83, eo83⟩ := Kd.R_slice HO_157003.out;subst eo83
         go_wp2_with (first | ((with_reducible refine gate_callee (f := 29) rfl ?_); refine gM 110 Tryd.func29 #[.agg #[.int .i64 (rd x7_2 0), .int .i64 (rd x7_2 1), .int .i64 (rd x7_2 2), .slice Ao83 x157003_3.length co83]] rfl ?_; (with_reducible refine (spec_TensorOk.calls k3 (rd x7_2 0) (rd x7_2 1) (rd x7_2 2) _ _ x157003_3 true _ ?side1 ?side2 A78.out).mono ?_); (case side1 => exact (Kd.R_reads' (R_at HO_157003.out)).2.2); (case side2 => exact (Kd.R_reads' HO_157003.out).2.1); rintro e w84 ⟨rfl, hb⟩; refine ⟨_, rfl, ?_⟩; replace HO_5 := am (Kd.R_below (R_at HO_5.out) hb); replace HO_157003 := am (Kd.R_below (R_at HO_157003.out) hb); replace HB := bel_on w hb; replace BK131 := blk_on gb131 hb; replace BK132 := blk_on gb132 hb; replace BK156 := blk_on gb156 hb; (try clear hb); (try clear hb2); (try clear hb3); (try clear hk); (try clear hi); have hcz85 := cells4 BK156.out; have hn86 := ne2 NB131_132; have hcz87 := cells4 BK131.out))
         refine bodyPost_ret (results_ct rfl _ _ gb131 38 #[.int .i64 (rd x7_2 0), .int .i64 (rd x7_2 1), .int .i64 (rd x7_2 2), .slice Ao83 x157003_3.length co83] (0, 0) _ rfl (blk_fars (puts4 BK131.out)) Tryd.underlying38 rfl (by kernel_rfl)) rfl ?_
         exact ⟨_, by first | rfl | (simp [errW_none, errW_some] <;> rfl) | (simp only [← hji27]; first | rfl | (simp [errW_none, errW_some] <;> rfl)) | (simp [*, errW_none, errW_some] <;> rfl), by (with_reducible repeat (first | apply Kd.R_alloc | apply Kd.R_drewN | apply Kd.R_drew)); exact Kd.R_mono (Kd.R_far (p := ⟨gb131, 3, none⟩) (Kd.R_far (p := ⟨gb131, 2, none⟩) (Kd.R_far (p := ⟨gb131, 1, none⟩) (Kd.R_far (p := ⟨gb131, 0, none⟩) (Kd.R_types HO_157003.out BK131.out (by decide)) (fun _ hk => hk.2) (.int .i64 (rd x7_2 0))) (fun _ hk => hk.2) (.int .i64 (rd x7_2 1))) (fun _ hk => hk.2) (.int .i64 (rd x7_2 2))) (fun _ hk => hk.2) (.slice Ao83 x157003_3.length co83)) (fun _ hk => trivial), bel_now⟩
        rw [if_pos c60] at H;have c60b0 : decide (x12_3 < (t133.length : Int)) = true := decide_eq_true c60;clear c60;obtain ⟨c61, H⟩ := gd H;have c61b0 : decide (0 ≤ x12_3) = true := decide_eq_true c61;clear c61;replace H := Option.bind_eq_some_iff.mp H;obtain ⟨⟨t158, t159⟩, A620, H⟩ := H;(try dsimp only at H);have A62 := am A620;clear A620;by_cases c63 : t159 = true;rotate_left
        ·replace c63 := Bool.eq_false_iff.mpr c63;subst c63
         rw [if_neg (show ¬ (false = true) by decide)] at H
         simp only [Option.some.injEq, Prod.mk.injEq] at H;obtain ⟨rfl, rfl, rfl, rfl, rfl⟩ := H;have p157 : 0 ≤ (x12_3 : Int) := of_decide_eq_true (by first | (with_reducible assumption) | assumption);have q157 : x12_3 < (t133.length : Int) := of_decide_eq_true (by first | (with_reducible assumption) | assumption);obtain ⟨ad157, e157, hx157_0⟩ := Kd.at_string (Kd.R_reads' HO_5.out).2.2 x12_3 p157 q157;obtain rfl : ad139 = ad157 := (by injection e157);replace p157 := eq_true p157;replace q157 := eq_true q157
         go_wp2_with (first | ((with_reducible refine gate_callee (f := 28) rfl ?_); refine gM 97 Tryd.func28 #[.string (rdOf ByteArray.empty t133 x12_3)] rfl ?_; (with_reducible refine (spec_l02Read.calls k3 (rdOf ByteArray.empty t133 x12_3) t158 false _ A62.out).mono ?_); rintro e w72 ⟨rfl, hb⟩; refine ⟨_, rfl, ?_⟩; replace HO_5 := am (Kd.R_below (R_at HO_5.out) hb); replace HO_157003 := am (Kd.R_below (R_at HO_157003.out) hb); replace HB := bel_on w hb; replace BK131 := blk_on gb131 hb; replace BK132 := blk_on gb132 hb; replace BK156 := blk_on gb156 hb; (try clear hb); (try clear hb2); (try clear hb3); (try clear hk); (try clear hi); have hn73 := ne2 NB132_131; have hn74 := ne2 NB132_156; have hcz75 := cells4 BK132.out; have hn76 := ne2 NB131_156; have hcz77 := cells4 BK131.out))
         refine bodyPost_ret (results_ct rfl _ _ gb131 38 #[.int .i64 0, .int .i64 0, .int .i64 0, .slice none 0 0] (0, 0) _ rfl (blk_fars (puts4 BK131.out)) Tryd.underlying38 rfl (by kernel_rfl)) rfl ?_
         exact ⟨_, by first | rfl | (simp [errW_none, errW_some] <;> rfl) | (simp only [← hji27]; first | rfl | (simp [errW_none, errW_some] <;> rfl)) | (simp [*, errW_none, errW_some] <;> rfl), by first | exact Kd.R_nil _ _ _ _ _ | exact Kd.N_nil _ _ _ _ _ | exact Kd.V_nil _ _ _ _ _ | exact Kd.Q_nil _ _ _ _ _ | exact Kd.S_nil _ _ _ _ _, bel_now⟩
        subst c63;rw [if_pos rfl] at H;obtain ⟨c64, H⟩ := gd H;have LMc64 := am c64;clear c64;obtain ⟨y160, hy160⟩ : ∃ y_ : List Int, y_ = (x157003_3 ++ [t158]) := ⟨_, rfl⟩;replace H : (spec_ParseTensor.l1 k3 t133 (wrap64 (x12_3 + 1)) 0 0 0 (rd x7_2 0) (rd x7_2 1) (rd x7_2 2) y160) = some (r1, r2, r3, r4, r5) := by first | (rw [hy160]; with_reducible exact H) | (have H2_ := (Option.bind_some _ _).symm.trans H; rw [hy160]; with_reducible exact H2_) | (have H2_ := (Option.bind_some _ _).symm.trans H; with_reducible exact H2_) | with_reducible exact H | (rw [hy160]; exact H) | exact H
        have Ny160 := am hy160;clear hy160;have H' := am H;clear H;have p157 : 0 ≤ (x12_3 : Int) := of_decide_eq_true (by first | (with_reducible assumption) | assumption);have q157 : x12_3 < (t133.length : Int) := of_decide_eq_true (by first | (with_reducible assumption) | assumption);obtain ⟨ad157, e157, hx157_0⟩ := Kd.at_string (Kd.R_reads' HO_5.out).2.2 x12_3 p157 q157;obtain rfl : ad139 = ad157 := (by injection e157);replace p157 := eq_true p157;replace q157 := eq_true q157
        go_wp2_with (first | ((with_reducible refine gate_callee (f := 28) rfl ?_); refine gM 97 Tryd.func28 #[.string (rdOf ByteArray.empty t133 x12_3)] rfl ?_; (with_reducible refine (spec_l02Read.calls k3 (rdOf ByteArray.empty t133 x12_3) t158 true _ A62.out).mono ?_); rintro e w65 ⟨rfl, hb⟩; refine ⟨_, rfl, ?_⟩; replace HO_5 := am (Kd.R_below (R_at HO_5.out) hb); replace HO_157003 := am (Kd.R_below (R_at HO_157003.out) hb); replace HB := bel_on w hb; replace BK131 := blk_on gb131 hb; replace BK132 := blk_on gb132 hb; replace BK156 := blk_on gb156 hb; (try clear hb); (try clear hb2); (try clear hb3); (try clear hk); (try clear hi); have hn66 := ne2 NB156_131; have hn67 := ne2 NB156_132; have hcz68 := cells4 BK156.out) | ((with_reducible refine gate_builtin (b := .append) (xs := #[.tmp 104, .tmp 106]) rfl ?_); (try (refine gate_guard (by rfl) ?_; dsimp only)); at_builtin; refine Kd.R_append (Kd.int .i64) (w0 := w) w.heap.size rfl (.tmp 104) (.tmp 106) 36 3 (.int .i64 0) 8 rfl Tryd.underlying36 info3 rfl (by decide) (by omega) u157003 x157003_3 t158 [.int .i64 t158] (fun _ => True) (fun _ => False) rfl rfl ?aP (fun _ hk => hk.elim) ?aF ?aO ?aB ?aS ?aL ?_; (case aP => exact rfl); (case aB => exact bel_now); (case aF => exact (fun _ _ => trivial)); (case aO => exact (R_at HO_157003.out)); (case aS => exact (below_size bel_now)); (case aL => have := LMc64.out; omega); intro v161 w69 ho hb hg hat; rw [← Ny160.out] at ho; have n0_ := am (Kd.R_over' (R_at HO_5.out) (Kd.R_typed (R_at HO_157003.out)) (by decide) hg); have n1_ := am (blk_grown (g := gb131) blk_now hg (Kd.R_ne HO_157003.out BK131.out (by decide))); have n2_ := am (blk_grown (g := gb132) blk_now hg (Kd.R_ne HO_157003.out BK132.out (by decide))); have n3_ := am (blk_grown (g := gb156) blk_now hg (Kd.R_ne HO_157003.out BK156.out (by decide))); have n4_ := am (hb); have n5_ := am (ho); clear HO_5; clear BK131; clear BK132; clear BK156; clear HB; clear HO_157003; have HO_5 := n0_; have BK131 := n1_; have BK132 := n2_; have BK156 := n3_; have HB := n4_; have HO162 := n5_; clear n0_ n1_ n2_ n3_ n4_ n5_; clear ho hb hg hat; obtain ⟨Ao70, co70, eo70⟩ := Kd.R_slice HO162.out; subst eo70; have hcz71 := cells4 BK156.out))
        go_roundg k3
        case measure => have := HJ2.out; have := HK2.out; have := HK3.out; omega
        case rel => exact ⟨(wrap64 (x12_3 + 1)), (x132000_3), (x132001_3), (x132002_3), (y160), (.slice Ao70 y160.length co70), pv, H', ⟨by have := HJ2.out; have := HK2.out; have := HK3.out; omega⟩, ⟨by (with_reducible repeat (first | apply Kd.R_alloc | apply Kd.R_drewN | apply Kd.R_drew)); exact Kd.R_mono (Kd.R_far (p := ⟨gb156, 3, none⟩) (Kd.R_types HO_5.out BK156.out (by decide)) (fun _ hk => hk.2) (.slice Ao70 y160.length co70)) (fun _ hk => trivial)⟩, ⟨by (with_reducible repeat (first | apply Kd.R_alloc | apply Kd.R_drewN | apply Kd.R_drew)); exact Kd.R_mono (Kd.R_far (p := ⟨gb156, 3, none⟩) (Kd.R_types HO162.out BK156.out (by decide)) (fun _ hk => hk.2) (.slice Ao70 y160.length co70)) (fun _ hk => trivial)⟩, ⟨by (with_reducible repeat (first | refine blk_drewN ?_ _ | refine blk_drew ?_ | refine blk_alloc ?_ _)); refine blk_far ?_ NB131_156.out _; (with_reducible repeat (first | refine blk_drewN ?_ _ | refine blk_drew ?_ | refine blk_alloc ?_ _)); exact BK131.out⟩, ⟨by (with_reducible repeat (first | refine blk_drewN ?_ _ | refine blk_drew ?_ | refine blk_alloc ?_ _)); refine blk_far ?_ NB132_156.out _; (with_reducible repeat (first | refine blk_drewN ?_ _ | refine blk_drew ?_ | refine blk_alloc ?_ _)); exact BK132.out⟩, ⟨by (with_reducible repeat (first | refine blk_drewN ?_ _ | refine blk_drew ?_ | refine blk_alloc ?_ _)); refine blk_put (cs := #[.int .i64 (rd x7_2 0), .int .i64 (rd x7_2 1), .int .i64 (rd x7_2 2), u157003]) ?_ 3 _ rfl; (with_reducible repeat (first | refine blk_drewN ?_ _ | refine blk_drew ?_ | refine blk_alloc ?_ _)); exact BK156.out⟩, ⟨bel_now⟩⟩

end Go.Proofs.YtclpojeofclbjaaDoor.PFnExactParseTensor
