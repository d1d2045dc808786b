import Derived.Test.YtjmejobelkllmaaPFnStoredx0
import Derived.Test.YtjmejobelkllmaaPFnStoredx2
namespace Go.Proofs.Ytjmejobelkllmaa.PFnStored
open Go.RowKit Go.Proofs.YtjmejobelkllmaaW.PrintWords Go.Proofs.YtjmejobelkllmaaW.PrintLast Go.Proofs.YtjmejobelkllmaaW.PrintMore
attribute [local go_sem] max2_int min2_int max_two min_two max_three min_three max_four min_four
set_option maxHeartbeats 8000000
set_option maxRecDepth 100000
set_option linter.unusedVariables false
set_option linter.unusedSimpArgs false

mutual
def spec_l03DrawLayer.j0 : Nat → Bool → List Int → Int → Int → Int → Int → Int → Int → Int → Int → Int → Int → Int → Int → Option (Int × Int × Int × Int × Int × Int × Int × List Int × List Int × Int × Int)
  | 0, _, _, _, _, _, _, _, _, _, _, _, _, _, _ => none
  | k + 1, x31, x1000, x1001, x1002, x150000, x150001, x150002, x158000, x158001, x158002, x158003, x158004, x158005, x158006 => if x31 = true then (spec_l03DrawLayer.j1 k x1000 x1001 x1002 x150000 x150001 x150002 4 x158001 x158002 x158003 x158004 x158005 x158006) else (spec_l03DrawLayer.j1 k x1000 x1001 x1002 x150000 x150001 x150002 x158000 x158001 x158002 x158003 x158004 x158005 x158006)
def spec_l03DrawLayer.j1 : Nat → List Int → Int → Int → Int → Int → Int → Int → Int → Int → Int → Int → Int → Int → Option (Int × Int × Int × Int × Int × Int × Int × List Int × List Int × Int × Int)
  | 0, _, _, _, _, _, _, _, _, _, _, _, _, _ => none
  | k + 1, x1000, x1001, x1002, x150000, x150001, x150002, x158000, x158001, x158002, x158003, x158004, x158005, x158006 => (spec_l01In.f x158000 1 3).bind fun t161 => (if t161 = true then (if x150000 < 3 then (spec_l03DrawLayer.j2 k x150000 x1000 x1001 x1002 x150000 x150001 x150002 x158000 x158001 x158002 x158003 x158004 x158005 x158006) else (spec_l03DrawLayer.j2 k 3 x1000 x1001 x1002 x150000 x150001 x150002 x158000 x158001 x158002 x158003 x158004 x158005 x158006)) else (spec_l03DrawLayer.j3 k x1000 x1001 x1002 x150000 x150001 x150002 x158000 x158001 x158002 x158003 x158004 x158005 x158006))
def spec_l03DrawLayer.j3 : Nat → List Int → Int → Int → Int → Int → Int → Int → Int → Int → Int → Int → Int → Int → Option (Int × Int × Int × Int × Int × Int × Int × List Int × List Int × Int × Int)
  | 0, _, _, _, _, _, _, _, _, _, _, _, _, _ => none
  | k + 1, x1000, x1001, x1002, x150000, x150001, x150002, x158000, x158001, x158002, x158003, x158004, x158005, x158006 => if x158000 ≤ 1 then ((spec_l01Below.f x1000 x1001 x1002 3).bind fun bt174 => ((spec_l01Below.f x1000 bt174.2.1 bt174.2.2 16777216).bind fun bt177 => ((spec_l01Below.f x1000 bt177.2.1 bt177.2.2 10).bind fun bt180 => ((spec_l01Below.f x1000 bt180.2.1 bt180.2.2 9).bind fun bt183 => ((spec_SizeOf.f x150000 x150001 x150002).bind fun t186 => (if x158000 = 1 then (spec_l03DrawLayer.j4 k (wrap64 ((wrap64 ((wrap64 ((wrap64 (1 + bt174.1)) * x158002)) * x158002)) * x150002)) x1000 bt183.2.1 bt183.2.2 x158000 (wrap64 (1 + bt174.1)) x158002 x158003 (wrap64 (1073741824 + (wrap64 (bt177.1 * 60)))) bt180.1 (wrap64 (bt183.1 - 4))) else (spec_l03DrawLayer.j4 k (wrap64 ((wrap64 (1 + bt174.1)) * t186)) x1000 bt183.2.1 bt183.2.2 x158000 (wrap64 (1 + bt174.1)) x158002 x158003 (wrap64 (1073741824 + (wrap64 (bt177.1 * 60)))) bt180.1 (wrap64 (bt183.1 - 4))))))))) else (if x158000 = 4 then ((spec_l01Below.f x1000 x1001 x1002 20).bind fun bt202 => (some (x158000, x158001, x158002, x158003, x158004, x158005, wrap64 (bt202.1 - 10), ([] : List Int), ([] : List Int), bt202.2.1, bt202.2.2))) else (some (x158000, x158001, x158002, x158003, x158004, x158005, x158006, ([] : List Int), ([] : List Int), x1001, x1002)))
def spec_l03DrawLayer.j4 : Nat → Int → List Int → Int → Int → Int → Int → Int → Int → Int → Int → Int → Option (Int × Int × Int × Int × Int × Int × Int × List Int × List Int × Int × Int)
  | 0, _, _, _, _, _, _, _, _, _, _, _ => none
  | k + 1, x7, x1000, x1001, x1002, x158000, x158001, x158002, x158003, x158004, x158005, x158006 => spec_l03DrawLayer.l0 k x7 0 x1000 x1001 x1002 x158000 x158001 x158002 x158003 x158004 x158005 x158006 ([] : List Int)
def spec_l03DrawLayer.l0 : Nat → Int → Int → List Int → Int → Int → Int → Int → Int → Int → Int → Int → Int → List Int → Option (Int × Int × Int × Int × Int × Int × Int × List Int × List Int × Int × Int)
  | 0, _, _, _, _, _, _, _, _, _, _, _, _, _ => none
  | k + 1, x7, x8, x1000, x1001, x1002, x158000, x158001, x158002, x158003, x158004, x158005, x158006, x158007 => if x8 < x7 then ((spec_l02DrawItem.f x1000 x1001 x1002).bind fun bt187 => (if x158007.length < 17592186044416 then (spec_l03DrawLayer.l0 k x7 (wrap64 (x8 + 1)) x1000 bt187.2.1 bt187.2.2 x158000 x158001 x158002 x158003 x158004 x158005 x158006 (x158007 ++ [bt187.1])) else (none))) else (spec_l03DrawLayer.l1 k 0 x1000 x1001 x1002 x158000 x158001 x158002 x158003 x158004 x158005 x158006 x158007 ([] : List Int))
def spec_l03DrawLayer.l1 : Nat → Int → List Int → Int → Int → Int → Int → Int → Int → Int → Int → Int → List Int → List Int → Option (Int × Int × Int × Int × Int × Int × Int × List Int × List Int × Int × Int)
  | 0, _, _, _, _, _, _, _, _, _, _, _, _, _ => none
  | k + 1, x9, x1000, x1001, x1002, x158000, x158001, x158002, x158003, x158004, x158005, x158006, x158007, x158008 => if x9 < x158001 then ((spec_l01Below.f x1000 x1001 x1002 400).bind fun bt193 => (if x158008.length < 17592186044416 then (spec_l03DrawLayer.l1 k (wrap64 (x9 + 1)) x1000 bt193.2.1 bt193.2.2 x158000 x158001 x158002 x158003 x158004 x158005 x158006 x158007 (x158008 ++ [wrap64 (bt193.1 - 200)])) else (none))) else (if x158000 = 4 then ((spec_l01Below.f x1000 x1001 x1002 20).bind fun bt199 => (some (x158000, x158001, x158002, x158003, x158004, x158005, wrap64 (bt199.1 - 10), x158007, x158008, bt199.2.1, bt199.2.2))) else (some (x158000, x158001, x158002, x158003, x158004, x158005, x158006, x158007, x158008, x1001, x1002)))
def spec_l03DrawLayer.j2 : Nat → Int → List Int → Int → Int → Int → Int → Int → Int → Int → Int → Int → Int → Int → Int → Option (Int × Int × Int × Int × Int × Int × Int × List Int × List Int × Int × Int)
  | 0, _, _, _, _, _, _, _, _, _, _, _, _, _, _ => none
  | k + 1, x6, x1000, x1001, x1002, x150000, x150001, x150002, x158000, x158001, x158002, x158003, x158004, x158005, x158006 => if x150001 < x6 then ((spec_l01Below.f x1000 x1001 x1002 x150001).bind fun bt162 => ((spec_l01Below.f x1000 bt162.2.1 bt162.2.2 2).bind fun bt165 => (spec_l03DrawLayer.j3 k x1000 bt165.2.1 bt165.2.2 x150000 x150001 x150002 x158000 x158001 (wrap64 (1 + bt162.1)) (wrap64 (1 + bt165.1)) x158004 x158005 x158006))) else ((spec_l01Below.f x1000 x1001 x1002 x6).bind fun bt168 => ((spec_l01Below.f x1000 bt168.2.1 bt168.2.2 2).bind fun bt171 => (spec_l03DrawLayer.j3 k x1000 bt171.2.1 bt171.2.2 x150000 x150001 x150002 x158000 x158001 (wrap64 (1 + bt168.1)) (wrap64 (1 + bt171.1)) x158004 x158005 x158006)))
end
def spec_l03DrawLayer.f (k : Nat) (s0_0 : List Int) (s0_1 : Int) (s0_2 : Int) (a1_0 : Int) (a1_1 : Int) (a1_2 : Int) : Option (Int × Int × Int × Int × Int × Int × Int × List Int × List Int × Int × Int) := (spec_l01PickInt.f s0_0 s0_1 s0_2 (([0, 1, 1, 2, 3, 4, 5] : List Int))).bind fun bt154 => (if bt154.1 = 5 then ((spec_SizeOf.f a1_0 a1_1 a1_2).bind fun t158 => (if t158 > 8 then (spec_l03DrawLayer.j0 k true s0_0 bt154.2.1 bt154.2.2 a1_0 a1_1 a1_2 bt154.1 0 0 0 0 0 0) else (if bt154.1 = 0 then ((spec_SizeOf.f a1_0 a1_1 a1_2).bind fun t159 => (spec_l03DrawLayer.j0 k (decide (t159 > 64)) s0_0 bt154.2.1 bt154.2.2 a1_0 a1_1 a1_2 bt154.1 0 0 0 0 0 0)) else (spec_l03DrawLayer.j0 k false s0_0 bt154.2.1 bt154.2.2 a1_0 a1_1 a1_2 bt154.1 0 0 0 0 0 0)))) else (if bt154.1 = 0 then ((spec_SizeOf.f a1_0 a1_1 a1_2).bind fun t160 => (spec_l03DrawLayer.j0 k (decide (t160 > 64)) s0_0 bt154.2.1 bt154.2.2 a1_0 a1_1 a1_2 bt154.1 0 0 0 0 0 0)) else (spec_l03DrawLayer.j0 k false s0_0 bt154.2.1 bt154.2.2 a1_0 a1_1 a1_2 bt154.1 0 0 0 0 0 0)))
def spec_l03DrawLayer.T23 : Bool × List (List Nat × List Nat) := (true, [([], []), ([0], [0]), ([], []), ([2], [2]), ([3], [3]), ([1, 4, 3], [1, 4]), ([0, 1, 2, 3, 4, 5], []), ([6, 5, 5, 0, 1, 2, 3, 4, 5], [5, 6])])
def spec_l03DrawLayer.B23 : List Nat := [0, 1, 0, 4, 12, 31, 63, 127]
theorem spec_l03DrawLayer.tab23 : rtab .any (opsOf Try.f64 23) = spec_l03DrawLayer.T23 := by kernel_rfl
theorem spec_l03DrawLayer.bits23 : waitsOk spec_l03DrawLayer.T23.2 spec_l03DrawLayer.B23 = true := by kernel_rfl
def spec_l03DrawLayer.T27 : Bool × List (List Nat × List Nat) := (true, [([], []), ([0], [0]), ([], []), ([2], [2]), ([3], [3]), ([4], [4]), ([1, 5, 3], [1, 5]), ([0, 1, 2, 3, 4, 5, 6], []), ([7, 6, 6, 0, 1, 2, 3, 4, 5, 6], [6, 7])])
def spec_l03DrawLayer.B27 : List Nat := [0, 1, 0, 4, 12, 28, 63, 127, 255]
theorem spec_l03DrawLayer.tab27 : rtab .any (opsOf Try.f64 27) = spec_l03DrawLayer.T27 := by kernel_rfl
theorem spec_l03DrawLayer.bits27 : waitsOk spec_l03DrawLayer.T27.2 spec_l03DrawLayer.B27 = true := by kernel_rfl
theorem spec_l03DrawLayer.calls (k : Nat) (g : Nat) (s0_0 : List Int) (s0_1 : Int) (s0_2 : Int) (a1_0 : Int) (a1_1 : Int) (a1_2 : Int) (r1 : Int) (r2 : Int) (r3 : Int) (r4 : Int) (r5 : Int) (r6 : Int) (r7 : Int) (r8 : List Int) (r9 : List Int) (r10 : Int) (r11 : Int) (w0 w : World) (hI : IsS114 w0 w g s0_0 s0_1 s0_2) (hB : Below w0.heap.size w0 w) (h : spec_l03DrawLayer.f k s0_0 s0_1 s0_2 a1_0 a1_1 a1_2 = some (r1, r2, r3, r4, r5, r6, r7, r8, r9, r10, r11)) :
   Calls Try.prog 64 #[.pointer (some ⟨g, 0, none⟩), .agg #[.int .i64 a1_0, .int .i64 a1_1, .int .i64 a1_2]] w fun e w' => ∃ v7_ v8_ : Value, e = .returned (.agg #[.int .i64 r1, .int .i64 r2, .int .i64 r3, .int .i64 r4, .int .i64 r5, .int .i64 r6, .int .i64 r7, v7_, v8_]) ∧ Kd.R (Kd.int .i64) 3 w' w.heap.size (fun k_ => some k_ ≠ (v8_ : Value).ownBlock) v7_ r8 ∧ Kd.R (Kd.int .i64) 3 w' w.heap.size (fun k_ => some k_ ≠ (v7_ : Value).ownBlock) v8_ r9 ∧ IsS114 w0 w' g s0_0 r10 r11 ∧ Below w0.heap.size w0 w' ∧ KeepBut w w' g none := by
  have hu24 := Try.underlying24;have hu46 := Try.underlying46;have HI0 := am hI;have HK := am (KeepBut.refl w g none);have HL := am hB.size;clear hI;have HW0 := am hB.size;have HB := am hB;clear hB;have H : ((spec_l01PickInt.f s0_0 s0_1 s0_2 (([0, 1, 1, 2, 3, 4, 5] : List Int))).bind fun bt154 => (if bt154.1 = 5 then ((spec_SizeOf.f a1_0 a1_1 a1_2).bind fun t158 => (if t158 > 8 then (spec_l03DrawLayer.j0 k true s0_0 bt154.2.1 bt154.2.2 a1_0 a1_1 a1_2 bt154.1 0 0 0 0 0 0) else (if bt154.1 = 0 then ((spec_SizeOf.f a1_0 a1_1 a1_2).bind fun t159 => (spec_l03DrawLayer.j0 k (decide (t159 > 64)) s0_0 bt154.2.1 bt154.2.2 a1_0 a1_1 a1_2 bt154.1 0 0 0 0 0 0)) else (spec_l03DrawLayer.j0 k false s0_0 bt154.2.1 bt154.2.2 a1_0 a1_1 a1_2 bt154.1 0 0 0 0 0 0)))) else (if bt154.1 = 0 then ((spec_SizeOf.f a1_0 a1_1 a1_2).bind fun t160 => (spec_l03DrawLayer.j0 k (decide (t160 > 64)) s0_0 bt154.2.1 bt154.2.2 a1_0 a1_1 a1_2 bt154.1 0 0 0 0 0 0)) else (spec_l03DrawLayer.j0 k false s0_0 bt154.2.1 bt154.2.2 a1_0 a1_1 a1_2 bt154.1 0 0 0 0 0 0)))) = some (r1, r2, r3, r4, r5, r6, r7, r8, r9, r10, r11) := h;clear h;obtain ⟨y151, hy151⟩ : ∃ y_ : List Int, y_ = (([0, 1, 1, 2, 3, 4, 5] : List Int)) := ⟨_, rfl⟩;replace H : ((spec_l01PickInt.f s0_0 s0_1 s0_2 y151).bind fun bt154 => (if bt154.1 = 5 then ((spec_SizeOf.f a1_0 a1_1 a1_2).bind fun t158 => (if t158 > 8 then (spec_l03DrawLayer.j0 k true s0_0 bt154.2.1 bt154.2.2 a1_0 a1_1 a1_2 bt154.1 0 0 0 0 0 0) else (if bt154.1 = 0 then ((spec_SizeOf.f a1_0 a1_1 a1_2).bind fun t159 => (spec_l03DrawLayer.j0 k (decide (t159 > 64)) s0_0 bt154.2.1 bt154.2.2 a1_0 a1_1 a1_2 bt154.1 0 0 0 0 0 0)) else (spec_l03DrawLayer.j0 k false s0_0 bt154.2.1 bt154.2.2 a1_0 a1_1 a1_2 bt154.1 0 0 0 0 0 0)))) else (if bt154.1 = 0 then ((spec_SizeOf.f a1_0 a1_1 a1_2).bind fun t160 => (spec_l03DrawLayer.j0 k (decide (t160 > 64)) s0_0 bt154.2.1 bt154.2.2 a1_0 a1_1 a1_2 bt154.1 0 0 0 0 0 0)) else (spec_l03DrawLayer.j0 k false s0_0 bt154.2.1 bt154.2.2 a1_0 a1_1 a1_2 bt154.1 0 0 0 0 0 0)))) = some (r1, r2, r3, r4, r5, r6, r7, r8, r9, r10, r11) := by (try rw [hy151]); first | with_reducible exact H | exact (Option.bind_some _ _).symm.trans H | exact H
  have Ny151 := am hy151;clear hy151;replace H := Option.bind_eq_some_iff.mp H;obtain ⟨⟨t154, t155, t156⟩, A30, H⟩ := H;(try dsimp only at H);have A3 := am A30;clear A30;have HC4 := am H;clear H
  go_enter Try.func64, Try.ntmps64
  go_upto_region 2 with (first | ((with_reducible refine gate_dst (N := 3) rfl ?_); refine box_event ?hg (N := 3) ?hd (cs := #[.int .i64 a1_0, .int .i64 a1_1, .int .i64 a1_2]) (t := 24) ?hr ?_; (case hd => rfl); (case hg => rfl); (case hr => first | (go_simp; done) | (go_simp; rfl)); intro gb149 hg w5 hbox hb; have BK149 := am (hbox); have GW149 := am ((by rw [hg]; exact (keep_size (w := w) (g := g) (row := none) keepN) : w.heap.size ≤ gb149)); have GE149 := am ((Nat.le_trans HW0.out (by rw [hg]; exact (keep_size (w := w) (g := g) (row := none) keepN) : w.heap.size ≤ gb149) : w0.heap.size ≤ gb149)); replace HK := keep_onB w g hb; have NB0_149 := am ((by rw [hg]; exact Nat.ne_of_lt (IsS114.lt (show IsS114 w0 _ g s0_0 s0_1 s0_2 from is114N)) : g ≠ gb149)); have NB149_0 := am ((by rw [hg]; exact Nat.ne_of_gt (IsS114.lt (show IsS114 w0 _ g s0_0 s0_1 s0_2 from is114N)) : gb149 ≠ g)); replace HI0 := am (IsS114.below is114N hb); replace HB := am (below_step bel_now hb); clear hb hbox hg) | ((with_reducible refine gate_dst (N := 4) rfl ?_); refine box_event ?hg (N := 4) ?hd (cs := #[.int .i64 0, .int .i64 0, .int .i64 0, .int .i64 0, .int .i64 0, .int .i64 0, .int .i64 0, .slice none 0 0, .slice none 0 0]) (t := 46) ?hr ?_; (case hd => rfl); (case hg => rfl); (case hr => first | (go_simp; done) | (go_simp; rfl)); intro gb150 hg w6 hbox hb; have n4_ := am (hbox); have n5_ := am ((by rw [hg]; exact (keep_size (w := w) (g := g) (row := none) keepN) : w.heap.size ≤ gb150)); have n6_ := am ((Nat.le_trans HW0.out (by rw [hg]; exact (keep_size (w := w) (g := g) (row := none) keepN) : w.heap.size ≤ gb150) : w0.heap.size ≤ gb150)); have n9_ := am ((by rw [hg]; exact Nat.ne_of_lt (IsS114.lt (show IsS114 w0 _ g s0_0 s0_1 s0_2 from is114N)) : g ≠ gb150)); have n10_ := am ((by rw [hg]; exact Nat.ne_of_gt (IsS114.lt (show IsS114 w0 _ g s0_0 s0_1 s0_2 from is114N)) : gb150 ≠ g)); have n3_ := am (below_step bel_now hb); obtain ⟨BK149, NB149_150, NB150_149⟩ := box_on gb149 hb hg; replace HI0 := am (IsS114.below is114N hb); replace HK := keep_onB w g hb; clear HB; have BK150 := n4_; have GW150 := n5_; have GE150 := n6_; have NB0_150 := n9_; have NB150_0 := n10_; have HB := n3_; clear n4_ n5_ n6_ n9_ n10_ n3_; clear hb hbox hg) | ((with_reducible refine gate_dst (N := 11) rfl ?_); refine Kd.R_lit (Kd.int .i64) _ 3 ?hg (N := 11) ?hd (xs := ([0, 1, 1, 2, 3, 4, 5] : List Int)) (inner := [.int .i64 0, .int .i64 1, .int .i64 1, .int .i64 2, .int .i64 3, .int .i64 4, .int .i64 5]) (ok := fun _ => True) (okp := fun _ => True) ?hr ?hp (fun _ hk => hk) trivial (Below.refl _ _) (Nat.le_refl _) (by simp) ?_; (case hd => rfl); (case hg => rfl); (case hr => first | (go_simp; done) | (go_simp; rfl)); (case hp => exact (Reps.one (show Kd.M (Kd.int .i64) _ _ _ 0 [.int .i64 0] from rfl) (Reps.one (show Kd.M (Kd.int .i64) _ _ _ 1 [.int .i64 1] from rfl) (Reps.one (show Kd.M (Kd.int .i64) _ _ _ 1 [.int .i64 1] from rfl) (Reps.one (show Kd.M (Kd.int .i64) _ _ _ 2 [.int .i64 2] from rfl) (Reps.one (show Kd.M (Kd.int .i64) _ _ _ 3 [.int .i64 3] from rfl) (Reps.one (show Kd.M (Kd.int .i64) _ _ _ 4 [.int .i64 4] from rfl) (Reps.one (show Kd.M (Kd.int .i64) _ _ _ 5 [.int .i64 5] from rfl) (Reps.none _ _))))))))); intro v152 w7 ho8 hb hg_ hnew_; clear hg_ hnew_; (first | rw [← Ny151.out] at ho8 | (simp only [Int.reduceToNat] at ho8; rw [← Ny151.out] at ho8)); have n0_ := am (Kd.R_lower ho8 (keep_size (w := w) (g := g) (row := none) keepN)); have n5_ := am (below_step bel_now hb); replace HI0 := am (IsS114.below is114N hb); replace HK := keep_onB w g hb; replace BK149 := blk_on gb149 hb; replace BK150 := blk_on gb150 hb; clear HB; have HO153 := n0_; have HB := n5_; clear n0_ n5_; clear hb ho8; obtain ⟨Ao9, co9, eo9⟩ := Kd.R_slice HO153.out; subst eo9) | ((with_reducible refine gate_callee (f := 63) rfl ?_); refine gM 12 Try.func63 #[.pointer (some ⟨g, 0, none⟩), .slice Ao9 y151.length co9] rfl ?_; (with_reducible refine (spec_l01PickInt.calls g s0_0 s0_1 s0_2 _ _ y151 t154 t155 t156 w0 _ ?side1 ?side2 ?side3 ?side4 ?side5 A3.out).mono ?_); (case side1 => exact is114N); (case side2 => exact bel_now); (case side3 => exact (Kd.R_reads' (R_at HO153.out)).2.2); (case side4 => exact (Kd.R_reads' HO153.out).2.1); (case side5 => exact far_slice (IsS114.own_ne HI0.out HO153.out (by decide))); rintro e w10 ⟨rfl, hi, hb, hk⟩; refine ⟨_, rfl, ?_⟩; replace BK149 := blkK gb149 hk; replace BK150 := blkK gb150 hk; replace HO153 := am (Kd.R_mono (Kd.R_keep (IsS114.apart (show IsS114 w0 _ g s0_0 s0_1 s0_2 from is114N) (R_at HO153.out) (by decide)) hk (fun _ h => h.2)) (fun _ h => h.1)); replace HK := keep_on w hk; replace HB := am (hb); replace HI0 := am (hi); (try clear hb hk hi)) | ((with_reducible refine gate_dst (N := 5) rfl ?_); refine box_event ?hg (N := 5) ?hd (cs := #[.int .i64 0, .int .i64 0, .int .i64 0, .int .i64 0, .int .i64 0, .int .i64 0, .int .i64 0, .slice none 0 0, .slice none 0 0]) (t := 46) ?hr ?_; (case hd => rfl); (case hg => rfl); (case hr => first | (go_simp; done) | (go_simp; rfl)); intro gb157 hg w11 hbox hb; have n6_ := am (hbox); have n7_ := am ((by rw [hg]; exact (keep_size (w := w) (g := g) (row := none) keepN) : w.heap.size ≤ gb157)); have n8_ := am ((Nat.le_trans HW0.out (by rw [hg]; exact (keep_size (w := w) (g := g) (row := none) keepN) : w.heap.size ≤ gb157) : w0.heap.size ≤ gb157)); have n13_ := am ((by rw [hg]; exact Nat.ne_of_lt (IsS114.lt (show IsS114 w0 _ g s0_0 t155 t156 from is114N)) : g ≠ gb157)); have n14_ := am ((by rw [hg]; exact Nat.ne_of_gt (IsS114.lt (show IsS114 w0 _ g s0_0 t155 t156 from is114N)) : gb157 ≠ g)); have n5_ := am (below_step bel_now hb); obtain ⟨BK149, NB149_157, NB157_149⟩ := box_on gb149 hb hg; obtain ⟨BK150, NB150_157, NB157_150⟩ := box_on gb150 hb hg; replace HO153 := am (Kd.R_below (R_at HO153.out) hb); replace HI0 := am (IsS114.below is114N hb); replace HK := keep_onB w g hb; clear HB; have BK157 := n6_; have GW157 := n7_; have GE157 := n8_; have NB0_157 := n13_; have NB157_0 := n14_; have HB := n5_; clear n6_ n7_ n8_ n13_ n14_ n5_; clear hb hbox hg; have hn12 := ne2 NB157_149; have hn13 := ne2 NB157_150; have hn14 := ne2 NB157_0; have hcz15 := cells9 BK157.out))
  (try simp only [Act.put, zA, zB, zC])
  go_cut [31] (fun v31 wc => ∃ (kq : Nat) (x31_3 : Bool), v31 = .bool x31_3 ∧ Aside0 (spec_l03DrawLayer.j0 kq x31_3 s0_0 t155 t156 a1_0 a1_1 a1_2 t154 0 0 0 0 0 0 = some (r1, r2, r3, r4, r5, r6, r7, r8, r9, r10, r11)) ∧ Aside0 (kq ≤ k) ∧ Aside0 (wc.heap[gb149]? = some (.cells #[.int .i64 a1_0, .int .i64 a1_1, .int .i64 a1_2] 24 (0, 0))) ∧ Aside0 (wc.heap[gb150]? = some (.cells #[.int .i64 0, .int .i64 0, .int .i64 0, .int .i64 0, .int .i64 0, .int .i64 0, .int .i64 0, (.slice none 0 0), (.slice none 0 0)] 46 (0, 0))) ∧ Aside0 (wc.heap[gb157]? = some (.cells #[.int .i64 t154, .int .i64 0, .int .i64 0, .int .i64 0, .int .i64 0, .int .i64 0, .int .i64 0, (.slice none 0 0), (.slice none 0 0)] 46 (0, 0))) ∧ Aside0 (IsS114 w0 wc g s0_0 t155 t156) ∧ Aside0 (KeepBut w wc g none) ∧ Aside0 (Below w0.heap.size w0 wc))
  case first =>
   have H := HC4.out;clear HC4;by_cases c16 : t154 = 5;rotate_left
   ·rw [if_neg c16] at H;have c16b0 : (t154 == 5) = false := beq_eq_false_iff_ne.mpr c16;have c16b1 : (t154 != 5) = true := bne_iff_ne.mpr c16
    (first | rw [c16b0] | (simp only [i64_w, i32_w]; rw [c16b0]) | skip)
    by_cases c49 : t154 = 0
    ·rw [if_pos c49] at H;have c49b0 : (t154 == 0) = true := beq_iff_eq.mpr c49;have c49b1 : (t154 != 0) = false := bne_eq_false_iff_eq.mpr c49;clear c49;obtain ⟨t160, A50, H⟩ := bnd H;(try dsimp only at H);have H' := am H;clear H;have hn51 := ne2 NB157_149;have hn52 := ne2 NB157_150;have hn53 := ne2 NB157_0;have hcz54 := cells9 BK157.out;have hn55 := ne2 NB149_150;have hn56 := ne2 NB149_0;have hcz57 := cells3 BK149.out
     go_wp2_with (first | (go_at_call 46; (with_reducible refine (spec_SizeOf.calls a1_0 a1_1 a1_2 t160 _ A50.out).mono ?_); rintro e w58 ⟨rfl, hb⟩; replace HO153 := am (Kd.R_below (R_at (R_far9 HO153.out BK157.out (by decide))) hb); replace HI0 := am (IsS114.below (show IsS114 w0 (((((((((w11.setCell ⟨gb157, 0, none⟩ (.int .i64 t154)).setCell ⟨gb157, 1, none⟩ (.int .i64 0)).setCell ⟨gb157, 2, none⟩ (.int .i64 0)).setCell ⟨gb157, 3, none⟩ (.int .i64 0)).setCell ⟨gb157, 4, none⟩ (.int .i64 0)).setCell ⟨gb157, 5, none⟩ (.int .i64 0)).setCell ⟨gb157, 6, none⟩ (.int .i64 0)).setCell ⟨gb157, 7, none⟩ (.slice none 0 0)).setCell ⟨gb157, 8, none⟩ (.slice none 0 0)) g s0_0 t155 t156 from is114N) hb); replace HK := keep_onB w g hb; replace HB := am (below_step bel_now hb); replace BK149 := blk_onP gb149 hb; replace BK150 := blk_onP gb150 hb; replace BK157 := am (blk_below (g := gb157) (o := .cells #[.int .i64 t154, .int .i64 0, .int .i64 0, .int .i64 0, .int .i64 0, .int .i64 0, .int .i64 0, .slice none 0 0, .slice none 0 0] 46 (0, 0)) (by (with_reducible repeat (first | refine blk_drewN ?_ _ | refine blk_drew ?_ | refine blk_alloc ?_ _)); first | exact putl9 BK157.out | exact blk_fars (putl9 BK157.out)) hb); (try clear hb)))
     go_meet
     case rel => exact ⟨_, (decide (t160 > 64)), pv, H', ⟨by first | omega | exact Nat.le_refl _⟩, ⟨bks BK149⟩, ⟨bks BK150⟩, ⟨bks BK157⟩, ⟨is114N⟩, ⟨keepN⟩, ⟨bel_now⟩⟩
    rw [if_neg c49] at H;have c49b0 : (t154 == 0) = false := beq_eq_false_iff_ne.mpr c49;have c49b1 : (t154 != 0) = true := bne_iff_ne.mpr c49;have H' := am H;clear H;have hn59 := ne2 NB157_149;have hn60 := ne2 NB157_150;have hn61 := ne2 NB157_0;have hcz62 := cells9 BK157.out
    go_wp2
    go_meet
    case rel => exact ⟨_, (false), pv, H', ⟨by first | omega | exact Nat.le_refl _⟩, ⟨blkN⟩, ⟨blkN⟩, ⟨blkN⟩, ⟨is114N⟩, ⟨keepN⟩, ⟨bel_now⟩⟩
   rw [if_pos c16] at H;have c16b0 : (t154 == 5) = true := beq_iff_eq.mpr c16;have c16b1 : (t154 != 5) = false := bne_eq_false_iff_eq.mpr c16;clear c16
   (first | rw [c16b0] | (simp only [i64_w, i32_w]; rw [c16b0]) | skip)
   obtain ⟨t158, A17, H⟩ := bnd H;(try dsimp only at H);by_cases c18 : t158 > 8
   ·rw [if_pos c18] at H;have c18b0 : decide (8 < t158) = true := decide_eq_true c18;clear c18;have H' := am H;clear H;have hn19 := ne2 NB157_149;have hn20 := ne2 NB157_150;have hn21 := ne2 NB157_0;have hcz22 := cells9 BK157.out;have hn23 := ne2 NB149_150;have hn24 := ne2 NB149_0;have hcz25 := cells3 BK149.out
    go_wp2_with (first | (go_at_call 46; (with_reducible refine (spec_SizeOf.calls a1_0 a1_1 a1_2 t158 _ A17.out).mono ?_); rintro e w26 ⟨rfl, hb⟩; replace HO153 := am (Kd.R_below (R_at (R_far9 HO153.out BK157.out (by decide))) hb); replace HI0 := am (IsS114.below (show IsS114 w0 (((((((((w11.setCell ⟨gb157, 0, none⟩ (.int .i64 t154)).setCell ⟨gb157, 1, none⟩ (.int .i64 0)).setCell ⟨gb157, 2, none⟩ (.int .i64 0)).setCell ⟨gb157, 3, none⟩ (.int .i64 0)).setCell ⟨gb157, 4, none⟩ (.int .i64 0)).setCell ⟨gb157, 5, none⟩ (.int .i64 0)).setCell ⟨gb157, 6, none⟩ (.int .i64 0)).setCell ⟨gb157, 7, none⟩ (.slice none 0 0)).setCell ⟨gb157, 8, none⟩ (.slice none 0 0)) g s0_0 t155 t156 from is114N) hb); replace HK := keep_onB w g hb; replace HB := am (below_step bel_now hb); replace BK149 := blk_onP gb149 hb; replace BK150 := blk_onP gb150 hb; replace BK157 := am (blk_below (g := gb157) (o := .cells #[.int .i64 t154, .int .i64 0, .int .i64 0, .int .i64 0, .int .i64 0, .int .i64 0, .int .i64 0, .slice none 0 0, .slice none 0 0] 46 (0, 0)) (by (with_reducible repeat (first | refine blk_drewN ?_ _ | refine blk_drew ?_ | refine blk_alloc ?_ _)); first | exact putl9 BK157.out | exact blk_fars (putl9 BK157.out)) hb); (try clear hb)))
    go_meet
    case rel => exact ⟨_, (true), pv, H', ⟨by first | omega | exact Nat.le_refl _⟩, ⟨bks BK149⟩, ⟨bks BK150⟩, ⟨bks BK157⟩, ⟨is114N⟩, ⟨keepN⟩, ⟨bel_now⟩⟩
   rw [if_neg c18] at H;have c18b0 : decide (8 < t158) = false := decide_eq_false c18;clear c18;by_cases c27 : t154 = 0;rotate_left
   ·rw [if_neg c27] at H;have c27b0 : (t154 == 0) = false := beq_eq_false_iff_ne.mpr c27;have c27b1 : (t154 != 0) = true := bne_iff_ne.mpr c27;have H' := am H;clear H;have hn40 := ne2 NB157_149;have hn41 := ne2 NB157_150;have hn42 := ne2 NB157_0;have hcz43 := cells9 BK157.out;have hn44 := ne2 NB149_150;have hn45 := ne2 NB149_0;have hcz46 := cells3 BK149.out
    go_wp2_with (first | (go_at_call 46; (with_reducible refine (spec_SizeOf.calls a1_0 a1_1 a1_2 t158 _ A17.out).mono ?_); rintro e w47 ⟨rfl, hb⟩; replace HO153 := am (Kd.R_below (R_at (R_far9 HO153.out BK157.out (by decide))) hb); replace HI0 := am (IsS114.below (show IsS114 w0 (((((((((w11.setCell ⟨gb157, 0, none⟩ (.int .i64 t154)).setCell ⟨gb157, 1, none⟩ (.int .i64 0)).setCell ⟨gb157, 2, none⟩ (.int .i64 0)).setCell ⟨gb157, 3, none⟩ (.int .i64 0)).setCell ⟨gb157, 4, none⟩ (.int .i64 0)).setCell ⟨gb157, 5, none⟩ (.int .i64 0)).setCell ⟨gb157, 6, none⟩ (.int .i64 0)).setCell ⟨gb157, 7, none⟩ (.slice none 0 0)).setCell ⟨gb157, 8, none⟩ (.slice none 0 0)) g s0_0 t155 t156 from is114N) hb); replace HK := keep_onB w g hb; replace HB := am (below_step bel_now hb); replace BK149 := blk_onP gb149 hb; replace BK150 := blk_onP gb150 hb; replace BK157 := am (blk_below (g := gb157) (o := .cells #[.int .i64 t154, .int .i64 0, .int .i64 0, .int .i64 0, .int .i64 0, .int .i64 0, .int .i64 0, .slice none 0 0, .slice none 0 0] 46 (0, 0)) (by (with_reducible repeat (first | refine blk_drewN ?_ _ | refine blk_drew ?_ | refine blk_alloc ?_ _)); first | exact putl9 BK157.out | exact blk_fars (putl9 BK157.out)) hb); (try clear hb); have hcz48 := cells9 BK157.out))
    go_meet
    case rel => exact ⟨_, (false), pv, H', ⟨by first | omega | exact Nat.le_refl _⟩, ⟨bks BK149⟩, ⟨bks BK150⟩, ⟨bks BK157⟩, ⟨is114N⟩, ⟨keepN⟩, ⟨bel_now⟩⟩
   exact absurd (beq_iff_eq.mp c16b0) (by omega)
  case rest =>
   clear HC4;try clear hcz15
   obtain ⟨kq, x31_3, rfl, HA, HJ3, BK149, BK150, BK157, HI0, HK, HB⟩ := hcut
   cases kq with
   | zero => exact absurd HA.out (by simp [spec_l03DrawLayer.j0])
   | succ kj3 =>
    have H := HA.out;clear HA;simp only [spec_l03DrawLayer.j0] at H;have HC63 := am H;clear H
    go_upto_if 31 with (fail)
    go_cut [] (fun wc => ∃ (kq : Nat) (x158000_62 : Int), Aside0 (spec_l03DrawLayer.j1 kq s0_0 t155 t156 a1_0 a1_1 a1_2 x158000_62 0 0 0 0 0 0 = some (r1, r2, r3, r4, r5, r6, r7, r8, r9, r10, r11)) ∧ Aside0 (kq ≤ kj3) ∧ Aside0 (wc.heap[gb149]? = some (.cells #[.int .i64 a1_0, .int .i64 a1_1, .int .i64 a1_2] 24 (0, 0))) ∧ Aside0 (wc.heap[gb150]? = some (.cells #[.int .i64 0, .int .i64 0, .int .i64 0, .int .i64 0, .int .i64 0, .int .i64 0, .int .i64 0, (.slice none 0 0), (.slice none 0 0)] 46 (0, 0))) ∧ Aside0 (wc.heap[gb157]? = some (.cells #[.int .i64 x158000_62, .int .i64 0, .int .i64 0, .int .i64 0, .int .i64 0, .int .i64 0, .int .i64 0, (.slice none 0 0), (.slice none 0 0)] 46 (0, 0))) ∧ Aside0 (IsS114 w0 wc g s0_0 t155 t156) ∧ Aside0 (KeepBut w wc g none) ∧ Aside0 (Below w0.heap.size w0 wc))
    case first =>
     have H := HC63.out;clear HC63;by_cases c64 : x31_3 = true;rotate_left
     ·replace c64 := Bool.eq_false_iff.mpr c64;subst c64
      rw [if_neg (show ¬ (false = true) by decide)] at H
      have H' := am H;clear H
      go_wp2
      go_meet
      case rel => exact ⟨_, (t154), H', ⟨by have := HJ3.out; first | omega | exact Nat.le_refl _⟩, ⟨bks BK149⟩, ⟨bks BK150⟩, ⟨bks BK157⟩, ⟨is114N⟩, ⟨keepN⟩, ⟨bel_now⟩⟩
     subst c64;rw [if_pos rfl] at H;have H' := am H;clear H;have hn65 := ne2 NB157_149;have hn66 := ne2 NB157_150;have hn67 := ne2 NB157_0;have hcz68 := cells9 BK157.out
     go_wp2
     go_meet
     case rel => exact ⟨_, (4), H', ⟨by have := HJ3.out; first | omega | exact Nat.le_refl _⟩, ⟨blkN⟩, ⟨blkN⟩, ⟨blkN⟩, ⟨is114N⟩, ⟨keepN⟩, ⟨bel_now⟩⟩
    case rest =>
     clear HC63;try clear hcz15
     obtain ⟨kq, x158000_62, HA, HJ62, BK149, BK150, BK157, HI0, HK, HB⟩ := hcut
     cases kq with
     | zero => exact absurd HA.out (by simp [spec_l03DrawLayer.j1])
     | succ kj62 =>
      have H := HA.out;clear HA;simp only [spec_l03DrawLayer.j1] at H;obtain ⟨t161, A69, H⟩ := bnd H;(try dsimp only at H);have HC70 := am H;clear H;have hn71 := ne2 NB157_149;have hn72 := ne2 NB157_150;have hn73 := ne2 NB157_0;have hcz74 := cells9 BK157.out
      go_upto_if 35 with (first | ((with_reducible refine gate_callee (f := 68) rfl ?_); refine gM 35 Try.func68 #[.int .i64 x158000_62, .int .i64 1, .int .i64 3] rfl ?_; (with_reducible refine (spec_l01In.calls x158000_62 1 3 t161 _ A69.out).mono ?_); rintro e w' ⟨rfl, ⟨nd, rfl⟩⟩; refine ⟨_, rfl, ?_⟩))
      (try simp only [Act.put, zA, zB, zC])
      go_cut [] (fun wc => ∃ (kq : Nat) (x1001_69 : Int) (x1002_69 : Int) (x158002_69 : Int) (x158003_69 : Int), Aside0 (spec_l03DrawLayer.j3 kq s0_0 x1001_69 x1002_69 a1_0 a1_1 a1_2 x158000_62 0 x158002_69 x158003_69 0 0 0 = some (r1, r2, r3, r4, r5, r6, r7, r8, r9, r10, r11)) ∧ Aside0 (kq ≤ kj62) ∧ Aside0 (wc.heap[gb149]? = some (.cells #[.int .i64 a1_0, .int .i64 a1_1, .int .i64 a1_2] 24 (0, 0))) ∧ Aside0 (wc.heap[gb150]? = some (.cells #[.int .i64 0, .int .i64 0, .int .i64 0, .int .i64 0, .int .i64 0, .int .i64 0, .int .i64 0, (.slice none 0 0), (.slice none 0 0)] 46 (0, 0))) ∧ Aside0 (wc.heap[gb157]? = some (.cells #[.int .i64 x158000_62, .int .i64 0, .int .i64 x158002_69, .int .i64 x158003_69, .int .i64 0, .int .i64 0, .int .i64 0, (.slice none 0 0), (.slice none 0 0)] 46 (0, 0))) ∧ Aside0 (IsS114 w0 wc g s0_0 x1001_69 x1002_69) ∧ Aside0 (KeepBut w wc g none) ∧ Aside0 (Below w0.heap.size w0 wc))
      case first =>
       have H := HC70.out;clear HC70;by_cases c75 : t161 = true;rotate_left
       ·replace c75 := Bool.eq_false_iff.mpr c75;subst c75
        rw [if_neg (show ¬ (false = true) by decide)] at H
        have H' := am H;clear H
        go_wp2
        go_meet
        case rel => exact ⟨_, (t155), (t156), (0), (0), H', ⟨by have := HJ3.out; have := HJ62.out; first | omega | exact Nat.le_refl _⟩, ⟨bks BK149⟩, ⟨bks BK150⟩, ⟨bks BK157⟩, ⟨is114N⟩, ⟨keepN⟩, ⟨bel_now⟩⟩
       subst c75;rw [if_pos rfl] at H;have HC76 := am H;clear H;have hn77 := ne2 NB149_150;have hn78 := ne2 NB149_157;have hn79 := ne2 NB149_0;have hcz80 := cells3 BK149.out
       go_upto_if 39 with (fail)
       go_cut [6] (fun v6 wc => ∃ (kq : Nat) (x6_75 : Int), v6 = .int .i64 x6_75 ∧ Aside0 (spec_l03DrawLayer.j2 kq x6_75 s0_0 t155 t156 a1_0 a1_1 a1_2 x158000_62 0 0 0 0 0 0 = some (r1, r2, r3, r4, r5, r6, r7, r8, r9, r10, r11)) ∧ Aside0 (kq ≤ kj62) ∧ Aside0 (wc.heap[gb149]? = some (.cells #[.int .i64 a1_0, .int .i64 a1_1, .int .i64 a1_2] 24 (0, 0))) ∧ Aside0 (wc.heap[gb150]? = some (.cells #[.int .i64 0, .int .i64 0, .int .i64 0, .int .i64 0, .int .i64 0, .int .i64 0, .int .i64 0, (.slice none 0 0), (.slice none 0 0)] 46 (0, 0))) ∧ Aside0 (wc.heap[gb157]? = some (.cells #[.int .i64 x158000_62, .int .i64 0, .int .i64 0, .int .i64 0, .int .i64 0, .int .i64 0, .int .i64 0, (.slice none 0 0), (.slice none 0 0)] 46 (0, 0))) ∧ Aside0 (IsS114 w0 wc g s0_0 t155 t156) ∧ Aside0 (KeepBut w wc g none) ∧ Aside0 (Below w0.heap.size w0 wc))
       case first =>
        have H := HC76.out;clear HC76;by_cases c81 : a1_0 < 3;rotate_left
        ·rw [if_neg c81] at H;have c81b0 : decide (a1_0 < 3) = false := decide_eq_false c81;clear c81
         (first | rw [c81b0] | (simp only [i64_w, i32_w]; rw [c81b0]) | skip)
         have H' := am H;clear H
         go_wp2
         go_meet
         case rel => exact ⟨_, (3), pv, H', ⟨by have := HJ3.out; have := HJ62.out; first | omega | exact Nat.le_refl _⟩, ⟨bks BK149⟩, ⟨bks BK150⟩, ⟨bks BK157⟩, ⟨is114N⟩, ⟨keepN⟩, ⟨bel_now⟩⟩
        rw [if_pos c81] at H;have c81b0 : decide (a1_0 < 3) = true := decide_eq_true c81;clear c81
        (first | rw [c81b0] | (simp only [i64_w, i32_w]; rw [c81b0]) | skip)
        have H' := am H;clear H;have hn82 := ne2 NB149_150;have hn83 := ne2 NB149_157;have hn84 := ne2 NB149_0;have hcz85 := cells3 BK149.out
        go_wp2
        go_meet
        case rel => exact ⟨_, (a1_0), pv, H', ⟨by have := HJ3.out; have := HJ62.out; first | omega | exact Nat.le_refl _⟩, ⟨bks BK149⟩, ⟨bks BK150⟩, ⟨bks BK157⟩, ⟨is114N⟩, ⟨keepN⟩, ⟨bel_now⟩⟩
       case rest =>
        clear HC76;try clear c75
        try clear hcz15
        try clear hcz74
        try clear hcz80
        obtain ⟨kq, x6_75, rfl, HA, HJ75, BK149, BK150, BK157, HI0, HK, HB⟩ := hcut
        cases kq with
        | zero => exact absurd HA.out (by simp [spec_l03DrawLayer.j2])
        | succ kj75 =>
         have H := HA.out;clear HA;simp only [spec_l03DrawLayer.j2] at H;by_cases c86 : a1_1 < x6_75
         ·rw [if_pos c86] at H;have c86b0 : decide (a1_1 < x6_75) = true := decide_eq_true c86;clear c86;replace H := Option.bind_eq_some_iff.mp H;obtain ⟨⟨t162, t163, t164⟩, A870, H⟩ := H;(try dsimp only at H);have A87 := am A870;clear A870;replace H := Option.bind_eq_some_iff.mp H;obtain ⟨⟨t165, t166, t167⟩, A880, H⟩ := H;(try dsimp only at H);have A88 := am A880;clear A880;have H' := am H;clear H;have hn89 := ne2 NB149_150;have hn90 := ne2 NB149_157;have hn91 := ne2 NB149_0;have hcz92 := cells3 BK149.out
          go_wp2_with (first | ((with_reducible refine gate_callee (f := 67) rfl ?_); refine gM 50 Try.func67 #[.pointer (some ⟨g, 0, none⟩), .int .i64 a1_1] rfl ?_; (with_reducible refine (spec_l01Below.calls g s0_0 t155 t156 a1_1 t162 t163 t164 w0 _ ?side1 ?side2 A87.out).mono ?_); (case side1 => exact is114N); (case side2 => exact bel_now); rintro e w93 ⟨rfl, hi, hb, hk⟩; refine ⟨_, rfl, ?_⟩; replace BK149 := blkK gb149 hk; replace BK150 := blkK gb150 hk; replace BK157 := blkK gb157 hk; replace HK := keep_on w hk; replace HB := am (hb); replace HI0 := am (hi); (try clear hb hk hi); have hn94 := ne2 NB157_150; have hn95 := ne2 NB157_0; have hcz96 := cells9 BK157.out) | ((with_reducible refine gate_callee (f := 67) rfl ?_); refine gM 54 Try.func67 #[.pointer (some ⟨g, 0, none⟩), .int .i64 2] rfl ?_; (with_reducible refine (spec_l01Below.calls g s0_0 t163 t164 2 t165 t166 t167 w0 _ ?side1 ?side2 A88.out).mono ?_); (case side1 => exact is114N); (case side2 => exact bel_now); rintro e w97 ⟨rfl, hi, hb, hk⟩; refine ⟨_, rfl, ?_⟩; replace BK149 := blkK gb149 hk; replace BK150 := blkK gb150 hk; replace BK157 := blkK gb157 hk; replace HK := keep_on w hk; replace HB := am (hb); replace HI0 := am (hi); (try clear hb hk hi); have hcz98 := cells9 BK157.out))
          go_meet
          case rel => exact ⟨_, (t166), (t167), (wrap64 (1 + t162)), (wrap64 (1 + t165)), H', ⟨by have := HJ3.out; have := HJ62.out; have := HJ75.out; first | omega | exact Nat.le_refl _⟩, ⟨blkN⟩, ⟨blkN⟩, ⟨blkN⟩, ⟨is114N⟩, ⟨keepN⟩, ⟨bel_now⟩⟩
         rw [if_neg c86] at H;have c86b0 : decide (a1_1 < x6_75) = false := decide_eq_false c86;clear c86;replace H := Option.bind_eq_some_iff.mp H;obtain ⟨⟨t168, t169, t170⟩, A990, H⟩ := H;(try dsimp only at H);have A99 := am A990;clear A990;replace H := Option.bind_eq_some_iff.mp H;obtain ⟨⟨t171, t172, t173⟩, A1000, H⟩ := H;(try dsimp only at H);have A100 := am A1000;clear A1000;have H' := am H;clear H;have hn101 := ne2 NB149_150;have hn102 := ne2 NB149_157;have hn103 := ne2 NB149_0;have hcz104 := cells3 BK149.out
         go_wp2_with (first | ((with_reducible refine gate_callee (f := 67) rfl ?_); refine gM 50 Try.func67 #[.pointer (some ⟨g, 0, none⟩), .int .i64 x6_75] rfl ?_; (with_reducible refine (spec_l01Below.calls g s0_0 t155 t156 x6_75 t168 t169 t170 w0 _ ?side1 ?side2 A99.out).mono ?_); (case side1 => exact is114N); (case side2 => exact bel_now); rintro e w105 ⟨rfl, hi, hb, hk⟩; refine ⟨_, rfl, ?_⟩; replace BK149 := blkK gb149 hk; replace BK150 := blkK gb150 hk; replace BK157 := blkK gb157 hk; replace HK := keep_on w hk; replace HB := am (hb); replace HI0 := am (hi); (try clear hb hk hi); have hn106 := ne2 NB157_150; have hn107 := ne2 NB157_0; have hcz108 := cells9 BK157.out) | ((with_reducible refine gate_callee (f := 67) rfl ?_); refine gM 54 Try.func67 #[.pointer (some ⟨g, 0, none⟩), .int .i64 2] rfl ?_; (with_reducible refine (spec_l01Below.calls g s0_0 t169 t170 2 t171 t172 t173 w0 _ ?side1 ?side2 A100.out).mono ?_); (case side1 => exact is114N); (case side2 => exact bel_now); rintro e w109 ⟨rfl, hi, hb, hk⟩; refine ⟨_, rfl, ?_⟩; replace BK149 := blkK gb149 hk; replace BK150 := blkK gb150 hk; replace BK157 := blkK gb157 hk; replace HK := keep_on w hk; replace HB := am (hb); replace HI0 := am (hi); (try clear hb hk hi); have hcz110 := cells9 BK157.out))
         go_meet
         case rel => exact ⟨_, (t172), (t173), (wrap64 (1 + t168)), (wrap64 (1 + t171)), H', ⟨by have := HJ3.out; have := HJ62.out; have := HJ75.out; first | omega | exact Nat.le_refl _⟩, ⟨blkN⟩, ⟨blkN⟩, ⟨blkN⟩, ⟨is114N⟩, ⟨keepN⟩, ⟨bel_now⟩⟩
      case rest =>
       clear HC70;try clear hcz15
       try clear hcz74
       obtain ⟨kq, x1001_69, x1002_69, x158002_69, x158003_69, HA, HJ69, BK149, BK150, BK157, HI0, HK, HB⟩ := hcut
       cases kq with
       | zero => exact absurd HA.out (by simp [spec_l03DrawLayer.j3])
       | succ kj69 =>
        have H := HA.out;clear HA;simp only [spec_l03DrawLayer.j3] at H;by_cases c111 : x158000_62 ≤ 1;rotate_left
        ·rw [if_neg c111] at H;have c111b0 : decide (x158000_62 ≤ 1) = false := decide_eq_false c111;clear c111;by_cases c184 : x158000_62 = 4;rotate_left
         ·rw [if_neg c184] at H;have c184b0 : (x158000_62 == 4) = false := beq_eq_false_iff_ne.mpr c184;have c184b1 : (x158000_62 != 4) = true := bne_iff_ne.mpr c184;simp only [Option.some.injEq, Prod.mk.injEq] at H;obtain ⟨rfl, rfl, rfl, rfl, rfl, rfl, rfl, rfl, rfl, rfl, rfl⟩ := H;have hn195 := ne2 NB157_149;have hn196 := ne2 NB157_150;have hn197 := ne2 NB157_0;have hcz198 := cells9 BK157.out;have hn199 := ne2 NB150_149;have hn200 := ne2 NB150_0;have hcz201 := cells9 BK150.out
          go_wp2
          refine bodyPost_ret (results_cell_row rfl _ _ gb150 46 #[.int .i64 x158000_62, .int .i64 0, .int .i64 x158002_69, .int .i64 x158003_69, .int .i64 0, .int .i64 0, .int .i64 0, .slice none 0 0, .slice none 0 0] (0, 0) _ rfl (by (with_reducible repeat (first | refine blk_drewN ?_ _ | refine blk_drew ?_ | refine blk_alloc ?_ _)); first | exact putl9 BK150.out | exact blk_fars (putl9 BK150.out)) Try.underlying46 rfl (by kernel_rfl)) rfl ?_
          exact ⟨_, _, eqN, by first | exact Kd.R_nil _ _ _ _ _ | exact Kd.N_nil _ _ _ _ _ | exact Kd.V_nil _ _ _ _ _ | exact Kd.Q_nil _ _ _ _ _ | exact Kd.S_nil _ _ _ _ _, by first | exact Kd.R_nil _ _ _ _ _ | exact Kd.N_nil _ _ _ _ _ | exact Kd.V_nil _ _ _ _ _ | exact Kd.Q_nil _ _ _ _ _ | exact Kd.S_nil _ _ _ _ _, is114N, bel_now, keepN⟩
         rw [if_pos c184] at H;have c184b0 : (x158000_62 == 4) = true := beq_iff_eq.mpr c184;have c184b1 : (x158000_62 != 4) = false := bne_eq_false_iff_eq.mpr c184;clear c184;replace H := Option.bind_eq_some_iff.mp H;obtain ⟨⟨t202, t203, t204⟩, A1850, H⟩ := H;(try dsimp only at H);have A185 := am A1850;clear A1850;simp only [Option.some.injEq, Prod.mk.injEq] at H;obtain ⟨rfl, rfl, rfl, rfl, rfl, rfl, rfl, rfl, rfl, rfl, rfl⟩ := H;have hn186 := ne2 NB157_149;have hn187 := ne2 NB157_150;have hn188 := ne2 NB157_0;have hcz189 := cells9 BK157.out
         go_wp2_with (first | ((with_reducible refine gate_callee (f := 67) rfl ?_); refine gM 125 Try.func67 #[.pointer (some ⟨g, 0, none⟩), .int .i64 20] rfl ?_; (with_reducible refine (spec_l01Below.calls g s0_0 x1001_69 x1002_69 20 t202 t203 t204 w0 _ ?side1 ?side2 A185.out).mono ?_); (case side1 => exact is114N); (case side2 => exact bel_now); rintro e w190 ⟨rfl, hi, hb, hk⟩; refine ⟨_, rfl, ?_⟩; replace BK149 := blkK gb149 hk; replace BK150 := blkK gb150 hk; replace BK157 := blkK gb157 hk; replace HK := keep_on w hk; replace HB := am (hb); replace HI0 := am (hi); (try clear hb hk hi); have hcz191 := cells9 BK157.out; have hn192 := ne2 NB150_149; have hn193 := ne2 NB150_0; have hcz194 := cells9 BK150.out))
         refine bodyPost_ret (results_cell_row rfl _ _ gb150 46 #[.int .i64 x158000_62, .int .i64 0, .int .i64 x158002_69, .int .i64 x158003_69, .int .i64 0, .int .i64 0, .int .i64 (wrap64 (t202 - 10)), .slice none 0 0, .slice none 0 0] (0, 0) _ rfl blkN Try.underlying46 rfl (by kernel_rfl)) rfl ?_
         exact ⟨_, _, eqN, by first | exact Kd.R_nil _ _ _ _ _ | exact Kd.N_nil _ _ _ _ _ | exact Kd.V_nil _ _ _ _ _ | exact Kd.Q_nil _ _ _ _ _ | exact Kd.S_nil _ _ _ _ _, by first | exact Kd.R_nil _ _ _ _ _ | exact Kd.N_nil _ _ _ _ _ | exact Kd.V_nil _ _ _ _ _ | exact Kd.Q_nil _ _ _ _ _ | exact Kd.S_nil _ _ _ _ _, is114N, bel_now, keepN⟩
        rw [if_pos c111] at H;have c111b0 : decide (x158000_62 ≤ 1) = true := decide_eq_true c111;clear c111;replace H := Option.bind_eq_some_iff.mp H;obtain ⟨⟨t174, t175, t176⟩, A1120, H⟩ := H;(try dsimp only at H);have A112 := am A1120;clear A1120;replace H := Option.bind_eq_some_iff.mp H;obtain ⟨⟨t177, t178, t179⟩, A1130, H⟩ := H;(try dsimp only at H);have A113 := am A1130;clear A1130;replace H := Option.bind_eq_some_iff.mp H;obtain ⟨⟨t180, t181, t182⟩, A1140, H⟩ := H;(try dsimp only at H);have A114 := am A1140;clear A1140;replace H := Option.bind_eq_some_iff.mp H;obtain ⟨⟨t183, t184, t185⟩, A1150, H⟩ := H;(try dsimp only at H);have A115 := am A1150;clear A1150;obtain ⟨t186, A116, H⟩ := bnd H;(try dsimp only at H);have HC117 := am H;clear H;have hn118 := ne2 NB157_149;have hn119 := ne2 NB157_150;have hn120 := ne2 NB157_0;have hcz121 := cells9 BK157.out
        try go_wp2_with (first | ((with_reducible refine gate_callee (f := 67) rfl ?_); refine gM 61 Try.func67 #[.pointer (some ⟨g, 0, none⟩), .int .i64 3] rfl ?_; (with_reducible refine (spec_l01Below.calls g s0_0 x1001_69 x1002_69 3 t174 t175 t176 w0 _ ?side1 ?side2 A112.out).mono ?_); (case side1 => exact is114N); (case side2 => exact bel_now); rintro e w122 ⟨rfl, hi, hb, hk⟩; refine ⟨_, rfl, ?_⟩; replace BK149 := blkK gb149 hk; replace BK150 := blkK gb150 hk; replace BK157 := blkK gb157 hk; replace HK := keep_on w hk; replace HB := am (hb); replace HI0 := am (hi); (try clear hb hk hi); have hcz123 := cells9 BK157.out) | ((with_reducible refine gate_callee (f := 67) rfl ?_); refine gM 65 Try.func67 #[.pointer (some ⟨g, 0, none⟩), .int .i64 16777216] rfl ?_; (with_reducible refine (spec_l01Below.calls g s0_0 t175 t176 16777216 t177 t178 t179 w0 _ ?side1 ?side2 A113.out).mono ?_); (case side1 => exact is114N); (case side2 => exact bel_now); rintro e w124 ⟨rfl, hi, hb, hk⟩; refine ⟨_, rfl, ?_⟩; replace BK149 := blkK gb149 hk; replace BK150 := blkK gb150 hk; replace BK157 := blkK gb157 hk; replace HK := keep_on w hk; replace HB := am (hb); replace HI0 := am (hi); (try clear hb hk hi); have hcz125 := cells9 BK157.out) | ((with_reducible refine gate_callee (f := 67) rfl ?_); refine gM 70 Try.func67 #[.pointer (some ⟨g, 0, none⟩), .int .i64 10] rfl ?_; (with_reducible refine (spec_l01Below.calls g s0_0 t178 t179 10 t180 t181 t182 w0 _ ?side1 ?side2 A114.out).mono ?_); (case side1 => exact is114N); (case side2 => exact bel_now); rintro e w126 ⟨rfl, hi, hb, hk⟩; refine ⟨_, rfl, ?_⟩; replace BK149 := blkK gb149 hk; replace BK150 := blkK gb150 hk; replace BK157 := blkK gb157 hk; replace HK := keep_on w hk; replace HB := am (hb); replace HI0 := am (hi); (try clear hb hk hi); have hcz127 := cells9 BK157.out) | ((with_reducible refine gate_callee (f := 67) rfl ?_); refine gM 73 Try.func67 #[.pointer (some ⟨g, 0, none⟩), .int .i64 9] rfl ?_; (with_reducible refine (spec_l01Below.calls g s0_0 t181 t182 9 t183 t184 t185 w0 _ ?side1 ?side2 A115.out).mono ?_); (case side1 => exact is114N); (case side2 => exact bel_now); rintro e w128 ⟨rfl, hi, hb, hk⟩; refine ⟨_, rfl, ?_⟩; replace BK149 := blkK gb149 hk; replace BK150 := blkK gb150 hk; replace BK157 := blkK gb157 hk; replace HK := keep_on w hk; replace HB := am (hb); replace HI0 := am (hi); (try clear hb hk hi); have hcz129 := cells9 BK157.out))
        have n0_ : Aside0 ((w128.setCell ⟨gb157, 6, none⟩ (.int .i64 (wrap64 (t183 - 4)))).heap[gb149]? = some (.cells #[.int .i64 a1_0, .int .i64 a1_1, .int .i64 a1_2] 24 (0, 0))) := ⟨blkN⟩;have n1_ : Aside0 ((w128.setCell ⟨gb157, 6, none⟩ (.int .i64 (wrap64 (t183 - 4)))).heap[gb150]? = some (.cells #[.int .i64 0, .int .i64 0, .int .i64 0, .int .i64 0, .int .i64 0, .int .i64 0, .int .i64 0, .slice none 0 0, .slice none 0 0] 46 (0, 0))) := ⟨blkN⟩;have n2_ : Aside0 ((w128.setCell ⟨gb157, 6, none⟩ (.int .i64 (wrap64 (t183 - 4)))).heap[gb157]? = some (.cells #[.int .i64 x158000_62, .int .i64 (wrap64 (1 + t174)), .int .i64 x158002_69, .int .i64 x158003_69, .int .i64 (wrap64 (1073741824 + (wrap64 (t177 * 60)))), .int .i64 t180, .int .i64 (wrap64 (t183 - 4)), .slice none 0 0, .slice none 0 0] 46 (0, 0))) := ⟨blkN⟩;have n3_ : Aside0 (IsS114 w0 (w128.setCell ⟨gb157, 6, none⟩ (.int .i64 (wrap64 (t183 - 4)))) g s0_0 t184 t185) := ⟨is114N⟩;have n4_ : Aside0 (KeepBut w (w128.setCell ⟨gb157, 6, none⟩ (.int .i64 (wrap64 (t183 - 4)))) g none) := ⟨keepN⟩;have n5_ : Aside0 (Below w0.heap.size w0 (w128.setCell ⟨gb157, 6, none⟩ (.int .i64 (wrap64 (t183 - 4))))) := ⟨bel_now⟩;(try clear BK149);(try clear BK150);(try clear BK157);(try clear HI0);(try clear HK);(try clear HB)
        generalize (w128.setCell ⟨gb157, 6, none⟩ (.int .i64 (wrap64 (t183 - 4)))) = w130 at n0_ n1_ n2_ n3_ n4_ n5_ ⊢
        have BK149 := n0_;have BK150 := n1_;have BK157 := n2_;have HI0 := n3_;have HK := n4_;have HB := n5_;clear n0_ n1_ n2_ n3_ n4_ n5_;replace BK149 := am (blk_drew BK149.out);replace BK150 := am (blk_drew BK150.out);replace BK157 := am (blk_drew BK157.out);replace HI0 := am (IsS114.drew HI0.out);replace HK := am (keep_drew HK.out);replace HB := am (below_drew1 HB.out)
        refine start_ (n := 6) (S := fun w' => w'.cell? ⟨gb157, 0, none⟩ = some (.int .i64 x158000_62) ∧ w'.cell? ⟨gb157, 1, none⟩ = some (.int .i64 (wrap64 (1 + t174))) ∧ w'.cell? ⟨gb157, 2, none⟩ = some (.int .i64 x158002_69) ∧ w'.cell? ⟨gb157, 3, none⟩ = some (.int .i64 x158003_69) ∧ w'.cell? ⟨gb157, 4, none⟩ = some (.int .i64 (wrap64 (1073741824 + (wrap64 (t177 * 60))))) ∧ w'.cell? ⟨gb157, 5, none⟩ = some (.int .i64 t180) ∧ w'.cell? ⟨gb157, 6, none⟩ = some (.int .i64 (wrap64 (t183 - 4))) ∧ w'.cell? ⟨gb157, 7, none⟩ = some (.slice none 0 0) ∧ w'.cell? ⟨gb157, 8, none⟩ = some (.slice none 0 0) ∧ w'.cell? ⟨gb149, 0, none⟩ = some (.int .i64 a1_0) ∧ w'.cell? ⟨gb149, 1, none⟩ = some (.int .i64 a1_1) ∧ w'.cell? ⟨gb149, 2, none⟩ = some (.int .i64 a1_2)) (ds := []) #[O, O, O, O, O, O] (by kernel_rfl) rfl rfl ⟨bc BK157 0, bc BK157 1, bc BK157 2, bc BK157 3, bc BK157 4, bc BK157 5, bc BK157 6, bc BK157 7, bc BK157 8, bc BK149 0, bc BK149 1, bc BK149 2⟩ (fun hHeld => ?_)
        generalize w130.drew = w131 at BK149 BK150 BK157 HI0 HK HB hHeld ⊢
        refine stepP 0 (some 76) (tk 6 1) (by kernel_rfl) ?_
        refine stepT 1 (some 77) (tk 6 3) (by kernel_rfl) hHeld ?_
        refine stepT 2 (some 78) (tk 6 7) (by kernel_rfl) hHeld ?_
        refine one_ (i := 3) (N := some 79) #[I, I, I, I, O, O] rfl rfl (by kernel_rfl) (by decide) (fun K hK => ?_)
        refine goes_ Try.func46 (by kernel_rfl) rfl #[.agg #[.int .i64 a1_0, .int .i64 a1_1, .int .i64 a1_2]] (by rfl) rfl rfl (by (try simp only [List.map_toArray, List.map_cons, List.map_nil]); first | done | rfl | (simp only [List.length_drop, List.length_take]; rfl)) ?_
        with_reducible refine (spec_SizeOf.calls a1_0 a1_1 a1_2 t186 _ A116.out).mono ?_
        rintro e w132 ⟨rfl, hb⟩
        refine ⟨_, rfl, ?_⟩
        have n5_ := am (below_step bel_now hb);replace BK149 := blk_on gb149 hb;replace BK150 := blk_on gb150 hb;replace BK157 := blk_on gb157 hb;replace HI0 := am (IsS114.below is114N hb);replace HK := keep_onB w g hb;clear HB;have HB := n5_;clear n5_;(try clear hb);(try clear hb2);(try clear hb3);(try clear hk);(try clear hi)
        refine hK.out _ _ ⟨bc BK157 0, bc BK157 1, bc BK157 2, bc BK157 3, bc BK157 4, bc BK157 5, bc BK157 6, bc BK157 7, bc BK157 8, bc BK149 0, bc BK149 1, bc BK149 2⟩ (fun hHeld => ?_)
        clear hK K
        refine normP 79 ?_
        refine stepP 4 (some 80) (tk 6 31) (by kernel_rfl) ?_
        refine stepP 5 (some 7) (tk 6 63) (by kernel_rfl) ?_
        refine done_ (by kernel_rfl) ?_
        have hcz133 := cells9 BK157.out
        go_upto_if 83 with (fail)
        go_cut [7] (fun v7 wc => ∃ (kq : Nat) (x7_116 : Int), v7 = .int .i64 x7_116 ∧ Aside0 (spec_l03DrawLayer.j4 kq x7_116 s0_0 t184 t185 x158000_62 (wrap64 (1 + t174)) x158002_69 x158003_69 (wrap64 (1073741824 + (wrap64 (t177 * 60)))) t180 (wrap64 (t183 - 4)) = some (r1, r2, r3, r4, r5, r6, r7, r8, r9, r10, r11)) ∧ Aside0 (kq ≤ kj69) ∧ Aside0 (wc.heap[gb149]? = some (.cells #[.int .i64 a1_0, .int .i64 a1_1, .int .i64 a1_2] 24 (0, 0))) ∧ Aside0 (wc.heap[gb150]? = some (.cells #[.int .i64 0, .int .i64 0, .int .i64 0, .int .i64 0, .int .i64 0, .int .i64 0, .int .i64 0, (.slice none 0 0), (.slice none 0 0)] 46 (0, 0))) ∧ Aside0 (wc.heap[gb157]? = some (.cells #[.int .i64 x158000_62, .int .i64 (wrap64 (1 + t174)), .int .i64 x158002_69, .int .i64 x158003_69, .int .i64 (wrap64 (1073741824 + (wrap64 (t177 * 60)))), .int .i64 t180, .int .i64 (wrap64 (t183 - 4)), (.slice none 0 0), (.slice none 0 0)] 46 (0, 0))) ∧ Aside0 (IsS114 w0 wc g s0_0 t184 t185) ∧ Aside0 (KeepBut w wc g none) ∧ Aside0 (Below w0.heap.size w0 wc))
        case first =>
         have H := HC117.out;clear HC117;by_cases c134 : x158000_62 = 1;rotate_left
         ·rw [if_neg c134] at H;have c134b0 : (x158000_62 == 1) = false := beq_eq_false_iff_ne.mpr c134;have c134b1 : (x158000_62 != 1) = true := bne_iff_ne.mpr c134
          (first | rw [c134b0] | (simp only [i64_w, i32_w]; rw [c134b0]) | skip)
          have H' := am H;clear H
          go_wp2
          go_meet
          case rel => exact ⟨_, (wrap64 ((wrap64 (1 + t174)) * t186)), pv, H', ⟨by have := HJ3.out; have := HJ62.out; have := HJ69.out; first | omega | exact Nat.le_refl _⟩, ⟨bks BK149⟩, ⟨bks BK150⟩, ⟨bks BK157⟩, ⟨is114N⟩, ⟨keepN⟩, ⟨bel_now⟩⟩
         rw [if_pos c134] at H;have c134b0 : (x158000_62 == 1) = true := beq_iff_eq.mpr c134;have c134b1 : (x158000_62 != 1) = false := bne_eq_false_iff_eq.mpr c134;clear c134
         (first | rw [c134b0] | (simp only [i64_w, i32_w]; rw [c134b0]) | skip)
         have H' := am H;clear H;have hn135 := ne2 NB157_149;have hn136 := ne2 NB157_150;have hn137 := ne2 NB157_0;have hcz138 := cells9 BK157.out;have hn139 := ne2 NB149_150;have hn140 := ne2 NB149_0;have hcz141 := cells3 BK149.out
         go_wp2
         go_meet
         case rel => exact ⟨_, (wrap64 ((wrap64 ((wrap64 ((wrap64 (1 + t174)) * x158002_69)) * x158002_69)) * a1_2)), pv, H', ⟨by have := HJ3.out; have := HJ62.out; have := HJ69.out; first | omega | exact Nat.le_refl _⟩, ⟨bks BK149⟩, ⟨bks BK150⟩, ⟨bks BK157⟩, ⟨is114N⟩, ⟨keepN⟩, ⟨bel_now⟩⟩
        case rest =>
         clear HC117;try clear c111
         try clear c111b0
         try clear hcz121
         try clear hcz123
         try clear hcz125
         try clear hcz127
         try clear hcz129
         try clear hcz133
         try clear hcz15
         try clear hcz74
         obtain ⟨kq, x7_116, rfl, HA, HJ116, BK149, BK150, BK157, HI0, HK, HB⟩ := hcut
         cases kq with
         | zero => exact absurd HA.out (by simp [spec_l03DrawLayer.j4])
         | succ kj116 =>
          have H := HA.out;clear HA;simp only [spec_l03DrawLayer.j4] at H;have H' := am H;clear H
          go_wp2
          go_loopg [8] kj116 (fun kq v8 w' => ∃ (x8_5 : Int) (x1001_5 : Int) (x1002_5 : Int) (x158007_5 : List Int) (u158007 : Value), v8 = .int .i64 x8_5 ∧ Aside0 (spec_l03DrawLayer.l0 kq x7_116 x8_5 s0_0 x1001_5 x1002_5 x158000_62 (wrap64 (1 + t174)) x158002_69 x158003_69 (wrap64 (1073741824 + (wrap64 (t177 * 60)))) t180 (wrap64 (t183 - 4)) x158007_5 = some (r1, r2, r3, r4, r5, r6, r7, r8, r9, r10, r11)) ∧ Aside0 (kq ≤ kj116) ∧ Aside0 (Kd.R (Kd.int .i64) 3 w' w.heap.size (fun _ => True) u158007 x158007_5) ∧ Aside0 (w'.heap[gb149]? = some (.cells #[.int .i64 a1_0, .int .i64 a1_1, .int .i64 a1_2] 24 (0, 0))) ∧ Aside0 (w'.heap[gb150]? = some (.cells #[.int .i64 0, .int .i64 0, .int .i64 0, .int .i64 0, .int .i64 0, .int .i64 0, .int .i64 0, (.slice none 0 0), (.slice none 0 0)] 46 (0, 0))) ∧ Aside0 (w'.heap[gb157]? = some (.cells #[.int .i64 x158000_62, .int .i64 (wrap64 (1 + t174)), .int .i64 x158002_69, .int .i64 x158003_69, .int .i64 (wrap64 (1073741824 + (wrap64 (t177 * 60)))), .int .i64 t180, .int .i64 (wrap64 (t183 - 4)), u158007, (.slice none 0 0)] 46 (0, 0))) ∧ Aside0 (IsS114 w0 w' g s0_0 x1001_5 x1002_5) ∧ Aside0 (KeepBut w w' g none) ∧ Aside0 (Below w0.heap.size w0 w'))
          case atStart => exact ⟨(0), (t184), (t185), (([] : List Int)), (.slice none 0 0), pv, H', ⟨Nat.le_refl _⟩, ⟨by first | exact Kd.R_nil _ _ _ _ _ | exact Kd.N_nil _ _ _ _ _ | exact Kd.V_nil _ _ _ _ _ | exact Kd.Q_nil _ _ _ _ _ | exact Kd.S_nil _ _ _ _ _⟩, ⟨bks BK149⟩, ⟨bks BK150⟩, ⟨bks BK157⟩, ⟨is114N⟩, ⟨keepN⟩, ⟨bel_now⟩⟩
          case round =>
           clear H';try clear c111
           try clear c111b0
           try clear hcz121
           try clear hcz123
           try clear hcz125
           try clear hcz127
           try clear hcz129
           try clear hcz133
           try clear hcz15
           try clear hcz74
           obtain ⟨x8_5, x1001_5, x1002_5, x158007_5, u158007, rfl, HA, HK5, HO_158007, BK149, BK150, BK157, HI0, HK, HB⟩ := hrel
           cases gk with
           | zero => exact absurd HA.out (by simp [spec_l03DrawLayer.l0])
           | succ k5 =>
            have H := HA.out;clear HA;simp only [spec_l03DrawLayer.l0] at H;by_cases c142 : x8_5 < x7_116
            ·rw [if_pos c142] at H;have c142b0 : decide (x8_5 < x7_116) = true := decide_eq_true c142;clear c142;replace H := Option.bind_eq_some_iff.mp H;obtain ⟨⟨t187, t188, t189⟩, A1430, H⟩ := H;(try dsimp only at H);have A143 := am A1430;clear A1430;obtain ⟨c144, H⟩ := gd H;have LMc144 := am c144;clear c144;obtain ⟨y190, hy190⟩ : ∃ y_ : List Int, y_ = (x158007_5 ++ [t187]) := ⟨_, rfl⟩;replace H : (spec_l03DrawLayer.l0 k5 x7_116 (wrap64 (x8_5 + 1)) s0_0 t188 t189 x158000_62 (wrap64 (1 + t174)) x158002_69 x158003_69 (wrap64 (1073741824 + (wrap64 (t177 * 60)))) t180 (wrap64 (t183 - 4)) y190) = some (r1, r2, r3, r4, r5, r6, r7, r8, r9, r10, r11) := by (try rw [hy190]); first | with_reducible exact H | exact (Option.bind_some _ _).symm.trans H | exact H
             have Ny190 := am hy190;clear hy190;have H' := am H;clear H
             try go_wp2
             replace HO_158007 := am (Kd.R_drew HO_158007.out);replace BK149 := am (blk_drew BK149.out);replace BK150 := am (blk_drew BK150.out);replace BK157 := am (blk_drew BK157.out);replace HI0 := am (IsS114.drew HI0.out);replace HK := am (keep_drew HK.out);replace HB := am (below_drew1 HB.out)
             refine start_ (n := 8) (S := fun w' => w'.cell? ⟨gb157, 0, none⟩ = some (.int .i64 x158000_62) ∧ w'.cell? ⟨gb157, 1, none⟩ = some (.int .i64 (wrap64 (1 + t174))) ∧ w'.cell? ⟨gb157, 2, none⟩ = some (.int .i64 x158002_69) ∧ w'.cell? ⟨gb157, 3, none⟩ = some (.int .i64 x158003_69) ∧ w'.cell? ⟨gb157, 4, none⟩ = some (.int .i64 (wrap64 (1073741824 + (wrap64 (t177 * 60))))) ∧ w'.cell? ⟨gb157, 5, none⟩ = some (.int .i64 t180) ∧ w'.cell? ⟨gb157, 6, none⟩ = some (.int .i64 (wrap64 (t183 - 4))) ∧ w'.cell? ⟨gb157, 7, none⟩ = some (u158007) ∧ w'.cell? ⟨gb157, 8, none⟩ = some (.slice none 0 0)) (ds := [7]) #[O, O, O, O, O, O, O, O] (by kernel_rfl) rfl rfl ⟨bc BK157 0, bc BK157 1, bc BK157 2, bc BK157 3, bc BK157 4, bc BK157 5, bc BK157 6, bc BK157 7, bc BK157 8⟩ (fun hHeld => ?_); refine with_tabW spec_l03DrawLayer.tab23 spec_l03DrawLayer.bits23 (fun HT_ HW_ => ?_)
             generalize wr.drew = w145 at HO_158007 BK149 BK150 BK157 HI0 HK HB hHeld ⊢
             refine stepP 0 (some 100) (tk 8 1) (any_of HT_.out (by kernel_rfl)) ?_
             refine stepP 2 (some 102) (tk 8 5) (any_of HT_.out (by kernel_rfl)) ?_
             refine stepT 1 (some 101) (tk 8 7) (take_ofW HT_.out HW_.out (by kernel_rfl)) hHeld ?_
             refine one_ (i := 3) (N := some 103) #[I, I, I, I, O, O, O, O] rfl rfl (one_of HT_.out (by kernel_rfl)) (by decide) (fun K hK => ?_)
             refine goes_ Try.func66 (by kernel_rfl) rfl #[.pointer (some ⟨g, 0, none⟩)] (by rfl) rfl rfl (by (try simp only [List.map_toArray, List.map_cons, List.map_nil]); first | done | rfl | (simp only [List.length_drop, List.length_take]; rfl)) ?_
             with_reducible refine (spec_l02DrawItem.calls g s0_0 x1001_5 x1002_5 t187 t188 t189 w0 _ ?side1 ?side2 A143.out).mono ?_
             (case side1 => exact is114N)
             (case side2 => exact bel_now)
             rintro e w146 ⟨rfl, hi, hb, hk⟩
             refine ⟨_, rfl, ?_⟩
             have n0_ := am (Kd.R_mono (Kd.R_keep (IsS114.apart (show IsS114 w0 _ g s0_0 x1001_5 x1002_5 from is114N) (R_at HO_158007.out) (by decide)) hk (fun _ h => h.2)) (fun _ h => h.1))
             replace BK149 := blkK gb149 hk;replace BK150 := blkK gb150 hk;replace BK157 := blkK gb157 hk;replace HK := keep_on w hk;replace HB := am (hb);replace HI0 := am (hi);clear HO_158007;have HO_158007 := n0_;clear n0_;(try clear hb);(try clear hb2);(try clear hb3);(try clear hk);(try clear hi)
             refine hK.out _ _ ⟨bc BK157 0, bc BK157 1, bc BK157 2, bc BK157 3, bc BK157 4, bc BK157 5, bc BK157 6, bc BK157 7, bc BK157 8⟩ (fun hHeld => ?_)
             clear hK K
             refine normP 103 ?_
             refine one_ (i := 4) (N := some 104) #[I, I, I, I, I, O, O, O] rfl rfl (one_of HT_.out (by kernel_rfl)) (by decide) (fun K hK => ?_)
             refine value_ (w1 := ?_) (v := ?_) (by rfl) rfl ?_ ?_
             rotate_left 2
             ·go_simp
              constructor
              ·rfl
              rfl
             refine hK.out _ _ ⟨(blk_cell (blk_alloc BK157.out _) 0).trans rfl, (blk_cell (blk_alloc BK157.out _) 1).trans rfl, (blk_cell (blk_alloc BK157.out _) 2).trans rfl, (blk_cell (blk_alloc BK157.out _) 3).trans rfl, (blk_cell (blk_alloc BK157.out _) 4).trans rfl, (blk_cell (blk_alloc BK157.out _) 5).trans rfl, (blk_cell (blk_alloc BK157.out _) 6).trans rfl, (blk_cell (blk_alloc BK157.out _) 7).trans rfl, (blk_cell (blk_alloc BK157.out _) 8).trans rfl⟩ (fun hHeld => ?_)
             clear hK K
             refine normP 104 ?_
             refine one_ (i := 5) (N := some 105) #[I, I, I, I, I, I, O, O] rfl rfl (one_of HT_.out (by kernel_rfl)) (by decide) (fun K hK => ?_)
             refine Kd.R_append_step (Kd.int .i64) w.heap.size (by rfl) (.tmp 101) (.tmp 104) 42 3 (.int .i64 0) 8 rfl Try.underlying42 info3 rfl (by decide) (by omega) u158007 x158007_5 t187 [.int .i64 t187] (fun _ => True) (fun _ => False) rfl rfl ?aP (fun _ hk => hk.elim) ?aF ?aO (Below.refl _ _) ?aS ?aL ?_
             (case aP => exact rfl)
             (case aF => exact (fun _ _ => trivial))
             (case aO => exact (R_at HO_158007.out))
             (case aS => exact (keep_size (w := w) (g := g) (row := none) keepN))
             (case aL => have := LMc144.out; omega)
             intro v191 w147 ho hb hg hat;rw [← Ny190.out] at ho;have n4_ := am (below_weaken bel_now HL.out hb);have n6_ := am (ho);replace BK149 := am (blk_grown (g := gb149) blk_now hg (Kd.R_ne HO_158007.out BK149.out (by decide)));replace BK150 := am (blk_grown (g := gb150) blk_now hg (Kd.R_ne HO_158007.out BK150.out (by decide)));replace BK157 := am (blk_grown (g := gb157) blk_now hg (Kd.R_ne HO_158007.out BK157.out (by decide)));replace HI0 := am (IsS114.grown is114N hg (IsS114.own_ne HI0.out HO_158007.out (by decide)));replace HK := am (KeepBut.trans keepN (KeepBut.of_grown hg g) (Kd.R_base2 HO_158007.out));clear HB HO_158007;have HB := n4_;have HO192 := n6_;clear n4_ n6_;clear ho hb hg hat;obtain ⟨Ao148, co148, eo148⟩ := Kd.R_slice HO192.out
             (first | subst eo148 | (injection eo148 with f1_ f2_ f3_; have f4_ := f1_.symm; have f5_ := f3_.symm; clear f1_ f2_ f3_; subst f4_; subst f5_))
             refine hK.out _ _ ⟨bc BK157 0, bc BK157 1, bc BK157 2, bc BK157 3, bc BK157 4, bc BK157 5, bc BK157 6, bc BK157 7, bc BK157 8⟩ (fun hHeld => ?_)
             clear hK K
             refine normP 105 ?_
             refine stepP 6 (some 106) (tk 8 127) (any_of HT_.out (by kernel_rfl)) ?_
             refine last_ (i := 7) (N := none) #[I, I, I, I, I, I, I, I] rfl rfl (one_of HT_.out (by kernel_rfl)) (by decide) (fun K hK => ?_)
             have hs149 : w147.cell? ⟨gb157, 7, none⟩ = some (u158007) := (blk_cell BK157.out 7).trans rfl;have hfs149 := blk_frozen BK157.out 7;have hns149_0 := NB149_157.out;have hns149_1 := NB150_157.out;have hms149_0 := NB157_149.out;have hms149_1 := NB157_150.out
             refine skip_ (w1 := ?_) (by rfl) rfl ?_ ?_
             rotate_left
             ·go_simp
              rfl
             refine hK.out _ _ ?_
             clear hK K
             refine done_ (done_of HT_.out (by kernel_rfl)) ?_
             try go_wp2
             go_roundg k5
             case measure => have := HJ3.out; have := HJ62.out; have := HJ69.out; have := HJ116.out; have := HK5.out; omega
             case rel => exact ⟨(wrap64 (x8_5 + 1)), (t188), (t189), (y190), (.slice Ao148 y190.length co148), pv, H', ⟨by have := HJ3.out; have := HJ62.out; have := HJ69.out; have := HJ116.out; have := HK5.out; omega⟩, ⟨Kd.R_mono (R_atF HO192.out) (fun _ hk => trivial)⟩, ⟨blkN⟩, ⟨blkN⟩, ⟨blkN⟩, ⟨is114N⟩, ⟨keepN⟩, ⟨bel_now⟩⟩
            rw [if_neg c142] at H;have c142b0 : decide (x8_5 < x7_116) = false := decide_eq_false c142;clear c142;have H' := am H;clear H
            go_wp2
            go_loopg [9] k5 (fun kq v9 w' => ∃ (x9_6 : Int) (x1001_6 : Int) (x1002_6 : Int) (x158008_6 : List Int) (u158008 : Value), v9 = .int .i64 x9_6 ∧ Aside0 (spec_l03DrawLayer.l1 kq x9_6 s0_0 x1001_6 x1002_6 x158000_62 (wrap64 (1 + t174)) x158002_69 x158003_69 (wrap64 (1073741824 + (wrap64 (t177 * 60)))) t180 (wrap64 (t183 - 4)) x158007_5 x158008_6 = some (r1, r2, r3, r4, r5, r6, r7, r8, r9, r10, r11)) ∧ Aside0 (kq ≤ k5) ∧ Aside0 (Kd.R (Kd.int .i64) 3 w' w.heap.size (fun k_ => some k_ ≠ (u158008 : Value).ownBlock) u158007 x158007_5) ∧ Aside0 (Kd.R (Kd.int .i64) 3 w' w.heap.size (fun k_ => some k_ ≠ (u158007 : Value).ownBlock) u158008 x158008_6) ∧ Aside0 (w'.heap[gb149]? = some (.cells #[.int .i64 a1_0, .int .i64 a1_1, .int .i64 a1_2] 24 (0, 0))) ∧ Aside0 (w'.heap[gb150]? = some (.cells #[.int .i64 0, .int .i64 0, .int .i64 0, .int .i64 0, .int .i64 0, .int .i64 0, .int .i64 0, (.slice none 0 0), (.slice none 0 0)] 46 (0, 0))) ∧ Aside0 (w'.heap[gb157]? = some (.cells #[.int .i64 x158000_62, .int .i64 (wrap64 (1 + t174)), .int .i64 x158002_69, .int .i64 x158003_69, .int .i64 (wrap64 (1073741824 + (wrap64 (t177 * 60)))), .int .i64 t180, .int .i64 (wrap64 (t183 - 4)), u158007, u158008] 46 (0, 0))) ∧ Aside0 (IsS114 w0 w' g s0_0 x1001_6 x1002_6) ∧ Aside0 (KeepBut w w' g none) ∧ Aside0 (Below w0.heap.size w0 w'))
            case atStart => exact ⟨(0), (x1001_5), (x1002_5), (([] : List Int)), (.slice none 0 0), pv, H', ⟨Nat.le_refl _⟩, ⟨by (with_reducible repeat (first | apply Kd.R_alloc | apply Kd.R_drewN | apply Kd.R_drew)); exact Kd.R_mono HO_158007.out (fun _ hk => (by simp [Value.ownBlock]))⟩, ⟨by first | exact Kd.R_nil _ _ _ _ _ | exact Kd.N_nil _ _ _ _ _ | exact Kd.V_nil _ _ _ _ _ | exact Kd.Q_nil _ _ _ _ _ | exact Kd.S_nil _ _ _ _ _⟩, ⟨bks BK149⟩, ⟨bks BK150⟩, ⟨bks BK157⟩, ⟨is114N⟩, ⟨keepN⟩, ⟨bel_now⟩⟩
            case round =>
             clear H';try clear c142
             try clear c142b0
             try clear hcz129
             try clear hcz133
             try clear hcz15
             try clear hcz74
             obtain ⟨x9_6, x1001_6, x1002_6, x158008_6, u158008, rfl, HA, HK6, HO_158007, HO_158008, BK149, BK150, BK157, HI0, HK, HB⟩ := hrel
             cases gk with
             | zero => exact absurd HA.out (by simp [spec_l03DrawLayer.l1])
             | succ k6 =>
              have H := HA.out;clear HA;simp only [spec_l03DrawLayer.l1] at H;by_cases c150 : x9_6 < (wrap64 (1 + t174));rotate_left
              ·rw [if_neg c150] at H;have c150b0 : decide (x9_6 < (wrap64 (1 + t174))) = false := decide_eq_false c150;clear c150;by_cases c162 : x158000_62 = 4;rotate_left
               ·rw [if_neg c162] at H;have c162b0 : (x158000_62 == 4) = false := beq_eq_false_iff_ne.mpr c162;have c162b1 : (x158000_62 != 4) = true := bne_iff_ne.mpr c162;simp only [Option.some.injEq, Prod.mk.injEq] at H;obtain ⟨rfl, rfl, rfl, rfl, rfl, rfl, rfl, rfl, rfl, rfl, rfl⟩ := H;have hn175 := ne2 NB157_149;have hn176 := ne2 NB157_150;have hn177 := ne2 NB157_0;have hcz178 := cells9 BK157.out;have hn179 := ne2 NB150_149;have hn180 := ne2 NB150_0;have hcz181 := cells9 BK150.out;obtain ⟨Ao182, co182, eo182⟩ := Kd.R_slice HO_158007.out;subst eo182;obtain ⟨Ao183, co183, eo183⟩ := Kd.R_slice HO_158008.out;subst eo183
                go_wp2
                refine bodyPost_ret (results_cell_row rfl _ _ gb150 46 #[.int .i64 x158000_62, .int .i64 (wrap64 (1 + t174)), .int .i64 x158002_69, .int .i64 x158003_69, .int .i64 (wrap64 (1073741824 + (wrap64 (t177 * 60)))), .int .i64 t180, .int .i64 (wrap64 (t183 - 4)), .slice Ao182 x158007_5.length co182, .slice Ao183 x158008_6.length co183] (0, 0) _ rfl (by (with_reducible repeat (first | refine blk_drewN ?_ _ | refine blk_drew ?_ | refine blk_alloc ?_ _)); first | exact putl9 BK150.out | exact blk_fars (putl9 BK150.out)) Try.underlying46 rfl (by kernel_rfl)) rfl ?_
                exact ⟨_, _, eqN, R_atF HO_158007.out, R_atF HO_158008.out, is114N, bel_now, keepN⟩
               rw [if_pos c162] at H;have c162b0 : (x158000_62 == 4) = true := beq_iff_eq.mpr c162;have c162b1 : (x158000_62 != 4) = false := bne_eq_false_iff_eq.mpr c162;clear c162;replace H := Option.bind_eq_some_iff.mp H;obtain ⟨⟨t199, t200, t201⟩, A1630, H⟩ := H;(try dsimp only at H);have A163 := am A1630;clear A1630;simp only [Option.some.injEq, Prod.mk.injEq] at H;obtain ⟨rfl, rfl, rfl, rfl, rfl, rfl, rfl, rfl, rfl, rfl, rfl⟩ := H;have hn164 := ne2 NB157_149;have hn165 := ne2 NB157_150;have hn166 := ne2 NB157_0;have hcz167 := cells9 BK157.out
               go_wp2_with (first | ((with_reducible refine gate_callee (f := 67) rfl ?_); refine gM 125 Try.func67 #[.pointer (some ⟨g, 0, none⟩), .int .i64 20] rfl ?_; (with_reducible refine (spec_l01Below.calls g s0_0 x1001_6 x1002_6 20 t199 t200 t201 w0 _ ?side1 ?side2 A163.out).mono ?_); (case side1 => exact is114N); (case side2 => exact bel_now); rintro e w168 ⟨rfl, hi, hb, hk⟩; refine ⟨_, rfl, ?_⟩; replace HO_158007 := am (Kd.R_mono (Kd.R_keep (IsS114.apart (show IsS114 w0 _ g s0_0 x1001_6 x1002_6 from is114N) (R_at HO_158007.out) (by decide)) hk (fun _ h => h.2)) (fun _ h => h.1)); replace HO_158008 := am (Kd.R_mono (Kd.R_keep (IsS114.apart (show IsS114 w0 _ g s0_0 x1001_6 x1002_6 from is114N) (R_at HO_158008.out) (by decide)) hk (fun _ h => h.2)) (fun _ h => h.1)); replace BK149 := blkK gb149 hk; replace BK150 := blkK gb150 hk; replace BK157 := blkK gb157 hk; replace HK := keep_on w hk; replace HB := am (hb); replace HI0 := am (hi); (try clear hb hk hi); have hcz169 := cells9 BK157.out; have hn170 := ne2 NB150_149; have hn171 := ne2 NB150_0; have hcz172 := cells9 BK150.out; obtain ⟨Ao173, co173, eo173⟩ := Kd.R_slice HO_158007.out; subst eo173; obtain ⟨Ao174, co174, eo174⟩ := Kd.R_slice HO_158008.out; subst eo174))
               refine bodyPost_ret (results_cell_row rfl _ _ gb150 46 #[.int .i64 x158000_62, .int .i64 (wrap64 (1 + t174)), .int .i64 x158002_69, .int .i64 x158003_69, .int .i64 (wrap64 (1073741824 + (wrap64 (t177 * 60)))), .int .i64 t180, .int .i64 (wrap64 (t199 - 10)), .slice Ao173 x158007_5.length co173, .slice Ao174 x158008_6.length co174] (0, 0) _ rfl blkN Try.underlying46 rfl (by kernel_rfl)) rfl ?_
               exact ⟨_, _, eqN, R_atF HO_158007.out, R_atF HO_158008.out, is114N, bel_now, keepN⟩
              rw [if_pos c150] at H;have c150b0 : decide (x9_6 < (wrap64 (1 + t174))) = true := decide_eq_true c150;clear c150;replace H := Option.bind_eq_some_iff.mp H;obtain ⟨⟨t193, t194, t195⟩, A1510, H⟩ := H;(try dsimp only at H);have A151 := am A1510;clear A1510;obtain ⟨c152, H⟩ := gd H;have LMc152 := am c152;clear c152;obtain ⟨y196, hy196⟩ : ∃ y_ : List Int, y_ = (x158008_6 ++ [wrap64 (t193 - 200)]) := ⟨_, rfl⟩;replace H : (spec_l03DrawLayer.l1 k6 (wrap64 (x9_6 + 1)) s0_0 t194 t195 x158000_62 (wrap64 (1 + t174)) x158002_69 x158003_69 (wrap64 (1073741824 + (wrap64 (t177 * 60)))) t180 (wrap64 (t183 - 4)) x158007_5 y196) = some (r1, r2, r3, r4, r5, r6, r7, r8, r9, r10, r11) := by (try rw [hy196]); first | with_reducible exact H | exact (Option.bind_some _ _).symm.trans H | exact H
              have Ny196 := am hy196;clear hy196;have H' := am H;clear H;have hn153 := ne2 NB157_149;have hn154 := ne2 NB157_150;have hn155 := ne2 NB157_0;have hcz156 := cells9 BK157.out
              try go_wp2
              replace HO_158007 := am (Kd.R_drew HO_158007.out);replace HO_158008 := am (Kd.R_drew HO_158008.out);replace BK149 := am (blk_drew BK149.out);replace BK150 := am (blk_drew BK150.out);replace BK157 := am (blk_drew BK157.out);replace HI0 := am (IsS114.drew HI0.out);replace HK := am (keep_drew HK.out);replace HB := am (below_drew1 HB.out)
              refine start_ (n := 9) (S := fun w' => w'.cell? ⟨gb157, 0, none⟩ = some (.int .i64 x158000_62) ∧ w'.cell? ⟨gb157, 1, none⟩ = some (.int .i64 (wrap64 (1 + t174))) ∧ w'.cell? ⟨gb157, 2, none⟩ = some (.int .i64 x158002_69) ∧ w'.cell? ⟨gb157, 3, none⟩ = some (.int .i64 x158003_69) ∧ w'.cell? ⟨gb157, 4, none⟩ = some (.int .i64 (wrap64 (1073741824 + (wrap64 (t177 * 60))))) ∧ w'.cell? ⟨gb157, 5, none⟩ = some (.int .i64 t180) ∧ w'.cell? ⟨gb157, 6, none⟩ = some (.int .i64 (wrap64 (t183 - 4))) ∧ w'.cell? ⟨gb157, 7, none⟩ = some (u158007) ∧ w'.cell? ⟨gb157, 8, none⟩ = some (u158008)) (ds := [8]) #[O, O, O, O, O, O, O, O, O] (by kernel_rfl) rfl rfl ⟨bc BK157 0, bc BK157 1, bc BK157 2, bc BK157 3, bc BK157 4, bc BK157 5, bc BK157 6, bc BK157 7, bc BK157 8⟩ (fun hHeld => ?_); refine with_tabW spec_l03DrawLayer.tab27 spec_l03DrawLayer.bits27 (fun HT_ HW_ => ?_)
              generalize wr.drew = w157 at HO_158007 HO_158008 BK149 BK150 BK157 HI0 HK HB hHeld ⊢
              refine stepP 0 (some 113) (tk 9 1) (any_of HT_.out (by kernel_rfl)) ?_
              refine stepP 2 (some 115) (tk 9 5) (any_of HT_.out (by kernel_rfl)) ?_
              refine stepT 1 (some 114) (tk 9 7) (take_ofW HT_.out HW_.out (by kernel_rfl)) hHeld ?_
              refine one_ (i := 3) (N := some 116) #[I, I, I, I, O, O, O, O, O] rfl rfl (one_of HT_.out (by kernel_rfl)) (by decide) (fun K hK => ?_)
              refine goes_ Try.func67 (by kernel_rfl) rfl #[.pointer (some ⟨g, 0, none⟩), .int .i64 400] (by rfl) rfl rfl (by (try simp only [List.map_toArray, List.map_cons, List.map_nil]); first | done | rfl | (simp only [List.length_drop, List.length_take]; rfl)) ?_
              with_reducible refine (spec_l01Below.calls g s0_0 x1001_6 x1002_6 400 t193 t194 t195 w0 _ ?side1 ?side2 A151.out).mono ?_
              (case side1 => exact is114N)
              (case side2 => exact bel_now)
              rintro e w158 ⟨rfl, hi, hb, hk⟩
              refine ⟨_, rfl, ?_⟩
              have n0_ := am (Kd.R_mono (Kd.R_keep (IsS114.apart (show IsS114 w0 _ g s0_0 x1001_6 x1002_6 from is114N) (R_at HO_158007.out) (by decide)) hk (fun _ h => h.2)) (fun _ h => h.1))
              have n1_ := am (Kd.R_mono (Kd.R_keep (IsS114.apart (show IsS114 w0 _ g s0_0 x1001_6 x1002_6 from is114N) (R_at HO_158008.out) (by decide)) hk (fun _ h => h.2)) (fun _ h => h.1))
              replace BK149 := blkK gb149 hk;replace BK150 := blkK gb150 hk;replace BK157 := blkK gb157 hk;replace HK := keep_on w hk;replace HB := am (hb);replace HI0 := am (hi);clear HO_158007 HO_158008;have HO_158007 := n0_;have HO_158008 := n1_;clear n0_ n1_;(try clear hb);(try clear hb2);(try clear hb3);(try clear hk);(try clear hi)
              refine hK.out _ _ ⟨bc BK157 0, bc BK157 1, bc BK157 2, bc BK157 3, bc BK157 4, bc BK157 5, bc BK157 6, bc BK157 7, bc BK157 8⟩ (fun hHeld => ?_)
              clear hK K
              refine normP 116 ?_
              refine stepP 4 (some 117) (tk 9 31) (any_of HT_.out (by kernel_rfl)) ?_
              refine one_ (i := 5) (N := some 118) #[I, I, I, I, I, I, O, O, O] rfl rfl (one_of HT_.out (by kernel_rfl)) (by decide) (fun K hK => ?_)
              refine value_ (w1 := ?_) (v := ?_) (by rfl) rfl ?_ ?_
              rotate_left 2
              ·go_simp
               constructor
               ·rfl
               rfl
              refine hK.out _ _ ⟨(blk_cell (blk_alloc BK157.out _) 0).trans rfl, (blk_cell (blk_alloc BK157.out _) 1).trans rfl, (blk_cell (blk_alloc BK157.out _) 2).trans rfl, (blk_cell (blk_alloc BK157.out _) 3).trans rfl, (blk_cell (blk_alloc BK157.out _) 4).trans rfl, (blk_cell (blk_alloc BK157.out _) 5).trans rfl, (blk_cell (blk_alloc BK157.out _) 6).trans rfl, (blk_cell (blk_alloc BK157.out _) 7).trans rfl, (blk_cell (blk_alloc BK157.out _) 8).trans rfl⟩ (fun hHeld => ?_)
              clear hK K
              refine normP 118 ?_
              refine one_ (i := 6) (N := some 119) #[I, I, I, I, I, I, I, O, O] rfl rfl (one_of HT_.out (by kernel_rfl)) (by decide) (fun K hK => ?_)
              refine Kd.R_append_step (Kd.int .i64) w.heap.size (by rfl) (.tmp 114) (.tmp 118) 42 3 (.int .i64 0) 8 rfl Try.underlying42 info3 rfl (by decide) (by omega) u158008 x158008_6 (wrap64 (t193 - 200)) [.int .i64 (wrap64 (t193 - 200))] (fun k_ => some k_ ≠ (u158007 : Value).ownBlock) (fun _ => False) rfl rfl ?aP (fun _ hk => hk.elim) ?aF ?aO (Below.refl _ _) ?aS ?aL ?_
              (case aP => exact rfl)
              (case aF => exact (fun k_ hk => Kd.fresh' (Kd.R_lt (R_at HO_158007.out)) k_ hk))
              (case aO => exact (R_at HO_158008.out))
              (case aS => exact (keep_size (w := w) (g := g) (row := none) keepN))
              (case aL => have := LMc152.out; omega)
              intro v197 w159 ho hb hg hat;rw [← Ny196.out] at ho;have n5_ := am (below_weaken bel_now HL.out hb);have n7_ := am (ho);replace HO_158007 := am (Kd.R_after (ok := (fun _ => True)) (R_at (Kd.R_mono HO_158007.out (fun _ hk => ⟨trivial, hk⟩))) hg hat);replace BK149 := am (blk_grown (g := gb149) blk_now hg (Kd.R_ne HO_158008.out BK149.out (by decide)));replace BK150 := am (blk_grown (g := gb150) blk_now hg (Kd.R_ne HO_158008.out BK150.out (by decide)));replace BK157 := am (blk_grown (g := gb157) blk_now hg (Kd.R_ne HO_158008.out BK157.out (by decide)));replace HI0 := am (IsS114.grown is114N hg (IsS114.own_ne HI0.out HO_158008.out (by decide)));replace HK := am (KeepBut.trans keepN (KeepBut.of_grown hg g) (Kd.R_base2 HO_158008.out));clear HB HO_158008;have HB := n5_;have HO198 := n7_;clear n5_ n7_;clear ho hb hg hat;obtain ⟨Ao160, co160, eo160⟩ := Kd.R_slice HO198.out
              (first | subst eo160 | (injection eo160 with f1_ f2_ f3_; have f4_ := f1_.symm; have f5_ := f3_.symm; clear f1_ f2_ f3_; subst f4_; subst f5_))
              refine hK.out _ _ ⟨bc BK157 0, bc BK157 1, bc BK157 2, bc BK157 3, bc BK157 4, bc BK157 5, bc BK157 6, bc BK157 7, bc BK157 8⟩ (fun hHeld => ?_)
              clear hK K
              refine normP 119 ?_
              refine stepP 7 (some 120) (tk 9 255) (any_of HT_.out (by kernel_rfl)) ?_
              refine last_ (i := 8) (N := none) #[I, I, I, I, I, I, I, I, I] rfl rfl (one_of HT_.out (by kernel_rfl)) (by decide) (fun K hK => ?_)
              have hs161 : w159.cell? ⟨gb157, 8, none⟩ = some (u158008) := (blk_cell BK157.out 8).trans rfl;have hfs161 := blk_frozen BK157.out 8;have hns161_0 := NB149_157.out;have hns161_1 := NB150_157.out;have hms161_0 := NB157_149.out;have hms161_1 := NB157_150.out
              refine skip_ (w1 := ?_) (by rfl) rfl ?_ ?_
              rotate_left
              ·go_simp
               rfl
              refine hK.out _ _ ?_
              clear hK K
              refine done_ (done_of HT_.out (by kernel_rfl)) ?_
              try go_wp2
              go_roundg k6
              case measure => have := HJ3.out; have := HJ62.out; have := HJ69.out; have := HJ116.out; have := HK5.out; have := HK6.out; omega
              case rel => exact ⟨(wrap64 (x9_6 + 1)), (t194), (t195), (y196), (.slice Ao160 y196.length co160), pv, H', ⟨by have := HJ3.out; have := HJ62.out; have := HJ69.out; have := HJ116.out; have := HK5.out; have := HK6.out; omega⟩, ⟨Kd.R_mono (R_atF HO_158007.out) (fun _ hk => hk.2)⟩, ⟨R_atF HO198.out⟩, ⟨blkN⟩, ⟨blkN⟩, ⟨blkN⟩, ⟨is114N⟩, ⟨keepN⟩, ⟨bel_now⟩⟩

end Go.Proofs.Ytjmejobelkllmaa.PFnStored
