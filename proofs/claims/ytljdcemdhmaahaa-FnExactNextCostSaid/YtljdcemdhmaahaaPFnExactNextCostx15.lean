-- Printed by the session's own program (wip/myprint.py) for this claim out of the translation. Not trusted: Lean checks it.
import Derived.Test.YtljdcemdhmaahaaPFnExactNextCostx0
import Derived.Test.YtljdcemdhmaahaaPFnExactNextCostx12
import Derived.Test.YtljdcemdhmaahaaPFnExactNextCostx14
namespace Go.Proofs.Ytljdcemdhmaahaa.PFnExactNextCost
open Go.RowKit Go.Proofs.YtljdcemdhmaahaaW.PrintWords Go.Proofs.YtljdcemdhmaahaaW.PrintLast Go.Proofs.YtljdcemdhmaahaaW.PrintMore
attribute [local go_sem] max2_int min2_int max_two min_two max_three min_three max_four min_four   -- for this text's walks alone
set_option linter.unusedVariables false
set_option linter.unusedSimpArgs false

/-! ### impl_Model_shapes: function 70 -/
def impl_Model_shapes.l0 : Nat → List (S25) → List (S73) → Int → Int → Int → Int → Int → Option ((List (S25)) × Bool)
  | 0, _, _, _, _, _, _, _ => none
  | k + 1, x4, x16, x17, x18, x348000, x348001, x348002 => if x18 < x17 then (if 0 ≤ x18 then (if x18 < (x16.length : Int) then ((impl_OutShape.f k x348000 x348001 x348002 ((rd_T73 x16 x18).f0) ((rd_T73 x16 x18).f1) ((rd_T73 x16 x18).f2) ((rd_T73 x16 x18).f3) ((rd_T73 x16 x18).f4) ((rd_T73 x16 x18).f5) ((rd_T73 x16 x18).f6) ((rd_T73 x16 x18).f7) ((rd_T73 x16 x18).f8)).bind fun bt350 => (if bt350.2.2.2 = true then (if x4.length < 5864062014805 then (impl_Model_shapes.l0 k (x4 ++ [(⟨bt350.1, bt350.2.1, bt350.2.2.1⟩ : S25)]) x16 x17 (wrap64 (x18 + 1)) bt350.1 bt350.2.1 bt350.2.2.1) else (none)) else (some (([] : List (S25)), false)))) else (none)) else (none)) else (some (x4, true))
def impl_Model_shapes.f (k : Nat) (a0_0 : Int) (a0_1 : Int) (a0_2 : Int) (l0_3 : List (S73)) : Option ((List (S25)) × Bool) := impl_Model_shapes.l0 k (([(⟨a0_0, a0_1, a0_2⟩ : S25)] : List (S25))) l0_3 (l0_3.length : Int) 0 a0_0 a0_1 a0_2
def impl_Model_shapes.T1 : Bool × List (List Nat × List Nat) := (true, [([], []), ([0], [0]), ([1], [1]), ([], []), ([3], [3]), ([], []), ([2, 0, 1, 2, 5], [2]), ([5, 4, 6, 0, 1, 2, 3, 4, 5, 6], [4, 5])])
def impl_Model_shapes.B1 : List Nat := [0, 1, 3, 0, 8, 0, 39, 127]
theorem impl_Model_shapes.tab1 : rtab .any (opsOf Try.f70 1) = impl_Model_shapes.T1 := by kernel_rfl
theorem impl_Model_shapes.bits1 : waitsOk impl_Model_shapes.T1.2 impl_Model_shapes.B1 = true := by kernel_rfl
set_option maxHeartbeats 8000000 in
set_option maxRecDepth 100000 in
theorem impl_Model_shapes.calls (k : Nat) (a0_0 : Int) (a0_1 : Int) (a0_2 : Int) (A0_3 : Option Addr) (c0_3 : Nat) (l0_3 : List (S73)) (r1 : List (S25)) (r2 : Bool) (w : World) (hr0_3 : Kd.C k73 w A0_3 l0_3.length l0_3) (hc0_3 : l0_3.length ≤ c0_3) (h : impl_Model_shapes.f k a0_0 a0_1 a0_2 l0_3 = some (r1, r2)) :
   Calls Try.prog 70 #[.agg #[.int .i64 a0_0, .int .i64 a0_1, .int .i64 a0_2, .slice A0_3 l0_3.length c0_3]] w fun e w' => ∃ v0_ : Value, e = .returned (.tuple #[v0_, .bool r2]) ∧ Kd.R k25 25 w' w.heap.size (fun _ => True) v0_ r1 ∧ Below w.heap.size w w' := by
  have hu28 := Try.underlying28
  have hu25 := Try.underlying25
  have hu73 := Try.underlying73
  have HR0_3 := Aside0.mk hr0_3
  have HC0_3 := Aside0.mk hc0_3
  clear hr0_3 hc0_3
  have HB := Aside0.mk (Below.refl w.heap.size w)
  have H : (impl_Model_shapes.l0 k (([(⟨a0_0, a0_1, a0_2⟩ : S25)] : List (S25))) l0_3 (l0_3.length : Int) 0 a0_0 a0_1 a0_2) = some (r1, r2) := h
  clear h
  obtain ⟨y344, hy344⟩ : ∃ y_ : List (S25), y_ = (([(⟨a0_0, a0_1, a0_2⟩ : S25)] : List (S25))) := ⟨_, rfl⟩
  replace H : (impl_Model_shapes.l0 k y344 l0_3 (l0_3.length : Int) 0 a0_0 a0_1 a0_2) = some (r1, r2) := by first | (rw [hy344]; with_reducible exact H) | (have H2_ := (Option.bind_some _ _).symm.trans H; rw [hy344]; with_reducible exact H2_) | (have H2_ := (Option.bind_some _ _).symm.trans H; with_reducible exact H2_) | with_reducible exact H | (rw [hy344]; exact H) | exact H
  have Ny344 := Aside0.mk hy344
  clear hy344
  have H' := Aside0.mk H
  clear H
  go_enter Try.func70, Try.ntmps70
  try go_wp2_with (first | ((with_reducible refine gate_dst (N := 1) rfl ?_); refine boxM 1 #[.int .i64 a0_0, .int .i64 a0_1, .int .i64 a0_2, .slice A0_3 l0_3.length c0_3] 28 ?_; intro gb343 hg w2 BK343 hb; replace HB := box_at w hb hg; obtain ⟨HB, GW343, GE343⟩ := HB; clear hb hg))
  replace BK343 := Aside0.mk (blk_drew BK343.out)
  replace HB := Aside0.mk (below_drew1 HB.out)
  refine start_ (n := 8) (S := fun w' => w'.cell? ⟨gb343, 0, none⟩ = some (.int .i64 a0_0) ∧ w'.cell? ⟨gb343, 1, none⟩ = some (.int .i64 a0_1) ∧ w'.cell? ⟨gb343, 2, none⟩ = some (.int .i64 a0_2) ∧ w'.cell? ⟨gb343, 3, none⟩ = some (.slice A0_3 l0_3.length c0_3)) (ds := []) #[O, O, O, O, O, O, O, O] (by kernel_rfl) rfl rfl ⟨bc BK343 0, bc BK343 1, bc BK343 2, bc BK343 3⟩ (fun hHeld => ?_); refine with_tabW impl_Model_shapes.tab1 impl_Model_shapes.bits1 (fun HT_ HW_ => ?_)
  generalize w2.drew = w3 at BK343 HB hHeld ⊢
  refine stepP 0 (some 10) (tk 8 1) (any_of HT_.out (by kernel_rfl)) ?_
  refine stepP 3 (some 13) (tk 8 9) (any_of HT_.out (by kernel_rfl)) ?_
  refine stepT 1 (some 11) (tk 8 11) (take_ofW HT_.out HW_.out (by kernel_rfl)) hHeld ?_
  refine stepT 4 (some 14) (tk 8 27) (take_ofW HT_.out HW_.out (by kernel_rfl)) hHeld ?_
  refine join_ (σ := Value × Nat) 2 #[I, I, I, I, I, I, O, O] (fun s_ => [(12, s_.1), (5, .pointer (some ⟨s_.2, 0, none⟩))]) (fun s_ w' => (w'.cell? ⟨gb343, 0, none⟩ = some (.int .i64 a0_0) ∧ w'.cell? ⟨gb343, 1, none⟩ = some (.int .i64 a0_1) ∧ w'.cell? ⟨gb343, 2, none⟩ = some (.int .i64 a0_2) ∧ w'.cell? ⟨gb343, 3, none⟩ = some (.slice A0_3 l0_3.length c0_3)) ∧ (Kd.R k25 25 w' w.heap.size (fun k_ => k_ ≠ s_.2) s_.1 y344) ∧ (w'.heap[gb343]? = some (.cells #[.int .i64 a0_0, .int .i64 a0_1, .int .i64 a0_2, .slice A0_3 l0_3.length c0_3] 28 (0, 0))) ∧ (w'.heap[s_.2]? = some (.cells #[.int .i64 0, .int .i64 0, .int .i64 0] 25 (0, 0))) ∧ (w.heap.size ≤ s_.2) ∧ (w.heap.size ≤ s_.2) ∧ (gb343 ≠ s_.2) ∧ (s_.2 ≠ gb343) ∧ (Below w.heap.size w w')) ?_ ?_
  rotate_left
  ·intro hCont
   refine two_ (i := 2) (j := 5) (Ni := some 12) (Nj := some 5) #[I, I, I, I, I, O, O, O] #[I, I, O, I, I, I, O, O] rfl rfl rfl rfl (two_of HT_.out (by kernel_rfl)) (by decide) (by decide) (fun K hK => ?_) (fun K hK => ?_)
   ·skip
    refine Kd.R_lit_step k25 _ 25 ?hg (N := 12) ?hd (xs := ([(⟨a0_0, a0_1, a0_2⟩ : S25)] : List (S25))) (inner := [.int .i64 a0_0, .int .i64 a0_1, .int .i64 a0_2]) (ok := fun _ => True) (okp := fun _ => True) ?hr ?hp (fun _ hk => hk) trivial (Below.refl _ _) (Nat.le_refl _) (by simp) ?_; (case hd => rfl); (case hg => rfl); (case hr => first | (go_simp; done) | (go_simp; rfl)); (case hp => exact (Reps.c3 (show Kd.M k25 _ _ _ (⟨a0_0, a0_1, a0_2⟩ : S25) [.int .i64 a0_0, .int .i64 a0_1, .int .i64 a0_2] from (k25_mkM _ _ _ (⟨a0_0, a0_1, a0_2⟩ : S25) )) (Reps.none _ _)))
    intro v345 w4 ho5 hb hg_ hnew_
    clear hg_ hnew_
    (first | rw [← Ny344.out] at ho5 | (simp only [Int.reduceToNat] at ho5; rw [← Ny344.out] at ho5))
    have n0_ := Aside0.mk (Kd.R_lower ho5 (below_size bel_now))
    replace BK343 := blk_on gb343 hb
    replace HB := bel_on w hb
    have HO346 := n0_
    clear n0_
    clear hb ho5
    refine hK.out _ _ ⟨bc BK343 0, bc BK343 1, bc BK343 2, bc BK343 3⟩ (fun hHeld => ?_)
    clear hK K
    refine norm_ (a' := ?_) ?_ ?_
    rotate_left
    ·show Act.put _ (some 12) _ = _
     simp only [Act.put, zA, zB, zC, i64_w, i32_w]
     rfl
    refine one_ (i := 5) (N := some 5) #[I, I, I, I, I, I, O, O] rfl rfl (one_of HT_.out (by kernel_rfl)) (by decide) (fun K hK => ?_)
    refine box_step ?hg (N := 5) ?hd (cs := #[.int .i64 0, .int .i64 0, .int .i64 0]) (t := 25) ?hr ?_; (case hd => rfl); (case hg => rfl); (case hr => first | (go_simp; done) | (go_simp; rfl))
    intro gb347 hg w6 hbox hb
    have n3_ := Aside0.mk (hbox)
    have n4_ := Aside0.mk ((by rw [hg]; exact (below_size bel_now) : w.heap.size ≤ gb347))
    have n5_ := Aside0.mk ((by rw [hg]; exact (below_size bel_now) : w.heap.size ≤ gb347))
    have n6_ := Aside0.mk ((by rw [hg]; exact Nat.ne_of_lt (blk_lt (g := gb343) blk_now) : gb343 ≠ gb347))
    have n7_ := Aside0.mk ((by rw [hg]; exact Nat.ne_of_gt (blk_lt (g := gb343) blk_now) : gb347 ≠ gb343))
    replace HO346 := Aside0.mk (Kd.R_below (Kd.R_elderB (R_at HO346.out) gb347 (Nat.le_of_eq hg.symm)) hb)
    replace BK343 := blk_on gb343 hb
    replace HB := bel_on w hb
    have BK347 := n3_
    have GW347 := n4_
    have GE347 := n5_
    have NB343_347 := n6_
    have NB347_343 := n7_
    clear n3_ n4_ n5_ n6_ n7_
    clear hb hbox hg
    refine hK.out _ _ ⟨bc BK343 0, bc BK343 1, bc BK343 2, bc BK343 3⟩ (fun hHeld => ?_)
    clear hK K
    refine norm_ (a' := ?_) ?_ ?_
    rotate_left
    ·show Act.put _ (some 5) _ = _
     simp only [Act.put, zA, zB, zC, i64_w, i32_w]
     rfl
    exact norm_ (by simp only [putAll, Act.put, zA, zB, zC]) (hCont (v345, gb347) _ ⟨hHeld, (R_at (Kd.R_mono HO346.out (fun _ hk => by first | exact hk.2 | exact trivial))), blk_now, blk_now, GW347.out, GE347.out, NB343_347.out, NB347_343.out, bel_now⟩)
   ·skip
    refine box_step ?hg (N := 5) ?hd (cs := #[.int .i64 0, .int .i64 0, .int .i64 0]) (t := 25) ?hr ?_; (case hd => rfl); (case hg => rfl); (case hr => first | (go_simp; done) | (go_simp; rfl))
    intro gb347 hg w4 hbox hb
    have n2_ := Aside0.mk (hbox)
    have n3_ := Aside0.mk ((by rw [hg]; exact (below_size bel_now) : w.heap.size ≤ gb347))
    have n4_ := Aside0.mk ((by rw [hg]; exact (below_size bel_now) : w.heap.size ≤ gb347))
    have n5_ := Aside0.mk ((by rw [hg]; exact Nat.ne_of_lt (blk_lt (g := gb343) blk_now) : gb343 ≠ gb347))
    have n6_ := Aside0.mk ((by rw [hg]; exact Nat.ne_of_gt (blk_lt (g := gb343) blk_now) : gb347 ≠ gb343))
    replace BK343 := blk_on gb343 hb
    replace HB := bel_on w hb
    have BK347 := n2_
    have GW347 := n3_
    have GE347 := n4_
    have NB343_347 := n5_
    have NB347_343 := n6_
    clear n2_ n3_ n4_ n5_ n6_
    clear hb hbox hg
    refine hK.out _ _ ⟨bc BK343 0, bc BK343 1, bc BK343 2, bc BK343 3⟩ (fun hHeld => ?_)
    clear hK K
    refine norm_ (a' := ?_) ?_ ?_
    rotate_left
    ·show Act.put _ (some 5) _ = _
     simp only [Act.put, zA, zB, zC, i64_w, i32_w]
     rfl
    refine one_ (i := 2) (N := some 12) #[I, I, I, I, I, I, O, O] rfl rfl (one_of HT_.out (by kernel_rfl)) (by decide) (fun K hK => ?_)
    refine Kd.R_lit_step k25 _ 25 ?hg (N := 12) ?hd (xs := ([(⟨a0_0, a0_1, a0_2⟩ : S25)] : List (S25))) (inner := [.int .i64 a0_0, .int .i64 a0_1, .int .i64 a0_2]) (ok := fun _ => True) (okp := fun _ => True) ?hr ?hp (fun _ hk => hk) trivial (Below.refl _ _) (Nat.le_refl _) (by simp) ?_; (case hd => rfl); (case hg => rfl); (case hr => first | (go_simp; done) | (go_simp; rfl)); (case hp => exact (Reps.c3 (show Kd.M k25 _ _ _ (⟨a0_0, a0_1, a0_2⟩ : S25) [.int .i64 a0_0, .int .i64 a0_1, .int .i64 a0_2] from (k25_mkM _ _ _ (⟨a0_0, a0_1, a0_2⟩ : S25) )) (Reps.none _ _)))
    intro v345 w5 ho6 hb hg_ hnew_
    clear hg_ hnew_
    (first | rw [← Ny344.out] at ho6 | (simp only [Int.reduceToNat] at ho6; rw [← Ny344.out] at ho6))
    have n0_ := Aside0.mk (Kd.R_lower (Kd.R_newB ho6 (g := gb347) blk_now) (below_size bel_now))
    replace BK343 := blk_on gb343 hb
    replace BK347 := blk_on gb347 hb
    replace HB := bel_on w hb
    have HO346 := n0_
    clear n0_
    clear hb ho6
    refine hK.out _ _ ⟨bc BK343 0, bc BK343 1, bc BK343 2, bc BK343 3⟩ (fun hHeld => ?_)
    clear hK K
    refine norm_ (a' := ?_) ?_ ?_
    rotate_left
    ·show Act.put _ (some 12) _ = _
     simp only [Act.put, zA, zB, zC, i64_w, i32_w]
     rfl
    exact norm_ (by simp only [putAll, Act.put, zA, zB, zC]) (hCont (v345, gb347) _ ⟨hHeld, (R_at (Kd.R_mono HO346.out (fun _ hk => by first | exact hk.2 | exact trivial))), blk_now, blk_now, GW347.out, GE347.out, NB343_347.out, NB347_343.out, bel_now⟩)
  rintro ⟨v345, gb347⟩ w7 ⟨hS_, h0_, h1_, h2_, h3_, h4_, h5_, h6_, h7_⟩
  have n0_ : Aside0 (Kd.R k25 25 w7 w.heap.size (fun k_ => k_ ≠ gb347) v345 y344) := ⟨h0_⟩
  have n1_ : Aside0 (w7.heap[gb343]? = some (.cells #[.int .i64 a0_0, .int .i64 a0_1, .int .i64 a0_2, .slice A0_3 l0_3.length c0_3] 28 (0, 0))) := ⟨h1_⟩
  have n2_ : Aside0 (w7.heap[gb347]? = some (.cells #[.int .i64 0, .int .i64 0, .int .i64 0] 25 (0, 0))) := ⟨h2_⟩
  have n3_ : Aside0 (w.heap.size ≤ gb347) := ⟨h3_⟩
  have n4_ : Aside0 (w.heap.size ≤ gb347) := ⟨h4_⟩
  have n5_ : Aside0 (gb343 ≠ gb347) := ⟨h5_⟩
  have n6_ : Aside0 (gb347 ≠ gb343) := ⟨h6_⟩
  have n7_ : Aside0 (Below w.heap.size w w7) := ⟨h7_⟩
  clear BK343
  clear HB
  clear h0_ h1_ h2_ h3_ h4_ h5_ h6_ h7_
  have HO346 := n0_
  have BK343 := n1_
  have BK347 := n2_
  have GW347 := n3_
  have GE347 := n4_
  have NB343_347 := n5_
  have NB347_343 := n6_
  have HB := n7_
  clear n0_ n1_ n2_ n3_ n4_ n5_ n6_ n7_
  have hHeld : w7.cell? ⟨gb343, 0, none⟩ = some (.int .i64 a0_0) ∧ w7.cell? ⟨gb343, 1, none⟩ = some (.int .i64 a0_1) ∧ w7.cell? ⟨gb343, 2, none⟩ = some (.int .i64 a0_2) ∧ w7.cell? ⟨gb343, 3, none⟩ = some (.slice A0_3 l0_3.length c0_3) := hS_
  refine norm_ (a' := ?_) ?_ ?_
  rotate_left
  ·simp only [putAll, Act.put, zA, zB, zC]
   rfl
  refine stepP 6 (some 4) (tk 8 127) (any_of HT_.out (by kernel_rfl)) ?_
  refine one_ (i := 7) (N := none) #[I, I, I, I, I, I, I, I] rfl rfl (one_of HT_.out (by kernel_rfl)) (by decide) (fun K hK => ?_)
  have hs8 : w7.cell? ⟨gb347, 0, none⟩ = some (.int .i64 0) := (blk_cell BK347.out 0).trans rfl
  have hfs8 := blk_frozen BK347.out 0
  have hns8_0 := NB343_347.out
  have hms8_0 := NB347_343.out
  have hs9 : w7.cell? ⟨gb347, 1, none⟩ = some (.int .i64 0) := (blk_cell BK347.out 1).trans rfl
  have hfs9 := blk_frozen BK347.out 1
  have hns9_0 := NB343_347.out
  have hms9_0 := NB347_343.out
  have hs10 : w7.cell? ⟨gb347, 2, none⟩ = some (.int .i64 0) := (blk_cell BK347.out 2).trans rfl
  have hfs10 := blk_frozen BK347.out 2
  have hns10_0 := NB343_347.out
  have hms10_0 := NB347_343.out
  refine skip_ (w1 := ?_) (by rfl) rfl ?_ ?_
  rotate_left
  ·go_simp
   rfl
  refine hK.out _ _ ⟨((cell_far (p := ⟨gb347, _, none⟩) NB343_347.out _).trans (((cell_far (p := ⟨gb347, _, none⟩) NB343_347.out _).trans (((cell_far (p := ⟨gb347, _, none⟩) NB343_347.out _).trans (hHeld.1)))))), ((cell_far (p := ⟨gb347, _, none⟩) NB343_347.out _).trans (((cell_far (p := ⟨gb347, _, none⟩) NB343_347.out _).trans (((cell_far (p := ⟨gb347, _, none⟩) NB343_347.out _).trans (hHeld.2.1)))))), ((cell_far (p := ⟨gb347, _, none⟩) NB343_347.out _).trans (((cell_far (p := ⟨gb347, _, none⟩) NB343_347.out _).trans (((cell_far (p := ⟨gb347, _, none⟩) NB343_347.out _).trans (hHeld.2.2.1)))))), ((cell_far (p := ⟨gb347, _, none⟩) NB343_347.out _).trans (((cell_far (p := ⟨gb347, _, none⟩) NB343_347.out _).trans (((cell_far (p := ⟨gb347, _, none⟩) NB343_347.out _).trans (hHeld.2.2.2))))))⟩ (fun hHeld => ?_)
  clear hK K
  refine done_ (done_of HT_.out (by kernel_rfl)) ?_
  have hnb11 := NB343_347.out
  have hnc11 := NB347_343.out
  obtain ⟨hcz12_0, hcz12_1, hcz12_2, hcz12_3, hfz12_0, hfz12_1, hfz12_2, hfz12_3⟩ := cells4 BK343.out
  try go_wp2
  go_loopg [4, 18] k (fun kq v4 v18 w' => ∃ (x4_1 : List (S25)) (x18_1 : Int) (x348000_1 : Int) (x348001_1 : Int) (x348002_1 : Int), v18 = .int .i64 x18_1 ∧ Aside0 (impl_Model_shapes.l0 kq x4_1 l0_3 (l0_3.length : Int) x18_1 x348000_1 x348001_1 x348002_1 = some (r1, r2)) ∧ Aside0 (kq ≤ k) ∧ Aside0 (Kd.R k25 25 w' w.heap.size (fun k_ => k_ ≠ gb347) v4 x4_1) ∧ Aside0 (w'.heap[gb343]? = some (.cells #[.int .i64 a0_0, .int .i64 a0_1, .int .i64 a0_2, (.slice A0_3 l0_3.length c0_3)] 28 (0, 0))) ∧ Aside0 (w'.heap[gb347]? = some (.cells #[.int .i64 x348000_1, .int .i64 x348001_1, .int .i64 x348002_1] 25 (0, 0))) ∧ Aside0 (Below w.heap.size w w'))
  case atStart => exact ⟨(y344), (0), (a0_0), (a0_1), (a0_2), (by first | rfl | (simp; done) | (simp [*]; done)), H', ⟨Nat.le_refl _⟩, ⟨by (with_reducible repeat (first | apply Kd.R_alloc | apply Kd.R_drewN | apply Kd.R_drew)); exact Kd.R_mono (Kd.R_far (p := ⟨gb347, 2, none⟩) (Kd.R_far (p := ⟨gb347, 1, none⟩) (Kd.R_far (p := ⟨gb347, 0, none⟩) (Kd.R_mono HO346.out (fun k_ hk => (⟨hk, hk⟩ : _ ∧ k_ ≠ gb347))) (fun _ hk => hk.2) (.int .i64 a0_0)) (fun _ hk => hk.2) (.int .i64 a0_1)) (fun _ hk => hk.2) (.int .i64 a0_2)) (fun _ hk => hk.1)⟩, ⟨by (with_reducible repeat (first | refine blk_drewN ?_ _ | refine blk_drew ?_ | refine blk_alloc ?_ _)); refine blk_far ?_ NB343_347.out _; (with_reducible repeat (first | refine blk_drewN ?_ _ | refine blk_drew ?_ | refine blk_alloc ?_ _)); refine blk_far ?_ NB343_347.out _; (with_reducible repeat (first | refine blk_drewN ?_ _ | refine blk_drew ?_ | refine blk_alloc ?_ _)); refine blk_far ?_ NB343_347.out _; (with_reducible repeat (first | refine blk_drewN ?_ _ | refine blk_drew ?_ | refine blk_alloc ?_ _)); exact BK343.out⟩, ⟨by (with_reducible repeat (first | refine blk_drewN ?_ _ | refine blk_drew ?_ | refine blk_alloc ?_ _)); refine blk_put (cs := #[.int .i64 a0_0, .int .i64 a0_1, .int .i64 0]) ?_ 2 _ rfl; (with_reducible repeat (first | refine blk_drewN ?_ _ | refine blk_drew ?_ | refine blk_alloc ?_ _)); refine blk_put (cs := #[.int .i64 a0_0, .int .i64 0, .int .i64 0]) ?_ 1 _ rfl; (with_reducible repeat (first | refine blk_drewN ?_ _ | refine blk_drew ?_ | refine blk_alloc ?_ _)); refine blk_put (cs := #[.int .i64 0, .int .i64 0, .int .i64 0]) ?_ 0 _ rfl; (with_reducible repeat (first | refine blk_drewN ?_ _ | refine blk_drew ?_ | refine blk_alloc ?_ _)); exact BK347.out⟩, ⟨bel_now⟩⟩
  case round =>
   clear H'
   try clear c1
   try clear p2
   try clear c3
   try clear c7
   try clear c11
   try clear hcz12_0 hcz12_1 hcz12_2 hcz12_3 hfz12_0 hfz12_1 hfz12_2 hfz12_3
   obtain ⟨x4_1, x18_1, x348000_1, x348001_1, x348002_1, rfl, HA, HK1, HO_4, BK343, BK347, HB⟩ := hrel
   cases gk with
   | zero => exact absurd HA.out (by simp [impl_Model_shapes.l0])
   | succ k1 =>
    have H := HA.out
    clear HA
    simp only [impl_Model_shapes.l0] at H
    by_cases c13 : x18_1 < (l0_3.length : Int)
    ·rw [if_pos c13] at H
     have c13b0 : decide (x18_1 < (l0_3.length : Int)) = true := decide_eq_true c13
     clear c13
     by_cases c14 : 0 ≤ x18_1
     ·rw [if_pos c14] at H
      have c14b0 : decide (0 ≤ x18_1) = true := decide_eq_true c14
      clear c14
      by_cases c15 : x18_1 < (l0_3.length : Int)
      ·rw [if_pos c15] at H
       have c15b0 : decide (x18_1 < (l0_3.length : Int)) = true := decide_eq_true c15
       clear c15
       replace H := Option.bind_eq_some_iff.mp H
       obtain ⟨⟨t350, t351, t352, t353⟩, A160, H⟩ := H
       (try dsimp only at H)
       have A16 := Aside0.mk A160
       clear A160
       by_cases c17 : t353 = true
       ·subst c17
        rw [if_pos rfl] at H
        by_cases c18 : x4_1.length < 5864062014805
        ·rw [if_pos c18] at H
         have LMc18 := Aside0.mk c18
         clear c18
         obtain ⟨y355, hy355⟩ : ∃ y_ : List (S25), y_ = (x4_1 ++ [(⟨t350, t351, t352⟩ : S25)]) := ⟨_, rfl⟩
         replace H : (impl_Model_shapes.l0 k1 y355 l0_3 (l0_3.length : Int) (wrap64 (x18_1 + 1)) t350 t351 t352) = some (r1, r2) := by first | (rw [hy355]; with_reducible exact H) | (have H2_ := (Option.bind_some _ _).symm.trans H; rw [hy355]; with_reducible exact H2_) | (have H2_ := (Option.bind_some _ _).symm.trans H; with_reducible exact H2_) | with_reducible exact H | (rw [hy355]; exact H) | exact H
         have Ny355 := Aside0.mk hy355
         clear hy355
         have H' := Aside0.mk H
         clear H
         have p348 : 0 ≤ (x18_1 : Int) := of_decide_eq_true (by first | (with_reducible assumption) | assumption)
         have q348 : x18_1 < (l0_3.length : Int) := of_decide_eq_true (by first | (with_reducible assumption) | assumption)
         obtain ⟨ad348, A348_7, c348_7, A348_8, c348_8, e348, hx348_0, hx348_1, hx348_2, hx348_3, hx348_4, hx348_5, hx348_6, hx348_7, hx348_8, hl348_7, hi348_7, hl348_8, hi348_8⟩ := at_T73 HR0_3.out x18_1 p348 q348
         cases e348
         replace hx348_0 := (HB.out.cell (World.block_lt_of_cell? w _ hx348_0)).trans hx348_0
         replace hx348_1 := (HB.out.cell (World.block_lt_of_cell? w _ hx348_1)).trans hx348_1
         replace hx348_2 := (HB.out.cell (World.block_lt_of_cell? w _ hx348_2)).trans hx348_2
         replace hx348_3 := (HB.out.cell (World.block_lt_of_cell? w _ hx348_3)).trans hx348_3
         replace hx348_4 := (HB.out.cell (World.block_lt_of_cell? w _ hx348_4)).trans hx348_4
         replace hx348_5 := (HB.out.cell (World.block_lt_of_cell? w _ hx348_5)).trans hx348_5
         replace hx348_6 := (HB.out.cell (World.block_lt_of_cell? w _ hx348_6)).trans hx348_6
         replace hx348_7 := (HB.out.cell (World.block_lt_of_cell? w _ hx348_7)).trans hx348_7
         replace hx348_8 := (HB.out.cell (World.block_lt_of_cell? w _ hx348_8)).trans hx348_8
         have HR348_7 := Aside0.mk hi348_7
         have HC348_7 := Aside0.mk hl348_7
         clear hi348_7 hl348_7
         have HR348_8 := Aside0.mk hi348_8
         have HC348_8 := Aside0.mk hl348_8
         clear hi348_8 hl348_8
         replace p348 := eq_true p348
         replace q348 := eq_true q348
         go_wp2_with (first | ((with_reducible refine gate_dst (N := 7) rfl ?_); refine boxM 7 #[.int .i64 0, .int .i64 0, .int .i64 0, .int .i64 0, .int .i64 0, .int .i64 0, .int .i64 0, .slice none 0 0, .slice none 0 0] 73 ?_; intro gb349 hg w19 BK349 hb; replace HB := box_at w hb hg; obtain ⟨HB, GW349, GE349⟩ := HB; replace BK343 := box_on gb343 hb hg; obtain ⟨BK343, NB343_349, NB349_343⟩ := BK343; replace BK347 := box_on gb347 hb hg; obtain ⟨BK347, NB347_349, NB349_347⟩ := BK347; replace HO_4 := Aside0.mk (Kd.R_below (R_at HO_4.out) hb); clear hb hg; have hnb20 := NB349_343.out; have hnc20 := NB343_349.out; have hnb21 := NB349_347.out; have hnc21 := NB347_349.out; obtain ⟨hcz22_0, hcz22_1, hcz22_2, hcz22_3, hcz22_4, hcz22_5, hcz22_6, hcz22_7, hcz22_8, hfz22_0, hfz22_1, hfz22_2, hfz22_3, hfz22_4, hfz22_5, hfz22_6, hfz22_7, hfz22_8⟩ := cells9 BK349.out; have hnb23 := NB347_343.out; have hnc23 := NB343_347.out; obtain ⟨hcz24_0, hcz24_1, hcz24_2, hfz24_0, hfz24_1, hfz24_2⟩ := cells3 BK347.out) | ((with_reducible refine gate_callee (f := 100) rfl ?_); refine goesM (some 25) rfl rfl Try.func100 (by kernel_rfl) rfl #[.agg #[.int .i64 x348000_1, .int .i64 x348001_1, .int .i64 x348002_1], .agg #[.int .i64 ((rd_T73 l0_3 x18_1).f0), .int .i64 ((rd_T73 l0_3 x18_1).f1), .int .i64 ((rd_T73 l0_3 x18_1).f2), .int .i64 ((rd_T73 l0_3 x18_1).f3), .int .i64 ((rd_T73 l0_3 x18_1).f4), .int .i64 ((rd_T73 l0_3 x18_1).f5), .int .i64 ((rd_T73 l0_3 x18_1).f6), .slice A348_7 ((rd_T73 l0_3 x18_1).f7).length c348_7, .slice A348_8 ((rd_T73 l0_3 x18_1).f8).length c348_8]] rfl ?_; (with_reducible refine (impl_OutShape.calls k1 x348000_1 x348001_1 x348002_1 ((rd_T73 l0_3 x18_1).f0) ((rd_T73 l0_3 x18_1).f1) ((rd_T73 l0_3 x18_1).f2) ((rd_T73 l0_3 x18_1).f3) ((rd_T73 l0_3 x18_1).f4) ((rd_T73 l0_3 x18_1).f5) ((rd_T73 l0_3 x18_1).f6) _ _ ((rd_T73 l0_3 x18_1).f7) _ _ ((rd_T73 l0_3 x18_1).f8) t350 t351 t352 true _ ?side1 ?side2 ?side3 ?side4 A16.out).mono ?_); (case side1 => exact C_now HR348_7.out); (case side2 => exact HC348_7.out); (case side3 => exact C_now HR348_8.out); (case side4 => exact HC348_8.out); rintro e w25 ⟨rfl, hb⟩; refine ⟨_, rfl, ?_⟩; have n0_ := Aside0.mk (Kd.R_below (R_at (R_far9 HO_4.out BK349.out (by decide))) hb); replace HB := bel_on w hb; replace BK343 := Aside0.mk (blk_below (g := gb343) (o := .cells #[.int .i64 a0_0, .int .i64 a0_1, .int .i64 a0_2, .slice (some ad348) l0_3.length c0_3] 28 (0, 0)) (blk_fars BK343.out) hb); replace BK347 := Aside0.mk (blk_below (g := gb347) (o := .cells #[.int .i64 x348000_1, .int .i64 x348001_1, .int .i64 x348002_1] 25 (0, 0)) (blk_fars BK347.out) hb); replace BK349 := Aside0.mk (blk_below (g := gb349) (o := .cells #[.int .i64 ((rd_T73 l0_3 x18_1).f0), .int .i64 ((rd_T73 l0_3 x18_1).f1), .int .i64 ((rd_T73 l0_3 x18_1).f2), .int .i64 ((rd_T73 l0_3 x18_1).f3), .int .i64 ((rd_T73 l0_3 x18_1).f4), .int .i64 ((rd_T73 l0_3 x18_1).f5), .int .i64 ((rd_T73 l0_3 x18_1).f6), .slice A348_7 ((rd_T73 l0_3 x18_1).f7).length c348_7, .slice A348_8 ((rd_T73 l0_3 x18_1).f8).length c348_8] 73 (0, 0)) (by (with_reducible repeat (first | refine blk_drewN ?_ _ | refine blk_drew ?_ | refine blk_alloc ?_ _)); first | exact putl9 BK349.out | exact blk_fars (putl9 BK349.out)) hb); clear HO_4; have HO_4 := n0_; clear n0_; (try clear hb)) | ((with_reducible refine gate_dst (N := 8) rfl ?_); refine boxM 8 #[.int .i64 0, .int .i64 0, .int .i64 0] 25 ?_; intro gb354 hg w26 BK354 hb; replace HB := box_at w hb hg; obtain ⟨HB, GW354, GE354⟩ := HB; replace BK343 := box_on gb343 hb hg; obtain ⟨BK343, NB343_354, NB354_343⟩ := BK343; replace BK347 := box_on gb347 hb hg; obtain ⟨BK347, NB347_354, NB354_347⟩ := BK347; replace BK349 := box_on gb349 hb hg; obtain ⟨BK349, NB349_354, NB354_349⟩ := BK349; replace HO_4 := Aside0.mk (Kd.R_below (Kd.R_elderB (R_at HO_4.out) gb354 (Nat.le_of_eq hg.symm)) hb); clear hb hg; have hnb27 := NB354_343.out; have hnc27 := NB343_354.out; have hnb28 := NB354_347.out; have hnc28 := NB347_354.out; have hnb29 := NB354_349.out; have hnc29 := NB349_354.out; obtain ⟨hcz30_0, hcz30_1, hcz30_2, hfz30_0, hfz30_1, hfz30_2⟩ := cells3 BK354.out; obtain ⟨hcz31_0, hcz31_1, hcz31_2, hfz31_0, hfz31_1, hfz31_2⟩ := cells3 BK347.out) | ((with_reducible refine gate_builtin (b := .append) (xs := #[.tmp 31, .tmp 33]) rfl ?_); at_builtin; refine Kd.R_append k25 (w0 := w) w.heap.size rfl (.tmp 31) (.tmp 33) 44 25 (.agg #[(.int .i64 0), (.int .i64 0), (.int .i64 0)]) 24 rfl Try.underlying44 info25 rfl (by decide) (by omega) u4 x4_1 (⟨t350, t351, t352⟩ : S25) [.int .i64 t350, .int .i64 t351, .int .i64 t352] (fun k_ => k_ ≠ gb347 ∧ k_ ≠ gb354) (fun _ => False) rfl (by first | (go_simp; done) | (go_simp; rfl)) ?aP (fun _ hk => hk.elim) ?aF ?aO ?aB ?aS ?aL ?_; (case aP => exact k25_mkM _ _ _ (⟨t350, t351, t352⟩ : S25)); (case aB => exact bel_now); (case aF => exact (fun k_ hk => ⟨Kd.freshB (g := gb347) (o := .cells #[.int .i64 t350, .int .i64 t351, .int .i64 t352] 25 (0, 0)) (by (with_reducible repeat (first | refine blk_drewN ?_ _ | refine blk_drew ?_ | refine blk_alloc ?_ _)); refine blk_put (cs := #[.int .i64 t350, .int .i64 t351, .int .i64 x348002_1]) ?_ 2 _ rfl; (with_reducible repeat (first | refine blk_drewN ?_ _ | refine blk_drew ?_ | refine blk_alloc ?_ _)); refine blk_put (cs := #[.int .i64 t350, .int .i64 x348001_1, .int .i64 x348002_1]) ?_ 1 _ rfl; (with_reducible repeat (first | refine blk_drewN ?_ _ | refine blk_drew ?_ | refine blk_alloc ?_ _)); refine blk_put (cs := #[.int .i64 x348000_1, .int .i64 x348001_1, .int .i64 x348002_1]) ?_ 0 _ rfl; (with_reducible repeat (first | refine blk_drewN ?_ _ | refine blk_drew ?_ | refine blk_alloc ?_ _)); refine blk_far ?_ NB347_354.out _; (with_reducible repeat (first | refine blk_drewN ?_ _ | refine blk_drew ?_ | refine blk_alloc ?_ _)); refine blk_far ?_ NB347_354.out _; (with_reducible repeat (first | refine blk_drewN ?_ _ | refine blk_drew ?_ | refine blk_alloc ?_ _)); refine blk_far ?_ NB347_354.out _; (with_reducible repeat (first | refine blk_drewN ?_ _ | refine blk_drew ?_ | refine blk_alloc ?_ _)); exact BK347.out) k_ hk, Kd.freshB (g := gb354) (o := .cells #[.int .i64 t350, .int .i64 t351, .int .i64 t352] 25 (0, 0)) (by (with_reducible repeat (first | refine blk_drewN ?_ _ | refine blk_drew ?_ | refine blk_alloc ?_ _)); refine blk_far ?_ NB354_347.out _; (with_reducible repeat (first | refine blk_drewN ?_ _ | refine blk_drew ?_ | refine blk_alloc ?_ _)); refine blk_far ?_ NB354_347.out _; (with_reducible repeat (first | refine blk_drewN ?_ _ | refine blk_drew ?_ | refine blk_alloc ?_ _)); refine blk_far ?_ NB354_347.out _; (with_reducible repeat (first | refine blk_drewN ?_ _ | refine blk_drew ?_ | refine blk_alloc ?_ _)); refine blk_put (cs := #[.int .i64 t350, .int .i64 t351, .int .i64 0]) ?_ 2 _ rfl; (with_reducible repeat (first | refine blk_drewN ?_ _ | refine blk_drew ?_ | refine blk_alloc ?_ _)); refine blk_put (cs := #[.int .i64 t350, .int .i64 0, .int .i64 0]) ?_ 1 _ rfl; (with_reducible repeat (first | refine blk_drewN ?_ _ | refine blk_drew ?_ | refine blk_alloc ?_ _)); refine blk_put (cs := #[.int .i64 0, .int .i64 0, .int .i64 0]) ?_ 0 _ rfl; (with_reducible repeat (first | refine blk_drewN ?_ _ | refine blk_drew ?_ | refine blk_alloc ?_ _)); exact BK354.out) k_ hk⟩)); (case aO => exact (R_at (Kd.R_mono (Kd.R_far (p := ⟨gb347, 2, none⟩) (Kd.R_far (p := ⟨gb347, 1, none⟩) (Kd.R_far (p := ⟨gb347, 0, none⟩) (Kd.R_far (p := ⟨gb354, 2, none⟩) (Kd.R_far (p := ⟨gb354, 1, none⟩) (Kd.R_far (p := ⟨gb354, 0, none⟩) (Kd.R_mono (Kd.R_mono HO_4.out (fun k_ hk => (⟨hk, hk.2⟩ : _ ∧ k_ ≠ gb354))) (fun k_ hk => (⟨hk, hk.1.1⟩ : _ ∧ k_ ≠ gb347))) (fun _ hk => hk.1.2) (.int .i64 t350)) (fun _ hk => hk.1.2) (.int .i64 t351)) (fun _ hk => hk.1.2) (.int .i64 t352)) (fun _ hk => hk.2) (.int .i64 t350)) (fun _ hk => hk.2) (.int .i64 t351)) (fun _ hk => hk.2) (.int .i64 t352)) (fun _ hk => ⟨hk.1.1.1, hk.1.1.2⟩)))); (case aS => exact (below_size bel_now)); (case aL => have := LMc18.out; omega); intro v356 w32 ho hb hg hat; rw [← Ny355.out] at ho; have n0_ := Aside0.mk (blk_grown (g := gb343) (o := .cells #[.int .i64 a0_0, .int .i64 a0_1, .int .i64 a0_2, .slice (some ad348) l0_3.length c0_3] 28 (0, 0)) (blk_fars BK343.out) hg (Kd.R_ne HO_4.out BK343.out (by decide))); have n1_ := Aside0.mk (blk_grown (g := gb347) (o := .cells #[.int .i64 t350, .int .i64 t351, .int .i64 t352] 25 (0, 0)) (by (with_reducible repeat (first | refine blk_drewN ?_ _ | refine blk_drew ?_ | refine blk_alloc ?_ _)); refine blk_put (cs := #[.int .i64 t350, .int .i64 t351, .int .i64 x348002_1]) ?_ 2 _ rfl; (with_reducible repeat (first | refine blk_drewN ?_ _ | refine blk_drew ?_ | refine blk_alloc ?_ _)); refine blk_put (cs := #[.int .i64 t350, .int .i64 x348001_1, .int .i64 x348002_1]) ?_ 1 _ rfl; (with_reducible repeat (first | refine blk_drewN ?_ _ | refine blk_drew ?_ | refine blk_alloc ?_ _)); refine blk_put (cs := #[.int .i64 x348000_1, .int .i64 x348001_1, .int .i64 x348002_1]) ?_ 0 _ rfl; (with_reducible repeat (first | refine blk_drewN ?_ _ | refine blk_drew ?_ | refine blk_alloc ?_ _)); refine blk_far ?_ NB347_354.out _; (with_reducible repeat (first | refine blk_drewN ?_ _ | refine blk_drew ?_ | refine blk_alloc ?_ _)); refine blk_far ?_ NB347_354.out _; (with_reducible repeat (first | refine blk_drewN ?_ _ | refine blk_drew ?_ | refine blk_alloc ?_ _)); refine blk_far ?_ NB347_354.out _; (with_reducible repeat (first | refine blk_drewN ?_ _ | refine blk_drew ?_ | refine blk_alloc ?_ _)); exact BK347.out) hg (Kd.R_away HO_4.out (fun _ hk => hk.1))); have n2_ := Aside0.mk (blk_grown (g := gb349) (o := .cells #[.int .i64 ((rd_T73 l0_3 x18_1).f0), .int .i64 ((rd_T73 l0_3 x18_1).f1), .int .i64 ((rd_T73 l0_3 x18_1).f2), .int .i64 ((rd_T73 l0_3 x18_1).f3), .int .i64 ((rd_T73 l0_3 x18_1).f4), .int .i64 ((rd_T73 l0_3 x18_1).f5), .int .i64 ((rd_T73 l0_3 x18_1).f6), .slice A348_7 ((rd_T73 l0_3 x18_1).f7).length c348_7, .slice A348_8 ((rd_T73 l0_3 x18_1).f8).length c348_8] 73 (0, 0)) (blk_fars BK349.out) hg (Kd.R_ne HO_4.out BK349.out (by decide))); have n3_ := Aside0.mk (blk_grown (g := gb354) (o := .cells #[.int .i64 t350, .int .i64 t351, .int .i64 t352] 25 (0, 0)) (by (with_reducible repeat (first | refine blk_drewN ?_ _ | refine blk_drew ?_ | refine blk_alloc ?_ _)); refine blk_far ?_ NB354_347.out _; (with_reducible repeat (first | refine blk_drewN ?_ _ | refine blk_drew ?_ | refine blk_alloc ?_ _)); refine blk_far ?_ NB354_347.out _; (with_reducible repeat (first | refine blk_drewN ?_ _ | refine blk_drew ?_ | refine blk_alloc ?_ _)); refine blk_far ?_ NB354_347.out _; (with_reducible repeat (first | refine blk_drewN ?_ _ | refine blk_drew ?_ | refine blk_alloc ?_ _)); refine blk_put (cs := #[.int .i64 t350, .int .i64 t351, .int .i64 0]) ?_ 2 _ rfl; (with_reducible repeat (first | refine blk_drewN ?_ _ | refine blk_drew ?_ | refine blk_alloc ?_ _)); refine blk_put (cs := #[.int .i64 t350, .int .i64 0, .int .i64 0]) ?_ 1 _ rfl; (with_reducible repeat (first | refine blk_drewN ?_ _ | refine blk_drew ?_ | refine blk_alloc ?_ _)); refine blk_put (cs := #[.int .i64 0, .int .i64 0, .int .i64 0]) ?_ 0 _ rfl; (with_reducible repeat (first | refine blk_drewN ?_ _ | refine blk_drew ?_ | refine blk_alloc ?_ _)); exact BK354.out) hg (Kd.R_away HO_4.out (fun _ hk => hk.2))); have n4_ := Aside0.mk (hb); have n5_ := Aside0.mk (ho); clear BK343; clear BK347; clear BK349; clear BK354; clear HB; clear HO_4; have BK343 := n0_; have BK347 := n1_; have BK349 := n2_; have BK354 := n3_; have HB := n4_; have HO357 := n5_; clear n0_ n1_ n2_ n3_ n4_ n5_; clear ho hb hg hat))
         go_roundg k1
         case measure => have := HK1.out; omega
         case rel => exact ⟨(y355), (wrap64 (x18_1 + 1)), (t350), (t351), (t352), (by first | rfl | (simp; done) | (simp [*]; done)), H', ⟨by have := HK1.out; omega⟩, ⟨by (with_reducible repeat (first | apply Kd.R_alloc | apply Kd.R_drewN | apply Kd.R_drew)); exact Kd.R_mono HO357.out (fun _ hk => hk.1)⟩, ⟨by (with_reducible repeat (first | refine blk_drewN ?_ _ | refine blk_drew ?_ | refine blk_alloc ?_ _)); exact BK343.out⟩, ⟨by (with_reducible repeat (first | refine blk_drewN ?_ _ | refine blk_drew ?_ | refine blk_alloc ?_ _)); exact BK347.out⟩, ⟨bel_now⟩⟩
        ·rw [if_neg c18] at H
         exact absurd H (by simp)
       ·replace c17 := Bool.eq_false_iff.mpr c17
        subst c17
        rw [if_neg (show ¬ (false = true) by decide)] at H
        simp only [Option.some.injEq, Prod.mk.injEq] at H
        obtain ⟨rfl, rfl⟩ := H
        have p348 : 0 ≤ (x18_1 : Int) := of_decide_eq_true (by first | (with_reducible assumption) | assumption)
        have q348 : x18_1 < (l0_3.length : Int) := of_decide_eq_true (by first | (with_reducible assumption) | assumption)
        obtain ⟨ad348, A348_7, c348_7, A348_8, c348_8, e348, hx348_0, hx348_1, hx348_2, hx348_3, hx348_4, hx348_5, hx348_6, hx348_7, hx348_8, hl348_7, hi348_7, hl348_8, hi348_8⟩ := at_T73 HR0_3.out x18_1 p348 q348
        cases e348
        replace hx348_0 := (HB.out.cell (World.block_lt_of_cell? w _ hx348_0)).trans hx348_0
        replace hx348_1 := (HB.out.cell (World.block_lt_of_cell? w _ hx348_1)).trans hx348_1
        replace hx348_2 := (HB.out.cell (World.block_lt_of_cell? w _ hx348_2)).trans hx348_2
        replace hx348_3 := (HB.out.cell (World.block_lt_of_cell? w _ hx348_3)).trans hx348_3
        replace hx348_4 := (HB.out.cell (World.block_lt_of_cell? w _ hx348_4)).trans hx348_4
        replace hx348_5 := (HB.out.cell (World.block_lt_of_cell? w _ hx348_5)).trans hx348_5
        replace hx348_6 := (HB.out.cell (World.block_lt_of_cell? w _ hx348_6)).trans hx348_6
        replace hx348_7 := (HB.out.cell (World.block_lt_of_cell? w _ hx348_7)).trans hx348_7
        replace hx348_8 := (HB.out.cell (World.block_lt_of_cell? w _ hx348_8)).trans hx348_8
        have HR348_7 := Aside0.mk hi348_7
        have HC348_7 := Aside0.mk hl348_7
        clear hi348_7 hl348_7
        have HR348_8 := Aside0.mk hi348_8
        have HC348_8 := Aside0.mk hl348_8
        clear hi348_8 hl348_8
        replace p348 := eq_true p348
        replace q348 := eq_true q348
        go_wp2_with (first | ((with_reducible refine gate_dst (N := 7) rfl ?_); refine boxM 7 #[.int .i64 0, .int .i64 0, .int .i64 0, .int .i64 0, .int .i64 0, .int .i64 0, .int .i64 0, .slice none 0 0, .slice none 0 0] 73 ?_; intro gb349 hg w33 BK349 hb; replace HB := box_at w hb hg; obtain ⟨HB, GW349, GE349⟩ := HB; replace BK343 := box_on gb343 hb hg; obtain ⟨BK343, NB343_349, NB349_343⟩ := BK343; replace BK347 := box_on gb347 hb hg; obtain ⟨BK347, NB347_349, NB349_347⟩ := BK347; replace HO_4 := Aside0.mk (Kd.R_below (R_at HO_4.out) hb); clear hb hg; have hnb34 := NB349_343.out; have hnc34 := NB343_349.out; have hnb35 := NB349_347.out; have hnc35 := NB347_349.out; obtain ⟨hcz36_0, hcz36_1, hcz36_2, hcz36_3, hcz36_4, hcz36_5, hcz36_6, hcz36_7, hcz36_8, hfz36_0, hfz36_1, hfz36_2, hfz36_3, hfz36_4, hfz36_5, hfz36_6, hfz36_7, hfz36_8⟩ := cells9 BK349.out; have hnb37 := NB347_343.out; have hnc37 := NB343_347.out; obtain ⟨hcz38_0, hcz38_1, hcz38_2, hfz38_0, hfz38_1, hfz38_2⟩ := cells3 BK347.out) | ((with_reducible refine gate_callee (f := 100) rfl ?_); refine goesM (some 25) rfl rfl Try.func100 (by kernel_rfl) rfl #[.agg #[.int .i64 x348000_1, .int .i64 x348001_1, .int .i64 x348002_1], .agg #[.int .i64 ((rd_T73 l0_3 x18_1).f0), .int .i64 ((rd_T73 l0_3 x18_1).f1), .int .i64 ((rd_T73 l0_3 x18_1).f2), .int .i64 ((rd_T73 l0_3 x18_1).f3), .int .i64 ((rd_T73 l0_3 x18_1).f4), .int .i64 ((rd_T73 l0_3 x18_1).f5), .int .i64 ((rd_T73 l0_3 x18_1).f6), .slice A348_7 ((rd_T73 l0_3 x18_1).f7).length c348_7, .slice A348_8 ((rd_T73 l0_3 x18_1).f8).length c348_8]] rfl ?_; (with_reducible refine (impl_OutShape.calls k1 x348000_1 x348001_1 x348002_1 ((rd_T73 l0_3 x18_1).f0) ((rd_T73 l0_3 x18_1).f1) ((rd_T73 l0_3 x18_1).f2) ((rd_T73 l0_3 x18_1).f3) ((rd_T73 l0_3 x18_1).f4) ((rd_T73 l0_3 x18_1).f5) ((rd_T73 l0_3 x18_1).f6) _ _ ((rd_T73 l0_3 x18_1).f7) _ _ ((rd_T73 l0_3 x18_1).f8) t350 t351 t352 false _ ?side1 ?side2 ?side3 ?side4 A16.out).mono ?_); (case side1 => exact C_now HR348_7.out); (case side2 => exact HC348_7.out); (case side3 => exact C_now HR348_8.out); (case side4 => exact HC348_8.out); rintro e w39 ⟨rfl, hb⟩; refine ⟨_, rfl, ?_⟩; have n0_ := Aside0.mk (Kd.R_below (R_at (R_far9 HO_4.out BK349.out (by decide))) hb); replace HB := bel_on w hb; replace BK343 := Aside0.mk (blk_below (g := gb343) (o := .cells #[.int .i64 a0_0, .int .i64 a0_1, .int .i64 a0_2, .slice (some ad348) l0_3.length c0_3] 28 (0, 0)) (blk_fars BK343.out) hb); replace BK347 := Aside0.mk (blk_below (g := gb347) (o := .cells #[.int .i64 x348000_1, .int .i64 x348001_1, .int .i64 x348002_1] 25 (0, 0)) (blk_fars BK347.out) hb); replace BK349 := Aside0.mk (blk_below (g := gb349) (o := .cells #[.int .i64 ((rd_T73 l0_3 x18_1).f0), .int .i64 ((rd_T73 l0_3 x18_1).f1), .int .i64 ((rd_T73 l0_3 x18_1).f2), .int .i64 ((rd_T73 l0_3 x18_1).f3), .int .i64 ((rd_T73 l0_3 x18_1).f4), .int .i64 ((rd_T73 l0_3 x18_1).f5), .int .i64 ((rd_T73 l0_3 x18_1).f6), .slice A348_7 ((rd_T73 l0_3 x18_1).f7).length c348_7, .slice A348_8 ((rd_T73 l0_3 x18_1).f8).length c348_8] 73 (0, 0)) (by (with_reducible repeat (first | refine blk_drewN ?_ _ | refine blk_drew ?_ | refine blk_alloc ?_ _)); first | exact putl9 BK349.out | exact blk_fars (putl9 BK349.out)) hb); clear HO_4; have HO_4 := n0_; clear n0_; (try clear hb)) | ((with_reducible refine gate_dst (N := 8) rfl ?_); refine boxM 8 #[.int .i64 0, .int .i64 0, .int .i64 0] 25 ?_; intro gb354 hg w40 BK354 hb; replace HB := box_at w hb hg; obtain ⟨HB, GW354, GE354⟩ := HB; replace BK343 := box_on gb343 hb hg; obtain ⟨BK343, NB343_354, NB354_343⟩ := BK343; replace BK347 := box_on gb347 hb hg; obtain ⟨BK347, NB347_354, NB354_347⟩ := BK347; replace BK349 := box_on gb349 hb hg; obtain ⟨BK349, NB349_354, NB354_349⟩ := BK349; replace HO_4 := Aside0.mk (Kd.R_below (Kd.R_elderB (R_at HO_4.out) gb354 (Nat.le_of_eq hg.symm)) hb); clear hb hg; have hnb41 := NB354_343.out; have hnc41 := NB343_354.out; have hnb42 := NB354_347.out; have hnc42 := NB347_354.out; have hnb43 := NB354_349.out; have hnc43 := NB349_354.out; obtain ⟨hcz44_0, hcz44_1, hcz44_2, hfz44_0, hfz44_1, hfz44_2⟩ := cells3 BK354.out))
        go_ret2
        exact ⟨_, eqN, by first | exact Kd.R_nil _ _ _ _ _ | exact Kd.N_nil _ _ _ _ _ | exact Kd.V_nil _ _ _ _ _ | exact Kd.Q_nil _ _ _ _ _ | exact Kd.S_nil _ _ _ _ _, bel_now⟩
      ·rw [if_neg c15] at H
       exact absurd H (by simp)
     ·rw [if_neg c14] at H
      exact absurd H (by simp)
    ·rw [if_neg c13] at H
     have c13b0 : decide (x18_1 < (l0_3.length : Int)) = false := decide_eq_false c13
     clear c13
     simp only [Option.some.injEq, Prod.mk.injEq] at H
     obtain ⟨rfl, rfl⟩ := H
     go_wp2
     go_ret2
     exact ⟨_, eqN, by (with_reducible repeat (first | apply Kd.R_alloc | apply Kd.R_drewN | apply Kd.R_drew)); exact Kd.R_mono HO_4.out (fun _ hk => trivial), bel_now⟩

/-! ### impl_ModelOk: function 51 -/
def impl_ModelOk.f (k : Nat) (a0_0 : Int) (a0_1 : Int) (a0_2 : Int) (l0_3 : List (S73)) : Option (Bool) := (impl_in.f (l0_3.length : Int) 1 6).bind fun t359 => (if t359 = true then ((impl_Model_shapes.f k a0_0 a0_1 a0_2 l0_3).bind fun bt360 => (some bt360.2)) else (some false))
set_option maxHeartbeats 8000000 in
set_option maxRecDepth 100000 in
theorem impl_ModelOk.calls (k : Nat) (a0_0 : Int) (a0_1 : Int) (a0_2 : Int) (A0_3 : Option Addr) (c0_3 : Nat) (l0_3 : List (S73)) (r : Bool) (w : World) (hr0_3 : Kd.C k73 w A0_3 l0_3.length l0_3) (hc0_3 : l0_3.length ≤ c0_3) (h : impl_ModelOk.f k a0_0 a0_1 a0_2 l0_3 = some r) :
   Calls Try.prog 51 #[.agg #[.int .i64 a0_0, .int .i64 a0_1, .int .i64 a0_2, .slice A0_3 l0_3.length c0_3]] w fun e w' => e = .returned (.bool r) ∧ Below w.heap.size w w' := by
  have hu28 := Try.underlying28
  have HR0_3 := Aside0.mk hr0_3
  have HC0_3 := Aside0.mk hc0_3
  clear hr0_3 hc0_3
  have HB := Aside0.mk (Below.refl w.heap.size w)
  have H : ((impl_in.f (l0_3.length : Int) 1 6).bind fun t359 => (if t359 = true then ((impl_Model_shapes.f k a0_0 a0_1 a0_2 l0_3).bind fun bt360 => (some bt360.2)) else (some false))) = some r := h
  clear h
  replace H := Option.bind_eq_some_iff.mp H
  obtain ⟨t359, A20, H⟩ := H
  (try dsimp only at H)
  have A2 := Aside0.mk A20
  clear A20
  by_cases c3 : t359 = true
  ·subst c3
   rw [if_pos rfl] at H
   replace H := Option.bind_eq_some_iff.mp H
   obtain ⟨⟨t360, t363⟩, A40, H⟩ := H
   (try dsimp only at H)
   have A4 := Aside0.mk A40
   clear A40
   obtain rfl := Option.some.inj H
   go_enter Try.func51, Try.ntmps51
   go_wp2_with (first | ((with_reducible refine gate_dst (N := 1) rfl ?_); refine boxM 1 #[.int .i64 a0_0, .int .i64 a0_1, .int .i64 a0_2, .slice A0_3 l0_3.length c0_3] 28 ?_; intro gb358 hg w5 BK358 hb; replace HB := box_at w hb hg; obtain ⟨HB, GW358, GE358⟩ := HB; clear hb hg; obtain ⟨hcz6_0, hcz6_1, hcz6_2, hcz6_3, hfz6_0, hfz6_1, hfz6_2, hfz6_3⟩ := cells4 BK358.out) | ((with_reducible refine gate_callee (f := 82) rfl ?_); refine goesM (some 8) rfl rfl Try.func82 (by kernel_rfl) rfl #[.int .i64 (l0_3.length : Int), .int .i64 1, .int .i64 6] rfl ?_; (with_reducible refine (impl_in.calls (l0_3.length : Int) 1 6 true _ A2.out).mono ?_); rintro e w' ⟨rfl, ⟨nd, rfl⟩⟩; refine ⟨_, rfl, ?_⟩) | ((with_reducible refine gate_callee (f := 70) rfl ?_); refine goesM (some 12) rfl rfl Try.func70 (by kernel_rfl) rfl #[.agg #[.int .i64 a0_0, .int .i64 a0_1, .int .i64 a0_2, .slice A0_3 l0_3.length c0_3]] rfl ?_; (with_reducible refine (impl_Model_shapes.calls k a0_0 a0_1 a0_2 _ _ l0_3 t360 t363 _ ?side1 ?side2 A4.out).mono ?_); (case side1 => exact C_now HR0_3.out); (case side2 => exact HC0_3.out); rintro e w7 ⟨v361, rfl, ho0, hb⟩; refine ⟨_, rfl, ?_⟩; have n0_ := Aside0.mk (Kd.R_lower ho0 (below_size bel_now)); replace HB := bel_on w hb; replace BK358 := blk_on gb358 hb; have HO362 := n0_; clear n0_; (try clear hb); (try clear ho0)))
   go_ret
   exact ⟨eqN, bel_now⟩
  ·replace c3 := Bool.eq_false_iff.mpr c3
   subst c3
   rw [if_neg (show ¬ (false = true) by decide)] at H
   obtain rfl := Option.some.inj H
   go_enter Try.func51, Try.ntmps51
   go_wp2_with (first | ((with_reducible refine gate_dst (N := 1) rfl ?_); refine boxM 1 #[.int .i64 a0_0, .int .i64 a0_1, .int .i64 a0_2, .slice A0_3 l0_3.length c0_3] 28 ?_; intro gb358 hg w8 BK358 hb; replace HB := box_at w hb hg; obtain ⟨HB, GW358, GE358⟩ := HB; clear hb hg; obtain ⟨hcz9_0, hcz9_1, hcz9_2, hcz9_3, hfz9_0, hfz9_1, hfz9_2, hfz9_3⟩ := cells4 BK358.out) | ((with_reducible refine gate_callee (f := 82) rfl ?_); refine goesM (some 8) rfl rfl Try.func82 (by kernel_rfl) rfl #[.int .i64 (l0_3.length : Int), .int .i64 1, .int .i64 6] rfl ?_; (with_reducible refine (impl_in.calls (l0_3.length : Int) 1 6 false _ A2.out).mono ?_); rintro e w' ⟨rfl, ⟨nd, rfl⟩⟩; refine ⟨_, rfl, ?_⟩))
   go_ret
   exact ⟨eqN, bel_now⟩

end Go.Proofs.Ytljdcemdhmaahaa.PFnExactNextCost
