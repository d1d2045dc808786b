-- Printed by the session's own program (wip/myprint.py) for this claim out of the translation. Not trusted: Lean checks it.
import Derived.Test.YtljdcemdhmaahaaPFnExactJobDonex0
import Derived.Test.YtljdcemdhmaahaaPFnExactJobDonex12
import Derived.Test.YtljdcemdhmaahaaPFnExactJobDonex14
namespace Go.Proofs.Ytljdcemdhmaahaa.PFnExactJobDone
open Go.RowKit Go.Proofs.YtljdcemdhmaahaaW.PrintWords Go.Proofs.YtljdcemdhmaahaaW.PrintLast Go.Proofs.YtljdcemdhmaahaaW.PrintMore
attribute [local go_sem] max2_int min2_int max_two min_two max_three min_three max_four min_four   -- for this text's walks alone
set_option linter.unusedVariables false
set_option linter.unusedSimpArgs false

/-! ### impl_Model_shapes: function 70 -/
def impl_Model_shapes.l0 : Nat → List (S25) → List (S73) → Int → Int → Int → Int → Int → Option ((List (S25)) × Bool)
  | 0, _, _, _, _, _, _, _ => none
  | k + 1, x4, x16, x17, x18, x333000, x333001, x333002 => if x18 < x17 then (if 0 ≤ x18 then (if x18 < (x16.length : Int) then ((impl_OutShape.f k x333000 x333001 x333002 ((rd_T73 x16 x18).f0) ((rd_T73 x16 x18).f1) ((rd_T73 x16 x18).f2) ((rd_T73 x16 x18).f3) ((rd_T73 x16 x18).f4) ((rd_T73 x16 x18).f5) ((rd_T73 x16 x18).f6) ((rd_T73 x16 x18).f7) ((rd_T73 x16 x18).f8)).bind fun bt335 => (if bt335.2.2.2 = true then (if x4.length < 5864062014805 then (impl_Model_shapes.l0 k (x4 ++ [(⟨bt335.1, bt335.2.1, bt335.2.2.1⟩ : S25)]) x16 x17 (wrap64 (x18 + 1)) bt335.1 bt335.2.1 bt335.2.2.1) else (none)) else (some (([] : List (S25)), false)))) else (none)) else (none)) else (some (x4, true))
def impl_Model_shapes.f (k : Nat) (a0_0 : Int) (a0_1 : Int) (a0_2 : Int) (l0_3 : List (S73)) : Option ((List (S25)) × Bool) := impl_Model_shapes.l0 k (([(⟨a0_0, a0_1, a0_2⟩ : S25)] : List (S25))) l0_3 (l0_3.length : Int) 0 a0_0 a0_1 a0_2
def impl_Model_shapes.T1 : Bool × List (List Nat × List Nat) := (true, [([], []), ([0], [0]), ([1], [1]), ([], []), ([3], [3]), ([], []), ([2, 0, 1, 2, 5], [2]), ([5, 4, 6, 0, 1, 2, 3, 4, 5, 6], [4, 5])])
def impl_Model_shapes.B1 : List Nat := [0, 1, 3, 0, 8, 0, 39, 127]
theorem impl_Model_shapes.tab1 : rtab .any (opsOf Try.f70 1) = impl_Model_shapes.T1 := by kernel_rfl
theorem impl_Model_shapes.bits1 : waitsOk impl_Model_shapes.T1.2 impl_Model_shapes.B1 = true := by kernel_rfl
set_option maxHeartbeats 8000000 in
set_option maxRecDepth 100000 in
theorem impl_Model_shapes.calls (k : Nat) (a0_0 : Int) (a0_1 : Int) (a0_2 : Int) (A0_3 : Option Addr) (c0_3 : Nat) (l0_3 : List (S73)) (r1 : List (S25)) (r2 : Bool) (w : World) (hr0_3 : Kd.C k73 w A0_3 l0_3.length l0_3) (hc0_3 : l0_3.length ≤ c0_3) (h : impl_Model_shapes.f k a0_0 a0_1 a0_2 l0_3 = some (r1, r2)) :
   Calls Try.prog 70 #[.agg #[.int .i64 a0_0, .int .i64 a0_1, .int .i64 a0_2, .slice A0_3 l0_3.length c0_3]] w fun e w' => ∃ v0_ : Value, e = .returned (.tuple #[v0_, .bool r2]) ∧ Kd.R k25 25 w' w.heap.size (fun _ => True) v0_ r1 ∧ Below w.heap.size w w' := by
  have hu28 := Try.underlying28
  have hu25 := Try.underlying25
  have hu73 := Try.underlying73
  have HR0_3 := Aside0.mk hr0_3
  have HC0_3 := Aside0.mk hc0_3
  clear hr0_3 hc0_3
  have HB := Aside0.mk (Below.refl w.heap.size w)
  have H : (impl_Model_shapes.l0 k (([(⟨a0_0, a0_1, a0_2⟩ : S25)] : List (S25))) l0_3 (l0_3.length : Int) 0 a0_0 a0_1 a0_2) = some (r1, r2) := h
  clear h
  obtain ⟨y329, hy329⟩ : ∃ y_ : List (S25), y_ = (([(⟨a0_0, a0_1, a0_2⟩ : S25)] : List (S25))) := ⟨_, rfl⟩
  replace H : (impl_Model_shapes.l0 k y329 l0_3 (l0_3.length : Int) 0 a0_0 a0_1 a0_2) = some (r1, r2) := by first | (rw [hy329]; with_reducible exact H) | (have H2_ := (Option.bind_some _ _).symm.trans H; rw [hy329]; with_reducible exact H2_) | (have H2_ := (Option.bind_some _ _).symm.trans H; with_reducible exact H2_) | with_reducible exact H | (rw [hy329]; exact H) | exact H
  have Ny329 := Aside0.mk hy329
  clear hy329
  have H' := Aside0.mk H
  clear H
  go_enter Try.func70, Try.ntmps70
  try go_wp2_with (first | ((with_reducible refine gate_dst (N := 1) rfl ?_); refine boxM 1 #[.int .i64 a0_0, .int .i64 a0_1, .int .i64 a0_2, .slice A0_3 l0_3.length c0_3] 28 ?_; intro gb328 hg w2 BK328 hb; replace HB := box_at w hb hg; obtain ⟨HB, GW328, GE328⟩ := HB; clear hb hg))
  replace BK328 := Aside0.mk (blk_drew BK328.out)
  replace HB := Aside0.mk (below_drew1 HB.out)
  refine start_ (n := 8) (S := fun w' => w'.cell? ⟨gb328, 0, none⟩ = some (.int .i64 a0_0) ∧ w'.cell? ⟨gb328, 1, none⟩ = some (.int .i64 a0_1) ∧ w'.cell? ⟨gb328, 2, none⟩ = some (.int .i64 a0_2) ∧ w'.cell? ⟨gb328, 3, none⟩ = some (.slice A0_3 l0_3.length c0_3)) (ds := []) #[O, O, O, O, O, O, O, O] (by kernel_rfl) rfl rfl ⟨bc BK328 0, bc BK328 1, bc BK328 2, bc BK328 3⟩ (fun hHeld => ?_); refine with_tabW impl_Model_shapes.tab1 impl_Model_shapes.bits1 (fun HT_ HW_ => ?_)
  generalize w2.drew = w3 at BK328 HB hHeld ⊢
  refine stepP 0 (some 10) (tk 8 1) (any_of HT_.out (by kernel_rfl)) ?_
  refine stepP 3 (some 13) (tk 8 9) (any_of HT_.out (by kernel_rfl)) ?_
  refine stepT 1 (some 11) (tk 8 11) (take_ofW HT_.out HW_.out (by kernel_rfl)) hHeld ?_
  refine stepT 4 (some 14) (tk 8 27) (take_ofW HT_.out HW_.out (by kernel_rfl)) hHeld ?_
  refine join_ (σ := Value × Nat) 2 #[I, I, I, I, I, I, O, O] (fun s_ => [(12, s_.1), (5, .pointer (some ⟨s_.2, 0, none⟩))]) (fun s_ w' => (w'.cell? ⟨gb328, 0, none⟩ = some (.int .i64 a0_0) ∧ w'.cell? ⟨gb328, 1, none⟩ = some (.int .i64 a0_1) ∧ w'.cell? ⟨gb328, 2, none⟩ = some (.int .i64 a0_2) ∧ w'.cell? ⟨gb328, 3, none⟩ = some (.slice A0_3 l0_3.length c0_3)) ∧ (Kd.R k25 25 w' w.heap.size (fun k_ => k_ ≠ s_.2) s_.1 y329) ∧ (w'.heap[gb328]? = some (.cells #[.int .i64 a0_0, .int .i64 a0_1, .int .i64 a0_2, .slice A0_3 l0_3.length c0_3] 28 (0, 0))) ∧ (w'.heap[s_.2]? = some (.cells #[.int .i64 0, .int .i64 0, .int .i64 0] 25 (0, 0))) ∧ (w.heap.size ≤ s_.2) ∧ (w.heap.size ≤ s_.2) ∧ (gb328 ≠ s_.2) ∧ (s_.2 ≠ gb328) ∧ (Below w.heap.size w w')) ?_ ?_
  rotate_left
  ·intro hCont
   refine two_ (i := 2) (j := 5) (Ni := some 12) (Nj := some 5) #[I, I, I, I, I, O, O, O] #[I, I, O, I, I, I, O, O] rfl rfl rfl rfl (two_of HT_.out (by kernel_rfl)) (by decide) (by decide) (fun K hK => ?_) (fun K hK => ?_)
   ·skip
    refine Kd.R_lit_step k25 _ 25 ?hg (N := 12) ?hd (xs := ([(⟨a0_0, a0_1, a0_2⟩ : S25)] : List (S25))) (inner := [.int .i64 a0_0, .int .i64 a0_1, .int .i64 a0_2]) (ok := fun _ => True) (okp := fun _ => True) ?hr ?hp (fun _ hk => hk) trivial (Below.refl _ _) (Nat.le_refl _) (by simp) ?_; (case hd => rfl); (case hg => rfl); (case hr => first | (go_simp; done) | (go_simp; rfl)); (case hp => exact (Reps.c3 (show Kd.M k25 _ _ _ (⟨a0_0, a0_1, a0_2⟩ : S25) [.int .i64 a0_0, .int .i64 a0_1, .int .i64 a0_2] from (k25_mkM _ _ _ (⟨a0_0, a0_1, a0_2⟩ : S25) )) (Reps.none _ _)))
    intro v330 w4 ho5 hb hg_ hnew_
    clear hg_ hnew_
    (first | rw [← Ny329.out] at ho5 | (simp only [Int.reduceToNat] at ho5; rw [← Ny329.out] at ho5))
    have n0_ := Aside0.mk (Kd.R_lower ho5 (below_size bel_now))
    replace BK328 := blk_on gb328 hb
    replace HB := bel_on w hb
    have HO331 := n0_
    clear n0_
    clear hb ho5
    refine hK.out _ _ ⟨bc BK328 0, bc BK328 1, bc BK328 2, bc BK328 3⟩ (fun hHeld => ?_)
    clear hK K
    refine norm_ (a' := ?_) ?_ ?_
    rotate_left
    ·show Act.put _ (some 12) _ = _
     simp only [Act.put, zA, zB, zC, i64_w, i32_w]
     rfl
    refine one_ (i := 5) (N := some 5) #[I, I, I, I, I, I, O, O] rfl rfl (one_of HT_.out (by kernel_rfl)) (by decide) (fun K hK => ?_)
    refine box_step ?hg (N := 5) ?hd (cs := #[.int .i64 0, .int .i64 0, .int .i64 0]) (t := 25) ?hr ?_; (case hd => rfl); (case hg => rfl); (case hr => first | (go_simp; done) | (go_simp; rfl))
    intro gb332 hg w6 hbox hb
    have n3_ := Aside0.mk (hbox)
    have n4_ := Aside0.mk ((by rw [hg]; exact (below_size bel_now) : w.heap.size ≤ gb332))
    have n5_ := Aside0.mk ((by rw [hg]; exact (below_size bel_now) : w.heap.size ≤ gb332))
    have n6_ := Aside0.mk ((by rw [hg]; exact Nat.ne_of_lt (blk_lt (g := gb328) blk_now) : gb328 ≠ gb332))
    have n7_ := Aside0.mk ((by rw [hg]; exact Nat.ne_of_gt (blk_lt (g := gb328) blk_now) : gb332 ≠ gb328))
    replace HO331 := Aside0.mk (Kd.R_below (Kd.R_elderB (R_at HO331.out) gb332 (Nat.le_of_eq hg.symm)) hb)
    replace BK328 := blk_on gb328 hb
    replace HB := bel_on w hb
    have BK332 := n3_
    have GW332 := n4_
    have GE332 := n5_
    have NB328_332 := n6_
    have NB332_328 := n7_
    clear n3_ n4_ n5_ n6_ n7_
    clear hb hbox hg
    refine hK.out _ _ ⟨bc BK328 0, bc BK328 1, bc BK328 2, bc BK328 3⟩ (fun hHeld => ?_)
    clear hK K
    refine norm_ (a' := ?_) ?_ ?_
    rotate_left
    ·show Act.put _ (some 5) _ = _
     simp only [Act.put, zA, zB, zC, i64_w, i32_w]
     rfl
    exact norm_ (by simp only [putAll, Act.put, zA, zB, zC]) (hCont (v330, gb332) _ ⟨hHeld, (R_at (Kd.R_mono HO331.out (fun _ hk => by first | exact hk.2 | exact trivial))), blk_now, blk_now, GW332.out, GE332.out, NB328_332.out, NB332_328.out, bel_now⟩)
   ·skip
    refine box_step ?hg (N := 5) ?hd (cs := #[.int .i64 0, .int .i64 0, .int .i64 0]) (t := 25) ?hr ?_; (case hd => rfl); (case hg => rfl); (case hr => first | (go_simp; done) | (go_simp; rfl))
    intro gb332 hg w4 hbox hb
    have n2_ := Aside0.mk (hbox)
    have n3_ := Aside0.mk ((by rw [hg]; exact (below_size bel_now) : w.heap.size ≤ gb332))
    have n4_ := Aside0.mk ((by rw [hg]; exact (below_size bel_now) : w.heap.size ≤ gb332))
    have n5_ := Aside0.mk ((by rw [hg]; exact Nat.ne_of_lt (blk_lt (g := gb328) blk_now) : gb328 ≠ gb332))
    have n6_ := Aside0.mk ((by rw [hg]; exact Nat.ne_of_gt (blk_lt (g := gb328) blk_now) : gb332 ≠ gb328))
    replace BK328 := blk_on gb328 hb
    replace HB := bel_on w hb
    have BK332 := n2_
    have GW332 := n3_
    have GE332 := n4_
    have NB328_332 := n5_
    have NB332_328 := n6_
    clear n2_ n3_ n4_ n5_ n6_
    clear hb hbox hg
    refine hK.out _ _ ⟨bc BK328 0, bc BK328 1, bc BK328 2, bc BK328 3⟩ (fun hHeld => ?_)
    clear hK K
    refine norm_ (a' := ?_) ?_ ?_
    rotate_left
    ·show Act.put _ (some 5) _ = _
     simp only [Act.put, zA, zB, zC, i64_w, i32_w]
     rfl
    refine one_ (i := 2) (N := some 12) #[I, I, I, I, I, I, O, O] rfl rfl (one_of HT_.out (by kernel_rfl)) (by decide) (fun K hK => ?_)
    refine Kd.R_lit_step k25 _ 25 ?hg (N := 12) ?hd (xs := ([(⟨a0_0, a0_1, a0_2⟩ : S25)] : List (S25))) (inner := [.int .i64 a0_0, .int .i64 a0_1, .int .i64 a0_2]) (ok := fun _ => True) (okp := fun _ => True) ?hr ?hp (fun _ hk => hk) trivial (Below.refl _ _) (Nat.le_refl _) (by simp) ?_; (case hd => rfl); (case hg => rfl); (case hr => first | (go_simp; done) | (go_simp; rfl)); (case hp => exact (Reps.c3 (show Kd.M k25 _ _ _ (⟨a0_0, a0_1, a0_2⟩ : S25) [.int .i64 a0_0, .int .i64 a0_1, .int .i64 a0_2] from (k25_mkM _ _ _ (⟨a0_0, a0_1, a0_2⟩ : S25) )) (Reps.none _ _)))
    intro v330 w5 ho6 hb hg_ hnew_
    clear hg_ hnew_
    (first | rw [← Ny329.out] at ho6 | (simp only [Int.reduceToNat] at ho6; rw [← Ny329.out] at ho6))
    have n0_ := Aside0.mk (Kd.R_lower (Kd.R_newB ho6 (g := gb332) blk_now) (below_size bel_now))
    replace BK328 := blk_on gb328 hb
    replace BK332 := blk_on gb332 hb
    replace HB := bel_on w hb
    have HO331 := n0_
    clear n0_
    clear hb ho6
    refine hK.out _ _ ⟨bc BK328 0, bc BK328 1, bc BK328 2, bc BK328 3⟩ (fun hHeld => ?_)
    clear hK K
    refine norm_ (a' := ?_) ?_ ?_
    rotate_left
    ·show Act.put _ (some 12) _ = _
     simp only [Act.put, zA, zB, zC, i64_w, i32_w]
     rfl
    exact norm_ (by simp only [putAll, Act.put, zA, zB, zC]) (hCont (v330, gb332) _ ⟨hHeld, (R_at (Kd.R_mono HO331.out (fun _ hk => by first | exact hk.2 | exact trivial))), blk_now, blk_now, GW332.out, GE332.out, NB328_332.out, NB332_328.out, bel_now⟩)
  rintro ⟨v330, gb332⟩ w7 ⟨hS_, h0_, h1_, h2_, h3_, h4_, h5_, h6_, h7_⟩
  have n0_ : Aside0 (Kd.R k25 25 w7 w.heap.size (fun k_ => k_ ≠ gb332) v330 y329) := ⟨h0_⟩
  have n1_ : Aside0 (w7.heap[gb328]? = some (.cells #[.int .i64 a0_0, .int .i64 a0_1, .int .i64 a0_2, .slice A0_3 l0_3.length c0_3] 28 (0, 0))) := ⟨h1_⟩
  have n2_ : Aside0 (w7.heap[gb332]? = some (.cells #[.int .i64 0, .int .i64 0, .int .i64 0] 25 (0, 0))) := ⟨h2_⟩
  have n3_ : Aside0 (w.heap.size ≤ gb332) := ⟨h3_⟩
  have n4_ : Aside0 (w.heap.size ≤ gb332) := ⟨h4_⟩
  have n5_ : Aside0 (gb328 ≠ gb332) := ⟨h5_⟩
  have n6_ : Aside0 (gb332 ≠ gb328) := ⟨h6_⟩
  have n7_ : Aside0 (Below w.heap.size w w7) := ⟨h7_⟩
  clear BK328
  clear HB
  clear h0_ h1_ h2_ h3_ h4_ h5_ h6_ h7_
  have HO331 := n0_
  have BK328 := n1_
  have BK332 := n2_
  have GW332 := n3_
  have GE332 := n4_
  have NB328_332 := n5_
  have NB332_328 := n6_
  have HB := n7_
  clear n0_ n1_ n2_ n3_ n4_ n5_ n6_ n7_
  have hHeld : w7.cell? ⟨gb328, 0, none⟩ = some (.int .i64 a0_0) ∧ w7.cell? ⟨gb328, 1, none⟩ = some (.int .i64 a0_1) ∧ w7.cell? ⟨gb328, 2, none⟩ = some (.int .i64 a0_2) ∧ w7.cell? ⟨gb328, 3, none⟩ = some (.slice A0_3 l0_3.length c0_3) := hS_
  refine norm_ (a' := ?_) ?_ ?_
  rotate_left
  ·simp only [putAll, Act.put, zA, zB, zC]
   rfl
  refine stepP 6 (some 4) (tk 8 127) (any_of HT_.out (by kernel_rfl)) ?_
  refine one_ (i := 7) (N := none) #[I, I, I, I, I, I, I, I] rfl rfl (one_of HT_.out (by kernel_rfl)) (by decide) (fun K hK => ?_)
  have hs8 : w7.cell? ⟨gb332, 0, none⟩ = some (.int .i64 0) := (blk_cell BK332.out 0).trans rfl
  have hfs8 := blk_frozen BK332.out 0
  have hns8_0 := NB328_332.out
  have hms8_0 := NB332_328.out
  have hs9 : w7.cell? ⟨gb332, 1, none⟩ = some (.int .i64 0) := (blk_cell BK332.out 1).trans rfl
  have hfs9 := blk_frozen BK332.out 1
  have hns9_0 := NB328_332.out
  have hms9_0 := NB332_328.out
  have hs10 : w7.cell? ⟨gb332, 2, none⟩ = some (.int .i64 0) := (blk_cell BK332.out 2).trans rfl
  have hfs10 := blk_frozen BK332.out 2
  have hns10_0 := NB328_332.out
  have hms10_0 := NB332_328.out
  refine skip_ (w1 := ?_) (by rfl) rfl ?_ ?_
  rotate_left
  ·go_simp
   rfl
  refine hK.out _ _ ⟨((cell_far (p := ⟨gb332, _, none⟩) NB328_332.out _).trans (((cell_far (p := ⟨gb332, _, none⟩) NB328_332.out _).trans (((cell_far (p := ⟨gb332, _, none⟩) NB328_332.out _).trans (hHeld.1)))))), ((cell_far (p := ⟨gb332, _, none⟩) NB328_332.out _).trans (((cell_far (p := ⟨gb332, _, none⟩) NB328_332.out _).trans (((cell_far (p := ⟨gb332, _, none⟩) NB328_332.out _).trans (hHeld.2.1)))))), ((cell_far (p := ⟨gb332, _, none⟩) NB328_332.out _).trans (((cell_far (p := ⟨gb332, _, none⟩) NB328_332.out _).trans (((cell_far (p := ⟨gb332, _, none⟩) NB328_332.out _).trans (hHeld.2.2.1)))))), ((cell_far (p := ⟨gb332, _, none⟩) NB328_332.out _).trans (((cell_far (p := ⟨gb332, _, none⟩) NB328_332.out _).trans (((cell_far (p := ⟨gb332, _, none⟩) NB328_332.out _).trans (hHeld.2.2.2))))))⟩ (fun hHeld => ?_)
  clear hK K
  refine done_ (done_of HT_.out (by kernel_rfl)) ?_
  have hnb11 := NB328_332.out
  have hnc11 := NB332_328.out
  obtain ⟨hcz12_0, hcz12_1, hcz12_2, hcz12_3, hfz12_0, hfz12_1, hfz12_2, hfz12_3⟩ := cells4 BK328.out
  try go_wp2
  go_loopg [4, 18] k (fun kq v4 v18 w' => ∃ (x4_1 : List (S25)) (x18_1 : Int) (x333000_1 : Int) (x333001_1 : Int) (x333002_1 : Int), v18 = .int .i64 x18_1 ∧ Aside0 (impl_Model_shapes.l0 kq x4_1 l0_3 (l0_3.length : Int) x18_1 x333000_1 x333001_1 x333002_1 = some (r1, r2)) ∧ Aside0 (kq ≤ k) ∧ Aside0 (Kd.R k25 25 w' w.heap.size (fun k_ => k_ ≠ gb332) v4 x4_1) ∧ Aside0 (w'.heap[gb328]? = some (.cells #[.int .i64 a0_0, .int .i64 a0_1, .int .i64 a0_2, (.slice A0_3 l0_3.length c0_3)] 28 (0, 0))) ∧ Aside0 (w'.heap[gb332]? = some (.cells #[.int .i64 x333000_1, .int .i64 x333001_1, .int .i64 x333002_1] 25 (0, 0))) ∧ Aside0 (Below w.heap.size w w'))
  case atStart => exact ⟨(y329), (0), (a0_0), (a0_1), (a0_2), (by first | rfl | (simp; done) | (simp [*]; done)), H', ⟨Nat.le_refl _⟩, ⟨by (with_reducible repeat (first | apply Kd.R_alloc | apply Kd.R_drewN | apply Kd.R_drew)); exact Kd.R_mono (Kd.R_far (p := ⟨gb332, 2, none⟩) (Kd.R_far (p := ⟨gb332, 1, none⟩) (Kd.R_far (p := ⟨gb332, 0, none⟩) (Kd.R_mono HO331.out (fun k_ hk => (⟨hk, hk⟩ : _ ∧ k_ ≠ gb332))) (fun _ hk => hk.2) (.int .i64 a0_0)) (fun _ hk => hk.2) (.int .i64 a0_1)) (fun _ hk => hk.2) (.int .i64 a0_2)) (fun _ hk => hk.1)⟩, ⟨by (with_reducible repeat (first | refine blk_drewN ?_ _ | refine blk_drew ?_ | refine blk_alloc ?_ _)); refine blk_far ?_ NB328_332.out _; (with_reducible repeat (first | refine blk_drewN ?_ _ | refine blk_drew ?_ | refine blk_alloc ?_ _)); refine blk_far ?_ NB328_332.out _; (with_reducible repeat (first | refine blk_drewN ?_ _ | refine blk_drew ?_ | refine blk_alloc ?_ _)); refine blk_far ?_ NB328_332.out _; (with_reducible repeat (first | refine blk_drewN ?_ _ | refine blk_drew ?_ | refine blk_alloc ?_ _)); exact BK328.out⟩, ⟨by (with_reducible repeat (first | refine blk_drewN ?_ _ | refine blk_drew ?_ | refine blk_alloc ?_ _)); refine blk_put (cs := #[.int .i64 a0_0, .int .i64 a0_1, .int .i64 0]) ?_ 2 _ rfl; (with_reducible repeat (first | refine blk_drewN ?_ _ | refine blk_drew ?_ | refine blk_alloc ?_ _)); refine blk_put (cs := #[.int .i64 a0_0, .int .i64 0, .int .i64 0]) ?_ 1 _ rfl; (with_reducible repeat (first | refine blk_drewN ?_ _ | refine blk_drew ?_ | refine blk_alloc ?_ _)); refine blk_put (cs := #[.int .i64 0, .int .i64 0, .int .i64 0]) ?_ 0 _ rfl; (with_reducible repeat (first | refine blk_drewN ?_ _ | refine blk_drew ?_ | refine blk_alloc ?_ _)); exact BK332.out⟩, ⟨bel_now⟩⟩
  case round =>
   clear H'
   try clear c1
   try clear p2
   try clear c3
   try clear c7
   try clear c11
   try clear hcz12_0 hcz12_1 hcz12_2 hcz12_3 hfz12_0 hfz12_1 hfz12_2 hfz12_3
   obtain ⟨x4_1, x18_1, x333000_1, x333001_1, x333002_1, rfl, HA, HK1, HO_4, BK328, BK332, HB⟩ := hrel
   cases gk with
   | zero => exact absurd HA.out (by simp [impl_Model_shapes.l0])
   | succ k1 =>
    have H := HA.out
    clear HA
    simp only [impl_Model_shapes.l0] at H
    by_cases c13 : x18_1 < (l0_3.length : Int)
    ·rw [if_pos c13] at H
     have c13b0 : decide (x18_1 < (l0_3.length : Int)) = true := decide_eq_true c13
     clear c13
     by_cases c14 : 0 ≤ x18_1
     ·rw [if_pos c14] at H
      have c14b0 : decide (0 ≤ x18_1) = true := decide_eq_true c14
      clear c14
      by_cases c15 : x18_1 < (l0_3.length : Int)
      ·rw [if_pos c15] at H
       have c15b0 : decide (x18_1 < (l0_3.length : Int)) = true := decide_eq_true c15
       clear c15
       replace H := Option.bind_eq_some_iff.mp H
       obtain ⟨⟨t335, t336, t337, t338⟩, A160, H⟩ := H
       (try dsimp only at H)
       have A16 := Aside0.mk A160
       clear A160
       by_cases c17 : t338 = true
       ·subst c17
        rw [if_pos rfl] at H
        by_cases c18 : x4_1.length < 5864062014805
        ·rw [if_pos c18] at H
         have LMc18 := Aside0.mk c18
         clear c18
         obtain ⟨y340, hy340⟩ : ∃ y_ : List (S25), y_ = (x4_1 ++ [(⟨t335, t336, t337⟩ : S25)]) := ⟨_, rfl⟩
         replace H : (impl_Model_shapes.l0 k1 y340 l0_3 (l0_3.length : Int) (wrap64 (x18_1 + 1)) t335 t336 t337) = some (r1, r2) := by first | (rw [hy340]; with_reducible exact H) | (have H2_ := (Option.bind_some _ _).symm.trans H; rw [hy340]; with_reducible exact H2_) | (have H2_ := (Option.bind_some _ _).symm.trans H; with_reducible exact H2_) | with_reducible exact H | (rw [hy340]; exact H) | exact H
         have Ny340 := Aside0.mk hy340
         clear hy340
         have H' := Aside0.mk H
         clear H
         have p333 : 0 ≤ (x18_1 : Int) := of_decide_eq_true (by first | (with_reducible assumption) | assumption)
         have q333 : x18_1 < (l0_3.length : Int) := of_decide_eq_true (by first | (with_reducible assumption) | assumption)
         obtain ⟨ad333, A333_7, c333_7, A333_8, c333_8, e333, hx333_0, hx333_1, hx333_2, hx333_3, hx333_4, hx333_5, hx333_6, hx333_7, hx333_8, hl333_7, hi333_7, hl333_8, hi333_8⟩ := at_T73 HR0_3.out x18_1 p333 q333
         cases e333
         replace hx333_0 := (HB.out.cell (World.block_lt_of_cell? w _ hx333_0)).trans hx333_0
         replace hx333_1 := (HB.out.cell (World.block_lt_of_cell? w _ hx333_1)).trans hx333_1
         replace hx333_2 := (HB.out.cell (World.block_lt_of_cell? w _ hx333_2)).trans hx333_2
         replace hx333_3 := (HB.out.cell (World.block_lt_of_cell? w _ hx333_3)).trans hx333_3
         replace hx333_4 := (HB.out.cell (World.block_lt_of_cell? w _ hx333_4)).trans hx333_4
         replace hx333_5 := (HB.out.cell (World.block_lt_of_cell? w _ hx333_5)).trans hx333_5
         replace hx333_6 := (HB.out.cell (World.block_lt_of_cell? w _ hx333_6)).trans hx333_6
         replace hx333_7 := (HB.out.cell (World.block_lt_of_cell? w _ hx333_7)).trans hx333_7
         replace hx333_8 := (HB.out.cell (World.block_lt_of_cell? w _ hx333_8)).trans hx333_8
         have HR333_7 := Aside0.mk hi333_7
         have HC333_7 := Aside0.mk hl333_7
         clear hi333_7 hl333_7
         have HR333_8 := Aside0.mk hi333_8
         have HC333_8 := Aside0.mk hl333_8
         clear hi333_8 hl333_8
         replace p333 := eq_true p333
         replace q333 := eq_true q333
         go_wp2_with (first | ((with_reducible refine gate_dst (N := 7) rfl ?_); refine boxM 7 #[.int .i64 0, .int .i64 0, .int .i64 0, .int .i64 0, .int .i64 0, .int .i64 0, .int .i64 0, .slice none 0 0, .slice none 0 0] 73 ?_; intro gb334 hg w19 BK334 hb; replace HB := box_at w hb hg; obtain ⟨HB, GW334, GE334⟩ := HB; replace BK328 := box_on gb328 hb hg; obtain ⟨BK328, NB328_334, NB334_328⟩ := BK328; replace BK332 := box_on gb332 hb hg; obtain ⟨BK332, NB332_334, NB334_332⟩ := BK332; replace HO_4 := Aside0.mk (Kd.R_below (R_at HO_4.out) hb); clear hb hg; have hnb20 := NB334_328.out; have hnc20 := NB328_334.out; have hnb21 := NB334_332.out; have hnc21 := NB332_334.out; obtain ⟨hcz22_0, hcz22_1, hcz22_2, hcz22_3, hcz22_4, hcz22_5, hcz22_6, hcz22_7, hcz22_8, hfz22_0, hfz22_1, hfz22_2, hfz22_3, hfz22_4, hfz22_5, hfz22_6, hfz22_7, hfz22_8⟩ := cells9 BK334.out; have hnb23 := NB332_328.out; have hnc23 := NB328_332.out; obtain ⟨hcz24_0, hcz24_1, hcz24_2, hfz24_0, hfz24_1, hfz24_2⟩ := cells3 BK332.out) | ((with_reducible refine gate_callee (f := 100) rfl ?_); refine goesM (some 25) rfl rfl Try.func100 (by kernel_rfl) rfl #[.agg #[.int .i64 x333000_1, .int .i64 x333001_1, .int .i64 x333002_1], .agg #[.int .i64 ((rd_T73 l0_3 x18_1).f0), .int .i64 ((rd_T73 l0_3 x18_1).f1), .int .i64 ((rd_T73 l0_3 x18_1).f2), .int .i64 ((rd_T73 l0_3 x18_1).f3), .int .i64 ((rd_T73 l0_3 x18_1).f4), .int .i64 ((rd_T73 l0_3 x18_1).f5), .int .i64 ((rd_T73 l0_3 x18_1).f6), .slice A333_7 ((rd_T73 l0_3 x18_1).f7).length c333_7, .slice A333_8 ((rd_T73 l0_3 x18_1).f8).length c333_8]] rfl ?_; (with_reducible refine (impl_OutShape.calls k1 x333000_1 x333001_1 x333002_1 ((rd_T73 l0_3 x18_1).f0) ((rd_T73 l0_3 x18_1).f1) ((rd_T73 l0_3 x18_1).f2) ((rd_T73 l0_3 x18_1).f3) ((rd_T73 l0_3 x18_1).f4) ((rd_T73 l0_3 x18_1).f5) ((rd_T73 l0_3 x18_1).f6) _ _ ((rd_T73 l0_3 x18_1).f7) _ _ ((rd_T73 l0_3 x18_1).f8) t335 t336 t337 true _ ?side1 ?side2 ?side3 ?side4 A16.out).mono ?_); (case side1 => exact C_now HR333_7.out); (case side2 => exact HC333_7.out); (case side3 => exact C_now HR333_8.out); (case side4 => exact HC333_8.out); rintro e w25 ⟨rfl, hb⟩; refine ⟨_, rfl, ?_⟩; have n0_ := Aside0.mk (Kd.R_below (R_at (R_far9 HO_4.out BK334.out (by decide))) hb); replace HB := bel_on w hb; replace BK328 := Aside0.mk (blk_below (g := gb328) (o := .cells #[.int .i64 a0_0, .int .i64 a0_1, .int .i64 a0_2, .slice (some ad333) l0_3.length c0_3] 28 (0, 0)) (blk_fars BK328.out) hb); replace BK332 := Aside0.mk (blk_below (g := gb332) (o := .cells #[.int .i64 x333000_1, .int .i64 x333001_1, .int .i64 x333002_1] 25 (0, 0)) (blk_fars BK332.out) hb); replace BK334 := Aside0.mk (blk_below (g := gb334) (o := .cells #[.int .i64 ((rd_T73 l0_3 x18_1).f0), .int .i64 ((rd_T73 l0_3 x18_1).f1), .int .i64 ((rd_T73 l0_3 x18_1).f2), .int .i64 ((rd_T73 l0_3 x18_1).f3), .int .i64 ((rd_T73 l0_3 x18_1).f4), .int .i64 ((rd_T73 l0_3 x18_1).f5), .int .i64 ((rd_T73 l0_3 x18_1).f6), .slice A333_7 ((rd_T73 l0_3 x18_1).f7).length c333_7, .slice A333_8 ((rd_T73 l0_3 x18_1).f8).length c333_8] 73 (0, 0)) (by (with_reducible repeat (first | refine blk_drewN ?_ _ | refine blk_drew ?_ | refine blk_alloc ?_ _)); first | exact putl9 BK334.out | exact blk_fars (putl9 BK334.out)) hb); clear HO_4; have HO_4 := n0_; clear n0_; (try clear hb)) | ((with_reducible refine gate_dst (N := 8) rfl ?_); refine boxM 8 #[.int .i64 0, .int .i64 0, .int .i64 0] 25 ?_; intro gb339 hg w26 BK339 hb; replace HB := box_at w hb hg; obtain ⟨HB, GW339, GE339⟩ := HB; replace BK328 := box_on gb328 hb hg; obtain ⟨BK328, NB328_339, NB339_328⟩ := BK328; replace BK332 := box_on gb332 hb hg; obtain ⟨BK332, NB332_339, NB339_332⟩ := BK332; replace BK334 := box_on gb334 hb hg; obtain ⟨BK334, NB334_339, NB339_334⟩ := BK334; replace HO_4 := Aside0.mk (Kd.R_below (Kd.R_elderB (R_at HO_4.out) gb339 (Nat.le_of_eq hg.symm)) hb); clear hb hg; have hnb27 := NB339_328.out; have hnc27 := NB328_339.out; have hnb28 := NB339_332.out; have hnc28 := NB332_339.out; have hnb29 := NB339_334.out; have hnc29 := NB334_339.out; obtain ⟨hcz30_0, hcz30_1, hcz30_2, hfz30_0, hfz30_1, hfz30_2⟩ := cells3 BK339.out; obtain ⟨hcz31_0, hcz31_1, hcz31_2, hfz31_0, hfz31_1, hfz31_2⟩ := cells3 BK332.out) | ((with_reducible refine gate_builtin (b := .append) (xs := #[.tmp 31, .tmp 33]) rfl ?_); at_builtin; refine Kd.R_append k25 (w0 := w) w.heap.size rfl (.tmp 31) (.tmp 33) 44 25 (.agg #[(.int .i64 0), (.int .i64 0), (.int .i64 0)]) 24 rfl Try.underlying44 info25 rfl (by decide) (by omega) u4 x4_1 (⟨t335, t336, t337⟩ : S25) [.int .i64 t335, .int .i64 t336, .int .i64 t337] (fun k_ => k_ ≠ gb332 ∧ k_ ≠ gb339) (fun _ => False) rfl (by first | (go_simp; done) | (go_simp; rfl)) ?aP (fun _ hk => hk.elim) ?aF ?aO ?aB ?aS ?aL ?_; (case aP => exact k25_mkM _ _ _ (⟨t335, t336, t337⟩ : S25)); (case aB => exact bel_now); (case aF => exact (fun k_ hk => ⟨Kd.freshB (g := gb332) (o := .cells #[.int .i64 t335, .int .i64 t336, .int .i64 t337] 25 (0, 0)) (by (with_reducible repeat (first | refine blk_drewN ?_ _ | refine blk_drew ?_ | refine blk_alloc ?_ _)); refine blk_put (cs := #[.int .i64 t335, .int .i64 t336, .int .i64 x333002_1]) ?_ 2 _ rfl; (with_reducible repeat (first | refine blk_drewN ?_ _ | refine blk_drew ?_ | refine blk_alloc ?_ _)); refine blk_put (cs := #[.int .i64 t335, .int .i64 x333001_1, .int .i64 x333002_1]) ?_ 1 _ rfl; (with_reducible repeat (first | refine blk_drewN ?_ _ | refine blk_drew ?_ | refine blk_alloc ?_ _)); refine blk_put (cs := #[.int .i64 x333000_1, .int .i64 x333001_1, .int .i64 x333002_1]) ?_ 0 _ rfl; (with_reducible repeat (first | refine blk_drewN ?_ _ | refine blk_drew ?_ | refine blk_alloc ?_ _)); refine blk_far ?_ NB332_339.out _; (with_reducible repeat (first | refine blk_drewN ?_ _ | refine blk_drew ?_ | refine blk_alloc ?_ _)); refine blk_far ?_ NB332_339.out _; (with_reducible repeat (first | refine blk_drewN ?_ _ | refine blk_drew ?_ | refine blk_alloc ?_ _)); refine blk_far ?_ NB332_339.out _; (with_reducible repeat (first | refine blk_drewN ?_ _ | refine blk_drew ?_ | refine blk_alloc ?_ _)); exact BK332.out) k_ hk, Kd.freshB (g := gb339) (o := .cells #[.int .i64 t335, .int .i64 t336, .int .i64 t337] 25 (0, 0)) (by (with_reducible repeat (first | refine blk_drewN ?_ _ | refine blk_drew ?_ | refine blk_alloc ?_ _)); refine blk_far ?_ NB339_332.out _; (with_reducible repeat (first | refine blk_drewN ?_ _ | refine blk_drew ?_ | refine blk_alloc ?_ _)); refine blk_far ?_ NB339_332.out _; (with_reducible repeat (first | refine blk_drewN ?_ _ | refine blk_drew ?_ | refine blk_alloc ?_ _)); refine blk_far ?_ NB339_332.out _; (with_reducible repeat (first | refine blk_drewN ?_ _ | refine blk_drew ?_ | refine blk_alloc ?_ _)); refine blk_put (cs := #[.int .i64 t335, .int .i64 t336, .int .i64 0]) ?_ 2 _ rfl; (with_reducible repeat (first | refine blk_drewN ?_ _ | refine blk_drew ?_ | refine blk_alloc ?_ _)); refine blk_put (cs := #[.int .i64 t335, .int .i64 0, .int .i64 0]) ?_ 1 _ rfl; (with_reducible repeat (first | refine blk_drewN ?_ _ | refine blk_drew ?_ | refine blk_alloc ?_ _)); refine blk_put (cs := #[.int .i64 0, .int .i64 0, .int .i64 0]) ?_ 0 _ rfl; (with_reducible repeat (first | refine blk_drewN ?_ _ | refine blk_drew ?_ | refine blk_alloc ?_ _)); exact BK339.out) k_ hk⟩)); (case aO => exact (R_at (Kd.R_mono (Kd.R_far (p := ⟨gb332, 2, none⟩) (Kd.R_far (p := ⟨gb332, 1, none⟩) (Kd.R_far (p := ⟨gb332, 0, none⟩) (Kd.R_far (p := ⟨gb339, 2, none⟩) (Kd.R_far (p := ⟨gb339, 1, none⟩) (Kd.R_far (p := ⟨gb339, 0, none⟩) (Kd.R_mono (Kd.R_mono HO_4.out (fun k_ hk => (⟨hk, hk.2⟩ : _ ∧ k_ ≠ gb339))) (fun k_ hk => (⟨hk, hk.1.1⟩ : _ ∧ k_ ≠ gb332))) (fun _ hk => hk.1.2) (.int .i64 t335)) (fun _ hk => hk.1.2) (.int .i64 t336)) (fun _ hk => hk.1.2) (.int .i64 t337)) (fun _ hk => hk.2) (.int .i64 t335)) (fun _ hk => hk.2) (.int .i64 t336)) (fun _ hk => hk.2) (.int .i64 t337)) (fun _ hk => ⟨hk.1.1.1, hk.1.1.2⟩)))); (case aS => exact (below_size bel_now)); (case aL => have := LMc18.out; omega); intro v341 w32 ho hb hg hat; rw [← Ny340.out] at ho; have n0_ := Aside0.mk (blk_grown (g := gb328) (o := .cells #[.int .i64 a0_0, .int .i64 a0_1, .int .i64 a0_2, .slice (some ad333) l0_3.length c0_3] 28 (0, 0)) (blk_fars BK328.out) hg (Kd.R_ne HO_4.out BK328.out (by decide))); have n1_ := Aside0.mk (blk_grown (g := gb332) (o := .cells #[.int .i64 t335, .int .i64 t336, .int .i64 t337] 25 (0, 0)) (by (with_reducible repeat (first | refine blk_drewN ?_ _ | refine blk_drew ?_ | refine blk_alloc ?_ _)); refine blk_put (cs := #[.int .i64 t335, .int .i64 t336, .int .i64 x333002_1]) ?_ 2 _ rfl; (with_reducible repeat (first | refine blk_drewN ?_ _ | refine blk_drew ?_ | refine blk_alloc ?_ _)); refine blk_put (cs := #[.int .i64 t335, .int .i64 x333001_1, .int .i64 x333002_1]) ?_ 1 _ rfl; (with_reducible repeat (first | refine blk_drewN ?_ _ | refine blk_drew ?_ | refine blk_alloc ?_ _)); refine blk_put (cs := #[.int .i64 x333000_1, .int .i64 x333001_1, .int .i64 x333002_1]) ?_ 0 _ rfl; (with_reducible repeat (first | refine blk_drewN ?_ _ | refine blk_drew ?_ | refine blk_alloc ?_ _)); refine blk_far ?_ NB332_339.out _; (with_reducible repeat (first | refine blk_drewN ?_ _ | refine blk_drew ?_ | refine blk_alloc ?_ _)); refine blk_far ?_ NB332_339.out _; (with_reducible repeat (first | refine blk_drewN ?_ _ | refine blk_drew ?_ | refine blk_alloc ?_ _)); refine blk_far ?_ NB332_339.out _; (with_reducible repeat (first | refine blk_drewN ?_ _ | refine blk_drew ?_ | refine blk_alloc ?_ _)); exact BK332.out) hg (Kd.R_away HO_4.out (fun _ hk => hk.1))); have n2_ := Aside0.mk (blk_grown (g := gb334) (o := .cells #[.int .i64 ((rd_T73 l0_3 x18_1).f0), .int .i64 ((rd_T73 l0_3 x18_1).f1), .int .i64 ((rd_T73 l0_3 x18_1).f2), .int .i64 ((rd_T73 l0_3 x18_1).f3), .int .i64 ((rd_T73 l0_3 x18_1).f4), .int .i64 ((rd_T73 l0_3 x18_1).f5), .int .i64 ((rd_T73 l0_3 x18_1).f6), .slice A333_7 ((rd_T73 l0_3 x18_1).f7).length c333_7, .slice A333_8 ((rd_T73 l0_3 x18_1).f8).length c333_8] 73 (0, 0)) (blk_fars BK334.out) hg (Kd.R_ne HO_4.out BK334.out (by decide))); have n3_ := Aside0.mk (blk_grown (g := gb339) (o := .cells #[.int .i64 t335, .int .i64 t336, .int .i64 t337] 25 (0, 0)) (by (with_reducible repeat (first | refine blk_drewN ?_ _ | refine blk_drew ?_ | refine blk_alloc ?_ _)); refine blk_far ?_ NB339_332.out _; (with_reducible repeat (first | refine blk_drewN ?_ _ | refine blk_drew ?_ | refine blk_alloc ?_ _)); refine blk_far ?_ NB339_332.out _; (with_reducible repeat (first | refine blk_drewN ?_ _ | refine blk_drew ?_ | refine blk_alloc ?_ _)); refine blk_far ?_ NB339_332.out _; (with_reducible repeat (first | refine blk_drewN ?_ _ | refine blk_drew ?_ | refine blk_alloc ?_ _)); refine blk_put (cs := #[.int .i64 t335, .int .i64 t336, .int .i64 0]) ?_ 2 _ rfl; (with_reducible repeat (first | refine blk_drewN ?_ _ | refine blk_drew ?_ | refine blk_alloc ?_ _)); refine blk_put (cs := #[.int .i64 t335, .int .i64 0, .int .i64 0]) ?_ 1 _ rfl; (with_reducible repeat (first | refine blk_drewN ?_ _ | refine blk_drew ?_ | refine blk_alloc ?_ _)); refine blk_put (cs := #[.int .i64 0, .int .i64 0, .int .i64 0]) ?_ 0 _ rfl; (with_reducible repeat (first | refine blk_drewN ?_ _ | refine blk_drew ?_ | refine blk_alloc ?_ _)); exact BK339.out) hg (Kd.R_away HO_4.out (fun _ hk => hk.2))); have n4_ := Aside0.mk (hb); have n5_ := Aside0.mk (ho); clear BK328; clear BK332; clear BK334; clear BK339; clear HB; clear HO_4; have BK328 := n0_; have BK332 := n1_; have BK334 := n2_; have BK339 := n3_; have HB := n4_; have HO342 := n5_; clear n0_ n1_ n2_ n3_ n4_ n5_; clear ho hb hg hat))
         go_roundg k1
         case measure => have := HK1.out; omega
         case rel => exact ⟨(y340), (wrap64 (x18_1 + 1)), (t335), (t336), (t337), (by first | rfl | (simp; done) | (simp [*]; done)), H', ⟨by have := HK1.out; omega⟩, ⟨by (with_reducible repeat (first | apply Kd.R_alloc | apply Kd.R_drewN | apply Kd.R_drew)); exact Kd.R_mono HO342.out (fun _ hk => hk.1)⟩, ⟨by (with_reducible repeat (first | refine blk_drewN ?_ _ | refine blk_drew ?_ | refine blk_alloc ?_ _)); exact BK328.out⟩, ⟨by (with_reducible repeat (first | refine blk_drewN ?_ _ | refine blk_drew ?_ | refine blk_alloc ?_ _)); exact BK332.out⟩, ⟨bel_now⟩⟩
        ·rw [if_neg c18] at H
         exact absurd H (by simp)
       ·replace c17 := Bool.eq_false_iff.mpr c17
        subst c17
        rw [if_neg (show ¬ (false = true) by decide)] at H
        simp only [Option.some.injEq, Prod.mk.injEq] at H
        obtain ⟨rfl, rfl⟩ := H
        have p333 : 0 ≤ (x18_1 : Int) := of_decide_eq_true (by first | (with_reducible assumption) | assumption)
        have q333 : x18_1 < (l0_3.length : Int) := of_decide_eq_true (by first | (with_reducible assumption) | assumption)
        obtain ⟨ad333, A333_7, c333_7, A333_8, c333_8, e333, hx333_0, hx333_1, hx333_2, hx333_3, hx333_4, hx333_5, hx333_6, hx333_7, hx333_8, hl333_7, hi333_7, hl333_8, hi333_8⟩ := at_T73 HR0_3.out x18_1 p333 q333
        cases e333
        replace hx333_0 := (HB.out.cell (World.block_lt_of_cell? w _ hx333_0)).trans hx333_0
        replace hx333_1 := (HB.out.cell (World.block_lt_of_cell? w _ hx333_1)).trans hx333_1
        replace hx333_2 := (HB.out.cell (World.block_lt_of_cell? w _ hx333_2)).trans hx333_2
        replace hx333_3 := (HB.out.cell (World.block_lt_of_cell? w _ hx333_3)).trans hx333_3
        replace hx333_4 := (HB.out.cell (World.block_lt_of_cell? w _ hx333_4)).trans hx333_4
        replace hx333_5 := (HB.out.cell (World.block_lt_of_cell? w _ hx333_5)).trans hx333_5
        replace hx333_6 := (HB.out.cell (World.block_lt_of_cell? w _ hx333_6)).trans hx333_6
        replace hx333_7 := (HB.out.cell (World.block_lt_of_cell? w _ hx333_7)).trans hx333_7
        replace hx333_8 := (HB.out.cell (World.block_lt_of_cell? w _ hx333_8)).trans hx333_8
        have HR333_7 := Aside0.mk hi333_7
        have HC333_7 := Aside0.mk hl333_7
        clear hi333_7 hl333_7
        have HR333_8 := Aside0.mk hi333_8
        have HC333_8 := Aside0.mk hl333_8
        clear hi333_8 hl333_8
        replace p333 := eq_true p333
        replace q333 := eq_true q333
        go_wp2_with (first | ((with_reducible refine gate_dst (N := 7) rfl ?_); refine boxM 7 #[.int .i64 0, .int .i64 0, .int .i64 0, .int .i64 0, .int .i64 0, .int .i64 0, .int .i64 0, .slice none 0 0, .slice none 0 0] 73 ?_; intro gb334 hg w33 BK334 hb; replace HB := box_at w hb hg; obtain ⟨HB, GW334, GE334⟩ := HB; replace BK328 := box_on gb328 hb hg; obtain ⟨BK328, NB328_334, NB334_328⟩ := BK328; replace BK332 := box_on gb332 hb hg; obtain ⟨BK332, NB332_334, NB334_332⟩ := BK332; replace HO_4 := Aside0.mk (Kd.R_below (R_at HO_4.out) hb); clear hb hg; have hnb34 := NB334_328.out; have hnc34 := NB328_334.out; have hnb35 := NB334_332.out; have hnc35 := NB332_334.out; obtain ⟨hcz36_0, hcz36_1, hcz36_2, hcz36_3, hcz36_4, hcz36_5, hcz36_6, hcz36_7, hcz36_8, hfz36_0, hfz36_1, hfz36_2, hfz36_3, hfz36_4, hfz36_5, hfz36_6, hfz36_7, hfz36_8⟩ := cells9 BK334.out; have hnb37 := NB332_328.out; have hnc37 := NB328_332.out; obtain ⟨hcz38_0, hcz38_1, hcz38_2, hfz38_0, hfz38_1, hfz38_2⟩ := cells3 BK332.out) | ((with_reducible refine gate_callee (f := 100) rfl ?_); refine goesM (some 25) rfl rfl Try.func100 (by kernel_rfl) rfl #[.agg #[.int .i64 x333000_1, .int .i64 x333001_1, .int .i64 x333002_1], .agg #[.int .i64 ((rd_T73 l0_3 x18_1).f0), .int .i64 ((rd_T73 l0_3 x18_1).f1), .int .i64 ((rd_T73 l0_3 x18_1).f2), .int .i64 ((rd_T73 l0_3 x18_1).f3), .int .i64 ((rd_T73 l0_3 x18_1).f4), .int .i64 ((rd_T73 l0_3 x18_1).f5), .int .i64 ((rd_T73 l0_3 x18_1).f6), .slice A333_7 ((rd_T73 l0_3 x18_1).f7).length c333_7, .slice A333_8 ((rd_T73 l0_3 x18_1).f8).length c333_8]] rfl ?_; (with_reducible refine (impl_OutShape.calls k1 x333000_1 x333001_1 x333002_1 ((rd_T73 l0_3 x18_1).f0) ((rd_T73 l0_3 x18_1).f1) ((rd_T73 l0_3 x18_1).f2) ((rd_T73 l0_3 x18_1).f3) ((rd_T73 l0_3 x18_1).f4) ((rd_T73 l0_3 x18_1).f5) ((rd_T73 l0_3 x18_1).f6) _ _ ((rd_T73 l0_3 x18_1).f7) _ _ ((rd_T73 l0_3 x18_1).f8) t335 t336 t337 false _ ?side1 ?side2 ?side3 ?side4 A16.out).mono ?_); (case side1 => exact C_now HR333_7.out); (case side2 => exact HC333_7.out); (case side3 => exact C_now HR333_8.out); (case side4 => exact HC333_8.out); rintro e w39 ⟨rfl, hb⟩; refine ⟨_, rfl, ?_⟩; have n0_ := Aside0.mk (Kd.R_below (R_at (R_far9 HO_4.out BK334.out (by decide))) hb); replace HB := bel_on w hb; replace BK328 := Aside0.mk (blk_below (g := gb328) (o := .cells #[.int .i64 a0_0, .int .i64 a0_1, .int .i64 a0_2, .slice (some ad333) l0_3.length c0_3] 28 (0, 0)) (blk_fars BK328.out) hb); replace BK332 := Aside0.mk (blk_below (g := gb332) (o := .cells #[.int .i64 x333000_1, .int .i64 x333001_1, .int .i64 x333002_1] 25 (0, 0)) (blk_fars BK332.out) hb); replace BK334 := Aside0.mk (blk_below (g := gb334) (o := .cells #[.int .i64 ((rd_T73 l0_3 x18_1).f0), .int .i64 ((rd_T73 l0_3 x18_1).f1), .int .i64 ((rd_T73 l0_3 x18_1).f2), .int .i64 ((rd_T73 l0_3 x18_1).f3), .int .i64 ((rd_T73 l0_3 x18_1).f4), .int .i64 ((rd_T73 l0_3 x18_1).f5), .int .i64 ((rd_T73 l0_3 x18_1).f6), .slice A333_7 ((rd_T73 l0_3 x18_1).f7).length c333_7, .slice A333_8 ((rd_T73 l0_3 x18_1).f8).length c333_8] 73 (0, 0)) (by (with_reducible repeat (first | refine blk_drewN ?_ _ | refine blk_drew ?_ | refine blk_alloc ?_ _)); first | exact putl9 BK334.out | exact blk_fars (putl9 BK334.out)) hb); clear HO_4; have HO_4 := n0_; clear n0_; (try clear hb)) | ((with_reducible refine gate_dst (N := 8) rfl ?_); refine boxM 8 #[.int .i64 0, .int .i64 0, .int .i64 0] 25 ?_; intro gb339 hg w40 BK339 hb; replace HB := box_at w hb hg; obtain ⟨HB, GW339, GE339⟩ := HB; replace BK328 := box_on gb328 hb hg; obtain ⟨BK328, NB328_339, NB339_328⟩ := BK328; replace BK332 := box_on gb332 hb hg; obtain ⟨BK332, NB332_339, NB339_332⟩ := BK332; replace BK334 := box_on gb334 hb hg; obtain ⟨BK334, NB334_339, NB339_334⟩ := BK334; replace HO_4 := Aside0.mk (Kd.R_below (Kd.R_elderB (R_at HO_4.out) gb339 (Nat.le_of_eq hg.symm)) hb); clear hb hg; have hnb41 := NB339_328.out; have hnc41 := NB328_339.out; have hnb42 := NB339_332.out; have hnc42 := NB332_339.out; have hnb43 := NB339_334.out; have hnc43 := NB334_339.out; obtain ⟨hcz44_0, hcz44_1, hcz44_2, hfz44_0, hfz44_1, hfz44_2⟩ := cells3 BK339.out))
        go_ret2
        exact ⟨_, eqN, by first | exact Kd.R_nil _ _ _ _ _ | exact Kd.N_nil _ _ _ _ _ | exact Kd.V_nil _ _ _ _ _ | exact Kd.Q_nil _ _ _ _ _ | exact Kd.S_nil _ _ _ _ _, bel_now⟩
      ·rw [if_neg c15] at H
       exact absurd H (by simp)
     ·rw [if_neg c14] at H
      exact absurd H (by simp)
    ·rw [if_neg c13] at H
     have c13b0 : decide (x18_1 < (l0_3.length : Int)) = false := decide_eq_false c13
     clear c13
     simp only [Option.some.injEq, Prod.mk.injEq] at H
     obtain ⟨rfl, rfl⟩ := H
     go_wp2
     go_ret2
     exact ⟨_, eqN, by (with_reducible repeat (first | apply Kd.R_alloc | apply Kd.R_drewN | apply Kd.R_drew)); exact Kd.R_mono HO_4.out (fun _ hk => trivial), bel_now⟩

/-! ### impl_ModelOk: function 51 -/
def impl_ModelOk.f (k : Nat) (a0_0 : Int) (a0_1 : Int) (a0_2 : Int) (l0_3 : List (S73)) : Option (Bool) := (impl_in.f (l0_3.length : Int) 1 6).bind fun t344 => (if t344 = true then ((impl_Model_shapes.f k a0_0 a0_1 a0_2 l0_3).bind fun bt345 => (some bt345.2)) else (some false))
set_option maxHeartbeats 8000000 in
set_option maxRecDepth 100000 in
theorem impl_ModelOk.calls (k : Nat) (a0_0 : Int) (a0_1 : Int) (a0_2 : Int) (A0_3 : Option Addr) (c0_3 : Nat) (l0_3 : List (S73)) (r : Bool) (w : World) (hr0_3 : Kd.C k73 w A0_3 l0_3.length l0_3) (hc0_3 : l0_3.length ≤ c0_3) (h : impl_ModelOk.f k a0_0 a0_1 a0_2 l0_3 = some r) :
   Calls Try.prog 51 #[.agg #[.int .i64 a0_0, .int .i64 a0_1, .int .i64 a0_2, .slice A0_3 l0_3.length c0_3]] w fun e w' => e = .returned (.bool r) ∧ Below w.heap.size w w' := by
  have hu28 := Try.underlying28
  have HR0_3 := Aside0.mk hr0_3
  have HC0_3 := Aside0.mk hc0_3
  clear hr0_3 hc0_3
  have HB := Aside0.mk (Below.refl w.heap.size w)
  have H : ((impl_in.f (l0_3.length : Int) 1 6).bind fun t344 => (if t344 = true then ((impl_Model_shapes.f k a0_0 a0_1 a0_2 l0_3).bind fun bt345 => (some bt345.2)) else (some false))) = some r := h
  clear h
  replace H := Option.bind_eq_some_iff.mp H
  obtain ⟨t344, A20, H⟩ := H
  (try dsimp only at H)
  have A2 := Aside0.mk A20
  clear A20
  by_cases c3 : t344 = true
  ·subst c3
   rw [if_pos rfl] at H
   replace H := Option.bind_eq_some_iff.mp H
   obtain ⟨⟨t345, t348⟩, A40, H⟩ := H
   (try dsimp only at H)
   have A4 := Aside0.mk A40
   clear A40
   obtain rfl := Option.some.inj H
   go_enter Try.func51, Try.ntmps51
   go_wp2_with (first | ((with_reducible refine gate_dst (N := 1) rfl ?_); refine boxM 1 #[.int .i64 a0_0, .int .i64 a0_1, .int .i64 a0_2, .slice A0_3 l0_3.length c0_3] 28 ?_; intro gb343 hg w5 BK343 hb; replace HB := box_at w hb hg; obtain ⟨HB, GW343, GE343⟩ := HB; clear hb hg; obtain ⟨hcz6_0, hcz6_1, hcz6_2, hcz6_3, hfz6_0, hfz6_1, hfz6_2, hfz6_3⟩ := cells4 BK343.out) | ((with_reducible refine gate_callee (f := 82) rfl ?_); refine goesM (some 8) rfl rfl Try.func82 (by kernel_rfl) rfl #[.int .i64 (l0_3.length : Int), .int .i64 1, .int .i64 6] rfl ?_; (with_reducible refine (impl_in.calls (l0_3.length : Int) 1 6 true _ A2.out).mono ?_); rintro e w' ⟨rfl, ⟨nd, rfl⟩⟩; refine ⟨_, rfl, ?_⟩) | ((with_reducible refine gate_callee (f := 70) rfl ?_); refine goesM (some 12) rfl rfl Try.func70 (by kernel_rfl) rfl #[.agg #[.int .i64 a0_0, .int .i64 a0_1, .int .i64 a0_2, .slice A0_3 l0_3.length c0_3]] rfl ?_; (with_reducible refine (impl_Model_shapes.calls k a0_0 a0_1 a0_2 _ _ l0_3 t345 t348 _ ?side1 ?side2 A4.out).mono ?_); (case side1 => exact C_now HR0_3.out); (case side2 => exact HC0_3.out); rintro e w7 ⟨v346, rfl, ho0, hb⟩; refine ⟨_, rfl, ?_⟩; have n0_ := Aside0.mk (Kd.R_lower ho0 (below_size bel_now)); replace HB := bel_on w hb; replace BK343 := blk_on gb343 hb; have HO347 := n0_; clear n0_; (try clear hb); (try clear ho0)))
   go_ret
   exact ⟨eqN, bel_now⟩
  ·replace c3 := Bool.eq_false_iff.mpr c3
   subst c3
   rw [if_neg (show ¬ (false = true) by decide)] at H
   obtain rfl := Option.some.inj H
   go_enter Try.func51, Try.ntmps51
   go_wp2_with (first | ((with_reducible refine gate_dst (N := 1) rfl ?_); refine boxM 1 #[.int .i64 a0_0, .int .i64 a0_1, .int .i64 a0_2, .slice A0_3 l0_3.length c0_3] 28 ?_; intro gb343 hg w8 BK343 hb; replace HB := box_at w hb hg; obtain ⟨HB, GW343, GE343⟩ := HB; clear hb hg; obtain ⟨hcz9_0, hcz9_1, hcz9_2, hcz9_3, hfz9_0, hfz9_1, hfz9_2, hfz9_3⟩ := cells4 BK343.out) | ((with_reducible refine gate_callee (f := 82) rfl ?_); refine goesM (some 8) rfl rfl Try.func82 (by kernel_rfl) rfl #[.int .i64 (l0_3.length : Int), .int .i64 1, .int .i64 6] rfl ?_; (with_reducible refine (impl_in.calls (l0_3.length : Int) 1 6 false _ A2.out).mono ?_); rintro e w' ⟨rfl, ⟨nd, rfl⟩⟩; refine ⟨_, rfl, ?_⟩))
   go_ret
   exact ⟨eqN, bel_now⟩

end Go.Proofs.Ytljdcemdhmaahaa.PFnExactJobDone
