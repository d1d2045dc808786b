-- Printed by the session's own program (wip/myprint.py) for this claim out of the translation. Not trusted: Lean checks it.
import Derived.Test.YtljdcemdhmaahaaPFnExactEncodeModelx0
import Derived.Test.YtljdcemdhmaahaaPFnExactEncodeModelx6
import Derived.Test.YtljdcemdhmaahaaPFnExactEncodeModelx9
namespace Go.Proofs.Ytljdcemdhmaahaa.PFnExactEncodeModel
open Go.RowKit Go.Proofs.YtljdcemdhmaahaaW.PrintWords Go.Proofs.YtljdcemdhmaahaaW.PrintLast Go.Proofs.YtljdcemdhmaahaaW.PrintMore
attribute [local go_sem] max2_int min2_int max_two min_two max_three min_three max_four min_four   -- for this text's walks alone
set_option linter.unusedVariables false
set_option linter.unusedSimpArgs false

/-! ### impl_Model_shapes: function 70 -/
def impl_Model_shapes.l0 : Nat → List (S25) → List (S73) → Int → Int → Int → Int → Int → Option ((List (S25)) × Bool)
  | 0, _, _, _, _, _, _, _ => none
  | k + 1, x4, x16, x17, x18, x320000, x320001, x320002 => if x18 < x17 then (if 0 ≤ x18 then (if x18 < (x16.length : Int) then ((impl_OutShape.f k x320000 x320001 x320002 ((rd_T73 x16 x18).f0) ((rd_T73 x16 x18).f1) ((rd_T73 x16 x18).f2) ((rd_T73 x16 x18).f3) ((rd_T73 x16 x18).f4) ((rd_T73 x16 x18).f5) ((rd_T73 x16 x18).f6) ((rd_T73 x16 x18).f7) ((rd_T73 x16 x18).f8)).bind fun bt322 => (if bt322.2.2.2 = true then (if x4.length < 5864062014805 then (impl_Model_shapes.l0 k (x4 ++ [(⟨bt322.1, bt322.2.1, bt322.2.2.1⟩ : S25)]) x16 x17 (wrap64 (x18 + 1)) bt322.1 bt322.2.1 bt322.2.2.1) else (none)) else (some (([] : List (S25)), false)))) else (none)) else (none)) else (some (x4, true))
def impl_Model_shapes.f (k : Nat) (a0_0 : Int) (a0_1 : Int) (a0_2 : Int) (l0_3 : List (S73)) : Option ((List (S25)) × Bool) := impl_Model_shapes.l0 k (([(⟨a0_0, a0_1, a0_2⟩ : S25)] : List (S25))) l0_3 (l0_3.length : Int) 0 a0_0 a0_1 a0_2
def impl_Model_shapes.T1 : Bool × List (List Nat × List Nat) := (true, [([], []), ([0], [0]), ([1], [1]), ([], []), ([3], [3]), ([], []), ([2, 0, 1, 2, 5], [2]), ([5, 4, 6, 0, 1, 2, 3, 4, 5, 6], [4, 5])])
def impl_Model_shapes.B1 : List Nat := [0, 1, 3, 0, 8, 0, 39, 127]
theorem impl_Model_shapes.tab1 : rtab .any (opsOf Try.f70 1) = impl_Model_shapes.T1 := by kernel_rfl
theorem impl_Model_shapes.bits1 : waitsOk impl_Model_shapes.T1.2 impl_Model_shapes.B1 = true := by kernel_rfl
set_option maxHeartbeats 8000000 in
set_option maxRecDepth 100000 in
theorem impl_Model_shapes.calls (k : Nat) (a0_0 : Int) (a0_1 : Int) (a0_2 : Int) (A0_3 : Option Addr) (c0_3 : Nat) (l0_3 : List (S73)) (r1 : List (S25)) (r2 : Bool) (w : World) (hr0_3 : Kd.C k73 w A0_3 l0_3.length l0_3) (hc0_3 : l0_3.length ≤ c0_3) (h : impl_Model_shapes.f k a0_0 a0_1 a0_2 l0_3 = some (r1, r2)) :
   Calls Try.prog 70 #[.agg #[.int .i64 a0_0, .int .i64 a0_1, .int .i64 a0_2, .slice A0_3 l0_3.length c0_3]] w fun e w' => ∃ v0_ : Value, e = .returned (.tuple #[v0_, .bool r2]) ∧ Kd.R k25 25 w' w.heap.size (fun _ => True) v0_ r1 ∧ Below w.heap.size w w' := by
  have hu28 := Try.underlying28
  have hu25 := Try.underlying25
  have hu73 := Try.underlying73
  have HR0_3 := Aside0.mk hr0_3
  have HC0_3 := Aside0.mk hc0_3
  clear hr0_3 hc0_3
  have HB := Aside0.mk (Below.refl w.heap.size w)
  have H : (impl_Model_shapes.l0 k (([(⟨a0_0, a0_1, a0_2⟩ : S25)] : List (S25))) l0_3 (l0_3.length : Int) 0 a0_0 a0_1 a0_2) = some (r1, r2) := h
  clear h
  obtain ⟨y316, hy316⟩ : ∃ y_ : List (S25), y_ = (([(⟨a0_0, a0_1, a0_2⟩ : S25)] : List (S25))) := ⟨_, rfl⟩
  replace H : (impl_Model_shapes.l0 k y316 l0_3 (l0_3.length : Int) 0 a0_0 a0_1 a0_2) = some (r1, r2) := by first | (rw [hy316]; with_reducible exact H) | (have H2_ := (Option.bind_some _ _).symm.trans H; rw [hy316]; with_reducible exact H2_) | (have H2_ := (Option.bind_some _ _).symm.trans H; with_reducible exact H2_) | with_reducible exact H | (rw [hy316]; exact H) | exact H
  have Ny316 := Aside0.mk hy316
  clear hy316
  have H' := Aside0.mk H
  clear H
  go_enter Try.func70, Try.ntmps70
  try go_wp2_with (first | ((with_reducible refine gate_dst (N := 1) rfl ?_); refine boxM 1 #[.int .i64 a0_0, .int .i64 a0_1, .int .i64 a0_2, .slice A0_3 l0_3.length c0_3] 28 ?_; intro gb315 hg w2 BK315 hb; replace HB := box_at w hb hg; obtain ⟨HB, GW315, GE315⟩ := HB; clear hb hg))
  replace BK315 := Aside0.mk (blk_drew BK315.out)
  replace HB := Aside0.mk (below_drew1 HB.out)
  refine start_ (n := 8) (S := fun w' => w'.cell? ⟨gb315, 0, none⟩ = some (.int .i64 a0_0) ∧ w'.cell? ⟨gb315, 1, none⟩ = some (.int .i64 a0_1) ∧ w'.cell? ⟨gb315, 2, none⟩ = some (.int .i64 a0_2) ∧ w'.cell? ⟨gb315, 3, none⟩ = some (.slice A0_3 l0_3.length c0_3)) (ds := []) #[O, O, O, O, O, O, O, O] (by kernel_rfl) rfl rfl ⟨bc BK315 0, bc BK315 1, bc BK315 2, bc BK315 3⟩ (fun hHeld => ?_); refine with_tabW impl_Model_shapes.tab1 impl_Model_shapes.bits1 (fun HT_ HW_ => ?_)
  generalize w2.drew = w3 at BK315 HB hHeld ⊢
  refine stepP 0 (some 10) (tk 8 1) (any_of HT_.out (by kernel_rfl)) ?_
  refine stepP 3 (some 13) (tk 8 9) (any_of HT_.out (by kernel_rfl)) ?_
  refine stepT 1 (some 11) (tk 8 11) (take_ofW HT_.out HW_.out (by kernel_rfl)) hHeld ?_
  refine stepT 4 (some 14) (tk 8 27) (take_ofW HT_.out HW_.out (by kernel_rfl)) hHeld ?_
  refine join_ (σ := Value × Nat) 2 #[I, I, I, I, I, I, O, O] (fun s_ => [(12, s_.1), (5, .pointer (some ⟨s_.2, 0, none⟩))]) (fun s_ w' => (w'.cell? ⟨gb315, 0, none⟩ = some (.int .i64 a0_0) ∧ w'.cell? ⟨gb315, 1, none⟩ = some (.int .i64 a0_1) ∧ w'.cell? ⟨gb315, 2, none⟩ = some (.int .i64 a0_2) ∧ w'.cell? ⟨gb315, 3, none⟩ = some (.slice A0_3 l0_3.length c0_3)) ∧ (Kd.R k25 25 w' w.heap.size (fun k_ => k_ ≠ s_.2) s_.1 y316) ∧ (w'.heap[gb315]? = some (.cells #[.int .i64 a0_0, .int .i64 a0_1, .int .i64 a0_2, .slice A0_3 l0_3.length c0_3] 28 (0, 0))) ∧ (w'.heap[s_.2]? = some (.cells #[.int .i64 0, .int .i64 0, .int .i64 0] 25 (0, 0))) ∧ (w.heap.size ≤ s_.2) ∧ (w.heap.size ≤ s_.2) ∧ (gb315 ≠ s_.2) ∧ (s_.2 ≠ gb315) ∧ (Below w.heap.size w w')) ?_ ?_
  rotate_left
  ·intro hCont
   refine two_ (i := 2) (j := 5) (Ni := some 12) (Nj := some 5) #[I, I, I, I, I, O, O, O] #[I, I, O, I, I, I, O, O] rfl rfl rfl rfl (two_of HT_.out (by kernel_rfl)) (by decide) (by decide) (fun K hK => ?_) (fun K hK => ?_)
   ·skip
    refine Kd.R_lit_step k25 _ 25 ?hg (N := 12) ?hd (xs := ([(⟨a0_0, a0_1, a0_2⟩ : S25)] : List (S25))) (inner := [.int .i64 a0_0, .int .i64 a0_1, .int .i64 a0_2]) (ok := fun _ => True) (okp := fun _ => True) ?hr ?hp (fun _ hk => hk) trivial (Below.refl _ _) (Nat.le_refl _) (by simp) ?_; (case hd => rfl); (case hg => rfl); (case hr => first | (go_simp; done) | (go_simp; rfl)); (case hp => exact (Reps.c3 (show Kd.M k25 _ _ _ (⟨a0_0, a0_1, a0_2⟩ : S25) [.int .i64 a0_0, .int .i64 a0_1, .int .i64 a0_2] from (k25_mkM _ _ _ (⟨a0_0, a0_1, a0_2⟩ : S25) )) (Reps.none _ _)))
    intro v317 w4 ho5 hb hg_ hnew_
    clear hg_ hnew_
    (first | rw [← Ny316.out] at ho5 | (simp only [Int.reduceToNat] at ho5; rw [← Ny316.out] at ho5))
    have n0_ := Aside0.mk (Kd.R_lower ho5 (below_size bel_now))
    replace BK315 := blk_on gb315 hb
    replace HB := bel_on w hb
    have HO318 := n0_
    clear n0_
    clear hb ho5
    refine hK.out _ _ ⟨bc BK315 0, bc BK315 1, bc BK315 2, bc BK315 3⟩ (fun hHeld => ?_)
    clear hK K
    refine normP 12 ?_
    refine one_ (i := 5) (N := some 5) #[I, I, I, I, I, I, O, O] rfl rfl (one_of HT_.out (by kernel_rfl)) (by decide) (fun K hK => ?_)
    refine box_step ?hg (N := 5) ?hd (cs := #[.int .i64 0, .int .i64 0, .int .i64 0]) (t := 25) ?hr ?_; (case hd => rfl); (case hg => rfl); (case hr => first | (go_simp; done) | (go_simp; rfl))
    intro gb319 hg w6 hbox hb
    have n3_ := Aside0.mk (hbox)
    have n4_ := Aside0.mk ((by rw [hg]; exact (below_size bel_now) : w.heap.size ≤ gb319))
    have n5_ := Aside0.mk ((by rw [hg]; exact (below_size bel_now) : w.heap.size ≤ gb319))
    have n6_ := Aside0.mk ((by rw [hg]; exact Nat.ne_of_lt (blk_lt (g := gb315) blk_now) : gb315 ≠ gb319))
    have n7_ := Aside0.mk ((by rw [hg]; exact Nat.ne_of_gt (blk_lt (g := gb315) blk_now) : gb319 ≠ gb315))
    replace HO318 := Aside0.mk (Kd.R_below (Kd.R_elderB (R_at HO318.out) gb319 (Nat.le_of_eq hg.symm)) hb)
    replace BK315 := blk_on gb315 hb
    replace HB := bel_on w hb
    have BK319 := n3_
    have GW319 := n4_
    have GE319 := n5_
    have NB315_319 := n6_
    have NB319_315 := n7_
    clear n3_ n4_ n5_ n6_ n7_
    clear hb hbox hg
    refine hK.out _ _ ⟨bc BK315 0, bc BK315 1, bc BK315 2, bc BK315 3⟩ (fun hHeld => ?_)
    clear hK K
    refine normP 5 ?_
    exact norm_ (by simp only [putAll, Act.put, zA, zB, zC]) (hCont (v317, gb319) _ ⟨hHeld, (R_at (Kd.R_mono HO318.out (fun _ hk => by first | exact hk.2 | exact trivial))), blk_now, blk_now, GW319.out, GE319.out, NB315_319.out, NB319_315.out, bel_now⟩)
   skip
   refine box_step ?hg (N := 5) ?hd (cs := #[.int .i64 0, .int .i64 0, .int .i64 0]) (t := 25) ?hr ?_; (case hd => rfl); (case hg => rfl); (case hr => first | (go_simp; done) | (go_simp; rfl))
   intro gb319 hg w4 hbox hb
   have n2_ := Aside0.mk (hbox)
   have n3_ := Aside0.mk ((by rw [hg]; exact (below_size bel_now) : w.heap.size ≤ gb319))
   have n4_ := Aside0.mk ((by rw [hg]; exact (below_size bel_now) : w.heap.size ≤ gb319))
   have n5_ := Aside0.mk ((by rw [hg]; exact Nat.ne_of_lt (blk_lt (g := gb315) blk_now) : gb315 ≠ gb319))
   have n6_ := Aside0.mk ((by rw [hg]; exact Nat.ne_of_gt (blk_lt (g := gb315) blk_now) : gb319 ≠ gb315))
   replace BK315 := blk_on gb315 hb
   replace HB := bel_on w hb
   have BK319 := n2_
   have GW319 := n3_
   have GE319 := n4_
   have NB315_319 := n5_
   have NB319_315 := n6_
   clear n2_ n3_ n4_ n5_ n6_
   clear hb hbox hg
   refine hK.out _ _ ⟨bc BK315 0, bc BK315 1, bc BK315 2, bc BK315 3⟩ (fun hHeld => ?_)
   clear hK K
   refine normP 5 ?_
   refine one_ (i := 2) (N := some 12) #[I, I, I, I, I, I, O, O] rfl rfl (one_of HT_.out (by kernel_rfl)) (by decide) (fun K hK => ?_)
   refine Kd.R_lit_step k25 _ 25 ?hg (N := 12) ?hd (xs := ([(⟨a0_0, a0_1, a0_2⟩ : S25)] : List (S25))) (inner := [.int .i64 a0_0, .int .i64 a0_1, .int .i64 a0_2]) (ok := fun _ => True) (okp := fun _ => True) ?hr ?hp (fun _ hk => hk) trivial (Below.refl _ _) (Nat.le_refl _) (by simp) ?_; (case hd => rfl); (case hg => rfl); (case hr => first | (go_simp; done) | (go_simp; rfl)); (case hp => exact (Reps.c3 (show Kd.M k25 _ _ _ (⟨a0_0, a0_1, a0_2⟩ : S25) [.int .i64 a0_0, .int .i64 a0_1, .int .i64 a0_2] from (k25_mkM _ _ _ (⟨a0_0, a0_1, a0_2⟩ : S25) )) (Reps.none _ _)))
   intro v317 w5 ho6 hb hg_ hnew_
   clear hg_ hnew_
   (first | rw [← Ny316.out] at ho6 | (simp only [Int.reduceToNat] at ho6; rw [← Ny316.out] at ho6))
   have n0_ := Aside0.mk (Kd.R_lower (Kd.R_newB ho6 (g := gb319) blk_now) (below_size bel_now))
   replace BK315 := blk_on gb315 hb
   replace BK319 := blk_on gb319 hb
   replace HB := bel_on w hb
   have HO318 := n0_
   clear n0_
   clear hb ho6
   refine hK.out _ _ ⟨bc BK315 0, bc BK315 1, bc BK315 2, bc BK315 3⟩ (fun hHeld => ?_)
   clear hK K
   refine normP 12 ?_
   exact norm_ (by simp only [putAll, Act.put, zA, zB, zC]) (hCont (v317, gb319) _ ⟨hHeld, (R_at (Kd.R_mono HO318.out (fun _ hk => by first | exact hk.2 | exact trivial))), blk_now, blk_now, GW319.out, GE319.out, NB315_319.out, NB319_315.out, bel_now⟩)
  rintro ⟨v317, gb319⟩ w7 ⟨hS_, h0_, h1_, h2_, h3_, h4_, h5_, h6_, h7_⟩
  have n0_ : Aside0 (Kd.R k25 25 w7 w.heap.size (fun k_ => k_ ≠ gb319) v317 y316) := ⟨h0_⟩
  have n1_ : Aside0 (w7.heap[gb315]? = some (.cells #[.int .i64 a0_0, .int .i64 a0_1, .int .i64 a0_2, .slice A0_3 l0_3.length c0_3] 28 (0, 0))) := ⟨h1_⟩
  have n2_ : Aside0 (w7.heap[gb319]? = some (.cells #[.int .i64 0, .int .i64 0, .int .i64 0] 25 (0, 0))) := ⟨h2_⟩
  have n3_ : Aside0 (w.heap.size ≤ gb319) := ⟨h3_⟩
  have n4_ : Aside0 (w.heap.size ≤ gb319) := ⟨h4_⟩
  have n5_ : Aside0 (gb315 ≠ gb319) := ⟨h5_⟩
  have n6_ : Aside0 (gb319 ≠ gb315) := ⟨h6_⟩
  have n7_ : Aside0 (Below w.heap.size w w7) := ⟨h7_⟩
  clear BK315
  clear HB
  clear h0_ h1_ h2_ h3_ h4_ h5_ h6_ h7_
  have HO318 := n0_
  have BK315 := n1_
  have BK319 := n2_
  have GW319 := n3_
  have GE319 := n4_
  have NB315_319 := n5_
  have NB319_315 := n6_
  have HB := n7_
  clear n0_ n1_ n2_ n3_ n4_ n5_ n6_ n7_
  have hHeld : w7.cell? ⟨gb315, 0, none⟩ = some (.int .i64 a0_0) ∧ w7.cell? ⟨gb315, 1, none⟩ = some (.int .i64 a0_1) ∧ w7.cell? ⟨gb315, 2, none⟩ = some (.int .i64 a0_2) ∧ w7.cell? ⟨gb315, 3, none⟩ = some (.slice A0_3 l0_3.length c0_3) := hS_
  refine norm_ (a' := ?_) ?_ ?_
  rotate_left
  ·simp only [putAll, Act.put, zA, zB, zC]
   rfl
  refine stepP 6 (some 4) (tk 8 127) (any_of HT_.out (by kernel_rfl)) ?_
  refine one_ (i := 7) (N := none) #[I, I, I, I, I, I, I, I] rfl rfl (one_of HT_.out (by kernel_rfl)) (by decide) (fun K hK => ?_)
  have hs8 : w7.cell? ⟨gb319, 0, none⟩ = some (.int .i64 0) := (blk_cell BK319.out 0).trans rfl
  have hfs8 := blk_frozen BK319.out 0
  have hns8_0 := NB315_319.out
  have hms8_0 := NB319_315.out
  have hs9 : w7.cell? ⟨gb319, 1, none⟩ = some (.int .i64 0) := (blk_cell BK319.out 1).trans rfl
  have hfs9 := blk_frozen BK319.out 1
  have hns9_0 := NB315_319.out
  have hms9_0 := NB319_315.out
  have hs10 : w7.cell? ⟨gb319, 2, none⟩ = some (.int .i64 0) := (blk_cell BK319.out 2).trans rfl
  have hfs10 := blk_frozen BK319.out 2
  have hns10_0 := NB315_319.out
  have hms10_0 := NB319_315.out
  refine skip_ (w1 := ?_) (by rfl) rfl ?_ ?_
  rotate_left
  ·go_simp
   rfl
  refine hK.out _ _ ⟨((cell_far (p := ⟨gb319, _, none⟩) NB315_319.out _).trans (((cell_far (p := ⟨gb319, _, none⟩) NB315_319.out _).trans (((cell_far (p := ⟨gb319, _, none⟩) NB315_319.out _).trans (hHeld.1)))))), ((cell_far (p := ⟨gb319, _, none⟩) NB315_319.out _).trans (((cell_far (p := ⟨gb319, _, none⟩) NB315_319.out _).trans (((cell_far (p := ⟨gb319, _, none⟩) NB315_319.out _).trans (hHeld.2.1)))))), ((cell_far (p := ⟨gb319, _, none⟩) NB315_319.out _).trans (((cell_far (p := ⟨gb319, _, none⟩) NB315_319.out _).trans (((cell_far (p := ⟨gb319, _, none⟩) NB315_319.out _).trans (hHeld.2.2.1)))))), ((cell_far (p := ⟨gb319, _, none⟩) NB315_319.out _).trans (((cell_far (p := ⟨gb319, _, none⟩) NB315_319.out _).trans (((cell_far (p := ⟨gb319, _, none⟩) NB315_319.out _).trans (hHeld.2.2.2))))))⟩ (fun hHeld => ?_)
  clear hK K
  refine done_ (done_of HT_.out (by kernel_rfl)) ?_
  have hn11 := ne2 NB315_319
  have hcz12 := cells4 BK315.out
  try go_wp2
  go_loopg [4, 18] k (fun kq v4 v18 w' => ∃ (x4_1 : List (S25)) (x18_1 : Int) (x320000_1 : Int) (x320001_1 : Int) (x320002_1 : Int), v18 = .int .i64 x18_1 ∧ Aside0 (impl_Model_shapes.l0 kq x4_1 l0_3 (l0_3.length : Int) x18_1 x320000_1 x320001_1 x320002_1 = some (r1, r2)) ∧ Aside0 (kq ≤ k) ∧ Aside0 (Kd.R k25 25 w' w.heap.size (fun k_ => k_ ≠ gb319) v4 x4_1) ∧ Aside0 (w'.heap[gb315]? = some (.cells #[.int .i64 a0_0, .int .i64 a0_1, .int .i64 a0_2, (.slice A0_3 l0_3.length c0_3)] 28 (0, 0))) ∧ Aside0 (w'.heap[gb319]? = some (.cells #[.int .i64 x320000_1, .int .i64 x320001_1, .int .i64 x320002_1] 25 (0, 0))) ∧ Aside0 (Below w.heap.size w w'))
  case atStart => exact ⟨(y316), (0), (a0_0), (a0_1), (a0_2), (by first | rfl | (simp; done) | (simp [*]; done)), H', ⟨Nat.le_refl _⟩, ⟨by (with_reducible repeat (first | apply Kd.R_alloc | apply Kd.R_drewN | apply Kd.R_drew)); exact Kd.R_mono (Kd.R_far (p := ⟨gb319, 2, none⟩) (Kd.R_far (p := ⟨gb319, 1, none⟩) (Kd.R_far (p := ⟨gb319, 0, none⟩) (Kd.R_mono HO318.out (fun k_ hk => (⟨hk, hk⟩ : _ ∧ k_ ≠ gb319))) (fun _ hk => hk.2) (.int .i64 a0_0)) (fun _ hk => hk.2) (.int .i64 a0_1)) (fun _ hk => hk.2) (.int .i64 a0_2)) (fun _ hk => hk.1)⟩, ⟨by (with_reducible repeat (first | refine blk_drewN ?_ _ | refine blk_drew ?_ | refine blk_alloc ?_ _)); refine blk_far ?_ NB315_319.out _; (with_reducible repeat (first | refine blk_drewN ?_ _ | refine blk_drew ?_ | refine blk_alloc ?_ _)); refine blk_far ?_ NB315_319.out _; (with_reducible repeat (first | refine blk_drewN ?_ _ | refine blk_drew ?_ | refine blk_alloc ?_ _)); refine blk_far ?_ NB315_319.out _; (with_reducible repeat (first | refine blk_drewN ?_ _ | refine blk_drew ?_ | refine blk_alloc ?_ _)); exact BK315.out⟩, ⟨by (with_reducible repeat (first | refine blk_drewN ?_ _ | refine blk_drew ?_ | refine blk_alloc ?_ _)); refine blk_put (cs := #[.int .i64 a0_0, .int .i64 a0_1, .int .i64 0]) ?_ 2 _ rfl; (with_reducible repeat (first | refine blk_drewN ?_ _ | refine blk_drew ?_ | refine blk_alloc ?_ _)); refine blk_put (cs := #[.int .i64 a0_0, .int .i64 0, .int .i64 0]) ?_ 1 _ rfl; (with_reducible repeat (first | refine blk_drewN ?_ _ | refine blk_drew ?_ | refine blk_alloc ?_ _)); refine blk_put (cs := #[.int .i64 0, .int .i64 0, .int .i64 0]) ?_ 0 _ rfl; (with_reducible repeat (first | refine blk_drewN ?_ _ | refine blk_drew ?_ | refine blk_alloc ?_ _)); exact BK319.out⟩, ⟨bel_now⟩⟩
  case round =>
   clear H'
   try clear c1
   try clear p2
   try clear c3
   try clear c7
   try clear c11
   try clear hcz12
   obtain ⟨x4_1, x18_1, x320000_1, x320001_1, x320002_1, rfl, HA, HK1, HO_4, BK315, BK319, HB⟩ := hrel
   cases gk with
   | zero => exact absurd HA.out (by simp [impl_Model_shapes.l0])
   | succ k1 =>
    have H := HA.out
    clear HA
    simp only [impl_Model_shapes.l0] at H
    by_cases c13 : x18_1 < (l0_3.length : Int)
    rotate_left
    ·rw [if_neg c13] at H
     have c13b0 : decide (x18_1 < (l0_3.length : Int)) = false := decide_eq_false c13
     clear c13
     simp only [Option.some.injEq, Prod.mk.injEq] at H
     obtain ⟨rfl, rfl⟩ := H
     go_wp2
     go_ret2
     exact ⟨_, eqN, by (with_reducible repeat (first | apply Kd.R_alloc | apply Kd.R_drewN | apply Kd.R_drew)); exact Kd.R_mono HO_4.out (fun _ hk => trivial), bel_now⟩
    rw [if_pos c13] at H
    have c13b0 : decide (x18_1 < (l0_3.length : Int)) = true := decide_eq_true c13
    clear c13
    by_cases c14 : 0 ≤ x18_1
    rotate_left
    ·rw [if_neg c14] at H
     exact absurd H (by simp)
    rw [if_pos c14] at H
    have c14b0 : decide (0 ≤ x18_1) = true := decide_eq_true c14
    clear c14
    by_cases c15 : x18_1 < (l0_3.length : Int)
    rotate_left
    ·rw [if_neg c15] at H
     exact absurd H (by simp)
    rw [if_pos c15] at H
    have c15b0 : decide (x18_1 < (l0_3.length : Int)) = true := decide_eq_true c15
    clear c15
    replace H := Option.bind_eq_some_iff.mp H
    obtain ⟨⟨t322, t323, t324, t325⟩, A160, H⟩ := H
    (try dsimp only at H)
    have A16 := Aside0.mk A160
    clear A160
    by_cases c17 : t325 = true
    rotate_left
    ·replace c17 := Bool.eq_false_iff.mpr c17
     subst c17
     rw [if_neg (show ¬ (false = true) by decide)] at H
     simp only [Option.some.injEq, Prod.mk.injEq] at H
     obtain ⟨rfl, rfl⟩ := H
     have p320 : 0 ≤ (x18_1 : Int) := of_decide_eq_true (by first | (with_reducible assumption) | assumption)
     have q320 : x18_1 < (l0_3.length : Int) := of_decide_eq_true (by first | (with_reducible assumption) | assumption)
     obtain ⟨ad320, A320_7, c320_7, A320_8, c320_8, e320, hx320_0, hx320_1, hx320_2, hx320_3, hx320_4, hx320_5, hx320_6, hx320_7, hx320_8, hl320_7, hi320_7, hl320_8, hi320_8⟩ := at_T73 HR0_3.out x18_1 p320 q320
     cases e320
     replace hx320_0 := (HB.out.cell (World.block_lt_of_cell? w _ hx320_0)).trans hx320_0
     replace hx320_1 := (HB.out.cell (World.block_lt_of_cell? w _ hx320_1)).trans hx320_1
     replace hx320_2 := (HB.out.cell (World.block_lt_of_cell? w _ hx320_2)).trans hx320_2
     replace hx320_3 := (HB.out.cell (World.block_lt_of_cell? w _ hx320_3)).trans hx320_3
     replace hx320_4 := (HB.out.cell (World.block_lt_of_cell? w _ hx320_4)).trans hx320_4
     replace hx320_5 := (HB.out.cell (World.block_lt_of_cell? w _ hx320_5)).trans hx320_5
     replace hx320_6 := (HB.out.cell (World.block_lt_of_cell? w _ hx320_6)).trans hx320_6
     replace hx320_7 := (HB.out.cell (World.block_lt_of_cell? w _ hx320_7)).trans hx320_7
     replace hx320_8 := (HB.out.cell (World.block_lt_of_cell? w _ hx320_8)).trans hx320_8
     have HR320_7 := Aside0.mk hi320_7
     have HC320_7 := Aside0.mk hl320_7
     clear hi320_7 hl320_7
     have HR320_8 := Aside0.mk hi320_8
     have HC320_8 := Aside0.mk hl320_8
     clear hi320_8 hl320_8
     replace p320 := eq_true p320
     replace q320 := eq_true q320
     go_wp2_with (first | ((with_reducible refine gate_dst (N := 7) rfl ?_); refine boxM 7 #[.int .i64 0, .int .i64 0, .int .i64 0, .int .i64 0, .int .i64 0, .int .i64 0, .int .i64 0, .slice none 0 0, .slice none 0 0] 73 ?_; intro gb321 hg w33 BK321 hb; replace HB := box_at w hb hg; obtain ⟨HB, GW321, GE321⟩ := HB; replace BK315 := box_on gb315 hb hg; obtain ⟨BK315, NB315_321, NB321_315⟩ := BK315; replace BK319 := box_on gb319 hb hg; obtain ⟨BK319, NB319_321, NB321_319⟩ := BK319; replace HO_4 := Aside0.mk (Kd.R_below (R_at HO_4.out) hb); clear hb hg; have hn34 := ne2 NB321_315; have hn35 := ne2 NB321_319; have hcz36 := cells9 BK321.out; have hn37 := ne2 NB319_315; have hcz38 := cells3 BK319.out) | ((with_reducible refine gate_callee (f := 100) rfl ?_); refine goesM (some 25) rfl rfl Try.func100 (by kernel_rfl) rfl #[.agg #[.int .i64 x320000_1, .int .i64 x320001_1, .int .i64 x320002_1], .agg #[.int .i64 ((rd_T73 l0_3 x18_1).f0), .int .i64 ((rd_T73 l0_3 x18_1).f1), .int .i64 ((rd_T73 l0_3 x18_1).f2), .int .i64 ((rd_T73 l0_3 x18_1).f3), .int .i64 ((rd_T73 l0_3 x18_1).f4), .int .i64 ((rd_T73 l0_3 x18_1).f5), .int .i64 ((rd_T73 l0_3 x18_1).f6), .slice A320_7 ((rd_T73 l0_3 x18_1).f7).length c320_7, .slice A320_8 ((rd_T73 l0_3 x18_1).f8).length c320_8]] rfl ?_; (with_reducible refine (impl_OutShape.calls k1 x320000_1 x320001_1 x320002_1 ((rd_T73 l0_3 x18_1).f0) ((rd_T73 l0_3 x18_1).f1) ((rd_T73 l0_3 x18_1).f2) ((rd_T73 l0_3 x18_1).f3) ((rd_T73 l0_3 x18_1).f4) ((rd_T73 l0_3 x18_1).f5) ((rd_T73 l0_3 x18_1).f6) _ _ ((rd_T73 l0_3 x18_1).f7) _ _ ((rd_T73 l0_3 x18_1).f8) t322 t323 t324 false _ ?side1 ?side2 ?side3 ?side4 A16.out).mono ?_); (case side1 => exact C_now HR320_7.out); (case side2 => exact HC320_7.out); (case side3 => exact C_now HR320_8.out); (case side4 => exact HC320_8.out); rintro e w39 ⟨rfl, hb⟩; refine ⟨_, rfl, ?_⟩; have n0_ := Aside0.mk (Kd.R_below (R_at (R_far9 HO_4.out BK321.out (by decide))) hb); replace HB := bel_on w hb; replace BK315 := Aside0.mk (blk_below (g := gb315) (o := .cells #[.int .i64 a0_0, .int .i64 a0_1, .int .i64 a0_2, .slice (some ad320) l0_3.length c0_3] 28 (0, 0)) (blk_fars BK315.out) hb); replace BK319 := Aside0.mk (blk_below (g := gb319) (o := .cells #[.int .i64 x320000_1, .int .i64 x320001_1, .int .i64 x320002_1] 25 (0, 0)) (blk_fars BK319.out) hb); replace BK321 := Aside0.mk (blk_below (g := gb321) (o := .cells #[.int .i64 ((rd_T73 l0_3 x18_1).f0), .int .i64 ((rd_T73 l0_3 x18_1).f1), .int .i64 ((rd_T73 l0_3 x18_1).f2), .int .i64 ((rd_T73 l0_3 x18_1).f3), .int .i64 ((rd_T73 l0_3 x18_1).f4), .int .i64 ((rd_T73 l0_3 x18_1).f5), .int .i64 ((rd_T73 l0_3 x18_1).f6), .slice A320_7 ((rd_T73 l0_3 x18_1).f7).length c320_7, .slice A320_8 ((rd_T73 l0_3 x18_1).f8).length c320_8] 73 (0, 0)) (by (with_reducible repeat (first | refine blk_drewN ?_ _ | refine blk_drew ?_ | refine blk_alloc ?_ _)); first | exact putl9 BK321.out | exact blk_fars (putl9 BK321.out)) hb); clear HO_4; have HO_4 := n0_; clear n0_; (try clear hb)) | ((with_reducible refine gate_dst (N := 8) rfl ?_); refine boxM 8 #[.int .i64 0, .int .i64 0, .int .i64 0] 25 ?_; intro gb326 hg w40 BK326 hb; replace HB := box_at w hb hg; obtain ⟨HB, GW326, GE326⟩ := HB; replace BK315 := box_on gb315 hb hg; obtain ⟨BK315, NB315_326, NB326_315⟩ := BK315; replace BK319 := box_on gb319 hb hg; obtain ⟨BK319, NB319_326, NB326_319⟩ := BK319; replace BK321 := box_on gb321 hb hg; obtain ⟨BK321, NB321_326, NB326_321⟩ := BK321; replace HO_4 := Aside0.mk (Kd.R_below (Kd.R_elderB (R_at HO_4.out) gb326 (Nat.le_of_eq hg.symm)) hb); clear hb hg; have hn41 := ne2 NB326_315; have hn42 := ne2 NB326_319; have hn43 := ne2 NB326_321; have hcz44 := cells3 BK326.out))
     go_ret2
     exact ⟨_, eqN, by first | exact Kd.R_nil _ _ _ _ _ | exact Kd.N_nil _ _ _ _ _ | exact Kd.V_nil _ _ _ _ _ | exact Kd.Q_nil _ _ _ _ _ | exact Kd.S_nil _ _ _ _ _, bel_now⟩
    subst c17
    rw [if_pos rfl] at H
    by_cases c18 : x4_1.length < 5864062014805
    rotate_left
    ·rw [if_neg c18] at H
     exact absurd H (by simp)
    rw [if_pos c18] at H
    have LMc18 := Aside0.mk c18
    clear c18
    obtain ⟨y327, hy327⟩ : ∃ y_ : List (S25), y_ = (x4_1 ++ [(⟨t322, t323, t324⟩ : S25)]) := ⟨_, rfl⟩
    replace H : (impl_Model_shapes.l0 k1 y327 l0_3 (l0_3.length : Int) (wrap64 (x18_1 + 1)) t322 t323 t324) = some (r1, r2) := by first | (rw [hy327]; with_reducible exact H) | (have H2_ := (Option.bind_some _ _).symm.trans H; rw [hy327]; with_reducible exact H2_) | (have H2_ := (Option.bind_some _ _).symm.trans H; with_reducible exact H2_) | with_reducible exact H | (rw [hy327]; exact H) | exact H
    have Ny327 := Aside0.mk hy327
    clear hy327
    have H' := Aside0.mk H
    clear H
    have p320 : 0 ≤ (x18_1 : Int) := of_decide_eq_true (by first | (with_reducible assumption) | assumption)
    have q320 : x18_1 < (l0_3.length : Int) := of_decide_eq_true (by first | (with_reducible assumption) | assumption)
    obtain ⟨ad320, A320_7, c320_7, A320_8, c320_8, e320, hx320_0, hx320_1, hx320_2, hx320_3, hx320_4, hx320_5, hx320_6, hx320_7, hx320_8, hl320_7, hi320_7, hl320_8, hi320_8⟩ := at_T73 HR0_3.out x18_1 p320 q320
    cases e320
    replace hx320_0 := (HB.out.cell (World.block_lt_of_cell? w _ hx320_0)).trans hx320_0
    replace hx320_1 := (HB.out.cell (World.block_lt_of_cell? w _ hx320_1)).trans hx320_1
    replace hx320_2 := (HB.out.cell (World.block_lt_of_cell? w _ hx320_2)).trans hx320_2
    replace hx320_3 := (HB.out.cell (World.block_lt_of_cell? w _ hx320_3)).trans hx320_3
    replace hx320_4 := (HB.out.cell (World.block_lt_of_cell? w _ hx320_4)).trans hx320_4
    replace hx320_5 := (HB.out.cell (World.block_lt_of_cell? w _ hx320_5)).trans hx320_5
    replace hx320_6 := (HB.out.cell (World.block_lt_of_cell? w _ hx320_6)).trans hx320_6
    replace hx320_7 := (HB.out.cell (World.block_lt_of_cell? w _ hx320_7)).trans hx320_7
    replace hx320_8 := (HB.out.cell (World.block_lt_of_cell? w _ hx320_8)).trans hx320_8
    have HR320_7 := Aside0.mk hi320_7
    have HC320_7 := Aside0.mk hl320_7
    clear hi320_7 hl320_7
    have HR320_8 := Aside0.mk hi320_8
    have HC320_8 := Aside0.mk hl320_8
    clear hi320_8 hl320_8
    replace p320 := eq_true p320
    replace q320 := eq_true q320
    go_wp2_with (first | ((with_reducible refine gate_dst (N := 7) rfl ?_); refine boxM 7 #[.int .i64 0, .int .i64 0, .int .i64 0, .int .i64 0, .int .i64 0, .int .i64 0, .int .i64 0, .slice none 0 0, .slice none 0 0] 73 ?_; intro gb321 hg w19 BK321 hb; replace HB := box_at w hb hg; obtain ⟨HB, GW321, GE321⟩ := HB; replace BK315 := box_on gb315 hb hg; obtain ⟨BK315, NB315_321, NB321_315⟩ := BK315; replace BK319 := box_on gb319 hb hg; obtain ⟨BK319, NB319_321, NB321_319⟩ := BK319; replace HO_4 := Aside0.mk (Kd.R_below (R_at HO_4.out) hb); clear hb hg; have hn20 := ne2 NB321_315; have hn21 := ne2 NB321_319; have hcz22 := cells9 BK321.out; have hn23 := ne2 NB319_315; have hcz24 := cells3 BK319.out) | ((with_reducible refine gate_callee (f := 100) rfl ?_); refine goesM (some 25) rfl rfl Try.func100 (by kernel_rfl) rfl #[.agg #[.int .i64 x320000_1, .int .i64 x320001_1, .int .i64 x320002_1], .agg #[.int .i64 ((rd_T73 l0_3 x18_1).f0), .int .i64 ((rd_T73 l0_3 x18_1).f1), .int .i64 ((rd_T73 l0_3 x18_1).f2), .int .i64 ((rd_T73 l0_3 x18_1).f3), .int .i64 ((rd_T73 l0_3 x18_1).f4), .int .i64 ((rd_T73 l0_3 x18_1).f5), .int .i64 ((rd_T73 l0_3 x18_1).f6), .slice A320_7 ((rd_T73 l0_3 x18_1).f7).length c320_7, .slice A320_8 ((rd_T73 l0_3 x18_1).f8).length c320_8]] rfl ?_; (with_reducible refine (impl_OutShape.calls k1 x320000_1 x320001_1 x320002_1 ((rd_T73 l0_3 x18_1).f0) ((rd_T73 l0_3 x18_1).f1) ((rd_T73 l0_3 x18_1).f2) ((rd_T73 l0_3 x18_1).f3) ((rd_T73 l0_3 x18_1).f4) ((rd_T73 l0_3 x18_1).f5) ((rd_T73 l0_3 x18_1).f6) _ _ ((rd_T73 l0_3 x18_1).f7) _ _ ((rd_T73 l0_3 x18_1).f8) t322 t323 t324 true _ ?side1 ?side2 ?side3 ?side4 A16.out).mono ?_); (case side1 => exact C_now HR320_7.out); (case side2 => exact HC320_7.out); (case side3 => exact C_now HR320_8.out); (case side4 => exact HC320_8.out); rintro e w25 ⟨rfl, hb⟩; refine ⟨_, rfl, ?_⟩; have n0_ := Aside0.mk (Kd.R_below (R_at (R_far9 HO_4.out BK321.out (by decide))) hb); replace HB := bel_on w hb; replace BK315 := Aside0.mk (blk_below (g := gb315) (o := .cells #[.int .i64 a0_0, .int .i64 a0_1, .int .i64 a0_2, .slice (some ad320) l0_3.length c0_3] 28 (0, 0)) (blk_fars BK315.out) hb); replace BK319 := Aside0.mk (blk_below (g := gb319) (o := .cells #[.int .i64 x320000_1, .int .i64 x320001_1, .int .i64 x320002_1] 25 (0, 0)) (blk_fars BK319.out) hb); replace BK321 := Aside0.mk (blk_below (g := gb321) (o := .cells #[.int .i64 ((rd_T73 l0_3 x18_1).f0), .int .i64 ((rd_T73 l0_3 x18_1).f1), .int .i64 ((rd_T73 l0_3 x18_1).f2), .int .i64 ((rd_T73 l0_3 x18_1).f3), .int .i64 ((rd_T73 l0_3 x18_1).f4), .int .i64 ((rd_T73 l0_3 x18_1).f5), .int .i64 ((rd_T73 l0_3 x18_1).f6), .slice A320_7 ((rd_T73 l0_3 x18_1).f7).length c320_7, .slice A320_8 ((rd_T73 l0_3 x18_1).f8).length c320_8] 73 (0, 0)) (by (with_reducible repeat (first | refine blk_drewN ?_ _ | refine blk_drew ?_ | refine blk_alloc ?_ _)); first | exact putl9 BK321.out | exact blk_fars (putl9 BK321.out)) hb); clear HO_4; have HO_4 := n0_; clear n0_; (try clear hb)) | ((with_reducible refine gate_dst (N := 8) rfl ?_); refine boxM 8 #[.int .i64 0, .int .i64 0, .int .i64 0] 25 ?_; intro gb326 hg w26 BK326 hb; replace HB := box_at w hb hg; obtain ⟨HB, GW326, GE326⟩ := HB; replace BK315 := box_on gb315 hb hg; obtain ⟨BK315, NB315_326, NB326_315⟩ := BK315; replace BK319 := box_on gb319 hb hg; obtain ⟨BK319, NB319_326, NB326_319⟩ := BK319; replace BK321 := box_on gb321 hb hg; obtain ⟨BK321, NB321_326, NB326_321⟩ := BK321; replace HO_4 := Aside0.mk (Kd.R_below (Kd.R_elderB (R_at HO_4.out) gb326 (Nat.le_of_eq hg.symm)) hb); clear hb hg; have hn27 := ne2 NB326_315; have hn28 := ne2 NB326_319; have hn29 := ne2 NB326_321; have hcz30 := cells3 BK326.out; have hcz31 := cells3 BK319.out) | ((with_reducible refine gate_builtin (b := .append) (xs := #[.tmp 31, .tmp 33]) rfl ?_); at_builtin; refine Kd.R_append k25 (w0 := w) w.heap.size rfl (.tmp 31) (.tmp 33) 44 25 (.agg #[(.int .i64 0), (.int .i64 0), (.int .i64 0)]) 24 rfl Try.underlying44 info25 rfl (by decide) (by omega) u4 x4_1 (⟨t322, t323, t324⟩ : S25) [.int .i64 t322, .int .i64 t323, .int .i64 t324] (fun k_ => k_ ≠ gb319 ∧ k_ ≠ gb326) (fun _ => False) rfl (by first | (go_simp; done) | (go_simp; rfl)) ?aP (fun _ hk => hk.elim) ?aF ?aO ?aB ?aS ?aL ?_; (case aP => exact k25_mkM _ _ _ (⟨t322, t323, t324⟩ : S25)); (case aB => exact bel_now); (case aF => exact (fun k_ hk => ⟨Kd.freshB (g := gb319) (o := .cells #[.int .i64 t322, .int .i64 t323, .int .i64 t324] 25 (0, 0)) (by (with_reducible repeat (first | refine blk_drewN ?_ _ | refine blk_drew ?_ | refine blk_alloc ?_ _)); refine blk_put (cs := #[.int .i64 t322, .int .i64 t323, .int .i64 x320002_1]) ?_ 2 _ rfl; (with_reducible repeat (first | refine blk_drewN ?_ _ | refine blk_drew ?_ | refine blk_alloc ?_ _)); refine blk_put (cs := #[.int .i64 t322, .int .i64 x320001_1, .int .i64 x320002_1]) ?_ 1 _ rfl; (with_reducible repeat (first | refine blk_drewN ?_ _ | refine blk_drew ?_ | refine blk_alloc ?_ _)); refine blk_put (cs := #[.int .i64 x320000_1, .int .i64 x320001_1, .int .i64 x320002_1]) ?_ 0 _ rfl; (with_reducible repeat (first | refine blk_drewN ?_ _ | refine blk_drew ?_ | refine blk_alloc ?_ _)); refine blk_far ?_ NB319_326.out _; (with_reducible repeat (first | refine blk_drewN ?_ _ | refine blk_drew ?_ | refine blk_alloc ?_ _)); refine blk_far ?_ NB319_326.out _; (with_reducible repeat (first | refine blk_drewN ?_ _ | refine blk_drew ?_ | refine blk_alloc ?_ _)); refine blk_far ?_ NB319_326.out _; (with_reducible repeat (first | refine blk_drewN ?_ _ | refine blk_drew ?_ | refine blk_alloc ?_ _)); exact BK319.out) k_ hk, Kd.freshB (g := gb326) (o := .cells #[.int .i64 t322, .int .i64 t323, .int .i64 t324] 25 (0, 0)) (by (with_reducible repeat (first | refine blk_drewN ?_ _ | refine blk_drew ?_ | refine blk_alloc ?_ _)); refine blk_far ?_ NB326_319.out _; (with_reducible repeat (first | refine blk_drewN ?_ _ | refine blk_drew ?_ | refine blk_alloc ?_ _)); refine blk_far ?_ NB326_319.out _; (with_reducible repeat (first | refine blk_drewN ?_ _ | refine blk_drew ?_ | refine blk_alloc ?_ _)); refine blk_far ?_ NB326_319.out _; (with_reducible repeat (first | refine blk_drewN ?_ _ | refine blk_drew ?_ | refine blk_alloc ?_ _)); refine blk_put (cs := #[.int .i64 t322, .int .i64 t323, .int .i64 0]) ?_ 2 _ rfl; (with_reducible repeat (first | refine blk_drewN ?_ _ | refine blk_drew ?_ | refine blk_alloc ?_ _)); refine blk_put (cs := #[.int .i64 t322, .int .i64 0, .int .i64 0]) ?_ 1 _ rfl; (with_reducible repeat (first | refine blk_drewN ?_ _ | refine blk_drew ?_ | refine blk_alloc ?_ _)); refine blk_put (cs := #[.int .i64 0, .int .i64 0, .int .i64 0]) ?_ 0 _ rfl; (with_reducible repeat (first | refine blk_drewN ?_ _ | refine blk_drew ?_ | refine blk_alloc ?_ _)); exact BK326.out) k_ hk⟩)); (case aO => exact (R_at (Kd.R_mono (Kd.R_far (p := ⟨gb319, 2, none⟩) (Kd.R_far (p := ⟨gb319, 1, none⟩) (Kd.R_far (p := ⟨gb319, 0, none⟩) (Kd.R_far (p := ⟨gb326, 2, none⟩) (Kd.R_far (p := ⟨gb326, 1, none⟩) (Kd.R_far (p := ⟨gb326, 0, none⟩) (Kd.R_mono (Kd.R_mono HO_4.out (fun k_ hk => (⟨hk, hk.2⟩ : _ ∧ k_ ≠ gb326))) (fun k_ hk => (⟨hk, hk.1.1⟩ : _ ∧ k_ ≠ gb319))) (fun _ hk => hk.1.2) (.int .i64 t322)) (fun _ hk => hk.1.2) (.int .i64 t323)) (fun _ hk => hk.1.2) (.int .i64 t324)) (fun _ hk => hk.2) (.int .i64 t322)) (fun _ hk => hk.2) (.int .i64 t323)) (fun _ hk => hk.2) (.int .i64 t324)) (fun _ hk => ⟨hk.1.1.1, hk.1.1.2⟩)))); (case aS => exact (below_size bel_now)); (case aL => have := LMc18.out; omega); intro v328 w32 ho hb hg hat; rw [← Ny327.out] at ho; have n0_ := Aside0.mk (blk_grown (g := gb315) (o := .cells #[.int .i64 a0_0, .int .i64 a0_1, .int .i64 a0_2, .slice (some ad320) l0_3.length c0_3] 28 (0, 0)) (blk_fars BK315.out) hg (Kd.R_ne HO_4.out BK315.out (by decide))); have n1_ := Aside0.mk (blk_grown (g := gb319) (o := .cells #[.int .i64 t322, .int .i64 t323, .int .i64 t324] 25 (0, 0)) (by (with_reducible repeat (first | refine blk_drewN ?_ _ | refine blk_drew ?_ | refine blk_alloc ?_ _)); refine blk_put (cs := #[.int .i64 t322, .int .i64 t323, .int .i64 x320002_1]) ?_ 2 _ rfl; (with_reducible repeat (first | refine blk_drewN ?_ _ | refine blk_drew ?_ | refine blk_alloc ?_ _)); refine blk_put (cs := #[.int .i64 t322, .int .i64 x320001_1, .int .i64 x320002_1]) ?_ 1 _ rfl; (with_reducible repeat (first | refine blk_drewN ?_ _ | refine blk_drew ?_ | refine blk_alloc ?_ _)); refine blk_put (cs := #[.int .i64 x320000_1, .int .i64 x320001_1, .int .i64 x320002_1]) ?_ 0 _ rfl; (with_reducible repeat (first | refine blk_drewN ?_ _ | refine blk_drew ?_ | refine blk_alloc ?_ _)); refine blk_far ?_ NB319_326.out _; (with_reducible repeat (first | refine blk_drewN ?_ _ | refine blk_drew ?_ | refine blk_alloc ?_ _)); refine blk_far ?_ NB319_326.out _; (with_reducible repeat (first | refine blk_drewN ?_ _ | refine blk_drew ?_ | refine blk_alloc ?_ _)); refine blk_far ?_ NB319_326.out _; (with_reducible repeat (first | refine blk_drewN ?_ _ | refine blk_drew ?_ | refine blk_alloc ?_ _)); exact BK319.out) hg (Kd.R_away HO_4.out (fun _ hk => hk.1))); have n2_ := Aside0.mk (blk_grown (g := gb321) (o := .cells #[.int .i64 ((rd_T73 l0_3 x18_1).f0), .int .i64 ((rd_T73 l0_3 x18_1).f1), .int .i64 ((rd_T73 l0_3 x18_1).f2), .int .i64 ((rd_T73 l0_3 x18_1).f3), .int .i64 ((rd_T73 l0_3 x18_1).f4), .int .i64 ((rd_T73 l0_3 x18_1).f5), .int .i64 ((rd_T73 l0_3 x18_1).f6), .slice A320_7 ((rd_T73 l0_3 x18_1).f7).length c320_7, .slice A320_8 ((rd_T73 l0_3 x18_1).f8).length c320_8] 73 (0, 0)) (blk_fars BK321.out) hg (Kd.R_ne HO_4.out BK321.out (by decide))); have n3_ := Aside0.mk (blk_grown (g := gb326) (o := .cells #[.int .i64 t322, .int .i64 t323, .int .i64 t324] 25 (0, 0)) (by (with_reducible repeat (first | refine blk_drewN ?_ _ | refine blk_drew ?_ | refine blk_alloc ?_ _)); refine blk_far ?_ NB326_319.out _; (with_reducible repeat (first | refine blk_drewN ?_ _ | refine blk_drew ?_ | refine blk_alloc ?_ _)); refine blk_far ?_ NB326_319.out _; (with_reducible repeat (first | refine blk_drewN ?_ _ | refine blk_drew ?_ | refine blk_alloc ?_ _)); refine blk_far ?_ NB326_319.out _; (with_reducible repeat (first | refine blk_drewN ?_ _ | refine blk_drew ?_ | refine blk_alloc ?_ _)); refine blk_put (cs := #[.int .i64 t322, .int .i64 t323, .int .i64 0]) ?_ 2 _ rfl; (with_reducible repeat (first | refine blk_drewN ?_ _ | refine blk_drew ?_ | refine blk_alloc ?_ _)); refine blk_put (cs := #[.int .i64 t322, .int .i64 0, .int .i64 0]) ?_ 1 _ rfl; (with_reducible repeat (first | refine blk_drewN ?_ _ | refine blk_drew ?_ | refine blk_alloc ?_ _)); refine blk_put (cs := #[.int .i64 0, .int .i64 0, .int .i64 0]) ?_ 0 _ rfl; (with_reducible repeat (first | refine blk_drewN ?_ _ | refine blk_drew ?_ | refine blk_alloc ?_ _)); exact BK326.out) hg (Kd.R_away HO_4.out (fun _ hk => hk.2))); have n4_ := Aside0.mk (hb); have n5_ := Aside0.mk (ho); clear BK315; clear BK319; clear BK321; clear BK326; clear HB; clear HO_4; have BK315 := n0_; have BK319 := n1_; have BK321 := n2_; have BK326 := n3_; have HB := n4_; have HO329 := n5_; clear n0_ n1_ n2_ n3_ n4_ n5_; clear ho hb hg hat))
    go_roundg k1
    case measure => have := HK1.out; omega
    case rel => exact ⟨(y327), (wrap64 (x18_1 + 1)), (t322), (t323), (t324), (by first | rfl | (simp; done) | (simp [*]; done)), H', ⟨by have := HK1.out; omega⟩, ⟨by (with_reducible repeat (first | apply Kd.R_alloc | apply Kd.R_drewN | apply Kd.R_drew)); exact Kd.R_mono HO329.out (fun _ hk => hk.1)⟩, ⟨bks BK315⟩, ⟨bks BK319⟩, ⟨bel_now⟩⟩

/-! ### impl_ModelOk: function 51 -/
def impl_ModelOk.f (k : Nat) (a0_0 : Int) (a0_1 : Int) (a0_2 : Int) (l0_3 : List (S73)) : Option (Bool) := (impl_in.f (l0_3.length : Int) 1 6).bind fun t331 => (if t331 = true then ((impl_Model_shapes.f k a0_0 a0_1 a0_2 l0_3).bind fun bt332 => (some bt332.2)) else (some false))
set_option maxHeartbeats 8000000 in
set_option maxRecDepth 100000 in
theorem impl_ModelOk.calls (k : Nat) (a0_0 : Int) (a0_1 : Int) (a0_2 : Int) (A0_3 : Option Addr) (c0_3 : Nat) (l0_3 : List (S73)) (r : Bool) (w : World) (hr0_3 : Kd.C k73 w A0_3 l0_3.length l0_3) (hc0_3 : l0_3.length ≤ c0_3) (h : impl_ModelOk.f k a0_0 a0_1 a0_2 l0_3 = some r) :
   Calls Try.prog 51 #[.agg #[.int .i64 a0_0, .int .i64 a0_1, .int .i64 a0_2, .slice A0_3 l0_3.length c0_3]] w fun e w' => e = .returned (.bool r) ∧ Below w.heap.size w w' := by
  have hu28 := Try.underlying28
  have HR0_3 := Aside0.mk hr0_3
  have HC0_3 := Aside0.mk hc0_3
  clear hr0_3 hc0_3
  have HB := Aside0.mk (Below.refl w.heap.size w)
  have H : ((impl_in.f (l0_3.length : Int) 1 6).bind fun t331 => (if t331 = true then ((impl_Model_shapes.f k a0_0 a0_1 a0_2 l0_3).bind fun bt332 => (some bt332.2)) else (some false))) = some r := h
  clear h
  replace H := Option.bind_eq_some_iff.mp H
  obtain ⟨t331, A20, H⟩ := H
  (try dsimp only at H)
  have A2 := Aside0.mk A20
  clear A20
  by_cases c3 : t331 = true
  rotate_left
  ·replace c3 := Bool.eq_false_iff.mpr c3
   subst c3
   rw [if_neg (show ¬ (false = true) by decide)] at H
   obtain rfl := Option.some.inj H
   go_enter Try.func51, Try.ntmps51
   go_wp2_with (first | ((with_reducible refine gate_dst (N := 1) rfl ?_); refine boxM 1 #[.int .i64 a0_0, .int .i64 a0_1, .int .i64 a0_2, .slice A0_3 l0_3.length c0_3] 28 ?_; intro gb330 hg w8 BK330 hb; replace HB := box_at w hb hg; obtain ⟨HB, GW330, GE330⟩ := HB; clear hb hg; have hcz9 := cells4 BK330.out) | ((with_reducible refine gate_callee (f := 82) rfl ?_); refine goesM (some 8) rfl rfl Try.func82 (by kernel_rfl) rfl #[.int .i64 (l0_3.length : Int), .int .i64 1, .int .i64 6] rfl ?_; (with_reducible refine (impl_in.calls (l0_3.length : Int) 1 6 false _ A2.out).mono ?_); rintro e w' ⟨rfl, ⟨nd, rfl⟩⟩; refine ⟨_, rfl, ?_⟩))
   go_ret
   exact ⟨eqN, bel_now⟩
  subst c3
  rw [if_pos rfl] at H
  replace H := Option.bind_eq_some_iff.mp H
  obtain ⟨⟨t332, t335⟩, A40, H⟩ := H
  (try dsimp only at H)
  have A4 := Aside0.mk A40
  clear A40
  obtain rfl := Option.some.inj H
  go_enter Try.func51, Try.ntmps51
  go_wp2_with (first | ((with_reducible refine gate_dst (N := 1) rfl ?_); refine boxM 1 #[.int .i64 a0_0, .int .i64 a0_1, .int .i64 a0_2, .slice A0_3 l0_3.length c0_3] 28 ?_; intro gb330 hg w5 BK330 hb; replace HB := box_at w hb hg; obtain ⟨HB, GW330, GE330⟩ := HB; clear hb hg; have hcz6 := cells4 BK330.out) | ((with_reducible refine gate_callee (f := 82) rfl ?_); refine goesM (some 8) rfl rfl Try.func82 (by kernel_rfl) rfl #[.int .i64 (l0_3.length : Int), .int .i64 1, .int .i64 6] rfl ?_; (with_reducible refine (impl_in.calls (l0_3.length : Int) 1 6 true _ A2.out).mono ?_); rintro e w' ⟨rfl, ⟨nd, rfl⟩⟩; refine ⟨_, rfl, ?_⟩) | ((with_reducible refine gate_callee (f := 70) rfl ?_); refine goesM (some 12) rfl rfl Try.func70 (by kernel_rfl) rfl #[.agg #[.int .i64 a0_0, .int .i64 a0_1, .int .i64 a0_2, .slice A0_3 l0_3.length c0_3]] rfl ?_; (with_reducible refine (impl_Model_shapes.calls k a0_0 a0_1 a0_2 _ _ l0_3 t332 t335 _ ?side1 ?side2 A4.out).mono ?_); (case side1 => exact C_now HR0_3.out); (case side2 => exact HC0_3.out); rintro e w7 ⟨v333, rfl, ho0, hb⟩; refine ⟨_, rfl, ?_⟩; have n0_ := Aside0.mk (Kd.R_lower ho0 (below_size bel_now)); replace HB := bel_on w hb; replace BK330 := blk_on gb330 hb; have HO334 := n0_; clear n0_; (try clear hb); (try clear ho0)))
  go_ret
  exact ⟨eqN, bel_now⟩

/-! ### impl_putWide: function 53 -/
mutual
def impl_putWide.l0 : Nat → List Int → List Int → Int → Int → Option (List Int)
  | 0, _, _, _, _ => none
  | k + 1, x0, x8, x9, x10 => if x10 < x9 then (if 0 ≤ x10 then (if x10 < (x8.length : Int) then (if (rd x8 x10) < 0 then (impl_putWide.j1 k x0 (wrap64 ((wrap64 ((-2) * (rd x8 x10))) - 1)) x8 x9 x10) else (impl_putWide.j1 k x0 (wrap64 (2 * (rd x8 x10))) x8 x9 x10)) else (none)) else (none)) else (some x0)
def impl_putWide.j1 : Nat → List Int → Int → List Int → Int → Int → Option (List Int)
  | 0, _, _, _, _, _ => none
  | k + 1, x0, x7, x8, x9, x10 => impl_putWide.l1 k x0 x7 x8 x9 x10
def impl_putWide.l1 : Nat → List Int → Int → List Int → Int → Int → Option (List Int)
  | 0, _, _, _, _, _ => none
  | k + 1, x0, x7, x8, x9, x10 => if x7 > 127 then (if x0.length < 140737488355328 then (impl_putWide.l1 k (x0 ++ [Go.bits .or .u8 ((x7) % 256) 128]) (x7 / 128) x8 x9 x10) else (none)) else (if x0.length < 140737488355328 then (impl_putWide.l0 k (x0 ++ [(x7) % 256]) x8 x9 (wrap64 (x10 + 1))) else (none))
end
def impl_putWide.f (k : Nat) (l0 : List Int) (l1 : List Int) : Option (List Int) := impl_putWide.l0 k l0 l1 (l1.length : Int) 0
set_option maxHeartbeats 8000000 in
set_option maxRecDepth 100000 in
theorem impl_putWide.callsL (b : Bool) (k : Nat) (P0_ : Nat → Prop) (u9000_ : Value) (l0 : List Int) (A1 : Option Addr) (c1 : Nat) (l1 : List Int) (r : List Int) (w0 w : World) (hB : Below w0.heap.size w0 w) (ho0 : RL 5 b w w0.heap.size P0_ u9000_ l0) (hr1 : ∀ W_, Kept w W_ (fun k_ => P0_ k_) → Kd.C (Kd.int .i64) W_ A1 l1.length l1) (hc1 : l1.length ≤ c1) (h : impl_putWide.f k l0 l1 = some r) :
   Calls Try.prog 53 #[u9000_, .slice A1 l1.length c1] w fun e w' => ∃ v0_ : Value, e = .returned (v0_) ∧ RL 5 b w' w0.heap.size (fun k_ => (P0_ k_ ∨ w.heap.size ≤ k_)) v0_ r ∧ Below w0.heap.size w0 w' ∧ Kept w w' (fun k_ => P0_ k_) := by
  have HO0 := Aside0.mk (show RL 5 b w w0.heap.size (fun k_ => (P0_ k_ ∨ w.heap.size ≤ k_)) u9000_ l0 from RL.weak ho0 (fun k_ hk => (.inl hk)))
  have HR1 := Aside0.mk hr1
  have HC1 := Aside0.mk hc1
  clear hr1 hc1
  have HK := Aside0.mk (Kept.refl w (fun k_ => P0_ k_))
  have HW0 := Aside0.mk hB.size
  have HB := Aside0.mk hB
  clear hB
  have H : (impl_putWide.l0 k l0 l1 (l1.length : Int) 0) = some r := h
  clear h
  have H' := Aside0.mk H
  clear H
  go_enter Try.func53, Try.ntmps53
  go_wp2
  go_loopg [0, 10] k (fun kq v0 v10 w' => ∃ (x0_1 : List Int) (x10_1 : Int), v10 = .int .i64 x10_1 ∧ Aside0 (impl_putWide.l0 kq x0_1 l1 (l1.length : Int) x10_1 = some r) ∧ Aside0 (kq ≤ k) ∧ Aside0 (RL 5 b w' w0.heap.size (fun k_ => (P0_ k_ ∨ w.heap.size ≤ k_)) v0 x0_1) ∧ Aside0 (Kept w w' (fun k_ => P0_ k_)) ∧ Aside0 (Below w0.heap.size w0 w'))
  case atStart => exact ⟨(l0), (0), (by first | rfl | (simp; done) | (simp [*]; done)), H', ⟨Nat.le_refl _⟩, ⟨by (with_reducible repeat (first | apply Kd.R_alloc | apply Kd.R_drewN | apply Kd.R_drew)); exact HO0.out⟩, ⟨by repeat (first | (with_reducible first | exact HK.out | apply Kept.alloc | apply Kept.drewN | apply Kept.drew) | exact HK.out)⟩, ⟨bel_now⟩⟩
  case round =>
   clear H'
   try clear c1
   try clear p2
   obtain ⟨x0_1, x10_1, rfl, HA, HK1, HO_0, HK, HB⟩ := hrel
   cases gk with
   | zero => exact absurd HA.out (by simp [impl_putWide.l0])
   | succ k1 =>
    have H := HA.out
    clear HA
    simp only [impl_putWide.l0] at H
    by_cases c3 : x10_1 < (l1.length : Int)
    rotate_left
    ·rw [if_neg c3] at H
     have c3b0 : decide (x10_1 < (l1.length : Int)) = false := decide_eq_false c3
     clear c3
     obtain rfl := Option.some.inj H
     go_wp2
     go_ret
     exact ⟨_, eqN, by (with_reducible repeat (first | apply Kd.R_alloc | apply Kd.R_drewN | apply Kd.R_drew)); exact HO_0.out, by repeat (first | (with_reducible first | exact HB.out | apply below_alloc | apply pw_below_drewN | apply below_drew1) | exact HB.out), by repeat (first | (with_reducible first | exact HK.out | apply Kept.alloc | apply Kept.drewN | apply Kept.drew) | exact HK.out)⟩
    rw [if_pos c3] at H
    have c3b0 : decide (x10_1 < (l1.length : Int)) = true := decide_eq_true c3
    clear c3
    by_cases c4 : 0 ≤ x10_1
    rotate_left
    ·rw [if_neg c4] at H
     exact absurd H (by simp)
    rw [if_pos c4] at H
    have c4b0 : decide (0 ≤ x10_1) = true := decide_eq_true c4
    clear c4
    by_cases c5 : x10_1 < (l1.length : Int)
    rotate_left
    ·rw [if_neg c5] at H
     exact absurd H (by simp)
    rw [if_pos c5] at H
    have c5b0 : decide (x10_1 < (l1.length : Int)) = true := decide_eq_true c5
    clear c5
    have HC6 := Aside0.mk H
    clear H
    have p336 : 0 ≤ (x10_1 : Int) := of_decide_eq_true (by first | (with_reducible assumption) | assumption)
    have q336 : x10_1 < (l1.length : Int) := of_decide_eq_true (by first | (with_reducible assumption) | assumption)
    obtain ⟨ad336, e336, hx336_0⟩ := Kd.at_int (Kd.C_kept_now HR1.out HK.out) x10_1 p336 q336
    cases e336
    replace p336 := eq_true p336
    replace q336 := eq_true q336
    go_upto_if 17 with (fail)
    go_cut [7] (fun v7 wc => ∃ (kq : Nat) (x7_5 : Int), v7 = .int .i64 x7_5 ∧ Aside0 (impl_putWide.j1 kq x0_1 x7_5 l1 (l1.length : Int) x10_1 = some r) ∧ Aside0 (kq ≤ k1) ∧ Aside0 (RL 5 b wc w0.heap.size (fun k_ => (P0_ k_ ∨ w.heap.size ≤ k_)) u0 x0_1) ∧ Aside0 (Kept w wc (fun k_ => P0_ k_)) ∧ Aside0 (Below w0.heap.size w0 wc))
    case first =>
     have H := HC6.out
     clear HC6
     by_cases c7 : (rd l1 x10_1) < 0
     ·rw [if_pos c7] at H
      have c7b0 : decide ((rd l1 x10_1) < 0) = true := decide_eq_true c7
      clear c7
      (first | rw [c7b0] | (simp only [i64_w, i32_w]; rw [c7b0]) | skip)
      have H' := Aside0.mk H
      clear H
      go_wp2
      go_meet
      case rel => exact ⟨_, (wrap64 ((wrap64 ((-2) * (rd l1 x10_1))) - 1)), (by first | rfl | (simp; done) | (simp [*]; done)), H', ⟨by have := HK1.out; first | omega | exact Nat.le_refl _⟩, ⟨by (with_reducible repeat (first | apply Kd.R_alloc | apply Kd.R_drewN | apply Kd.R_drew)); exact HO_0.out⟩, ⟨by repeat (first | (with_reducible first | exact HK.out | apply Kept.alloc | apply Kept.drewN | apply Kept.drew) | exact HK.out)⟩, ⟨bel_now⟩⟩
     rw [if_neg c7] at H
     have c7b0 : decide ((rd l1 x10_1) < 0) = false := decide_eq_false c7
     clear c7
     (first | rw [c7b0] | (simp only [i64_w, i32_w]; rw [c7b0]) | skip)
     have H' := Aside0.mk H
     clear H
     go_wp2
     go_meet
     case rel => exact ⟨_, (wrap64 (2 * (rd l1 x10_1))), (by first | rfl | (simp; done) | (simp [*]; done)), H', ⟨by have := HK1.out; first | omega | exact Nat.le_refl _⟩, ⟨by (with_reducible repeat (first | apply Kd.R_alloc | apply Kd.R_drewN | apply Kd.R_drew)); exact HO_0.out⟩, ⟨by repeat (first | (with_reducible first | exact HK.out | apply Kept.alloc | apply Kept.drewN | apply Kept.drew) | exact HK.out)⟩, ⟨bel_now⟩⟩
    case rest =>
     clear HC6
     try clear c1
     try clear p2 p2
     try clear c3
     try clear c3b0
     try clear p3
     try clear q3
     try clear hx3
     try clear c4
     try clear c4b0
     try clear c5
     try clear c5b0
     try clear p6
     try clear c7
     try clear c7b0
     try clear hx336_0
     try clear p336
     try clear q336
     obtain ⟨kq, x7_5, rfl, HA, HJ5, HO_0, HK, HB⟩ := hcut
     cases kq with
     | zero => exact absurd HA.out (by simp [impl_putWide.j1])
     | succ kj5 =>
      have H := HA.out
      clear HA
      simp only [impl_putWide.j1] at H
      have H' := Aside0.mk H
      clear H
      go_wp2
      go_loopg [0, 7] kj5 (fun kq v0 v7 w' => ∃ (x0_3 : List Int) (x7_3 : Int), v7 = .int .i64 x7_3 ∧ Aside0 (impl_putWide.l1 kq x0_3 x7_3 l1 (l1.length : Int) x10_1 = some r) ∧ Aside0 (kq ≤ kj5) ∧ Aside0 (RL 5 b w' w0.heap.size (fun k_ => (P0_ k_ ∨ w.heap.size ≤ k_)) v0 x0_3) ∧ Aside0 (Kept w w' (fun k_ => P0_ k_)) ∧ Aside0 (Below w0.heap.size w0 w'))
      case atStart => exact ⟨(x0_1), (x7_5), (by first | rfl | (simp; done) | (simp [*]; done)), H', ⟨Nat.le_refl _⟩, ⟨by (with_reducible repeat (first | apply Kd.R_alloc | apply Kd.R_drewN | apply Kd.R_drew)); exact HO_0.out⟩, ⟨by repeat (first | (with_reducible first | exact HK.out | apply Kept.alloc | apply Kept.drewN | apply Kept.drew) | exact HK.out)⟩, ⟨bel_now⟩⟩
      case round =>
       clear H'
       try clear c1
       try clear p2 p2
       try clear c3
       try clear c3b0
       try clear p3 p3
       try clear q3 q3
       try clear hx3
       try clear c4
       try clear c4b0
       try clear c5
       try clear c5b0
       try clear p6 p6
       try clear c7
       try clear c7b0
       try clear hx336_0
       try clear p336
       try clear q336
       obtain ⟨x0_3, x7_3, rfl, HA, HK3, HO_0, HK, HB⟩ := hrel
       cases gk with
       | zero => exact absurd HA.out (by simp [impl_putWide.l1])
       | succ k3 =>
        have H := HA.out
        clear HA
        simp only [impl_putWide.l1] at H
        by_cases c8 : x7_3 > 127
        rotate_left
        ·rw [if_neg c8] at H
         have c8b0 : decide (127 < x7_3) = false := decide_eq_false c8
         clear c8
         by_cases c11 : x0_3.length < 140737488355328
         rotate_left
         ·rw [if_neg c11] at H
          exact absurd H (by simp)
         rw [if_pos c11] at H
         have LMc11 := Aside0.mk c11
         clear c11
         obtain ⟨y340, hy340⟩ : ∃ y_ : List Int, y_ = (x0_3 ++ [(x7_3) % 256]) := ⟨_, rfl⟩
         replace H : (impl_putWide.l0 k3 y340 l1 (l1.length : Int) (wrap64 (x10_1 + 1))) = some r := by first | (rw [hy340]; with_reducible exact H) | (have H2_ := (Option.bind_some _ _).symm.trans H; rw [hy340]; with_reducible exact H2_) | (have H2_ := (Option.bind_some _ _).symm.trans H; with_reducible exact H2_) | with_reducible exact H | (rw [hy340]; exact H) | exact H
         have Ny340 := Aside0.mk hy340
         clear hy340
         have H' := Aside0.mk H
         clear H
         go_wp2_with (first | ((with_reducible refine gate_builtin (b := .append) (xs := #[.tmp 31, .tmp 34]) rfl ?_); at_builtin; refine RL_append (b := b) (w0 := w0) w0.heap.size rfl (.tmp 31) (.tmp 34) 22 5 (.int .u8 0) 1 rfl Try.underlying22 info5 rfl (by decide) (by omega) u0 x0_3 ((x7_3) % 256) [.int .u8 ((x7_3) % 256)] (fun k_ => (P0_ k_ ∨ w.heap.size ≤ k_)) (fun _ => False) rfl rfl ?aP (fun _ hk => hk.elim) ?aF ?aO ?aB ?aS ?aL ?_; (case aP => exact rfl); (case aB => exact bel_now); (case aF => exact (fun k_ hk => (.inr (Nat.le_trans (by first | exact HK.out.1 | exact (show Kept w _ (fun k_ => P0_ k_) from by repeat (first | (with_reducible first | exact HK.out | apply Kept.alloc | apply Kept.drewN | apply Kept.drew) | exact HK.out)).1) hk)))); (case aO => exact HO_0.out); (case aS => exact (below_size bel_now)); (case aL => have := LMc11.out; omega); intro v341 w12 ho hb hg hat; rw [← Ny340.out] at ho; have n0_ := Aside0.mk (hb); have n1_ := Aside0.mk (Kept.of_grown (S := (fun k_ => P0_ k_)) hg (by repeat (first | (with_reducible first | exact HK.out | apply Kept.alloc | apply Kept.drewN | apply Kept.drew) | exact HK.out)) (fun k_ e_ => (RL.ok HO_0.out k_ e_))); have n2_ := Aside0.mk (RL.of (b := b) ho); clear HB; clear HK; clear HO_0; have HB := n0_; have HK := n1_; have HO342 := n2_; clear n0_ n1_ n2_; clear ho hb hg hat))
         go_roundg k3
         case measure => have := HK1.out; have := HJ5.out; have := HK3.out; omega
         case rel => exact ⟨(y340), (wrap64 (x10_1 + 1)), (by first | rfl | (simp; done) | (simp [*]; done)), H', ⟨by have := HK1.out; have := HJ5.out; have := HK3.out; omega⟩, ⟨by (with_reducible repeat (first | apply Kd.R_alloc | apply Kd.R_drewN | apply Kd.R_drew)); exact HO342.out⟩, ⟨by repeat (first | (with_reducible first | exact HK.out | apply Kept.alloc | apply Kept.drewN | apply Kept.drew) | exact HK.out)⟩, ⟨bel_now⟩⟩
        rw [if_pos c8] at H
        have c8b0 : decide (127 < x7_3) = true := decide_eq_true c8
        clear c8
        by_cases c9 : x0_3.length < 140737488355328
        rotate_left
        ·rw [if_neg c9] at H
         exact absurd H (by simp)
        rw [if_pos c9] at H
        have LMc9 := Aside0.mk c9
        clear c9
        obtain ⟨y337, hy337⟩ : ∃ y_ : List Int, y_ = (x0_3 ++ [Go.bits .or .u8 ((x7_3) % 256) 128]) := ⟨_, rfl⟩
        replace H : (impl_putWide.l1 k3 y337 (x7_3 / 128) l1 (l1.length : Int) x10_1) = some r := by first | (rw [hy337]; with_reducible exact H) | (have H2_ := (Option.bind_some _ _).symm.trans H; rw [hy337]; with_reducible exact H2_) | (have H2_ := (Option.bind_some _ _).symm.trans H; with_reducible exact H2_) | with_reducible exact H | (rw [hy337]; exact H) | exact H
        have Ny337 := Aside0.mk hy337
        clear hy337
        have H' := Aside0.mk H
        clear H
        go_wp2_with (first | ((with_reducible refine gate_builtin (b := .append) (xs := #[.tmp 25, .tmp 29]) rfl ?_); at_builtin; refine RL_append (b := b) (w0 := w0) w0.heap.size rfl (.tmp 25) (.tmp 29) 22 5 (.int .u8 0) 1 rfl Try.underlying22 info5 rfl (by decide) (by omega) u0 x0_3 (Go.bits .or .u8 ((x7_3) % 256) 128) [.int .u8 (Go.bits .or .u8 ((x7_3) % 256) 128)] (fun k_ => (P0_ k_ ∨ w.heap.size ≤ k_)) (fun _ => False) rfl rfl ?aP (fun _ hk => hk.elim) ?aF ?aO ?aB ?aS ?aL ?_; (case aP => exact rfl); (case aB => exact bel_now); (case aF => exact (fun k_ hk => (.inr (Nat.le_trans (by first | exact HK.out.1 | exact (show Kept w _ (fun k_ => P0_ k_) from by repeat (first | (with_reducible first | exact HK.out | apply Kept.alloc | apply Kept.drewN | apply Kept.drew) | exact HK.out)).1) hk)))); (case aO => exact HO_0.out); (case aS => exact (below_size bel_now)); (case aL => have := LMc9.out; omega); intro v338 w10 ho hb hg hat; rw [← Ny337.out] at ho; have n0_ := Aside0.mk (hb); have n1_ := Aside0.mk (Kept.of_grown (S := (fun k_ => P0_ k_)) hg (by repeat (first | (with_reducible first | exact HK.out | apply Kept.alloc | apply Kept.drewN | apply Kept.drew) | exact HK.out)) (fun k_ e_ => (RL.ok HO_0.out k_ e_))); have n2_ := Aside0.mk (RL.of (b := b) ho); clear HB; clear HK; clear HO_0; have HB := n0_; have HK := n1_; have HO339 := n2_; clear n0_ n1_ n2_; clear ho hb hg hat))
        go_roundg k3
        case measure => have := HK1.out; have := HJ5.out; have := HK3.out; omega
        case rel => exact ⟨(y337), (x7_3 / 128), (by first | rfl | (simp; done) | (simp [*]; done)), H', ⟨by have := HK1.out; have := HJ5.out; have := HK3.out; omega⟩, ⟨by (with_reducible repeat (first | apply Kd.R_alloc | apply Kd.R_drewN | apply Kd.R_drew)); exact HO339.out⟩, ⟨by repeat (first | (with_reducible first | exact HK.out | apply Kept.alloc | apply Kept.drewN | apply Kept.drew) | exact HK.out)⟩, ⟨bel_now⟩⟩
theorem impl_putWide.calls (k : Nat) (P0_ : Nat → Prop) (u9000_ : Value) (l0 : List Int) (A1 : Option Addr) (c1 : Nat) (l1 : List Int) (r : List Int) (w0 w : World) (hB : Below w0.heap.size w0 w) (ho0 : Kd.R (Kd.int .u8) 5 w w0.heap.size P0_ u9000_ l0) (hr1 : ∀ W_, Kept w W_ (fun k_ => P0_ k_) → Kd.C (Kd.int .i64) W_ A1 l1.length l1) (hc1 : l1.length ≤ c1) (h : impl_putWide.f k l0 l1 = some r) :
   Calls Try.prog 53 #[u9000_, .slice A1 l1.length c1] w fun e w' => ∃ v0_ : Value, e = .returned (v0_) ∧ Kd.R (Kd.int .u8) 5 w' w0.heap.size (fun k_ => (P0_ k_ ∨ w.heap.size ≤ k_)) v0_ r ∧ Below w0.heap.size w0 w' ∧ Kept w w' (fun k_ => P0_ k_) :=
  (impl_putWide.callsL false k P0_ u9000_ l0 A1 c1 l1 r w0 w hB (.inl ho0) hr1 hc1 h).mono fun _ _ ⟨v, h1, h2, h3⟩ => ⟨v, h1, RL.elim h2, h3⟩

/-! ### impl_Model_head: function 52 -/
def impl_Model_head.f (k : Nat) (a0_0 : Int) (a0_1 : Int) (a0_2 : Int) (l0_3 : List (S73)) : Option (List Int) := (impl_putWide.f k (([80, 77, 49] : List Int)) (([a0_0, a0_1, a0_2, (l0_3.length : Int)] : List Int))).bind fun t350 => (if 3 < t350.length then some t350 else none)
set_option maxHeartbeats 8000000 in
set_option maxRecDepth 100000 in
theorem impl_Model_head.calls (k : Nat) (a0_0 : Int) (a0_1 : Int) (a0_2 : Int) (A0_3 : Option Addr) (c0_3 : Nat) (l0_3 : List (S73)) (r : List Int) (w : World) (hr0_3 : Kd.C k73 w A0_3 l0_3.length l0_3) (hc0_3 : l0_3.length ≤ c0_3) (h : impl_Model_head.f k a0_0 a0_1 a0_2 l0_3 = some r) :
   Calls Try.prog 52 #[.agg #[.int .i64 a0_0, .int .i64 a0_1, .int .i64 a0_2, .slice A0_3 l0_3.length c0_3]] w fun e w' => ∃ v0_ : Value, e = .returned (v0_) ∧ Kd.R (Kd.int .u8) 5 w' w.heap.size (fun _ => True) v0_ r ∧ Below w.heap.size w w' := by
  have hu28 := Try.underlying28
  have HR0_3 := Aside0.mk hr0_3
  have HC0_3 := Aside0.mk hc0_3
  clear hr0_3 hc0_3
  have HB := Aside0.mk (Below.refl w.heap.size w)
  have H : ((impl_putWide.f k (([80, 77, 49] : List Int)) (([a0_0, a0_1, a0_2, (l0_3.length : Int)] : List Int))).bind fun t350 => (if 3 < t350.length then some t350 else none)) = some r := h
  clear h
  obtain ⟨y344, hy344⟩ : ∃ y_ : List Int, y_ = (([80, 77, 49] : List Int)) := ⟨_, rfl⟩
  replace H : ((impl_putWide.f k y344 (([a0_0, a0_1, a0_2, (l0_3.length : Int)] : List Int))).bind fun t350 => (if 3 < t350.length then some t350 else none)) = some r := by first | (rw [hy344]; with_reducible exact H) | (have H2_ := (Option.bind_some _ _).symm.trans H; rw [hy344]; with_reducible exact H2_) | (have H2_ := (Option.bind_some _ _).symm.trans H; with_reducible exact H2_) | with_reducible exact H | (rw [hy344]; exact H) | exact H
  have Ny344 := Aside0.mk hy344
  clear hy344
  obtain ⟨y347, hy347⟩ : ∃ y_ : List Int, y_ = (([a0_0, a0_1, a0_2, (l0_3.length : Int)] : List Int)) := ⟨_, rfl⟩
  replace H : ((impl_putWide.f k y344 y347).bind fun t350 => (if 3 < t350.length then some t350 else none)) = some r := by first | (rw [hy347]; with_reducible exact H) | (have H2_ := (Option.bind_some _ _).symm.trans H; rw [hy347]; with_reducible exact H2_) | (have H2_ := (Option.bind_some _ _).symm.trans H; with_reducible exact H2_) | with_reducible exact H | (rw [hy347]; exact H) | exact H
  have Ny347 := Aside0.mk hy347
  clear hy347
  replace H := Option.bind_eq_some_iff.mp H
  obtain ⟨t350, A20, H⟩ := H
  (try dsimp only at H)
  have A2 := Aside0.mk A20
  clear A20
  by_cases G3 : 3 < t350.length
  rotate_left
  ·rw [if_neg G3] at H
   exact absurd H (by simp)
  rw [if_pos G3] at H
  obtain rfl := Option.some.inj H
  have kc := fun (w : World) (C : Array Value) (n c : Nat) => Lib.run_convert_bytes_const (P := Try.prog) w 22 5 C n c Try.underlying22 Try.underlying5
  go_enter Try.func52, Try.ntmps52
  go_wp2_with (first | ((with_reducible refine gate_dst (N := 1) rfl ?_); refine boxM 1 #[.int .i64 a0_0, .int .i64 a0_1, .int .i64 a0_2, .slice A0_3 l0_3.length c0_3] 28 ?_; intro gb343 hg w3 BK343 hb; replace HB := box_at w hb hg; obtain ⟨HB, GW343, GE343⟩ := HB; clear hb hg; have hcz6 := cells4 (blk_alloc BK343.out (.cells #[.int .u8 80, .int .u8 77, .int .u8 49] 5 (3, 4)))) | ((with_reducible refine gate_dst (N := 17) rfl ?_); refine Kd.R_lit (Kd.int .i64) _ 3 ?hg (N := 17) ?hd (xs := ([a0_0, a0_1, a0_2, (l0_3.length : Int)] : List Int)) (inner := [.int .i64 a0_0, .int .i64 a0_1, .int .i64 a0_2, .int .i64 (l0_3.length : Int)]) (ok := fun _ => True) (okp := fun _ => True) ?hr ?hp (fun _ hk => hk) trivial (Below.refl _ _) (Nat.le_refl _) (by simp) ?_; (case hd => rfl); (case hg => rfl); (case hr => first | (go_simp; done) | (go_simp; rfl)); (case hp => exact (Reps.one (show Kd.M (Kd.int .i64) _ _ _ a0_0 [.int .i64 a0_0] from rfl) (Reps.one (show Kd.M (Kd.int .i64) _ _ _ a0_1 [.int .i64 a0_1] from rfl) (Reps.one (show Kd.M (Kd.int .i64) _ _ _ a0_2 [.int .i64 a0_2] from rfl) (Reps.one (show Kd.M (Kd.int .i64) _ _ _ (l0_3.length : Int) [.int .i64 (l0_3.length : Int)] from rfl) (Reps.none _ _)))))); intro v348 w7 ho8 hb hg_ hnew_; clear hg_ hnew_; (first | rw [← Ny347.out] at ho8 | (simp only [Int.reduceToNat] at ho8; rw [← Ny347.out] at ho8)); have n1_ := Aside0.mk (Kd.R_lower ho8 (below_size bel_now)); have HO346 := Aside0.mk (show RL 5 true w7 w.heap.size (fun _ => True) (.slice (some ⟨w3.heap.size, 0, none⟩) 3 3) y344 by rw [Ny344.out]; exact RL.below (RL.lit HB.out.size trivial) hb); replace HB := bel_on w hb; replace BK343 := Aside0.mk (blk_below (blk_alloc BK343.out (.cells #[.int .u8 80, .int .u8 77, .int .u8 49] 5 (3, 4))) hb); have HO349 := n1_; clear n1_; clear hb ho8; obtain ⟨Ao10, co10, eo10⟩ := Kd.R_slice HO349.out; subst eo10) | ((with_reducible refine gate_callee (f := 53) rfl ?_); refine goesM (some 18) rfl rfl Try.func53 (by kernel_rfl) rfl #[.slice (some ⟨w3.heap.size, 0, none⟩) 3 3, .slice Ao10 y347.length co10] rfl ?_; (with_reducible refine (impl_putWide.callsL true k (fun k_ => some k_ = (.slice (some ⟨w3.heap.size, 0, none⟩) 3 3 : Value).ownBlock) (.slice (some ⟨w3.heap.size, 0, none⟩) 3 3) y344 _ _ y347 t350 w _ ?side1 ?side2 ?side3 ?side4 A2.out).mono ?_); (case side1 => exact bel_now); (case side2 => exact RL.tight HO346.out); (case side3 => exact Kd.C_kept_own ((RL.apart HO349.out HO346.out (by decide))) (fun k_ hk_ hs_ => (hk_.2) hs_)); (case side4 => exact (Kd.R_reads' HO349.out).2.1); rintro e w11 ⟨v351, rfl, ho0, hb, hkp⟩; refine ⟨_, rfl, ?_⟩; have n0_ := Aside0.mk (blk_kept blk_now hkp (fun hs_ => (fun e_ => (RL.ne HO346.out BK343.out (by decide)) e_) hs_)); have n1_ := Aside0.mk (Kd.R_mono (ok' := fun k_ => True) (Kd.R_keptB ((RL.apart HO349.out HO346.out (by decide))) hkp (fun k_ hk_ hs_ => (hk_.2) hs_)) (fun k_ hk_ => trivial)); have n2_ := Aside0.mk (Kd.R_mono (ok' := fun k_ => True) (RL.long ho0 G3) (fun k_ hk_ => trivial)); have n3_ := Aside0.mk (hb); clear BK343; clear HO349; clear HB; clear HO346; have BK343 := n0_; have HO349 := n1_; have HO352 := n2_; have HB := n3_; clear n0_ n1_ n2_ n3_; (try clear hb); (try clear hkp); (try clear ho0)))
  go_ret
  exact ⟨_, eqN, by (with_reducible repeat (first | apply Kd.R_alloc | apply Kd.R_drewN | apply Kd.R_drew)); exact HO352.out, bel_now⟩

/-! ### impl_Layer_numbers: function 54 -/
def impl_Layer_numbers.f (a0_0 : Int) (a0_1 : Int) (a0_2 : Int) (a0_3 : Int) (a0_4 : Int) (a0_5 : Int) (a0_6 : Int) (l0_7 : List Int) (l0_8 : List Int) : Option (List Int) := some (([a0_0, a0_1, a0_2, a0_3, a0_4, a0_5, a0_6] : List Int))
set_option maxHeartbeats 8000000 in
set_option maxRecDepth 100000 in
theorem impl_Layer_numbers.calls (a0_0 : Int) (a0_1 : Int) (a0_2 : Int) (a0_3 : Int) (a0_4 : Int) (a0_5 : Int) (a0_6 : Int) (A0_7 : Option Addr) (c0_7 : Nat) (l0_7 : List Int) (A0_8 : Option Addr) (c0_8 : Nat) (l0_8 : List Int) (r : List Int) (w : World) (hr0_7 : Kd.C (Kd.int .i64) w A0_7 l0_7.length l0_7) (hc0_7 : l0_7.length ≤ c0_7) (hr0_8 : Kd.C (Kd.int .i64) w A0_8 l0_8.length l0_8) (hc0_8 : l0_8.length ≤ c0_8) (h : impl_Layer_numbers.f a0_0 a0_1 a0_2 a0_3 a0_4 a0_5 a0_6 l0_7 l0_8 = some r) :
   Calls Try.prog 54 #[.agg #[.int .i64 a0_0, .int .i64 a0_1, .int .i64 a0_2, .int .i64 a0_3, .int .i64 a0_4, .int .i64 a0_5, .int .i64 a0_6, .slice A0_7 l0_7.length c0_7, .slice A0_8 l0_8.length c0_8]] w fun e w' => ∃ v0_ : Value, e = .returned (v0_) ∧ Kd.R (Kd.int .i64) 3 w' w.heap.size (fun _ => True) v0_ r ∧ Below w.heap.size w w' := by
  have hu73 := Try.underlying73
  have HR0_7 := Aside0.mk hr0_7
  have HC0_7 := Aside0.mk hc0_7
  clear hr0_7 hc0_7
  have HR0_8 := Aside0.mk hr0_8
  have HC0_8 := Aside0.mk hc0_8
  clear hr0_8 hc0_8
  have HB := Aside0.mk (Below.refl w.heap.size w)
  have H : (some (([a0_0, a0_1, a0_2, a0_3, a0_4, a0_5, a0_6] : List Int))) = some r := h
  clear h
  obtain ⟨y354, hy354⟩ : ∃ y_ : List Int, y_ = (([a0_0, a0_1, a0_2, a0_3, a0_4, a0_5, a0_6] : List Int)) := ⟨_, rfl⟩
  replace H : (some y354) = some r := by first | (rw [hy354]; with_reducible exact H) | (have H2_ := (Option.bind_some _ _).symm.trans H; rw [hy354]; with_reducible exact H2_) | (have H2_ := (Option.bind_some _ _).symm.trans H; with_reducible exact H2_) | with_reducible exact H | (rw [hy354]; exact H) | exact H
  have Ny354 := Aside0.mk hy354
  clear hy354
  obtain rfl := Option.some.inj H
  go_enter Try.func54, Try.ntmps54
  go_wp2_with (first | ((with_reducible refine gate_dst (N := 1) rfl ?_); refine boxM 1 #[.int .i64 a0_0, .int .i64 a0_1, .int .i64 a0_2, .int .i64 a0_3, .int .i64 a0_4, .int .i64 a0_5, .int .i64 a0_6, .slice A0_7 l0_7.length c0_7, .slice A0_8 l0_8.length c0_8] 73 ?_; intro gb353 hg w2 BK353 hb; replace HB := box_at w hb hg; obtain ⟨HB, GW353, GE353⟩ := HB; clear hb hg; have hcz3 := cells9 BK353.out) | ((with_reducible refine gate_dst (N := 17) rfl ?_); refine Kd.R_lit (Kd.int .i64) _ 3 ?hg (N := 17) ?hd (xs := ([a0_0, a0_1, a0_2, a0_3, a0_4, a0_5, a0_6] : List Int)) (inner := [.int .i64 a0_0, .int .i64 a0_1, .int .i64 a0_2, .int .i64 a0_3, .int .i64 a0_4, .int .i64 a0_5, .int .i64 a0_6]) (ok := fun _ => True) (okp := fun _ => True) ?hr ?hp (fun _ hk => hk) trivial (Below.refl _ _) (Nat.le_refl _) (by simp) ?_; (case hd => rfl); (case hg => rfl); (case hr => first | (go_simp; done) | (go_simp; rfl)); (case hp => exact (Reps.one (show Kd.M (Kd.int .i64) _ _ _ a0_0 [.int .i64 a0_0] from rfl) (Reps.one (show Kd.M (Kd.int .i64) _ _ _ a0_1 [.int .i64 a0_1] from rfl) (Reps.one (show Kd.M (Kd.int .i64) _ _ _ a0_2 [.int .i64 a0_2] from rfl) (Reps.one (show Kd.M (Kd.int .i64) _ _ _ a0_3 [.int .i64 a0_3] from rfl) (Reps.one (show Kd.M (Kd.int .i64) _ _ _ a0_4 [.int .i64 a0_4] from rfl) (Reps.one (show Kd.M (Kd.int .i64) _ _ _ a0_5 [.int .i64 a0_5] from rfl) (Reps.one (show Kd.M (Kd.int .i64) _ _ _ a0_6 [.int .i64 a0_6] from rfl) (Reps.none _ _))))))))); intro v355 w4 ho5 hb hg_ hnew_; clear hg_ hnew_; (first | rw [← Ny354.out] at ho5 | (simp only [Int.reduceToNat] at ho5; rw [← Ny354.out] at ho5)); have n0_ := Aside0.mk (Kd.R_lower ho5 (below_size bel_now)); replace HB := bel_on w hb; replace BK353 := blk_on gb353 hb; have HO356 := n0_; clear n0_; clear hb ho5))
  go_ret
  exact ⟨_, eqN, by (with_reducible repeat (first | apply Kd.R_alloc | apply Kd.R_drewN | apply Kd.R_drew)); exact HO356.out, bel_now⟩

end Go.Proofs.Ytljdcemdhmaahaa.PFnExactEncodeModel
