-- Printed by the session's own program (wip/myprint.py) for this claim out of the translation. Not trusted: Lean checks it.
import Derived.Test.YtljdcemdhmaahaaPFnExactCostsOfx0
import Derived.Test.YtljdcemdhmaahaaPFnExactCostsOfx7
import Derived.Test.YtljdcemdhmaahaaPFnExactCostsOfx9
namespace Go.Proofs.Ytljdcemdhmaahaa.PFnExactCostsOf
open Go.RowKit Go.Proofs.YtljdcemdhmaahaaW.PrintWords Go.Proofs.YtljdcemdhmaahaaW.PrintLast Go.Proofs.YtljdcemdhmaahaaW.PrintMore
attribute [local go_sem] max2_int min2_int max_two min_two max_three min_three max_four min_four   -- for this text's walks alone
set_option linter.unusedVariables false
set_option linter.unusedSimpArgs false

/-! ### impl_Model_shapes: function 70 -/
def impl_Model_shapes.l0 : Nat → List (S25) → List (S73) → Int → Int → Int → Int → Int → Option ((List (S25)) × Bool)
  | 0, _, _, _, _, _, _, _ => none
  | k + 1, x4, x16, x17, x18, x285000, x285001, x285002 => if x18 < x17 then (if 0 ≤ x18 then (if x18 < (x16.length : Int) then ((impl_OutShape.f k x285000 x285001 x285002 ((rd_T73 x16 x18).f0) ((rd_T73 x16 x18).f1) ((rd_T73 x16 x18).f2) ((rd_T73 x16 x18).f3) ((rd_T73 x16 x18).f4) ((rd_T73 x16 x18).f5) ((rd_T73 x16 x18).f6) ((rd_T73 x16 x18).f7) ((rd_T73 x16 x18).f8)).bind fun bt287 => (if bt287.2.2.2 = true then (if x4.length < 5864062014805 then (impl_Model_shapes.l0 k (x4 ++ [(⟨bt287.1, bt287.2.1, bt287.2.2.1⟩ : S25)]) x16 x17 (wrap64 (x18 + 1)) bt287.1 bt287.2.1 bt287.2.2.1) else (none)) else (some (([] : List (S25)), false)))) else (none)) else (none)) else (some (x4, true))
def impl_Model_shapes.f (k : Nat) (a0_0 : Int) (a0_1 : Int) (a0_2 : Int) (l0_3 : List (S73)) : Option ((List (S25)) × Bool) := impl_Model_shapes.l0 k (([(⟨a0_0, a0_1, a0_2⟩ : S25)] : List (S25))) l0_3 (l0_3.length : Int) 0 a0_0 a0_1 a0_2
def impl_Model_shapes.T1 : Bool × List (List Nat × List Nat) := (true, [([], []), ([0], [0]), ([1], [1]), ([], []), ([3], [3]), ([], []), ([2, 0, 1, 2, 5], [2]), ([5, 4, 6, 0, 1, 2, 3, 4, 5, 6], [4, 5])])
def impl_Model_shapes.B1 : List Nat := [0, 1, 3, 0, 8, 0, 39, 127]
theorem impl_Model_shapes.tab1 : rtab .any (opsOf Try.f70 1) = impl_Model_shapes.T1 := by kernel_rfl
theorem impl_Model_shapes.bits1 : waitsOk impl_Model_shapes.T1.2 impl_Model_shapes.B1 = true := by kernel_rfl
set_option maxHeartbeats 8000000 in
set_option maxRecDepth 100000 in
theorem impl_Model_shapes.calls (k : Nat) (a0_0 : Int) (a0_1 : Int) (a0_2 : Int) (A0_3 : Option Addr) (c0_3 : Nat) (l0_3 : List (S73)) (r1 : List (S25)) (r2 : Bool) (w : World) (hr0_3 : Kd.C k73 w A0_3 l0_3.length l0_3) (hc0_3 : l0_3.length ≤ c0_3) (h : impl_Model_shapes.f k a0_0 a0_1 a0_2 l0_3 = some (r1, r2)) :
   Calls Try.prog 70 #[.agg #[.int .i64 a0_0, .int .i64 a0_1, .int .i64 a0_2, .slice A0_3 l0_3.length c0_3]] w fun e w' => ∃ v0_ : Value, e = .returned (.tuple #[v0_, .bool r2]) ∧ Kd.R k25 25 w' w.heap.size (fun _ => True) v0_ r1 ∧ Below w.heap.size w w' := by
  have hu28 := Try.underlying28
  have hu25 := Try.underlying25
  have hu73 := Try.underlying73
  have HR0_3 := Aside0.mk hr0_3
  have HC0_3 := Aside0.mk hc0_3
  clear hr0_3 hc0_3
  have HB := Aside0.mk (Below.refl w.heap.size w)
  have H : (impl_Model_shapes.l0 k (([(⟨a0_0, a0_1, a0_2⟩ : S25)] : List (S25))) l0_3 (l0_3.length : Int) 0 a0_0 a0_1 a0_2) = some (r1, r2) := h
  clear h
  obtain ⟨y281, hy281⟩ : ∃ y_ : List (S25), y_ = (([(⟨a0_0, a0_1, a0_2⟩ : S25)] : List (S25))) := ⟨_, rfl⟩
  replace H : (impl_Model_shapes.l0 k y281 l0_3 (l0_3.length : Int) 0 a0_0 a0_1 a0_2) = some (r1, r2) := by first | (rw [hy281]; with_reducible exact H) | (have H2_ := (Option.bind_some _ _).symm.trans H; rw [hy281]; with_reducible exact H2_) | (have H2_ := (Option.bind_some _ _).symm.trans H; with_reducible exact H2_) | with_reducible exact H | (rw [hy281]; exact H) | exact H
  have Ny281 := Aside0.mk hy281
  clear hy281
  have H' := Aside0.mk H
  clear H
  go_enter Try.func70, Try.ntmps70
  try go_wp2_with (first | ((with_reducible refine gate_dst (N := 1) rfl ?_); refine boxM 1 #[.int .i64 a0_0, .int .i64 a0_1, .int .i64 a0_2, .slice A0_3 l0_3.length c0_3] 28 ?_; intro gb280 hg w2 BK280 hb; replace HB := box_at w hb hg; obtain ⟨HB, GW280, GE280⟩ := HB; clear hb hg))
  replace BK280 := Aside0.mk (blk_drew BK280.out)
  replace HB := Aside0.mk (below_drew1 HB.out)
  refine start_ (n := 8) (S := fun w' => w'.cell? ⟨gb280, 0, none⟩ = some (.int .i64 a0_0) ∧ w'.cell? ⟨gb280, 1, none⟩ = some (.int .i64 a0_1) ∧ w'.cell? ⟨gb280, 2, none⟩ = some (.int .i64 a0_2) ∧ w'.cell? ⟨gb280, 3, none⟩ = some (.slice A0_3 l0_3.length c0_3)) (ds := []) #[O, O, O, O, O, O, O, O] (by kernel_rfl) rfl rfl ⟨bc BK280 0, bc BK280 1, bc BK280 2, bc BK280 3⟩ (fun hHeld => ?_); refine with_tabW impl_Model_shapes.tab1 impl_Model_shapes.bits1 (fun HT_ HW_ => ?_)
  generalize w2.drew = w3 at BK280 HB hHeld ⊢
  refine stepP 0 (some 10) (tk 8 1) (any_of HT_.out (by kernel_rfl)) ?_
  refine stepP 3 (some 13) (tk 8 9) (any_of HT_.out (by kernel_rfl)) ?_
  refine stepT 1 (some 11) (tk 8 11) (take_ofW HT_.out HW_.out (by kernel_rfl)) hHeld ?_
  refine stepT 4 (some 14) (tk 8 27) (take_ofW HT_.out HW_.out (by kernel_rfl)) hHeld ?_
  refine join_ (σ := Value × Nat) 2 #[I, I, I, I, I, I, O, O] (fun s_ => [(12, s_.1), (5, .pointer (some ⟨s_.2, 0, none⟩))]) (fun s_ w' => (w'.cell? ⟨gb280, 0, none⟩ = some (.int .i64 a0_0) ∧ w'.cell? ⟨gb280, 1, none⟩ = some (.int .i64 a0_1) ∧ w'.cell? ⟨gb280, 2, none⟩ = some (.int .i64 a0_2) ∧ w'.cell? ⟨gb280, 3, none⟩ = some (.slice A0_3 l0_3.length c0_3)) ∧ (Kd.R k25 25 w' w.heap.size (fun k_ => k_ ≠ s_.2) s_.1 y281) ∧ (w'.heap[gb280]? = some (.cells #[.int .i64 a0_0, .int .i64 a0_1, .int .i64 a0_2, .slice A0_3 l0_3.length c0_3] 28 (0, 0))) ∧ (w'.heap[s_.2]? = some (.cells #[.int .i64 0, .int .i64 0, .int .i64 0] 25 (0, 0))) ∧ (w.heap.size ≤ s_.2) ∧ (w.heap.size ≤ s_.2) ∧ (gb280 ≠ s_.2) ∧ (s_.2 ≠ gb280) ∧ (Below w.heap.size w w')) ?_ ?_
  rotate_left
  ·intro hCont
   refine two_ (i := 2) (j := 5) (Ni := some 12) (Nj := some 5) #[I, I, I, I, I, O, O, O] #[I, I, O, I, I, I, O, O] rfl rfl rfl rfl (two_of HT_.out (by kernel_rfl)) (by decide) (by decide) (fun K hK => ?_) (fun K hK => ?_)
   ·skip
    refine Kd.R_lit_step k25 _ 25 ?hg (N := 12) ?hd (xs := ([(⟨a0_0, a0_1, a0_2⟩ : S25)] : List (S25))) (inner := [.int .i64 a0_0, .int .i64 a0_1, .int .i64 a0_2]) (ok := fun _ => True) (okp := fun _ => True) ?hr ?hp (fun _ hk => hk) trivial (Below.refl _ _) (Nat.le_refl _) (by simp) ?_; (case hd => rfl); (case hg => rfl); (case hr => first | (go_simp; done) | (go_simp; rfl)); (case hp => exact (Reps.c3 (show Kd.M k25 _ _ _ (⟨a0_0, a0_1, a0_2⟩ : S25) [.int .i64 a0_0, .int .i64 a0_1, .int .i64 a0_2] from (k25_mkM _ _ _ (⟨a0_0, a0_1, a0_2⟩ : S25) )) (Reps.none _ _)))
    intro v282 w4 ho5 hb hg_ hnew_
    clear hg_ hnew_
    (first | rw [← Ny281.out] at ho5 | (simp only [Int.reduceToNat] at ho5; rw [← Ny281.out] at ho5))
    have n0_ := Aside0.mk (Kd.R_lower ho5 (below_size bel_now))
    replace BK280 := blk_on gb280 hb
    replace HB := bel_on w hb
    have HO283 := n0_
    clear n0_
    clear hb ho5
    refine hK.out _ _ ⟨bc BK280 0, bc BK280 1, bc BK280 2, bc BK280 3⟩ (fun hHeld => ?_)
    clear hK K
    refine normP 12 ?_
    refine one_ (i := 5) (N := some 5) #[I, I, I, I, I, I, O, O] rfl rfl (one_of HT_.out (by kernel_rfl)) (by decide) (fun K hK => ?_)
    refine box_step ?hg (N := 5) ?hd (cs := #[.int .i64 0, .int .i64 0, .int .i64 0]) (t := 25) ?hr ?_; (case hd => rfl); (case hg => rfl); (case hr => first | (go_simp; done) | (go_simp; rfl))
    intro gb284 hg w6 hbox hb
    have n3_ := Aside0.mk (hbox)
    have n4_ := Aside0.mk ((by rw [hg]; exact (below_size bel_now) : w.heap.size ≤ gb284))
    have n5_ := Aside0.mk ((by rw [hg]; exact (below_size bel_now) : w.heap.size ≤ gb284))
    have n6_ := Aside0.mk ((by rw [hg]; exact Nat.ne_of_lt (blk_lt (g := gb280) blk_now) : gb280 ≠ gb284))
    have n7_ := Aside0.mk ((by rw [hg]; exact Nat.ne_of_gt (blk_lt (g := gb280) blk_now) : gb284 ≠ gb280))
    replace HO283 := Aside0.mk (Kd.R_below (Kd.R_elderB (R_at HO283.out) gb284 (Nat.le_of_eq hg.symm)) hb)
    replace BK280 := blk_on gb280 hb
    replace HB := bel_on w hb
    have BK284 := n3_
    have GW284 := n4_
    have GE284 := n5_
    have NB280_284 := n6_
    have NB284_280 := n7_
    clear n3_ n4_ n5_ n6_ n7_
    clear hb hbox hg
    refine hK.out _ _ ⟨bc BK280 0, bc BK280 1, bc BK280 2, bc BK280 3⟩ (fun hHeld => ?_)
    clear hK K
    refine normP 5 ?_
    exact norm_ (by simp only [putAll, Act.put, zA, zB, zC]) (hCont (v282, gb284) _ ⟨hHeld, (R_at (Kd.R_mono HO283.out (fun _ hk => by first | exact hk.2 | exact trivial))), blk_now, blk_now, GW284.out, GE284.out, NB280_284.out, NB284_280.out, bel_now⟩)
   skip
   refine box_step ?hg (N := 5) ?hd (cs := #[.int .i64 0, .int .i64 0, .int .i64 0]) (t := 25) ?hr ?_; (case hd => rfl); (case hg => rfl); (case hr => first | (go_simp; done) | (go_simp; rfl))
   intro gb284 hg w4 hbox hb
   have n2_ := Aside0.mk (hbox)
   have n3_ := Aside0.mk ((by rw [hg]; exact (below_size bel_now) : w.heap.size ≤ gb284))
   have n4_ := Aside0.mk ((by rw [hg]; exact (below_size bel_now) : w.heap.size ≤ gb284))
   have n5_ := Aside0.mk ((by rw [hg]; exact Nat.ne_of_lt (blk_lt (g := gb280) blk_now) : gb280 ≠ gb284))
   have n6_ := Aside0.mk ((by rw [hg]; exact Nat.ne_of_gt (blk_lt (g := gb280) blk_now) : gb284 ≠ gb280))
   replace BK280 := blk_on gb280 hb
   replace HB := bel_on w hb
   have BK284 := n2_
   have GW284 := n3_
   have GE284 := n4_
   have NB280_284 := n5_
   have NB284_280 := n6_
   clear n2_ n3_ n4_ n5_ n6_
   clear hb hbox hg
   refine hK.out _ _ ⟨bc BK280 0, bc BK280 1, bc BK280 2, bc BK280 3⟩ (fun hHeld => ?_)
   clear hK K
   refine normP 5 ?_
   refine one_ (i := 2) (N := some 12) #[I, I, I, I, I, I, O, O] rfl rfl (one_of HT_.out (by kernel_rfl)) (by decide) (fun K hK => ?_)
   refine Kd.R_lit_step k25 _ 25 ?hg (N := 12) ?hd (xs := ([(⟨a0_0, a0_1, a0_2⟩ : S25)] : List (S25))) (inner := [.int .i64 a0_0, .int .i64 a0_1, .int .i64 a0_2]) (ok := fun _ => True) (okp := fun _ => True) ?hr ?hp (fun _ hk => hk) trivial (Below.refl _ _) (Nat.le_refl _) (by simp) ?_; (case hd => rfl); (case hg => rfl); (case hr => first | (go_simp; done) | (go_simp; rfl)); (case hp => exact (Reps.c3 (show Kd.M k25 _ _ _ (⟨a0_0, a0_1, a0_2⟩ : S25) [.int .i64 a0_0, .int .i64 a0_1, .int .i64 a0_2] from (k25_mkM _ _ _ (⟨a0_0, a0_1, a0_2⟩ : S25) )) (Reps.none _ _)))
   intro v282 w5 ho6 hb hg_ hnew_
   clear hg_ hnew_
   (first | rw [← Ny281.out] at ho6 | (simp only [Int.reduceToNat] at ho6; rw [← Ny281.out] at ho6))
   have n0_ := Aside0.mk (Kd.R_lower (Kd.R_newB ho6 (g := gb284) blk_now) (below_size bel_now))
   replace BK280 := blk_on gb280 hb
   replace BK284 := blk_on gb284 hb
   replace HB := bel_on w hb
   have HO283 := n0_
   clear n0_
   clear hb ho6
   refine hK.out _ _ ⟨bc BK280 0, bc BK280 1, bc BK280 2, bc BK280 3⟩ (fun hHeld => ?_)
   clear hK K
   refine normP 12 ?_
   exact norm_ (by simp only [putAll, Act.put, zA, zB, zC]) (hCont (v282, gb284) _ ⟨hHeld, (R_at (Kd.R_mono HO283.out (fun _ hk => by first | exact hk.2 | exact trivial))), blk_now, blk_now, GW284.out, GE284.out, NB280_284.out, NB284_280.out, bel_now⟩)
  rintro ⟨v282, gb284⟩ w7 ⟨hS_, h0_, h1_, h2_, h3_, h4_, h5_, h6_, h7_⟩
  have n0_ : Aside0 (Kd.R k25 25 w7 w.heap.size (fun k_ => k_ ≠ gb284) v282 y281) := ⟨h0_⟩
  have n1_ : Aside0 (w7.heap[gb280]? = some (.cells #[.int .i64 a0_0, .int .i64 a0_1, .int .i64 a0_2, .slice A0_3 l0_3.length c0_3] 28 (0, 0))) := ⟨h1_⟩
  have n2_ : Aside0 (w7.heap[gb284]? = some (.cells #[.int .i64 0, .int .i64 0, .int .i64 0] 25 (0, 0))) := ⟨h2_⟩
  have n3_ : Aside0 (w.heap.size ≤ gb284) := ⟨h3_⟩
  have n4_ : Aside0 (w.heap.size ≤ gb284) := ⟨h4_⟩
  have n5_ : Aside0 (gb280 ≠ gb284) := ⟨h5_⟩
  have n6_ : Aside0 (gb284 ≠ gb280) := ⟨h6_⟩
  have n7_ : Aside0 (Below w.heap.size w w7) := ⟨h7_⟩
  clear BK280
  clear HB
  clear h0_ h1_ h2_ h3_ h4_ h5_ h6_ h7_
  have HO283 := n0_
  have BK280 := n1_
  have BK284 := n2_
  have GW284 := n3_
  have GE284 := n4_
  have NB280_284 := n5_
  have NB284_280 := n6_
  have HB := n7_
  clear n0_ n1_ n2_ n3_ n4_ n5_ n6_ n7_
  have hHeld : w7.cell? ⟨gb280, 0, none⟩ = some (.int .i64 a0_0) ∧ w7.cell? ⟨gb280, 1, none⟩ = some (.int .i64 a0_1) ∧ w7.cell? ⟨gb280, 2, none⟩ = some (.int .i64 a0_2) ∧ w7.cell? ⟨gb280, 3, none⟩ = some (.slice A0_3 l0_3.length c0_3) := hS_
  refine norm_ (a' := ?_) ?_ ?_
  rotate_left
  ·simp only [putAll, Act.put, zA, zB, zC]
   rfl
  refine stepP 6 (some 4) (tk 8 127) (any_of HT_.out (by kernel_rfl)) ?_
  refine one_ (i := 7) (N := none) #[I, I, I, I, I, I, I, I] rfl rfl (one_of HT_.out (by kernel_rfl)) (by decide) (fun K hK => ?_)
  have hs8 : w7.cell? ⟨gb284, 0, none⟩ = some (.int .i64 0) := (blk_cell BK284.out 0).trans rfl
  have hfs8 := blk_frozen BK284.out 0
  have hns8_0 := NB280_284.out
  have hms8_0 := NB284_280.out
  have hs9 : w7.cell? ⟨gb284, 1, none⟩ = some (.int .i64 0) := (blk_cell BK284.out 1).trans rfl
  have hfs9 := blk_frozen BK284.out 1
  have hns9_0 := NB280_284.out
  have hms9_0 := NB284_280.out
  have hs10 : w7.cell? ⟨gb284, 2, none⟩ = some (.int .i64 0) := (blk_cell BK284.out 2).trans rfl
  have hfs10 := blk_frozen BK284.out 2
  have hns10_0 := NB280_284.out
  have hms10_0 := NB284_280.out
  refine skip_ (w1 := ?_) (by rfl) rfl ?_ ?_
  rotate_left
  ·go_simp
   rfl
  refine hK.out _ _ ⟨((cell_far (p := ⟨gb284, _, none⟩) NB280_284.out _).trans (((cell_far (p := ⟨gb284, _, none⟩) NB280_284.out _).trans (((cell_far (p := ⟨gb284, _, none⟩) NB280_284.out _).trans (hHeld.1)))))), ((cell_far (p := ⟨gb284, _, none⟩) NB280_284.out _).trans (((cell_far (p := ⟨gb284, _, none⟩) NB280_284.out _).trans (((cell_far (p := ⟨gb284, _, none⟩) NB280_284.out _).trans (hHeld.2.1)))))), ((cell_far (p := ⟨gb284, _, none⟩) NB280_284.out _).trans (((cell_far (p := ⟨gb284, _, none⟩) NB280_284.out _).trans (((cell_far (p := ⟨gb284, _, none⟩) NB280_284.out _).trans (hHeld.2.2.1)))))), ((cell_far (p := ⟨gb284, _, none⟩) NB280_284.out _).trans (((cell_far (p := ⟨gb284, _, none⟩) NB280_284.out _).trans (((cell_far (p := ⟨gb284, _, none⟩) NB280_284.out _).trans (hHeld.2.2.2))))))⟩ (fun hHeld => ?_)
  clear hK K
  refine done_ (done_of HT_.out (by kernel_rfl)) ?_
  have hn11 := ne2 NB280_284
  have hcz12 := cells4 BK280.out
  try go_wp2
  go_loopg [4, 18] k (fun kq v4 v18 w' => ∃ (x4_1 : List (S25)) (x18_1 : Int) (x285000_1 : Int) (x285001_1 : Int) (x285002_1 : Int), v18 = .int .i64 x18_1 ∧ Aside0 (impl_Model_shapes.l0 kq x4_1 l0_3 (l0_3.length : Int) x18_1 x285000_1 x285001_1 x285002_1 = some (r1, r2)) ∧ Aside0 (kq ≤ k) ∧ Aside0 (Kd.R k25 25 w' w.heap.size (fun k_ => k_ ≠ gb284) v4 x4_1) ∧ Aside0 (w'.heap[gb280]? = some (.cells #[.int .i64 a0_0, .int .i64 a0_1, .int .i64 a0_2, (.slice A0_3 l0_3.length c0_3)] 28 (0, 0))) ∧ Aside0 (w'.heap[gb284]? = some (.cells #[.int .i64 x285000_1, .int .i64 x285001_1, .int .i64 x285002_1] 25 (0, 0))) ∧ Aside0 (Below w.heap.size w w'))
  case atStart => exact ⟨(y281), (0), (a0_0), (a0_1), (a0_2), (by first | rfl | (simp; done) | (simp [*]; done)), H', ⟨Nat.le_refl _⟩, ⟨by (with_reducible repeat (first | apply Kd.R_alloc | apply Kd.R_drewN | apply Kd.R_drew)); exact Kd.R_mono (Kd.R_far (p := ⟨gb284, 2, none⟩) (Kd.R_far (p := ⟨gb284, 1, none⟩) (Kd.R_far (p := ⟨gb284, 0, none⟩) (Kd.R_mono HO283.out (fun k_ hk => (⟨hk, hk⟩ : _ ∧ k_ ≠ gb284))) (fun _ hk => hk.2) (.int .i64 a0_0)) (fun _ hk => hk.2) (.int .i64 a0_1)) (fun _ hk => hk.2) (.int .i64 a0_2)) (fun _ hk => hk.1)⟩, ⟨by (with_reducible repeat (first | refine blk_drewN ?_ _ | refine blk_drew ?_ | refine blk_alloc ?_ _)); refine blk_far ?_ NB280_284.out _; (with_reducible repeat (first | refine blk_drewN ?_ _ | refine blk_drew ?_ | refine blk_alloc ?_ _)); refine blk_far ?_ NB280_284.out _; (with_reducible repeat (first | refine blk_drewN ?_ _ | refine blk_drew ?_ | refine blk_alloc ?_ _)); refine blk_far ?_ NB280_284.out _; (with_reducible repeat (first | refine blk_drewN ?_ _ | refine blk_drew ?_ | refine blk_alloc ?_ _)); exact BK280.out⟩, ⟨by (with_reducible repeat (first | refine blk_drewN ?_ _ | refine blk_drew ?_ | refine blk_alloc ?_ _)); refine blk_put (cs := #[.int .i64 a0_0, .int .i64 a0_1, .int .i64 0]) ?_ 2 _ rfl; (with_reducible repeat (first | refine blk_drewN ?_ _ | refine blk_drew ?_ | refine blk_alloc ?_ _)); refine blk_put (cs := #[.int .i64 a0_0, .int .i64 0, .int .i64 0]) ?_ 1 _ rfl; (with_reducible repeat (first | refine blk_drewN ?_ _ | refine blk_drew ?_ | refine blk_alloc ?_ _)); refine blk_put (cs := #[.int .i64 0, .int .i64 0, .int .i64 0]) ?_ 0 _ rfl; (with_reducible repeat (first | refine blk_drewN ?_ _ | refine blk_drew ?_ | refine blk_alloc ?_ _)); exact BK284.out⟩, ⟨bel_now⟩⟩
  case round =>
   clear H'
   try clear c1
   try clear p2
   try clear c3
   try clear c7
   try clear c11
   try clear hcz12
   obtain ⟨x4_1, x18_1, x285000_1, x285001_1, x285002_1, rfl, HA, HK1, HO_4, BK280, BK284, HB⟩ := hrel
   cases gk with
   | zero => exact absurd HA.out (by simp [impl_Model_shapes.l0])
   | succ k1 =>
    have H := HA.out
    clear HA
    simp only [impl_Model_shapes.l0] at H
    by_cases c13 : x18_1 < (l0_3.length : Int)
    rotate_left
    ·rw [if_neg c13] at H
     have c13b0 : decide (x18_1 < (l0_3.length : Int)) = false := decide_eq_false c13
     clear c13
     simp only [Option.some.injEq, Prod.mk.injEq] at H
     obtain ⟨rfl, rfl⟩ := H
     go_wp2
     go_ret2
     exact ⟨_, eqN, by (with_reducible repeat (first | apply Kd.R_alloc | apply Kd.R_drewN | apply Kd.R_drew)); exact Kd.R_mono HO_4.out (fun _ hk => trivial), bel_now⟩
    rw [if_pos c13] at H
    have c13b0 : decide (x18_1 < (l0_3.length : Int)) = true := decide_eq_true c13
    clear c13
    by_cases c14 : 0 ≤ x18_1
    rotate_left
    ·rw [if_neg c14] at H
     exact absurd H (by simp)
    rw [if_pos c14] at H
    have c14b0 : decide (0 ≤ x18_1) = true := decide_eq_true c14
    clear c14
    by_cases c15 : x18_1 < (l0_3.length : Int)
    rotate_left
    ·rw [if_neg c15] at H
     exact absurd H (by simp)
    rw [if_pos c15] at H
    have c15b0 : decide (x18_1 < (l0_3.length : Int)) = true := decide_eq_true c15
    clear c15
    replace H := Option.bind_eq_some_iff.mp H
    obtain ⟨⟨t287, t288, t289, t290⟩, A160, H⟩ := H
    (try dsimp only at H)
    have A16 := Aside0.mk A160
    clear A160
    by_cases c17 : t290 = true
    rotate_left
    ·replace c17 := Bool.eq_false_iff.mpr c17
     subst c17
     rw [if_neg (show ¬ (false = true) by decide)] at H
     simp only [Option.some.injEq, Prod.mk.injEq] at H
     obtain ⟨rfl, rfl⟩ := H
     have p285 : 0 ≤ (x18_1 : Int) := of_decide_eq_true (by first | (with_reducible assumption) | assumption)
     have q285 : x18_1 < (l0_3.length : Int) := of_decide_eq_true (by first | (with_reducible assumption) | assumption)
     obtain ⟨ad285, A285_7, c285_7, A285_8, c285_8, e285, hx285_0, hx285_1, hx285_2, hx285_3, hx285_4, hx285_5, hx285_6, hx285_7, hx285_8, hl285_7, hi285_7, hl285_8, hi285_8⟩ := at_T73 HR0_3.out x18_1 p285 q285
     cases e285
     replace hx285_0 := (HB.out.cell (World.block_lt_of_cell? w _ hx285_0)).trans hx285_0
     replace hx285_1 := (HB.out.cell (World.block_lt_of_cell? w _ hx285_1)).trans hx285_1
     replace hx285_2 := (HB.out.cell (World.block_lt_of_cell? w _ hx285_2)).trans hx285_2
     replace hx285_3 := (HB.out.cell (World.block_lt_of_cell? w _ hx285_3)).trans hx285_3
     replace hx285_4 := (HB.out.cell (World.block_lt_of_cell? w _ hx285_4)).trans hx285_4
     replace hx285_5 := (HB.out.cell (World.block_lt_of_cell? w _ hx285_5)).trans hx285_5
     replace hx285_6 := (HB.out.cell (World.block_lt_of_cell? w _ hx285_6)).trans hx285_6
     replace hx285_7 := (HB.out.cell (World.block_lt_of_cell? w _ hx285_7)).trans hx285_7
     replace hx285_8 := (HB.out.cell (World.block_lt_of_cell? w _ hx285_8)).trans hx285_8
     have HR285_7 := Aside0.mk hi285_7
     have HC285_7 := Aside0.mk hl285_7
     clear hi285_7 hl285_7
     have HR285_8 := Aside0.mk hi285_8
     have HC285_8 := Aside0.mk hl285_8
     clear hi285_8 hl285_8
     replace p285 := eq_true p285
     replace q285 := eq_true q285
     go_wp2_with (first | ((with_reducible refine gate_dst (N := 7) rfl ?_); refine boxM 7 #[.int .i64 0, .int .i64 0, .int .i64 0, .int .i64 0, .int .i64 0, .int .i64 0, .int .i64 0, .slice none 0 0, .slice none 0 0] 73 ?_; intro gb286 hg w33 BK286 hb; replace HB := box_at w hb hg; obtain ⟨HB, GW286, GE286⟩ := HB; replace BK280 := box_on gb280 hb hg; obtain ⟨BK280, NB280_286, NB286_280⟩ := BK280; replace BK284 := box_on gb284 hb hg; obtain ⟨BK284, NB284_286, NB286_284⟩ := BK284; replace HO_4 := Aside0.mk (Kd.R_below (R_at HO_4.out) hb); clear hb hg; have hn34 := ne2 NB286_280; have hn35 := ne2 NB286_284; have hcz36 := cells9 BK286.out; have hn37 := ne2 NB284_280; have hcz38 := cells3 BK284.out) | ((with_reducible refine gate_callee (f := 100) rfl ?_); refine goesM (some 25) rfl rfl Try.func100 (by kernel_rfl) rfl #[.agg #[.int .i64 x285000_1, .int .i64 x285001_1, .int .i64 x285002_1], .agg #[.int .i64 ((rd_T73 l0_3 x18_1).f0), .int .i64 ((rd_T73 l0_3 x18_1).f1), .int .i64 ((rd_T73 l0_3 x18_1).f2), .int .i64 ((rd_T73 l0_3 x18_1).f3), .int .i64 ((rd_T73 l0_3 x18_1).f4), .int .i64 ((rd_T73 l0_3 x18_1).f5), .int .i64 ((rd_T73 l0_3 x18_1).f6), .slice A285_7 ((rd_T73 l0_3 x18_1).f7).length c285_7, .slice A285_8 ((rd_T73 l0_3 x18_1).f8).length c285_8]] rfl ?_; (with_reducible refine (impl_OutShape.calls k1 x285000_1 x285001_1 x285002_1 ((rd_T73 l0_3 x18_1).f0) ((rd_T73 l0_3 x18_1).f1) ((rd_T73 l0_3 x18_1).f2) ((rd_T73 l0_3 x18_1).f3) ((rd_T73 l0_3 x18_1).f4) ((rd_T73 l0_3 x18_1).f5) ((rd_T73 l0_3 x18_1).f6) _ _ ((rd_T73 l0_3 x18_1).f7) _ _ ((rd_T73 l0_3 x18_1).f8) t287 t288 t289 false _ ?side1 ?side2 ?side3 ?side4 A16.out).mono ?_); (case side1 => exact C_now HR285_7.out); (case side2 => exact HC285_7.out); (case side3 => exact C_now HR285_8.out); (case side4 => exact HC285_8.out); rintro e w39 ⟨rfl, hb⟩; refine ⟨_, rfl, ?_⟩; have n0_ := Aside0.mk (Kd.R_below (R_at (R_far9 HO_4.out BK286.out (by decide))) hb); replace HB := bel_on w hb; replace BK280 := Aside0.mk (blk_below (g := gb280) (o := .cells #[.int .i64 a0_0, .int .i64 a0_1, .int .i64 a0_2, .slice (some ad285) l0_3.length c0_3] 28 (0, 0)) (blk_fars BK280.out) hb); replace BK284 := Aside0.mk (blk_below (g := gb284) (o := .cells #[.int .i64 x285000_1, .int .i64 x285001_1, .int .i64 x285002_1] 25 (0, 0)) (blk_fars BK284.out) hb); replace BK286 := Aside0.mk (blk_below (g := gb286) (o := .cells #[.int .i64 ((rd_T73 l0_3 x18_1).f0), .int .i64 ((rd_T73 l0_3 x18_1).f1), .int .i64 ((rd_T73 l0_3 x18_1).f2), .int .i64 ((rd_T73 l0_3 x18_1).f3), .int .i64 ((rd_T73 l0_3 x18_1).f4), .int .i64 ((rd_T73 l0_3 x18_1).f5), .int .i64 ((rd_T73 l0_3 x18_1).f6), .slice A285_7 ((rd_T73 l0_3 x18_1).f7).length c285_7, .slice A285_8 ((rd_T73 l0_3 x18_1).f8).length c285_8] 73 (0, 0)) (by (with_reducible repeat (first | refine blk_drewN ?_ _ | refine blk_drew ?_ | refine blk_alloc ?_ _)); first | exact putl9 BK286.out | exact blk_fars (putl9 BK286.out)) hb); clear HO_4; have HO_4 := n0_; clear n0_; (try clear hb)) | ((with_reducible refine gate_dst (N := 8) rfl ?_); refine boxM 8 #[.int .i64 0, .int .i64 0, .int .i64 0] 25 ?_; intro gb291 hg w40 BK291 hb; replace HB := box_at w hb hg; obtain ⟨HB, GW291, GE291⟩ := HB; replace BK280 := box_on gb280 hb hg; obtain ⟨BK280, NB280_291, NB291_280⟩ := BK280; replace BK284 := box_on gb284 hb hg; obtain ⟨BK284, NB284_291, NB291_284⟩ := BK284; replace BK286 := box_on gb286 hb hg; obtain ⟨BK286, NB286_291, NB291_286⟩ := BK286; replace HO_4 := Aside0.mk (Kd.R_below (Kd.R_elderB (R_at HO_4.out) gb291 (Nat.le_of_eq hg.symm)) hb); clear hb hg; have hn41 := ne2 NB291_280; have hn42 := ne2 NB291_284; have hn43 := ne2 NB291_286; have hcz44 := cells3 BK291.out))
     go_ret2
     exact ⟨_, eqN, by first | exact Kd.R_nil _ _ _ _ _ | exact Kd.N_nil _ _ _ _ _ | exact Kd.V_nil _ _ _ _ _ | exact Kd.Q_nil _ _ _ _ _ | exact Kd.S_nil _ _ _ _ _, bel_now⟩
    subst c17
    rw [if_pos rfl] at H
    by_cases c18 : x4_1.length < 5864062014805
    rotate_left
    ·rw [if_neg c18] at H
     exact absurd H (by simp)
    rw [if_pos c18] at H
    have LMc18 := Aside0.mk c18
    clear c18
    obtain ⟨y292, hy292⟩ : ∃ y_ : List (S25), y_ = (x4_1 ++ [(⟨t287, t288, t289⟩ : S25)]) := ⟨_, rfl⟩
    replace H : (impl_Model_shapes.l0 k1 y292 l0_3 (l0_3.length : Int) (wrap64 (x18_1 + 1)) t287 t288 t289) = some (r1, r2) := by first | (rw [hy292]; with_reducible exact H) | (have H2_ := (Option.bind_some _ _).symm.trans H; rw [hy292]; with_reducible exact H2_) | (have H2_ := (Option.bind_some _ _).symm.trans H; with_reducible exact H2_) | with_reducible exact H | (rw [hy292]; exact H) | exact H
    have Ny292 := Aside0.mk hy292
    clear hy292
    have H' := Aside0.mk H
    clear H
    have p285 : 0 ≤ (x18_1 : Int) := of_decide_eq_true (by first | (with_reducible assumption) | assumption)
    have q285 : x18_1 < (l0_3.length : Int) := of_decide_eq_true (by first | (with_reducible assumption) | assumption)
    obtain ⟨ad285, A285_7, c285_7, A285_8, c285_8, e285, hx285_0, hx285_1, hx285_2, hx285_3, hx285_4, hx285_5, hx285_6, hx285_7, hx285_8, hl285_7, hi285_7, hl285_8, hi285_8⟩ := at_T73 HR0_3.out x18_1 p285 q285
    cases e285
    replace hx285_0 := (HB.out.cell (World.block_lt_of_cell? w _ hx285_0)).trans hx285_0
    replace hx285_1 := (HB.out.cell (World.block_lt_of_cell? w _ hx285_1)).trans hx285_1
    replace hx285_2 := (HB.out.cell (World.block_lt_of_cell? w _ hx285_2)).trans hx285_2
    replace hx285_3 := (HB.out.cell (World.block_lt_of_cell? w _ hx285_3)).trans hx285_3
    replace hx285_4 := (HB.out.cell (World.block_lt_of_cell? w _ hx285_4)).trans hx285_4
    replace hx285_5 := (HB.out.cell (World.block_lt_of_cell? w _ hx285_5)).trans hx285_5
    replace hx285_6 := (HB.out.cell (World.block_lt_of_cell? w _ hx285_6)).trans hx285_6
    replace hx285_7 := (HB.out.cell (World.block_lt_of_cell? w _ hx285_7)).trans hx285_7
    replace hx285_8 := (HB.out.cell (World.block_lt_of_cell? w _ hx285_8)).trans hx285_8
    have HR285_7 := Aside0.mk hi285_7
    have HC285_7 := Aside0.mk hl285_7
    clear hi285_7 hl285_7
    have HR285_8 := Aside0.mk hi285_8
    have HC285_8 := Aside0.mk hl285_8
    clear hi285_8 hl285_8
    replace p285 := eq_true p285
    replace q285 := eq_true q285
    go_wp2_with (first | ((with_reducible refine gate_dst (N := 7) rfl ?_); refine boxM 7 #[.int .i64 0, .int .i64 0, .int .i64 0, .int .i64 0, .int .i64 0, .int .i64 0, .int .i64 0, .slice none 0 0, .slice none 0 0] 73 ?_; intro gb286 hg w19 BK286 hb; replace HB := box_at w hb hg; obtain ⟨HB, GW286, GE286⟩ := HB; replace BK280 := box_on gb280 hb hg; obtain ⟨BK280, NB280_286, NB286_280⟩ := BK280; replace BK284 := box_on gb284 hb hg; obtain ⟨BK284, NB284_286, NB286_284⟩ := BK284; replace HO_4 := Aside0.mk (Kd.R_below (R_at HO_4.out) hb); clear hb hg; have hn20 := ne2 NB286_280; have hn21 := ne2 NB286_284; have hcz22 := cells9 BK286.out; have hn23 := ne2 NB284_280; have hcz24 := cells3 BK284.out) | ((with_reducible refine gate_callee (f := 100) rfl ?_); refine goesM (some 25) rfl rfl Try.func100 (by kernel_rfl) rfl #[.agg #[.int .i64 x285000_1, .int .i64 x285001_1, .int .i64 x285002_1], .agg #[.int .i64 ((rd_T73 l0_3 x18_1).f0), .int .i64 ((rd_T73 l0_3 x18_1).f1), .int .i64 ((rd_T73 l0_3 x18_1).f2), .int .i64 ((rd_T73 l0_3 x18_1).f3), .int .i64 ((rd_T73 l0_3 x18_1).f4), .int .i64 ((rd_T73 l0_3 x18_1).f5), .int .i64 ((rd_T73 l0_3 x18_1).f6), .slice A285_7 ((rd_T73 l0_3 x18_1).f7).length c285_7, .slice A285_8 ((rd_T73 l0_3 x18_1).f8).length c285_8]] rfl ?_; (with_reducible refine (impl_OutShape.calls k1 x285000_1 x285001_1 x285002_1 ((rd_T73 l0_3 x18_1).f0) ((rd_T73 l0_3 x18_1).f1) ((rd_T73 l0_3 x18_1).f2) ((rd_T73 l0_3 x18_1).f3) ((rd_T73 l0_3 x18_1).f4) ((rd_T73 l0_3 x18_1).f5) ((rd_T73 l0_3 x18_1).f6) _ _ ((rd_T73 l0_3 x18_1).f7) _ _ ((rd_T73 l0_3 x18_1).f8) t287 t288 t289 true _ ?side1 ?side2 ?side3 ?side4 A16.out).mono ?_); (case side1 => exact C_now HR285_7.out); (case side2 => exact HC285_7.out); (case side3 => exact C_now HR285_8.out); (case side4 => exact HC285_8.out); rintro e w25 ⟨rfl, hb⟩; refine ⟨_, rfl, ?_⟩; have n0_ := Aside0.mk (Kd.R_below (R_at (R_far9 HO_4.out BK286.out (by decide))) hb); replace HB := bel_on w hb; replace BK280 := Aside0.mk (blk_below (g := gb280) (o := .cells #[.int .i64 a0_0, .int .i64 a0_1, .int .i64 a0_2, .slice (some ad285) l0_3.length c0_3] 28 (0, 0)) (blk_fars BK280.out) hb); replace BK284 := Aside0.mk (blk_below (g := gb284) (o := .cells #[.int .i64 x285000_1, .int .i64 x285001_1, .int .i64 x285002_1] 25 (0, 0)) (blk_fars BK284.out) hb); replace BK286 := Aside0.mk (blk_below (g := gb286) (o := .cells #[.int .i64 ((rd_T73 l0_3 x18_1).f0), .int .i64 ((rd_T73 l0_3 x18_1).f1), .int .i64 ((rd_T73 l0_3 x18_1).f2), .int .i64 ((rd_T73 l0_3 x18_1).f3), .int .i64 ((rd_T73 l0_3 x18_1).f4), .int .i64 ((rd_T73 l0_3 x18_1).f5), .int .i64 ((rd_T73 l0_3 x18_1).f6), .slice A285_7 ((rd_T73 l0_3 x18_1).f7).length c285_7, .slice A285_8 ((rd_T73 l0_3 x18_1).f8).length c285_8] 73 (0, 0)) (by (with_reducible repeat (first | refine blk_drewN ?_ _ | refine blk_drew ?_ | refine blk_alloc ?_ _)); first | exact putl9 BK286.out | exact blk_fars (putl9 BK286.out)) hb); clear HO_4; have HO_4 := n0_; clear n0_; (try clear hb)) | ((with_reducible refine gate_dst (N := 8) rfl ?_); refine boxM 8 #[.int .i64 0, .int .i64 0, .int .i64 0] 25 ?_; intro gb291 hg w26 BK291 hb; replace HB := box_at w hb hg; obtain ⟨HB, GW291, GE291⟩ := HB; replace BK280 := box_on gb280 hb hg; obtain ⟨BK280, NB280_291, NB291_280⟩ := BK280; replace BK284 := box_on gb284 hb hg; obtain ⟨BK284, NB284_291, NB291_284⟩ := BK284; replace BK286 := box_on gb286 hb hg; obtain ⟨BK286, NB286_291, NB291_286⟩ := BK286; replace HO_4 := Aside0.mk (Kd.R_below (Kd.R_elderB (R_at HO_4.out) gb291 (Nat.le_of_eq hg.symm)) hb); clear hb hg; have hn27 := ne2 NB291_280; have hn28 := ne2 NB291_284; have hn29 := ne2 NB291_286; have hcz30 := cells3 BK291.out; have hcz31 := cells3 BK284.out) | ((with_reducible refine gate_builtin (b := .append) (xs := #[.tmp 31, .tmp 33]) rfl ?_); at_builtin; refine Kd.R_append k25 (w0 := w) w.heap.size rfl (.tmp 31) (.tmp 33) 44 25 (.agg #[(.int .i64 0), (.int .i64 0), (.int .i64 0)]) 24 rfl Try.underlying44 info25 rfl (by decide) (by omega) u4 x4_1 (⟨t287, t288, t289⟩ : S25) [.int .i64 t287, .int .i64 t288, .int .i64 t289] (fun k_ => k_ ≠ gb284 ∧ k_ ≠ gb291) (fun _ => False) rfl (by first | (go_simp; done) | (go_simp; rfl)) ?aP (fun _ hk => hk.elim) ?aF ?aO ?aB ?aS ?aL ?_; (case aP => exact k25_mkM _ _ _ (⟨t287, t288, t289⟩ : S25)); (case aB => exact bel_now); (case aF => exact (fun k_ hk => ⟨Kd.freshB (g := gb284) (o := .cells #[.int .i64 t287, .int .i64 t288, .int .i64 t289] 25 (0, 0)) (by (with_reducible repeat (first | refine blk_drewN ?_ _ | refine blk_drew ?_ | refine blk_alloc ?_ _)); refine blk_put (cs := #[.int .i64 t287, .int .i64 t288, .int .i64 x285002_1]) ?_ 2 _ rfl; (with_reducible repeat (first | refine blk_drewN ?_ _ | refine blk_drew ?_ | refine blk_alloc ?_ _)); refine blk_put (cs := #[.int .i64 t287, .int .i64 x285001_1, .int .i64 x285002_1]) ?_ 1 _ rfl; (with_reducible repeat (first | refine blk_drewN ?_ _ | refine blk_drew ?_ | refine blk_alloc ?_ _)); refine blk_put (cs := #[.int .i64 x285000_1, .int .i64 x285001_1, .int .i64 x285002_1]) ?_ 0 _ rfl; (with_reducible repeat (first | refine blk_drewN ?_ _ | refine blk_drew ?_ | refine blk_alloc ?_ _)); refine blk_far ?_ NB284_291.out _; (with_reducible repeat (first | refine blk_drewN ?_ _ | refine blk_drew ?_ | refine blk_alloc ?_ _)); refine blk_far ?_ NB284_291.out _; (with_reducible repeat (first | refine blk_drewN ?_ _ | refine blk_drew ?_ | refine blk_alloc ?_ _)); refine blk_far ?_ NB284_291.out _; (with_reducible repeat (first | refine blk_drewN ?_ _ | refine blk_drew ?_ | refine blk_alloc ?_ _)); exact BK284.out) k_ hk, Kd.freshB (g := gb291) (o := .cells #[.int .i64 t287, .int .i64 t288, .int .i64 t289] 25 (0, 0)) (by (with_reducible repeat (first | refine blk_drewN ?_ _ | refine blk_drew ?_ | refine blk_alloc ?_ _)); refine blk_far ?_ NB291_284.out _; (with_reducible repeat (first | refine blk_drewN ?_ _ | refine blk_drew ?_ | refine blk_alloc ?_ _)); refine blk_far ?_ NB291_284.out _; (with_reducible repeat (first | refine blk_drewN ?_ _ | refine blk_drew ?_ | refine blk_alloc ?_ _)); refine blk_far ?_ NB291_284.out _; (with_reducible repeat (first | refine blk_drewN ?_ _ | refine blk_drew ?_ | refine blk_alloc ?_ _)); refine blk_put (cs := #[.int .i64 t287, .int .i64 t288, .int .i64 0]) ?_ 2 _ rfl; (with_reducible repeat (first | refine blk_drewN ?_ _ | refine blk_drew ?_ | refine blk_alloc ?_ _)); refine blk_put (cs := #[.int .i64 t287, .int .i64 0, .int .i64 0]) ?_ 1 _ rfl; (with_reducible repeat (first | refine blk_drewN ?_ _ | refine blk_drew ?_ | refine blk_alloc ?_ _)); refine blk_put (cs := #[.int .i64 0, .int .i64 0, .int .i64 0]) ?_ 0 _ rfl; (with_reducible repeat (first | refine blk_drewN ?_ _ | refine blk_drew ?_ | refine blk_alloc ?_ _)); exact BK291.out) k_ hk⟩)); (case aO => exact (R_at (Kd.R_mono (Kd.R_far (p := ⟨gb284, 2, none⟩) (Kd.R_far (p := ⟨gb284, 1, none⟩) (Kd.R_far (p := ⟨gb284, 0, none⟩) (Kd.R_far (p := ⟨gb291, 2, none⟩) (Kd.R_far (p := ⟨gb291, 1, none⟩) (Kd.R_far (p := ⟨gb291, 0, none⟩) (Kd.R_mono (Kd.R_mono HO_4.out (fun k_ hk => (⟨hk, hk.2⟩ : _ ∧ k_ ≠ gb291))) (fun k_ hk => (⟨hk, hk.1.1⟩ : _ ∧ k_ ≠ gb284))) (fun _ hk => hk.1.2) (.int .i64 t287)) (fun _ hk => hk.1.2) (.int .i64 t288)) (fun _ hk => hk.1.2) (.int .i64 t289)) (fun _ hk => hk.2) (.int .i64 t287)) (fun _ hk => hk.2) (.int .i64 t288)) (fun _ hk => hk.2) (.int .i64 t289)) (fun _ hk => ⟨hk.1.1.1, hk.1.1.2⟩)))); (case aS => exact (below_size bel_now)); (case aL => have := LMc18.out; omega); intro v293 w32 ho hb hg hat; rw [← Ny292.out] at ho; have n0_ := Aside0.mk (blk_grown (g := gb280) (o := .cells #[.int .i64 a0_0, .int .i64 a0_1, .int .i64 a0_2, .slice (some ad285) l0_3.length c0_3] 28 (0, 0)) (blk_fars BK280.out) hg (Kd.R_ne HO_4.out BK280.out (by decide))); have n1_ := Aside0.mk (blk_grown (g := gb284) (o := .cells #[.int .i64 t287, .int .i64 t288, .int .i64 t289] 25 (0, 0)) (by (with_reducible repeat (first | refine blk_drewN ?_ _ | refine blk_drew ?_ | refine blk_alloc ?_ _)); refine blk_put (cs := #[.int .i64 t287, .int .i64 t288, .int .i64 x285002_1]) ?_ 2 _ rfl; (with_reducible repeat (first | refine blk_drewN ?_ _ | refine blk_drew ?_ | refine blk_alloc ?_ _)); refine blk_put (cs := #[.int .i64 t287, .int .i64 x285001_1, .int .i64 x285002_1]) ?_ 1 _ rfl; (with_reducible repeat (first | refine blk_drewN ?_ _ | refine blk_drew ?_ | refine blk_alloc ?_ _)); refine blk_put (cs := #[.int .i64 x285000_1, .int .i64 x285001_1, .int .i64 x285002_1]) ?_ 0 _ rfl; (with_reducible repeat (first | refine blk_drewN ?_ _ | refine blk_drew ?_ | refine blk_alloc ?_ _)); refine blk_far ?_ NB284_291.out _; (with_reducible repeat (first | refine blk_drewN ?_ _ | refine blk_drew ?_ | refine blk_alloc ?_ _)); refine blk_far ?_ NB284_291.out _; (with_reducible repeat (first | refine blk_drewN ?_ _ | refine blk_drew ?_ | refine blk_alloc ?_ _)); refine blk_far ?_ NB284_291.out _; (with_reducible repeat (first | refine blk_drewN ?_ _ | refine blk_drew ?_ | refine blk_alloc ?_ _)); exact BK284.out) hg (Kd.R_away HO_4.out (fun _ hk => hk.1))); have n2_ := Aside0.mk (blk_grown (g := gb286) (o := .cells #[.int .i64 ((rd_T73 l0_3 x18_1).f0), .int .i64 ((rd_T73 l0_3 x18_1).f1), .int .i64 ((rd_T73 l0_3 x18_1).f2), .int .i64 ((rd_T73 l0_3 x18_1).f3), .int .i64 ((rd_T73 l0_3 x18_1).f4), .int .i64 ((rd_T73 l0_3 x18_1).f5), .int .i64 ((rd_T73 l0_3 x18_1).f6), .slice A285_7 ((rd_T73 l0_3 x18_1).f7).length c285_7, .slice A285_8 ((rd_T73 l0_3 x18_1).f8).length c285_8] 73 (0, 0)) (blk_fars BK286.out) hg (Kd.R_ne HO_4.out BK286.out (by decide))); have n3_ := Aside0.mk (blk_grown (g := gb291) (o := .cells #[.int .i64 t287, .int .i64 t288, .int .i64 t289] 25 (0, 0)) (by (with_reducible repeat (first | refine blk_drewN ?_ _ | refine blk_drew ?_ | refine blk_alloc ?_ _)); refine blk_far ?_ NB291_284.out _; (with_reducible repeat (first | refine blk_drewN ?_ _ | refine blk_drew ?_ | refine blk_alloc ?_ _)); refine blk_far ?_ NB291_284.out _; (with_reducible repeat (first | refine blk_drewN ?_ _ | refine blk_drew ?_ | refine blk_alloc ?_ _)); refine blk_far ?_ NB291_284.out _; (with_reducible repeat (first | refine blk_drewN ?_ _ | refine blk_drew ?_ | refine blk_alloc ?_ _)); refine blk_put (cs := #[.int .i64 t287, .int .i64 t288, .int .i64 0]) ?_ 2 _ rfl; (with_reducible repeat (first | refine blk_drewN ?_ _ | refine blk_drew ?_ | refine blk_alloc ?_ _)); refine blk_put (cs := #[.int .i64 t287, .int .i64 0, .int .i64 0]) ?_ 1 _ rfl; (with_reducible repeat (first | refine blk_drewN ?_ _ | refine blk_drew ?_ | refine blk_alloc ?_ _)); refine blk_put (cs := #[.int .i64 0, .int .i64 0, .int .i64 0]) ?_ 0 _ rfl; (with_reducible repeat (first | refine blk_drewN ?_ _ | refine blk_drew ?_ | refine blk_alloc ?_ _)); exact BK291.out) hg (Kd.R_away HO_4.out (fun _ hk => hk.2))); have n4_ := Aside0.mk (hb); have n5_ := Aside0.mk (ho); clear BK280; clear BK284; clear BK286; clear BK291; clear HB; clear HO_4; have BK280 := n0_; have BK284 := n1_; have BK286 := n2_; have BK291 := n3_; have HB := n4_; have HO294 := n5_; clear n0_ n1_ n2_ n3_ n4_ n5_; clear ho hb hg hat))
    go_roundg k1
    case measure => have := HK1.out; omega
    case rel => exact ⟨(y292), (wrap64 (x18_1 + 1)), (t287), (t288), (t289), (by first | rfl | (simp; done) | (simp [*]; done)), H', ⟨by have := HK1.out; omega⟩, ⟨by (with_reducible repeat (first | apply Kd.R_alloc | apply Kd.R_drewN | apply Kd.R_drew)); exact Kd.R_mono HO294.out (fun _ hk => hk.1)⟩, ⟨bks BK280⟩, ⟨bks BK284⟩, ⟨bel_now⟩⟩

/-! ### impl_ModelOk: function 51 -/
def impl_ModelOk.f (k : Nat) (a0_0 : Int) (a0_1 : Int) (a0_2 : Int) (l0_3 : List (S73)) : Option (Bool) := (impl_in.f (l0_3.length : Int) 1 6).bind fun t296 => (if t296 = true then ((impl_Model_shapes.f k a0_0 a0_1 a0_2 l0_3).bind fun bt297 => (some bt297.2)) else (some false))
set_option maxHeartbeats 8000000 in
set_option maxRecDepth 100000 in
theorem impl_ModelOk.calls (k : Nat) (a0_0 : Int) (a0_1 : Int) (a0_2 : Int) (A0_3 : Option Addr) (c0_3 : Nat) (l0_3 : List (S73)) (r : Bool) (w : World) (hr0_3 : Kd.C k73 w A0_3 l0_3.length l0_3) (hc0_3 : l0_3.length ≤ c0_3) (h : impl_ModelOk.f k a0_0 a0_1 a0_2 l0_3 = some r) :
   Calls Try.prog 51 #[.agg #[.int .i64 a0_0, .int .i64 a0_1, .int .i64 a0_2, .slice A0_3 l0_3.length c0_3]] w fun e w' => e = .returned (.bool r) ∧ Below w.heap.size w w' := by
  have hu28 := Try.underlying28
  have HR0_3 := Aside0.mk hr0_3
  have HC0_3 := Aside0.mk hc0_3
  clear hr0_3 hc0_3
  have HB := Aside0.mk (Below.refl w.heap.size w)
  have H : ((impl_in.f (l0_3.length : Int) 1 6).bind fun t296 => (if t296 = true then ((impl_Model_shapes.f k a0_0 a0_1 a0_2 l0_3).bind fun bt297 => (some bt297.2)) else (some false))) = some r := h
  clear h
  replace H := Option.bind_eq_some_iff.mp H
  obtain ⟨t296, A20, H⟩ := H
  (try dsimp only at H)
  have A2 := Aside0.mk A20
  clear A20
  by_cases c3 : t296 = true
  rotate_left
  ·replace c3 := Bool.eq_false_iff.mpr c3
   subst c3
   rw [if_neg (show ¬ (false = true) by decide)] at H
   obtain rfl := Option.some.inj H
   go_enter Try.func51, Try.ntmps51
   go_wp2_with (first | ((with_reducible refine gate_dst (N := 1) rfl ?_); refine boxM 1 #[.int .i64 a0_0, .int .i64 a0_1, .int .i64 a0_2, .slice A0_3 l0_3.length c0_3] 28 ?_; intro gb295 hg w8 BK295 hb; replace HB := box_at w hb hg; obtain ⟨HB, GW295, GE295⟩ := HB; clear hb hg; have hcz9 := cells4 BK295.out) | ((with_reducible refine gate_callee (f := 82) rfl ?_); refine goesM (some 8) rfl rfl Try.func82 (by kernel_rfl) rfl #[.int .i64 (l0_3.length : Int), .int .i64 1, .int .i64 6] rfl ?_; (with_reducible refine (impl_in.calls (l0_3.length : Int) 1 6 false _ A2.out).mono ?_); rintro e w' ⟨rfl, ⟨nd, rfl⟩⟩; refine ⟨_, rfl, ?_⟩))
   go_ret
   exact ⟨eqN, bel_now⟩
  subst c3
  rw [if_pos rfl] at H
  replace H := Option.bind_eq_some_iff.mp H
  obtain ⟨⟨t297, t300⟩, A40, H⟩ := H
  (try dsimp only at H)
  have A4 := Aside0.mk A40
  clear A40
  obtain rfl := Option.some.inj H
  go_enter Try.func51, Try.ntmps51
  go_wp2_with (first | ((with_reducible refine gate_dst (N := 1) rfl ?_); refine boxM 1 #[.int .i64 a0_0, .int .i64 a0_1, .int .i64 a0_2, .slice A0_3 l0_3.length c0_3] 28 ?_; intro gb295 hg w5 BK295 hb; replace HB := box_at w hb hg; obtain ⟨HB, GW295, GE295⟩ := HB; clear hb hg; have hcz6 := cells4 BK295.out) | ((with_reducible refine gate_callee (f := 82) rfl ?_); refine goesM (some 8) rfl rfl Try.func82 (by kernel_rfl) rfl #[.int .i64 (l0_3.length : Int), .int .i64 1, .int .i64 6] rfl ?_; (with_reducible refine (impl_in.calls (l0_3.length : Int) 1 6 true _ A2.out).mono ?_); rintro e w' ⟨rfl, ⟨nd, rfl⟩⟩; refine ⟨_, rfl, ?_⟩) | ((with_reducible refine gate_callee (f := 70) rfl ?_); refine goesM (some 12) rfl rfl Try.func70 (by kernel_rfl) rfl #[.agg #[.int .i64 a0_0, .int .i64 a0_1, .int .i64 a0_2, .slice A0_3 l0_3.length c0_3]] rfl ?_; (with_reducible refine (impl_Model_shapes.calls k a0_0 a0_1 a0_2 _ _ l0_3 t297 t300 _ ?side1 ?side2 A4.out).mono ?_); (case side1 => exact C_now HR0_3.out); (case side2 => exact HC0_3.out); rintro e w7 ⟨v298, rfl, ho0, hb⟩; refine ⟨_, rfl, ?_⟩; have n0_ := Aside0.mk (Kd.R_lower ho0 (below_size bel_now)); replace HB := bel_on w hb; replace BK295 := blk_on gb295 hb; have HO299 := n0_; clear n0_; (try clear hb); (try clear ho0)))
  go_ret
  exact ⟨eqN, bel_now⟩

/-! ### impl_ShapesOf: function 25 -/
def impl_ShapesOf.f (k : Nat) (a0_0 : Int) (a0_1 : Int) (a0_2 : Int) (l0_3 : List (S73)) : Option ((List (S25))) := (impl_ModelOk.f k a0_0 a0_1 a0_2 l0_3).bind fun t302 => (if t302 = true then ((impl_Model_shapes.f k a0_0 a0_1 a0_2 l0_3).bind fun bt303 => (some bt303.1)) else (some ([] : List (S25))))
set_option maxHeartbeats 8000000 in
set_option maxRecDepth 100000 in
theorem impl_ShapesOf.calls (k : Nat) (a0_0 : Int) (a0_1 : Int) (a0_2 : Int) (A0_3 : Option Addr) (c0_3 : Nat) (l0_3 : List (S73)) (r : List (S25)) (w : World) (hr0_3 : Kd.C k73 w A0_3 l0_3.length l0_3) (hc0_3 : l0_3.length ≤ c0_3) (h : impl_ShapesOf.f k a0_0 a0_1 a0_2 l0_3 = some r) :
   Calls Try.prog 25 #[.agg #[.int .i64 a0_0, .int .i64 a0_1, .int .i64 a0_2, .slice A0_3 l0_3.length c0_3]] w fun e w' => ∃ v0_ : Value, e = .returned (v0_) ∧ Kd.R k25 25 w' w.heap.size (fun _ => True) v0_ r ∧ Below w.heap.size w w' := by
  have hu28 := Try.underlying28
  have HR0_3 := Aside0.mk hr0_3
  have HC0_3 := Aside0.mk hc0_3
  clear hr0_3 hc0_3
  have HB := Aside0.mk (Below.refl w.heap.size w)
  have H : ((impl_ModelOk.f k a0_0 a0_1 a0_2 l0_3).bind fun t302 => (if t302 = true then ((impl_Model_shapes.f k a0_0 a0_1 a0_2 l0_3).bind fun bt303 => (some bt303.1)) else (some ([] : List (S25))))) = some r := h
  clear h
  replace H := Option.bind_eq_some_iff.mp H
  obtain ⟨t302, A20, H⟩ := H
  (try dsimp only at H)
  have A2 := Aside0.mk A20
  clear A20
  by_cases c3 : t302 = true
  rotate_left
  ·replace c3 := Bool.eq_false_iff.mpr c3
   subst c3
   rw [if_neg (show ¬ (false = true) by decide)] at H
   obtain rfl := Option.some.inj H
   go_enter Try.func25, Try.ntmps25
   go_wp2_with (first | ((with_reducible refine gate_dst (N := 1) rfl ?_); refine boxM 1 #[.int .i64 a0_0, .int .i64 a0_1, .int .i64 a0_2, .slice A0_3 l0_3.length c0_3] 28 ?_; intro gb301 hg w10 BK301 hb; replace HB := box_at w hb hg; obtain ⟨HB, GW301, GE301⟩ := HB; clear hb hg; have hcz11 := cells4 BK301.out) | ((with_reducible refine gate_callee (f := 51) rfl ?_); refine goesM (some 6) rfl rfl Try.func51 (by kernel_rfl) rfl #[.agg #[.int .i64 a0_0, .int .i64 a0_1, .int .i64 a0_2, .slice A0_3 l0_3.length c0_3]] rfl ?_; (with_reducible refine (impl_ModelOk.calls k a0_0 a0_1 a0_2 _ _ l0_3 false _ ?side1 ?side2 A2.out).mono ?_); (case side1 => exact C_now HR0_3.out); (case side2 => exact HC0_3.out); rintro e w12 ⟨rfl, hb⟩; refine ⟨_, rfl, ?_⟩; replace HB := bel_on w hb; replace BK301 := blk_on gb301 hb; (try clear hb)))
   go_ret
   exact ⟨_, eqN, by first | exact Kd.R_nil _ _ _ _ _ | exact Kd.N_nil _ _ _ _ _ | exact Kd.V_nil _ _ _ _ _ | exact Kd.Q_nil _ _ _ _ _ | exact Kd.S_nil _ _ _ _ _, bel_now⟩
  subst c3
  rw [if_pos rfl] at H
  replace H := Option.bind_eq_some_iff.mp H
  obtain ⟨⟨t303, t306⟩, A40, H⟩ := H
  (try dsimp only at H)
  have A4 := Aside0.mk A40
  clear A40
  obtain rfl := Option.some.inj H
  go_enter Try.func25, Try.ntmps25
  go_wp2_with (first | ((with_reducible refine gate_dst (N := 1) rfl ?_); refine boxM 1 #[.int .i64 a0_0, .int .i64 a0_1, .int .i64 a0_2, .slice A0_3 l0_3.length c0_3] 28 ?_; intro gb301 hg w5 BK301 hb; replace HB := box_at w hb hg; obtain ⟨HB, GW301, GE301⟩ := HB; clear hb hg; have hcz6 := cells4 BK301.out) | ((with_reducible refine gate_callee (f := 51) rfl ?_); refine goesM (some 6) rfl rfl Try.func51 (by kernel_rfl) rfl #[.agg #[.int .i64 a0_0, .int .i64 a0_1, .int .i64 a0_2, .slice A0_3 l0_3.length c0_3]] rfl ?_; (with_reducible refine (impl_ModelOk.calls k a0_0 a0_1 a0_2 _ _ l0_3 true _ ?side1 ?side2 A2.out).mono ?_); (case side1 => exact C_now HR0_3.out); (case side2 => exact HC0_3.out); rintro e w7 ⟨rfl, hb⟩; refine ⟨_, rfl, ?_⟩; replace HB := bel_on w hb; replace BK301 := blk_on gb301 hb; (try clear hb); have hcz8 := cells4 BK301.out) | ((with_reducible refine gate_callee (f := 70) rfl ?_); refine goesM (some 10) rfl rfl Try.func70 (by kernel_rfl) rfl #[.agg #[.int .i64 a0_0, .int .i64 a0_1, .int .i64 a0_2, .slice A0_3 l0_3.length c0_3]] rfl ?_; (with_reducible refine (impl_Model_shapes.calls k a0_0 a0_1 a0_2 _ _ l0_3 t303 t306 _ ?side1 ?side2 A4.out).mono ?_); (case side1 => exact C_now HR0_3.out); (case side2 => exact HC0_3.out); rintro e w9 ⟨v304, rfl, ho0, hb⟩; refine ⟨_, rfl, ?_⟩; have n0_ := Aside0.mk (Kd.R_lower ho0 (below_size bel_now)); replace HB := bel_on w hb; replace BK301 := blk_on gb301 hb; have HO305 := n0_; clear n0_; (try clear hb); (try clear ho0)))
  go_ret
  exact ⟨_, eqN, by (with_reducible repeat (first | apply Kd.R_alloc | apply Kd.R_drewN | apply Kd.R_drew)); exact HO305.out, bel_now⟩

end Go.Proofs.Ytljdcemdhmaahaa.PFnExactCostsOf
