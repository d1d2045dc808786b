-- Printed by the session's own program (wip/myprint.py) for this claim out of the translation. Not trusted: Lean checks it.
import Derived.Test.YtclpojeofclbjaaPFnExactLeftOfx0
import Derived.Test.YtclpojeofclbjaaPFnExactLeftOfx12
import Derived.Test.YtclpojeofclbjaaPFnExactLeftOfx14
namespace Go.Proofs.Ytclpojeofclbjaa.PFnExactLeftOf
open Go.RowKit Go.Proofs.YtclpojeofclbjaaW.PrintWords Go.Proofs.YtclpojeofclbjaaW.PrintLast Go.Proofs.YtclpojeofclbjaaW.PrintMore
attribute [local go_sem] max2_int min2_int max_two min_two max_three min_three max_four min_four   -- for this text's walks alone
set_option linter.unusedVariables false
set_option linter.unusedSimpArgs false

/-! ### impl_Model_shapes: function 124 -/
def impl_Model_shapes.l0 : Nat → List (S31) → List (S37) → Int → Int → Int → Int → Int → Option ((List (S31)) × Bool)
  | 0, _, _, _, _, _, _, _ => none
  | k + 1, x4, x16, x17, x18, x343000, x343001, x343002 => if x18 < x17 then (if 0 ≤ x18 then (if x18 < (x16.length : Int) then ((impl_OutShape.f k x343000 x343001 x343002 ((rd_T37 x16 x18).f0) ((rd_T37 x16 x18).f1) ((rd_T37 x16 x18).f2) ((rd_T37 x16 x18).f3) ((rd_T37 x16 x18).f4) ((rd_T37 x16 x18).f5) ((rd_T37 x16 x18).f6) ((rd_T37 x16 x18).f7) ((rd_T37 x16 x18).f8)).bind fun bt345 => (if bt345.2.2.2 = true then (if x4.length < 5864062014805 then (impl_Model_shapes.l0 k (x4 ++ [(⟨bt345.1, bt345.2.1, bt345.2.2.1⟩ : S31)]) x16 x17 (wrap64 (x18 + 1)) bt345.1 bt345.2.1 bt345.2.2.1) else (none)) else (some (([] : List (S31)), false)))) else (none)) else (none)) else (some (x4, true))
def impl_Model_shapes.f (k : Nat) (a0_0 : Int) (a0_1 : Int) (a0_2 : Int) (l0_3 : List (S37)) : Option ((List (S31)) × Bool) := impl_Model_shapes.l0 k (([(⟨a0_0, a0_1, a0_2⟩ : S31)] : List (S31))) l0_3 (l0_3.length : Int) 0 a0_0 a0_1 a0_2
def impl_Model_shapes.T1 : Bool × List (List Nat × List Nat) := (true, [([], []), ([0], [0]), ([1], [1]), ([], []), ([3], [3]), ([], []), ([2, 0, 1, 2, 5], [2]), ([5, 4, 6, 0, 1, 2, 3, 4, 5, 6], [4, 5])])
def impl_Model_shapes.B1 : List Nat := [0, 1, 3, 0, 8, 0, 39, 127]
theorem impl_Model_shapes.tab1 : rtab .any (opsOf Try.f124 1) = impl_Model_shapes.T1 := by kernel_rfl
theorem impl_Model_shapes.bits1 : waitsOk impl_Model_shapes.T1.2 impl_Model_shapes.B1 = true := by kernel_rfl
set_option maxHeartbeats 8000000 in
set_option maxRecDepth 100000 in
theorem impl_Model_shapes.calls (k : Nat) (a0_0 : Int) (a0_1 : Int) (a0_2 : Int) (A0_3 : Option Addr) (c0_3 : Nat) (l0_3 : List (S37)) (r1 : List (S31)) (r2 : Bool) (w : World) (hr0_3 : Kd.C k37 w A0_3 l0_3.length l0_3) (hc0_3 : l0_3.length ≤ c0_3) (h : impl_Model_shapes.f k a0_0 a0_1 a0_2 l0_3 = some (r1, r2)) :
   Calls Try.prog 124 #[.agg #[.int .i64 a0_0, .int .i64 a0_1, .int .i64 a0_2, .slice A0_3 l0_3.length c0_3]] w fun e w' => ∃ v0_ : Value, e = .returned (.tuple #[v0_, .bool r2]) ∧ Kd.R k31 31 w' w.heap.size (fun _ => True) v0_ r1 ∧ Below w.heap.size w w' := by
  have hu53 := Try.underlying53
  have hu31 := Try.underlying31
  have hu37 := Try.underlying37
  have HR0_3 := Aside0.mk hr0_3
  have HC0_3 := Aside0.mk hc0_3
  clear hr0_3 hc0_3
  have HB := Aside0.mk (Below.refl w.heap.size w)
  have H : (impl_Model_shapes.l0 k (([(⟨a0_0, a0_1, a0_2⟩ : S31)] : List (S31))) l0_3 (l0_3.length : Int) 0 a0_0 a0_1 a0_2) = some (r1, r2) := h
  clear h
  obtain ⟨y339, hy339⟩ : ∃ y_ : List (S31), y_ = (([(⟨a0_0, a0_1, a0_2⟩ : S31)] : List (S31))) := ⟨_, rfl⟩
  replace H : (impl_Model_shapes.l0 k y339 l0_3 (l0_3.length : Int) 0 a0_0 a0_1 a0_2) = some (r1, r2) := by first | (rw [hy339]; with_reducible exact H) | (have H2_ := (Option.bind_some _ _).symm.trans H; rw [hy339]; with_reducible exact H2_) | (have H2_ := (Option.bind_some _ _).symm.trans H; with_reducible exact H2_) | with_reducible exact H | (rw [hy339]; exact H) | exact H
  have Ny339 := Aside0.mk hy339
  clear hy339
  have H' := Aside0.mk H
  clear H
  go_enter Try.func124, Try.ntmps124
  try go_wp2_with (first | ((with_reducible refine gate_dst (N := 1) rfl ?_); refine boxM 1 #[.int .i64 a0_0, .int .i64 a0_1, .int .i64 a0_2, .slice A0_3 l0_3.length c0_3] 53 ?_; intro gb338 hg w2 BK338 hb; replace HB := box_at w hb hg; obtain ⟨HB, GW338, GE338⟩ := HB; clear hb hg))
  replace BK338 := Aside0.mk (blk_drew BK338.out)
  replace HB := Aside0.mk (below_drew1 HB.out)
  refine start_ (n := 8) (S := fun w' => w'.cell? ⟨gb338, 0, none⟩ = some (.int .i64 a0_0) ∧ w'.cell? ⟨gb338, 1, none⟩ = some (.int .i64 a0_1) ∧ w'.cell? ⟨gb338, 2, none⟩ = some (.int .i64 a0_2) ∧ w'.cell? ⟨gb338, 3, none⟩ = some (.slice A0_3 l0_3.length c0_3)) (ds := []) #[O, O, O, O, O, O, O, O] (by kernel_rfl) rfl rfl ⟨bc BK338 0, bc BK338 1, bc BK338 2, bc BK338 3⟩ (fun hHeld => ?_); refine with_tabW impl_Model_shapes.tab1 impl_Model_shapes.bits1 (fun HT_ HW_ => ?_)
  generalize w2.drew = w3 at BK338 HB hHeld ⊢
  refine stepP 0 (some 10) (tk 8 1) (any_of HT_.out (by kernel_rfl)) ?_
  refine stepP 3 (some 13) (tk 8 9) (any_of HT_.out (by kernel_rfl)) ?_
  refine stepT 1 (some 11) (tk 8 11) (take_ofW HT_.out HW_.out (by kernel_rfl)) hHeld ?_
  refine stepT 4 (some 14) (tk 8 27) (take_ofW HT_.out HW_.out (by kernel_rfl)) hHeld ?_
  refine join_ (σ := Value × Nat) 2 #[I, I, I, I, I, I, O, O] (fun s_ => [(12, s_.1), (5, .pointer (some ⟨s_.2, 0, none⟩))]) (fun s_ w' => (w'.cell? ⟨gb338, 0, none⟩ = some (.int .i64 a0_0) ∧ w'.cell? ⟨gb338, 1, none⟩ = some (.int .i64 a0_1) ∧ w'.cell? ⟨gb338, 2, none⟩ = some (.int .i64 a0_2) ∧ w'.cell? ⟨gb338, 3, none⟩ = some (.slice A0_3 l0_3.length c0_3)) ∧ (Kd.R k31 31 w' w.heap.size (fun k_ => k_ ≠ s_.2) s_.1 y339) ∧ (w'.heap[gb338]? = some (.cells #[.int .i64 a0_0, .int .i64 a0_1, .int .i64 a0_2, .slice A0_3 l0_3.length c0_3] 53 (0, 0))) ∧ (w'.heap[s_.2]? = some (.cells #[.int .i64 0, .int .i64 0, .int .i64 0] 31 (0, 0))) ∧ (w.heap.size ≤ s_.2) ∧ (w.heap.size ≤ s_.2) ∧ (gb338 ≠ s_.2) ∧ (s_.2 ≠ gb338) ∧ (Below w.heap.size w w')) ?_ ?_
  rotate_left
  ·intro hCont
   refine two_ (i := 2) (j := 5) (Ni := some 12) (Nj := some 5) #[I, I, I, I, I, O, O, O] #[I, I, O, I, I, I, O, O] rfl rfl rfl rfl (two_of HT_.out (by kernel_rfl)) (by decide) (by decide) (fun K hK => ?_) (fun K hK => ?_)
   ·skip
    refine Kd.R_lit_step k31 _ 31 ?hg (N := 12) ?hd (xs := ([(⟨a0_0, a0_1, a0_2⟩ : S31)] : List (S31))) (inner := [.int .i64 a0_0, .int .i64 a0_1, .int .i64 a0_2]) (ok := fun _ => True) (okp := fun _ => True) ?hr ?hp (fun _ hk => hk) trivial (Below.refl _ _) (Nat.le_refl _) (by simp) ?_; (case hd => rfl); (case hg => rfl); (case hr => first | (go_simp; done) | (go_simp; rfl)); (case hp => exact (Reps.c3 (show Kd.M k31 _ _ _ (⟨a0_0, a0_1, a0_2⟩ : S31) [.int .i64 a0_0, .int .i64 a0_1, .int .i64 a0_2] from (k31_mkM _ _ _ (⟨a0_0, a0_1, a0_2⟩ : S31) )) (Reps.none _ _)))
    intro v340 w4 ho5 hb hg_ hnew_
    clear hg_ hnew_
    (first | rw [← Ny339.out] at ho5 | (simp only [Int.reduceToNat] at ho5; rw [← Ny339.out] at ho5))
    have n0_ := Aside0.mk (Kd.R_lower ho5 (below_size bel_now))
    replace BK338 := blk_on gb338 hb
    replace HB := bel_on w hb
    have HO341 := n0_
    clear n0_
    clear hb ho5
    refine hK.out _ _ ⟨bc BK338 0, bc BK338 1, bc BK338 2, bc BK338 3⟩ (fun hHeld => ?_)
    clear hK K
    refine normP 12 ?_
    refine one_ (i := 5) (N := some 5) #[I, I, I, I, I, I, O, O] rfl rfl (one_of HT_.out (by kernel_rfl)) (by decide) (fun K hK => ?_)
    refine box_step ?hg (N := 5) ?hd (cs := #[.int .i64 0, .int .i64 0, .int .i64 0]) (t := 31) ?hr ?_; (case hd => rfl); (case hg => rfl); (case hr => first | (go_simp; done) | (go_simp; rfl))
    intro gb342 hg w6 hbox hb
    have n3_ := Aside0.mk (hbox)
    have n4_ := Aside0.mk ((by rw [hg]; exact (below_size bel_now) : w.heap.size ≤ gb342))
    have n5_ := Aside0.mk ((by rw [hg]; exact (below_size bel_now) : w.heap.size ≤ gb342))
    have n6_ := Aside0.mk ((by rw [hg]; exact Nat.ne_of_lt (blk_lt (g := gb338) blk_now) : gb338 ≠ gb342))
    have n7_ := Aside0.mk ((by rw [hg]; exact Nat.ne_of_gt (blk_lt (g := gb338) blk_now) : gb342 ≠ gb338))
    replace HO341 := Aside0.mk (Kd.R_below (Kd.R_elderB (R_at HO341.out) gb342 (Nat.le_of_eq hg.symm)) hb)
    replace BK338 := blk_on gb338 hb
    replace HB := bel_on w hb
    have BK342 := n3_
    have GW342 := n4_
    have GE342 := n5_
    have NB338_342 := n6_
    have NB342_338 := n7_
    clear n3_ n4_ n5_ n6_ n7_
    clear hb hbox hg
    refine hK.out _ _ ⟨bc BK338 0, bc BK338 1, bc BK338 2, bc BK338 3⟩ (fun hHeld => ?_)
    clear hK K
    refine normP 5 ?_
    exact norm_ (by simp only [putAll, Act.put, zA, zB, zC]) (hCont (v340, gb342) _ ⟨hHeld, (R_at (Kd.R_mono HO341.out (fun _ hk => by first | exact hk.2 | exact trivial))), blk_now, blk_now, GW342.out, GE342.out, NB338_342.out, NB342_338.out, bel_now⟩)
   skip
   refine box_step ?hg (N := 5) ?hd (cs := #[.int .i64 0, .int .i64 0, .int .i64 0]) (t := 31) ?hr ?_; (case hd => rfl); (case hg => rfl); (case hr => first | (go_simp; done) | (go_simp; rfl))
   intro gb342 hg w4 hbox hb
   have n2_ := Aside0.mk (hbox)
   have n3_ := Aside0.mk ((by rw [hg]; exact (below_size bel_now) : w.heap.size ≤ gb342))
   have n4_ := Aside0.mk ((by rw [hg]; exact (below_size bel_now) : w.heap.size ≤ gb342))
   have n5_ := Aside0.mk ((by rw [hg]; exact Nat.ne_of_lt (blk_lt (g := gb338) blk_now) : gb338 ≠ gb342))
   have n6_ := Aside0.mk ((by rw [hg]; exact Nat.ne_of_gt (blk_lt (g := gb338) blk_now) : gb342 ≠ gb338))
   replace BK338 := blk_on gb338 hb
   replace HB := bel_on w hb
   have BK342 := n2_
   have GW342 := n3_
   have GE342 := n4_
   have NB338_342 := n5_
   have NB342_338 := n6_
   clear n2_ n3_ n4_ n5_ n6_
   clear hb hbox hg
   refine hK.out _ _ ⟨bc BK338 0, bc BK338 1, bc BK338 2, bc BK338 3⟩ (fun hHeld => ?_)
   clear hK K
   refine normP 5 ?_
   refine one_ (i := 2) (N := some 12) #[I, I, I, I, I, I, O, O] rfl rfl (one_of HT_.out (by kernel_rfl)) (by decide) (fun K hK => ?_)
   refine Kd.R_lit_step k31 _ 31 ?hg (N := 12) ?hd (xs := ([(⟨a0_0, a0_1, a0_2⟩ : S31)] : List (S31))) (inner := [.int .i64 a0_0, .int .i64 a0_1, .int .i64 a0_2]) (ok := fun _ => True) (okp := fun _ => True) ?hr ?hp (fun _ hk => hk) trivial (Below.refl _ _) (Nat.le_refl _) (by simp) ?_; (case hd => rfl); (case hg => rfl); (case hr => first | (go_simp; done) | (go_simp; rfl)); (case hp => exact (Reps.c3 (show Kd.M k31 _ _ _ (⟨a0_0, a0_1, a0_2⟩ : S31) [.int .i64 a0_0, .int .i64 a0_1, .int .i64 a0_2] from (k31_mkM _ _ _ (⟨a0_0, a0_1, a0_2⟩ : S31) )) (Reps.none _ _)))
   intro v340 w5 ho6 hb hg_ hnew_
   clear hg_ hnew_
   (first | rw [← Ny339.out] at ho6 | (simp only [Int.reduceToNat] at ho6; rw [← Ny339.out] at ho6))
   have n0_ := Aside0.mk (Kd.R_lower (Kd.R_newB ho6 (g := gb342) blk_now) (below_size bel_now))
   replace BK338 := blk_on gb338 hb
   replace BK342 := blk_on gb342 hb
   replace HB := bel_on w hb
   have HO341 := n0_
   clear n0_
   clear hb ho6
   refine hK.out _ _ ⟨bc BK338 0, bc BK338 1, bc BK338 2, bc BK338 3⟩ (fun hHeld => ?_)
   clear hK K
   refine normP 12 ?_
   exact norm_ (by simp only [putAll, Act.put, zA, zB, zC]) (hCont (v340, gb342) _ ⟨hHeld, (R_at (Kd.R_mono HO341.out (fun _ hk => by first | exact hk.2 | exact trivial))), blk_now, blk_now, GW342.out, GE342.out, NB338_342.out, NB342_338.out, bel_now⟩)
  rintro ⟨v340, gb342⟩ w7 ⟨hS_, h0_, h1_, h2_, h3_, h4_, h5_, h6_, h7_⟩
  have n0_ : Aside0 (Kd.R k31 31 w7 w.heap.size (fun k_ => k_ ≠ gb342) v340 y339) := ⟨h0_⟩
  have n1_ : Aside0 (w7.heap[gb338]? = some (.cells #[.int .i64 a0_0, .int .i64 a0_1, .int .i64 a0_2, .slice A0_3 l0_3.length c0_3] 53 (0, 0))) := ⟨h1_⟩
  have n2_ : Aside0 (w7.heap[gb342]? = some (.cells #[.int .i64 0, .int .i64 0, .int .i64 0] 31 (0, 0))) := ⟨h2_⟩
  have n3_ : Aside0 (w.heap.size ≤ gb342) := ⟨h3_⟩
  have n4_ : Aside0 (w.heap.size ≤ gb342) := ⟨h4_⟩
  have n5_ : Aside0 (gb338 ≠ gb342) := ⟨h5_⟩
  have n6_ : Aside0 (gb342 ≠ gb338) := ⟨h6_⟩
  have n7_ : Aside0 (Below w.heap.size w w7) := ⟨h7_⟩
  clear BK338
  clear HB
  clear h0_ h1_ h2_ h3_ h4_ h5_ h6_ h7_
  have HO341 := n0_
  have BK338 := n1_
  have BK342 := n2_
  have GW342 := n3_
  have GE342 := n4_
  have NB338_342 := n5_
  have NB342_338 := n6_
  have HB := n7_
  clear n0_ n1_ n2_ n3_ n4_ n5_ n6_ n7_
  have hHeld : w7.cell? ⟨gb338, 0, none⟩ = some (.int .i64 a0_0) ∧ w7.cell? ⟨gb338, 1, none⟩ = some (.int .i64 a0_1) ∧ w7.cell? ⟨gb338, 2, none⟩ = some (.int .i64 a0_2) ∧ w7.cell? ⟨gb338, 3, none⟩ = some (.slice A0_3 l0_3.length c0_3) := hS_
  refine norm_ (a' := ?_) ?_ ?_
  rotate_left
  ·simp only [putAll, Act.put, zA, zB, zC]
   rfl
  refine stepP 6 (some 4) (tk 8 127) (any_of HT_.out (by kernel_rfl)) ?_
  refine one_ (i := 7) (N := none) #[I, I, I, I, I, I, I, I] rfl rfl (one_of HT_.out (by kernel_rfl)) (by decide) (fun K hK => ?_)
  have hs8 : w7.cell? ⟨gb342, 0, none⟩ = some (.int .i64 0) := (blk_cell BK342.out 0).trans rfl
  have hfs8 := blk_frozen BK342.out 0
  have hns8_0 := NB338_342.out
  have hms8_0 := NB342_338.out
  have hs9 : w7.cell? ⟨gb342, 1, none⟩ = some (.int .i64 0) := (blk_cell BK342.out 1).trans rfl
  have hfs9 := blk_frozen BK342.out 1
  have hns9_0 := NB338_342.out
  have hms9_0 := NB342_338.out
  have hs10 : w7.cell? ⟨gb342, 2, none⟩ = some (.int .i64 0) := (blk_cell BK342.out 2).trans rfl
  have hfs10 := blk_frozen BK342.out 2
  have hns10_0 := NB338_342.out
  have hms10_0 := NB342_338.out
  refine skip_ (w1 := ?_) (by rfl) rfl ?_ ?_
  rotate_left
  ·go_simp
   rfl
  refine hK.out _ _ ⟨((cell_far (p := ⟨gb342, _, none⟩) NB338_342.out _).trans (((cell_far (p := ⟨gb342, _, none⟩) NB338_342.out _).trans (((cell_far (p := ⟨gb342, _, none⟩) NB338_342.out _).trans (hHeld.1)))))), ((cell_far (p := ⟨gb342, _, none⟩) NB338_342.out _).trans (((cell_far (p := ⟨gb342, _, none⟩) NB338_342.out _).trans (((cell_far (p := ⟨gb342, _, none⟩) NB338_342.out _).trans (hHeld.2.1)))))), ((cell_far (p := ⟨gb342, _, none⟩) NB338_342.out _).trans (((cell_far (p := ⟨gb342, _, none⟩) NB338_342.out _).trans (((cell_far (p := ⟨gb342, _, none⟩) NB338_342.out _).trans (hHeld.2.2.1)))))), ((cell_far (p := ⟨gb342, _, none⟩) NB338_342.out _).trans (((cell_far (p := ⟨gb342, _, none⟩) NB338_342.out _).trans (((cell_far (p := ⟨gb342, _, none⟩) NB338_342.out _).trans (hHeld.2.2.2))))))⟩ (fun hHeld => ?_)
  clear hK K
  refine done_ (done_of HT_.out (by kernel_rfl)) ?_
  have hn11 := ne2 NB338_342
  have hcz12 := cells4 BK338.out
  try go_wp2
  go_loopg [4, 18] k (fun kq v4 v18 w' => ∃ (x4_1 : List (S31)) (x18_1 : Int) (x343000_1 : Int) (x343001_1 : Int) (x343002_1 : Int), v18 = .int .i64 x18_1 ∧ Aside0 (impl_Model_shapes.l0 kq x4_1 l0_3 (l0_3.length : Int) x18_1 x343000_1 x343001_1 x343002_1 = some (r1, r2)) ∧ Aside0 (kq ≤ k) ∧ Aside0 (Kd.R k31 31 w' w.heap.size (fun k_ => k_ ≠ gb342) v4 x4_1) ∧ Aside0 (w'.heap[gb338]? = some (.cells #[.int .i64 a0_0, .int .i64 a0_1, .int .i64 a0_2, (.slice A0_3 l0_3.length c0_3)] 53 (0, 0))) ∧ Aside0 (w'.heap[gb342]? = some (.cells #[.int .i64 x343000_1, .int .i64 x343001_1, .int .i64 x343002_1] 31 (0, 0))) ∧ Aside0 (Below w.heap.size w w'))
  case atStart => exact ⟨(y339), (0), (a0_0), (a0_1), (a0_2), (by first | rfl | (simp; done) | (simp [*]; done)), H', ⟨Nat.le_refl _⟩, ⟨by (with_reducible repeat (first | apply Kd.R_alloc | apply Kd.R_drewN | apply Kd.R_drew)); exact Kd.R_mono (Kd.R_far (p := ⟨gb342, 2, none⟩) (Kd.R_far (p := ⟨gb342, 1, none⟩) (Kd.R_far (p := ⟨gb342, 0, none⟩) (Kd.R_mono HO341.out (fun k_ hk => (⟨hk, hk⟩ : _ ∧ k_ ≠ gb342))) (fun _ hk => hk.2) (.int .i64 a0_0)) (fun _ hk => hk.2) (.int .i64 a0_1)) (fun _ hk => hk.2) (.int .i64 a0_2)) (fun _ hk => hk.1)⟩, ⟨by (with_reducible repeat (first | refine blk_drewN ?_ _ | refine blk_drew ?_ | refine blk_alloc ?_ _)); refine blk_far ?_ NB338_342.out _; (with_reducible repeat (first | refine blk_drewN ?_ _ | refine blk_drew ?_ | refine blk_alloc ?_ _)); refine blk_far ?_ NB338_342.out _; (with_reducible repeat (first | refine blk_drewN ?_ _ | refine blk_drew ?_ | refine blk_alloc ?_ _)); refine blk_far ?_ NB338_342.out _; (with_reducible repeat (first | refine blk_drewN ?_ _ | refine blk_drew ?_ | refine blk_alloc ?_ _)); exact BK338.out⟩, ⟨by (with_reducible repeat (first | refine blk_drewN ?_ _ | refine blk_drew ?_ | refine blk_alloc ?_ _)); refine blk_put (cs := #[.int .i64 a0_0, .int .i64 a0_1, .int .i64 0]) ?_ 2 _ rfl; (with_reducible repeat (first | refine blk_drewN ?_ _ | refine blk_drew ?_ | refine blk_alloc ?_ _)); refine blk_put (cs := #[.int .i64 a0_0, .int .i64 0, .int .i64 0]) ?_ 1 _ rfl; (with_reducible repeat (first | refine blk_drewN ?_ _ | refine blk_drew ?_ | refine blk_alloc ?_ _)); refine blk_put (cs := #[.int .i64 0, .int .i64 0, .int .i64 0]) ?_ 0 _ rfl; (with_reducible repeat (first | refine blk_drewN ?_ _ | refine blk_drew ?_ | refine blk_alloc ?_ _)); exact BK342.out⟩, ⟨bel_now⟩⟩
  case round =>
   clear H'
   try clear c1
   try clear p2
   try clear c3
   try clear c11
   try clear c12
   try clear hcz12
   obtain ⟨x4_1, x18_1, x343000_1, x343001_1, x343002_1, rfl, HA, HK1, HO_4, BK338, BK342, HB⟩ := hrel
   cases gk with
   | zero => exact absurd HA.out (by simp [impl_Model_shapes.l0])
   | succ k1 =>
    have H := HA.out
    clear HA
    simp only [impl_Model_shapes.l0] at H
    by_cases c13 : x18_1 < (l0_3.length : Int)
    rotate_left
    ·rw [if_neg c13] at H
     have c13b0 : decide (x18_1 < (l0_3.length : Int)) = false := decide_eq_false c13
     clear c13
     simp only [Option.some.injEq, Prod.mk.injEq] at H
     obtain ⟨rfl, rfl⟩ := H
     go_wp2
     go_ret2
     exact ⟨_, eqN, by (with_reducible repeat (first | apply Kd.R_alloc | apply Kd.R_drewN | apply Kd.R_drew)); exact Kd.R_mono HO_4.out (fun _ hk => trivial), bel_now⟩
    rw [if_pos c13] at H
    have c13b0 : decide (x18_1 < (l0_3.length : Int)) = true := decide_eq_true c13
    clear c13
    by_cases c14 : 0 ≤ x18_1
    rotate_left
    ·rw [if_neg c14] at H
     exact absurd H (by simp)
    rw [if_pos c14] at H
    have c14b0 : decide (0 ≤ x18_1) = true := decide_eq_true c14
    clear c14
    by_cases c15 : x18_1 < (l0_3.length : Int)
    rotate_left
    ·rw [if_neg c15] at H
     exact absurd H (by simp)
    rw [if_pos c15] at H
    have c15b0 : decide (x18_1 < (l0_3.length : Int)) = true := decide_eq_true c15
    clear c15
    replace H := Option.bind_eq_some_iff.mp H
    obtain ⟨⟨t345, t346, t347, t348⟩, A160, H⟩ := H
    (try dsimp only at H)
    have A16 := Aside0.mk A160
    clear A160
    by_cases c17 : t348 = true
    rotate_left
    ·replace c17 := Bool.eq_false_iff.mpr c17
     subst c17
     rw [if_neg (show ¬ (false = true) by decide)] at H
     simp only [Option.some.injEq, Prod.mk.injEq] at H
     obtain ⟨rfl, rfl⟩ := H
     have p343 : 0 ≤ (x18_1 : Int) := of_decide_eq_true (by first | (with_reducible assumption) | assumption)
     have q343 : x18_1 < (l0_3.length : Int) := of_decide_eq_true (by first | (with_reducible assumption) | assumption)
     obtain ⟨ad343, A343_7, c343_7, A343_8, c343_8, e343, hx343_0, hx343_1, hx343_2, hx343_3, hx343_4, hx343_5, hx343_6, hx343_7, hx343_8, hl343_7, hi343_7, hl343_8, hi343_8⟩ := at_T37 HR0_3.out x18_1 p343 q343
     cases e343
     replace hx343_0 := (HB.out.cell (World.block_lt_of_cell? w _ hx343_0)).trans hx343_0
     replace hx343_1 := (HB.out.cell (World.block_lt_of_cell? w _ hx343_1)).trans hx343_1
     replace hx343_2 := (HB.out.cell (World.block_lt_of_cell? w _ hx343_2)).trans hx343_2
     replace hx343_3 := (HB.out.cell (World.block_lt_of_cell? w _ hx343_3)).trans hx343_3
     replace hx343_4 := (HB.out.cell (World.block_lt_of_cell? w _ hx343_4)).trans hx343_4
     replace hx343_5 := (HB.out.cell (World.block_lt_of_cell? w _ hx343_5)).trans hx343_5
     replace hx343_6 := (HB.out.cell (World.block_lt_of_cell? w _ hx343_6)).trans hx343_6
     replace hx343_7 := (HB.out.cell (World.block_lt_of_cell? w _ hx343_7)).trans hx343_7
     replace hx343_8 := (HB.out.cell (World.block_lt_of_cell? w _ hx343_8)).trans hx343_8
     have HR343_7 := Aside0.mk hi343_7
     have HC343_7 := Aside0.mk hl343_7
     clear hi343_7 hl343_7
     have HR343_8 := Aside0.mk hi343_8
     have HC343_8 := Aside0.mk hl343_8
     clear hi343_8 hl343_8
     replace p343 := eq_true p343
     replace q343 := eq_true q343
     go_wp2_with (first | ((with_reducible refine gate_dst (N := 7) rfl ?_); refine boxM 7 #[.int .i64 0, .int .i64 0, .int .i64 0, .int .i64 0, .int .i64 0, .int .i64 0, .int .i64 0, .slice none 0 0, .slice none 0 0] 37 ?_; intro gb344 hg w33 BK344 hb; replace HB := box_at w hb hg; obtain ⟨HB, GW344, GE344⟩ := HB; replace BK338 := box_on gb338 hb hg; obtain ⟨BK338, NB338_344, NB344_338⟩ := BK338; replace BK342 := box_on gb342 hb hg; obtain ⟨BK342, NB342_344, NB344_342⟩ := BK342; replace HO_4 := Aside0.mk (Kd.R_below (R_at HO_4.out) hb); clear hb hg; have hn34 := ne2 NB344_338; have hn35 := ne2 NB344_342; have hcz36 := cells9 BK344.out; have hn37 := ne2 NB342_338; have hcz38 := cells3 BK342.out) | ((with_reducible refine gate_callee (f := 30) rfl ?_); refine goesM (some 25) rfl rfl Try.func30 (by kernel_rfl) rfl #[.agg #[.int .i64 x343000_1, .int .i64 x343001_1, .int .i64 x343002_1], .agg #[.int .i64 ((rd_T37 l0_3 x18_1).f0), .int .i64 ((rd_T37 l0_3 x18_1).f1), .int .i64 ((rd_T37 l0_3 x18_1).f2), .int .i64 ((rd_T37 l0_3 x18_1).f3), .int .i64 ((rd_T37 l0_3 x18_1).f4), .int .i64 ((rd_T37 l0_3 x18_1).f5), .int .i64 ((rd_T37 l0_3 x18_1).f6), .slice A343_7 ((rd_T37 l0_3 x18_1).f7).length c343_7, .slice A343_8 ((rd_T37 l0_3 x18_1).f8).length c343_8]] rfl ?_; (with_reducible refine (impl_OutShape.calls k1 x343000_1 x343001_1 x343002_1 ((rd_T37 l0_3 x18_1).f0) ((rd_T37 l0_3 x18_1).f1) ((rd_T37 l0_3 x18_1).f2) ((rd_T37 l0_3 x18_1).f3) ((rd_T37 l0_3 x18_1).f4) ((rd_T37 l0_3 x18_1).f5) ((rd_T37 l0_3 x18_1).f6) _ _ ((rd_T37 l0_3 x18_1).f7) _ _ ((rd_T37 l0_3 x18_1).f8) t345 t346 t347 false _ ?side1 ?side2 ?side3 ?side4 A16.out).mono ?_); (case side1 => exact C_now HR343_7.out); (case side2 => exact HC343_7.out); (case side3 => exact C_now HR343_8.out); (case side4 => exact HC343_8.out); rintro e w39 ⟨rfl, hb⟩; refine ⟨_, rfl, ?_⟩; have n0_ := Aside0.mk (Kd.R_below (R_at (R_far9 HO_4.out BK344.out (by decide))) hb); replace HB := bel_on w hb; replace BK338 := Aside0.mk (blk_below (g := gb338) (o := .cells #[.int .i64 a0_0, .int .i64 a0_1, .int .i64 a0_2, .slice (some ad343) l0_3.length c0_3] 53 (0, 0)) (blk_fars BK338.out) hb); replace BK342 := Aside0.mk (blk_below (g := gb342) (o := .cells #[.int .i64 x343000_1, .int .i64 x343001_1, .int .i64 x343002_1] 31 (0, 0)) (blk_fars BK342.out) hb); replace BK344 := Aside0.mk (blk_below (g := gb344) (o := .cells #[.int .i64 ((rd_T37 l0_3 x18_1).f0), .int .i64 ((rd_T37 l0_3 x18_1).f1), .int .i64 ((rd_T37 l0_3 x18_1).f2), .int .i64 ((rd_T37 l0_3 x18_1).f3), .int .i64 ((rd_T37 l0_3 x18_1).f4), .int .i64 ((rd_T37 l0_3 x18_1).f5), .int .i64 ((rd_T37 l0_3 x18_1).f6), .slice A343_7 ((rd_T37 l0_3 x18_1).f7).length c343_7, .slice A343_8 ((rd_T37 l0_3 x18_1).f8).length c343_8] 37 (0, 0)) (by (with_reducible repeat (first | refine blk_drewN ?_ _ | refine blk_drew ?_ | refine blk_alloc ?_ _)); first | exact putl9 BK344.out | exact blk_fars (putl9 BK344.out)) hb); clear HO_4; have HO_4 := n0_; clear n0_; (try clear hb)) | ((with_reducible refine gate_dst (N := 8) rfl ?_); refine boxM 8 #[.int .i64 0, .int .i64 0, .int .i64 0] 31 ?_; intro gb349 hg w40 BK349 hb; replace HB := box_at w hb hg; obtain ⟨HB, GW349, GE349⟩ := HB; replace BK338 := box_on gb338 hb hg; obtain ⟨BK338, NB338_349, NB349_338⟩ := BK338; replace BK342 := box_on gb342 hb hg; obtain ⟨BK342, NB342_349, NB349_342⟩ := BK342; replace BK344 := box_on gb344 hb hg; obtain ⟨BK344, NB344_349, NB349_344⟩ := BK344; replace HO_4 := Aside0.mk (Kd.R_below (Kd.R_elderB (R_at HO_4.out) gb349 (Nat.le_of_eq hg.symm)) hb); clear hb hg; have hn41 := ne2 NB349_338; have hn42 := ne2 NB349_342; have hn43 := ne2 NB349_344; have hcz44 := cells3 BK349.out))
     go_ret2
     exact ⟨_, eqN, by first | exact Kd.R_nil _ _ _ _ _ | exact Kd.N_nil _ _ _ _ _ | exact Kd.V_nil _ _ _ _ _ | exact Kd.Q_nil _ _ _ _ _ | exact Kd.S_nil _ _ _ _ _, bel_now⟩
    subst c17
    rw [if_pos rfl] at H
    by_cases c18 : x4_1.length < 5864062014805
    rotate_left
    ·rw [if_neg c18] at H
     exact absurd H (by simp)
    rw [if_pos c18] at H
    have LMc18 := Aside0.mk c18
    clear c18
    obtain ⟨y350, hy350⟩ : ∃ y_ : List (S31), y_ = (x4_1 ++ [(⟨t345, t346, t347⟩ : S31)]) := ⟨_, rfl⟩
    replace H : (impl_Model_shapes.l0 k1 y350 l0_3 (l0_3.length : Int) (wrap64 (x18_1 + 1)) t345 t346 t347) = some (r1, r2) := by first | (rw [hy350]; with_reducible exact H) | (have H2_ := (Option.bind_some _ _).symm.trans H; rw [hy350]; with_reducible exact H2_) | (have H2_ := (Option.bind_some _ _).symm.trans H; with_reducible exact H2_) | with_reducible exact H | (rw [hy350]; exact H) | exact H
    have Ny350 := Aside0.mk hy350
    clear hy350
    have H' := Aside0.mk H
    clear H
    have p343 : 0 ≤ (x18_1 : Int) := of_decide_eq_true (by first | (with_reducible assumption) | assumption)
    have q343 : x18_1 < (l0_3.length : Int) := of_decide_eq_true (by first | (with_reducible assumption) | assumption)
    obtain ⟨ad343, A343_7, c343_7, A343_8, c343_8, e343, hx343_0, hx343_1, hx343_2, hx343_3, hx343_4, hx343_5, hx343_6, hx343_7, hx343_8, hl343_7, hi343_7, hl343_8, hi343_8⟩ := at_T37 HR0_3.out x18_1 p343 q343
    cases e343
    replace hx343_0 := (HB.out.cell (World.block_lt_of_cell? w _ hx343_0)).trans hx343_0
    replace hx343_1 := (HB.out.cell (World.block_lt_of_cell? w _ hx343_1)).trans hx343_1
    replace hx343_2 := (HB.out.cell (World.block_lt_of_cell? w _ hx343_2)).trans hx343_2
    replace hx343_3 := (HB.out.cell (World.block_lt_of_cell? w _ hx343_3)).trans hx343_3
    replace hx343_4 := (HB.out.cell (World.block_lt_of_cell? w _ hx343_4)).trans hx343_4
    replace hx343_5 := (HB.out.cell (World.block_lt_of_cell? w _ hx343_5)).trans hx343_5
    replace hx343_6 := (HB.out.cell (World.block_lt_of_cell? w _ hx343_6)).trans hx343_6
    replace hx343_7 := (HB.out.cell (World.block_lt_of_cell? w _ hx343_7)).trans hx343_7
    replace hx343_8 := (HB.out.cell (World.block_lt_of_cell? w _ hx343_8)).trans hx343_8
    have HR343_7 := Aside0.mk hi343_7
    have HC343_7 := Aside0.mk hl343_7
    clear hi343_7 hl343_7
    have HR343_8 := Aside0.mk hi343_8
    have HC343_8 := Aside0.mk hl343_8
    clear hi343_8 hl343_8
    replace p343 := eq_true p343
    replace q343 := eq_true q343
    go_wp2_with (first | ((with_reducible refine gate_dst (N := 7) rfl ?_); refine boxM 7 #[.int .i64 0, .int .i64 0, .int .i64 0, .int .i64 0, .int .i64 0, .int .i64 0, .int .i64 0, .slice none 0 0, .slice none 0 0] 37 ?_; intro gb344 hg w19 BK344 hb; replace HB := box_at w hb hg; obtain ⟨HB, GW344, GE344⟩ := HB; replace BK338 := box_on gb338 hb hg; obtain ⟨BK338, NB338_344, NB344_338⟩ := BK338; replace BK342 := box_on gb342 hb hg; obtain ⟨BK342, NB342_344, NB344_342⟩ := BK342; replace HO_4 := Aside0.mk (Kd.R_below (R_at HO_4.out) hb); clear hb hg; have hn20 := ne2 NB344_338; have hn21 := ne2 NB344_342; have hcz22 := cells9 BK344.out; have hn23 := ne2 NB342_338; have hcz24 := cells3 BK342.out) | ((with_reducible refine gate_callee (f := 30) rfl ?_); refine goesM (some 25) rfl rfl Try.func30 (by kernel_rfl) rfl #[.agg #[.int .i64 x343000_1, .int .i64 x343001_1, .int .i64 x343002_1], .agg #[.int .i64 ((rd_T37 l0_3 x18_1).f0), .int .i64 ((rd_T37 l0_3 x18_1).f1), .int .i64 ((rd_T37 l0_3 x18_1).f2), .int .i64 ((rd_T37 l0_3 x18_1).f3), .int .i64 ((rd_T37 l0_3 x18_1).f4), .int .i64 ((rd_T37 l0_3 x18_1).f5), .int .i64 ((rd_T37 l0_3 x18_1).f6), .slice A343_7 ((rd_T37 l0_3 x18_1).f7).length c343_7, .slice A343_8 ((rd_T37 l0_3 x18_1).f8).length c343_8]] rfl ?_; (with_reducible refine (impl_OutShape.calls k1 x343000_1 x343001_1 x343002_1 ((rd_T37 l0_3 x18_1).f0) ((rd_T37 l0_3 x18_1).f1) ((rd_T37 l0_3 x18_1).f2) ((rd_T37 l0_3 x18_1).f3) ((rd_T37 l0_3 x18_1).f4) ((rd_T37 l0_3 x18_1).f5) ((rd_T37 l0_3 x18_1).f6) _ _ ((rd_T37 l0_3 x18_1).f7) _ _ ((rd_T37 l0_3 x18_1).f8) t345 t346 t347 true _ ?side1 ?side2 ?side3 ?side4 A16.out).mono ?_); (case side1 => exact C_now HR343_7.out); (case side2 => exact HC343_7.out); (case side3 => exact C_now HR343_8.out); (case side4 => exact HC343_8.out); rintro e w25 ⟨rfl, hb⟩; refine ⟨_, rfl, ?_⟩; have n0_ := Aside0.mk (Kd.R_below (R_at (R_far9 HO_4.out BK344.out (by decide))) hb); replace HB := bel_on w hb; replace BK338 := Aside0.mk (blk_below (g := gb338) (o := .cells #[.int .i64 a0_0, .int .i64 a0_1, .int .i64 a0_2, .slice (some ad343) l0_3.length c0_3] 53 (0, 0)) (blk_fars BK338.out) hb); replace BK342 := Aside0.mk (blk_below (g := gb342) (o := .cells #[.int .i64 x343000_1, .int .i64 x343001_1, .int .i64 x343002_1] 31 (0, 0)) (blk_fars BK342.out) hb); replace BK344 := Aside0.mk (blk_below (g := gb344) (o := .cells #[.int .i64 ((rd_T37 l0_3 x18_1).f0), .int .i64 ((rd_T37 l0_3 x18_1).f1), .int .i64 ((rd_T37 l0_3 x18_1).f2), .int .i64 ((rd_T37 l0_3 x18_1).f3), .int .i64 ((rd_T37 l0_3 x18_1).f4), .int .i64 ((rd_T37 l0_3 x18_1).f5), .int .i64 ((rd_T37 l0_3 x18_1).f6), .slice A343_7 ((rd_T37 l0_3 x18_1).f7).length c343_7, .slice A343_8 ((rd_T37 l0_3 x18_1).f8).length c343_8] 37 (0, 0)) (by (with_reducible repeat (first | refine blk_drewN ?_ _ | refine blk_drew ?_ | refine blk_alloc ?_ _)); first | exact putl9 BK344.out | exact blk_fars (putl9 BK344.out)) hb); clear HO_4; have HO_4 := n0_; clear n0_; (try clear hb)) | ((with_reducible refine gate_dst (N := 8) rfl ?_); refine boxM 8 #[.int .i64 0, .int .i64 0, .int .i64 0] 31 ?_; intro gb349 hg w26 BK349 hb; replace HB := box_at w hb hg; obtain ⟨HB, GW349, GE349⟩ := HB; replace BK338 := box_on gb338 hb hg; obtain ⟨BK338, NB338_349, NB349_338⟩ := BK338; replace BK342 := box_on gb342 hb hg; obtain ⟨BK342, NB342_349, NB349_342⟩ := BK342; replace BK344 := box_on gb344 hb hg; obtain ⟨BK344, NB344_349, NB349_344⟩ := BK344; replace HO_4 := Aside0.mk (Kd.R_below (Kd.R_elderB (R_at HO_4.out) gb349 (Nat.le_of_eq hg.symm)) hb); clear hb hg; have hn27 := ne2 NB349_338; have hn28 := ne2 NB349_342; have hn29 := ne2 NB349_344; have hcz30 := cells3 BK349.out; have hcz31 := cells3 BK342.out) | ((with_reducible refine gate_builtin (b := .append) (xs := #[.tmp 31, .tmp 33]) rfl ?_); at_builtin; refine Kd.R_append k31 (w0 := w) w.heap.size rfl (.tmp 31) (.tmp 33) 130 31 (.agg #[(.int .i64 0), (.int .i64 0), (.int .i64 0)]) 24 rfl Try.underlying130 info31 rfl (by decide) (by omega) u4 x4_1 (⟨t345, t346, t347⟩ : S31) [.int .i64 t345, .int .i64 t346, .int .i64 t347] (fun k_ => k_ ≠ gb342 ∧ k_ ≠ gb349) (fun _ => False) rfl (by first | (go_simp; done) | (go_simp; rfl)) ?aP (fun _ hk => hk.elim) ?aF ?aO ?aB ?aS ?aL ?_; (case aP => exact k31_mkM _ _ _ (⟨t345, t346, t347⟩ : S31)); (case aB => exact bel_now); (case aF => exact (fun k_ hk => ⟨Kd.freshB (g := gb342) (o := .cells #[.int .i64 t345, .int .i64 t346, .int .i64 t347] 31 (0, 0)) (by (with_reducible repeat (first | refine blk_drewN ?_ _ | refine blk_drew ?_ | refine blk_alloc ?_ _)); refine blk_put (cs := #[.int .i64 t345, .int .i64 t346, .int .i64 x343002_1]) ?_ 2 _ rfl; (with_reducible repeat (first | refine blk_drewN ?_ _ | refine blk_drew ?_ | refine blk_alloc ?_ _)); refine blk_put (cs := #[.int .i64 t345, .int .i64 x343001_1, .int .i64 x343002_1]) ?_ 1 _ rfl; (with_reducible repeat (first | refine blk_drewN ?_ _ | refine blk_drew ?_ | refine blk_alloc ?_ _)); refine blk_put (cs := #[.int .i64 x343000_1, .int .i64 x343001_1, .int .i64 x343002_1]) ?_ 0 _ rfl; (with_reducible repeat (first | refine blk_drewN ?_ _ | refine blk_drew ?_ | refine blk_alloc ?_ _)); refine blk_far ?_ NB342_349.out _; (with_reducible repeat (first | refine blk_drewN ?_ _ | refine blk_drew ?_ | refine blk_alloc ?_ _)); refine blk_far ?_ NB342_349.out _; (with_reducible repeat (first | refine blk_drewN ?_ _ | refine blk_drew ?_ | refine blk_alloc ?_ _)); refine blk_far ?_ NB342_349.out _; (with_reducible repeat (first | refine blk_drewN ?_ _ | refine blk_drew ?_ | refine blk_alloc ?_ _)); exact BK342.out) k_ hk, Kd.freshB (g := gb349) (o := .cells #[.int .i64 t345, .int .i64 t346, .int .i64 t347] 31 (0, 0)) (by (with_reducible repeat (first | refine blk_drewN ?_ _ | refine blk_drew ?_ | refine blk_alloc ?_ _)); refine blk_far ?_ NB349_342.out _; (with_reducible repeat (first | refine blk_drewN ?_ _ | refine blk_drew ?_ | refine blk_alloc ?_ _)); refine blk_far ?_ NB349_342.out _; (with_reducible repeat (first | refine blk_drewN ?_ _ | refine blk_drew ?_ | refine blk_alloc ?_ _)); refine blk_far ?_ NB349_342.out _; (with_reducible repeat (first | refine blk_drewN ?_ _ | refine blk_drew ?_ | refine blk_alloc ?_ _)); refine blk_put (cs := #[.int .i64 t345, .int .i64 t346, .int .i64 0]) ?_ 2 _ rfl; (with_reducible repeat (first | refine blk_drewN ?_ _ | refine blk_drew ?_ | refine blk_alloc ?_ _)); refine blk_put (cs := #[.int .i64 t345, .int .i64 0, .int .i64 0]) ?_ 1 _ rfl; (with_reducible repeat (first | refine blk_drewN ?_ _ | refine blk_drew ?_ | refine blk_alloc ?_ _)); refine blk_put (cs := #[.int .i64 0, .int .i64 0, .int .i64 0]) ?_ 0 _ rfl; (with_reducible repeat (first | refine blk_drewN ?_ _ | refine blk_drew ?_ | refine blk_alloc ?_ _)); exact BK349.out) k_ hk⟩)); (case aO => exact (R_at (Kd.R_mono (Kd.R_far (p := ⟨gb342, 2, none⟩) (Kd.R_far (p := ⟨gb342, 1, none⟩) (Kd.R_far (p := ⟨gb342, 0, none⟩) (Kd.R_far (p := ⟨gb349, 2, none⟩) (Kd.R_far (p := ⟨gb349, 1, none⟩) (Kd.R_far (p := ⟨gb349, 0, none⟩) (Kd.R_mono (Kd.R_mono HO_4.out (fun k_ hk => (⟨hk, hk.2⟩ : _ ∧ k_ ≠ gb349))) (fun k_ hk => (⟨hk, hk.1.1⟩ : _ ∧ k_ ≠ gb342))) (fun _ hk => hk.1.2) (.int .i64 t345)) (fun _ hk => hk.1.2) (.int .i64 t346)) (fun _ hk => hk.1.2) (.int .i64 t347)) (fun _ hk => hk.2) (.int .i64 t345)) (fun _ hk => hk.2) (.int .i64 t346)) (fun _ hk => hk.2) (.int .i64 t347)) (fun _ hk => ⟨hk.1.1.1, hk.1.1.2⟩)))); (case aS => exact (below_size bel_now)); (case aL => have := LMc18.out; omega); intro v351 w32 ho hb hg hat; rw [← Ny350.out] at ho; have n0_ := Aside0.mk (blk_grown (g := gb338) (o := .cells #[.int .i64 a0_0, .int .i64 a0_1, .int .i64 a0_2, .slice (some ad343) l0_3.length c0_3] 53 (0, 0)) (blk_fars BK338.out) hg (Kd.R_ne HO_4.out BK338.out (by decide))); have n1_ := Aside0.mk (blk_grown (g := gb342) (o := .cells #[.int .i64 t345, .int .i64 t346, .int .i64 t347] 31 (0, 0)) (by (with_reducible repeat (first | refine blk_drewN ?_ _ | refine blk_drew ?_ | refine blk_alloc ?_ _)); refine blk_put (cs := #[.int .i64 t345, .int .i64 t346, .int .i64 x343002_1]) ?_ 2 _ rfl; (with_reducible repeat (first | refine blk_drewN ?_ _ | refine blk_drew ?_ | refine blk_alloc ?_ _)); refine blk_put (cs := #[.int .i64 t345, .int .i64 x343001_1, .int .i64 x343002_1]) ?_ 1 _ rfl; (with_reducible repeat (first | refine blk_drewN ?_ _ | refine blk_drew ?_ | refine blk_alloc ?_ _)); refine blk_put (cs := #[.int .i64 x343000_1, .int .i64 x343001_1, .int .i64 x343002_1]) ?_ 0 _ rfl; (with_reducible repeat (first | refine blk_drewN ?_ _ | refine blk_drew ?_ | refine blk_alloc ?_ _)); refine blk_far ?_ NB342_349.out _; (with_reducible repeat (first | refine blk_drewN ?_ _ | refine blk_drew ?_ | refine blk_alloc ?_ _)); refine blk_far ?_ NB342_349.out _; (with_reducible repeat (first | refine blk_drewN ?_ _ | refine blk_drew ?_ | refine blk_alloc ?_ _)); refine blk_far ?_ NB342_349.out _; (with_reducible repeat (first | refine blk_drewN ?_ _ | refine blk_drew ?_ | refine blk_alloc ?_ _)); exact BK342.out) hg (Kd.R_away HO_4.out (fun _ hk => hk.1))); have n2_ := Aside0.mk (blk_grown (g := gb344) (o := .cells #[.int .i64 ((rd_T37 l0_3 x18_1).f0), .int .i64 ((rd_T37 l0_3 x18_1).f1), .int .i64 ((rd_T37 l0_3 x18_1).f2), .int .i64 ((rd_T37 l0_3 x18_1).f3), .int .i64 ((rd_T37 l0_3 x18_1).f4), .int .i64 ((rd_T37 l0_3 x18_1).f5), .int .i64 ((rd_T37 l0_3 x18_1).f6), .slice A343_7 ((rd_T37 l0_3 x18_1).f7).length c343_7, .slice A343_8 ((rd_T37 l0_3 x18_1).f8).length c343_8] 37 (0, 0)) (blk_fars BK344.out) hg (Kd.R_ne HO_4.out BK344.out (by decide))); have n3_ := Aside0.mk (blk_grown (g := gb349) (o := .cells #[.int .i64 t345, .int .i64 t346, .int .i64 t347] 31 (0, 0)) (by (with_reducible repeat (first | refine blk_drewN ?_ _ | refine blk_drew ?_ | refine blk_alloc ?_ _)); refine blk_far ?_ NB349_342.out _; (with_reducible repeat (first | refine blk_drewN ?_ _ | refine blk_drew ?_ | refine blk_alloc ?_ _)); refine blk_far ?_ NB349_342.out _; (with_reducible repeat (first | refine blk_drewN ?_ _ | refine blk_drew ?_ | refine blk_alloc ?_ _)); refine blk_far ?_ NB349_342.out _; (with_reducible repeat (first | refine blk_drewN ?_ _ | refine blk_drew ?_ | refine blk_alloc ?_ _)); refine blk_put (cs := #[.int .i64 t345, .int .i64 t346, .int .i64 0]) ?_ 2 _ rfl; (with_reducible repeat (first | refine blk_drewN ?_ _ | refine blk_drew ?_ | refine blk_alloc ?_ _)); refine blk_put (cs := #[.int .i64 t345, .int .i64 0, .int .i64 0]) ?_ 1 _ rfl; (with_reducible repeat (first | refine blk_drewN ?_ _ | refine blk_drew ?_ | refine blk_alloc ?_ _)); refine blk_put (cs := #[.int .i64 0, .int .i64 0, .int .i64 0]) ?_ 0 _ rfl; (with_reducible repeat (first | refine blk_drewN ?_ _ | refine blk_drew ?_ | refine blk_alloc ?_ _)); exact BK349.out) hg (Kd.R_away HO_4.out (fun _ hk => hk.2))); have n4_ := Aside0.mk (hb); have n5_ := Aside0.mk (ho); clear BK338; clear BK342; clear BK344; clear BK349; clear HB; clear HO_4; have BK338 := n0_; have BK342 := n1_; have BK344 := n2_; have BK349 := n3_; have HB := n4_; have HO352 := n5_; clear n0_ n1_ n2_ n3_ n4_ n5_; clear ho hb hg hat))
    go_roundg k1
    case measure => have := HK1.out; omega
    case rel => exact ⟨(y350), (wrap64 (x18_1 + 1)), (t345), (t346), (t347), (by first | rfl | (simp; done) | (simp [*]; done)), H', ⟨by have := HK1.out; omega⟩, ⟨by (with_reducible repeat (first | apply Kd.R_alloc | apply Kd.R_drewN | apply Kd.R_drew)); exact Kd.R_mono HO352.out (fun _ hk => hk.1)⟩, ⟨bks BK338⟩, ⟨bks BK342⟩, ⟨bel_now⟩⟩

/-! ### impl_ModelOk: function 87 -/
def impl_ModelOk.f (k : Nat) (a0_0 : Int) (a0_1 : Int) (a0_2 : Int) (l0_3 : List (S37)) : Option (Bool) := (impl_in.f (l0_3.length : Int) 1 6).bind fun t354 => (if t354 = true then ((impl_Model_shapes.f k a0_0 a0_1 a0_2 l0_3).bind fun bt355 => (some bt355.2)) else (some false))
set_option maxHeartbeats 8000000 in
set_option maxRecDepth 100000 in
theorem impl_ModelOk.calls (k : Nat) (a0_0 : Int) (a0_1 : Int) (a0_2 : Int) (A0_3 : Option Addr) (c0_3 : Nat) (l0_3 : List (S37)) (r : Bool) (w : World) (hr0_3 : Kd.C k37 w A0_3 l0_3.length l0_3) (hc0_3 : l0_3.length ≤ c0_3) (h : impl_ModelOk.f k a0_0 a0_1 a0_2 l0_3 = some r) :
   Calls Try.prog 87 #[.agg #[.int .i64 a0_0, .int .i64 a0_1, .int .i64 a0_2, .slice A0_3 l0_3.length c0_3]] w fun e w' => e = .returned (.bool r) ∧ Below w.heap.size w w' := by
  have hu53 := Try.underlying53
  have HR0_3 := Aside0.mk hr0_3
  have HC0_3 := Aside0.mk hc0_3
  clear hr0_3 hc0_3
  have HB := Aside0.mk (Below.refl w.heap.size w)
  have H : ((impl_in.f (l0_3.length : Int) 1 6).bind fun t354 => (if t354 = true then ((impl_Model_shapes.f k a0_0 a0_1 a0_2 l0_3).bind fun bt355 => (some bt355.2)) else (some false))) = some r := h
  clear h
  replace H := Option.bind_eq_some_iff.mp H
  obtain ⟨t354, A20, H⟩ := H
  (try dsimp only at H)
  have A2 := Aside0.mk A20
  clear A20
  by_cases c3 : t354 = true
  rotate_left
  ·replace c3 := Bool.eq_false_iff.mpr c3
   subst c3
   rw [if_neg (show ¬ (false = true) by decide)] at H
   obtain rfl := Option.some.inj H
   go_enter Try.func87, Try.ntmps87
   go_wp2_with (first | ((with_reducible refine gate_dst (N := 1) rfl ?_); refine boxM 1 #[.int .i64 a0_0, .int .i64 a0_1, .int .i64 a0_2, .slice A0_3 l0_3.length c0_3] 53 ?_; intro gb353 hg w8 BK353 hb; replace HB := box_at w hb hg; obtain ⟨HB, GW353, GE353⟩ := HB; clear hb hg; have hcz9 := cells4 BK353.out) | ((with_reducible refine gate_callee (f := 70) rfl ?_); refine goesM (some 8) rfl rfl Try.func70 (by kernel_rfl) rfl #[.int .i64 (l0_3.length : Int), .int .i64 1, .int .i64 6] rfl ?_; (with_reducible refine (impl_in.calls (l0_3.length : Int) 1 6 false _ A2.out).mono ?_); rintro e w' ⟨rfl, ⟨nd, rfl⟩⟩; refine ⟨_, rfl, ?_⟩))
   go_ret
   exact ⟨eqN, bel_now⟩
  subst c3
  rw [if_pos rfl] at H
  replace H := Option.bind_eq_some_iff.mp H
  obtain ⟨⟨t355, t358⟩, A40, H⟩ := H
  (try dsimp only at H)
  have A4 := Aside0.mk A40
  clear A40
  obtain rfl := Option.some.inj H
  go_enter Try.func87, Try.ntmps87
  go_wp2_with (first | ((with_reducible refine gate_dst (N := 1) rfl ?_); refine boxM 1 #[.int .i64 a0_0, .int .i64 a0_1, .int .i64 a0_2, .slice A0_3 l0_3.length c0_3] 53 ?_; intro gb353 hg w5 BK353 hb; replace HB := box_at w hb hg; obtain ⟨HB, GW353, GE353⟩ := HB; clear hb hg; have hcz6 := cells4 BK353.out) | ((with_reducible refine gate_callee (f := 70) rfl ?_); refine goesM (some 8) rfl rfl Try.func70 (by kernel_rfl) rfl #[.int .i64 (l0_3.length : Int), .int .i64 1, .int .i64 6] rfl ?_; (with_reducible refine (impl_in.calls (l0_3.length : Int) 1 6 true _ A2.out).mono ?_); rintro e w' ⟨rfl, ⟨nd, rfl⟩⟩; refine ⟨_, rfl, ?_⟩) | ((with_reducible refine gate_callee (f := 124) rfl ?_); refine goesM (some 12) rfl rfl Try.func124 (by kernel_rfl) rfl #[.agg #[.int .i64 a0_0, .int .i64 a0_1, .int .i64 a0_2, .slice A0_3 l0_3.length c0_3]] rfl ?_; (with_reducible refine (impl_Model_shapes.calls k a0_0 a0_1 a0_2 _ _ l0_3 t355 t358 _ ?side1 ?side2 A4.out).mono ?_); (case side1 => exact C_now HR0_3.out); (case side2 => exact HC0_3.out); rintro e w7 ⟨v356, rfl, ho0, hb⟩; refine ⟨_, rfl, ?_⟩; have n0_ := Aside0.mk (Kd.R_lower ho0 (below_size bel_now)); replace HB := bel_on w hb; replace BK353 := blk_on gb353 hb; have HO357 := n0_; clear n0_; (try clear hb); (try clear ho0)))
  go_ret
  exact ⟨eqN, bel_now⟩

end Go.Proofs.Ytclpojeofclbjaa.PFnExactLeftOf
