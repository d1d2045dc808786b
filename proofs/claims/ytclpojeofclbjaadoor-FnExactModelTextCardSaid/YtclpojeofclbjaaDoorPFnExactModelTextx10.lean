-- Printed by the session's own program (wip/myprint.py) for this claim out of the translation. Not trusted: Lean checks it.
import Derived.Test.YtclpojeofclbjaaDoorPFnExactModelTextx0
import Derived.Test.YtclpojeofclbjaaDoorPFnExactModelTextx6
import Derived.Test.YtclpojeofclbjaaDoorPFnExactModelTextx9
namespace Go.Proofs.YtclpojeofclbjaaDoor.PFnExactModelText
open Go.RowKit Go.Proofs.YtclpojeofclbjaaDoorW.PrintWords Go.Proofs.YtclpojeofclbjaaDoorW.PrintLast Go.Proofs.YtclpojeofclbjaaDoorW.PrintMore
attribute [local go_sem] max2_int min2_int max_two min_two max_three min_three max_four min_four   -- for this text's walks alone
set_option linter.unusedVariables false
set_option linter.unusedSimpArgs false

/-! ### impl_Model_shapes: function 42 -/
def impl_Model_shapes.l0 : Nat → List (S29) → List (S49) → Int → Int → Int → Int → Int → Option ((List (S29)) × Bool)
  | 0, _, _, _, _, _, _, _ => none
  | k + 1, x4, x16, x17, x18, x287000, x287001, x287002 => if x18 < x17 then (if 0 ≤ x18 then (if x18 < (x16.length : Int) then ((impl_OutShape.f k x287000 x287001 x287002 ((rd_T49 x16 x18).f0) ((rd_T49 x16 x18).f1) ((rd_T49 x16 x18).f2) ((rd_T49 x16 x18).f3) ((rd_T49 x16 x18).f4) ((rd_T49 x16 x18).f5) ((rd_T49 x16 x18).f6) ((rd_T49 x16 x18).f7) ((rd_T49 x16 x18).f8)).bind fun bt289 => (if bt289.2.2.2 = true then (if x4.length < 5864062014805 then (impl_Model_shapes.l0 k (x4 ++ [(⟨bt289.1, bt289.2.1, bt289.2.2.1⟩ : S29)]) x16 x17 (wrap64 (x18 + 1)) bt289.1 bt289.2.1 bt289.2.2.1) else (none)) else (some (([] : List (S29)), false)))) else (none)) else (none)) else (some (x4, true))
def impl_Model_shapes.f (k : Nat) (a0_0 : Int) (a0_1 : Int) (a0_2 : Int) (l0_3 : List (S49)) : Option ((List (S29)) × Bool) := impl_Model_shapes.l0 k (([(⟨a0_0, a0_1, a0_2⟩ : S29)] : List (S29))) l0_3 (l0_3.length : Int) 0 a0_0 a0_1 a0_2
def impl_Model_shapes.T1 : Bool × List (List Nat × List Nat) := (true, [([], []), ([0], [0]), ([1], [1]), ([], []), ([3], [3]), ([], []), ([2, 0, 1, 2, 5], [2]), ([5, 4, 6, 0, 1, 2, 3, 4, 5, 6], [4, 5])])
def impl_Model_shapes.B1 : List Nat := [0, 1, 3, 0, 8, 0, 39, 127]
theorem impl_Model_shapes.tab1 : rtab .any (opsOf Tryd.f42 1) = impl_Model_shapes.T1 := by kernel_rfl
theorem impl_Model_shapes.bits1 : waitsOk impl_Model_shapes.T1.2 impl_Model_shapes.B1 = true := by kernel_rfl
set_option maxHeartbeats 8000000 in
set_option maxRecDepth 100000 in
theorem impl_Model_shapes.calls (k : Nat) (a0_0 : Int) (a0_1 : Int) (a0_2 : Int) (A0_3 : Option Addr) (c0_3 : Nat) (l0_3 : List (S49)) (r1 : List (S29)) (r2 : Bool) (w : World) (hr0_3 : Kd.C k49 w A0_3 l0_3.length l0_3) (hc0_3 : l0_3.length ≤ c0_3) (h : impl_Model_shapes.f k a0_0 a0_1 a0_2 l0_3 = some (r1, r2)) :
   Calls Tryd.prog 42 #[.agg #[.int .i64 a0_0, .int .i64 a0_1, .int .i64 a0_2, .slice A0_3 l0_3.length c0_3]] w fun e w' => ∃ v0_ : Value, e = .returned (.tuple #[v0_, .bool r2]) ∧ Kd.R k29 29 w' w.heap.size (fun _ => True) v0_ r1 ∧ Below w.heap.size w w' := by
  have hu32 := Tryd.underlying32
  have hu29 := Tryd.underlying29
  have hu49 := Tryd.underlying49
  have HR0_3 := Aside0.mk hr0_3
  have HC0_3 := Aside0.mk hc0_3
  clear hr0_3 hc0_3
  have HB := Aside0.mk (Below.refl w.heap.size w)
  have H : (impl_Model_shapes.l0 k (([(⟨a0_0, a0_1, a0_2⟩ : S29)] : List (S29))) l0_3 (l0_3.length : Int) 0 a0_0 a0_1 a0_2) = some (r1, r2) := h
  clear h
  obtain ⟨y283, hy283⟩ : ∃ y_ : List (S29), y_ = (([(⟨a0_0, a0_1, a0_2⟩ : S29)] : List (S29))) := ⟨_, rfl⟩
  replace H : (impl_Model_shapes.l0 k y283 l0_3 (l0_3.length : Int) 0 a0_0 a0_1 a0_2) = some (r1, r2) := by first | (rw [hy283]; with_reducible exact H) | (have H2_ := (Option.bind_some _ _).symm.trans H; rw [hy283]; with_reducible exact H2_) | (have H2_ := (Option.bind_some _ _).symm.trans H; with_reducible exact H2_) | with_reducible exact H | (rw [hy283]; exact H) | exact H
  have Ny283 := Aside0.mk hy283
  clear hy283
  have H' := Aside0.mk H
  clear H
  go_enter Tryd.func42, Tryd.ntmps42
  try go_wp2_with (first | ((with_reducible refine gate_dst (N := 1) rfl ?_); refine boxM 1 #[.int .i64 a0_0, .int .i64 a0_1, .int .i64 a0_2, .slice A0_3 l0_3.length c0_3] 32 ?_; intro gb282 hg w2 BK282 hb; replace HB := box_at w hb hg; obtain ⟨HB, GW282, GE282⟩ := HB; clear hb hg))
  replace BK282 := Aside0.mk (blk_drew BK282.out)
  replace HB := Aside0.mk (below_drew1 HB.out)
  refine start_ (n := 8) (S := fun w' => w'.cell? ⟨gb282, 0, none⟩ = some (.int .i64 a0_0) ∧ w'.cell? ⟨gb282, 1, none⟩ = some (.int .i64 a0_1) ∧ w'.cell? ⟨gb282, 2, none⟩ = some (.int .i64 a0_2) ∧ w'.cell? ⟨gb282, 3, none⟩ = some (.slice A0_3 l0_3.length c0_3)) (ds := []) #[O, O, O, O, O, O, O, O] (by kernel_rfl) rfl rfl ⟨bc BK282 0, bc BK282 1, bc BK282 2, bc BK282 3⟩ (fun hHeld => ?_); refine with_tabW impl_Model_shapes.tab1 impl_Model_shapes.bits1 (fun HT_ HW_ => ?_)
  generalize w2.drew = w3 at BK282 HB hHeld ⊢
  refine stepP 0 (some 10) (tk 8 1) (any_of HT_.out (by kernel_rfl)) ?_
  refine stepP 3 (some 13) (tk 8 9) (any_of HT_.out (by kernel_rfl)) ?_
  refine stepT 1 (some 11) (tk 8 11) (take_ofW HT_.out HW_.out (by kernel_rfl)) hHeld ?_
  refine stepT 4 (some 14) (tk 8 27) (take_ofW HT_.out HW_.out (by kernel_rfl)) hHeld ?_
  refine join_ (σ := Value × Nat) 2 #[I, I, I, I, I, I, O, O] (fun s_ => [(12, s_.1), (5, .pointer (some ⟨s_.2, 0, none⟩))]) (fun s_ w' => (w'.cell? ⟨gb282, 0, none⟩ = some (.int .i64 a0_0) ∧ w'.cell? ⟨gb282, 1, none⟩ = some (.int .i64 a0_1) ∧ w'.cell? ⟨gb282, 2, none⟩ = some (.int .i64 a0_2) ∧ w'.cell? ⟨gb282, 3, none⟩ = some (.slice A0_3 l0_3.length c0_3)) ∧ (Kd.R k29 29 w' w.heap.size (fun k_ => k_ ≠ s_.2) s_.1 y283) ∧ (w'.heap[gb282]? = some (.cells #[.int .i64 a0_0, .int .i64 a0_1, .int .i64 a0_2, .slice A0_3 l0_3.length c0_3] 32 (0, 0))) ∧ (w'.heap[s_.2]? = some (.cells #[.int .i64 0, .int .i64 0, .int .i64 0] 29 (0, 0))) ∧ (w.heap.size ≤ s_.2) ∧ (w.heap.size ≤ s_.2) ∧ (gb282 ≠ s_.2) ∧ (s_.2 ≠ gb282) ∧ (Below w.heap.size w w')) ?_ ?_
  rotate_left
  ·intro hCont
   refine two_ (i := 2) (j := 5) (Ni := some 12) (Nj := some 5) #[I, I, I, I, I, O, O, O] #[I, I, O, I, I, I, O, O] rfl rfl rfl rfl (two_of HT_.out (by kernel_rfl)) (by decide) (by decide) (fun K hK => ?_) (fun K hK => ?_)
   ·skip
    refine Kd.R_lit_step k29 _ 29 ?hg (N := 12) ?hd (xs := ([(⟨a0_0, a0_1, a0_2⟩ : S29)] : List (S29))) (inner := [.int .i64 a0_0, .int .i64 a0_1, .int .i64 a0_2]) (ok := fun _ => True) (okp := fun _ => True) ?hr ?hp (fun _ hk => hk) trivial (Below.refl _ _) (Nat.le_refl _) (by simp) ?_; (case hd => rfl); (case hg => rfl); (case hr => first | (go_simp; done) | (go_simp; rfl)); (case hp => exact (Reps.c3 (show Kd.M k29 _ _ _ (⟨a0_0, a0_1, a0_2⟩ : S29) [.int .i64 a0_0, .int .i64 a0_1, .int .i64 a0_2] from (k29_mkM _ _ _ (⟨a0_0, a0_1, a0_2⟩ : S29) )) (Reps.none _ _)))
    intro v284 w4 ho5 hb hg_ hnew_
    clear hg_ hnew_
    (first | rw [← Ny283.out] at ho5 | (simp only [Int.reduceToNat] at ho5; rw [← Ny283.out] at ho5))
    have n0_ := Aside0.mk (Kd.R_lower ho5 (below_size bel_now))
    replace BK282 := blk_on gb282 hb
    replace HB := bel_on w hb
    have HO285 := n0_
    clear n0_
    clear hb ho5
    refine hK.out _ _ ⟨bc BK282 0, bc BK282 1, bc BK282 2, bc BK282 3⟩ (fun hHeld => ?_)
    clear hK K
    refine normP 12 ?_
    refine one_ (i := 5) (N := some 5) #[I, I, I, I, I, I, O, O] rfl rfl (one_of HT_.out (by kernel_rfl)) (by decide) (fun K hK => ?_)
    refine box_step ?hg (N := 5) ?hd (cs := #[.int .i64 0, .int .i64 0, .int .i64 0]) (t := 29) ?hr ?_; (case hd => rfl); (case hg => rfl); (case hr => first | (go_simp; done) | (go_simp; rfl))
    intro gb286 hg w6 hbox hb
    have n3_ := Aside0.mk (hbox)
    have n4_ := Aside0.mk ((by rw [hg]; exact (below_size bel_now) : w.heap.size ≤ gb286))
    have n5_ := Aside0.mk ((by rw [hg]; exact (below_size bel_now) : w.heap.size ≤ gb286))
    have n6_ := Aside0.mk ((by rw [hg]; exact Nat.ne_of_lt (blk_lt (g := gb282) blk_now) : gb282 ≠ gb286))
    have n7_ := Aside0.mk ((by rw [hg]; exact Nat.ne_of_gt (blk_lt (g := gb282) blk_now) : gb286 ≠ gb282))
    replace HO285 := Aside0.mk (Kd.R_below (Kd.R_elderB (R_at HO285.out) gb286 (Nat.le_of_eq hg.symm)) hb)
    replace BK282 := blk_on gb282 hb
    replace HB := bel_on w hb
    have BK286 := n3_
    have GW286 := n4_
    have GE286 := n5_
    have NB282_286 := n6_
    have NB286_282 := n7_
    clear n3_ n4_ n5_ n6_ n7_
    clear hb hbox hg
    refine hK.out _ _ ⟨bc BK282 0, bc BK282 1, bc BK282 2, bc BK282 3⟩ (fun hHeld => ?_)
    clear hK K
    refine normP 5 ?_
    exact norm_ (by simp only [putAll, Act.put, zA, zB, zC]) (hCont (v284, gb286) _ ⟨hHeld, (R_at (Kd.R_mono HO285.out (fun _ hk => by first | exact hk.2 | exact trivial))), blk_now, blk_now, GW286.out, GE286.out, NB282_286.out, NB286_282.out, bel_now⟩)
   skip
   refine box_step ?hg (N := 5) ?hd (cs := #[.int .i64 0, .int .i64 0, .int .i64 0]) (t := 29) ?hr ?_; (case hd => rfl); (case hg => rfl); (case hr => first | (go_simp; done) | (go_simp; rfl))
   intro gb286 hg w4 hbox hb
   have n2_ := Aside0.mk (hbox)
   have n3_ := Aside0.mk ((by rw [hg]; exact (below_size bel_now) : w.heap.size ≤ gb286))
   have n4_ := Aside0.mk ((by rw [hg]; exact (below_size bel_now) : w.heap.size ≤ gb286))
   have n5_ := Aside0.mk ((by rw [hg]; exact Nat.ne_of_lt (blk_lt (g := gb282) blk_now) : gb282 ≠ gb286))
   have n6_ := Aside0.mk ((by rw [hg]; exact Nat.ne_of_gt (blk_lt (g := gb282) blk_now) : gb286 ≠ gb282))
   replace BK282 := blk_on gb282 hb
   replace HB := bel_on w hb
   have BK286 := n2_
   have GW286 := n3_
   have GE286 := n4_
   have NB282_286 := n5_
   have NB286_282 := n6_
   clear n2_ n3_ n4_ n5_ n6_
   clear hb hbox hg
   refine hK.out _ _ ⟨bc BK282 0, bc BK282 1, bc BK282 2, bc BK282 3⟩ (fun hHeld => ?_)
   clear hK K
   refine normP 5 ?_
   refine one_ (i := 2) (N := some 12) #[I, I, I, I, I, I, O, O] rfl rfl (one_of HT_.out (by kernel_rfl)) (by decide) (fun K hK => ?_)
   refine Kd.R_lit_step k29 _ 29 ?hg (N := 12) ?hd (xs := ([(⟨a0_0, a0_1, a0_2⟩ : S29)] : List (S29))) (inner := [.int .i64 a0_0, .int .i64 a0_1, .int .i64 a0_2]) (ok := fun _ => True) (okp := fun _ => True) ?hr ?hp (fun _ hk => hk) trivial (Below.refl _ _) (Nat.le_refl _) (by simp) ?_; (case hd => rfl); (case hg => rfl); (case hr => first | (go_simp; done) | (go_simp; rfl)); (case hp => exact (Reps.c3 (show Kd.M k29 _ _ _ (⟨a0_0, a0_1, a0_2⟩ : S29) [.int .i64 a0_0, .int .i64 a0_1, .int .i64 a0_2] from (k29_mkM _ _ _ (⟨a0_0, a0_1, a0_2⟩ : S29) )) (Reps.none _ _)))
   intro v284 w5 ho6 hb hg_ hnew_
   clear hg_ hnew_
   (first | rw [← Ny283.out] at ho6 | (simp only [Int.reduceToNat] at ho6; rw [← Ny283.out] at ho6))
   have n0_ := Aside0.mk (Kd.R_lower (Kd.R_newB ho6 (g := gb286) blk_now) (below_size bel_now))
   replace BK282 := blk_on gb282 hb
   replace BK286 := blk_on gb286 hb
   replace HB := bel_on w hb
   have HO285 := n0_
   clear n0_
   clear hb ho6
   refine hK.out _ _ ⟨bc BK282 0, bc BK282 1, bc BK282 2, bc BK282 3⟩ (fun hHeld => ?_)
   clear hK K
   refine normP 12 ?_
   exact norm_ (by simp only [putAll, Act.put, zA, zB, zC]) (hCont (v284, gb286) _ ⟨hHeld, (R_at (Kd.R_mono HO285.out (fun _ hk => by first | exact hk.2 | exact trivial))), blk_now, blk_now, GW286.out, GE286.out, NB282_286.out, NB286_282.out, bel_now⟩)
  rintro ⟨v284, gb286⟩ w7 ⟨hS_, h0_, h1_, h2_, h3_, h4_, h5_, h6_, h7_⟩
  have n0_ : Aside0 (Kd.R k29 29 w7 w.heap.size (fun k_ => k_ ≠ gb286) v284 y283) := ⟨h0_⟩
  have n1_ : Aside0 (w7.heap[gb282]? = some (.cells #[.int .i64 a0_0, .int .i64 a0_1, .int .i64 a0_2, .slice A0_3 l0_3.length c0_3] 32 (0, 0))) := ⟨h1_⟩
  have n2_ : Aside0 (w7.heap[gb286]? = some (.cells #[.int .i64 0, .int .i64 0, .int .i64 0] 29 (0, 0))) := ⟨h2_⟩
  have n3_ : Aside0 (w.heap.size ≤ gb286) := ⟨h3_⟩
  have n4_ : Aside0 (w.heap.size ≤ gb286) := ⟨h4_⟩
  have n5_ : Aside0 (gb282 ≠ gb286) := ⟨h5_⟩
  have n6_ : Aside0 (gb286 ≠ gb282) := ⟨h6_⟩
  have n7_ : Aside0 (Below w.heap.size w w7) := ⟨h7_⟩
  clear BK282
  clear HB
  clear h0_ h1_ h2_ h3_ h4_ h5_ h6_ h7_
  have HO285 := n0_
  have BK282 := n1_
  have BK286 := n2_
  have GW286 := n3_
  have GE286 := n4_
  have NB282_286 := n5_
  have NB286_282 := n6_
  have HB := n7_
  clear n0_ n1_ n2_ n3_ n4_ n5_ n6_ n7_
  have hHeld : w7.cell? ⟨gb282, 0, none⟩ = some (.int .i64 a0_0) ∧ w7.cell? ⟨gb282, 1, none⟩ = some (.int .i64 a0_1) ∧ w7.cell? ⟨gb282, 2, none⟩ = some (.int .i64 a0_2) ∧ w7.cell? ⟨gb282, 3, none⟩ = some (.slice A0_3 l0_3.length c0_3) := hS_
  refine norm_ (a' := ?_) ?_ ?_
  rotate_left
  ·simp only [putAll, Act.put, zA, zB, zC]
   rfl
  refine stepP 6 (some 4) (tk 8 127) (any_of HT_.out (by kernel_rfl)) ?_
  refine one_ (i := 7) (N := none) #[I, I, I, I, I, I, I, I] rfl rfl (one_of HT_.out (by kernel_rfl)) (by decide) (fun K hK => ?_)
  have hs8 : w7.cell? ⟨gb286, 0, none⟩ = some (.int .i64 0) := (blk_cell BK286.out 0).trans rfl
  have hfs8 := blk_frozen BK286.out 0
  have hns8_0 := NB282_286.out
  have hms8_0 := NB286_282.out
  have hs9 : w7.cell? ⟨gb286, 1, none⟩ = some (.int .i64 0) := (blk_cell BK286.out 1).trans rfl
  have hfs9 := blk_frozen BK286.out 1
  have hns9_0 := NB282_286.out
  have hms9_0 := NB286_282.out
  have hs10 : w7.cell? ⟨gb286, 2, none⟩ = some (.int .i64 0) := (blk_cell BK286.out 2).trans rfl
  have hfs10 := blk_frozen BK286.out 2
  have hns10_0 := NB282_286.out
  have hms10_0 := NB286_282.out
  refine skip_ (w1 := ?_) (by rfl) rfl ?_ ?_
  rotate_left
  ·go_simp
   rfl
  refine hK.out _ _ ⟨((cell_far (p := ⟨gb286, _, none⟩) NB282_286.out _).trans (((cell_far (p := ⟨gb286, _, none⟩) NB282_286.out _).trans (((cell_far (p := ⟨gb286, _, none⟩) NB282_286.out _).trans (hHeld.1)))))), ((cell_far (p := ⟨gb286, _, none⟩) NB282_286.out _).trans (((cell_far (p := ⟨gb286, _, none⟩) NB282_286.out _).trans (((cell_far (p := ⟨gb286, _, none⟩) NB282_286.out _).trans (hHeld.2.1)))))), ((cell_far (p := ⟨gb286, _, none⟩) NB282_286.out _).trans (((cell_far (p := ⟨gb286, _, none⟩) NB282_286.out _).trans (((cell_far (p := ⟨gb286, _, none⟩) NB282_286.out _).trans (hHeld.2.2.1)))))), ((cell_far (p := ⟨gb286, _, none⟩) NB282_286.out _).trans (((cell_far (p := ⟨gb286, _, none⟩) NB282_286.out _).trans (((cell_far (p := ⟨gb286, _, none⟩) NB282_286.out _).trans (hHeld.2.2.2))))))⟩ (fun hHeld => ?_)
  clear hK K
  refine done_ (done_of HT_.out (by kernel_rfl)) ?_
  have hn11 := ne2 NB282_286
  have hcz12 := cells4 BK282.out
  try go_wp2
  go_loopg [4, 18] k (fun kq v4 v18 w' => ∃ (x4_1 : List (S29)) (x18_1 : Int) (x287000_1 : Int) (x287001_1 : Int) (x287002_1 : Int), v18 = .int .i64 x18_1 ∧ Aside0 (impl_Model_shapes.l0 kq x4_1 l0_3 (l0_3.length : Int) x18_1 x287000_1 x287001_1 x287002_1 = some (r1, r2)) ∧ Aside0 (kq ≤ k) ∧ Aside0 (Kd.R k29 29 w' w.heap.size (fun k_ => k_ ≠ gb286) v4 x4_1) ∧ Aside0 (w'.heap[gb282]? = some (.cells #[.int .i64 a0_0, .int .i64 a0_1, .int .i64 a0_2, (.slice A0_3 l0_3.length c0_3)] 32 (0, 0))) ∧ Aside0 (w'.heap[gb286]? = some (.cells #[.int .i64 x287000_1, .int .i64 x287001_1, .int .i64 x287002_1] 29 (0, 0))) ∧ Aside0 (Below w.heap.size w w'))
  case atStart => exact ⟨(y283), (0), (a0_0), (a0_1), (a0_2), (by first | rfl | (simp; done) | (simp [*]; done)), H', ⟨Nat.le_refl _⟩, ⟨by (with_reducible repeat (first | apply Kd.R_alloc | apply Kd.R_drewN | apply Kd.R_drew)); exact Kd.R_mono (Kd.R_far (p := ⟨gb286, 2, none⟩) (Kd.R_far (p := ⟨gb286, 1, none⟩) (Kd.R_far (p := ⟨gb286, 0, none⟩) (Kd.R_mono HO285.out (fun k_ hk => (⟨hk, hk⟩ : _ ∧ k_ ≠ gb286))) (fun _ hk => hk.2) (.int .i64 a0_0)) (fun _ hk => hk.2) (.int .i64 a0_1)) (fun _ hk => hk.2) (.int .i64 a0_2)) (fun _ hk => hk.1)⟩, ⟨by (with_reducible repeat (first | refine blk_drewN ?_ _ | refine blk_drew ?_ | refine blk_alloc ?_ _)); refine blk_far ?_ NB282_286.out _; (with_reducible repeat (first | refine blk_drewN ?_ _ | refine blk_drew ?_ | refine blk_alloc ?_ _)); refine blk_far ?_ NB282_286.out _; (with_reducible repeat (first | refine blk_drewN ?_ _ | refine blk_drew ?_ | refine blk_alloc ?_ _)); refine blk_far ?_ NB282_286.out _; (with_reducible repeat (first | refine blk_drewN ?_ _ | refine blk_drew ?_ | refine blk_alloc ?_ _)); exact BK282.out⟩, ⟨by (with_reducible repeat (first | refine blk_drewN ?_ _ | refine blk_drew ?_ | refine blk_alloc ?_ _)); refine blk_put (cs := #[.int .i64 a0_0, .int .i64 a0_1, .int .i64 0]) ?_ 2 _ rfl; (with_reducible repeat (first | refine blk_drewN ?_ _ | refine blk_drew ?_ | refine blk_alloc ?_ _)); refine blk_put (cs := #[.int .i64 a0_0, .int .i64 0, .int .i64 0]) ?_ 1 _ rfl; (with_reducible repeat (first | refine blk_drewN ?_ _ | refine blk_drew ?_ | refine blk_alloc ?_ _)); refine blk_put (cs := #[.int .i64 0, .int .i64 0, .int .i64 0]) ?_ 0 _ rfl; (with_reducible repeat (first | refine blk_drewN ?_ _ | refine blk_drew ?_ | refine blk_alloc ?_ _)); exact BK286.out⟩, ⟨bel_now⟩⟩
  case round =>
   clear H'
   try clear c1
   try clear p2
   try clear c3
   try clear c4
   try clear c11
   try clear hcz12
   obtain ⟨x4_1, x18_1, x287000_1, x287001_1, x287002_1, rfl, HA, HK1, HO_4, BK282, BK286, HB⟩ := hrel
   cases gk with
   | zero => exact absurd HA.out (by simp [impl_Model_shapes.l0])
   | succ k1 =>
    have H := HA.out
    clear HA
    simp only [impl_Model_shapes.l0] at H
    by_cases c13 : x18_1 < (l0_3.length : Int)
    rotate_left
    ·rw [if_neg c13] at H
     have c13b0 : decide (x18_1 < (l0_3.length : Int)) = false := decide_eq_false c13
     clear c13
     simp only [Option.some.injEq, Prod.mk.injEq] at H
     obtain ⟨rfl, rfl⟩ := H
     go_wp2
     go_ret2
     exact ⟨_, eqN, by (with_reducible repeat (first | apply Kd.R_alloc | apply Kd.R_drewN | apply Kd.R_drew)); exact Kd.R_mono HO_4.out (fun _ hk => trivial), bel_now⟩
    rw [if_pos c13] at H
    have c13b0 : decide (x18_1 < (l0_3.length : Int)) = true := decide_eq_true c13
    clear c13
    by_cases c14 : 0 ≤ x18_1
    rotate_left
    ·rw [if_neg c14] at H
     exact absurd H (by simp)
    rw [if_pos c14] at H
    have c14b0 : decide (0 ≤ x18_1) = true := decide_eq_true c14
    clear c14
    by_cases c15 : x18_1 < (l0_3.length : Int)
    rotate_left
    ·rw [if_neg c15] at H
     exact absurd H (by simp)
    rw [if_pos c15] at H
    have c15b0 : decide (x18_1 < (l0_3.length : Int)) = true := decide_eq_true c15
    clear c15
    replace H := Option.bind_eq_some_iff.mp H
    obtain ⟨⟨t289, t290, t291, t292⟩, A160, H⟩ := H
    (try dsimp only at H)
    have A16 := Aside0.mk A160
    clear A160
    by_cases c17 : t292 = true
    rotate_left
    ·replace c17 := Bool.eq_false_iff.mpr c17
     subst c17
     rw [if_neg (show ¬ (false = true) by decide)] at H
     simp only [Option.some.injEq, Prod.mk.injEq] at H
     obtain ⟨rfl, rfl⟩ := H
     have p287 : 0 ≤ (x18_1 : Int) := of_decide_eq_true (by first | (with_reducible assumption) | assumption)
     have q287 : x18_1 < (l0_3.length : Int) := of_decide_eq_true (by first | (with_reducible assumption) | assumption)
     obtain ⟨ad287, A287_7, c287_7, A287_8, c287_8, e287, hx287_0, hx287_1, hx287_2, hx287_3, hx287_4, hx287_5, hx287_6, hx287_7, hx287_8, hl287_7, hi287_7, hl287_8, hi287_8⟩ := at_T49 HR0_3.out x18_1 p287 q287
     cases e287
     replace hx287_0 := (HB.out.cell (World.block_lt_of_cell? w _ hx287_0)).trans hx287_0
     replace hx287_1 := (HB.out.cell (World.block_lt_of_cell? w _ hx287_1)).trans hx287_1
     replace hx287_2 := (HB.out.cell (World.block_lt_of_cell? w _ hx287_2)).trans hx287_2
     replace hx287_3 := (HB.out.cell (World.block_lt_of_cell? w _ hx287_3)).trans hx287_3
     replace hx287_4 := (HB.out.cell (World.block_lt_of_cell? w _ hx287_4)).trans hx287_4
     replace hx287_5 := (HB.out.cell (World.block_lt_of_cell? w _ hx287_5)).trans hx287_5
     replace hx287_6 := (HB.out.cell (World.block_lt_of_cell? w _ hx287_6)).trans hx287_6
     replace hx287_7 := (HB.out.cell (World.block_lt_of_cell? w _ hx287_7)).trans hx287_7
     replace hx287_8 := (HB.out.cell (World.block_lt_of_cell? w _ hx287_8)).trans hx287_8
     have HR287_7 := Aside0.mk hi287_7
     have HC287_7 := Aside0.mk hl287_7
     clear hi287_7 hl287_7
     have HR287_8 := Aside0.mk hi287_8
     have HC287_8 := Aside0.mk hl287_8
     clear hi287_8 hl287_8
     replace p287 := eq_true p287
     replace q287 := eq_true q287
     go_wp2_with (first | ((with_reducible refine gate_dst (N := 7) rfl ?_); refine boxM 7 #[.int .i64 0, .int .i64 0, .int .i64 0, .int .i64 0, .int .i64 0, .int .i64 0, .int .i64 0, .slice none 0 0, .slice none 0 0] 49 ?_; intro gb288 hg w33 BK288 hb; replace HB := box_at w hb hg; obtain ⟨HB, GW288, GE288⟩ := HB; replace BK282 := box_on gb282 hb hg; obtain ⟨BK282, NB282_288, NB288_282⟩ := BK282; replace BK286 := box_on gb286 hb hg; obtain ⟨BK286, NB286_288, NB288_286⟩ := BK286; replace HO_4 := Aside0.mk (Kd.R_below (R_at HO_4.out) hb); clear hb hg; have hn34 := ne2 NB288_282; have hn35 := ne2 NB288_286; have hcz36 := cells9 BK288.out; have hn37 := ne2 NB286_282; have hcz38 := cells3 BK286.out) | ((with_reducible refine gate_callee (f := 61) rfl ?_); refine goesM (some 25) rfl rfl Tryd.func61 (by kernel_rfl) rfl #[.agg #[.int .i64 x287000_1, .int .i64 x287001_1, .int .i64 x287002_1], .agg #[.int .i64 ((rd_T49 l0_3 x18_1).f0), .int .i64 ((rd_T49 l0_3 x18_1).f1), .int .i64 ((rd_T49 l0_3 x18_1).f2), .int .i64 ((rd_T49 l0_3 x18_1).f3), .int .i64 ((rd_T49 l0_3 x18_1).f4), .int .i64 ((rd_T49 l0_3 x18_1).f5), .int .i64 ((rd_T49 l0_3 x18_1).f6), .slice A287_7 ((rd_T49 l0_3 x18_1).f7).length c287_7, .slice A287_8 ((rd_T49 l0_3 x18_1).f8).length c287_8]] rfl ?_; (with_reducible refine (impl_OutShape.calls k1 x287000_1 x287001_1 x287002_1 ((rd_T49 l0_3 x18_1).f0) ((rd_T49 l0_3 x18_1).f1) ((rd_T49 l0_3 x18_1).f2) ((rd_T49 l0_3 x18_1).f3) ((rd_T49 l0_3 x18_1).f4) ((rd_T49 l0_3 x18_1).f5) ((rd_T49 l0_3 x18_1).f6) _ _ ((rd_T49 l0_3 x18_1).f7) _ _ ((rd_T49 l0_3 x18_1).f8) t289 t290 t291 false _ ?side1 ?side2 ?side3 ?side4 A16.out).mono ?_); (case side1 => exact C_now HR287_7.out); (case side2 => exact HC287_7.out); (case side3 => exact C_now HR287_8.out); (case side4 => exact HC287_8.out); rintro e w39 ⟨rfl, hb⟩; refine ⟨_, rfl, ?_⟩; have n0_ := Aside0.mk (Kd.R_below (R_at (R_far9 HO_4.out BK288.out (by decide))) hb); replace HB := bel_on w hb; replace BK282 := Aside0.mk (blk_below (g := gb282) (o := .cells #[.int .i64 a0_0, .int .i64 a0_1, .int .i64 a0_2, .slice (some ad287) l0_3.length c0_3] 32 (0, 0)) (blk_fars BK282.out) hb); replace BK286 := Aside0.mk (blk_below (g := gb286) (o := .cells #[.int .i64 x287000_1, .int .i64 x287001_1, .int .i64 x287002_1] 29 (0, 0)) (blk_fars BK286.out) hb); replace BK288 := Aside0.mk (blk_below (g := gb288) (o := .cells #[.int .i64 ((rd_T49 l0_3 x18_1).f0), .int .i64 ((rd_T49 l0_3 x18_1).f1), .int .i64 ((rd_T49 l0_3 x18_1).f2), .int .i64 ((rd_T49 l0_3 x18_1).f3), .int .i64 ((rd_T49 l0_3 x18_1).f4), .int .i64 ((rd_T49 l0_3 x18_1).f5), .int .i64 ((rd_T49 l0_3 x18_1).f6), .slice A287_7 ((rd_T49 l0_3 x18_1).f7).length c287_7, .slice A287_8 ((rd_T49 l0_3 x18_1).f8).length c287_8] 49 (0, 0)) (by (with_reducible repeat (first | refine blk_drewN ?_ _ | refine blk_drew ?_ | refine blk_alloc ?_ _)); first | exact putl9 BK288.out | exact blk_fars (putl9 BK288.out)) hb); clear HO_4; have HO_4 := n0_; clear n0_; (try clear hb)) | ((with_reducible refine gate_dst (N := 8) rfl ?_); refine boxM 8 #[.int .i64 0, .int .i64 0, .int .i64 0] 29 ?_; intro gb293 hg w40 BK293 hb; replace HB := box_at w hb hg; obtain ⟨HB, GW293, GE293⟩ := HB; replace BK282 := box_on gb282 hb hg; obtain ⟨BK282, NB282_293, NB293_282⟩ := BK282; replace BK286 := box_on gb286 hb hg; obtain ⟨BK286, NB286_293, NB293_286⟩ := BK286; replace BK288 := box_on gb288 hb hg; obtain ⟨BK288, NB288_293, NB293_288⟩ := BK288; replace HO_4 := Aside0.mk (Kd.R_below (Kd.R_elderB (R_at HO_4.out) gb293 (Nat.le_of_eq hg.symm)) hb); clear hb hg; have hn41 := ne2 NB293_282; have hn42 := ne2 NB293_286; have hn43 := ne2 NB293_288; have hcz44 := cells3 BK293.out))
     go_ret2
     exact ⟨_, eqN, by first | exact Kd.R_nil _ _ _ _ _ | exact Kd.N_nil _ _ _ _ _ | exact Kd.V_nil _ _ _ _ _ | exact Kd.Q_nil _ _ _ _ _ | exact Kd.S_nil _ _ _ _ _, bel_now⟩
    subst c17
    rw [if_pos rfl] at H
    by_cases c18 : x4_1.length < 5864062014805
    rotate_left
    ·rw [if_neg c18] at H
     exact absurd H (by simp)
    rw [if_pos c18] at H
    have LMc18 := Aside0.mk c18
    clear c18
    obtain ⟨y294, hy294⟩ : ∃ y_ : List (S29), y_ = (x4_1 ++ [(⟨t289, t290, t291⟩ : S29)]) := ⟨_, rfl⟩
    replace H : (impl_Model_shapes.l0 k1 y294 l0_3 (l0_3.length : Int) (wrap64 (x18_1 + 1)) t289 t290 t291) = some (r1, r2) := by first | (rw [hy294]; with_reducible exact H) | (have H2_ := (Option.bind_some _ _).symm.trans H; rw [hy294]; with_reducible exact H2_) | (have H2_ := (Option.bind_some _ _).symm.trans H; with_reducible exact H2_) | with_reducible exact H | (rw [hy294]; exact H) | exact H
    have Ny294 := Aside0.mk hy294
    clear hy294
    have H' := Aside0.mk H
    clear H
    have p287 : 0 ≤ (x18_1 : Int) := of_decide_eq_true (by first | (with_reducible assumption) | assumption)
    have q287 : x18_1 < (l0_3.length : Int) := of_decide_eq_true (by first | (with_reducible assumption) | assumption)
    obtain ⟨ad287, A287_7, c287_7, A287_8, c287_8, e287, hx287_0, hx287_1, hx287_2, hx287_3, hx287_4, hx287_5, hx287_6, hx287_7, hx287_8, hl287_7, hi287_7, hl287_8, hi287_8⟩ := at_T49 HR0_3.out x18_1 p287 q287
    cases e287
    replace hx287_0 := (HB.out.cell (World.block_lt_of_cell? w _ hx287_0)).trans hx287_0
    replace hx287_1 := (HB.out.cell (World.block_lt_of_cell? w _ hx287_1)).trans hx287_1
    replace hx287_2 := (HB.out.cell (World.block_lt_of_cell? w _ hx287_2)).trans hx287_2
    replace hx287_3 := (HB.out.cell (World.block_lt_of_cell? w _ hx287_3)).trans hx287_3
    replace hx287_4 := (HB.out.cell (World.block_lt_of_cell? w _ hx287_4)).trans hx287_4
    replace hx287_5 := (HB.out.cell (World.block_lt_of_cell? w _ hx287_5)).trans hx287_5
    replace hx287_6 := (HB.out.cell (World.block_lt_of_cell? w _ hx287_6)).trans hx287_6
    replace hx287_7 := (HB.out.cell (World.block_lt_of_cell? w _ hx287_7)).trans hx287_7
    replace hx287_8 := (HB.out.cell (World.block_lt_of_cell? w _ hx287_8)).trans hx287_8
    have HR287_7 := Aside0.mk hi287_7
    have HC287_7 := Aside0.mk hl287_7
    clear hi287_7 hl287_7
    have HR287_8 := Aside0.mk hi287_8
    have HC287_8 := Aside0.mk hl287_8
    clear hi287_8 hl287_8
    replace p287 := eq_true p287
    replace q287 := eq_true q287
    go_wp2_with (first | ((with_reducible refine gate_dst (N := 7) rfl ?_); refine boxM 7 #[.int .i64 0, .int .i64 0, .int .i64 0, .int .i64 0, .int .i64 0, .int .i64 0, .int .i64 0, .slice none 0 0, .slice none 0 0] 49 ?_; intro gb288 hg w19 BK288 hb; replace HB := box_at w hb hg; obtain ⟨HB, GW288, GE288⟩ := HB; replace BK282 := box_on gb282 hb hg; obtain ⟨BK282, NB282_288, NB288_282⟩ := BK282; replace BK286 := box_on gb286 hb hg; obtain ⟨BK286, NB286_288, NB288_286⟩ := BK286; replace HO_4 := Aside0.mk (Kd.R_below (R_at HO_4.out) hb); clear hb hg; have hn20 := ne2 NB288_282; have hn21 := ne2 NB288_286; have hcz22 := cells9 BK288.out; have hn23 := ne2 NB286_282; have hcz24 := cells3 BK286.out) | ((with_reducible refine gate_callee (f := 61) rfl ?_); refine goesM (some 25) rfl rfl Tryd.func61 (by kernel_rfl) rfl #[.agg #[.int .i64 x287000_1, .int .i64 x287001_1, .int .i64 x287002_1], .agg #[.int .i64 ((rd_T49 l0_3 x18_1).f0), .int .i64 ((rd_T49 l0_3 x18_1).f1), .int .i64 ((rd_T49 l0_3 x18_1).f2), .int .i64 ((rd_T49 l0_3 x18_1).f3), .int .i64 ((rd_T49 l0_3 x18_1).f4), .int .i64 ((rd_T49 l0_3 x18_1).f5), .int .i64 ((rd_T49 l0_3 x18_1).f6), .slice A287_7 ((rd_T49 l0_3 x18_1).f7).length c287_7, .slice A287_8 ((rd_T49 l0_3 x18_1).f8).length c287_8]] rfl ?_; (with_reducible refine (impl_OutShape.calls k1 x287000_1 x287001_1 x287002_1 ((rd_T49 l0_3 x18_1).f0) ((rd_T49 l0_3 x18_1).f1) ((rd_T49 l0_3 x18_1).f2) ((rd_T49 l0_3 x18_1).f3) ((rd_T49 l0_3 x18_1).f4) ((rd_T49 l0_3 x18_1).f5) ((rd_T49 l0_3 x18_1).f6) _ _ ((rd_T49 l0_3 x18_1).f7) _ _ ((rd_T49 l0_3 x18_1).f8) t289 t290 t291 true _ ?side1 ?side2 ?side3 ?side4 A16.out).mono ?_); (case side1 => exact C_now HR287_7.out); (case side2 => exact HC287_7.out); (case side3 => exact C_now HR287_8.out); (case side4 => exact HC287_8.out); rintro e w25 ⟨rfl, hb⟩; refine ⟨_, rfl, ?_⟩; have n0_ := Aside0.mk (Kd.R_below (R_at (R_far9 HO_4.out BK288.out (by decide))) hb); replace HB := bel_on w hb; replace BK282 := Aside0.mk (blk_below (g := gb282) (o := .cells #[.int .i64 a0_0, .int .i64 a0_1, .int .i64 a0_2, .slice (some ad287) l0_3.length c0_3] 32 (0, 0)) (blk_fars BK282.out) hb); replace BK286 := Aside0.mk (blk_below (g := gb286) (o := .cells #[.int .i64 x287000_1, .int .i64 x287001_1, .int .i64 x287002_1] 29 (0, 0)) (blk_fars BK286.out) hb); replace BK288 := Aside0.mk (blk_below (g := gb288) (o := .cells #[.int .i64 ((rd_T49 l0_3 x18_1).f0), .int .i64 ((rd_T49 l0_3 x18_1).f1), .int .i64 ((rd_T49 l0_3 x18_1).f2), .int .i64 ((rd_T49 l0_3 x18_1).f3), .int .i64 ((rd_T49 l0_3 x18_1).f4), .int .i64 ((rd_T49 l0_3 x18_1).f5), .int .i64 ((rd_T49 l0_3 x18_1).f6), .slice A287_7 ((rd_T49 l0_3 x18_1).f7).length c287_7, .slice A287_8 ((rd_T49 l0_3 x18_1).f8).length c287_8] 49 (0, 0)) (by (with_reducible repeat (first | refine blk_drewN ?_ _ | refine blk_drew ?_ | refine blk_alloc ?_ _)); first | exact putl9 BK288.out | exact blk_fars (putl9 BK288.out)) hb); clear HO_4; have HO_4 := n0_; clear n0_; (try clear hb)) | ((with_reducible refine gate_dst (N := 8) rfl ?_); refine boxM 8 #[.int .i64 0, .int .i64 0, .int .i64 0] 29 ?_; intro gb293 hg w26 BK293 hb; replace HB := box_at w hb hg; obtain ⟨HB, GW293, GE293⟩ := HB; replace BK282 := box_on gb282 hb hg; obtain ⟨BK282, NB282_293, NB293_282⟩ := BK282; replace BK286 := box_on gb286 hb hg; obtain ⟨BK286, NB286_293, NB293_286⟩ := BK286; replace BK288 := box_on gb288 hb hg; obtain ⟨BK288, NB288_293, NB293_288⟩ := BK288; replace HO_4 := Aside0.mk (Kd.R_below (Kd.R_elderB (R_at HO_4.out) gb293 (Nat.le_of_eq hg.symm)) hb); clear hb hg; have hn27 := ne2 NB293_282; have hn28 := ne2 NB293_286; have hn29 := ne2 NB293_288; have hcz30 := cells3 BK293.out; have hcz31 := cells3 BK286.out) | ((with_reducible refine gate_builtin (b := .append) (xs := #[.tmp 31, .tmp 33]) rfl ?_); at_builtin; refine Kd.R_append k29 (w0 := w) w.heap.size rfl (.tmp 31) (.tmp 33) 75 29 (.agg #[(.int .i64 0), (.int .i64 0), (.int .i64 0)]) 24 rfl Tryd.underlying75 info29 rfl (by decide) (by omega) u4 x4_1 (⟨t289, t290, t291⟩ : S29) [.int .i64 t289, .int .i64 t290, .int .i64 t291] (fun k_ => k_ ≠ gb286 ∧ k_ ≠ gb293) (fun _ => False) rfl (by first | (go_simp; done) | (go_simp; rfl)) ?aP (fun _ hk => hk.elim) ?aF ?aO ?aB ?aS ?aL ?_; (case aP => exact k29_mkM _ _ _ (⟨t289, t290, t291⟩ : S29)); (case aB => exact bel_now); (case aF => exact (fun k_ hk => ⟨Kd.freshB (g := gb286) (o := .cells #[.int .i64 t289, .int .i64 t290, .int .i64 t291] 29 (0, 0)) (by (with_reducible repeat (first | refine blk_drewN ?_ _ | refine blk_drew ?_ | refine blk_alloc ?_ _)); refine blk_put (cs := #[.int .i64 t289, .int .i64 t290, .int .i64 x287002_1]) ?_ 2 _ rfl; (with_reducible repeat (first | refine blk_drewN ?_ _ | refine blk_drew ?_ | refine blk_alloc ?_ _)); refine blk_put (cs := #[.int .i64 t289, .int .i64 x287001_1, .int .i64 x287002_1]) ?_ 1 _ rfl; (with_reducible repeat (first | refine blk_drewN ?_ _ | refine blk_drew ?_ | refine blk_alloc ?_ _)); refine blk_put (cs := #[.int .i64 x287000_1, .int .i64 x287001_1, .int .i64 x287002_1]) ?_ 0 _ rfl; (with_reducible repeat (first | refine blk_drewN ?_ _ | refine blk_drew ?_ | refine blk_alloc ?_ _)); refine blk_far ?_ NB286_293.out _; (with_reducible repeat (first | refine blk_drewN ?_ _ | refine blk_drew ?_ | refine blk_alloc ?_ _)); refine blk_far ?_ NB286_293.out _; (with_reducible repeat (first | refine blk_drewN ?_ _ | refine blk_drew ?_ | refine blk_alloc ?_ _)); refine blk_far ?_ NB286_293.out _; (with_reducible repeat (first | refine blk_drewN ?_ _ | refine blk_drew ?_ | refine blk_alloc ?_ _)); exact BK286.out) k_ hk, Kd.freshB (g := gb293) (o := .cells #[.int .i64 t289, .int .i64 t290, .int .i64 t291] 29 (0, 0)) (by (with_reducible repeat (first | refine blk_drewN ?_ _ | refine blk_drew ?_ | refine blk_alloc ?_ _)); refine blk_far ?_ NB293_286.out _; (with_reducible repeat (first | refine blk_drewN ?_ _ | refine blk_drew ?_ | refine blk_alloc ?_ _)); refine blk_far ?_ NB293_286.out _; (with_reducible repeat (first | refine blk_drewN ?_ _ | refine blk_drew ?_ | refine blk_alloc ?_ _)); refine blk_far ?_ NB293_286.out _; (with_reducible repeat (first | refine blk_drewN ?_ _ | refine blk_drew ?_ | refine blk_alloc ?_ _)); refine blk_put (cs := #[.int .i64 t289, .int .i64 t290, .int .i64 0]) ?_ 2 _ rfl; (with_reducible repeat (first | refine blk_drewN ?_ _ | refine blk_drew ?_ | refine blk_alloc ?_ _)); refine blk_put (cs := #[.int .i64 t289, .int .i64 0, .int .i64 0]) ?_ 1 _ rfl; (with_reducible repeat (first | refine blk_drewN ?_ _ | refine blk_drew ?_ | refine blk_alloc ?_ _)); refine blk_put (cs := #[.int .i64 0, .int .i64 0, .int .i64 0]) ?_ 0 _ rfl; (with_reducible repeat (first | refine blk_drewN ?_ _ | refine blk_drew ?_ | refine blk_alloc ?_ _)); exact BK293.out) k_ hk⟩)); (case aO => exact (R_at (Kd.R_mono (Kd.R_far (p := ⟨gb286, 2, none⟩) (Kd.R_far (p := ⟨gb286, 1, none⟩) (Kd.R_far (p := ⟨gb286, 0, none⟩) (Kd.R_far (p := ⟨gb293, 2, none⟩) (Kd.R_far (p := ⟨gb293, 1, none⟩) (Kd.R_far (p := ⟨gb293, 0, none⟩) (Kd.R_mono (Kd.R_mono HO_4.out (fun k_ hk => (⟨hk, hk.2⟩ : _ ∧ k_ ≠ gb293))) (fun k_ hk => (⟨hk, hk.1.1⟩ : _ ∧ k_ ≠ gb286))) (fun _ hk => hk.1.2) (.int .i64 t289)) (fun _ hk => hk.1.2) (.int .i64 t290)) (fun _ hk => hk.1.2) (.int .i64 t291)) (fun _ hk => hk.2) (.int .i64 t289)) (fun _ hk => hk.2) (.int .i64 t290)) (fun _ hk => hk.2) (.int .i64 t291)) (fun _ hk => ⟨hk.1.1.1, hk.1.1.2⟩)))); (case aS => exact (below_size bel_now)); (case aL => have := LMc18.out; omega); intro v295 w32 ho hb hg hat; rw [← Ny294.out] at ho; have n0_ := Aside0.mk (blk_grown (g := gb282) (o := .cells #[.int .i64 a0_0, .int .i64 a0_1, .int .i64 a0_2, .slice (some ad287) l0_3.length c0_3] 32 (0, 0)) (blk_fars BK282.out) hg (Kd.R_ne HO_4.out BK282.out (by decide))); have n1_ := Aside0.mk (blk_grown (g := gb286) (o := .cells #[.int .i64 t289, .int .i64 t290, .int .i64 t291] 29 (0, 0)) (by (with_reducible repeat (first | refine blk_drewN ?_ _ | refine blk_drew ?_ | refine blk_alloc ?_ _)); refine blk_put (cs := #[.int .i64 t289, .int .i64 t290, .int .i64 x287002_1]) ?_ 2 _ rfl; (with_reducible repeat (first | refine blk_drewN ?_ _ | refine blk_drew ?_ | refine blk_alloc ?_ _)); refine blk_put (cs := #[.int .i64 t289, .int .i64 x287001_1, .int .i64 x287002_1]) ?_ 1 _ rfl; (with_reducible repeat (first | refine blk_drewN ?_ _ | refine blk_drew ?_ | refine blk_alloc ?_ _)); refine blk_put (cs := #[.int .i64 x287000_1, .int .i64 x287001_1, .int .i64 x287002_1]) ?_ 0 _ rfl; (with_reducible repeat (first | refine blk_drewN ?_ _ | refine blk_drew ?_ | refine blk_alloc ?_ _)); refine blk_far ?_ NB286_293.out _; (with_reducible repeat (first | refine blk_drewN ?_ _ | refine blk_drew ?_ | refine blk_alloc ?_ _)); refine blk_far ?_ NB286_293.out _; (with_reducible repeat (first | refine blk_drewN ?_ _ | refine blk_drew ?_ | refine blk_alloc ?_ _)); refine blk_far ?_ NB286_293.out _; (with_reducible repeat (first | refine blk_drewN ?_ _ | refine blk_drew ?_ | refine blk_alloc ?_ _)); exact BK286.out) hg (Kd.R_away HO_4.out (fun _ hk => hk.1))); have n2_ := Aside0.mk (blk_grown (g := gb288) (o := .cells #[.int .i64 ((rd_T49 l0_3 x18_1).f0), .int .i64 ((rd_T49 l0_3 x18_1).f1), .int .i64 ((rd_T49 l0_3 x18_1).f2), .int .i64 ((rd_T49 l0_3 x18_1).f3), .int .i64 ((rd_T49 l0_3 x18_1).f4), .int .i64 ((rd_T49 l0_3 x18_1).f5), .int .i64 ((rd_T49 l0_3 x18_1).f6), .slice A287_7 ((rd_T49 l0_3 x18_1).f7).length c287_7, .slice A287_8 ((rd_T49 l0_3 x18_1).f8).length c287_8] 49 (0, 0)) (blk_fars BK288.out) hg (Kd.R_ne HO_4.out BK288.out (by decide))); have n3_ := Aside0.mk (blk_grown (g := gb293) (o := .cells #[.int .i64 t289, .int .i64 t290, .int .i64 t291] 29 (0, 0)) (by (with_reducible repeat (first | refine blk_drewN ?_ _ | refine blk_drew ?_ | refine blk_alloc ?_ _)); refine blk_far ?_ NB293_286.out _; (with_reducible repeat (first | refine blk_drewN ?_ _ | refine blk_drew ?_ | refine blk_alloc ?_ _)); refine blk_far ?_ NB293_286.out _; (with_reducible repeat (first | refine blk_drewN ?_ _ | refine blk_drew ?_ | refine blk_alloc ?_ _)); refine blk_far ?_ NB293_286.out _; (with_reducible repeat (first | refine blk_drewN ?_ _ | refine blk_drew ?_ | refine blk_alloc ?_ _)); refine blk_put (cs := #[.int .i64 t289, .int .i64 t290, .int .i64 0]) ?_ 2 _ rfl; (with_reducible repeat (first | refine blk_drewN ?_ _ | refine blk_drew ?_ | refine blk_alloc ?_ _)); refine blk_put (cs := #[.int .i64 t289, .int .i64 0, .int .i64 0]) ?_ 1 _ rfl; (with_reducible repeat (first | refine blk_drewN ?_ _ | refine blk_drew ?_ | refine blk_alloc ?_ _)); refine blk_put (cs := #[.int .i64 0, .int .i64 0, .int .i64 0]) ?_ 0 _ rfl; (with_reducible repeat (first | refine blk_drewN ?_ _ | refine blk_drew ?_ | refine blk_alloc ?_ _)); exact BK293.out) hg (Kd.R_away HO_4.out (fun _ hk => hk.2))); have n4_ := Aside0.mk (hb); have n5_ := Aside0.mk (ho); clear BK282; clear BK286; clear BK288; clear BK293; clear HB; clear HO_4; have BK282 := n0_; have BK286 := n1_; have BK288 := n2_; have BK293 := n3_; have HB := n4_; have HO296 := n5_; clear n0_ n1_ n2_ n3_ n4_ n5_; clear ho hb hg hat))
    go_roundg k1
    case measure => have := HK1.out; omega
    case rel => exact ⟨(y294), (wrap64 (x18_1 + 1)), (t289), (t290), (t291), (by first | rfl | (simp; done) | (simp [*]; done)), H', ⟨by have := HK1.out; omega⟩, ⟨by (with_reducible repeat (first | apply Kd.R_alloc | apply Kd.R_drewN | apply Kd.R_drew)); exact Kd.R_mono HO296.out (fun _ hk => hk.1)⟩, ⟨bks BK282⟩, ⟨bks BK286⟩, ⟨bel_now⟩⟩

/-! ### impl_ModelOk: function 21 -/
def impl_ModelOk.f (k : Nat) (a0_0 : Int) (a0_1 : Int) (a0_2 : Int) (l0_3 : List (S49)) : Option (Bool) := (impl_in.f (l0_3.length : Int) 1 6).bind fun t298 => (if t298 = true then ((impl_Model_shapes.f k a0_0 a0_1 a0_2 l0_3).bind fun bt299 => (some bt299.2)) else (some false))
set_option maxHeartbeats 8000000 in
set_option maxRecDepth 100000 in
theorem impl_ModelOk.calls (k : Nat) (a0_0 : Int) (a0_1 : Int) (a0_2 : Int) (A0_3 : Option Addr) (c0_3 : Nat) (l0_3 : List (S49)) (r : Bool) (w : World) (hr0_3 : Kd.C k49 w A0_3 l0_3.length l0_3) (hc0_3 : l0_3.length ≤ c0_3) (h : impl_ModelOk.f k a0_0 a0_1 a0_2 l0_3 = some r) :
   Calls Tryd.prog 21 #[.agg #[.int .i64 a0_0, .int .i64 a0_1, .int .i64 a0_2, .slice A0_3 l0_3.length c0_3]] w fun e w' => e = .returned (.bool r) ∧ Below w.heap.size w w' := by
  have hu32 := Tryd.underlying32
  have HR0_3 := Aside0.mk hr0_3
  have HC0_3 := Aside0.mk hc0_3
  clear hr0_3 hc0_3
  have HB := Aside0.mk (Below.refl w.heap.size w)
  have H : ((impl_in.f (l0_3.length : Int) 1 6).bind fun t298 => (if t298 = true then ((impl_Model_shapes.f k a0_0 a0_1 a0_2 l0_3).bind fun bt299 => (some bt299.2)) else (some false))) = some r := h
  clear h
  replace H := Option.bind_eq_some_iff.mp H
  obtain ⟨t298, A20, H⟩ := H
  (try dsimp only at H)
  have A2 := Aside0.mk A20
  clear A20
  by_cases c3 : t298 = true
  rotate_left
  ·replace c3 := Bool.eq_false_iff.mpr c3
   subst c3
   rw [if_neg (show ¬ (false = true) by decide)] at H
   obtain rfl := Option.some.inj H
   go_enter Tryd.func21, Tryd.ntmps21
   go_wp2_with (first | ((with_reducible refine gate_dst (N := 1) rfl ?_); refine boxM 1 #[.int .i64 a0_0, .int .i64 a0_1, .int .i64 a0_2, .slice A0_3 l0_3.length c0_3] 32 ?_; intro gb297 hg w8 BK297 hb; replace HB := box_at w hb hg; obtain ⟨HB, GW297, GE297⟩ := HB; clear hb hg; have hcz9 := cells4 BK297.out) | ((with_reducible refine gate_callee (f := 41) rfl ?_); refine goesM (some 8) rfl rfl Tryd.func41 (by kernel_rfl) rfl #[.int .i64 (l0_3.length : Int), .int .i64 1, .int .i64 6] rfl ?_; (with_reducible refine (impl_in.calls (l0_3.length : Int) 1 6 false _ A2.out).mono ?_); rintro e w' ⟨rfl, ⟨nd, rfl⟩⟩; refine ⟨_, rfl, ?_⟩))
   go_ret
   exact ⟨eqN, bel_now⟩
  subst c3
  rw [if_pos rfl] at H
  replace H := Option.bind_eq_some_iff.mp H
  obtain ⟨⟨t299, t302⟩, A40, H⟩ := H
  (try dsimp only at H)
  have A4 := Aside0.mk A40
  clear A40
  obtain rfl := Option.some.inj H
  go_enter Tryd.func21, Tryd.ntmps21
  go_wp2_with (first | ((with_reducible refine gate_dst (N := 1) rfl ?_); refine boxM 1 #[.int .i64 a0_0, .int .i64 a0_1, .int .i64 a0_2, .slice A0_3 l0_3.length c0_3] 32 ?_; intro gb297 hg w5 BK297 hb; replace HB := box_at w hb hg; obtain ⟨HB, GW297, GE297⟩ := HB; clear hb hg; have hcz6 := cells4 BK297.out) | ((with_reducible refine gate_callee (f := 41) rfl ?_); refine goesM (some 8) rfl rfl Tryd.func41 (by kernel_rfl) rfl #[.int .i64 (l0_3.length : Int), .int .i64 1, .int .i64 6] rfl ?_; (with_reducible refine (impl_in.calls (l0_3.length : Int) 1 6 true _ A2.out).mono ?_); rintro e w' ⟨rfl, ⟨nd, rfl⟩⟩; refine ⟨_, rfl, ?_⟩) | ((with_reducible refine gate_callee (f := 42) rfl ?_); refine goesM (some 12) rfl rfl Tryd.func42 (by kernel_rfl) rfl #[.agg #[.int .i64 a0_0, .int .i64 a0_1, .int .i64 a0_2, .slice A0_3 l0_3.length c0_3]] rfl ?_; (with_reducible refine (impl_Model_shapes.calls k a0_0 a0_1 a0_2 _ _ l0_3 t299 t302 _ ?side1 ?side2 A4.out).mono ?_); (case side1 => exact C_now HR0_3.out); (case side2 => exact HC0_3.out); rintro e w7 ⟨v300, rfl, ho0, hb⟩; refine ⟨_, rfl, ?_⟩; have n0_ := Aside0.mk (Kd.R_lower ho0 (below_size bel_now)); replace HB := bel_on w hb; replace BK297 := blk_on gb297 hb; have HO301 := n0_; clear n0_; (try clear hb); (try clear ho0)))
  go_ret
  exact ⟨eqN, bel_now⟩

/-! ### strconv_Itoa: function 43 (by hand) -/
abbrev TabT (w : World) : Prop := Lib.TabIs Tryd.prog w "internal/strconv.uint64pow10" .u64 Lib.pow10Tab
theorem tab_now {w W : World} (h : Aside0 (TabT w)) (hb : Below w.heap.size w W := by exact bel_now) : TabT W := Joins.tab_stays (g := 3) (by kernel_rfl) h.out hb (Nat.le_refl _)
def strconv_Itoa.f (a0 : Int) : Option (ByteArray) := if -9223372036854775808 ≤ a0 then (if a0 ≤ 9223372036854775807 then (some ⟨(Lib.itoa a0).toArray⟩) else (none)) else (none)
theorem strconv_Itoa.calls (a0 : Int) (r : ByteArray) (w : World) (htab : TabT w) (h : strconv_Itoa.f a0 = some r) :
   Calls Tryd.prog 43 #[.int .i64 a0] w fun e w' => e = .returned (.string r) ∧ Below w.heap.size w w' := by
  unfold strconv_Itoa.f at h
  by_cases h0 : -9223372036854775808 ≤ a0
  rotate_left
  ·rw [if_neg h0] at h
   cases h
  rw [if_pos h0] at h
  by_cases h1 : a0 ≤ 9223372036854775807
  rotate_left
  ·rw [if_neg h1] at h
   cases h
  rw [if_pos h1] at h
  obtain rfl := Option.some.inj h
  exact (Tryd.strconv_Itoa a0 h0 h1 w htab).mono fun e w' ⟨he, k, os, hw⟩ => ⟨he, by rw [hw]; exact Lib.below_grow _ _ (Nat.le_refl _) k os⟩

/-! ### impl_Shape_sides: function 22 -/
def impl_Shape_sides.f (a0_0 : Int) (a0_1 : Int) (a0_2 : Int) : Option (ByteArray) := (strconv_Itoa.f a0_0).bind fun t304 => (if t304.size + 1 ≤ 9223372036854775807 then ((strconv_Itoa.f a0_1).bind fun t305 => (if (t304 ++ (⟨#[120]⟩ : ByteArray)).size + t305.size ≤ 9223372036854775807 then (if ((t304 ++ (⟨#[120]⟩ : ByteArray)) ++ t305).size + 1 ≤ 9223372036854775807 then ((strconv_Itoa.f a0_2).bind fun t306 => (if (((t304 ++ (⟨#[120]⟩ : ByteArray)) ++ t305) ++ (⟨#[120]⟩ : ByteArray)).size + t306.size ≤ 9223372036854775807 then (some ((((t304 ++ (⟨#[120]⟩ : ByteArray)) ++ t305) ++ (⟨#[120]⟩ : ByteArray)) ++ t306)) else (none))) else (none)) else (none))) else (none))
def impl_Shape_sides.T1 : Bool × List (List Nat × List Nat) := (true, [([], []), ([0], [0]), ([1], [1]), ([2], [2]), ([], []), ([4], [4]), ([5, 2], [5]), ([3, 6], [3, 6]), ([7], [7]), ([], []), ([9], [9]), ([10, 6], [10]), ([8, 11], [8, 11]), ([12, 11, 0, 1, 2, 3, 4, 5, 6, 7, 8, 9, 10, 11, 12], [12])])
def impl_Shape_sides.B1 : List Nat := [0, 1, 3, 7, 0, 16, 55, 127, 255, 0, 512, 1655, 4095, 8191]
theorem impl_Shape_sides.tab1 : rtab .any (opsOf Tryd.f22 1) = impl_Shape_sides.T1 := by kernel_rfl
theorem impl_Shape_sides.bits1 : waitsOk impl_Shape_sides.T1.2 impl_Shape_sides.B1 = true := by kernel_rfl
set_option maxHeartbeats 8000000 in
set_option maxRecDepth 100000 in
theorem impl_Shape_sides.calls (a0_0 : Int) (a0_1 : Int) (a0_2 : Int) (r : ByteArray) (w : World) (htab : TabT w) (h : impl_Shape_sides.f a0_0 a0_1 a0_2 = some r) :
   Calls Tryd.prog 22 #[.agg #[.int .i64 a0_0, .int .i64 a0_1, .int .i64 a0_2]] w fun e w' => e = .returned (.string r) ∧ Below w.heap.size w w' := by
  have HTB := Aside0.mk htab
  clear htab
  have hu29 := Tryd.underlying29
  have HB := Aside0.mk (Below.refl w.heap.size w)
  have H : ((strconv_Itoa.f a0_0).bind fun t304 => (if t304.size + 1 ≤ 9223372036854775807 then ((strconv_Itoa.f a0_1).bind fun t305 => (if (t304 ++ (⟨#[120]⟩ : ByteArray)).size + t305.size ≤ 9223372036854775807 then (if ((t304 ++ (⟨#[120]⟩ : ByteArray)) ++ t305).size + 1 ≤ 9223372036854775807 then ((strconv_Itoa.f a0_2).bind fun t306 => (if (((t304 ++ (⟨#[120]⟩ : ByteArray)) ++ t305) ++ (⟨#[120]⟩ : ByteArray)).size + t306.size ≤ 9223372036854775807 then (some ((((t304 ++ (⟨#[120]⟩ : ByteArray)) ++ t305) ++ (⟨#[120]⟩ : ByteArray)) ++ t306)) else (none))) else (none)) else (none))) else (none))) = some r := h
  clear h
  replace H := Option.bind_eq_some_iff.mp H
  obtain ⟨t304, A20, H⟩ := H
  (try dsimp only at H)
  have A2 := Aside0.mk A20
  clear A20
  by_cases c3 : t304.size + 1 ≤ 9223372036854775807
  rotate_left
  ·rw [if_neg c3] at H
   exact absurd H (by simp)
  rw [if_pos c3] at H
  have c3b0 := eq_true c3
  have c3b1 : decide (t304.size + 1 ≤ 9223372036854775807) = true := decide_eq_true c3
  try have c3b2 : (9223372036854775807 < t304.size + 1) = False := eq_false (Nat.not_lt.2 c3)
  replace H := Option.bind_eq_some_iff.mp H
  obtain ⟨t305, A40, H⟩ := H
  (try dsimp only at H)
  have A4 := Aside0.mk A40
  clear A40
  by_cases c5 : (t304 ++ (⟨#[120]⟩ : ByteArray)).size + t305.size ≤ 9223372036854775807
  rotate_left
  ·rw [if_neg c5] at H
   exact absurd H (by simp)
  rw [if_pos c5] at H
  have c5b0 := eq_true c5
  have c5b1 : decide ((t304 ++ (⟨#[120]⟩ : ByteArray)).size + t305.size ≤ 9223372036854775807) = true := decide_eq_true c5
  try have c5b2 : (9223372036854775807 < (t304 ++ (⟨#[120]⟩ : ByteArray)).size + t305.size) = False := eq_false (Nat.not_lt.2 c5)
  try have c5b3 : (9223372036854775807 < t304.size + 1 + t305.size) = False := eq_false (by have h_ := c5; simp only [ByteArray.size_append, show (⟨#[120]⟩ : ByteArray).size = 1 from rfl] at h_; omega)
  by_cases c6 : ((t304 ++ (⟨#[120]⟩ : ByteArray)) ++ t305).size + 1 ≤ 9223372036854775807
  rotate_left
  ·rw [if_neg c6] at H
   exact absurd H (by simp)
  rw [if_pos c6] at H
  have c6b0 := eq_true c6
  have c6b1 : decide (((t304 ++ (⟨#[120]⟩ : ByteArray)) ++ t305).size + 1 ≤ 9223372036854775807) = true := decide_eq_true c6
  try have c6b2 : (9223372036854775807 < ((t304 ++ (⟨#[120]⟩ : ByteArray)) ++ t305).size + 1) = False := eq_false (Nat.not_lt.2 c6)
  try have c6b3 : (9223372036854775807 < t304.size + 1 + t305.size + 1) = False := eq_false (by have h_ := c6; simp only [ByteArray.size_append, show (⟨#[120]⟩ : ByteArray).size = 1 from rfl] at h_; omega)
  replace H := Option.bind_eq_some_iff.mp H
  obtain ⟨t306, A70, H⟩ := H
  (try dsimp only at H)
  have A7 := Aside0.mk A70
  clear A70
  by_cases c8 : (((t304 ++ (⟨#[120]⟩ : ByteArray)) ++ t305) ++ (⟨#[120]⟩ : ByteArray)).size + t306.size ≤ 9223372036854775807
  rotate_left
  ·rw [if_neg c8] at H
   exact absurd H (by simp)
  rw [if_pos c8] at H
  have c8b0 := eq_true c8
  have c8b1 : decide ((((t304 ++ (⟨#[120]⟩ : ByteArray)) ++ t305) ++ (⟨#[120]⟩ : ByteArray)).size + t306.size ≤ 9223372036854775807) = true := decide_eq_true c8
  try have c8b2 : (9223372036854775807 < (((t304 ++ (⟨#[120]⟩ : ByteArray)) ++ t305) ++ (⟨#[120]⟩ : ByteArray)).size + t306.size) = False := eq_false (Nat.not_lt.2 c8)
  try have c8b3 : (9223372036854775807 < t304.size + 1 + t305.size + 1 + t306.size) = False := eq_false (by have h_ := c8; simp only [ByteArray.size_append, show (⟨#[120]⟩ : ByteArray).size = 1 from rfl] at h_; omega)
  obtain rfl := Option.some.inj H
  go_enter Tryd.func22, Tryd.ntmps22
  try go_wp2_with (first | ((with_reducible refine gate_dst (N := 1) rfl ?_); refine boxM 1 #[.int .i64 a0_0, .int .i64 a0_1, .int .i64 a0_2] 29 ?_; intro gb303 hg w9 BK303 hb; replace HB := box_at w hb hg; obtain ⟨HB, GW303, GE303⟩ := HB; clear hb hg))
  replace BK303 := Aside0.mk (blk_drew BK303.out)
  replace HB := Aside0.mk (below_drew1 HB.out)
  refine start_ (n := 14) (S := fun w' => w'.cell? ⟨gb303, 0, none⟩ = some (.int .i64 a0_0) ∧ w'.cell? ⟨gb303, 1, none⟩ = some (.int .i64 a0_1) ∧ w'.cell? ⟨gb303, 2, none⟩ = some (.int .i64 a0_2)) (ds := []) #[O, O, O, O, O, O, O, O, O, O, O, O, O, O] (by kernel_rfl) rfl rfl ⟨bc BK303 0, bc BK303 1, bc BK303 2⟩ (fun hHeld => ?_); refine with_tabW impl_Shape_sides.tab1 impl_Shape_sides.bits1 (fun HT_ HW_ => ?_)
  generalize w9.drew = w10 at BK303 HB hHeld ⊢
  refine stepP 0 (some 3) (tk 14 1) (any_of HT_.out (by kernel_rfl)) ?_
  refine stepP 4 (some 7) (tk 14 17) (any_of HT_.out (by kernel_rfl)) ?_
  refine stepP 9 (some 12) (tk 14 529) (any_of HT_.out (by kernel_rfl)) ?_
  refine stepT 1 (some 4) (tk 14 531) (take_ofW HT_.out HW_.out (by kernel_rfl)) hHeld ?_
  refine stepT 5 (some 8) (tk 14 563) (take_ofW HT_.out HW_.out (by kernel_rfl)) hHeld ?_
  refine stepT 10 (some 13) (tk 14 1587) (take_ofW HT_.out HW_.out (by kernel_rfl)) hHeld ?_
  refine one_ (i := 2) (N := some 5) #[I, I, I, O, I, I, O, O, O, I, I, O, O, O] rfl rfl (one_of HT_.out (by kernel_rfl)) (by decide) (fun K hK => ?_)
  refine goes_ Tryd.func43 (by kernel_rfl) rfl #[.int .i64 a0_0] (by rfl) rfl rfl (by (try simp only [List.map_toArray, List.map_cons, List.map_nil]); first | done | rfl | (simp only [List.length_drop, List.length_take]; rfl)) ?_
  with_reducible refine (strconv_Itoa.calls (htab := tab_now HTB) a0_0 t304 _ A2.out).mono ?_
  rintro e w11 ⟨rfl, hb⟩
  refine ⟨_, rfl, ?_⟩
  replace BK303 := blk_on gb303 hb
  replace HB := bel_on w hb
  (try clear hb)
  refine hK.out _ _ ⟨bc BK303 0, bc BK303 1, bc BK303 2⟩ (fun hHeld => ?_)
  clear hK K
  refine normP 5 ?_
  refine stepP 3 (some 6) (tk 14 1599) (any_of HT_.out (by kernel_rfl)) ?_
  refine one_ (i := 6) (N := some 9) #[I, I, I, I, I, I, I, O, O, I, I, O, O, O] rfl rfl (one_of HT_.out (by kernel_rfl)) (by decide) (fun K hK => ?_)
  refine goes_ Tryd.func43 (by kernel_rfl) rfl #[.int .i64 a0_1] (by rfl) rfl rfl (by (try simp only [List.map_toArray, List.map_cons, List.map_nil]); first | done | rfl | (simp only [List.length_drop, List.length_take]; rfl)) ?_
  with_reducible refine (strconv_Itoa.calls (htab := tab_now HTB) a0_1 t305 _ A4.out).mono ?_
  rintro e w12 ⟨rfl, hb⟩
  refine ⟨_, rfl, ?_⟩
  replace BK303 := blk_on gb303 hb
  replace HB := bel_on w hb
  (try clear hb)
  refine hK.out _ _ ⟨bc BK303 0, bc BK303 1, bc BK303 2⟩ (fun hHeld => ?_)
  clear hK K
  refine normP 9 ?_
  refine stepP 7 (some 10) (tk 14 1791) (any_of HT_.out (by kernel_rfl)) ?_
  refine stepP 8 (some 11) (tk 14 2047) (any_of HT_.out (by kernel_rfl)) ?_
  refine one_ (i := 11) (N := some 14) #[I, I, I, I, I, I, I, I, I, I, I, I, O, O] rfl rfl (one_of HT_.out (by kernel_rfl)) (by decide) (fun K hK => ?_)
  refine goes_ Tryd.func43 (by kernel_rfl) rfl #[.int .i64 a0_2] (by rfl) rfl rfl (by (try simp only [List.map_toArray, List.map_cons, List.map_nil]); first | done | rfl | (simp only [List.length_drop, List.length_take]; rfl)) ?_
  with_reducible refine (strconv_Itoa.calls (htab := tab_now HTB) a0_2 t306 _ A7.out).mono ?_
  rintro e w13 ⟨rfl, hb⟩
  refine ⟨_, rfl, ?_⟩
  replace BK303 := blk_on gb303 hb
  replace HB := bel_on w hb
  (try clear hb)
  refine hK.out _ _ ⟨bc BK303 0, bc BK303 1, bc BK303 2⟩ (fun hHeld => ?_)
  clear hK K
  refine normP 14 ?_
  refine stepP 12 (some 15) (tk 14 8191) (any_of HT_.out (by kernel_rfl)) ?_
  refine stepP 13 (some 2) (tk 14 16383) (any_of HT_.out (by kernel_rfl)) ?_
  refine done_ (done_of HT_.out (by kernel_rfl)) ?_
  try go_wp2
  go_ret
  exact ⟨eqN, bel_now⟩

/-! ### impl_Layer_numbers: function 45 -/
def impl_Layer_numbers.f (a0_0 : Int) (a0_1 : Int) (a0_2 : Int) (a0_3 : Int) (a0_4 : Int) (a0_5 : Int) (a0_6 : Int) (l0_7 : List Int) (l0_8 : List Int) : Option (List Int) := some (([a0_0, a0_1, a0_2, a0_3, a0_4, a0_5, a0_6] : List Int))
set_option maxHeartbeats 8000000 in
set_option maxRecDepth 100000 in
theorem impl_Layer_numbers.calls (a0_0 : Int) (a0_1 : Int) (a0_2 : Int) (a0_3 : Int) (a0_4 : Int) (a0_5 : Int) (a0_6 : Int) (A0_7 : Option Addr) (c0_7 : Nat) (l0_7 : List Int) (A0_8 : Option Addr) (c0_8 : Nat) (l0_8 : List Int) (r : List Int) (w : World) (hr0_7 : Kd.C (Kd.int .i64) w A0_7 l0_7.length l0_7) (hc0_7 : l0_7.length ≤ c0_7) (hr0_8 : Kd.C (Kd.int .i64) w A0_8 l0_8.length l0_8) (hc0_8 : l0_8.length ≤ c0_8) (h : impl_Layer_numbers.f a0_0 a0_1 a0_2 a0_3 a0_4 a0_5 a0_6 l0_7 l0_8 = some r) :
   Calls Tryd.prog 45 #[.agg #[.int .i64 a0_0, .int .i64 a0_1, .int .i64 a0_2, .int .i64 a0_3, .int .i64 a0_4, .int .i64 a0_5, .int .i64 a0_6, .slice A0_7 l0_7.length c0_7, .slice A0_8 l0_8.length c0_8]] w fun e w' => ∃ v0_ : Value, e = .returned (v0_) ∧ Kd.R (Kd.int .i64) 3 w' w.heap.size (fun _ => True) v0_ r ∧ Below w.heap.size w w' := by
  have hu49 := Tryd.underlying49
  have HR0_7 := Aside0.mk hr0_7
  have HC0_7 := Aside0.mk hc0_7
  clear hr0_7 hc0_7
  have HR0_8 := Aside0.mk hr0_8
  have HC0_8 := Aside0.mk hc0_8
  clear hr0_8 hc0_8
  have HB := Aside0.mk (Below.refl w.heap.size w)
  have H : (some (([a0_0, a0_1, a0_2, a0_3, a0_4, a0_5, a0_6] : List Int))) = some r := h
  clear h
  obtain ⟨y308, hy308⟩ : ∃ y_ : List Int, y_ = (([a0_0, a0_1, a0_2, a0_3, a0_4, a0_5, a0_6] : List Int)) := ⟨_, rfl⟩
  replace H : (some y308) = some r := by first | (rw [hy308]; with_reducible exact H) | (have H2_ := (Option.bind_some _ _).symm.trans H; rw [hy308]; with_reducible exact H2_) | (have H2_ := (Option.bind_some _ _).symm.trans H; with_reducible exact H2_) | with_reducible exact H | (rw [hy308]; exact H) | exact H
  have Ny308 := Aside0.mk hy308
  clear hy308
  obtain rfl := Option.some.inj H
  go_enter Tryd.func45, Tryd.ntmps45
  go_wp2_with (first | ((with_reducible refine gate_dst (N := 1) rfl ?_); refine boxM 1 #[.int .i64 a0_0, .int .i64 a0_1, .int .i64 a0_2, .int .i64 a0_3, .int .i64 a0_4, .int .i64 a0_5, .int .i64 a0_6, .slice A0_7 l0_7.length c0_7, .slice A0_8 l0_8.length c0_8] 49 ?_; intro gb307 hg w2 BK307 hb; replace HB := box_at w hb hg; obtain ⟨HB, GW307, GE307⟩ := HB; clear hb hg; have hcz3 := cells9 BK307.out) | ((with_reducible refine gate_dst (N := 17) rfl ?_); refine Kd.R_lit (Kd.int .i64) _ 3 ?hg (N := 17) ?hd (xs := ([a0_0, a0_1, a0_2, a0_3, a0_4, a0_5, a0_6] : List Int)) (inner := [.int .i64 a0_0, .int .i64 a0_1, .int .i64 a0_2, .int .i64 a0_3, .int .i64 a0_4, .int .i64 a0_5, .int .i64 a0_6]) (ok := fun _ => True) (okp := fun _ => True) ?hr ?hp (fun _ hk => hk) trivial (Below.refl _ _) (Nat.le_refl _) (by simp) ?_; (case hd => rfl); (case hg => rfl); (case hr => first | (go_simp; done) | (go_simp; rfl)); (case hp => exact (Reps.one (show Kd.M (Kd.int .i64) _ _ _ a0_0 [.int .i64 a0_0] from rfl) (Reps.one (show Kd.M (Kd.int .i64) _ _ _ a0_1 [.int .i64 a0_1] from rfl) (Reps.one (show Kd.M (Kd.int .i64) _ _ _ a0_2 [.int .i64 a0_2] from rfl) (Reps.one (show Kd.M (Kd.int .i64) _ _ _ a0_3 [.int .i64 a0_3] from rfl) (Reps.one (show Kd.M (Kd.int .i64) _ _ _ a0_4 [.int .i64 a0_4] from rfl) (Reps.one (show Kd.M (Kd.int .i64) _ _ _ a0_5 [.int .i64 a0_5] from rfl) (Reps.one (show Kd.M (Kd.int .i64) _ _ _ a0_6 [.int .i64 a0_6] from rfl) (Reps.none _ _))))))))); intro v309 w4 ho5 hb hg_ hnew_; clear hg_ hnew_; (first | rw [← Ny308.out] at ho5 | (simp only [Int.reduceToNat] at ho5; rw [← Ny308.out] at ho5)); have n0_ := Aside0.mk (Kd.R_lower ho5 (below_size bel_now)); replace HB := bel_on w hb; replace BK307 := blk_on gb307 hb; have HO310 := n0_; clear n0_; clear hb ho5))
  go_ret
  exact ⟨_, eqN, by (with_reducible repeat (first | apply Kd.R_alloc | apply Kd.R_drewN | apply Kd.R_drew)); exact HO310.out, bel_now⟩

end Go.Proofs.YtclpojeofclbjaaDoor.PFnExactModelText
