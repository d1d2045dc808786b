-- Printed by the session's own program (wip/myprint.py) for this claim out of the translation. Not trusted: Lean checks it.
import Derived.Test.YtclpojeofclbjaaDoorPFnExactModelTextx0
import Derived.Test.YtclpojeofclbjaaDoorPFnExactModelTextx6
import Derived.Test.YtclpojeofclbjaaDoorPFnExactModelTextx10
namespace Go.Proofs.YtclpojeofclbjaaDoor.PFnExactModelText
open Go.RowKit Go.Proofs.YtclpojeofclbjaaDoorW.PrintWords Go.Proofs.YtclpojeofclbjaaDoorW.PrintLast Go.Proofs.YtclpojeofclbjaaDoorW.PrintMore
attribute [local go_sem] max2_int min2_int max_two min_two max_three min_three max_four min_four   -- for this text's walks alone
set_option linter.unusedVariables false
set_option linter.unusedSimpArgs false

/-! ### impl_spaced: function 44 (by hand) -/
/- a builder of the call's own, at this dump's numbers -/
abbrev IsB (B b : Nat) (l : List UInt8) (W : World) : Prop := Lib.IsBuilder 86 5 B b (Lib.byteCells l) W
theorem isB_below {B b : Nat} {l : List UInt8} {W W' : World} (h : IsB B b l W) (hb : Below W.heap.size W W') : IsB B b l W' := by
  have f : ∀ p, Lib.BuilderAt 86 5 B b p (Lib.byteCells l) W → Lib.BuilderAt 86 5 B b p (Lib.byteCells l) W' := fun p ⟨h1, v, h2, h3, h4⟩ =>
   ⟨h1, v, (hb.block b (blk_lt h2)).trans h2, h3.kept (grown_of_below hb none) (by cases v.ownBlock <;> simp), h4⟩
  exact h.imp (f _) (f _)
set_option maxRecDepth 100000 in
theorem bld_used (b : Nat) (w : World) (h0 : w.cell? ⟨b, 0, none⟩ = some (.pointer (some ⟨b, 0, none⟩))) :
   Calls Tryd.prog 63 #[.pointer (some ⟨b, 0, none⟩)] w fun e w' => e = .returned (.tuple #[]) ∧ w' = w := by
  obtain ⟨j, hj, _⟩ := Option.map_eq_some_iff.1 (show (Tryd.prog.info? 86).map (·.size) = some 2 by kernel_rfl)
  go_enter Tryd.func63, Tryd.ntmps63
  go_wp2
  rw [Lib.run_neq_ptr_same w _ Tryd.underlying84 hj]
  go_wp2
  go_end0
  exact ⟨rfl, rfl⟩
set_option maxRecDepth 100000 in
theorem bld_fresh (b : Nat) (w : World) (h0 : w.cell? ⟨b, 0, none⟩ = some (.pointer none)) (hsh : w.shape? b = some (86, 2)) (hfz : w.frozen? ⟨b, 0, none⟩ = false) :
   Calls Tryd.prog 63 #[.pointer (some ⟨b, 0, none⟩)] w fun e w' => e = .returned (.tuple #[]) ∧ w' = w.setCell ⟨b, 0, none⟩ (.pointer (some ⟨b, 0, none⟩)) := by
  obtain ⟨j, hj, hjs⟩ := Option.map_eq_some_iff.1 (show (Tryd.prog.info? 86).map (·.size) = some 2 by kernel_rfl)
  have hlies : liesAt Tryd.prog Tryd.prog.depth 86 (2 / Tryd.prog.cellsOf 86) 0 86 1 = true := by kernel_rfl
  go_enter Tryd.func63, Tryd.ntmps63
  go_wp2
  rw [Lib.run_to_unsafe w ⟨b, 0, none⟩ Tryd.underlying84 Tryd.underlying111 hj (by rw [hjs]; decide) hsh (Nat.zero_lt_succ 1)]
  simp only [Result.andThen]
  rw [Oper.upon_value]
  go_wp2
  rw [run_callFunc_extern Tryd.func84 (by kernel_rfl) (by kernel_rfl) (by kernel_rfl) (e := Extern.AbiNoEscape.same) (by kernel_rfl)]
  rw [Lib.run_noEscape]
  simp only [Result.andThen]
  rw [Oper.upon_value]
  go_wp2
  rw [Lib.run_from_unsafe w ⟨b, 0, none⟩ Tryd.underlying111 Tryd.underlying84 hj hsh hlies]
  simp only [Result.andThen]
  rw [Oper.upon_value]
  go_wp2
  go_end0
  exact ⟨rfl, rfl⟩
theorem bld_check (B b : Nat) (bs : List Value) (w : World) (h : Lib.IsBuilder 86 5 B b bs w) :
   Calls Tryd.prog 63 #[.pointer (some ⟨b, 0, none⟩)] w fun e w' => e = .returned (.tuple #[]) ∧ Lib.BuilderAt 86 5 B b (.pointer (some ⟨b, 0, none⟩)) bs w' ∧ Below B w w' := by
  rcases h with h | h
  rotate_left
  ·refine (bld_used b w h.cell0).mono ?_
   rintro e w' ⟨rfl, rfl⟩
   exact ⟨rfl, h, Below.refl B _⟩
  refine (bld_fresh b w h.cell0 h.shape h.frozen0).mono ?_
  rintro e w' ⟨rfl, rfl⟩
  exact ⟨rfl, h.used _, (Below.refl B w).setCell (p := ⟨b, 0, none⟩) h.1 _⟩
set_option maxHeartbeats 2000000 in
set_option maxRecDepth 100000 in
theorem bld_write (B b : Nat) (bs : List Value) (s : ByteArray) (w : World) (h : Lib.IsBuilder 86 5 B b bs w) (hlen : bs.length + s.size ≤ 140737488355328) (hBw : B ≤ w.heap.size) :
   Calls Tryd.prog 47 #[.pointer (some ⟨b, 0, none⟩), .string s] w fun e w' => e = .returned (.tuple #[.int .i64 s.size, .nilIface]) ∧ Lib.IsBuilder 86 5 B b (bs ++ Lib.strCells s) w' ∧ Below B w w' := by
  obtain ⟨i0, hi, hz0, hz1, hz2⟩ := info_parts (show (Tryd.prog.info? 5).map (fun i => (i.zero, i.size, i.bytes)) = some (some (.int .u8 0), 1, 1) by kernel_rfl)
  go_enter Tryd.func47, Tryd.ntmps47
  go_wp2_with (go_at_call 63; refine (bld_check B b bs _ h).mono ?_)
  rintro e w1 ⟨rfl, h1, hb1⟩
  obtain ⟨hB, v, hbk, hown, hne⟩ := h1
  have c0 : w1.cell? ⟨b, 0, none⟩ = some (.pointer (some ⟨b, 0, none⟩)) := by rw [Lib.cell_of_heap hbk]; rfl
  have c1 : w1.cell? ⟨b, 1, none⟩ = some v := by rw [Lib.cell_of_heap hbk]; rfl
  go_wp2_with (at_builtin; refine Lib.wpList_append_own_string _ rfl _ _ 78 9 rfl B 5 i0 Tryd.underlying78 Tryd.underlying9 hi hz0 hz1 hz2 _ _ _ rfl hown s rfl ?c3 ?c4 ?c5 ?_)
  case c3 => unfold maxLen; omega
  case c4 => omega
  case c5 => have := hb1.size; omega
  intro v' w2 hown' hgrow _
  have hlt : b < w1.heap.size := blk_lt hbk
  have hb2 : w2.heap[b]? = some (.cells #[.pointer (some ⟨b, 0, none⟩), v] 86 (0, 0)) := by
   rw [hgrow.block b hlt (fun e => hne e.symm)]
   exact hbk
  have d0 : w2.cell? ⟨b, 0, none⟩ = some (.pointer (some ⟨b, 0, none⟩)) := by rw [Lib.cell_of_heap hb2]; rfl
  have d1 : w2.cell? ⟨b, 1, none⟩ = some v := by rw [Lib.cell_of_heap hb2]; rfl
  have f1 : w2.frozen? ⟨b, 1, none⟩ = false := Lib.frozen_of_heap hb2 1
  obtain ⟨ao, n', cap, rfl⟩ : ∃ ao n' cap, v' = .slice ao n' cap := by
   rcases hown'.2 with ⟨hv, _⟩ | ⟨g, cap, cur, hv, _⟩
   ·exact ⟨_, _, _, hv⟩
   ·exact ⟨_, _, _, hv⟩
  go_wp2
  go_ret2
  refine ⟨rfl, .inr ?_, ?_⟩
  ·exact Lib.BuilderAt.put (T := 86) (e := 5) hB hb2 (bs' := bs ++ Lib.strCells s) (by simpa [Lib.strCells_length] using hown') (by decide)
  exact (hb1.grown hgrow (by have := hb1.size; omega) (fun k hk => (hown.lt k hk).1)).setCell (p := ⟨b, 1, none⟩) hB _
def spacedL : List Int → List UInt8
  | [] => []
  | x :: l => 32 :: (Lib.itoa x ++ spacedL l)
theorem spacedL_append : ∀ a b : List Int, spacedL (a ++ b) = spacedL a ++ spacedL b
  | [], _ => rfl
  | x :: a, b => by simp only [List.cons_append, spacedL, spacedL_append a b, List.append_assoc]
theorem spacedL_take {l : List Int} {i : Nat} (h : i < l.length) : spacedL (l.take (i + 1)) = spacedL (l.take i) ++ (32 :: Lib.itoa (rd l (i : Int))) := by
  have e : rd l (i : Int) = l[i] := by simp [rd, h]
  rw [List.take_add_one, List.getElem?_eq_getElem h, spacedL_append, e]
  simp [spacedL]
theorem digits_le : ∀ (n x : Nat), x < 10 ^ (n + 1) → Lib.nDigits x ≤ n + 1
  | 0, x, h => by rw [Lib.nDigits_small (by omega)]; omega
  | n + 1, x, h => by
   by_cases h1 : x < 10
   ·rw [Lib.nDigits_small h1]; omega
   ·rw [Lib.nDigits_big h1]
    have := digits_le n (x / 10) (by rw [Nat.pow_succ] at h; omega)
    omega
theorem itoa_len {x : Int} (h0 : -9223372036854775808 ≤ x) (h1 : x ≤ 9223372036854775807) : (Lib.itoa x).length ≤ 20 := by
  unfold Lib.itoa
  split
  ·have := digits_le 18 x.natAbs (by omega)
   rw [List.length_cons, Lib.decDigits_length]
   omega
  have := digits_le 18 x.toNat (by omega)
  rw [Lib.decDigits_length]
  omega
theorem spacedL_len : ∀ l : List Int, (∀ x ∈ l, -9223372036854775808 ≤ x ∧ x ≤ 9223372036854775807) → (spacedL l).length ≤ 21 * l.length
  | [], _ => by simp [spacedL]
  | x :: l, h => by
   have h1 := h x (by simp)
   have h2 := itoa_len h1.1 h1.2
   have h3 := spacedL_len l (fun y hy => h y (List.mem_cons_of_mem _ hy))
   simp only [spacedL, List.length_cons, List.length_append]
   omega
def impl_spaced.f (l0 : List Int) : Option (ByteArray) := if l0.length ≤ 6000000000000 ∧ (∀ x ∈ l0, -9223372036854775808 ≤ x ∧ x ≤ 9223372036854775807) then (some ⟨(spacedL l0).toArray⟩) else (none)
set_option maxHeartbeats 8000000 in
set_option maxRecDepth 100000 in
theorem impl_spaced.calls (A0 : Option Addr) (c0 : Nat) (l0 : List Int) (r : ByteArray) (w : World) (hr0 : Kd.C (Kd.int .i64) w A0 l0.length l0) (hc0 : l0.length ≤ c0) (htab : TabT w) (h : impl_spaced.f l0 = some r) :
   Calls Tryd.prog 44 #[.slice A0 l0.length c0] w fun e w' => e = .returned (.string r) ∧ Below w.heap.size w w' := by
  unfold impl_spaced.f at h
  split at h
  case isFalse => cases h
  rename_i hd
  obtain rfl := Option.some.inj h
  have HD := Aside0.mk hd
  have HTB := Aside0.mk htab
  have HR0 := Aside0.mk hr0
  have HB := Aside0.mk (Below.refl w.heap.size w)
  clear h hd htab hr0
  go_enter Tryd.func44, Tryd.ntmps44
  go_wp2_with (first | ((with_reducible refine gate_dst (N := 7) rfl ?_); refine box_event ?hg (N := 7) ?hd (cs := #[.pointer none, .slice none 0 0]) (t := 86) ?hr ?_; (case hd => rfl); (case hg => rfl); (case hr => first | (go_simp; done) | (go_simp; rfl)); intro gb hg w5 BK hb; replace HB := box_at w hb hg; obtain ⟨HB, GW, GE⟩ := HB; have HBD := Aside0.mk (show IsB w.heap.size gb (spacedL (l0.take 0)) w5 from .inl ⟨GW.out, _, BK, World.ownsRow_nil _ _ _ _, by simp [Value.ownBlock]⟩); clear hb hg))
  go_loopg [10] l0.length (fun kq v10 w' => ∃ i : Nat, v10 = .int .i64 (i : Int) ∧ Aside0 (i ≤ l0.length ∧ l0.length - i ≤ kq) ∧ Aside0 (IsB w.heap.size gb (spacedL (l0.take i)) w') ∧ Aside0 (Below w.heap.size w w'))
  case atStart => exact ⟨0, rfl, ⟨by omega⟩, HBD, HB⟩
  case round =>
   clear HBD HB BK
   obtain ⟨i, rfl, hi, HBD, HB⟩ := hrel
   by_cases c : i < l0.length
   rotate_left
   ·have hi' := hi.out
    obtain rfl : i = l0.length := by omega
    have cb : decide ((l0.length : Int) < (l0.length : Int)) = false := decide_eq_false (by omega)
    rw [List.take_length] at HBD
    go_wp2_with (first | ((with_reducible refine gate_callee (f := 48) rfl ?_); refine goesM (some 21) rfl rfl Tryd.func48 (by kernel_rfl) rfl #[.pointer (some ⟨gb, 0, none⟩)] rfl ?_; refine (Tryd.Builder_String_any w.heap.size gb (spacedL l0) _ HBD.out HB.out.size).mono ?_; rintro e w8 ⟨rfl, hb⟩; refine ⟨_, rfl, ?_⟩; replace HB := Aside0.mk (HB.out.trans hb); clear hb))
    go_ret
    exact ⟨by first | rfl | (simp; done), HB.out⟩
   have cb : decide ((i : Int) < (l0.length : Int)) = true := decide_eq_true (by omega)
   have p1 : 0 ≤ (i : Int) := by omega
   have q1 : (i : Int) < (l0.length : Int) := by omega
   obtain ⟨ad, eA, hx⟩ := Kd.at_int HR0.out (i : Int) p1 q1
   cases eA
   replace hx := pw_cell_below HB.out hx
   have hx2 := hx
   rw [Int.toNat_natCast] at hx2
   have hd1 := HD.out.2 (rd l0 (i : Int)) (by simp [rd, c])
   have HTk := Aside0.mk (spacedL_take c)
   have hl1 := spacedL_len (l0.take i) (fun y hy => HD.out.2 y (List.mem_of_mem_take hy))
   have hl2 := itoa_len hd1.1 hd1.2
   rw [List.length_take] at hl1
   generalize rd l0 (i : Int) = x at hx hx2 hd1 HTk hl2
   obtain ⟨s, hs⟩ : ∃ s : ByteArray, s = ⟨(Lib.itoa x).toArray⟩ := ⟨_, rfl⟩
   have hsz : s.size = (Lib.itoa x).length := by rw [hs]; rfl
   have HF := Aside0.mk (show strconv_Itoa.f x = some s by unfold strconv_Itoa.f; rw [if_pos hd1.1, if_pos hd1.2, hs])
   have HLn := Aside0.mk (show (spacedL (l0.take i)).length + (1 + s.size) ≤ 140737488355328 by have := HD.out.1; omega)
   have HSC := Aside0.mk (show Lib.strCells ((⟨#[32]⟩ : ByteArray) ++ s) = Lib.byteCells (32 :: Lib.itoa x) by rw [Lib.strCells_eq, hs]; simp [ByteArray.data_append])
   have hs1 : (9223372036854775807 < 1 + s.size) = False := eq_false (by omega)
   have hw8 := Aside0.mk (show IntKind.i64.wrap ((i : Int) + 1) = ((i + 1 : Nat) : Int) by (have := HD.out.1; unfold IntKind.wrap; simp [IntKind.bits, IntKind.signed]; omega))
   replace p1 := eq_true p1
   replace q1 := eq_true q1
   clear hs hsz hl1 hl2 hd1
   go_wp2_with (first | ((with_reducible refine gate_callee (f := 43) rfl ?_); refine goesM (some 16) rfl rfl Tryd.func43 (by kernel_rfl) rfl #[.int .i64 x] rfl ?_; (with_reducible refine (strconv_Itoa.calls (htab := tab_now HTB) x s _ HF.out).mono ?_); rintro e w6 ⟨rfl, hb⟩; refine ⟨_, rfl, ?_⟩; replace HBD := Aside0.mk (isB_below HBD.out hb); replace HB := bel_on w hb; clear hb) | ((with_reducible refine gate_callee (f := 47) rfl ?_); refine goesM (some 18) rfl rfl Tryd.func47 (by kernel_rfl) rfl #[.pointer (some ⟨gb, 0, none⟩), .string ((⟨#[32]⟩ : ByteArray) ++ s)] rfl ?_; refine (bld_write w.heap.size gb (Lib.byteCells (spacedL (l0.take i))) ((⟨#[32]⟩ : ByteArray) ++ s) _ HBD.out ?sl ?sb).mono ?_; (case sl => have h_ := HLn.out; rw [ByteArray.size_append]; simp only [Lib.byteCells, List.length_map]; exact h_); (case sb => exact HB.out.size); rintro e w7 ⟨rfl, h7, hb⟩; refine ⟨_, rfl, ?_⟩; rw [HSC.out, Lib.byteCells, Lib.byteCells, ← List.map_append, ← HTk.out] at h7; replace HBD := Aside0.mk h7; replace HB := Aside0.mk (HB.out.trans hb); clear hb h7))
   go_roundg (gk - 1)
   case measure => have := hi.out; omega
   case rel => exact ⟨i + 1, by first | (rw [hw8.out]; done) | exact congrArg (Value.int .i64) (by have := HD.out.1; unfold wrap64; omega), ⟨by have := hi.out; omega⟩, HBD, HB⟩

/-! ### impl_LayerText: function 23 -/
theorem Kd.Q_append_rows_step {P : Program} {ops : Array Oper} {o : Oper} {a : Act} {Q' : Exit → Act → World → Prop} {Kc : Act → World → Prop} {α : Type} (d : Kd α) {Rr : α → List Value → Prop} {w0 W : World} (base : Nat) (hw : Region.wanted o (yielded ops a.tmps) = true) (s x : Operand) (t e : TypeId) (z : Value) (bytes : Nat)
    (ho : o.op = .call { callee := .builtin .append, args := #[s, x], argTypes := #[t, t] })
    (ht : P.underlying t = some (.slice e)) (hinfo : (P.info? e).map (fun i => (i.zero, i.size, i.bytes)) = some (some z, d.sz, bytes)) (hz : z.cells.size = d.sz) (hs0 : 0 < d.sz) (hb0 : 0 < bytes)
    (v : Value) (xs ys : List α) (A : Option Addr) (m c : Nat) (ok okp : Nat → Prop) (hs : a.eval s = v) (hx : a.eval x = .slice A m c)
    (HO : d.Q e W base ok v xs) (HR : ReadsRow Rr d.sz W A m ys) (hKM : ∀ x cs, Rr x cs → d.M W base okp x cs) (hokp : ∀ k, okp k → ok k ∧ some k ≠ v.ownBlock) (hfresh : ∀ k, W.heap.size ≤ k → ok k)
    (HB : Below base w0 W) (hbase : base ≤ W.heap.size) (hl : (xs.length + m) * bytes ≤ 140737488355328)
    (h : ∀ v1 w1, d.Q e w1 base ok v1 (xs ++ ys) → Below base w0 w1 → W.grownBy w1 v.ownBlock → (v1.ownBlock = v.ownBlock ∨ ∃ b, v1.ownBlock = some b ∧ W.heap.size ≤ b) → Kc (a.put o.dst v1) w1) :
    if Region.wanted o (yielded ops a.tmps) = true then Oper.wp P o a W Kc Q' else Kc (a.put o.dst undef) W := by
  obtain ⟨i0, hi, hzz⟩ := Option.map_eq_some_iff.1 hinfo
  simp only [Prod.mk.injEq] at hzz
  obtain ⟨hz0, hz1, hz2⟩ := hzz
  have hm : ys.length = m := HR.1
  have hlen : xs.length + m ≤ 140737488355328 := Nat.le_trans (Nat.le_mul_of_pos_right _ hb0) hl
  obtain ⟨hok, inner, hown, hr⟩ := HO
  have hrun : ∃ v1 w1, (Builtin.append_ #[t, t] o.type #[v, .slice A m c]).run P W = .ok v1 w1 ∧ d.Q e w1 base ok v1 (xs ++ ys) ∧ W.grownBy w1 v.ownBlock ∧ (v1.ownBlock = v.ownBlock ∨ ∃ b, v1.ownBlock = some b ∧ W.heap.size ≤ b) := by
    by_cases hm0 : m = 0
    · subst hm0
      obtain rfl : ys = [] := List.eq_nil_of_length_eq_zero hm
      refine ⟨v, W, ?_, by rw [List.append_nil]; exact ⟨hok, inner, hown, hr⟩, World.grownBy.refl W _, .inl rfl⟩
      rcases hown.2 with ⟨hn, A', rfl, _⟩ | ⟨g, off, cap, cur, rfl, _, _, hnc, _⟩ <;> rcases A with _ | ad
      · cases A' <;> simp [Builtin.append_, run_underlying ht, sizeOf, typeInfo, hi, Builtin.lenOf, Builtin.firstCells, storeCells, hn]
      · cases A' <;> simp [Builtin.append_, run_underlying ht, sizeOf, typeInfo, hi, Builtin.lenOf, Builtin.firstCells, storeCells, loadCells, loadCellsFrom, hn]
      · simp [Builtin.append_, run_underlying ht, sizeOf, typeInfo, hi, Builtin.lenOf, Builtin.firstCells, hnc, storeCells]
      · simp [Builtin.append_, run_underlying ht, sizeOf, typeInfo, hi, Builtin.lenOf, Builtin.firstCells, hnc, storeCells, loadCells, loadCellsFrom]
    rcases A with _ | ad
    · obtain ⟨ad, h, _⟩ := HR.2.2 (by omega)
      cases h
    obtain ⟨news, hnr, hnc⟩ := ReadsRow.inner_ HR
    have hnM : Reps (d.M W base okp) d.sz ys news := hnr.imp_ (fun p c hp => hKM p c hp)
    have hone : ∀ u ∈ news, u.oneCell' = true := by
      intro u hu
      obtain ⟨q, hq, rfl⟩ := List.mem_iff_getElem.1 hu
      have hql : q / d.sz < ys.length := by
        rw [Nat.div_lt_iff_lt_mul hs0, ← hnM.1]
        exact hq
      have hc := hnM.2 (q / d.sz) _ (List.getElem?_eq_getElem hql)
      refine d.K_one (d.K_of_M hc) _ ?_
      rw [List.mem_iff_getElem?]
      refine ⟨q % d.sz, ?_⟩
      rw [List.getElem?_take, if_pos (Nat.mod_lt _ hs0), List.getElem?_drop, Nat.mul_comm, Nat.div_add_mod, List.getElem?_eq_getElem hq]
    obtain ⟨v1, w1, hrun, h2, hg, hat'⟩ := q_append (P := P) W base t o.type e i0 z d.sz bytes ht hi hz0 hz1 hz2 hz hs0 v xs.length inner hown ad m c news (by rw [hnM.1, hm]) hnc hone (by omega) (by simp only [maxLen]; omega) hl hbase
    have hne : ∀ k, some k ≠ v.ownBlock → k < W.heap.size → some k ≠ v1.ownBlock := by
      intro k hk hlt
      rcases hat' with hat | ⟨b, hb, hle⟩
      · rw [hat]; exact hk
      · rw [hb]
        intro he
        injection he with he
        omega
    have step : ∀ {q : α} {c : List Value} {o : Nat → Prop}, d.M W base o q c → (∀ k, o k → ok k ∧ some k ≠ v.ownBlock) → d.M w1 base (fun k => ok k ∧ some k ≠ v1.ownBlock) q c := by
      intro q c o hq ho
      have h1 := d.M_move (w1 := w1) (fun k hk => hg.block k hk.2.2.1 (ho k hk.1).2) (d.M_bound hq)
      exact d.M_mono (fun k hk => ⟨(ho k hk.1).1, hne k (ho k hk.1).2 hk.2.2.1⟩) h1
    refine ⟨v1, w1, hrun, ⟨fun k hk => ?_, inner ++ news, by rw [List.length_append, hm]; exact h2, Kd.reps_append (hr.imp_ (fun _ _ hq => step hq (fun _ hk => hk))) (hnM.imp_ (fun _ _ hq => step hq hokp))⟩, hg, hat'⟩
    rcases hat' with hat | ⟨b, hb, hle⟩
    · exact hok k (hat ▸ hk)
    · rw [hb] at hk
      injection hk with hk
      exact hfresh k (by omega)
  obtain ⟨v1, w1, hrun, h1, h2, h3⟩ := hrun
  rw [if_pos hw]
  unfold Oper.wp execOp
  simp only [ho, resolve, invoke, builtin, Sem.run_bind, Sem.run_pure, Result.andThen_ok, List.map_toArray, List.map_cons, List.map_nil, hs, hx, hrun]
  exact h v1 w1 h1 (HB.grown h2 hbase (fun k hk => (q_typed hown k hk).1)) h2 h3
def impl_LayerText.f (a0_0 : Int) (a0_1 : Int) (a0_2 : Int) (a0_3 : Int) (a0_4 : Int) (a0_5 : Int) (a0_6 : Int) (l0_7 : List Int) (l0_8 : List Int) : Option (ByteArray) := (impl_in.f a0_0 0 5).bind fun t312 => (if t312 = true then ((some (([(⟨#[100, 101, 110, 115, 101]⟩ : ByteArray), (⟨#[99, 111, 110, 118]⟩ : ByteArray), (⟨#[109, 97, 120]⟩ : ByteArray), (⟨#[97, 118, 103]⟩ : ByteArray), (⟨#[114, 101, 108, 117]⟩ : ByteArray), (⟨#[102, 108, 97, 116]⟩ : ByteArray)] : List ByteArray) : List ByteArray)).bind fun y313 => (if 0 ≤ a0_0 then (if a0_0 < (y313.length : Int) then ((impl_Layer_numbers.f a0_0 a0_1 a0_2 a0_3 a0_4 a0_5 a0_6 l0_7 l0_8).bind fun t317 => (if 1 ≤ (t317.length : Int) then ((some (t317.drop (1 : Int).toNat : List Int)).bind fun y320 => ((some (([(l0_7.length : Int), (l0_8.length : Int)] : List Int) : List Int)).bind fun y323 => (if y320.length + y323.length < 17592186044416 then ((impl_spaced.f (y320 ++ y323)).bind fun t329 => (if (rdOf ByteArray.empty y313 a0_0).size + t329.size ≤ 9223372036854775807 then (some ((rdOf ByteArray.empty y313 a0_0) ++ t329)) else (none))) else (none)))) else (none))) else (none)) else (none))) else (some (⟨#[]⟩ : ByteArray)))
def impl_LayerText.T4 : Bool × List (List Nat × List Nat) := (true, [([], []), ([], []), ([1], [1]), ([2], [2]), ([], []), ([4], [4]), ([5], [5]), ([], []), ([7], [7]), ([8], [8]), ([6, 9], [6, 9]), ([3, 10, 2], [3, 10]), ([11, 11], [11]), ([0, 12], [0, 12]), ([13, 12, 0, 1, 2, 3, 4, 5, 6, 7, 8, 9, 10, 11, 12, 13], [13])])
def impl_LayerText.B4 : List Nat := [0, 0, 2, 6, 0, 16, 48, 0, 128, 384, 1008, 2046, 4094, 8191, 16383]
theorem impl_LayerText.tab4 : rtab .any (opsOf Tryd.f23 4) = impl_LayerText.T4 := by kernel_rfl
theorem impl_LayerText.bits4 : waitsOk impl_LayerText.T4.2 impl_LayerText.B4 = true := by kernel_rfl
set_option maxHeartbeats 8000000 in
set_option maxRecDepth 100000 in
theorem impl_LayerText.calls (a0_0 : Int) (a0_1 : Int) (a0_2 : Int) (a0_3 : Int) (a0_4 : Int) (a0_5 : Int) (a0_6 : Int) (A0_7 : Option Addr) (c0_7 : Nat) (l0_7 : List Int) (A0_8 : Option Addr) (c0_8 : Nat) (l0_8 : List Int) (r : ByteArray) (w : World) (hr0_7 : Kd.C (Kd.int .i64) w A0_7 l0_7.length l0_7) (hc0_7 : l0_7.length ≤ c0_7) (hr0_8 : Kd.C (Kd.int .i64) w A0_8 l0_8.length l0_8) (hc0_8 : l0_8.length ≤ c0_8) (htab : TabT w) (h : impl_LayerText.f a0_0 a0_1 a0_2 a0_3 a0_4 a0_5 a0_6 l0_7 l0_8 = some r) :
   Calls Tryd.prog 23 #[.agg #[.int .i64 a0_0, .int .i64 a0_1, .int .i64 a0_2, .int .i64 a0_3, .int .i64 a0_4, .int .i64 a0_5, .int .i64 a0_6, .slice A0_7 l0_7.length c0_7, .slice A0_8 l0_8.length c0_8]] w fun e w' => e = .returned (.string r) ∧ Below w.heap.size w w' := by
  have HTB := Aside0.mk htab
  clear htab
  have hu49 := Tryd.underlying49
  have HR0_7 := Aside0.mk hr0_7
  have HC0_7 := Aside0.mk hc0_7
  clear hr0_7 hc0_7
  have HR0_8 := Aside0.mk hr0_8
  have HC0_8 := Aside0.mk hc0_8
  clear hr0_8 hc0_8
  have HB := Aside0.mk (Below.refl w.heap.size w)
  have H : ((impl_in.f a0_0 0 5).bind fun t312 => (if t312 = true then ((some (([(⟨#[100, 101, 110, 115, 101]⟩ : ByteArray), (⟨#[99, 111, 110, 118]⟩ : ByteArray), (⟨#[109, 97, 120]⟩ : ByteArray), (⟨#[97, 118, 103]⟩ : ByteArray), (⟨#[114, 101, 108, 117]⟩ : ByteArray), (⟨#[102, 108, 97, 116]⟩ : ByteArray)] : List ByteArray) : List ByteArray)).bind fun y313 => (if 0 ≤ a0_0 then (if a0_0 < (y313.length : Int) then ((impl_Layer_numbers.f a0_0 a0_1 a0_2 a0_3 a0_4 a0_5 a0_6 l0_7 l0_8).bind fun t317 => (if 1 ≤ (t317.length : Int) then ((some (t317.drop (1 : Int).toNat : List Int)).bind fun y320 => ((some (([(l0_7.length : Int), (l0_8.length : Int)] : List Int) : List Int)).bind fun y323 => (if y320.length + y323.length < 17592186044416 then ((impl_spaced.f (y320 ++ y323)).bind fun t329 => (if (rdOf ByteArray.empty y313 a0_0).size + t329.size ≤ 9223372036854775807 then (some ((rdOf ByteArray.empty y313 a0_0) ++ t329)) else (none))) else (none)))) else (none))) else (none)) else (none))) else (some (⟨#[]⟩ : ByteArray)))) = some r := h
  clear h
  replace H := Option.bind_eq_some_iff.mp H
  obtain ⟨t312, A20, H⟩ := H
  (try dsimp only at H)
  have A2 := Aside0.mk A20
  clear A20
  by_cases c3 : t312 = true
  rotate_left
  ·replace c3 := Bool.eq_false_iff.mpr c3
   subst c3
   rw [if_neg (show ¬ (false = true) by decide)] at H
   obtain rfl := Option.some.inj H
   go_enter Tryd.func23, Tryd.ntmps23
   go_wp2_with (first | ((with_reducible refine gate_dst (N := 1) rfl ?_); refine boxM 1 #[.int .i64 a0_0, .int .i64 a0_1, .int .i64 a0_2, .int .i64 a0_3, .int .i64 a0_4, .int .i64 a0_5, .int .i64 a0_6, .slice A0_7 l0_7.length c0_7, .slice A0_8 l0_8.length c0_8] 49 ?_; intro gb311 hg w28 BK311 hb; replace HB := box_at w hb hg; obtain ⟨HB, GW311, GE311⟩ := HB; clear hb hg; have hcz29 := cells9 BK311.out) | ((with_reducible refine gate_callee (f := 41) rfl ?_); refine goesM (some 6) rfl rfl Tryd.func41 (by kernel_rfl) rfl #[.int .i64 a0_0, .int .i64 0, .int .i64 5] rfl ?_; (with_reducible refine (impl_in.calls a0_0 0 5 false _ A2.out).mono ?_); rintro e w' ⟨rfl, ⟨nd, rfl⟩⟩; refine ⟨_, rfl, ?_⟩))
   go_ret
   exact ⟨eqN, bel_now⟩
  subst c3
  rw [if_pos rfl] at H
  obtain ⟨y313, hy313⟩ : ∃ y_ : List ByteArray, y_ = (([(⟨#[100, 101, 110, 115, 101]⟩ : ByteArray), (⟨#[99, 111, 110, 118]⟩ : ByteArray), (⟨#[109, 97, 120]⟩ : ByteArray), (⟨#[97, 118, 103]⟩ : ByteArray), (⟨#[114, 101, 108, 117]⟩ : ByteArray), (⟨#[102, 108, 97, 116]⟩ : ByteArray)] : List ByteArray)) := ⟨_, rfl⟩
  replace H : (if 0 ≤ a0_0 then (if a0_0 < (y313.length : Int) then ((impl_Layer_numbers.f a0_0 a0_1 a0_2 a0_3 a0_4 a0_5 a0_6 l0_7 l0_8).bind fun t317 => (if 1 ≤ (t317.length : Int) then ((some (t317.drop (1 : Int).toNat : List Int)).bind fun y320 => ((some (([(l0_7.length : Int), (l0_8.length : Int)] : List Int) : List Int)).bind fun y323 => (if y320.length + y323.length < 17592186044416 then ((impl_spaced.f (y320 ++ y323)).bind fun t329 => (if (rdOf ByteArray.empty y313 a0_0).size + t329.size ≤ 9223372036854775807 then (some ((rdOf ByteArray.empty y313 a0_0) ++ t329)) else (none))) else (none)))) else (none))) else (none)) else (none)) = some r := by first | (rw [hy313]; with_reducible exact H) | (have H2_ := (Option.bind_some _ _).symm.trans H; rw [hy313]; with_reducible exact H2_) | (have H2_ := (Option.bind_some _ _).symm.trans H; with_reducible exact H2_) | with_reducible exact H | (rw [hy313]; exact H) | exact H
  have Ny313 := Aside0.mk hy313
  clear hy313
  by_cases c4 : 0 ≤ a0_0
  rotate_left
  ·rw [if_neg c4] at H
   exact absurd H (by simp)
  rw [if_pos c4] at H
  have c4b0 : decide (0 ≤ a0_0) = true := decide_eq_true c4
  clear c4
  by_cases c5 : a0_0 < (y313.length : Int)
  rotate_left
  ·rw [if_neg c5] at H
   exact absurd H (by simp)
  rw [if_pos c5] at H
  have c5b0 : decide (a0_0 < (y313.length : Int)) = true := decide_eq_true c5
  clear c5
  replace H := Option.bind_eq_some_iff.mp H
  obtain ⟨t317, A60, H⟩ := H
  (try dsimp only at H)
  have A6 := Aside0.mk A60
  clear A60
  by_cases c7 : 1 ≤ (t317.length : Int)
  rotate_left
  ·rw [if_neg c7] at H
   exact absurd H (by simp)
  rw [if_pos c7] at H
  have c7b0 := eq_true c7
  have c7b1 : decide (1 ≤ (t317.length : Int)) = true := decide_eq_true c7
  clear c7
  obtain ⟨y320, hy320⟩ : ∃ y_ : List Int, y_ = (t317.drop (1 : Int).toNat) := ⟨_, rfl⟩
  replace H : ((some (([(l0_7.length : Int), (l0_8.length : Int)] : List Int) : List Int)).bind fun y323 => (if y320.length + y323.length < 17592186044416 then ((impl_spaced.f (y320 ++ y323)).bind fun t329 => (if (rdOf ByteArray.empty y313 a0_0).size + t329.size ≤ 9223372036854775807 then (some ((rdOf ByteArray.empty y313 a0_0) ++ t329)) else (none))) else (none))) = some r := by first | (rw [hy320]; with_reducible exact H) | (have H2_ := (Option.bind_some _ _).symm.trans H; rw [hy320]; with_reducible exact H2_) | (have H2_ := (Option.bind_some _ _).symm.trans H; with_reducible exact H2_) | with_reducible exact H | (rw [hy320]; exact H) | exact H
  have Ny320 := Aside0.mk hy320
  clear hy320
  obtain ⟨y323, hy323⟩ : ∃ y_ : List Int, y_ = (([(l0_7.length : Int), (l0_8.length : Int)] : List Int)) := ⟨_, rfl⟩
  replace H : (if y320.length + y323.length < 17592186044416 then ((impl_spaced.f (y320 ++ y323)).bind fun t329 => (if (rdOf ByteArray.empty y313 a0_0).size + t329.size ≤ 9223372036854775807 then (some ((rdOf ByteArray.empty y313 a0_0) ++ t329)) else (none))) else (none)) = some r := by first | (rw [hy323]; with_reducible exact H) | (have H2_ := (Option.bind_some _ _).symm.trans H; rw [hy323]; with_reducible exact H2_) | (have H2_ := (Option.bind_some _ _).symm.trans H; with_reducible exact H2_) | with_reducible exact H | (rw [hy323]; exact H) | exact H
  have Ny323 := Aside0.mk hy323
  clear hy323
  by_cases c8 : y320.length + y323.length < 17592186044416
  rotate_left
  ·rw [if_neg c8] at H
   exact absurd H (by simp)
  rw [if_pos c8] at H
  have LMc8 := Aside0.mk c8
  clear c8
  obtain ⟨y326, hy326⟩ : ∃ y_ : List Int, y_ = (y320 ++ y323) := ⟨_, rfl⟩
  replace H : ((impl_spaced.f y326).bind fun t329 => (if (rdOf ByteArray.empty y313 a0_0).size + t329.size ≤ 9223372036854775807 then (some ((rdOf ByteArray.empty y313 a0_0) ++ t329)) else (none))) = some r := by first | (rw [hy326]; with_reducible exact H) | (have H2_ := (Option.bind_some _ _).symm.trans H; rw [hy326]; with_reducible exact H2_) | (have H2_ := (Option.bind_some _ _).symm.trans H; with_reducible exact H2_) | with_reducible exact H | (rw [hy326]; exact H) | exact H
  have Ny326 := Aside0.mk hy326
  clear hy326
  replace H := Option.bind_eq_some_iff.mp H
  obtain ⟨t329, A90, H⟩ := H
  (try dsimp only at H)
  have A9 := Aside0.mk A90
  clear A90
  by_cases c10 : (rdOf ByteArray.empty y313 a0_0).size + t329.size ≤ 9223372036854775807
  rotate_left
  ·rw [if_neg c10] at H
   exact absurd H (by simp)
  rw [if_pos c10] at H
  have c10b0 := eq_true c10
  have c10b1 : decide ((rdOf ByteArray.empty y313 a0_0).size + t329.size ≤ 9223372036854775807) = true := decide_eq_true c10
  try have c10b2 : (9223372036854775807 < (rdOf ByteArray.empty y313 a0_0).size + t329.size) = False := eq_false (Nat.not_lt.2 c10)
  obtain rfl := Option.some.inj H
  go_enter Tryd.func23, Tryd.ntmps23
  try go_wp2_with (first | ((with_reducible refine gate_dst (N := 1) rfl ?_); refine boxM 1 #[.int .i64 a0_0, .int .i64 a0_1, .int .i64 a0_2, .int .i64 a0_3, .int .i64 a0_4, .int .i64 a0_5, .int .i64 a0_6, .slice A0_7 l0_7.length c0_7, .slice A0_8 l0_8.length c0_8] 49 ?_; intro gb311 hg w11 BK311 hb; replace HB := box_at w hb hg; obtain ⟨HB, GW311, GE311⟩ := HB; clear hb hg; have hcz12 := cells9 BK311.out) | ((with_reducible refine gate_callee (f := 41) rfl ?_); refine goesM (some 6) rfl rfl Tryd.func41 (by kernel_rfl) rfl #[.int .i64 a0_0, .int .i64 0, .int .i64 5] rfl ?_; (with_reducible refine (impl_in.calls a0_0 0 5 true _ A2.out).mono ?_); rintro e w' ⟨rfl, ⟨nd, rfl⟩⟩; refine ⟨_, rfl, ?_⟩) | ((with_reducible refine gate_dst (N := 8) rfl ?_); refine Kd.R_lit Kd.string _ 9 ?hg (N := 8) ?hd (xs := ([(⟨#[100, 101, 110, 115, 101]⟩ : ByteArray), (⟨#[99, 111, 110, 118]⟩ : ByteArray), (⟨#[109, 97, 120]⟩ : ByteArray), (⟨#[97, 118, 103]⟩ : ByteArray), (⟨#[114, 101, 108, 117]⟩ : ByteArray), (⟨#[102, 108, 97, 116]⟩ : ByteArray)] : List ByteArray)) (inner := [.string (⟨#[100, 101, 110, 115, 101]⟩ : ByteArray), .string (⟨#[99, 111, 110, 118]⟩ : ByteArray), .string (⟨#[109, 97, 120]⟩ : ByteArray), .string (⟨#[97, 118, 103]⟩ : ByteArray), .string (⟨#[114, 101, 108, 117]⟩ : ByteArray), .string (⟨#[102, 108, 97, 116]⟩ : ByteArray)]) (ok := fun _ => True) (okp := fun _ => True) ?hr ?hp (fun _ hk => hk) trivial (Below.refl _ _) (Nat.le_refl _) (by simp) ?_; (case hd => rfl); (case hg => rfl); (case hr => first | (go_simp; done) | (go_simp; rfl)); (case hp => exact (Reps.one (show Kd.M Kd.string _ _ _ (⟨#[100, 101, 110, 115, 101]⟩ : ByteArray) [.string (⟨#[100, 101, 110, 115, 101]⟩ : ByteArray)] from rfl) (Reps.one (show Kd.M Kd.string _ _ _ (⟨#[99, 111, 110, 118]⟩ : ByteArray) [.string (⟨#[99, 111, 110, 118]⟩ : ByteArray)] from rfl) (Reps.one (show Kd.M Kd.string _ _ _ (⟨#[109, 97, 120]⟩ : ByteArray) [.string (⟨#[109, 97, 120]⟩ : ByteArray)] from rfl) (Reps.one (show Kd.M Kd.string _ _ _ (⟨#[97, 118, 103]⟩ : ByteArray) [.string (⟨#[97, 118, 103]⟩ : ByteArray)] from rfl) (Reps.one (show Kd.M Kd.string _ _ _ (⟨#[114, 101, 108, 117]⟩ : ByteArray) [.string (⟨#[114, 101, 108, 117]⟩ : ByteArray)] from rfl) (Reps.one (show Kd.M Kd.string _ _ _ (⟨#[102, 108, 97, 116]⟩ : ByteArray) [.string (⟨#[102, 108, 97, 116]⟩ : ByteArray)] from rfl) (Reps.none _ _)))))))); intro v314 w13 ho14 hb hg_ hnew_; clear hg_ hnew_; (first | rw [← Ny313.out] at ho14 | (simp only [Int.reduceToNat] at ho14; rw [← Ny313.out] at ho14)); have n0_ := Aside0.mk (Kd.R_lower ho14 (below_size bel_now)); replace HB := bel_on w hb; replace BK311 := blk_on gb311 hb; have HO315 := n0_; clear n0_; clear hb ho14; have hcz15 := cells9 BK311.out; obtain ⟨Ao16, co16, eo16⟩ := Kd.R_slice HO315.out; subst eo16; have p316 : 0 ≤ (a0_0 : Int) := of_decide_eq_true (by first | (with_reducible assumption) | assumption); have q316 : a0_0 < (y313.length : Int) := of_decide_eq_true (by first | (with_reducible assumption) | assumption); obtain ⟨ad316, e316, hx316_0⟩ := Kd.at_string (Kd.R_reads' HO315.out).2.2 a0_0 p316 q316; cases e316; replace p316 := eq_true p316; replace q316 := eq_true q316))
  replace HO315 := Aside0.mk (Kd.R_drew HO315.out)
  replace BK311 := Aside0.mk (blk_drew BK311.out)
  replace HB := Aside0.mk (below_drew1 HB.out)
  refine start_ (n := 15) (S := fun w' => w'.cell? ⟨gb311, 0, none⟩ = some (.int .i64 a0_0) ∧ w'.cell? ⟨gb311, 1, none⟩ = some (.int .i64 a0_1) ∧ w'.cell? ⟨gb311, 2, none⟩ = some (.int .i64 a0_2) ∧ w'.cell? ⟨gb311, 3, none⟩ = some (.int .i64 a0_3) ∧ w'.cell? ⟨gb311, 4, none⟩ = some (.int .i64 a0_4) ∧ w'.cell? ⟨gb311, 5, none⟩ = some (.int .i64 a0_5) ∧ w'.cell? ⟨gb311, 6, none⟩ = some (.int .i64 a0_6) ∧ w'.cell? ⟨gb311, 7, none⟩ = some (.slice A0_7 l0_7.length c0_7) ∧ w'.cell? ⟨gb311, 8, none⟩ = some (.slice A0_8 l0_8.length c0_8)) (ds := []) #[O, O, O, O, O, O, O, O, O, O, O, O, O, O, O] (by kernel_rfl) rfl rfl ⟨bc BK311 0, bc BK311 1, bc BK311 2, bc BK311 3, bc BK311 4, bc BK311 5, bc BK311 6, bc BK311 7, bc BK311 8⟩ (fun hHeld => ?_); refine with_tabW impl_LayerText.tab4 impl_LayerText.bits4 (fun HT_ HW_ => ?_)
  generalize w13.drew = w17 at HO315 BK311 HB hHeld ⊢
  refine stepP 0 (some 13) (tk 15 1) (any_of HT_.out (by kernel_rfl)) ?_
  refine stepP 4 (some 17) (tk 15 17) (any_of HT_.out (by kernel_rfl)) ?_
  refine stepP 7 (some 20) (tk 15 145) (any_of HT_.out (by kernel_rfl)) ?_
  refine stepT 1 (some 14) (tk 15 147) (take_ofW HT_.out HW_.out (by kernel_rfl)) hHeld ?_
  refine stepT 5 (some 18) (tk 15 179) (take_ofW HT_.out HW_.out (by kernel_rfl)) hHeld ?_
  refine stepP 6 (some 19) (tk 15 243) (any_of HT_.out (by kernel_rfl)) ?_
  refine stepT 8 (some 21) (tk 15 499) (take_ofW HT_.out HW_.out (by kernel_rfl)) hHeld ?_
  refine stepP 9 (some 22) (tk 15 1011) (any_of HT_.out (by kernel_rfl)) ?_
  refine join_ (σ := Value × Value × Value) 4 #[I, I, I, I, I, I, I, I, I, I, I, O, O, O, O] (fun s_ => [(15, s_.1), (23, s_.2.1), (16, s_.2.2)]) (fun s_ w' => (w'.cell? ⟨gb311, 0, none⟩ = some (.int .i64 a0_0) ∧ w'.cell? ⟨gb311, 1, none⟩ = some (.int .i64 a0_1) ∧ w'.cell? ⟨gb311, 2, none⟩ = some (.int .i64 a0_2) ∧ w'.cell? ⟨gb311, 3, none⟩ = some (.int .i64 a0_3) ∧ w'.cell? ⟨gb311, 4, none⟩ = some (.int .i64 a0_4) ∧ w'.cell? ⟨gb311, 5, none⟩ = some (.int .i64 a0_5) ∧ w'.cell? ⟨gb311, 6, none⟩ = some (.int .i64 a0_6) ∧ w'.cell? ⟨gb311, 7, none⟩ = some (.slice A0_7 l0_7.length c0_7) ∧ w'.cell? ⟨gb311, 8, none⟩ = some (.slice A0_8 l0_8.length c0_8)) ∧ (Kd.R Kd.string 9 w' w.heap.size (fun _ => True) (.slice (some ad316) y313.length co16) y313) ∧ (Kd.Q (Kd.int .i64) 3 w' w.heap.size (fun k_ => some k_ ≠ (s_.2.1 : Value).ownBlock) s_.2.2 y320) ∧ (Kd.R (Kd.int .i64) 3 w' w.heap.size (fun k_ => some k_ ≠ (s_.2.2 : Value).ownBlock) s_.2.1 y323) ∧ (w'.heap[gb311]? = some (.cells #[.int .i64 a0_0, .int .i64 a0_1, .int .i64 a0_2, .int .i64 a0_3, .int .i64 a0_4, .int .i64 a0_5, .int .i64 a0_6, .slice A0_7 l0_7.length c0_7, .slice A0_8 l0_8.length c0_8] 49 (0, 0))) ∧ (Below w.heap.size w w')) ?_ ?_
  rotate_left
  ·intro hCont
   refine two_ (i := 2) (j := 10) (Ni := some 15) (Nj := some 23) #[I, I, I, O, I, I, I, I, I, I, O, O, O, O, O] #[I, I, O, O, I, I, I, I, I, I, I, O, O, O, O] rfl rfl rfl rfl (two_of HT_.out (by kernel_rfl)) (by decide) (by decide) (fun K hK => ?_) (fun K hK => ?_)
   ·skip
    refine goes_ Tryd.func45 (by kernel_rfl) rfl #[.agg #[.int .i64 a0_0, .int .i64 a0_1, .int .i64 a0_2, .int .i64 a0_3, .int .i64 a0_4, .int .i64 a0_5, .int .i64 a0_6, .slice A0_7 l0_7.length c0_7, .slice A0_8 l0_8.length c0_8]] (by rfl) rfl rfl (by (try simp only [List.map_toArray, List.map_cons, List.map_nil]); first | done | rfl | (simp only [List.length_drop, List.length_take]; rfl)) ?_
    with_reducible refine (impl_Layer_numbers.calls a0_0 a0_1 a0_2 a0_3 a0_4 a0_5 a0_6 _ _ l0_7 _ _ l0_8 t317 _ ?side1 ?side2 ?side3 ?side4 A6.out).mono ?_
    (case side1 => exact C_now HR0_7.out)
    (case side2 => exact HC0_7.out)
    (case side3 => exact C_now HR0_8.out)
    (case side4 => exact HC0_8.out)
    rintro e w18 ⟨v318, rfl, ho0, hb⟩
    refine ⟨_, rfl, ?_⟩
    have n1_ := Aside0.mk (Kd.R_lower ho0 (below_size bel_now))
    replace HO315 := Aside0.mk (Kd.R_below (R_at HO315.out) hb)
    replace BK311 := blk_on gb311 hb
    replace HB := bel_on w hb
    have HO319 := n1_
    clear n1_
    (try clear hb)
    (try clear ho0)
    refine hK.out _ _ ⟨bc BK311 0, bc BK311 1, bc BK311 2, bc BK311 3, bc BK311 4, bc BK311 5, bc BK311 6, bc BK311 7, bc BK311 8⟩ (fun hHeld => ?_)
    clear hK K
    refine normP 15 ?_
    obtain ⟨Ao22, co22, eo22⟩ := Kd.R_slice HO319.out
    (first | subst eo22 | (injection eo22 with f1_ f2_ f3_; have f4_ := f1_.symm; have f5_ := f3_.symm; clear f1_ f2_ f3_; subst f4_; subst f5_))
    have q23 : (1 : Int) ≤ ((t317.length : Int) : Int) := of_decide_eq_true (by first | (with_reducible assumption) | assumption)
    obtain ⟨i023, hi023, _, hsz23, _⟩ := info_parts info3
    have hcut23 := cut_from (P := Tryd.prog) 36 3 .i64 Tryd.underlying36 hi023 1 hsz23 Ao22 t317.length co22 1 (by omega) q23
    have hr23 := Kd.Q_drop (k := (1 : Int).toNat) (Kd.Q_of_R HO319.out) (by omega)
    obtain ⟨A23, hA23⟩ : ∃ A1, A1 = (if co22 = (1 : Int).toNat then Ao22 else (Ao22 : Option Addr).map (·.add ((1 : Int).toNat * 1))) := ⟨_, rfl⟩
    obtain ⟨c23, hc23⟩ : ∃ c1, c1 = co22 - (1 : Int).toNat := ⟨_, rfl⟩
    have hy23 : y320.length = t317.length - (1 : Int).toNat := (by rw [Ny320.out, List.length_drop])
    rw [← Ny320.out] at hr23
    rw [← hy23, ← hA23, ← hc23] at hcut23
    replace hr23 : Kd.Q (Kd.int .i64) 3 _ w.heap.size _ (.slice A23 y320.length c23) y320 := (by rw [hA23, hc23, hy23]; exact hr23)
    have HE23 : Aside0 ((Value.slice A23 y320.length c23).ownBlock = (.slice Ao22 t317.length co22 : Value).ownBlock) := ⟨by rw [hA23]; split <;> (cases (Ao22 : Option Addr) <;> first | rfl | simp [Value.ownBlock, add_block])⟩
    clear hy23 hi023 hsz23 HO319 hA23 hc23
    have HO322 := Aside0.mk hr23
    clear hr23
    replace q23 := eq_true q23
    refine stepP 3 (some 16) (tk 15 1023) (any_of HT_.out (by kernel_rfl)) ?_
    refine one_ (i := 10) (N := some 23) #[I, I, I, I, I, I, I, I, I, I, I, O, O, O, O] rfl rfl (one_of HT_.out (by kernel_rfl)) (by decide) (fun K hK => ?_)
    refine Kd.R_lit_step (Kd.int .i64) _ 3 ?hg (N := 23) ?hd (xs := ([(l0_7.length : Int), (l0_8.length : Int)] : List Int)) (inner := [.int .i64 (l0_7.length : Int), .int .i64 (l0_8.length : Int)]) (ok := fun _ => True) (okp := fun _ => True) ?hr ?hp (fun _ hk => hk) trivial (Below.refl _ _) (Nat.le_refl _) (by simp) ?_; (case hd => rfl); (case hg => rfl); (case hr => first | (go_simp; done) | (go_simp; rfl)); (case hp => exact (Reps.one (show Kd.M (Kd.int .i64) _ _ _ (l0_7.length : Int) [.int .i64 (l0_7.length : Int)] from rfl) (Reps.one (show Kd.M (Kd.int .i64) _ _ _ (l0_8.length : Int) [.int .i64 (l0_8.length : Int)] from rfl) (Reps.none _ _))))
    intro v324 w19 ho20 hb hg_ hnew_
    clear hg_ hnew_
    (first | rw [← Ny323.out] at ho20 | (simp only [Int.reduceToNat] at ho20; rw [← Ny323.out] at ho20))
    have n2_ := Aside0.mk (Kd.R_lower (Kd.R_new' ho20 (Kd.Q_lt (by (with_reducible repeat (first | apply Kd.Q_alloc | apply Kd.Q_drewN | apply Kd.Q_drew)); exact HO322.out))) (below_size bel_now))
    replace HO315 := Aside0.mk (Kd.R_below (R_at HO315.out) hb)
    replace HO322 := Aside0.mk (Kd.Q_elder' (by (with_reducible repeat (first | apply Kd.Q_alloc | apply Kd.Q_drewN | apply Kd.Q_drew)); exact HO322.out) (Kd.R_base ho20) hb)
    replace BK311 := blk_on gb311 hb
    replace HB := bel_on w hb
    have HO325 := n2_
    clear n2_
    clear hb ho20
    refine hK.out _ _ ⟨bc BK311 0, bc BK311 1, bc BK311 2, bc BK311 3, bc BK311 4, bc BK311 5, bc BK311 6, bc BK311 7, bc BK311 8⟩ (fun hHeld => ?_)
    clear hK K
    refine normP 23 ?_
    exact norm_ (by simp only [putAll, Act.put, zA, zB, zC]) (hCont (.slice Ao22 t317.length co22, v324, .slice A23 y320.length c23) _ ⟨hHeld, (R_at HO315.out), (Kd.Q_mono (by (with_reducible repeat (first | apply Kd.Q_alloc | apply Kd.Q_drewN | apply Kd.Q_drew)); exact HO322.out) (fun _ hk => by first | exact hk.2 | exact hk | exact trivial)), (R_at (Kd.R_mono HO325.out (fun _ hk => by first | exact hk.2 | (rw [HE23.out]; exact hk.2) | exact trivial))), blk_now, bel_now⟩)
   skip
   refine Kd.R_lit_step (Kd.int .i64) _ 3 ?hg (N := 23) ?hd (xs := ([(l0_7.length : Int), (l0_8.length : Int)] : List Int)) (inner := [.int .i64 (l0_7.length : Int), .int .i64 (l0_8.length : Int)]) (ok := fun _ => True) (okp := fun _ => True) ?hr ?hp (fun _ hk => hk) trivial (Below.refl _ _) (Nat.le_refl _) (by simp) ?_; (case hd => rfl); (case hg => rfl); (case hr => first | (go_simp; done) | (go_simp; rfl)); (case hp => exact (Reps.one (show Kd.M (Kd.int .i64) _ _ _ (l0_7.length : Int) [.int .i64 (l0_7.length : Int)] from rfl) (Reps.one (show Kd.M (Kd.int .i64) _ _ _ (l0_8.length : Int) [.int .i64 (l0_8.length : Int)] from rfl) (Reps.none _ _))))
   intro v324 w18 ho19 hb hg_ hnew_
   clear hg_ hnew_
   (first | rw [← Ny323.out] at ho19 | (simp only [Int.reduceToNat] at ho19; rw [← Ny323.out] at ho19))
   have n1_ := Aside0.mk (Kd.R_lower ho19 (below_size bel_now))
   replace HO315 := Aside0.mk (Kd.R_below (R_at HO315.out) hb)
   replace BK311 := blk_on gb311 hb
   replace HB := bel_on w hb
   have HO325 := n1_
   clear n1_
   clear hb ho19
   refine hK.out _ _ ⟨bc BK311 0, bc BK311 1, bc BK311 2, bc BK311 3, bc BK311 4, bc BK311 5, bc BK311 6, bc BK311 7, bc BK311 8⟩ (fun hHeld => ?_)
   clear hK K
   refine normP 23 ?_
   refine one_ (i := 2) (N := some 15) #[I, I, I, O, I, I, I, I, I, I, I, O, O, O, O] rfl rfl (one_of HT_.out (by kernel_rfl)) (by decide) (fun K hK => ?_)
   refine goes_ Tryd.func45 (by kernel_rfl) rfl #[.agg #[.int .i64 a0_0, .int .i64 a0_1, .int .i64 a0_2, .int .i64 a0_3, .int .i64 a0_4, .int .i64 a0_5, .int .i64 a0_6, .slice A0_7 l0_7.length c0_7, .slice A0_8 l0_8.length c0_8]] (by rfl) rfl rfl (by (try simp only [List.map_toArray, List.map_cons, List.map_nil]); first | done | rfl | (simp only [List.length_drop, List.length_take]; rfl)) ?_
   with_reducible refine (impl_Layer_numbers.calls a0_0 a0_1 a0_2 a0_3 a0_4 a0_5 a0_6 _ _ l0_7 _ _ l0_8 t317 _ ?side1 ?side2 ?side3 ?side4 A6.out).mono ?_
   (case side1 => exact C_now HR0_7.out)
   (case side2 => exact HC0_7.out)
   (case side3 => exact C_now HR0_8.out)
   (case side4 => exact HC0_8.out)
   rintro e w20 ⟨v318, rfl, ho0, hb⟩
   refine ⟨_, rfl, ?_⟩
   have n2_ := Aside0.mk (Kd.R_lower (Kd.R_new' ho0 (Kd.R_lt (R_at HO325.out))) (below_size bel_now))
   replace HO315 := Aside0.mk (Kd.R_below (R_at HO315.out) hb)
   replace HO325 := Aside0.mk (Kd.R_elder' (R_at HO325.out) (Kd.R_base ho0) hb)
   replace BK311 := blk_on gb311 hb
   replace HB := bel_on w hb
   have HO319 := n2_
   clear n2_
   (try clear hb)
   (try clear ho0)
   refine hK.out _ _ ⟨bc BK311 0, bc BK311 1, bc BK311 2, bc BK311 3, bc BK311 4, bc BK311 5, bc BK311 6, bc BK311 7, bc BK311 8⟩ (fun hHeld => ?_)
   clear hK K
   refine normP 15 ?_
   obtain ⟨Ao22, co22, eo22⟩ := Kd.R_slice HO319.out
   (first | subst eo22 | (injection eo22 with f1_ f2_ f3_; have f4_ := f1_.symm; have f5_ := f3_.symm; clear f1_ f2_ f3_; subst f4_; subst f5_))
   have q23 : (1 : Int) ≤ ((t317.length : Int) : Int) := of_decide_eq_true (by first | (with_reducible assumption) | assumption)
   obtain ⟨i023, hi023, _, hsz23, _⟩ := info_parts info3
   have hcut23 := cut_from (P := Tryd.prog) 36 3 .i64 Tryd.underlying36 hi023 1 hsz23 Ao22 t317.length co22 1 (by omega) q23
   have hr23 := Kd.Q_drop (k := (1 : Int).toNat) (Kd.Q_of_R HO319.out) (by omega)
   obtain ⟨A23, hA23⟩ : ∃ A1, A1 = (if co22 = (1 : Int).toNat then Ao22 else (Ao22 : Option Addr).map (·.add ((1 : Int).toNat * 1))) := ⟨_, rfl⟩
   obtain ⟨c23, hc23⟩ : ∃ c1, c1 = co22 - (1 : Int).toNat := ⟨_, rfl⟩
   have hy23 : y320.length = t317.length - (1 : Int).toNat := (by rw [Ny320.out, List.length_drop])
   rw [← Ny320.out] at hr23
   rw [← hy23, ← hA23, ← hc23] at hcut23
   replace hr23 : Kd.Q (Kd.int .i64) 3 _ w.heap.size _ (.slice A23 y320.length c23) y320 := (by rw [hA23, hc23, hy23]; exact hr23)
   have HE23 : Aside0 ((Value.slice A23 y320.length c23).ownBlock = (.slice Ao22 t317.length co22 : Value).ownBlock) := ⟨by rw [hA23]; split <;> (cases (Ao22 : Option Addr) <;> first | rfl | simp [Value.ownBlock, add_block])⟩
   clear hy23 hi023 hsz23 HO319 hA23 hc23
   have HO322 := Aside0.mk hr23
   clear hr23
   replace q23 := eq_true q23
   refine stepP 3 (some 16) (tk 15 2047) (any_of HT_.out (by kernel_rfl)) ?_
   exact norm_ (by simp only [putAll, Act.put, zA, zB, zC]) (hCont (.slice Ao22 t317.length co22, v324, .slice A23 y320.length c23) _ ⟨hHeld, (R_at HO315.out), (Kd.Q_mono (by (with_reducible repeat (first | apply Kd.Q_alloc | apply Kd.Q_drewN | apply Kd.Q_drew)); exact HO322.out) (fun _ hk => by first | exact hk.2 | exact hk | exact trivial)), (R_at (Kd.R_mono HO325.out (fun _ hk => by first | exact hk.2 | (rw [HE23.out]; exact hk.2) | exact trivial))), blk_now, bel_now⟩)
  rintro ⟨v318, v324, v16_⟩ w21 ⟨hS_, h0_, h1_, h2_, h3_, h4_⟩
  have n0_ : Aside0 (Kd.R Kd.string 9 w21 w.heap.size (fun _ => True) (.slice (some ad316) y313.length co16) y313) := ⟨h0_⟩
  have n1_ : Aside0 (Kd.Q (Kd.int .i64) 3 w21 w.heap.size (fun k_ => some k_ ≠ (v324 : Value).ownBlock) v16_ y320) := ⟨h1_⟩
  have n2_ : Aside0 (Kd.R (Kd.int .i64) 3 w21 w.heap.size (fun k_ => some k_ ≠ (v16_ : Value).ownBlock) v324 y323) := ⟨h2_⟩
  have n3_ : Aside0 (w21.heap[gb311]? = some (.cells #[.int .i64 a0_0, .int .i64 a0_1, .int .i64 a0_2, .int .i64 a0_3, .int .i64 a0_4, .int .i64 a0_5, .int .i64 a0_6, .slice A0_7 l0_7.length c0_7, .slice A0_8 l0_8.length c0_8] 49 (0, 0))) := ⟨h3_⟩
  have n4_ : Aside0 (Below w.heap.size w w21) := ⟨h4_⟩
  clear HO315
  clear BK311
  clear HB
  clear h0_ h1_ h2_ h3_ h4_
  have HO315 := n0_
  have HO322 := n1_
  have HO325 := n2_
  have BK311 := n3_
  have HB := n4_
  clear n0_ n1_ n2_ n3_ n4_
  have hHeld : w21.cell? ⟨gb311, 0, none⟩ = some (.int .i64 a0_0) ∧ w21.cell? ⟨gb311, 1, none⟩ = some (.int .i64 a0_1) ∧ w21.cell? ⟨gb311, 2, none⟩ = some (.int .i64 a0_2) ∧ w21.cell? ⟨gb311, 3, none⟩ = some (.int .i64 a0_3) ∧ w21.cell? ⟨gb311, 4, none⟩ = some (.int .i64 a0_4) ∧ w21.cell? ⟨gb311, 5, none⟩ = some (.int .i64 a0_5) ∧ w21.cell? ⟨gb311, 6, none⟩ = some (.int .i64 a0_6) ∧ w21.cell? ⟨gb311, 7, none⟩ = some (.slice A0_7 l0_7.length c0_7) ∧ w21.cell? ⟨gb311, 8, none⟩ = some (.slice A0_8 l0_8.length c0_8) := hS_
  obtain ⟨A23, c23, eo23_, _⟩ := Kd.Q_slice HO322.out
  subst eo23_
  obtain ⟨Ao25, co25, eo25⟩ := Kd.R_slice HO325.out
  (first | subst eo25 | (injection eo25 with f1_ f2_ f3_; have f4_ := f1_.symm; have f5_ := f3_.symm; clear f1_ f2_ f3_; subst f4_; subst f5_))
  refine norm_ (a' := ?_) ?_ ?_
  rotate_left
  ·simp only [putAll, Act.put, zA, zB, zC]
   rfl
  refine one_ (i := 11) (N := some 24) #[I, I, I, I, I, I, I, I, I, I, I, I, O, O, O] rfl rfl (one_of HT_.out (by kernel_rfl)) (by decide) (fun K hK => ?_)
  refine Kd.Q_append_rows_step (Kd.int .i64) (w0 := w) w.heap.size (by rfl) (.tmp 16) (.tmp 23) 36 3 (.int .i64 0) 8 rfl Tryd.underlying36 info3 rfl (by decide) (by omega) (.slice A23 y320.length c23) y320 y323 _ _ _ (fun k_ => nb k_ Ao25 y323.length co25) (fun _ => False) rfl rfl ?aO ?aR (fun _ _ h => h) (fun _ h => h.elim) ?aF ?aB ?aS ?aL ?_
  (case aR => exact (Kd.R_reads' (R_at HO325.out)).2.2)
  (case aB => exact bel_now)
  (case aF => exact (fun k_ hk => Kd.fresh' (Kd.R_lt (R_at HO325.out)) k_ hk))
  (case aO => exact (by (with_reducible repeat (first | apply Kd.Q_alloc | apply Kd.Q_drewN | apply Kd.Q_drew)); exact HO322.out))
  (case aS => exact (below_size bel_now))
  (case aL => have := LMc8.out; omega)
  intro v327 w24 ho hb hg hat
  rw [← Ny326.out] at ho
  have n4_ := Aside0.mk (ho)
  replace BK311 := Aside0.mk (blk_grown (g := gb311) blk_now hg (Kd.Q_ne HO322.out BK311.out (by decide)))
  replace HO315 := Aside0.mk (Kd.R_over' (R_at HO315.out) (Kd.Q_typed (by (with_reducible repeat (first | apply Kd.Q_alloc | apply Kd.Q_drewN | apply Kd.Q_drew)); exact HO322.out)) (by decide) hg)
  replace HO325 := Aside0.mk (Kd.R_after (ok := (fun _ => True)) (R_at (Kd.R_mono HO325.out (fun _ hk => ⟨trivial, hk⟩))) hg hat)
  replace HB := Aside0.mk (hb)
  clear HO322
  have HO328 := n4_
  clear n4_
  clear ho hb hg hat
  obtain ⟨Ao26, co26, eo26, _⟩ := Kd.Q_slice HO328.out
  (first | subst eo26 | (injection eo26 with f1_ f2_ f3_; have f4_ := f1_.symm; have f5_ := f3_.symm; clear f1_ f2_ f3_; subst f4_; subst f5_))
  refine hK.out _ _ ⟨bc BK311 0, bc BK311 1, bc BK311 2, bc BK311 3, bc BK311 4, bc BK311 5, bc BK311 6, bc BK311 7, bc BK311 8⟩ (fun hHeld => ?_)
  clear hK K
  refine normP 24 ?_
  refine one_ (i := 12) (N := some 25) #[I, I, I, I, I, I, I, I, I, I, I, I, I, O, O] rfl rfl (one_of HT_.out (by kernel_rfl)) (by decide) (fun K hK => ?_)
  refine goes_ Tryd.func44 (by kernel_rfl) rfl #[.slice Ao26 y326.length co26] (by rfl) rfl rfl (by (try simp only [List.map_toArray, List.map_cons, List.map_nil]); first | done | rfl | (simp only [List.length_drop, List.length_take]; rfl)) ?_
  with_reducible refine (impl_spaced.calls (htab := tab_now HTB) _ _ y326 t329 _ ?side1 ?side2 A9.out).mono ?_
  (case side1 => repeat (first | exact (Kd.Q_reads' HO328.out).2.2 | (with_reducible refine Kd.C_alloc ?_ _) | (with_reducible refine Kd.C_drewN ?_ _) | (with_reducible refine Kd.C_drew ?_)))
  (case side2 => exact (Kd.Q_reads' HO328.out).2.1)
  rintro e w27 ⟨rfl, hb⟩
  refine ⟨_, rfl, ?_⟩
  replace HO315 := Aside0.mk (Kd.R_below (R_at HO315.out) hb)
  replace HO325 := Aside0.mk (Kd.R_below (R_at HO325.out) hb)
  replace HO328 := Aside0.mk (Kd.Q_below (by (with_reducible repeat (first | apply Kd.Q_alloc | apply Kd.Q_drewN | apply Kd.Q_drew)); exact HO328.out) hb)
  replace BK311 := blk_on gb311 hb
  replace HB := bel_on w hb
  (try clear hb)
  refine hK.out _ _ ⟨bc BK311 0, bc BK311 1, bc BK311 2, bc BK311 3, bc BK311 4, bc BK311 5, bc BK311 6, bc BK311 7, bc BK311 8⟩ (fun hHeld => ?_)
  clear hK K
  refine normP 25 ?_
  refine stepP 13 (some 26) (tk 15 16383) (any_of HT_.out (by kernel_rfl)) ?_
  refine stepP 14 (some 2) (tk 15 32767) (any_of HT_.out (by kernel_rfl)) ?_
  refine done_ (done_of HT_.out (by kernel_rfl)) ?_
  try go_wp2
  go_ret
  exact ⟨eqN, bel_now⟩

/-! ### strings_Join: function 24 (by hand) -/
def joinL (xs : List ByteArray) (s : ByteArray) : ByteArray := ⟨(Lib.join (xs.map (·.data.toList)) s.data.toList).toArray⟩
theorem spot_none {w : World} {a : Addr} {v : Value} (h : w.cell? a = some v) : a = ⟨a.block, a.off, none⟩ := by
  obtain ⟨b, o, s⟩ := a
  cases s with
  | none => rfl
  | some s =>
   unfold World.cell? at h
   split at h
   ·simp at h
   ·cases h
def strings_Join.f (l0 : List ByteArray) (a1 : ByteArray) : Option (ByteArray) := if l0.length ≤ 140737488355328 ∧ (joinL l0 a1).size ≤ 140737488355328 then (some (joinL l0 a1)) else (none)
theorem strings_Join.calls (A0 : Option Addr) (c0 : Nat) (l0 : List ByteArray) (a1 : ByteArray) (r : ByteArray) (w : World) (hr0 : Kd.C Kd.string w A0 l0.length l0) (hc0 : l0.length ≤ c0) (h : strings_Join.f l0 a1 = some r) :
   Calls Tryd.prog 24 #[.slice A0 l0.length c0, .string a1] w fun e w' => e = .returned (.string r) ∧ Below w.heap.size w w' := by
  unfold strings_Join.f at h
  split at h
  case isFalse => cases h
  rename_i hd
  obtain rfl := Option.some.inj h
  cases l0 with
  | nil => exact (Tryd.strings_Join_none A0 c0 a1 w).mono fun e w' ⟨he, hw⟩ => ⟨he, hw ▸ Below.refl _ _⟩
  | cons x0 r0 =>
   obtain ⟨ad, eA, h0⟩ := Kd.at_string hr0 0 (Int.le_refl 0) (by simp)
   have es := spot_none h0
   subst eA
   obtain ⟨bk, o, s⟩ := ad
   have es' : s = none := by simpa [Addr.add] using es
   subst es'
   refine Tryd.strings_Join bk o c0 (x0 :: r0) a1 w (fun j x hj => ?_) (World.block_lt_of_cell? w _ h0) hd.1 hc0 ?_
   ·obtain ⟨hlt, he⟩ := List.getElem?_eq_some_iff.1 hj
    obtain ⟨ad2, e2, h2⟩ := Kd.at_string hr0 (j : Int) (by omega) (by omega)
    obtain rfl := Option.some.inj e2
    rw [Int.toNat_natCast] at h2
    have e3 : rdOf ByteArray.empty (x0 :: r0) (j : Int) = x := by
     unfold rdOf
     rw [Int.toNat_natCast, List.getD_eq_getElem?_getD, hj]
     rfl
    rw [e3] at h2
    have e4 : (⟨bk, o, none⟩ : Addr).add j = ⟨bk, o + j, none⟩ := by
     unfold Addr.add
     split
     ·rename_i h0_
      subst h0_
      rfl
     ·rfl
    rw [e4] at h2
    exact h2
   ·have := hd.2
    unfold joinL at this
    rw [ByteArray.size, List.size_toArray] at this
    exact this

/-! ### impl_ModelText: function 8 -/
def impl_ModelText.l0 : Nat → List ByteArray → List (S49) → Int → Int → Option (ByteArray)
  | 0, _, _, _, _ => none
  | k + 1, x3, x14, x15, x16 => if x16 < x15 then (if 0 ≤ x16 then (if x16 < (x14.length : Int) then ((impl_LayerText.f ((rd_T49 x14 x16).f0) ((rd_T49 x14 x16).f1) ((rd_T49 x14 x16).f2) ((rd_T49 x14 x16).f3) ((rd_T49 x14 x16).f4) ((rd_T49 x14 x16).f5) ((rd_T49 x14 x16).f6) ((rd_T49 x14 x16).f7) ((rd_T49 x14 x16).f8)).bind fun t338 => (if x3.length < 8796093022208 then (impl_ModelText.l0 k (x3 ++ [t338]) x14 x15 (wrap64 (x16 + 1))) else (none))) else (none)) else (none)) else ((strings_Join.f x3 (⟨#[32, 62, 32]⟩ : ByteArray)).bind fun t342 => (some t342))
def impl_ModelText.f (k : Nat) (a0_0 : Int) (a0_1 : Int) (a0_2 : Int) (l0_3 : List (S49)) : Option (ByteArray) := (impl_ModelOk.f k a0_0 a0_1 a0_2 l0_3).bind fun t331 => (if t331 = true then ((impl_Shape_sides.f a0_0 a0_1 a0_2).bind fun t332 => (impl_ModelText.l0 k (([t332] : List ByteArray)) l0_3 (l0_3.length : Int) 0)) else (some (⟨#[]⟩ : ByteArray)))
set_option maxHeartbeats 8000000 in
set_option maxRecDepth 100000 in
theorem impl_ModelText.calls (k : Nat) (a0_0 : Int) (a0_1 : Int) (a0_2 : Int) (A0_3 : Option Addr) (c0_3 : Nat) (l0_3 : List (S49)) (r : ByteArray) (w : World) (hr0_3 : Kd.C k49 w A0_3 l0_3.length l0_3) (hc0_3 : l0_3.length ≤ c0_3) (htab : TabT w) (h : impl_ModelText.f k a0_0 a0_1 a0_2 l0_3 = some r) :
   Calls Tryd.prog 8 #[.agg #[.int .i64 a0_0, .int .i64 a0_1, .int .i64 a0_2, .slice A0_3 l0_3.length c0_3]] w fun e w' => e = .returned (.string r) ∧ Below w.heap.size w w' := by
  have HTB := Aside0.mk htab
  clear htab
  have hu32 := Tryd.underlying32
  have hu29 := Tryd.underlying29
  have hu49 := Tryd.underlying49
  have HR0_3 := Aside0.mk hr0_3
  have HC0_3 := Aside0.mk hc0_3
  clear hr0_3 hc0_3
  have HB := Aside0.mk (Below.refl w.heap.size w)
  have H : ((impl_ModelOk.f k a0_0 a0_1 a0_2 l0_3).bind fun t331 => (if t331 = true then ((impl_Shape_sides.f a0_0 a0_1 a0_2).bind fun t332 => (impl_ModelText.l0 k (([t332] : List ByteArray)) l0_3 (l0_3.length : Int) 0)) else (some (⟨#[]⟩ : ByteArray)))) = some r := h
  clear h
  replace H := Option.bind_eq_some_iff.mp H
  obtain ⟨t331, A20, H⟩ := H
  (try dsimp only at H)
  have A2 := Aside0.mk A20
  clear A20
  by_cases c3 : t331 = true
  rotate_left
  ·replace c3 := Bool.eq_false_iff.mpr c3
   subst c3
   rw [if_neg (show ¬ (false = true) by decide)] at H
   obtain rfl := Option.some.inj H
   go_enter Tryd.func8, Tryd.ntmps8
   go_wp2_with (first | ((with_reducible refine gate_dst (N := 1) rfl ?_); refine boxM 1 #[.int .i64 a0_0, .int .i64 a0_1, .int .i64 a0_2, .slice A0_3 l0_3.length c0_3] 32 ?_; intro gb330 hg w26 BK330 hb; replace HB := box_at w hb hg; obtain ⟨HB, GW330, GE330⟩ := HB; clear hb hg; have hcz27 := cells4 BK330.out) | ((with_reducible refine gate_callee (f := 21) rfl ?_); refine goesM (some 7) rfl rfl Tryd.func21 (by kernel_rfl) rfl #[.agg #[.int .i64 a0_0, .int .i64 a0_1, .int .i64 a0_2, .slice A0_3 l0_3.length c0_3]] rfl ?_; (with_reducible refine (impl_ModelOk.calls k a0_0 a0_1 a0_2 _ _ l0_3 false _ ?side1 ?side2 A2.out).mono ?_); (case side1 => exact C_now HR0_3.out); (case side2 => exact HC0_3.out); rintro e w28 ⟨rfl, hb⟩; refine ⟨_, rfl, ?_⟩; replace HB := bel_on w hb; replace BK330 := blk_on gb330 hb; (try clear hb)))
   go_ret
   exact ⟨eqN, bel_now⟩
  subst c3
  rw [if_pos rfl] at H
  replace H := Option.bind_eq_some_iff.mp H
  obtain ⟨t332, A40, H⟩ := H
  (try dsimp only at H)
  have A4 := Aside0.mk A40
  clear A40
  obtain ⟨y333, hy333⟩ : ∃ y_ : List ByteArray, y_ = (([t332] : List ByteArray)) := ⟨_, rfl⟩
  replace H : (impl_ModelText.l0 k y333 l0_3 (l0_3.length : Int) 0) = some r := by first | (rw [hy333]; with_reducible exact H) | (have H2_ := (Option.bind_some _ _).symm.trans H; rw [hy333]; with_reducible exact H2_) | (have H2_ := (Option.bind_some _ _).symm.trans H; with_reducible exact H2_) | with_reducible exact H | (rw [hy333]; exact H) | exact H
  have Ny333 := Aside0.mk hy333
  clear hy333
  have H' := Aside0.mk H
  clear H
  go_enter Tryd.func8, Tryd.ntmps8
  go_wp2_with (first | ((with_reducible refine gate_dst (N := 1) rfl ?_); refine boxM 1 #[.int .i64 a0_0, .int .i64 a0_1, .int .i64 a0_2, .slice A0_3 l0_3.length c0_3] 32 ?_; intro gb330 hg w5 BK330 hb; replace HB := box_at w hb hg; obtain ⟨HB, GW330, GE330⟩ := HB; clear hb hg; have hcz6 := cells4 BK330.out) | ((with_reducible refine gate_callee (f := 21) rfl ?_); refine goesM (some 7) rfl rfl Tryd.func21 (by kernel_rfl) rfl #[.agg #[.int .i64 a0_0, .int .i64 a0_1, .int .i64 a0_2, .slice A0_3 l0_3.length c0_3]] rfl ?_; (with_reducible refine (impl_ModelOk.calls k a0_0 a0_1 a0_2 _ _ l0_3 true _ ?side1 ?side2 A2.out).mono ?_); (case side1 => exact C_now HR0_3.out); (case side2 => exact HC0_3.out); rintro e w7 ⟨rfl, hb⟩; refine ⟨_, rfl, ?_⟩; replace HB := bel_on w hb; replace BK330 := blk_on gb330 hb; (try clear hb); have hcz8 := cells4 BK330.out) | ((with_reducible refine gate_callee (f := 22) rfl ?_); refine goesM (some 11) rfl rfl Tryd.func22 (by kernel_rfl) rfl #[.agg #[.int .i64 a0_0, .int .i64 a0_1, .int .i64 a0_2]] rfl ?_; (with_reducible refine (impl_Shape_sides.calls (htab := tab_now HTB) a0_0 a0_1 a0_2 t332 _ A4.out).mono ?_); rintro e w9 ⟨rfl, hb⟩; refine ⟨_, rfl, ?_⟩; replace HB := bel_on w hb; replace BK330 := blk_on gb330 hb; (try clear hb)) | ((with_reducible refine gate_dst (N := 12) rfl ?_); refine Kd.R_lit Kd.string _ 9 ?hg (N := 12) ?hd (xs := ([t332] : List ByteArray)) (inner := [.string t332]) (ok := fun _ => True) (okp := fun _ => True) ?hr ?hp (fun _ hk => hk) trivial (Below.refl _ _) (Nat.le_refl _) (by simp) ?_; (case hd => rfl); (case hg => rfl); (case hr => first | (go_simp; done) | (go_simp; rfl)); (case hp => exact (Reps.one (show Kd.M Kd.string _ _ _ t332 [.string t332] from rfl) (Reps.none _ _))); intro v334 w10 ho11 hb hg_ hnew_; clear hg_ hnew_; (first | rw [← Ny333.out] at ho11 | (simp only [Int.reduceToNat] at ho11; rw [← Ny333.out] at ho11)); have n0_ := Aside0.mk (Kd.R_lower ho11 (below_size bel_now)); replace HB := bel_on w hb; replace BK330 := blk_on gb330 hb; have HO335 := n0_; clear n0_; clear hb ho11; have hcz12 := cells4 BK330.out))
  go_loopg [3, 16] k (fun kq v3 v16 w' => ∃ (x3_1 : List ByteArray) (x16_1 : Int), v16 = .int .i64 x16_1 ∧ Aside0 (impl_ModelText.l0 kq x3_1 l0_3 (l0_3.length : Int) x16_1 = some r) ∧ Aside0 (kq ≤ k) ∧ Aside0 (Kd.R Kd.string 9 w' w.heap.size (fun _ => True) v3 x3_1) ∧ Aside0 (w'.heap[gb330]? = some (.cells #[.int .i64 a0_0, .int .i64 a0_1, .int .i64 a0_2, (.slice A0_3 l0_3.length c0_3)] 32 (0, 0))) ∧ Aside0 (Below w.heap.size w w'))
  case atStart => exact ⟨(y333), (0), (by first | rfl | (simp; done) | (simp [*]; done)), H', ⟨Nat.le_refl _⟩, ⟨by (with_reducible repeat (first | apply Kd.R_alloc | apply Kd.R_drewN | apply Kd.R_drew)); exact HO335.out⟩, ⟨bks BK330⟩, ⟨bel_now⟩⟩
  case round =>
   clear H'
   try clear c2
   try clear p2
   try clear c3
   try clear c8
   try clear hcz12
   try clear hcz6
   try clear hcz8
   obtain ⟨x3_1, x16_1, rfl, HA, HK1, HO_3, BK330, HB⟩ := hrel
   cases gk with
   | zero => exact absurd HA.out (by simp [impl_ModelText.l0])
   | succ k1 =>
    have H := HA.out
    clear HA
    simp only [impl_ModelText.l0] at H
    by_cases c13 : x16_1 < (l0_3.length : Int)
    rotate_left
    ·rw [if_neg c13] at H
     have c13b0 : decide (x16_1 < (l0_3.length : Int)) = false := decide_eq_false c13
     clear c13
     replace H := Option.bind_eq_some_iff.mp H
     obtain ⟨t342, A230, H⟩ := H
     (try dsimp only at H)
     have A23 := Aside0.mk A230
     clear A230
     obtain rfl := Option.some.inj H
     obtain ⟨Ao24, co24, eo24⟩ := Kd.R_slice HO_3.out
     subst eo24
     go_wp2_with (first | ((with_reducible refine gate_callee (f := 24) rfl ?_); refine goesM (some 27) rfl rfl Tryd.func24 (by kernel_rfl) rfl #[.slice Ao24 x3_1.length co24, .string (⟨#[32, 62, 32]⟩ : ByteArray)] rfl ?_; (with_reducible refine (strings_Join.calls _ _ x3_1 (⟨#[32, 62, 32]⟩ : ByteArray) t342 _ ?side1 ?side2 A23.out).mono ?_); (case side1 => exact (Kd.R_reads' (R_at HO_3.out)).2.2); (case side2 => exact (Kd.R_reads' HO_3.out).2.1); rintro e w25 ⟨rfl, hb⟩; refine ⟨_, rfl, ?_⟩; replace HO_3 := Aside0.mk (Kd.R_below (R_at HO_3.out) hb); replace HB := bel_on w hb; replace BK330 := blk_on gb330 hb; (try clear hb)))
     go_ret
     exact ⟨eqN, bel_now⟩
    rw [if_pos c13] at H
    have c13b0 : decide (x16_1 < (l0_3.length : Int)) = true := decide_eq_true c13
    clear c13
    by_cases c14 : 0 ≤ x16_1
    rotate_left
    ·rw [if_neg c14] at H
     exact absurd H (by simp)
    rw [if_pos c14] at H
    have c14b0 : decide (0 ≤ x16_1) = true := decide_eq_true c14
    clear c14
    by_cases c15 : x16_1 < (l0_3.length : Int)
    rotate_left
    ·rw [if_neg c15] at H
     exact absurd H (by simp)
    rw [if_pos c15] at H
    have c15b0 : decide (x16_1 < (l0_3.length : Int)) = true := decide_eq_true c15
    clear c15
    replace H := Option.bind_eq_some_iff.mp H
    obtain ⟨t338, A160, H⟩ := H
    (try dsimp only at H)
    have A16 := Aside0.mk A160
    clear A160
    by_cases c17 : x3_1.length < 8796093022208
    rotate_left
    ·rw [if_neg c17] at H
     exact absurd H (by simp)
    rw [if_pos c17] at H
    have LMc17 := Aside0.mk c17
    clear c17
    obtain ⟨y339, hy339⟩ : ∃ y_ : List ByteArray, y_ = (x3_1 ++ [t338]) := ⟨_, rfl⟩
    replace H : (impl_ModelText.l0 k1 y339 l0_3 (l0_3.length : Int) (wrap64 (x16_1 + 1))) = some r := by first | (rw [hy339]; with_reducible exact H) | (have H2_ := (Option.bind_some _ _).symm.trans H; rw [hy339]; with_reducible exact H2_) | (have H2_ := (Option.bind_some _ _).symm.trans H; with_reducible exact H2_) | with_reducible exact H | (rw [hy339]; exact H) | exact H
    have Ny339 := Aside0.mk hy339
    clear hy339
    have H' := Aside0.mk H
    clear H
    have p336 : 0 ≤ (x16_1 : Int) := of_decide_eq_true (by first | (with_reducible assumption) | assumption)
    have q336 : x16_1 < (l0_3.length : Int) := of_decide_eq_true (by first | (with_reducible assumption) | assumption)
    obtain ⟨ad336, A336_7, c336_7, A336_8, c336_8, e336, hx336_0, hx336_1, hx336_2, hx336_3, hx336_4, hx336_5, hx336_6, hx336_7, hx336_8, hl336_7, hi336_7, hl336_8, hi336_8⟩ := at_T49 HR0_3.out x16_1 p336 q336
    cases e336
    replace hx336_0 := (HB.out.cell (World.block_lt_of_cell? w _ hx336_0)).trans hx336_0
    replace hx336_1 := (HB.out.cell (World.block_lt_of_cell? w _ hx336_1)).trans hx336_1
    replace hx336_2 := (HB.out.cell (World.block_lt_of_cell? w _ hx336_2)).trans hx336_2
    replace hx336_3 := (HB.out.cell (World.block_lt_of_cell? w _ hx336_3)).trans hx336_3
    replace hx336_4 := (HB.out.cell (World.block_lt_of_cell? w _ hx336_4)).trans hx336_4
    replace hx336_5 := (HB.out.cell (World.block_lt_of_cell? w _ hx336_5)).trans hx336_5
    replace hx336_6 := (HB.out.cell (World.block_lt_of_cell? w _ hx336_6)).trans hx336_6
    replace hx336_7 := (HB.out.cell (World.block_lt_of_cell? w _ hx336_7)).trans hx336_7
    replace hx336_8 := (HB.out.cell (World.block_lt_of_cell? w _ hx336_8)).trans hx336_8
    have HR336_7 := Aside0.mk hi336_7
    have HC336_7 := Aside0.mk hl336_7
    clear hi336_7 hl336_7
    have HR336_8 := Aside0.mk hi336_8
    have HC336_8 := Aside0.mk hl336_8
    clear hi336_8 hl336_8
    replace p336 := eq_true p336
    replace q336 := eq_true q336
    go_wp2_with (first | ((with_reducible refine gate_dst (N := 5) rfl ?_); refine boxM 5 #[.int .i64 0, .int .i64 0, .int .i64 0, .int .i64 0, .int .i64 0, .int .i64 0, .int .i64 0, .slice none 0 0, .slice none 0 0] 49 ?_; intro gb337 hg w18 BK337 hb; replace HB := box_at w hb hg; obtain ⟨HB, GW337, GE337⟩ := HB; replace BK330 := box_on gb330 hb hg; obtain ⟨BK330, NB330_337, NB337_330⟩ := BK330; replace HO_3 := Aside0.mk (Kd.R_below (R_at HO_3.out) hb); clear hb hg; have hn19 := ne2 NB337_330; have hcz20 := cells9 BK337.out) | ((with_reducible refine gate_callee (f := 23) rfl ?_); refine goesM (some 22) rfl rfl Tryd.func23 (by kernel_rfl) rfl #[.agg #[.int .i64 ((rd_T49 l0_3 x16_1).f0), .int .i64 ((rd_T49 l0_3 x16_1).f1), .int .i64 ((rd_T49 l0_3 x16_1).f2), .int .i64 ((rd_T49 l0_3 x16_1).f3), .int .i64 ((rd_T49 l0_3 x16_1).f4), .int .i64 ((rd_T49 l0_3 x16_1).f5), .int .i64 ((rd_T49 l0_3 x16_1).f6), .slice A336_7 ((rd_T49 l0_3 x16_1).f7).length c336_7, .slice A336_8 ((rd_T49 l0_3 x16_1).f8).length c336_8]] rfl ?_; (with_reducible refine (impl_LayerText.calls (htab := tab_now HTB) ((rd_T49 l0_3 x16_1).f0) ((rd_T49 l0_3 x16_1).f1) ((rd_T49 l0_3 x16_1).f2) ((rd_T49 l0_3 x16_1).f3) ((rd_T49 l0_3 x16_1).f4) ((rd_T49 l0_3 x16_1).f5) ((rd_T49 l0_3 x16_1).f6) _ _ ((rd_T49 l0_3 x16_1).f7) _ _ ((rd_T49 l0_3 x16_1).f8) t338 _ ?side1 ?side2 ?side3 ?side4 A16.out).mono ?_); (case side1 => exact C_now HR336_7.out); (case side2 => exact HC336_7.out); (case side3 => exact C_now HR336_8.out); (case side4 => exact HC336_8.out); rintro e w21 ⟨rfl, hb⟩; refine ⟨_, rfl, ?_⟩; have n0_ := Aside0.mk (Kd.R_below (R_at (R_far9 HO_3.out BK337.out (by decide))) hb); replace HB := bel_on w hb; replace BK330 := Aside0.mk (blk_below (g := gb330) (o := .cells #[.int .i64 a0_0, .int .i64 a0_1, .int .i64 a0_2, .slice (some ad336) l0_3.length c0_3] 32 (0, 0)) (blk_fars BK330.out) hb); replace BK337 := Aside0.mk (blk_below (g := gb337) (o := .cells #[.int .i64 ((rd_T49 l0_3 x16_1).f0), .int .i64 ((rd_T49 l0_3 x16_1).f1), .int .i64 ((rd_T49 l0_3 x16_1).f2), .int .i64 ((rd_T49 l0_3 x16_1).f3), .int .i64 ((rd_T49 l0_3 x16_1).f4), .int .i64 ((rd_T49 l0_3 x16_1).f5), .int .i64 ((rd_T49 l0_3 x16_1).f6), .slice A336_7 ((rd_T49 l0_3 x16_1).f7).length c336_7, .slice A336_8 ((rd_T49 l0_3 x16_1).f8).length c336_8] 49 (0, 0)) (by (with_reducible repeat (first | refine blk_drewN ?_ _ | refine blk_drew ?_ | refine blk_alloc ?_ _)); first | exact putl9 BK337.out | exact blk_fars (putl9 BK337.out)) hb); clear HO_3; have HO_3 := n0_; clear n0_; (try clear hb)) | ((with_reducible refine gate_builtin (b := .append) (xs := #[.tmp 20, .tmp 23]) rfl ?_); at_builtin; refine Kd.R_append Kd.string (w0 := w) w.heap.size rfl (.tmp 20) (.tmp 23) 53 9 (.string ⟨#[]⟩) 16 rfl Tryd.underlying53 info9 rfl (by decide) (by omega) u3 x3_1 t338 [.string t338] (fun _ => True) (fun _ => False) rfl rfl ?aP (fun _ hk => hk.elim) ?aF ?aO ?aB ?aS ?aL ?_; (case aP => exact rfl); (case aB => exact bel_now); (case aF => exact (fun _ _ => trivial)); (case aO => exact (R_at HO_3.out)); (case aS => exact (below_size bel_now)); (case aL => have := LMc17.out; omega); intro v340 w22 ho hb hg hat; rw [← Ny339.out] at ho; have n0_ := Aside0.mk (blk_grown (g := gb330) blk_now hg (Kd.R_ne HO_3.out BK330.out (by decide))); have n1_ := Aside0.mk (blk_grown (g := gb337) blk_now hg (Kd.R_ne HO_3.out BK337.out (by decide))); have n2_ := Aside0.mk (hb); have n3_ := Aside0.mk (ho); clear BK330; clear BK337; clear HB; clear HO_3; have BK330 := n0_; have BK337 := n1_; have HB := n2_; have HO341 := n3_; clear n0_ n1_ n2_ n3_; clear ho hb hg hat))
    go_roundg k1
    case measure => have := HK1.out; omega
    case rel => exact ⟨(y339), (wrap64 (x16_1 + 1)), (by first | rfl | (simp; done) | (simp [*]; done)), H', ⟨by have := HK1.out; omega⟩, ⟨by (with_reducible repeat (first | apply Kd.R_alloc | apply Kd.R_drewN | apply Kd.R_drew)); exact HO341.out⟩, ⟨bks BK330⟩, ⟨bel_now⟩⟩

end Go.Proofs.YtclpojeofclbjaaDoor.PFnExactModelText
