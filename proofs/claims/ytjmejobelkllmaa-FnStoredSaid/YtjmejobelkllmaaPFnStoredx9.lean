import Derived.Test.YtjmejobelkllmaaPFnStoredx0
import Derived.Test.YtjmejobelkllmaaPFnStoredx2
import Derived.Test.YtjmejobelkllmaaPFnStoredx7
import Derived.Test.YtjmejobelkllmaaPFnStoredx8
namespace Go.Proofs.Ytjmejobelkllmaa.PFnStored
open Go.RowKit Go.Proofs.YtjmejobelkllmaaW.PrintWords Go.Proofs.YtjmejobelkllmaaW.PrintLast Go.Proofs.YtjmejobelkllmaaW.PrintMore
attribute [local go_sem] max2_int min2_int max_two min_two max_three min_three max_four min_four
set_option maxHeartbeats 8000000
set_option maxRecDepth 100000
set_option linter.unusedVariables false
set_option linter.unusedSimpArgs false

/-! #### m.Layers[i] = l03Bend(c, m.Layers[i]): the element is lent, bent, and put back -/
def spec_l04DrawLoose.b (k : Nat) (s0 : List Int) (s1 s2 i : Int) (L : List S46) : Option (List S46 × Int × Int) := if 0 ≤ i ∧ i < (L.length : Int) then ((spec_l03Bend.f k s0 s1 s2 (rd_T46 L i).f0 (rd_T46 L i).f1 (rd_T46 L i).f2 (rd_T46 L i).f3 (rd_T46 L i).f4 (rd_T46 L i).f5 (rd_T46 L i).f6 (rd_T46 L i).f7 (rd_T46 L i).f8).bind fun o => some (L.set i.toNat ⟨o.1, o.2.1, o.2.2.1, o.2.2.2.1, o.2.2.2.2.1, o.2.2.2.2.2.1, o.2.2.2.2.2.2.1, o.2.2.2.2.2.2.2.1, o.2.2.2.2.2.2.2.2.1⟩, o.2.2.2.2.2.2.2.2.2.1, o.2.2.2.2.2.2.2.2.2.2)) else none
theorem spec_l04DrawLoose.bpos {k : Nat} {s0 : List Int} {s1 s2 i : Int} {L : List S46} {r : List S46 × Int × Int} (h : spec_l04DrawLoose.b k s0 s1 s2 i L = some r) : 0 ≤ i ∧ i < (L.length : Int) := by
  unfold spec_l04DrawLoose.b at h
  split at h
  · rename_i hi
    exact hi
  · cases h
theorem spec_l04DrawLoose.bend {kq g : Nat} {s0 : List Int} {s1 s2 i s1' s2' : Int} {L L' : List S46} {w0 w W : World} {b n cap gb gb2 : Nat} {o o2 : Obj} (hI : IsS114 w0 W g s0 s1 s2) (hB : Below w0.heap.size w0 W) (hS : Kd.S k46 46 W w.heap.size (fun k => (True ∧ k ≠ gb) ∧ k ≠ gb2) (.slice (some ⟨b, 0, none⟩) n cap) L) (hn : L.length = n) (hw : w0.heap.size ≤ w.heap.size) (hK : KeepBut w W g none) (h1 : W.heap[gb]? = some o) (h2 : W.heap[gb2]? = some o2) (hg1 : gb ≠ g) (hg2 : gb2 ≠ g) (h : spec_l04DrawLoose.b kq s0 s1 s2 i L = some (L', s1', s2')) :
    ∃ (c : List Value) (v7 v8 : Value), c = [.int .i64 (rd_T46 L i).f0, .int .i64 (rd_T46 L i).f1, .int .i64 (rd_T46 L i).f2, .int .i64 (rd_T46 L i).f3, .int .i64 (rd_T46 L i).f4, .int .i64 (rd_T46 L i).f5, .int .i64 (rd_T46 L i).f6, v7, v8] ∧ (∀ j u, c[j]? = some u → W.cell? ⟨b, i.toNat * 9 + j, none⟩ = some u) ∧
      Calls Try.prog 65 #[.pointer (some ⟨g, 0, none⟩), .agg #[.int .i64 (rd_T46 L i).f0, .int .i64 (rd_T46 L i).f1, .int .i64 (rd_T46 L i).f2, .int .i64 (rd_T46 L i).f3, .int .i64 (rd_T46 L i).f4, .int .i64 (rd_T46 L i).f5, .int .i64 (rd_T46 L i).f6, v7, v8]] W fun e w' => ∃ (y : S46) (u7 u8 : Value), e = .returned (.agg #[.int .i64 y.f0, .int .i64 y.f1, .int .i64 y.f2, .int .i64 y.f3, .int .i64 y.f4, .int .i64 y.f5, .int .i64 y.f6, u7, u8]) ∧ L' = L.set i.toNat y ∧ IsS114 w0 w' g s0 s1' s2' ∧ Below w0.heap.size w0 w' ∧ KeepBut w w' g none ∧ w'.heap[gb]? = some o ∧ w'.heap[gb2]? = some o2 ∧ (∀ j u, c[j]? = some u → w'.cell? ⟨b, i.toNat * 9 + j, none⟩ = some u) ∧
        ∃ oki okp : Nat → Prop, Kd.H k46 46 w' w.heap.size (fun k => (True ∧ k ≠ gb) ∧ k ≠ gb2) (.slice (some ⟨b, 0, none⟩) n cap) L i oki c ∧ k46.M w' w.heap.size okp y [.int .i64 y.f0, .int .i64 y.f1, .int .i64 y.f2, .int .i64 y.f3, .int .i64 y.f4, .int .i64 y.f5, .int .i64 y.f6, u7, u8] ∧ ∀ k, okp k → oki k := by
  unfold spec_l04DrawLoose.b at h
  split at h
  · rename_i hi
    rw [hn] at hi
    obtain ⟨⟨r1, r2, r3, r4, r5, r6, r7, r8, r9, r10, r11⟩, hf, h⟩ := Option.bind_eq_some_iff.mp h
    have h := Option.some.inj h
    injection h with e1 h
    injection h with e2 e3
    subst e1 e2 e3
    have hS := IsS114.apartS hI hS (by decide)
    obtain ⟨oki, c, hcl, hM, hcc, hoki, hH⟩ := Kd.S_lend hS z46 i hi.1 hi.2
    obtain ⟨v7, v8, rfl, g7, g8, hx⟩ := k46_openX hM
    have hH2 := Kd.H_widen hH
    refine ⟨_, v7, v8, rfl, hcc, ?_⟩
    have p7 : Kd.R (Kd.int .i64) 3 W w0.heap.size (fun k => some k = v7.ownBlock) v7 (rd_T46 L i).f7 := ⟨fun k e => e.symm, (Kd.R_lower g7 hw).2⟩
    have p8 : Kd.R (Kd.int .i64) 3 W w0.heap.size (fun k => some k = v8.ownBlock) v8 (rd_T46 L i).f8 := ⟨fun k e => e.symm, (Kd.R_lower g8 hw).2⟩
    have o7 : ∀ k, some k = v7.ownBlock → oki k ∧ w.heap.size ≤ k := fun k e => ⟨g7.1 k e.symm, Kd.R_base g7 k e.symm⟩
    have o8 : ∀ k, some k = v8.ownBlock → oki k ∧ w.heap.size ≤ k := fun k e => ⟨g8.1 k e.symm, Kd.R_base g8 k e.symm⟩
    refine (spec_l03Bend.calls kq g s0 s1 s2 (rd_T46 L i).f0 (rd_T46 L i).f1 (rd_T46 L i).f2 (rd_T46 L i).f3 (rd_T46 L i).f4 (rd_T46 L i).f5 (rd_T46 L i).f6 (fun k => some k = v7.ownBlock) v7 (rd_T46 L i).f7 (fun k => some k = v8.ownBlock) v8 (rd_T46 L i).f8 r1 r2 r3 r4 r5 r6 r7 r8 r9 r10 r11 w0 W hI hB p7 (fun k e e' => hx k e.symm e'.symm) p8 (fun k e e' => hx k e'.symm e.symm) hf).mono ?_
    rintro e w' ⟨u7, u8, rfl, q7, q8, hI', hB', hk⟩
    have hin : ∀ k, ((some k = v7.ownBlock ∨ some k = v8.ownBlock) ∨ k = g) → oki k ∨ k = g := fun k hk => hk.elim (fun h => h.elim (fun e => .inl (o7 k e).1) fun e => .inl (o8 k e).1) .inr
    have hge : ∀ k, ((some k = v7.ownBlock ∨ some k = v8.ownBlock) ∨ W.heap.size ≤ k) → w.heap.size ≤ k := fun k hk => hk.elim (fun h => h.elim (fun e => (o7 k e).2) fun e => (o8 k e).2) fun h => Nat.le_trans hK.1 h
    have hgw : g < W.heap.size := hI.lt
    have hnew : ∀ k, ((some k = v7.ownBlock ∨ some k = v8.ownBlock) ∨ W.heap.size ≤ k) → oki k ∨ (((True ∧ k ≠ gb) ∧ k ≠ gb2) ∧ k ≠ g) ∧ W.heap.size ≤ k := fun k hk => hk.elim (fun h => h.elim (fun e => .inl (o7 k e).1) fun e => .inl (o8 k e).1) fun h => .inr ⟨⟨⟨⟨trivial, fun e => by have := blk_lt h1; omega⟩, fun e => by have := blk_lt h2; omega⟩, fun e => by omega⟩, h⟩
    have hH3 : Kd.H k46 46 w' w.heap.size _ (.slice (some ⟨b, 0, none⟩) n cap) L i _ _ := Kd.H_step hH2 (w1 := w') fun k hk_ hn hlt => hk.2 k hlt fun hs => (hin k hs).elim (fun h => hn (.inl h)) hk_.2
    have hH4 := Kd.H_mono hH3 (ok' := fun k => (True ∧ k ≠ gb) ∧ k ≠ gb2) fun k h => h.1
    refine ⟨⟨r1, r2, r3, r4, r5, r6, r7, r8, r9⟩, u7, u8, rfl, rfl, hI', hB', Kept.keepG hK hk fun k hs => hs.elim (fun h => .inr (hge k (.inl h))) .inl, blk_kept h1 hk fun hs => (hin gb hs).elim (fun h => (hoki gb h).1.1.1.2 rfl) hg1, blk_kept h2 hk fun hs => (hin gb2 hs).elim (fun h => (hoki gb2 h).1.1.2 rfl) hg2, ?_, _, (fun k => (some k = v7.ownBlock ∨ some k = v8.ownBlock) ∨ W.heap.size ≤ k), hH4, ?_, hnew⟩
    · obtain ⟨_, _, _, _, _, hcc2, _⟩ := Kd.H_raw hH4 hi.1 hi.2
      exact hcc2
    · have z7 := Kd.R_mono (ok' := fun k => (some k = v7.ownBlock ∨ some k = v8.ownBlock) ∨ W.heap.size ≤ k) (Kd.R_raise (d := Kd.int .i64) (b := w0.heap.size) (b' := w.heap.size) (fun _ _ _ _ h => h) q7 fun k e => hge k (q7.1 k e).1) fun k h => h.1
      have z8 := Kd.R_mono (ok' := fun k => (some k = v7.ownBlock ∨ some k = v8.ownBlock) ∨ W.heap.size ≤ k) (Kd.R_raise (d := Kd.int .i64) (b := w0.heap.size) (b' := w.heap.size) (fun _ _ _ _ h => h) q8 fun k e => hge k (q8.1 k e).1) fun k h => h.1
      exact k46_mkM w' w.heap.size _ ⟨r1, r2, r3, r4, r5, r6, r7, r8, r9⟩ z7 z8 fun k e7 e8 => (q7.1 k e7).2 e8.symm
  · cases h
theorem Kd.H_run {P : Program} {α : Type} {d : Kd α} {e : Nat} {W : World} {base : Nat} {ok oki : Nat → Prop} {g n cap : Nat} {xs : List α} {i : Int} {c : List Value} (t : TypeId) (u : Value) (seg : List Value) (HO : Kd.H d e W base ok (.slice (some ⟨g, 0, none⟩) n cap) xs i oki c) (h0 : 0 ≤ i) (hi : i < n) (hu : u.cells.toList = seg) (ht : (P.info? t).map (·.size) = some seg.length) (h1 : ∀ q ∈ seg, q.oneCell' = true) (hl : seg.length ≤ d.sz) : (Instr.storeAt t (.pointer (some ⟨g, i.toNat * d.sz, none⟩)) u).run P W = .ok () (W.setCells g (i.toNat * d.sz) seg) := by
  obtain ⟨_, f, hR⟩ := HO
  have hnx := (Kd.R_reads' hR).1
  obtain ⟨_, inner, hown, hr⟩ := hR
  rcases hown.2 with ⟨hv, _⟩ | ⟨g', cap', cur, hv, hb, hh, hnc, hcm, hcs, _⟩
  · cases hv
  injection hv with ha _ hc
  injection ha with ha
  injection ha with hg'
  subst hg'
  subst hc
  refine run_store_run t u seg hh hu ht ?_ h1
  have h2 : i.toNat * d.sz + d.sz ≤ n * d.sz := by
    rw [← Nat.succ_mul]
    exact Nat.mul_le_mul_right _ (by omega)
  have h3 : n * d.sz ≤ cap * d.sz := Nat.mul_le_mul_right _ (by omega)
  have h4 : (Kd.gap f d i.toNat c).sz = d.sz := rfl
  rw [h4] at hcs
  omega
theorem run_store_op {P : Program} {oi : Oper} {a : Act} {w w1 : World} {t : TypeId} {p x : Operand} {q u : Value} (ho : oi.op = .store t p x) (hp : a.eval p = q) (hx : a.eval x = u) (hr : (Instr.storeAt t q u).run P w = .ok () w1) : (execOp a.eval oi).run P w = .ok .skip w1 := by
  unfold execOp
  simp only [ho, hp, hx, Sem.run_bind, Sem.run_pure, Result.andThen_ok, hr]
/-- The bent element is put back. -/
theorem spec_l04DrawLoose.put {w W : World} {b n cap gb gb2 : Nat} {L : List S46} {i : Int} {oki okp : Nat → Prop} {c seg : List Value} {y : S46} (h0 : 0 ≤ i) (hi : i < n) (hc : c.length = 9) (hl : seg.length = 9) (hH : Kd.H k46 46 W w.heap.size (fun k => (True ∧ k ≠ gb) ∧ k ≠ gb2) (.slice (some ⟨b, 0, none⟩) n cap) L i oki c) (hM : k46.M W w.heap.size okp y seg) (hok : ∀ k, okp k → oki k) :
    Kd.S k46 46 (W.setCells b (i.toNat * 9) seg) w.heap.size (fun k => (True ∧ k ≠ gb) ∧ k ≠ gb2) (.slice (some ⟨b, 0, none⟩) n cap) (L.set i.toNat y) ∧ W.grownBy (W.setCells b (i.toNat * 9) seg) (Value.slice (some ⟨b, 0, none⟩) n cap).ownBlock ∧ Below w.heap.size W (W.setCells b (i.toNat * 9) seg) := by
  obtain ⟨h2, h3⟩ := Kd.H_seg hH h0 hi (seg := seg) (j := 0) (by rw [hl]; exact Nat.le_refl 9) fun q hq => k46.K_one (k46.K_of_M hM) q hq
  rw [List.take_zero, List.nil_append, Nat.zero_add, List.drop_eq_nil_of_le (by omega), List.append_nil] at h2
  have hne : ∀ k, oki k → k ≠ b := by
    intro k hk he
    subst he
    obtain ⟨_, f, hR⟩ := hH
    exact (hR.1 k (by simp [Value.ownBlock])).2 hk
  have hS := Kd.H_back h2 (Kd.M_step hM fun k hk hlt => h3.block k hlt fun he => hne k (hok k hk) (by injection he)) hok
  have hb := Kd.S_base hS b (by simp [Value.ownBlock])
  exact ⟨hS, by rw [show (Value.slice (some ⟨b, 0, none⟩) n cap).ownBlock = some b by simp [Value.ownBlock]]; exact h3, ⟨h3.os, h3.tape, h3.output, h3.size, fun k hk => setCells_far seg _ k (by omega)⟩⟩
mutual
def spec_l04DrawLoose.j0 : Nat → Bool → List Int → Int → Int → Int → Int → Int → List (S46) → Option (Int × Int × Int × (List (S46)) × Int × Int)
  | 0, _, _, _, _, _, _, _, _ => none
  | k + 1, x14, x1000, x1001, x1002, x353000, x353001, x353002, x353003 => if x14 = true then ((spec_l01Below.f x1000 x1001 x1002 4).bind fun bt356 => (if bt356.1 = 0 then ((spec_l01PickInt.f x1000 bt356.2.1 bt356.2.2 (([0, 9, wrap64 (x353002 + 1)] : List Int))).bind fun bt362 => (some (x353000, x353001, bt362.1, x353003, bt362.2.1, bt362.2.2))) else (if bt356.1 = 1 then ((spec_l01Below.f x1000 bt356.2.1 bt356.2.2 (x353003.length : Int)).bind fun bt365 => ((spec_l04DrawLoose.b k x1000 bt365.2.1 bt365.2.2 bt365.1 x353003).bind fun bt368 => (some (x353000, x353001, x353002, bt368.1, bt368.2.1, bt368.2.2)))) else (if bt356.1 = 2 then (some (x353000, x353001, x353002, ([] : List (S46)), bt356.2.1, bt356.2.2)) else (if bt356.1 = 3 then (spec_l04DrawLoose.l0 k x1000 bt356.2.1 bt356.2.2 x353000 x353001 x353002 x353003) else (some (x353000, x353001, x353002, x353003, bt356.2.1, bt356.2.2))))))) else (some (x353000, x353001, x353002, x353003, x1001, x1002))
def spec_l04DrawLoose.l0 : Nat → List Int → Int → Int → Int → Int → Int → List (S46) → Option (Int × Int × Int × (List (S46)) × Int × Int)
  | 0, _, _, _, _, _, _, _ => none
  | k + 1, x1000, x1001, x1002, x353000, x353001, x353002, x353003 => (spec_l01Below.f x1000 x1001 x1002 2).bind fun bt383 => (if (x353003.length : Int) < (wrap64 (6 + bt383.1)) then (if x353003.length < 1353245080339 then (spec_l04DrawLoose.l0 k x1000 bt383.2.1 bt383.2.2 x353000 x353001 x353002 (x353003 ++ [(⟨4, 0, 0, 0, 0, 0, 0, ([] : List Int), ([] : List Int)⟩ : S46)])) else (none)) else (some (x353000, x353001, x353002, x353003, bt383.2.1, bt383.2.2)))
end
def spec_l04DrawLoose.f (k : Nat) (s0_0 : List Int) (s0_1 : Int) (s0_2 : Int) : Option (Int × Int × Int × (List (S46)) × Int × Int) := (spec_l04DrawModel.f k s0_0 s0_1 s0_2).bind fun bt344 => ((spec_l01Once.f s0_0 bt344.2.2.2.2.1 bt344.2.2.2.2.2 10).bind fun bt353 => (if bt353.1 = true then (spec_l04DrawLoose.j0 k (decide ((bt344.2.2.2.1.length : Int) > 0)) s0_0 bt353.2.1 bt353.2.2 bt344.1 bt344.2.1 bt344.2.2.1 bt344.2.2.2.1) else (spec_l04DrawLoose.j0 k false s0_0 bt353.2.1 bt353.2.2 bt344.1 bt344.2.1 bt344.2.2.1 bt344.2.2.2.1)))
theorem spec_l04DrawLoose.calls (k : Nat) (g : Nat) (s0_0 : List Int) (s0_1 : Int) (s0_2 : Int) (r1 : Int) (r2 : Int) (r3 : Int) (r4 : List (S46)) (r5 : Int) (r6 : Int) (w0 w : World) (hI : IsS114 w0 w g s0_0 s0_1 s0_2) (hB : Below w0.heap.size w0 w) (h : spec_l04DrawLoose.f k s0_0 s0_1 s0_2 = some (r1, r2, r3, r4, r5, r6)) :
   Calls Try.prog 54 #[.pointer (some ⟨g, 0, none⟩)] w fun e w' => ∃ v3_ : Value, e = .returned (.agg #[.int .i64 r1, .int .i64 r2, .int .i64 r3, v3_]) ∧ Kd.S k46 46 w' w.heap.size (fun _ => True) v3_ r4 ∧ IsS114 w0 w' g s0_0 r5 r6 ∧ Below w0.heap.size w0 w' ∧ KeepBut w w' g none := by
  have hu33 := Try.underlying33;have hu46 := Try.underlying46;have HG_ := am hI.lt;have HI0 := am hI;have HK := am (KeepBut.refl w g none);have HL := am hB.size;clear hI;have HW0 := am hB.size;have HB := am hB;clear hB;have H : ((spec_l04DrawModel.f k s0_0 s0_1 s0_2).bind fun bt344 => ((spec_l01Once.f s0_0 bt344.2.2.2.2.1 bt344.2.2.2.2.2 10).bind fun bt353 => (if bt353.1 = true then (spec_l04DrawLoose.j0 k (decide ((bt344.2.2.2.1.length : Int) > 0)) s0_0 bt353.2.1 bt353.2.2 bt344.1 bt344.2.1 bt344.2.2.1 bt344.2.2.2.1) else (spec_l04DrawLoose.j0 k false s0_0 bt353.2.1 bt353.2.2 bt344.1 bt344.2.1 bt344.2.2.1 bt344.2.2.2.1)))) = some (r1, r2, r3, r4, r5, r6) := h;clear h;replace H := Option.bind_eq_some_iff.mp H;obtain ⟨⟨t344, t345, t346, t347, t350, t351⟩, A20, H⟩ := H;(try dsimp only at H);have A2 := am A20;clear A20;have HC3 := am H;clear H
  go_enter Try.func54, Try.ntmps54
  go_upto_region 2 with (first | ((with_reducible refine gate_dst (N := 2) rfl ?_); (try (refine gate_guard (by rfl) ?_; dsimp only)); refine box_event ?hg (N := 2) ?hd (cs := #[.int .i64 0, .int .i64 0, .int .i64 0, .slice none 0 0]) (t := 33) ?hr ?_; (case hd => rfl); (case hg => rfl); (case hr => first | (go_simp; done) | (go_simp; rfl)); intro gb343 hg w4 hbox hb; have BK343 := am (hbox); have GW343 := am ((by rw [hg]; exact (keep_size (w := w) (g := g) (row := none) keepN) : w.heap.size ≤ gb343)); have GE343 := am ((Nat.le_trans HW0.out (by rw [hg]; exact (keep_size (w := w) (g := g) (row := none) keepN) : w.heap.size ≤ gb343) : w0.heap.size ≤ gb343)); replace HK := keep_onB w g hb; have NB0_343 := am ((by rw [hg]; exact Nat.ne_of_lt (IsS114.lt (show IsS114 w0 _ g s0_0 s0_1 s0_2 from is114N)) : g ≠ gb343)); have NB343_0 := am ((by rw [hg]; exact Nat.ne_of_gt (IsS114.lt (show IsS114 w0 _ g s0_0 s0_1 s0_2 from is114N)) : gb343 ≠ g)); replace HI0 := am (IsS114.below is114N hb); replace HB := am (below_step bel_now hb); clear hb hbox hg) | ((with_reducible refine gate_callee (f := 83) rfl ?_); refine gM 6 Try.func83 #[.pointer (some ⟨g, 0, none⟩)] rfl ?_; (with_reducible refine (spec_l04DrawModel.calls k g s0_0 s0_1 s0_2 t344 t345 t346 t347 t350 t351 w0 _ ?side1 ?side2 A2.out).mono ?_); (case side1 => exact is114N); (case side2 => exact bel_now); rintro e w5 ⟨v348, rfl, ho0, hi, hb, hk⟩; refine ⟨_, rfl, ?_⟩; replace BK343 := blkK gb343 hk; have HO349 := am (Kd.S_lower ho0 (keep_size (w := w) (g := g) (row := none) keepN)); replace HK := keep_on w hk; replace HB := am (hb); replace HI0 := am (hi); (try clear hb hk hi ho0)) | ((with_reducible refine gate_dst (N := 3) rfl ?_); (try (refine gate_guard (by rfl) ?_; dsimp only)); refine box_event ?hg (N := 3) ?hd (cs := #[.int .i64 0, .int .i64 0, .int .i64 0, .slice none 0 0]) (t := 33) ?hr ?_; (case hd => rfl); (case hg => rfl); (case hr => first | (go_simp; done) | (go_simp; rfl)); intro gb352 hg w6 hbox hb; have n5_ := am (hbox); have n6_ := am ((by rw [hg]; exact (keep_size (w := w) (g := g) (row := none) keepN) : w.heap.size ≤ gb352)); have n7_ := am ((Nat.le_trans HW0.out (by rw [hg]; exact (keep_size (w := w) (g := g) (row := none) keepN) : w.heap.size ≤ gb352) : w0.heap.size ≤ gb352)); have n10_ := am ((by rw [hg]; exact Nat.ne_of_lt (IsS114.lt (show IsS114 w0 _ g s0_0 t350 t351 from is114N)) : g ≠ gb352)); have n11_ := am ((by rw [hg]; exact Nat.ne_of_gt (IsS114.lt (show IsS114 w0 _ g s0_0 t350 t351 from is114N)) : gb352 ≠ g)); have n4_ := am (below_step bel_now hb); obtain ⟨BK343, NB343_352, NB352_343⟩ := box_on gb343 hb hg; replace HO349 := am (Kd.S_below (S_at HO349.out) hb); replace HI0 := am (IsS114.below is114N hb); replace HK := keep_onB w g hb; clear HB; have BK352 := n5_; have GW352 := n6_; have GE352 := n7_; have NB0_352 := n10_; have NB352_0 := n11_; have HB := n4_; clear n5_ n6_ n7_ n10_ n11_ n4_; clear hb hbox hg; have hn7 := ne2 NB352_343; have hn8 := ne2 NB352_0; have hcz9 := cells4 BK352.out; obtain ⟨Ao10, co10, eo10⟩ := Kd.S_slice HO349.out; subst eo10))
  (try simp only [Act.put, zA, zB, zC])
  go_cut [14] (fun v14 wc => ∃ (kq : Nat) (x14_2 : Bool) (x1001_2 : Int) (x1002_2 : Int), v14 = .bool x14_2 ∧ Aside0 (spec_l04DrawLoose.j0 kq x14_2 s0_0 x1001_2 x1002_2 t344 t345 t346 t347 = some (r1, r2, r3, r4, r5, r6)) ∧ Aside0 (kq ≤ k) ∧ Aside0 (Kd.S k46 46 wc w.heap.size (fun _ => True) (.slice Ao10 t347.length co10) t347) ∧ Aside0 (wc.heap[gb343]? = some (.cells #[.int .i64 0, .int .i64 0, .int .i64 0, (.slice none 0 0)] 33 (0, 0))) ∧ Aside0 (wc.heap[gb352]? = some (.cells #[.int .i64 t344, .int .i64 t345, .int .i64 t346, (.slice Ao10 t347.length co10)] 33 (0, 0))) ∧ Aside0 (IsS114 w0 wc g s0_0 x1001_2 x1002_2) ∧ Aside0 (KeepBut w wc g none) ∧ Aside0 (Below w0.heap.size w0 wc))
  case first =>
   have H := HC3.out;clear HC3;replace H := Option.bind_eq_some_iff.mp H;obtain ⟨⟨t353, t354, t355⟩, A110, H⟩ := H;(try dsimp only at H);have A11 := am A110;clear A110;by_cases c12 : t353 = true
   ·subst c12;rw [if_pos rfl] at H;have H' := am H;clear H
    go_wp2_with (first | ((with_reducible refine gate_callee (f := 43) rfl ?_); refine gM 8 Try.func43 #[.pointer (some ⟨g, 0, none⟩), .int .i64 10] rfl ?_; (with_reducible refine (spec_l01Once.calls g s0_0 t350 t351 10 true t354 t355 w0 _ ?side1 ?side2 A11.out).mono ?_); (case side1 => exact is114N); (case side2 => exact bel_now); rintro e w13 ⟨rfl, hi, hb, hk⟩; refine ⟨_, rfl, ?_⟩; replace BK343 := blkK gb343 hk; replace HO349 := am (Kd.S_mono (Kd.S_keep (IsS114.apartS (show IsS114 w0 _ g s0_0 t350 t351 from is114N) (by (with_reducible repeat (first | apply Kd.S_alloc | apply Kd.S_drewN | apply Kd.S_drew)); exact (Kd.S_mono (Kd.S_far (p := ⟨gb352, 3, none⟩) (Kd.S_far (p := ⟨gb352, 2, none⟩) (Kd.S_far (p := ⟨gb352, 1, none⟩) (Kd.S_far (p := ⟨gb352, 0, none⟩) (Kd.S_types HO349.out BK352.out (by decide)) (fun _ hk => hk.2) (.int .i64 t344)) (fun _ hk => hk.2) (.int .i64 t345)) (fun _ hk => hk.2) (.int .i64 t346)) (fun _ hk => hk.2) (.slice Ao10 t347.length co10)) (fun _ h_ => h_.1))) (by decide)) hk (fun _ h => h.2)) (fun _ h => h.1)); replace BK352 := am (KeepBut.blk hk (g' := gb352) (o := .cells #[.int .i64 t344, .int .i64 t345, .int .i64 t346, .slice Ao10 t347.length co10] 33 (0, 0)) (blk_fars (puts4 BK352.out)) NB352_0.out (by simp)); replace HK := keep_on w hk; replace HB := am (hb); replace HI0 := am (hi); (try clear hb hk hi); have hn14 := ne2 NB352_343; have hn15 := ne2 NB352_0; have hcz16 := cells4 BK352.out))
    go_meet
    case rel => exact ⟨_, (decide ((t347.length : Int) > 0)), (t354), (t355), pv, H', ⟨by first | omega | exact Nat.le_refl _⟩, ⟨S_at HO349.out⟩, ⟨bks BK343⟩, ⟨bks BK352⟩, ⟨is114N⟩, ⟨keepN⟩, ⟨bel_now⟩⟩
   replace c12 := Bool.eq_false_iff.mpr c12;subst c12
   rw [if_neg (show ¬ (false = true) by decide)] at H
   have H' := am H;clear H
   go_wp2_with (first | ((with_reducible refine gate_callee (f := 43) rfl ?_); refine gM 8 Try.func43 #[.pointer (some ⟨g, 0, none⟩), .int .i64 10] rfl ?_; (with_reducible refine (spec_l01Once.calls g s0_0 t350 t351 10 false t354 t355 w0 _ ?side1 ?side2 A11.out).mono ?_); (case side1 => exact is114N); (case side2 => exact bel_now); rintro e w17 ⟨rfl, hi, hb, hk⟩; refine ⟨_, rfl, ?_⟩; replace BK343 := blkK gb343 hk; replace HO349 := am (Kd.S_mono (Kd.S_keep (IsS114.apartS (show IsS114 w0 _ g s0_0 t350 t351 from is114N) (by (with_reducible repeat (first | apply Kd.S_alloc | apply Kd.S_drewN | apply Kd.S_drew)); exact (Kd.S_mono (Kd.S_far (p := ⟨gb352, 3, none⟩) (Kd.S_far (p := ⟨gb352, 2, none⟩) (Kd.S_far (p := ⟨gb352, 1, none⟩) (Kd.S_far (p := ⟨gb352, 0, none⟩) (Kd.S_types HO349.out BK352.out (by decide)) (fun _ hk => hk.2) (.int .i64 t344)) (fun _ hk => hk.2) (.int .i64 t345)) (fun _ hk => hk.2) (.int .i64 t346)) (fun _ hk => hk.2) (.slice Ao10 t347.length co10)) (fun _ h_ => h_.1))) (by decide)) hk (fun _ h => h.2)) (fun _ h => h.1)); replace BK352 := am (KeepBut.blk hk (g' := gb352) (o := .cells #[.int .i64 t344, .int .i64 t345, .int .i64 t346, .slice Ao10 t347.length co10] 33 (0, 0)) (blk_fars (puts4 BK352.out)) NB352_0.out (by simp)); replace HK := keep_on w hk; replace HB := am (hb); replace HI0 := am (hi); (try clear hb hk hi)))
   go_meet
   case rel => exact ⟨_, (false), (t354), (t355), pv, H', ⟨by first | omega | exact Nat.le_refl _⟩, ⟨S_at HO349.out⟩, ⟨bks BK343⟩, ⟨bks BK352⟩, ⟨is114N⟩, ⟨keepN⟩, ⟨bel_now⟩⟩
  case rest =>
   clear HC3;try clear hcz9
   obtain ⟨kq, x14_2, x1001_2, x1002_2, rfl, HA, HJ2, HO_353003, BK343, BK352, HI0, HK, HB⟩ := hcut
   cases kq with
   | zero => exact absurd HA.out (by simp [spec_l04DrawLoose.j0])
   | succ kj2 =>
    have H := HA.out;clear HA;simp only [spec_l04DrawLoose.j0] at H;by_cases c18 : x14_2 = true;rotate_left
    ·replace c18 := Bool.eq_false_iff.mpr c18;subst c18
     rw [if_neg (show ¬ (false = true) by decide)] at H
     simp only [Option.some.injEq, Prod.mk.injEq] at H;obtain ⟨rfl, rfl, rfl, rfl, rfl, rfl⟩ := H;have hn80 := ne2 NB352_343;have hn81 := ne2 NB352_0;have hcz82 := cells4 BK352.out;have hn83 := ne2 NB343_0;have hcz84 := cells4 BK343.out
     go_wp2
     refine bodyPost_ret (results_cell_row rfl _ _ gb343 33 #[.int .i64 t344, .int .i64 t345, .int .i64 t346, .slice Ao10 t347.length co10] (0, 0) _ rfl (blk_fars (puts4 BK343.out)) Try.underlying33 rfl (by kernel_rfl)) rfl ?_
     exact ⟨_, eqN, by (with_reducible repeat (first | apply Kd.S_alloc | apply Kd.S_drewN | apply Kd.S_drew)); exact Kd.S_mono (Kd.S_far (p := ⟨gb343, 3, none⟩) (Kd.S_far (p := ⟨gb343, 2, none⟩) (Kd.S_far (p := ⟨gb343, 1, none⟩) (Kd.S_far (p := ⟨gb343, 0, none⟩) (Kd.S_types HO_353003.out BK343.out (by decide)) (fun _ hk => hk.2) (.int .i64 t344)) (fun _ hk => hk.2) (.int .i64 t345)) (fun _ hk => hk.2) (.int .i64 t346)) (fun _ hk => hk.2) (.slice Ao10 t347.length co10)) (fun _ hk => trivial), is114N, bel_now, keepN⟩
    subst c18;rw [if_pos rfl] at H;replace H := Option.bind_eq_some_iff.mp H;obtain ⟨⟨t356, t357, t358⟩, A190, H⟩ := H;(try dsimp only at H);have A19 := am A190;clear A190;by_cases c20 : t356 = 0
    ·rw [if_pos c20] at H;have c20b0 : (t356 == 0) = true := beq_iff_eq.mpr c20;have c20b1 : (t356 != 0) = false := bne_eq_false_iff_eq.mpr c20;clear c20;obtain ⟨y359, hy359⟩ : ∃ y_ : List Int, y_ = (([0, 9, wrap64 (t346 + 1)] : List Int)) := ⟨_, rfl⟩;replace H : ((spec_l01PickInt.f s0_0 t357 t358 y359).bind fun bt362 => (some (t344, t345, bt362.1, t347, bt362.2.1, bt362.2.2))) = some (r1, r2, r3, r4, r5, r6) := by (try rw [hy359]); first | with_reducible exact H | exact (Option.bind_some _ _).symm.trans H | exact H
     have Ny359 := am hy359;clear hy359;replace H := Option.bind_eq_some_iff.mp H;obtain ⟨⟨t362, t363, t364⟩, A210, H⟩ := H;(try dsimp only at H);have A21 := am A210;clear A210;simp only [Option.some.injEq, Prod.mk.injEq] at H;obtain ⟨rfl, rfl, rfl, rfl, rfl, rfl⟩ := H
     go_wp2_with (first | ((with_reducible refine gate_callee (f := 67) rfl ?_); refine gM 16 Try.func67 #[.pointer (some ⟨g, 0, none⟩), .int .i64 4] rfl ?_; (with_reducible refine (spec_l01Below.calls g s0_0 x1001_2 x1002_2 4 t356 t357 t358 w0 _ ?side1 ?side2 A19.out).mono ?_); (case side1 => exact is114N); (case side2 => exact bel_now); rintro e w22 ⟨rfl, hi, hb, hk⟩; refine ⟨_, rfl, ?_⟩; replace HO_353003 := am (Kd.S_mono (Kd.S_keep (IsS114.apartS (show IsS114 w0 _ g s0_0 x1001_2 x1002_2 from is114N) (S_at HO_353003.out) (by decide)) hk (fun _ h => h.2)) (fun _ h => h.1)); replace BK343 := blkK gb343 hk; replace BK352 := blkK gb352 hk; replace HK := keep_on w hk; replace HB := am (hb); replace HI0 := am (hi); (try clear hb hk hi); have hn23 := ne2 NB352_343; have hn24 := ne2 NB352_0; have hcz25 := cells4 BK352.out) | ((with_reducible refine gate_dst (N := 24) rfl ?_); (try (refine gate_guard (by rfl) ?_; dsimp only)); refine Kd.R_lit (Kd.int .i64) _ 3 ?hg (N := 24) ?hd (xs := ([0, 9, wrap64 (t346 + 1)] : List Int)) (inner := [.int .i64 0, .int .i64 9, .int .i64 (wrap64 (t346 + 1))]) (ok := fun _ => True) (okp := fun _ => True) ?hr ?hp (fun _ hk => hk) trivial (Below.refl _ _) (Nat.le_refl _) (by simp) ?_; (case hd => rfl); (case hg => rfl); (case hr => first | (go_simp; done) | (go_simp; rfl)); (case hp => exact (Reps.one (show Kd.M (Kd.int .i64) _ _ _ 0 [.int .i64 0] from rfl) (Reps.one (show Kd.M (Kd.int .i64) _ _ _ 9 [.int .i64 9] from rfl) (Reps.one (show Kd.M (Kd.int .i64) _ _ _ (wrap64 (t346 + 1)) [.int .i64 (wrap64 (t346 + 1))] from rfl) (Reps.none _ _))))); intro v360 w26 ho27 hb hg_ hnew_; clear hg_ hnew_; (first | rw [← Ny359.out] at ho27 | (simp only [Int.reduceToNat] at ho27; rw [← Ny359.out] at ho27)); have n1_ := am (Kd.R_lower ho27 (keep_size (w := w) (g := g) (row := none) keepN)); have n6_ := am (below_step bel_now hb); replace HO_353003 := am (Kd.S_elder' (S_at HO_353003.out) (Kd.R_base ho27) hb); replace HI0 := am (IsS114.below is114N hb); replace HK := keep_onB w g hb; replace BK343 := blk_on gb343 hb; replace BK352 := blk_on gb352 hb; clear HB; have HO361 := n1_; have HB := n6_; clear n1_ n6_; clear hb ho27; obtain ⟨Ao28, co28, eo28⟩ := Kd.R_slice HO361.out; subst eo28) | ((with_reducible refine gate_callee (f := 63) rfl ?_); refine gM 25 Try.func63 #[.pointer (some ⟨g, 0, none⟩), .slice Ao28 y359.length co28] rfl ?_; (with_reducible refine (spec_l01PickInt.calls g s0_0 t357 t358 _ _ y359 t362 t363 t364 w0 _ ?side1 ?side2 ?side3 ?side4 ?side5 A21.out).mono ?_); (case side1 => exact is114N); (case side2 => exact bel_now); (case side3 => exact (Kd.R_reads' (R_at HO361.out)).2.2); (case side4 => exact (Kd.R_reads' HO361.out).2.1); (case side5 => exact far_slice (IsS114.own_ne HI0.out HO361.out (by decide))); rintro e w29 ⟨rfl, hi, hb, hk⟩; refine ⟨_, rfl, ?_⟩; replace HO_353003 := am (Kd.S_mono (Kd.S_keep (IsS114.apartS (show IsS114 w0 _ g s0_0 t357 t358 from is114N) (S_at HO_353003.out) (by decide)) hk (fun _ h => h.2)) (fun _ h => h.1)); replace BK343 := blkK gb343 hk; replace BK352 := blkK gb352 hk; replace HO361 := am (Kd.R_mono (Kd.R_keep (IsS114.apart (show IsS114 w0 _ g s0_0 t357 t358 from is114N) (R_at HO361.out) (by decide)) hk (fun _ h => h.2)) (fun _ h => h.1)); replace HK := keep_on w hk; replace HB := am (hb); replace HI0 := am (hi); (try clear hb hk hi); have hcz30 := cells4 BK352.out; have hn31 := ne2 NB343_0; have hcz32 := cells4 BK343.out))
     refine bodyPost_ret (results_cell_row rfl _ _ gb343 33 #[.int .i64 t344, .int .i64 t345, .int .i64 t362, .slice Ao10 t347.length co10] (0, 0) _ rfl blkN Try.underlying33 rfl (by kernel_rfl)) rfl ?_
     exact ⟨_, eqN, by (with_reducible repeat (first | apply Kd.S_alloc | apply Kd.S_drewN | apply Kd.S_drew)); exact Kd.S_mono (Kd.S_far (p := ⟨gb343, 3, none⟩) (Kd.S_far (p := ⟨gb343, 2, none⟩) (Kd.S_far (p := ⟨gb343, 1, none⟩) (Kd.S_far (p := ⟨gb343, 0, none⟩) (Kd.S_far (p := ⟨gb352, 2, none⟩) (Kd.S_types (Kd.S_types HO_353003.out BK352.out (by decide)) BK343.out (by decide)) (fun _ hk => hk.1.2) (.int .i64 t362)) (fun _ hk => hk.2) (.int .i64 t344)) (fun _ hk => hk.2) (.int .i64 t345)) (fun _ hk => hk.2) (.int .i64 t362)) (fun _ hk => hk.2) (.slice Ao10 t347.length co10)) (fun _ hk => trivial), is114N, bel_now, keepN⟩
    rw [if_neg c20] at H;have c20b0 : (t356 == 0) = false := beq_eq_false_iff_ne.mpr c20;have c20b1 : (t356 != 0) = true := bne_iff_ne.mpr c20;by_cases c33 : t356 = 1
    ·rw [if_pos c33] at H;have c33b0 : (t356 == 1) = true := beq_iff_eq.mpr c33;have c33b1 : (t356 != 1) = false := bne_eq_false_iff_eq.mpr c33;clear c33;replace H := Option.bind_eq_some_iff.mp H;obtain ⟨⟨t365, t366, t367⟩, A340, H⟩ := H;(try dsimp only at H);have A34 := am A340;clear A340;replace H := Option.bind_eq_some_iff.mp H;obtain ⟨⟨t368, t369, t370⟩, A350, H⟩ := H;(try dsimp only at H);have A35 := am A350;clear A350;simp only [Option.some.injEq, Prod.mk.injEq] at H;obtain ⟨rfl, rfl, rfl, rfl, rfl, rfl⟩ := H
     go_wp2_with (first | ((with_reducible refine gate_callee (f := 67) rfl ?_); refine gM 16 Try.func67 #[.pointer (some ⟨g, 0, none⟩), .int .i64 4] rfl ?_; (with_reducible refine (spec_l01Below.calls g s0_0 x1001_2 x1002_2 4 t356 t357 t358 w0 _ ?side1 ?side2 A19.out).mono ?_); (case side1 => exact is114N); (case side2 => exact bel_now); rintro e w36 ⟨rfl, hi, hb, hk⟩; refine ⟨_, rfl, ?_⟩; replace HO_353003 := am (Kd.S_mono (Kd.S_keep (IsS114.apartS (show IsS114 w0 _ g s0_0 x1001_2 x1002_2 from is114N) (S_at HO_353003.out) (by decide)) hk (fun _ h => h.2)) (fun _ h => h.1)); replace BK343 := blkK gb343 hk; replace BK352 := blkK gb352 hk; replace HK := keep_on w hk; replace HB := am (hb); replace HI0 := am (hi); (try clear hb hk hi); have hn37 := ne2 NB352_343; have hn38 := ne2 NB352_0; have hcz39 := cells4 BK352.out) | ((with_reducible refine gate_callee (f := 67) rfl ?_); refine gM 34 Try.func67 #[.pointer (some ⟨g, 0, none⟩), .int .i64 (t347.length : Int)] rfl ?_; (with_reducible refine (spec_l01Below.calls g s0_0 t357 t358 (t347.length : Int) t365 t366 t367 w0 _ ?side1 ?side2 A34.out).mono ?_); (case side1 => exact is114N); (case side2 => exact bel_now); rintro e w40 ⟨rfl, hi, hb, hk⟩; refine ⟨_, rfl, ?_⟩; replace HO_353003 := am (Kd.S_mono (Kd.S_keep (IsS114.apartS (show IsS114 w0 _ g s0_0 t357 t358 from is114N) (S_at HO_353003.out) (by decide)) hk (fun _ h => h.2)) (fun _ h => h.1)); replace BK343 := blkK gb343 hk; replace BK352 := blkK gb352 hk; replace HK := keep_on w hk; replace HB := am (hb); replace HI0 := am (hi); (try clear hb hk hi)))
     try go_wp2
     replace HO_353003 := am (Kd.S_drew HO_353003.out);replace BK343 := am (blk_drew BK343.out);replace BK352 := am (blk_drew BK352.out);replace HI0 := am (IsS114.drew HI0.out);replace HK := am (keep_drew HK.out);replace HB := am (below_drew1 HB.out);have hi_ := spec_l04DrawLoose.bpos A35.out;obtain ⟨b_, cap_, hv_, -⟩ := Kd.R_form (Kd.S_R HO_353003.out) (by omega)
     injection hv_ with e1_ e2_ e3_;subst e1_;subst e3_;obtain ⟨c_, v7_, v8_, hc_, hcc_, hcall_⟩ := spec_l04DrawLoose.bend HI0.out HB.out (Kd.S_types (Kd.S_types HO_353003.out BK343.out (by decide)) BK352.out (by decide)) rfl HL.out HK.out BK343.out BK352.out NB343_0.out NB352_0.out A35.out;subst hc_;have nb0_ := IsS114.own_neS HI0.out HO_353003.out (by decide);have nb1_ := Kd.S_ne HO_353003.out BK343.out (by decide);have nb2_ := Kd.S_ne HO_353003.out BK352.out (by decide);have p_ := eq_true hi_.1;have q_ := eq_true hi_.2
     refine start_ (n := 12) (S := fun w' => w'.cell? ⟨gb352, 0, none⟩ = some (.int .i64 t344) ∧ w'.cell? ⟨gb352, 1, none⟩ = some (.int .i64 t345) ∧ w'.cell? ⟨gb352, 2, none⟩ = some (.int .i64 t346) ∧ w'.cell? ⟨gb352, 3, none⟩ = some (.slice (some ⟨b_, 0, none⟩) t347.length co10) ∧ w'.cell? ⟨b_, t365.toNat * 9, none⟩ = some (.int .i64 (rd_T46 t347 t365).f0) ∧ w'.cell? ⟨b_, t365.toNat * 9 + 1, none⟩ = some (.int .i64 (rd_T46 t347 t365).f1) ∧ w'.cell? ⟨b_, t365.toNat * 9 + 2, none⟩ = some (.int .i64 (rd_T46 t347 t365).f2) ∧ w'.cell? ⟨b_, t365.toNat * 9 + 3, none⟩ = some (.int .i64 (rd_T46 t347 t365).f3) ∧ w'.cell? ⟨b_, t365.toNat * 9 + 4, none⟩ = some (.int .i64 (rd_T46 t347 t365).f4) ∧ w'.cell? ⟨b_, t365.toNat * 9 + 5, none⟩ = some (.int .i64 (rd_T46 t347 t365).f5) ∧ w'.cell? ⟨b_, t365.toNat * 9 + 6, none⟩ = some (.int .i64 (rd_T46 t347 t365).f6) ∧ w'.cell? ⟨b_, t365.toNat * 9 + 7, none⟩ = some v7_ ∧ w'.cell? ⟨b_, t365.toNat * 9 + 8, none⟩ = some v8_) (ds := [11]) #[O, O, O, O, O, O, O, O, O, O, O, O] (by kernel_rfl) rfl rfl ⟨bc BK352 0, bc BK352 1, bc BK352 2, bc BK352 3, hcc_ 0 _ rfl, hcc_ 1 _ rfl, hcc_ 2 _ rfl, hcc_ 3 _ rfl, hcc_ 4 _ rfl, hcc_ 5 _ rfl, hcc_ 6 _ rfl, hcc_ 7 _ rfl, hcc_ 8 _ rfl⟩ (fun hHeld => ?_)
     generalize w40.drew = w_ at HO_353003 BK343 BK352 HI0 HK HB hHeld hcc_ hcall_ ⊢
     refine stepP 0 (some 35) (tk 12 1) (by kernel_rfl) ?_
     refine stepT 1 (some 36) (tk 12 3) (by kernel_rfl) hHeld ?_
     refine stepP 2 (some 37) (tk 12 7) (by kernel_rfl) ?_
     refine stepP 3 (some 38) (tk 12 15) (by kernel_rfl) ?_
     refine stepP 4 (some 39) (tk 12 31) (by kernel_rfl) ?_
     refine stepT 5 (some 40) (tk 12 63) (by kernel_rfl) hHeld ?_
     refine stepP 6 (some 41) (tk 12 127) (by kernel_rfl) ?_
     refine stepP 7 (some 42) (tk 12 255) (by kernel_rfl) ?_
     refine stepT 8 (some 43) (tk 12 511) (by kernel_rfl) hHeld ?_
     refine one_ (i := 9) (N := some 44) #[I, I, I, I, I, I, I, I, I, I, O, O] rfl rfl (by kernel_rfl) (by decide) (fun K hK => ?_)
     refine goes_ Try.func65 (by kernel_rfl) rfl #[.pointer (some ⟨g, 0, none⟩), .agg #[.int .i64 (rd_T46 t347 t365).f0, .int .i64 (rd_T46 t347 t365).f1, .int .i64 (rd_T46 t347 t365).f2, .int .i64 (rd_T46 t347 t365).f3, .int .i64 (rd_T46 t347 t365).f4, .int .i64 (rd_T46 t347 t365).f5, .int .i64 (rd_T46 t347 t365).f6, v7_, v8_]] (by rfl) rfl rfl (by (try simp only [List.map_toArray, List.map_cons, List.map_nil]); first | done | rfl | (simp only [List.length_drop, List.length_take]; rfl)) ?_
     refine hcall_.mono ?_
     rintro e w2_ ⟨y_, u7_, u8_, rfl, hL_, hi, hb, hk, h1_, h2_, hcc2_, oki_, okp_, hH_, hM_, hok_⟩
     refine ⟨_, rfl, ?_⟩
     replace HI0 := am hi;replace HB := am hb;replace HK := am hk;replace BK343 := am h1_;replace BK352 := am h2_;clear hi hb hk h1_ h2_ hcc_ HO_353003
     refine hK.out _ _ ⟨bc BK352 0, bc BK352 1, bc BK352 2, bc BK352 3, hcc2_ 0 _ rfl, hcc2_ 1 _ rfl, hcc2_ 2 _ rfl, hcc2_ 3 _ rfl, hcc2_ 4 _ rfl, hcc2_ 5 _ rfl, hcc2_ 6 _ rfl, hcc2_ 7 _ rfl, hcc2_ 8 _ rfl⟩ (fun hHeld => ?_)
     clear hK K
     refine normP 44 ?_
     refine stepP 10 (some 45) (tk 12 2047) (by kernel_rfl) ?_
     refine last_ (i := 11) (N := none) #[I, I, I, I, I, I, I, I, I, I, I, I] rfl rfl (by kernel_rfl) (by decide) (fun K hK => ?_)
     obtain ⟨hS_, hg_, hb_⟩ := spec_l04DrawLoose.put hi_.1 hi_.2 rfl rfl hH_ hM_ hok_;have hr_ : (Instr.storeAt 46 (.pointer (some ⟨b_, t365.toNat * 9, none⟩)) (.agg #[.int .i64 y_.f0, .int .i64 y_.f1, .int .i64 y_.f2, .int .i64 y_.f3, .int .i64 y_.f4, .int .i64 y_.f5, .int .i64 y_.f6, u7_, u8_])).run Try.prog w2_ = .ok () (w2_.setCells b_ (t365.toNat * 9) [.int .i64 y_.f0, .int .i64 y_.f1, .int .i64 y_.f2, .int .i64 y_.f3, .int .i64 y_.f4, .int .i64 y_.f5, .int .i64 y_.f6, u7_, u8_]) := Kd.H_run 46 (.agg #[.int .i64 y_.f0, .int .i64 y_.f1, .int .i64 y_.f2, .int .i64 y_.f3, .int .i64 y_.f4, .int .i64 y_.f5, .int .i64 y_.f6, u7_, u8_]) [.int .i64 y_.f0, .int .i64 y_.f1, .int .i64 y_.f2, .int .i64 y_.f3, .int .i64 y_.f4, .int .i64 y_.f5, .int .i64 y_.f6, u7_, u8_] hH_ hi_.1 hi_.2 rfl rfl (fun q hq => k46.K_one (k46.K_of_M hM_) q hq) (Nat.le_refl 9)
     refine skip_ (by rfl) rfl (run_store_op rfl (by rfl) (by rfl) hr_) ?_
     refine hK.out _ _ ?_
     clear hK K
     rw [← hL_] at hS_;clear hL_ hr_ hH_ hM_ hok_ hcc2_;generalize w2_.setCells b_ (t365.toNat * 9) [.int .i64 y_.f0, .int .i64 y_.f1, .int .i64 y_.f2, .int .i64 y_.f3, .int .i64 y_.f4, .int .i64 y_.f5, .int .i64 y_.f6, u7_, u8_] = w3_ at hS_ hg_ hb_ ⊢
     replace HI0 := am (IsS114.grown HI0.out hg_ nb0_);replace BK343 := am (blk_grown (g := gb343) BK343.out hg_ nb1_);replace BK352 := am (blk_grown (g := gb352) BK352.out hg_ nb2_);replace HB := am (below_weaken HB.out HL.out hb_);replace HK := am (KeepBut.trans HK.out (KeepBut.of_grown hg_ g) (Kd.S_base2 hS_));have HO_353003 := am hS_;clear hS_ hg_ hb_
     refine done_ (by kernel_rfl) ?_
     have hcz_ := cells4 BK352.out;have hcy_ := cells4 BK343.out;have hny_ := ne2 NB352_343
     try go_wp2
     refine bodyPost_ret (results_cell_row rfl _ _ gb343 33 #[.int .i64 t344, .int .i64 t345, .int .i64 t346, .slice (some ⟨b_, 0, none⟩) t347.length co10] (0, 0) _ rfl (blk_fars (puts4 BK343.out)) Try.underlying33 rfl (by kernel_rfl)) rfl ?_
     exact ⟨_, eqN, by (with_reducible repeat (first | apply Kd.S_alloc | apply Kd.S_drewN | apply Kd.S_drew)); exact Kd.S_mono (Kd.S_far (p := ⟨gb343, 3, none⟩) (Kd.S_far (p := ⟨gb343, 2, none⟩) (Kd.S_far (p := ⟨gb343, 1, none⟩) (Kd.S_far (p := ⟨gb343, 0, none⟩) (Kd.S_mono (ok' := fun k_ => True ∧ k_ ≠ gb343) HO_353003.out (fun _ hk => ⟨trivial, hk.1.2⟩)) (fun _ hk => hk.2) (.int .i64 t344)) (fun _ hk => hk.2) (.int .i64 t345)) (fun _ hk => hk.2) (.int .i64 t346)) (fun _ hk => hk.2) (.slice (some ⟨b_, 0, none⟩) t347.length co10)) (fun _ hk => trivial), is114N, bel_now, keepN⟩
    rw [if_neg c33] at H;have c33b0 : (t356 == 1) = false := beq_eq_false_iff_ne.mpr c33;have c33b1 : (t356 != 1) = true := bne_iff_ne.mpr c33;by_cases c45 : t356 = 2
    ·rw [if_pos c45] at H;have c45b0 : (t356 == 2) = true := beq_iff_eq.mpr c45;have c45b1 : (t356 != 2) = false := bne_eq_false_iff_eq.mpr c45;clear c45;simp only [Option.some.injEq, Prod.mk.injEq] at H;obtain ⟨rfl, rfl, rfl, rfl, rfl, rfl⟩ := H
     go_wp2_with (first | ((with_reducible refine gate_callee (f := 67) rfl ?_); refine gM 16 Try.func67 #[.pointer (some ⟨g, 0, none⟩), .int .i64 4] rfl ?_; (with_reducible refine (spec_l01Below.calls g s0_0 x1001_2 x1002_2 4 t356 t357 t358 w0 _ ?side1 ?side2 A19.out).mono ?_); (case side1 => exact is114N); (case side2 => exact bel_now); rintro e w46 ⟨rfl, hi, hb, hk⟩; refine ⟨_, rfl, ?_⟩; replace HO_353003 := am (Kd.S_mono (Kd.S_keep (IsS114.apartS (show IsS114 w0 _ g s0_0 x1001_2 x1002_2 from is114N) (S_at HO_353003.out) (by decide)) hk (fun _ h => h.2)) (fun _ h => h.1)); replace BK343 := blkK gb343 hk; replace BK352 := blkK gb352 hk; replace HK := keep_on w hk; replace HB := am (hb); replace HI0 := am (hi); (try clear hb hk hi); have hn47 := ne2 NB352_343; have hn48 := ne2 NB352_0; have hcz49 := cells4 BK352.out; have hn50 := ne2 NB343_0; have hcz51 := cells4 BK343.out))
     refine bodyPost_ret (results_cell_row rfl _ _ gb343 33 #[.int .i64 t344, .int .i64 t345, .int .i64 t346, .slice none 0 0] (0, 0) _ rfl blkN Try.underlying33 rfl (by kernel_rfl)) rfl ?_
     exact ⟨_, eqN, by first | exact Kd.S_nil _ _ _ _ _ | exact Kd.N_nil _ _ _ _ _ | exact Kd.V_nil _ _ _ _ _ | exact Kd.Q_nil _ _ _ _ _ | exact Kd.R_nil _ _ _ _ _, is114N, bel_now, keepN⟩
    rw [if_neg c45] at H;have c45b0 : (t356 == 2) = false := beq_eq_false_iff_ne.mpr c45;have c45b1 : (t356 != 2) = true := bne_iff_ne.mpr c45;by_cases c52 : t356 = 3;rotate_left
    ·rw [if_neg c52] at H;have c52b0 : (t356 == 3) = false := beq_eq_false_iff_ne.mpr c52;have c52b1 : (t356 != 3) = true := bne_iff_ne.mpr c52;simp only [Option.some.injEq, Prod.mk.injEq] at H;obtain ⟨rfl, rfl, rfl, rfl, rfl, rfl⟩ := H
     go_wp2_with (first | ((with_reducible refine gate_callee (f := 67) rfl ?_); refine gM 16 Try.func67 #[.pointer (some ⟨g, 0, none⟩), .int .i64 4] rfl ?_; (with_reducible refine (spec_l01Below.calls g s0_0 x1001_2 x1002_2 4 t356 t357 t358 w0 _ ?side1 ?side2 A19.out).mono ?_); (case side1 => exact is114N); (case side2 => exact bel_now); rintro e w74 ⟨rfl, hi, hb, hk⟩; refine ⟨_, rfl, ?_⟩; replace HO_353003 := am (Kd.S_mono (Kd.S_keep (IsS114.apartS (show IsS114 w0 _ g s0_0 x1001_2 x1002_2 from is114N) (S_at HO_353003.out) (by decide)) hk (fun _ h => h.2)) (fun _ h => h.1)); replace BK343 := blkK gb343 hk; replace BK352 := blkK gb352 hk; replace HK := keep_on w hk; replace HB := am (hb); replace HI0 := am (hi); (try clear hb hk hi); have hn75 := ne2 NB352_343; have hn76 := ne2 NB352_0; have hcz77 := cells4 BK352.out; have hn78 := ne2 NB343_0; have hcz79 := cells4 BK343.out))
     refine bodyPost_ret (results_cell_row rfl _ _ gb343 33 #[.int .i64 t344, .int .i64 t345, .int .i64 t346, .slice Ao10 t347.length co10] (0, 0) _ rfl (blk_fars (puts4 BK343.out)) Try.underlying33 rfl (by kernel_rfl)) rfl ?_
     exact ⟨_, eqN, by (with_reducible repeat (first | apply Kd.S_alloc | apply Kd.S_drewN | apply Kd.S_drew)); exact Kd.S_mono (Kd.S_far (p := ⟨gb343, 3, none⟩) (Kd.S_far (p := ⟨gb343, 2, none⟩) (Kd.S_far (p := ⟨gb343, 1, none⟩) (Kd.S_far (p := ⟨gb343, 0, none⟩) (Kd.S_types HO_353003.out BK343.out (by decide)) (fun _ hk => hk.2) (.int .i64 t344)) (fun _ hk => hk.2) (.int .i64 t345)) (fun _ hk => hk.2) (.int .i64 t346)) (fun _ hk => hk.2) (.slice Ao10 t347.length co10)) (fun _ hk => trivial), is114N, bel_now, keepN⟩
    rw [if_pos c52] at H;have c52b0 : (t356 == 3) = true := beq_iff_eq.mpr c52;have c52b1 : (t356 != 3) = false := bne_eq_false_iff_eq.mpr c52;clear c52;have H' := am H;clear H
    go_wp2_with (first | ((with_reducible refine gate_callee (f := 67) rfl ?_); refine gM 16 Try.func67 #[.pointer (some ⟨g, 0, none⟩), .int .i64 4] rfl ?_; (with_reducible refine (spec_l01Below.calls g s0_0 x1001_2 x1002_2 4 t356 t357 t358 w0 _ ?side1 ?side2 A19.out).mono ?_); (case side1 => exact is114N); (case side2 => exact bel_now); rintro e w53 ⟨rfl, hi, hb, hk⟩; refine ⟨_, rfl, ?_⟩; replace HO_353003 := am (Kd.S_mono (Kd.S_keep (IsS114.apartS (show IsS114 w0 _ g s0_0 x1001_2 x1002_2 from is114N) (S_at HO_353003.out) (by decide)) hk (fun _ h => h.2)) (fun _ h => h.1)); replace BK343 := blkK gb343 hk; replace BK352 := blkK gb352 hk; replace HK := keep_on w hk; replace HB := am (hb); replace HI0 := am (hi); (try clear hb hk hi)))
    go_loopg [] kj2 (fun kq w' => ∃ (x1001_2 : Int) (x1002_2 : Int) (x353003_2 : List (S46)) (u353003 : Value), Aside0 (spec_l04DrawLoose.l0 kq s0_0 x1001_2 x1002_2 t344 t345 t346 x353003_2 = some (r1, r2, r3, r4, r5, r6)) ∧ Aside0 (kq ≤ kj2) ∧ Aside0 (Kd.S k46 46 w' w.heap.size (fun _ => True) u353003 x353003_2) ∧ Aside0 (w'.heap[gb343]? = some (.cells #[.int .i64 0, .int .i64 0, .int .i64 0, (.slice none 0 0)] 33 (0, 0))) ∧ Aside0 (w'.heap[gb352]? = some (.cells #[.int .i64 t344, .int .i64 t345, .int .i64 t346, u353003] 33 (0, 0))) ∧ Aside0 (IsS114 w0 w' g s0_0 x1001_2 x1002_2) ∧ Aside0 (KeepBut w w' g none) ∧ Aside0 (Below w0.heap.size w0 w'))
    case atStart => exact ⟨(t357), (t358), (t347), (.slice Ao10 t347.length co10), H', ⟨Nat.le_refl _⟩, ⟨S_at HO_353003.out⟩, ⟨bks BK343⟩, ⟨bks BK352⟩, ⟨is114N⟩, ⟨keepN⟩, ⟨bel_now⟩⟩
    case round =>
     clear H';try clear c18
     try clear c20
     try clear c20b0
     try clear c20b1
     try clear c33
     try clear c33b0
     try clear c33b1
     try clear c45
     try clear c45b0
     try clear c45b1
     try clear c52
     try clear c52b0
     try clear c52b1
     try clear hcz9
     obtain ⟨x1001_2, x1002_2, x353003_2, u353003, HA, HK2, HO_353003, BK343, BK352, HI0, HK, HB⟩ := hrel
     cases gk with
     | zero => exact absurd HA.out (by simp [spec_l04DrawLoose.l0])
     | succ k2 =>
      have H := HA.out;clear HA;simp only [spec_l04DrawLoose.l0] at H;replace H := Option.bind_eq_some_iff.mp H;obtain ⟨⟨t383, t384, t385⟩, A540, H⟩ := H;(try dsimp only at H);have A54 := am A540;clear A540;by_cases c55 : (x353003_2.length : Int) < (wrap64 (6 + t383));rotate_left
      ·rw [if_neg c55] at H;have c55b0 : decide ((x353003_2.length : Int) < (wrap64 (6 + t383))) = false := decide_eq_false c55;clear c55;simp only [Option.some.injEq, Prod.mk.injEq] at H;obtain ⟨rfl, rfl, rfl, rfl, rfl, rfl⟩ := H
       try go_wp2
       replace HO_353003 := am (Kd.S_drew HO_353003.out);replace BK343 := am (blk_drew BK343.out);replace BK352 := am (blk_drew BK352.out);replace HI0 := am (IsS114.drew HI0.out);replace HK := am (keep_drew HK.out);replace HB := am (below_drew1 HB.out);obtain ⟨Ao67, co67, eo67⟩ := Kd.S_slice HO_353003.out
       (first | subst eo67 | (injection eo67 with f1_ f2_ f3_; have f4_ := f1_.symm; have f5_ := f3_.symm; clear f1_ f2_ f3_; subst f4_; subst f5_))
       refine start_ (n := 7) (S := fun w' => w'.cell? ⟨gb352, 0, none⟩ = some (.int .i64 t344) ∧ w'.cell? ⟨gb352, 1, none⟩ = some (.int .i64 t345) ∧ w'.cell? ⟨gb352, 2, none⟩ = some (.int .i64 t346) ∧ w'.cell? ⟨gb352, 3, none⟩ = some (.slice Ao67 x353003_2.length co67)) (ds := []) #[O, O, O, O, O, O, O] (by kernel_rfl) rfl rfl ⟨bc BK352 0, bc BK352 1, bc BK352 2, bc BK352 3⟩ (fun hHeld => ?_)
       generalize wr.drew = w66 at HO_353003 BK343 BK352 HI0 HK HB hHeld ⊢
       refine stepP 0 (some 51) (tk 7 1) (by kernel_rfl) ?_
       refine stepP 3 (some 54) (tk 7 9) (by kernel_rfl) ?_
       refine stepT 1 (some 52) (tk 7 11) (by kernel_rfl) hHeld ?_
       refine stepP 2 (some 53) (tk 7 15) (by kernel_rfl) ?_
       refine one_ (i := 4) (N := some 55) #[I, I, I, I, I, O, O] rfl rfl (by kernel_rfl) (by decide) (fun K hK => ?_)
       refine goes_ Try.func67 (by kernel_rfl) rfl #[.pointer (some ⟨g, 0, none⟩), .int .i64 2] (by rfl) rfl rfl (by (try simp only [List.map_toArray, List.map_cons, List.map_nil]); first | done | rfl | (simp only [List.length_drop, List.length_take]; rfl)) ?_
       with_reducible refine (spec_l01Below.calls g s0_0 x1001_2 x1002_2 2 t383 t384 t385 w0 _ ?side1 ?side2 A54.out).mono ?_
       (case side1 => exact is114N)
       (case side2 => exact bel_now)
       rintro e w68 ⟨rfl, hi, hb, hk⟩
       refine ⟨_, rfl, ?_⟩
       have n0_ := am (Kd.S_mono (Kd.S_keep (IsS114.apartS (show IsS114 w0 _ g s0_0 x1001_2 x1002_2 from is114N) (S_at HO_353003.out) (by decide)) hk (fun _ h => h.2)) (fun _ h => h.1))
       replace BK343 := blkK gb343 hk;replace BK352 := blkK gb352 hk;replace HK := keep_on w hk;replace HB := am (hb);replace HI0 := am (hi);clear HO_353003;have HO_353003 := n0_;clear n0_;(try clear hb);(try clear hb2);(try clear hb3);(try clear hk);(try clear hi)
       refine hK.out _ _ ⟨bc BK352 0, bc BK352 1, bc BK352 2, bc BK352 3⟩ (fun hHeld => ?_)
       clear hK K
       refine normP 55 ?_
       refine stepP 5 (some 56) (tk 7 63) (by kernel_rfl) ?_
       refine stepP 6 (some 57) (tk 7 127) (by kernel_rfl) ?_
       refine done_ (by kernel_rfl) ?_
       have hn69 := ne2 NB352_343;have hn70 := ne2 NB352_0;have hcz71 := cells4 BK352.out;have hn72 := ne2 NB343_0;have hcz73 := cells4 BK343.out
       try go_wp2
       refine bodyPost_ret (results_cell_row rfl _ _ gb343 33 #[.int .i64 t344, .int .i64 t345, .int .i64 t346, .slice Ao67 x353003_2.length co67] (0, 0) _ rfl (blk_fars (puts4 BK343.out)) Try.underlying33 rfl (by kernel_rfl)) rfl ?_
       exact ⟨_, eqN, by (with_reducible repeat (first | apply Kd.S_alloc | apply Kd.S_drewN | apply Kd.S_drew)); exact Kd.S_mono (Kd.S_far (p := ⟨gb343, 3, none⟩) (Kd.S_far (p := ⟨gb343, 2, none⟩) (Kd.S_far (p := ⟨gb343, 1, none⟩) (Kd.S_far (p := ⟨gb343, 0, none⟩) (Kd.S_types HO_353003.out BK343.out (by decide)) (fun _ hk => hk.2) (.int .i64 t344)) (fun _ hk => hk.2) (.int .i64 t345)) (fun _ hk => hk.2) (.int .i64 t346)) (fun _ hk => hk.2) (.slice Ao67 x353003_2.length co67)) (fun _ hk => trivial), is114N, bel_now, keepN⟩
      rw [if_pos c55] at H;have c55b0 : decide ((x353003_2.length : Int) < (wrap64 (6 + t383))) = true := decide_eq_true c55;clear c55;obtain ⟨c56, H⟩ := gd H;have LMc56 := am c56;clear c56;obtain ⟨y386, hy386⟩ : ∃ y_ : List (S46), y_ = (x353003_2 ++ [(⟨4, 0, 0, 0, 0, 0, 0, ([] : List Int), ([] : List Int)⟩ : S46)]) := ⟨_, rfl⟩;replace H : (spec_l04DrawLoose.l0 k2 s0_0 t384 t385 t344 t345 t346 y386) = some (r1, r2, r3, r4, r5, r6) := by (try rw [hy386]); first | with_reducible exact H | exact (Option.bind_some _ _).symm.trans H | exact H
      have Ny386 := am hy386;clear hy386;have H' := am H;clear H
      try go_wp2
      replace HO_353003 := am (Kd.S_drew HO_353003.out);replace BK343 := am (blk_drew BK343.out);replace BK352 := am (blk_drew BK352.out);replace HI0 := am (IsS114.drew HI0.out);replace HK := am (keep_drew HK.out);replace HB := am (below_drew1 HB.out);obtain ⟨Ao58, co58, eo58⟩ := Kd.S_slice HO_353003.out
      (first | subst eo58 | (injection eo58 with f1_ f2_ f3_; have f4_ := f1_.symm; have f5_ := f3_.symm; clear f1_ f2_ f3_; subst f4_; subst f5_))
      refine start_ (n := 7) (S := fun w' => w'.cell? ⟨gb352, 0, none⟩ = some (.int .i64 t344) ∧ w'.cell? ⟨gb352, 1, none⟩ = some (.int .i64 t345) ∧ w'.cell? ⟨gb352, 2, none⟩ = some (.int .i64 t346) ∧ w'.cell? ⟨gb352, 3, none⟩ = some (.slice Ao58 x353003_2.length co58)) (ds := []) #[O, O, O, O, O, O, O] (by kernel_rfl) rfl rfl ⟨bc BK352 0, bc BK352 1, bc BK352 2, bc BK352 3⟩ (fun hHeld => ?_)
      generalize wr.drew = w57 at HO_353003 BK343 BK352 HI0 HK HB hHeld ⊢
      refine stepP 0 (some 51) (tk 7 1) (by kernel_rfl) ?_
      refine stepP 3 (some 54) (tk 7 9) (by kernel_rfl) ?_
      refine stepT 1 (some 52) (tk 7 11) (by kernel_rfl) hHeld ?_
      refine stepP 2 (some 53) (tk 7 15) (by kernel_rfl) ?_
      refine one_ (i := 4) (N := some 55) #[I, I, I, I, I, O, O] rfl rfl (by kernel_rfl) (by decide) (fun K hK => ?_)
      refine goes_ Try.func67 (by kernel_rfl) rfl #[.pointer (some ⟨g, 0, none⟩), .int .i64 2] (by rfl) rfl rfl (by (try simp only [List.map_toArray, List.map_cons, List.map_nil]); first | done | rfl | (simp only [List.length_drop, List.length_take]; rfl)) ?_
      with_reducible refine (spec_l01Below.calls g s0_0 x1001_2 x1002_2 2 t383 t384 t385 w0 _ ?side1 ?side2 A54.out).mono ?_
      (case side1 => exact is114N)
      (case side2 => exact bel_now)
      rintro e w59 ⟨rfl, hi, hb, hk⟩
      refine ⟨_, rfl, ?_⟩
      have n0_ := am (Kd.S_mono (Kd.S_keep (IsS114.apartS (show IsS114 w0 _ g s0_0 x1001_2 x1002_2 from is114N) (S_at HO_353003.out) (by decide)) hk (fun _ h => h.2)) (fun _ h => h.1))
      replace BK343 := blkK gb343 hk;replace BK352 := blkK gb352 hk;replace HK := keep_on w hk;replace HB := am (hb);replace HI0 := am (hi);clear HO_353003;have HO_353003 := n0_;clear n0_;(try clear hb);(try clear hb2);(try clear hb3);(try clear hk);(try clear hi)
      refine hK.out _ _ ⟨bc BK352 0, bc BK352 1, bc BK352 2, bc BK352 3⟩ (fun hHeld => ?_)
      clear hK K
      refine normP 55 ?_
      refine stepP 5 (some 56) (tk 7 63) (by kernel_rfl) ?_
      refine stepP 6 (some 57) (tk 7 127) (by kernel_rfl) ?_
      refine done_ (by kernel_rfl) ?_
      have hn60 := ne2 NB352_343;have hn61 := ne2 NB352_0;have hcz62 := cells4 BK352.out
      try go_wp2_with (first | ((with_reducible refine gate_builtin (b := .append) (xs := #[.tmp 59, .tmp 61]) rfl ?_); (try (refine gate_guard (by rfl) ?_; dsimp only)); at_builtin; refine Kd.S_append k46 w.heap.size rfl (.tmp 59) (.tmp 61) 31 46 (.agg #[(.int .i64 0), (.int .i64 0), (.int .i64 0), (.int .i64 0), (.int .i64 0), (.int .i64 0), (.int .i64 0), (.slice none 0 0), (.slice none 0 0)]) 104 rfl Try.underlying31 info46 rfl (by decide) (by omega) (.slice Ao58 x353003_2.length co58) x353003_2 (⟨4, 0, 0, 0, 0, 0, 0, ([] : List Int), ([] : List Int)⟩ : S46) [.int .i64 4, .int .i64 0, .int .i64 0, .int .i64 0, .int .i64 0, .int .i64 0, .int .i64 0, .slice none 0 0, .slice none 0 0] (fun _ => True) (fun _ => False) rfl rfl ?aP (fun k_ hk_ => hk_.elim) ?aF ?aO (Below.refl _ _) ?aS ?aL ?_; (case aP => exact k46_mkM _ _ _ (⟨4, 0, 0, 0, 0, 0, 0, ([] : List Int), ([] : List Int)⟩ : S46) (Kd.R_nil _ _ _ _ _) (Kd.R_nil _ _ _ _ _) (fun k_ h_ _ => by simp [Value.ownBlock] at h_)); (case aF => exact (fun _ _ => trivial)); (case aO => exact (by (with_reducible repeat (first | apply Kd.S_alloc | apply Kd.S_drewN | apply Kd.S_drew)); exact Kd.S_mono HO_353003.out (fun k_ hk => ⟨trivial, fun e_ => e_⟩))); (case aS => exact (keep_size (w := w) (g := g) (row := none) keepN)); (case aL => have := LMc56.out; omega); intro v387 w63 ho hb hg hat; rw [← Ny386.out] at ho; have n0_ := am (blk_grown (g := gb343) blk_now hg (Kd.S_ne HO_353003.out BK343.out (by decide))); have n1_ := am (blk_grown (g := gb352) blk_now hg (Kd.S_ne HO_353003.out BK352.out (by decide))); have n2_ := am (IsS114.grown is114N hg (IsS114.own_neS HI0.out HO_353003.out (by decide))); have n3_ := am (below_weaken bel_now HL.out hb); have n4_ := am (KeepBut.trans keepN (KeepBut.of_grown hg g) (Kd.S_base2 HO_353003.out)); have n5_ := am (ho); clear BK343; clear BK352; clear HI0; clear HB; clear HK; clear HO_353003; have BK343 := n0_; have BK352 := n1_; have HI0 := n2_; have HB := n3_; have HK := n4_; have HO388 := n5_; clear n0_ n1_ n2_ n3_ n4_ n5_; clear ho hb hg hat; obtain ⟨Ao64, co64, eo64⟩ := Kd.S_slice HO388.out; subst eo64; have hcz65 := cells4 BK352.out))
      go_roundg k2
      case measure => have := HJ2.out; have := HK2.out; omega
      case rel => exact ⟨(t384), (t385), (y386), (.slice Ao64 y386.length co64), H', ⟨by have := HJ2.out; have := HK2.out; omega⟩, ⟨by (with_reducible repeat (first | apply Kd.S_alloc | apply Kd.S_drewN | apply Kd.S_drew)); exact Kd.S_mono (Kd.S_far (p := ⟨gb352, 3, none⟩) (Kd.S_types HO388.out BK352.out (by decide)) (fun _ hk => hk.2) (.slice Ao64 y386.length co64)) (fun _ hk => trivial)⟩, ⟨blkN⟩, ⟨blkN⟩, ⟨is114N⟩, ⟨keepN⟩, ⟨bel_now⟩⟩

def spec_DrawModelOk.f (k : Nat) (l0 : List Int) : Option (Int × Int × Int × (List (S46))) := (spec_l01New.f k l0).bind fun bt390 => ((spec_l04DrawLoose.f k bt390.1 bt390.2.1 bt390.2.2).bind fun bt394 => (some (bt394.1, bt394.2.1, bt394.2.2.1, bt394.2.2.2.1)))
theorem spec_DrawModelOk.calls (k : Nat) (A0 : Option Addr) (c0 : Nat) (l0 : List Int) (r1 : Int) (r2 : Int) (r3 : Int) (r4 : List (S46)) (w : World) (hr0 : Kd.C (Kd.int .u8) w A0 l0.length l0) (hc0 : l0.length ≤ c0) (h : spec_DrawModelOk.f k l0 = some (r1, r2, r3, r4)) :
   Calls Try.prog 28 #[.slice A0 l0.length c0] w fun e w' => ∃ v3_ : Value, e = .returned (.agg #[.int .i64 r1, .int .i64 r2, .int .i64 r3, v3_]) ∧ Kd.S k46 46 w' w.heap.size (fun _ => True) v3_ r4 ∧ Below w.heap.size w w' := by
  have hu33 := Try.underlying33;have HR0 := am hr0;have HC0 := am hc0;clear hr0 hc0;have HB := am (Below.refl w.heap.size w);have H : ((spec_l01New.f k l0).bind fun bt390 => ((spec_l04DrawLoose.f k bt390.1 bt390.2.1 bt390.2.2).bind fun bt394 => (some (bt394.1, bt394.2.1, bt394.2.2.1, bt394.2.2.2.1)))) = some (r1, r2, r3, r4) := h;clear h;replace H := Option.bind_eq_some_iff.mp H;obtain ⟨⟨t390, t391, t392⟩, A20, H⟩ := H;(try dsimp only at H);have A2 := am A20;clear A20;replace H := Option.bind_eq_some_iff.mp H;obtain ⟨⟨t394, t395, t396, t397, t400, t401⟩, A30, H⟩ := H;(try dsimp only at H);have A3 := am A30;clear A30;simp only [Option.some.injEq, Prod.mk.injEq] at H;obtain ⟨rfl, rfl, rfl, rfl⟩ := H
  go_enter Try.func28, Try.ntmps28
  go_wp2_with (first | ((with_reducible refine gate_dst (N := 2) rfl ?_); refine boxM 2 #[.int .i64 0, .int .i64 0, .int .i64 0, .slice none 0 0] 33 ?_; intro gb389 hg w4 BK389 hb; obtain ⟨HB, GW389, GE389⟩ := box_at w hb hg; clear hb hg) | ((with_reducible refine gate_callee (f := 55) rfl ?_); refine gM 4 Try.func55 #[.slice A0 l0.length c0] rfl ?_; (with_reducible refine (spec_l01New.calls k _ _ l0 t390 t391 t392 w _ ?side1 ?side2 HC0.out A2.out).mono ?_); (case side1 => exact bel_now); (case side2 => exact HR0.out); rintro e w5 ⟨g393, rfl, hi, hb, hb2⟩; refine ⟨_, rfl, ?_⟩; replace HB := am (hb); have HI393 := am (hi); have NB393_389 := am (IsS114.ne_blk hi (blk_below (g := gb389) blk_now hb2) (by decide)); have NB389_393 := am (Ne.symm (IsS114.ne_blk hi (blk_below (g := gb389) blk_now hb2) (by decide))); replace BK389 := am (blk_below (g := gb389) blk_now hb2); (try clear hb hb2 hi)) | ((with_reducible refine gate_callee (f := 54) rfl ?_); refine gM 5 Try.func54 #[.pointer (some ⟨g393, 0, none⟩)] rfl ?_; (with_reducible refine (spec_l04DrawLoose.calls k g393 t390 t391 t392 t394 t395 t396 t397 t400 t401 w _ ?side1 ?side2 A3.out).mono ?_); (case side1 => repeat (first | (with_reducible first | exact HI393.out | apply IsS114.alloc | apply IsS114.drewN | apply IsS114.drew | apply IsS114.set_1 | apply IsS114.set_2 | refine IsS114.far ?_ NB393_389.out _) | exact HI393.out)); (case side2 => repeat (first | (with_reducible first | exact HB.out | apply below_alloc | apply pw_below_drewN | apply below_drew1 | refine below_set ?_ (IsS114.ge HI393.out) | refine below_set ?_ GE389.out) | exact HB.out)); rintro e w6 ⟨v398, rfl, ho0, hi, hb, hk⟩; refine ⟨_, rfl, ?_⟩; replace BK389 := blkK gb389 hk; have HO399 := am (Kd.S_lower ho0 (below_size (by repeat (first | (with_reducible first | exact HB.out | apply below_alloc | apply pw_below_drewN | apply below_drew1 | refine below_set ?_ (IsS114.ge HI393.out) | refine below_set ?_ GE389.out) | exact HB.out)))); replace HB := am (hb); replace HI393 := am (hi); (try clear hb hk hi ho0); have hn7 := ne2 NB389_393; have hcz8 := cells4 BK389.out; obtain ⟨Ao9, co9, eo9⟩ := Kd.S_slice HO399.out; subst eo9))
  refine bodyPost_ret (results_cell_row rfl _ _ gb389 33 #[.int .i64 t394, .int .i64 t395, .int .i64 t396, .slice Ao9 t397.length co9] (0, 0) _ rfl (blk_fars (puts4 BK389.out)) Try.underlying33 rfl (by kernel_rfl)) rfl ?_
  exact ⟨_, eqN, by (with_reducible repeat (first | apply Kd.S_alloc | apply Kd.S_drewN | apply Kd.S_drew)); exact Kd.S_mono (Kd.S_far (p := ⟨gb389, 3, none⟩) (Kd.S_far (p := ⟨gb389, 2, none⟩) (Kd.S_far (p := ⟨gb389, 1, none⟩) (Kd.S_far (p := ⟨gb389, 0, none⟩) (Kd.S_types HO399.out BK389.out (by decide)) (fun _ hk => hk.2) (.int .i64 t394)) (fun _ hk => hk.2) (.int .i64 t395)) (fun _ hk => hk.2) (.int .i64 t396)) (fun _ hk => hk.2) (.slice Ao9 t397.length co9)) (fun _ hk => trivial), by repeat (first | (with_reducible first | exact HB.out | apply below_alloc | apply pw_below_drewN | apply below_drew1 | refine below_set ?_ (IsS114.ge HI393.out) | refine below_set ?_ GE389.out) | exact HB.out)⟩

def spec_DrawEncodeModel.f (k : Nat) (l0 : List Int) : Option (Int × Int × Int × (List (S46))) := (spec_DrawModelOk.f k l0).bind fun bt403 => (some (bt403.1, bt403.2.1, bt403.2.2.1, bt403.2.2.2))
theorem spec_DrawEncodeModel.calls (k : Nat) (A0 : Option Addr) (c0 : Nat) (l0 : List Int) (r1 : Int) (r2 : Int) (r3 : Int) (r4 : List (S46)) (w : World) (hr0 : Kd.C (Kd.int .u8) w A0 l0.length l0) (hc0 : l0.length ≤ c0) (h : spec_DrawEncodeModel.f k l0 = some (r1, r2, r3, r4)) :
   Calls Try.prog 12 #[.slice A0 l0.length c0] w fun e w' => ∃ v3_ : Value, e = .returned (.agg #[.int .i64 r1, .int .i64 r2, .int .i64 r3, v3_]) ∧ Kd.S k46 46 w' w.heap.size (fun _ => True) v3_ r4 ∧ Below w.heap.size w w' := by
  have hu33 := Try.underlying33;have HR0 := am hr0;have HC0 := am hc0;clear hr0 hc0;have HB := am (Below.refl w.heap.size w);have H : ((spec_DrawModelOk.f k l0).bind fun bt403 => (some (bt403.1, bt403.2.1, bt403.2.2.1, bt403.2.2.2))) = some (r1, r2, r3, r4) := h;clear h;replace H := Option.bind_eq_some_iff.mp H;obtain ⟨⟨t403, t404, t405, t406⟩, A20, H⟩ := H;(try dsimp only at H);have A2 := am A20;clear A20;simp only [Option.some.injEq, Prod.mk.injEq] at H;obtain ⟨rfl, rfl, rfl, rfl⟩ := H
  go_enter Try.func12, Try.ntmps12
  go_wp2_with (first | ((with_reducible refine gate_dst (N := 2) rfl ?_); refine boxM 2 #[.int .i64 0, .int .i64 0, .int .i64 0, .slice none 0 0] 33 ?_; intro gb402 hg w3 BK402 hb; obtain ⟨HB, GW402, GE402⟩ := box_at w hb hg; clear hb hg) | ((with_reducible refine gate_callee (f := 28) rfl ?_); refine gM 4 Try.func28 #[.slice A0 l0.length c0] rfl ?_; (with_reducible refine (spec_DrawModelOk.calls k _ _ l0 t403 t404 t405 t406 _ ?side1 HC0.out A2.out).mono ?_); (case side1 => exact C_now HR0.out); rintro e w4 ⟨v407, rfl, ho0, hb⟩; refine ⟨_, rfl, ?_⟩; have n0_ := am (Kd.S_lower ho0 (below_size bel_now)); replace HB := bel_on w hb; replace BK402 := blk_on gb402 hb; have HO408 := n0_; clear n0_; (try clear hb ho0); have hcz5 := cells4 BK402.out; obtain ⟨Ao6, co6, eo6⟩ := Kd.S_slice HO408.out; subst eo6))
  refine bodyPost_ret (results_cell_row rfl _ _ gb402 33 #[.int .i64 t403, .int .i64 t404, .int .i64 t405, .slice Ao6 t406.length co6] (0, 0) _ rfl (blk_fars (puts4 BK402.out)) Try.underlying33 rfl (by kernel_rfl)) rfl ?_
  exact ⟨_, eqN, by (with_reducible repeat (first | apply Kd.S_alloc | apply Kd.S_drewN | apply Kd.S_drew)); exact Kd.S_mono (Kd.S_far (p := ⟨gb402, 3, none⟩) (Kd.S_far (p := ⟨gb402, 2, none⟩) (Kd.S_far (p := ⟨gb402, 1, none⟩) (Kd.S_far (p := ⟨gb402, 0, none⟩) (Kd.S_types HO408.out BK402.out (by decide)) (fun _ hk => hk.2) (.int .i64 t403)) (fun _ hk => hk.2) (.int .i64 t404)) (fun _ hk => hk.2) (.int .i64 t405)) (fun _ hk => hk.2) (.slice Ao6 t406.length co6)) (fun _ hk => trivial), bel_now⟩

def impl_in.f (a0 : Int) (a1 : Int) (a2 : Int) : Option (Bool) := if a1 ≤ a0 then (some (decide (a0 ≤ a2))) else (some false)
theorem impl_in.calls (a0 : Int) (a1 : Int) (a2 : Int) (r : Bool) (w : World) (h : impl_in.f a0 a1 a2 = some r) :
   Calls Try.prog 56 #[.int .i64 a0, .int .i64 a1, .int .i64 a2] w fun e w' => e = .returned (.bool r) ∧ Drawn0 w w' := by
  have H : (if a1 ≤ a0 then (some (decide (a0 ≤ a2))) else (some false)) = some r := h;clear h;by_cases c4 : a1 ≤ a0
  ·rw [if_pos c4] at H;have c4b0 : decide (a1 ≤ a0) = true := decide_eq_true c4;clear c4;obtain rfl := Option.some.inj H
   go_enter Try.func56, Try.ntmps56
   go_wp2
   go_ret
   exact ⟨by first | rfl | (simp; done) | (simp [*]; done), by repeat (first | exact Drawn0.refl _ | apply Drawn0.step)⟩
  rw [if_neg c4] at H;have c4b0 : decide (a1 ≤ a0) = false := decide_eq_false c4;clear c4;obtain rfl := Option.some.inj H
  go_enter Try.func56, Try.ntmps56
  go_wp2
  go_ret
  exact ⟨by first | rfl | (simp; done) | (simp [*]; done), by repeat (first | exact Drawn0.refl _ | apply Drawn0.step)⟩

def impl_ShapeOk.f (a0_0 : Int) (a0_1 : Int) (a0_2 : Int) : Option (Bool) := (impl_in.f a0_0 1 8).bind fun t410 => (if t410 = true then ((impl_in.f a0_1 1 8).bind fun t411 => (if t411 = true then ((impl_in.f a0_2 1 8).bind fun t412 => (some t412)) else (some false))) else (some false))
theorem impl_ShapeOk.calls (a0_0 : Int) (a0_1 : Int) (a0_2 : Int) (r : Bool) (w : World) (h : impl_ShapeOk.f a0_0 a0_1 a0_2 = some r) :
   Calls Try.prog 69 #[.agg #[.int .i64 a0_0, .int .i64 a0_1, .int .i64 a0_2]] w fun e w' => e = .returned (.bool r) ∧ Below w.heap.size w w' := by
  have hu24 := Try.underlying24;have HB := am (Below.refl w.heap.size w);have H : ((impl_in.f a0_0 1 8).bind fun t410 => (if t410 = true then ((impl_in.f a0_1 1 8).bind fun t411 => (if t411 = true then ((impl_in.f a0_2 1 8).bind fun t412 => (some t412)) else (some false))) else (some false))) = some r := h;clear h;obtain ⟨t410, A2, H⟩ := bnd H;(try dsimp only at H);by_cases c3 : t410 = true
  case' neg => skip
  replace c3 := Bool.eq_false_iff.mpr c3;subst c3
  rw [if_neg (show ¬ (false = true) by decide)] at H
  obtain rfl := Option.some.inj H;rotate_left;subst c3;rw [if_pos rfl] at H;obtain ⟨t411, A4, H⟩ := bnd H;(try dsimp only at H);by_cases c5 : t411 = true
  case' neg => skip
  replace c5 := Bool.eq_false_iff.mpr c5;subst c5
  rw [if_neg (show ¬ (false = true) by decide)] at H
  obtain rfl := Option.some.inj H;rotate_left;subst c5;rw [if_pos rfl] at H;obtain ⟨t412, A6, H⟩ := bnd H;(try dsimp only at H);obtain rfl := Option.some.inj H;rotate_left
  all_goals (go_enter Try.func69, Try.ntmps69; go_wp2_with (first | ((with_reducible refine gate_dst (N := 1) rfl ?_); refine boxM 1 #[.int .i64 a0_0, .int .i64 a0_1, .int .i64 a0_2] 24 ?_; intro gb409 hg w_ BK409 hb; obtain ⟨HB, GW409, GE409⟩ := box_at w hb hg; clear hb hg; have hcz_ := cells3 BK409.out) | ((with_reducible refine gate_callee (f := 56) rfl ?_); refine gM 5 Try.func56 #[.int .i64 a0_0, .int .i64 1, .int .i64 8] rfl ?_; (with_reducible refine (impl_in.calls a0_0 1 8 false _ A2.out).mono ?_); rintro e w' ⟨rfl, ⟨nd, rfl⟩⟩; refine ⟨_, rfl, ?_⟩) | ((with_reducible refine gate_callee (f := 56) rfl ?_); refine gM 5 Try.func56 #[.int .i64 a0_0, .int .i64 1, .int .i64 8] rfl ?_; (with_reducible refine (impl_in.calls a0_0 1 8 true _ A2.out).mono ?_); rintro e w' ⟨rfl, ⟨nd, rfl⟩⟩; refine ⟨_, rfl, ?_⟩) | (go_at_call 56; (with_reducible refine (impl_in.calls a0_1 1 8 false _ A4.out).mono ?_); rintro e w' ⟨rfl, ⟨nd, rfl⟩⟩) | (go_at_call 56; (with_reducible refine (impl_in.calls a0_1 1 8 true _ A4.out).mono ?_); rintro e w' ⟨rfl, ⟨nd, rfl⟩⟩) | (go_at_call 56; (with_reducible refine (impl_in.calls a0_2 1 8 t412 _ A6.out).mono ?_); rintro e w' ⟨rfl, ⟨nd, rfl⟩⟩)))
  ·go_ret
   exact ⟨eqN, bel_now⟩
  ·go_ret
   exact ⟨eqN, bel_now⟩
  ·go_ret
   exact ⟨eqN, bel_now⟩

end Go.Proofs.Ytjmejobelkllmaa.PFnStored
