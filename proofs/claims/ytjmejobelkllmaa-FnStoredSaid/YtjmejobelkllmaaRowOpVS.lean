/- Opening struct parameters: a datum that a parameter reads as, told in the printed kinds (Kd). -/
import Derived.Test.YtjmejobelkllmaaVS
import Derived.ChangeArms
import Derived.Deep.Slices
import Derived.Lib.SmallJoins
import Derived.WalkKit
import Derived.ProofKit
import Derived.OpenShut
namespace Go.Proofs.Ytjmejobelkllmaa.RowOpen
open Go.ChangeShapes Go.WideShapes Go.RowKit Go.Proofs.YtjmejobelkllmaaW.PrintWords
set_option linter.unusedVariables false
section
variable {H : Type} {enc : TypeId × Value → H} {P : Program} {W : World}

/-- Whatever reads as a datum of type t is of the kind kd, with G. -/
def Opens (enc : TypeId × Value → H) (P : Program) (W : World) {α : Type} (t : TypeId) (kd : Kd α) (G : α → Prop) : Prop :=
  ∀ fuel cs x, DataW.trod enc P W 0 (fun _ => true) true fuel t cs = some x → ∃ a, kd.K W a cs ∧ G a
/-- The same of fields in line, from the cell 'off' on. -/
def OpensF (enc : TypeId × Value → H) (P : Program) (W : World) {α : Type} (fs : List Field) (off : Nat) (kd : Kd α) (G : α → Prop) : Prop :=
  ∀ n (cs : List Value), (∀ f ∈ fs, ∃ x, DataW.trod enc P W 0 (fun _ => true) true n f.type ((cs.drop f.offset).take (P.cellsOf f.type)) = some x) → cs.length = off + kd.sz → ∃ a, kd.K W a (cs.drop off) ∧ G a

theorem opens_int {t : TypeId} {k : IntKind} (ht : P.underlying t = some (.int k)) : Opens enc P W t (Kd.int k) (fun n => (Lit.int k n).wf = true) := by
  intro fuel cs x h
  obtain ⟨n, rfl, _, hw⟩ := DataW.trod_int ht h
  exact ⟨n, rfl, hw⟩

theorem opens_string {t : TypeId} (ht : P.underlying t = some .string) : Opens enc P W t Kd.string (fun s => s.size ≤ maxLen) := by
  intro fuel cs x h
  obtain ⟨s, rfl, _, hs⟩ := DataW.trod_string ht h
  exact ⟨s, rfl, hs⟩

theorem opens_slice {α : Type} {t e : TypeId} {kd : Kd α} {G : α → Prop} (z : α) (ht : P.underlying t = some (.slice e)) (hsz : P.cellsOf e = kd.sz) (he : Opens enc P W e kd G) :
    Opens enc P W t (Kd.slice e kd) (fun l => l.length ≤ maxLen ∧ ∀ x ∈ l, G x) := by
  intro fuel cs x h
  rcases Go.Deep.open_slice ht h with ⟨rfl, _⟩ | ⟨a, len, cap, m, n, D, Pl, rfl, _, hl, hm, hmm, _, hel⟩
  · refine ⟨[], ⟨none, 0, rfl, Nat.le_refl _, ?_⟩, Nat.zero_le _, by simp⟩
    exact ⟨rfl, by simp, fun h => absurd h (by simp)⟩
  · simp only [if_true] at hmm
    subst hmm
    have hex : ∀ i, i < len → ∃ a' : α, ∃ c, W.cells? 0 (a.add (i * P.cellsOf e)) (P.cellsOf e) = some c ∧ kd.K W a' c ∧ G a' := by
      intro i hi
      obtain ⟨cs', h1, h2⟩ := hel i (by omega)
      obtain ⟨a', hk, hg⟩ := he _ _ _ h2
      exact ⟨a', cs', h1, hk, hg⟩
    haveI : Inhabited α := ⟨z⟩
    obtain ⟨f, hf⟩ := Go.Deep.choose_lt hex
    have hget : ∀ j p, ((List.range len).map f)[j]? = some p → j < len ∧ p = f j := by
      intro j p hj
      rw [List.getElem?_map] at hj
      by_cases hlt : j < len
      · rw [List.getElem?_range hlt] at hj
        exact ⟨hlt, by simpa using hj.symm⟩
      · rw [List.getElem?_eq_none (by simpa using hlt)] at hj
        simp at hj
    refine ⟨(List.range len).map f, ⟨some a, m, by simp, by simpa using hl, ?_⟩, by simp; omega, ?_⟩
    · refine ⟨rfl, ?_, fun _ => ⟨a, rfl, ?_⟩⟩
      · simp; unfold maxLen at hm; omega
      · intro j p hj
        obtain ⟨hlt, rfl⟩ := hget j p hj
        obtain ⟨c, hc, hk, _⟩ := hf j hlt
        refine ⟨c, kd.K_len hk, hk, ?_⟩
        intro i u hu
        obtain ⟨_, hlen, hcell⟩ := World.cells?_some hc
        have hi : i < c.length := by
          rcases Nat.lt_or_ge i c.length with hh | hh
          · exact hh
          · rw [List.getElem?_eq_none hh] at hu; simp at hu
        have h2 := hcell i (by omega)
        rw [Go.Deep.add_add, hsz, hu] at h2
        exact h2
    · intro x hx
      simp only [List.mem_map, List.mem_range] at hx
      obtain ⟨i, hi, rfl⟩ := hx
      exact (hf i hi).choose_spec.2.2

theorem opensF_one {α : Type} {f : Field} {off : Nat} {kd : Kd α} {G : α → Prop} (ho : f.offset = off) (hsz : P.cellsOf f.type = kd.sz) (h : Opens enc P W f.type kd G) : OpensF enc P W [f] off kd G := by
  intro n cs hf hl
  obtain ⟨x, hx⟩ := hf f (by simp)
  obtain ⟨a, hk, hg⟩ := h _ _ _ hx
  refine ⟨a, ?_, hg⟩
  have : (cs.drop f.offset).take (P.cellsOf f.type) = cs.drop off := by
    rw [ho, hsz, List.take_of_length_le (by simp; omega)]
  rw [this] at hk
  exact hk

theorem opensF_cons {α β : Type} {f : Field} {fs : List Field} {off : Nat} {kd : Kd α} {kd' : Kd β} {G : α → Prop} {G' : β → Prop} (ho : f.offset = off) (hsz : P.cellsOf f.type = kd.sz)
    (h : Opens enc P W f.type kd G) (h' : OpensF enc P W fs (off + kd.sz) kd' G') : OpensF enc P W (f :: fs) off (Kd.pair kd kd') (fun x => G x.1 ∧ G' x.2) := by
  intro n cs hf hl
  obtain ⟨x, hx⟩ := hf f (by simp)
  obtain ⟨a, hk, hg⟩ := h _ _ _ hx
  have hl' : cs.length = off + kd.sz + kd'.sz := by rw [hl]; show off + (kd.sz + kd'.sz) = _; omega
  obtain ⟨b, hk', hg'⟩ := h' n cs (fun g hgm => hf g (by simp [hgm])) hl'
  refine ⟨(a, b), ⟨_, _, ?_, hk, hk'⟩, hg, hg'⟩
  rw [ho, hsz, ← List.drop_drop, List.take_append_drop]

theorem opens_struct {α β : Type} {t : TypeId} {fs : Array Field} {kd : Kd α} {G : α → Prop} (f : β → α) (g : α → β) (hfg : ∀ x, f (g x) = x) (ht : P.underlying t = some (.struct fs)) (hsz : P.cellsOf t = kd.sz)
    (h : OpensF enc P W fs.toList 0 kd G) : Opens enc P W t (Kd.iso kd f) (fun b => G (f b)) := by
  intro fuel cs x hx
  obtain ⟨xs, n, _, _, hl, hlen, hel⟩ := DataW.trod_struct ht hx
  obtain ⟨a, hk, hg⟩ := h n cs (fun fd hfd => by
    obtain ⟨i, hi, rfl⟩ := List.mem_iff_getElem.1 hfd
    have hi' : i < fs.size := by simpa using hi
    have := hel i fs[i] (by simp [hi'])
    rw [List.getElem?_eq_getElem (by omega)] at this
    exact ⟨_, by simpa using this⟩) (by rw [hl, hsz]; omega)
  refine ⟨g a, ?_, by show G (f (g a)); rw [hfg]; exact hg⟩
  show kd.K W (f (g a)) cs
  rw [hfg]
  simpa using hk

theorem opens_prod {α : Type} {t : TypeId} {fs : Array Field} {kd : Kd α} {G : α → Prop} (ht : P.underlying t = some (.struct fs)) (hsz : P.cellsOf t = kd.sz)
    (h : OpensF enc P W fs.toList 0 kd G) : Opens enc P W t kd G := opens_struct (fun x => x) (fun x => x) (fun _ => rfl) ht hsz h

/-- A parameter that is a slice, opened. -/
theorem opens_slice_arg {α : Type} {t e : TypeId} {kd : Kd α} {G : List α → Prop} {v : Value} {d : DataW H} {p : List MemPlace} {r : Reach} {b0 : Nat} (hs : P.underlying t = some (.slice e)) (hv : Value.okWide P W r b0 t v)
    (h : Opens enc P W t (Kd.slice e kd) G) (ht : DataW.Trod enc P W 0 (fun _ => true) true t v d p) : ∃ (l : List α) (A : Option Addr) (c : Nat), v = .slice A l.length c ∧ l.length ≤ c ∧ Kd.C kd W A l.length l ∧ G l := by
  obtain ⟨A, len, cap, rfl⟩ := okWide_slice hs hv
  obtain ⟨fuel, hf⟩ := ht
  obtain ⟨l, ⟨A', c', hcs, hl, hc⟩, hg⟩ := h _ _ _ hf
  simp only [Value.cells, List.cons.injEq, Value.slice.injEq, and_true] at hcs
  obtain ⟨rfl, rfl, rfl⟩ := hcs
  exact ⟨l, A, cap, rfl, hl, hc, hg⟩

/-- A parameter that is a string, opened. -/
theorem opens_string_arg {t : TypeId} {v : Value} {d : DataW H} {p : List MemPlace} {r : Reach} {b0 : Nat} (hs : P.underlying t = some .string) (hv : Value.okWide P W r b0 t v)
    (ht : DataW.Trod enc P W 0 (fun _ => true) true t v d p) : ∃ s : ByteArray, v = .string s ∧ s.size ≤ maxLen := by
  obtain ⟨s, rfl, _, _, h⟩ := Go.ChangeMaps.open_string hs hv ht
  exact ⟨s, rfl, h⟩

/-- A parameter's own value, opened. -/
theorem opens_arg {α : Type} {t : TypeId} {kd : Kd α} {G : α → Prop} {fs : Array Field} {v : Value} {d : DataW H} {p : List MemPlace} {r : Reach} {b0 : Nat} (hs : P.underlying t = some (.struct fs)) (hv : Value.okWide P W r b0 t v)
    (h : Opens enc P W t kd G) (ht : DataW.Trod enc P W 0 (fun _ => true) true t v d p) : ∃ a l, v = .agg ⟨l⟩ ∧ kd.K W a l ∧ G a := by
  obtain ⟨cs, rfl, _⟩ := okWide_struct hs hv
  obtain ⟨fuel, hf⟩ := ht
  obtain ⟨a, hk, hg⟩ := h _ _ _ hf
  exact ⟨a, cs.toList, by simp, by simpa [Value.cells] using hk, hg⟩
end
end Go.Proofs.Ytjmejobelkllmaa.RowOpen
