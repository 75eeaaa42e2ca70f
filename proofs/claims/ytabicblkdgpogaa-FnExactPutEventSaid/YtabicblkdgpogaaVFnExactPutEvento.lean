/- Plain lemmas that the texts of FnExactPutEvent share. -/
import Derived.Test.YtabicblkdgpogaaVFnExactPutEvent
import Derived.ProofKit
import Derived.OpenShut
import Derived.ChangeSlices
import Derived.DataReads
section
namespace Go.Proofs.Ytabicblkdgpogaa.Opens
open Go.RowKit Go.ChangeShapes Go.WideShapes Go.Proofs.YtabicblkdgpogaaW.PrintWords
def Opens {α : Type} (P : Program) (t : TypeId) (d : Kd α) (wf : α → Prop) : Prop :=
  ∀ (H : Type) (enc : TypeId × Value → H) (w : World) (base : Nat) (held : Bool) (fuel : Nat) (cs : List Value) (x : DataW H × List MemPlace),
    DataW.trod enc P w base (fun _ => true) held fuel t cs = some x → ∃ a : α, d.K w a cs ∧ wf a
theorem opens_int {P : Program} {t : TypeId} {k : IntKind} (hu : P.underlying t = some (.int k)) : Opens P t (Kd.int k) (fun n => (Lit.int k n).wf = true) := by
  intro H enc w base held fuel cs x h
  obtain ⟨m, rfl, _, hw⟩ := DataW.trod_int hu h
  exact ⟨m, rfl, hw⟩
theorem opens_bool {P : Program} {t : TypeId} (hu : P.underlying t = some .bool) : Opens P t Kd.bool (fun _ => True) := by
  intro H enc w base held fuel cs x h
  obtain ⟨m, rfl, _⟩ := DataW.trod_bool hu h
  exact ⟨m, rfl, trivial⟩
theorem opens_string {P : Program} {t : TypeId} (hu : P.underlying t = some .string) : Opens P t Kd.string (fun s => s.size ≤ maxLen) := by
  intro H enc w base held fuel cs x h
  obtain ⟨m, rfl, _, hm⟩ := DataW.trod_string hu h
  exact ⟨m, rfl, hm⟩
theorem list_of {α : Type} {p : Nat → α → Prop} : ∀ n : Nat, (∀ i, i < n → ∃ y, p i y) → ∃ l : List α, l.length = n ∧ ∀ i y, l[i]? = some y → p i y := by
  intro n
  induction n with
  | zero => intro _; exact ⟨[], rfl, fun i y h => by simp at h⟩
  | succ n ih =>
    intro h
    obtain ⟨l, hl, hp⟩ := ih (fun i hi => h i (by omega))
    obtain ⟨y, hy⟩ := h n (by omega)
    refine ⟨l ++ [y], by simp [hl], fun i z hz => ?_⟩
    by_cases c : i < n
    · rw [List.getElem?_append_left (by omega)] at hz
      exact hp i z hz
    · have hi : i = n := by
        have := (List.getElem?_eq_some_iff.1 hz).1
        simp [hl] at this
        omega
      subst hi
      rw [List.getElem?_append_right (by omega), hl, Nat.sub_self] at hz
      simp at hz
      subst hz
      exact hy
theorem opens_slice {α : Type} {P : Program} {t e : TypeId} {q : Nat} {d : Kd α} {wf : α → Prop} (hu : P.underlying t = some (.slice e)) (hs : P.cellsOf e = d.sz) (ho : Opens P e d wf) :
    Opens P t (Kd.slice q d) (fun l => l.length ≤ maxLen ∧ ∀ x ∈ l, wf x) := by
  intro H enc w base held fuel cs x h
  rcases DataW.trod_slice hu h with ⟨rfl, _⟩ | ⟨a, len, cap, elems, rest, n, _, rfl, _, hb, hl, hm, hlen, hel, _, _⟩
  · exact ⟨[], ⟨none, 0, rfl, Nat.le_refl _, Kd.C_nil _ _⟩, by simp [maxLen], by simp⟩
  · obtain ⟨l, hll, hlp⟩ := list_of (p := fun i (y : α) => ∃ c, w.cells? base (a.add (i * d.sz)) d.sz = some c ∧ d.K w y c ∧ wf y) len (fun i hi => by
      have h1 := hel i hi
      rw [List.getElem?_eq_getElem (by omega : i < elems.length), Option.bind_eq_some_iff, hs] at h1
      obtain ⟨c, hc, hy⟩ := h1
      obtain ⟨y, hK, hw⟩ := ho H enc w base held n c _ hy
      exact ⟨y, c, hc, hK, hw⟩)
    refine ⟨l, ⟨some a, cap, by rw [hll], by omega, ⟨rfl, by have := hm; unfold maxLen at this; omega, fun _ => ⟨a, rfl, fun j p hp => ?_⟩⟩⟩, by omega, fun y hy => ?_⟩
    · obtain ⟨c, hc, hK, _⟩ := hlp j p hp
      obtain ⟨_, hcl, hcell⟩ := World.cells?_some hc
      refine ⟨c, hcl, hK, fun i u hu => ?_⟩
      have hi : i < d.sz := by
        have := (List.getElem?_eq_some_iff.1 hu).1
        omega
      have := hcell i hi
      rw [hu, Addr.add_add] at this
      exact this
    · obtain ⟨i, hi⟩ := List.getElem?_of_mem hy
      obtain ⟨c, _, _, hw⟩ := hlp i y hi
      exact hw
theorem field_open {α H : Type} {enc : TypeId × Value → H} {P : Program} {w : World} {base : Nat} {held : Bool} {n : Nat} {t : TypeId} {d : Kd α} {wf : α → Prop} {cs : List Value} {xs : List (DataW H × List MemPlace)} {i : Nat}
    (ho : Opens P t d wf) (hi : i < xs.length) (h : DataW.trod enc P w base (fun _ => true) held n t cs = xs[i]?) : ∃ a : α, d.K w a cs ∧ wf a := by
  rw [List.getElem?_eq_getElem hi] at h
  exact ho H enc w base held n cs _ h
theorem pair_at {α β : Type} {a : Kd α} {b : Kd β} {w : World} {x : α} {y : β} {cs : List Value} {o c o' : Nat} (he : o + c = o') (h0 : a.K w x ((cs.drop o).take c)) (h1 : b.K w y (cs.drop o')) : (Kd.pair a b).K w (x, y) (cs.drop o) := by
  refine ⟨(cs.drop o).take c, cs.drop o', ?_, h0, h1⟩
  rw [← he, ← List.drop_drop, List.take_append_drop]
theorem last_at {β : Type} {b : Kd β} {w : World} {y : β} {cs : List Value} {o c m : Nat} (hl : cs.length = m) (he : o + c = m) (h : b.K w y ((cs.drop o).take c)) : b.K w y (cs.drop o) := by
  rwa [List.take_of_length_le (by rw [List.length_drop]; omega)] at h
theorem open_top {α H : Type} {enc : TypeId × Value → H} {P : Program} {w : World} {t : TypeId} {d : Kd α} {wf : α → Prop} (ho : Opens P t d wf) {v : Value} {dd : DataW H} {ps : List MemPlace} (h : DataW.Trod enc P w 0 (fun _ => true) true t v dd ps) :
    ∃ a : α, d.K w a v.cells.toList ∧ wf a := by
  obtain ⟨fuel, hf⟩ := h
  exact ho H enc w 0 true fuel _ _ hf
end Go.Proofs.Ytabicblkdgpogaa.Opens
end
