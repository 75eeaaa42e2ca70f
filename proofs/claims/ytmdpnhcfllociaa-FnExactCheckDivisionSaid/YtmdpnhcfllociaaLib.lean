/- Plain lemmas on numbers, lists and rounds, for the pure statements; no conditions beside their own hypotheses. -/
import Derived.Test.YtmdpnhcfllociaaWWords
import Derived.RowKit
namespace Go.Proofs.Ytmdpnhcfllociaa.Lib
open Go.RowKit Go.Proofs.YtmdpnhcfllociaaW.PrintWords

/-- A value handed on; told so that simp rewrites by it instead of computing (the kernel else unfolds what follows). -/
theorem bs {α β : Type} (x : α) (f : α → Option β) : (some x).bind f = f x := (Option.bind_some x f).trans (Eq.refl _)
theorem wrap_id {x : Int} (h1 : -9223372036854775808 ≤ x) (h2 : x ≤ 9223372036854775807) : wrap64 x = x := by
  unfold wrap64; omega
theorem rd_at (l : List Int) (i : Nat) (h : i < l.length) : rd l (i : Int) = l[i] := by
  simp [rd, List.getD, h]
theorem rd_mem (l : List Int) (i : Int) (h0 : 0 ≤ i) (h : i < l.length) : rd l i ∈ l := by
  obtain ⟨n, rfl⟩ := Int.eq_ofNat_of_zero_le h0
  have hn : n < l.length := by omega
  rw [rd_at l n hn]
  exact List.getElem_mem hn
theorem set_take {α : Type} (l : List α) (i : Nat) (a : α) (h : i < l.length) : (l.set i a).take (i + 1) = l.take i ++ [a] := by
  rw [List.take_succ_eq_append_getElem (by simpa using h), List.take_set_of_le (by omega)]
  simp
theorem drop_cons {α : Type} (l : List α) (i : Nat) (h : i < l.length) : l.drop i = l[i] :: l.drop (i + 1) := List.drop_eq_getElem_cons h
theorem cast_succ (i : Nat) : (i : Int) + 1 = ((i + 1 : Nat) : Int) := rfl
theorem ev_of_lt {α : Type} {g : Nat → Option α} {r : α} (d : Nat) (h : ∀ k, d < k → g k = some r) : Ev g r := ⟨d + 1, fun k hk => h k hk⟩
theorem ev_const {α : Type} {g : Option α} {r : α} (h : g = some r) : Ev (fun _ => g) r := ⟨0, fun _ _ => h⟩
theorem ev_ite_pos {α : Type} {p : Prop} [Decidable p] {g f : Nat → Option α} {r : α} (h : p) (k : Ev g r) : Ev (fun n => if p then g n else f n) r := by
  obtain ⟨K, hK⟩ := k
  exact ⟨K, fun n hn => by simp only [if_pos h]; exact hK n hn⟩
theorem ev_ite_neg {α : Type} {p : Prop} [Decidable p] {g f : Nat → Option α} {r : α} (h : ¬ p) (k : Ev f r) : Ev (fun n => if p then g n else f n) r := by
  obtain ⟨K, hK⟩ := k
  exact ⟨K, fun n hn => by simp only [if_neg h]; exact hK n hn⟩
theorem ev_at {α : Type} {g : Nat → Option α} {r : α} (h : Ev g r) : ∃ k, g k = some r := h.rounds
theorem wf_bounds {x : Int} (h : (Lit.int .i64 x).wf = true) : -9223372036854775808 ≤ x ∧ x ≤ 9223372036854775807 := by
  simp only [Lit.wf, Bool.and_eq_true, decide_eq_true_eq] at h
  exact h
theorem wf_byte {x : Int} (h : (Lit.int .u8 x).wf = true) : 0 ≤ x ∧ x ≤ 255 := by
  simp only [Lit.wf, Bool.and_eq_true, decide_eq_true_eq] at h
  exact h

/-- A loop over a list by its index: each round goes on, or ends with what the rest of the list is worth. -/
theorem loop_list {α σ R : Type} (F : Nat → σ → Int → Option R) (l : List α) (K : Nat) (Inv : Nat → σ → Prop) (G : List α → σ → R)
    (hnil : ∀ k s, K ≤ k → Inv l.length s → F (k + 1) s (l.length : Int) = some (G [] s))
    (hcons : ∀ k i s (h : i < l.length), K ≤ k → Inv i s → (∃ s', F (k + 1) s (i : Int) = F k s' ((i + 1 : Nat) : Int) ∧ Inv (i + 1) s' ∧ G (l[i] :: l.drop (i + 1)) s = G (l.drop (i + 1)) s') ∨ F (k + 1) s (i : Int) = some (G (l[i] :: l.drop (i + 1)) s))
    (k : Nat) (s : σ) (hk : l.length + K < k) (h0 : Inv 0 s) : F k s 0 = some (G l s) := by
  have key : ∀ (d k i : Nat) (s : σ), i + d = l.length → d + K < k → Inv i s → F k s (i : Int) = some (G (l.drop i) s) := by
    intro d
    induction d with
    | zero =>
      intro k i s hi hk h
      obtain ⟨k, rfl⟩ : ∃ m, k = m + 1 := ⟨k - 1, by omega⟩
      obtain rfl : i = l.length := by omega
      rw [hnil k s (by omega) h, List.drop_length]
    | succ d ih =>
      intro k i s hi hk h
      obtain ⟨k, rfl⟩ : ∃ m, k = m + 1 := ⟨k - 1, by omega⟩
      rw [drop_cons l i (by omega)]
      rcases hcons k i s (by omega) (by omega) h with ⟨s', e, h', g⟩ | e
      · rw [e, g]
        exact ih k (i + 1) s' (by omega) (by omega) h'
      · exact e
  have := key l.length k 0 s (by omega) (by omega) h0
  simpa using this
/-- A loop that sets element after element. -/
theorem set_loop {α β : Type} (F : Nat → List β → Int → Option (List β)) (l : List α) (f : α → β) (K : Nat)
    (hnil : ∀ k s, K ≤ k → F (k + 1) s (l.length : Int) = some s)
    (hcons : ∀ k i s (h : i < l.length), K ≤ k → s.length = l.length → F (k + 1) s (i : Int) = F k (s.set i (f l[i])) ((i + 1 : Nat) : Int))
    (k : Nat) (s : List β) (hk : l.length + K < k) (hs : s.length = l.length) : F k s 0 = some (l.map f) := by
  have key : ∀ (d k i : Nat) (s : List β), i + d = l.length → d + K < k → s.length = l.length → F k s (i : Int) = some (s.take i ++ (l.drop i).map f) := by
    intro d
    induction d with
    | zero =>
      intro k i s hi hk hs
      obtain ⟨k, rfl⟩ : ∃ m, k = m + 1 := ⟨k - 1, by omega⟩
      obtain rfl : i = l.length := by omega
      rw [hnil k s (by omega), List.drop_length, List.take_of_length_le (by omega)]
      simp
    | succ d ih =>
      intro k i s hi hk hs
      obtain ⟨k, rfl⟩ : ∃ m, k = m + 1 := ⟨k - 1, by omega⟩
      rw [hcons k i s (by omega) (by omega) hs, ih k (i + 1) _ (by omega) (by omega) (by simpa using hs), set_take _ _ _ (by omega), drop_cons l i (by omega), List.map_cons, List.append_assoc]
      rfl
  have := key l.length k 0 s (by omega) (by omega) hs
  simpa using this
/-- A loop that appends an element a round. -/
theorem append_loop {α β : Type} (F : Nat → List β → Int → Option (List β)) (l : List α) (f : α → β) (K : Nat) (s0 : List β)
    (hnil : ∀ k s, K ≤ k → F (k + 1) s (l.length : Int) = some s)
    (hcons : ∀ k i s (h : i < l.length), K ≤ k → s.length = s0.length + i → F (k + 1) s (i : Int) = F k (s ++ [f l[i]]) ((i + 1 : Nat) : Int))
    (k : Nat) (hk : l.length + K < k) : F k s0 0 = some (s0 ++ l.map f) := by
  have key : ∀ (d k i : Nat) (s : List β), i + d = l.length → d + K < k → s.length = s0.length + i → F k s (i : Int) = some (s ++ (l.drop i).map f) := by
    intro d
    induction d with
    | zero =>
      intro k i s hi hk hs
      obtain ⟨k, rfl⟩ : ∃ m, k = m + 1 := ⟨k - 1, by omega⟩
      obtain rfl : i = l.length := by omega
      rw [hnil k s (by omega), List.drop_length]
      simp
    | succ d ih =>
      intro k i s hi hk hs
      obtain ⟨k, rfl⟩ : ∃ m, k = m + 1 := ⟨k - 1, by omega⟩
      rw [hcons k i s (by omega) (by omega) hs, ih k (i + 1) _ (by omega) (by omega) (by simp [hs]; omega), drop_cons l i (by omega), List.map_cons, List.append_assoc]
      rfl
  have := key l.length k 0 s0 (by omega) (by omega) (by simp)
  simpa using this
/-- A loop that goes on for n rounds, and then ends. -/
theorem count_loop {R : Type} (F : Nat → Int → Option R) (n K : Nat) (r : R) (hend : ∀ k, K ≤ k → F (k + 1) (n : Int) = some r)
    (hgo : ∀ k i, i < n → K ≤ k → F (k + 1) (i : Int) = F k ((i + 1 : Nat) : Int)) (k : Nat) (hk : n + K < k) : F k 0 = some r := by
  have key : ∀ (d k i : Nat), i + d = n → d + K < k → F k (i : Int) = some r := by
    intro d
    induction d with
    | zero =>
      intro k i hi hk
      obtain ⟨k, rfl⟩ : ∃ m, k = m + 1 := ⟨k - 1, by omega⟩
      obtain rfl : i = n := by omega
      exact hend k (by omega)
    | succ d ih =>
      intro k i hi hk
      obtain ⟨k, rfl⟩ : ∃ m, k = m + 1 := ⟨k - 1, by omega⟩
      rw [hgo k i (by omega) (by omega)]
      exact ih k (i + 1) (by omega) (by omega)
  exact key n k 0 (by omega) (by omega)
theorem wrap_next {i n : Nat} (h : i < n) (hn : n ≤ 281474976710656) : wrap64 ((i : Int) + 1) = ((i + 1 : Nat) : Int) := by
  rw [wrap_id (by omega) (by omega)]; rfl
end Go.Proofs.Ytmdpnhcfllociaa.Lib
