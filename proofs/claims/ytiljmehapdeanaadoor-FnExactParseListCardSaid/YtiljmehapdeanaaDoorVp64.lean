/- Texts cut at a byte; a number read back from its text. -/
import Derived.Test.YtiljmehapdeanaaDoorVp62
namespace Go.Vm.Pu
open Go Go.RowKit Go.Vm
set_option linter.unusedVariables false
set_option linter.unusedSimpArgs false
/-- A text, cut at each byte 'c'. -/
def cutB (c : UInt8) : List UInt8 → List (List UInt8)
  | [] => [[]]
  | b :: r => if b = c then [] :: cutB c r else match cutB c r with
    | [] => [[b]]
    | h :: t => (b :: h) :: t
theorem cutB_ne (c : UInt8) : ∀ l, cutB c l ≠ []
  | [] => by simp [cutB]
  | b :: r => by
    unfold cutB
    split
    · simp
    · split <;> simp
/-- What is in hand goes ahead of the first piece. -/
def onto (p : List UInt8) : List (List UInt8) → List (List UInt8)
  | [] => [p]
  | h :: t => (p ++ h) :: t
theorem onto_nil {l : List (List UInt8)} (h : l ≠ []) : onto [] l = l := by
  cases l with
  | nil => exact absurd rfl h
  | cons a t => rfl
theorem cutB_cons (c b : UInt8) (r : List UInt8) : cutB c (b :: r) = if b = c then [] :: cutB c r else onto [b] (cutB c r) := by
  rw [cutB]
  split
  · rfl
  · cases h : cutB c r with
    | nil => rfl
    | cons h t => rfl
theorem onto_onto (p q : List UInt8) (l : List (List UInt8)) : onto p (onto q l) = onto (p ++ q) l := by
  cases l with
  | nil => rfl
  | cons h t => simp [onto]
theorem cutB_len (c : UInt8) : ∀ l, (cutB c l).length ≤ l.length + 1
  | [] => by simp [cutB]
  | b :: r => by
    have := cutB_len c r
    rw [cutB_cons]
    split
    · simp; omega
    · cases h : cutB c r with
      | nil => simp [onto]
      | cons x t => rw [h] at this; simp [onto] at this ⊢; omega
/-- Pieces without the byte, joined by it, are cut into these pieces. -/
theorem cutB_free (c : UInt8) : ∀ (x : List UInt8), c ∉ x → ∀ r, cutB c (x ++ r) = onto x (cutB c r)
  | [], _, r => by rw [List.nil_append, onto_nil (cutB_ne c r)]
  | b :: x, h, r => by
    rw [List.cons_append, cutB_cons, if_neg (fun e => h (by simp [e])), cutB_free c x (fun hx => h (by simp [hx])) r, onto_onto]
    rfl
theorem cutB_tail (c : UInt8) : ∀ (xs : List (List UInt8)), (∀ x ∈ xs, c ∉ x) → ∀ p, c ∉ p → cutB c (p ++ Lib.joinTail [c] xs) = p :: xs
  | [], _, p, hp => by
    rw [show Lib.joinTail [c] [] = [] from rfl, cutB_free c p hp]
    simp [cutB, onto]
  | x :: xs, h, p, hp => by
    rw [joinTail_cons, cutB_free c p hp, List.append_assoc, List.cons_append, List.nil_append, cutB_cons, if_pos rfl, cutB_tail c xs (fun y hy => h y (by simp [hy])) x (h x (by simp))]
    simp [onto]
theorem cutB_join (c : UInt8) (x : List UInt8) (xs : List (List UInt8)) (h : ∀ y ∈ x :: xs, c ∉ y) : cutB c (Lib.join (x :: xs) [c]) = x :: xs := by
  rw [Lib.join_cons]
  exact cutB_tail c xs (fun y hy => h y (by simp [hy])) x (h x (by simp))
theorem split_loop (K : Nat) (t : List UInt8) (by_ : UInt8) (ht : t.length ≤ 281474976710655) : ∀ (r : List UInt8) (i a fu : Nat) (out : List (List UInt8)), t.drop i = r → a ≤ i → i ≤ t.length → r.length + 1 < fu → out.length + r.length ≤ 50000000000 →
    spec_l21Split.l0 K fu (tB t) (by_.toNat : Int) (a : Int) (i : Int) (out.map tB) = some ((out ++ onto ((t.drop a).take (i - a)) (cutB by_ r)).map tB) := by
  intro r
  induction r with
  | nil =>
    intro i a fu out hq ha hi hf ho
    obtain ⟨fu, rfl⟩ : ∃ m, fu = m + 1 := ⟨fu - 1, by omega⟩
    have hq' : t.length ≤ i := by simpa using hq
    obtain rfl : i = t.length := by omega
    obtain ⟨fu, rfl⟩ : ∃ m, fu = m + 1 := ⟨fu - 1, by simp at hf; omega⟩
    rw [spec_l21Split.l0_eq, tB_size, if_pos (by omega), if_pos rfl, spec_l21Split.j0_eq, if_pos rfl, tB_size, if_pos (by omega), if_pos (by omega), if_pos (by omega), if_pos (by rw [List.length_map]; simp at ho; omega), spec_l21Split.l0_eq, tB_size, wrap_id (by omega) (by omega), if_neg (by omega)]
    rw [show Int.toNat (a : Int) = a from rfl, show Int.toNat (t.length : Int) = t.length from rfl, tB_extract t a t.length (Nat.le_refl _)]
    simp [cutB, onto]
  | cons b r ih =>
    intro i a fu out hq ha hi hf ho
    obtain ⟨fu, rfl⟩ : ∃ m, fu = m + 1 := ⟨fu - 1, by omega⟩
    have hlen : i < t.length := by
      rcases Nat.lt_or_ge i t.length with h | h
      · exact h
      · rw [List.drop_eq_nil_of_le h] at hq; cases hq
    have hd := drop_cons t i hlen
    rw [hq] at hd
    injection hd with hc hr
    simp only [List.length_cons] at hf ho
    have htk : (t.drop a).take (i + 1 - a) = (t.drop a).take (i - a) ++ [b] := by
      rw [show i + 1 - a = (i - a) + 1 by omega, List.take_add_one, List.getElem?_drop, show a + (i - a) = i by omega, List.getElem?_eq_getElem hlen, ← hc]
      rfl
    rw [spec_l21Split.l0_eq, tB_size, if_pos (by omega), if_neg (by omega), if_pos (by omega), if_pos (by omega), tB_bt t i hlen, ← hc, spec_l21Split.j0_eq, cutB_cons]
    by_cases g : b = by_
    · subst g
      rw [if_pos (by simp), tB_size, if_pos (by omega), if_pos (by omega), if_pos (by omega), if_pos (by rw [List.length_map]; omega), if_pos rfl, wrap_id (by omega) (by omega), cast_succ]
      rw [show Int.toNat (a : Int) = a from rfl, show Int.toNat (i : Int) = i from rfl, tB_extract t a i (by omega)]
      have := ih (i + 1) (i + 1) fu (out ++ [(t.drop a).take (i - a)]) hr.symm (Nat.le_refl _) hlen (by omega) (by simp; omega)
      rw [List.map_append] at this
      rw [show out.map tB ++ [tB ((t.drop a).take (i - a))] = out.map tB ++ [(t.drop a).take (i - a)].map tB from rfl, this, Nat.sub_self, List.take_zero, onto_nil (cutB_ne _ _)]
      simp [onto]
    · have hne : ¬ ((b.toNat : Int) = (by_.toNat : Int)) := fun e => g (UInt8.toNat_inj.1 (by omega))
      rw [if_neg (by simpa using hne), if_neg g, wrap_id (by omega) (by omega), cast_succ, ih (i + 1) a fu out hr.symm (by omega) hlen (by omega) (by omega), htk, onto_onto]
theorem splitV (t : List UInt8) (c : UInt8) (ht : t.length ≤ 40000000000) (k : Nat) (hk : t.length + 10 ≤ k) : spec_l21Split.f k (tB t) (c.toNat : Int) = some ((cutB c t).map tB) := by
  obtain ⟨k, rfl⟩ : ∃ m, k = m + 1 := ⟨k - 1, by omega⟩
  rw [spec_l21Split.f_eq]
  have := split_loop k t c (by omega) t 0 0 k [] rfl (Nat.le_refl _) (Nat.zero_le _) (by omega) (by simp; omega)
  rw [List.drop_zero, Nat.sub_self, List.take_zero, onto_nil (cutB_ne _ _)] at this
  exact this
end Go.Vm.Pu
