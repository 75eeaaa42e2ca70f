/- Texts cut by the library, and numbers read by the library. -/
import Derived.Test.YtiljmehapdeanaaDoorVp66
import Derived.Lib.SplitLaws
import Derived.Lib.AtoiAll
namespace Go.Vm.Pu
open Go Go.RowKit Go.Vm
set_option linter.unusedVariables false
set_option linter.unusedSimpArgs false
theorem index_eq (c : UInt8) (l : List UInt8) : Lib.index (c :: l) [c] = 0 := by rw [Lib.index]; simp [List.isPrefixOf]
theorem index_ne (b c : UInt8) (l : List UInt8) (h : b ≠ c) : Lib.index (b :: l) [c] = if Lib.index l [c] == -1 then -1 else Lib.index l [c] + 1 := by
  have hp : ([c] : List UInt8).isPrefixOf (b :: l) = false := by simp [List.isPrefixOf, Ne.symm h]
  rw [Lib.index, hp]
  simp
theorem cut_lib (c : UInt8) : ∀ l : List UInt8, Lib.splitK [c] 0 (l.count c) l = cutB c l
  | [] => rfl
  | b :: l => by
    have ih := cut_lib c l
    by_cases h : b = c
    · subst h
      rw [List.count_cons_self, Lib.splitK, index_eq, cutB_cons, if_pos rfl, if_neg (by decide)]
      simp only [Int.toNat_zero, Nat.zero_add, List.take_zero, List.length_cons, List.length_nil, List.drop_succ_cons, List.drop_zero]
      rw [ih]
    · rw [List.count_cons_of_ne (by simpa using h), cutB_cons, if_neg h, ← ih]
      cases hk : l.count c with
      | zero => simp [Lib.splitK, onto]
      | succ k =>
        have hix : Lib.index l [c] ≠ -1 := fun e => by
          have h1 := Lib.count_one c l
          rw [Lib.count_miss e, hk] at h1
          omega
        have hge := Lib.index_ge l [c]
        obtain ⟨j, hj⟩ : ∃ j : Nat, Lib.index l [c] = j := ⟨(Lib.index l [c]).toNat, by omega⟩
        rw [Lib.splitK, Lib.splitK, index_ne b c l h, if_neg (c := (Lib.index l [c] == -1) = true) (by simpa using hix), if_neg (c := (Lib.index l [c] == -1) = true) (by simpa using hix), hj, if_neg (by simp; omega)]
        rw [show ((j : Int) + 1).toNat = j + 1 by omega, show (j : Int).toNat = j by omega]
        simp [onto]
theorem splitI (t : List UInt8) (c : UInt8) (ht : t.length ≤ 4000000000) (k : Nat) (hk : 1 ≤ k) : strings_Split.f k (tB t) (tB [c]) = some ((cutB c t).map tB) := by
  obtain ⟨k, rfl⟩ : ∃ m, k = m + 1 := ⟨k - 1, by omega⟩
  rw [strings_Split.f_eq, if_pos ⟨by rw [tB_size]; omega, by rw [tB_size]; simp⟩]
  congr 1
  have h1 := Lib.splitB_data (tB [c]) 0 (Lib.countB (tB t) (tB [c])) (tB t)
  have h2 : Lib.countB (tB t) (tB [c]) = t.count c := by
    have : Lib.countB (tB t) (tB [c]) = Lib.count (tB t).data.toList (tB [c]).data.toList := rfl
    rw [this, tB_data, tB_data, Lib.count_one]
  rw [h2] at h1 ⊢
  rw [tB_data, tB_data, cut_lib] at h1
  rw [← h1, List.map_map]
  conv => lhs; rw [← List.map_id (Lib.splitB (tB [c]) 0 (List.count c t) (tB t))]
  exact List.map_congr_left fun x _ => (tB_list x).symm
theorem valF_ge : ∀ (l : List UInt8) (v : Nat), v ≤ valF v l
  | [], v => Nat.le_refl _
  | b :: l, v => Nat.le_trans (by omega) (valF_ge l (10 * v + (b.toNat - 48)))
theorem parse_digits : ∀ (l : List UInt8) (v : Nat), (∀ b ∈ l, isDg b) → valF v l < 1000000000000000000 → Lib.parseUint10 v l = .ok (valF v l)
  | [], v, _, _ => rfl
  | b :: l, v, hd, hv => by
    have hb : 48 ≤ b.toNat ∧ b.toNat ≤ 57 := hd b (by simp)
    have h1 : valF v (b :: l) = valF (10 * v + (b.toNat - 48)) l := rfl
    rw [h1] at hv ⊢
    have h2 := valF_ge l (10 * v + (b.toNat - 48))
    rw [Lib.parseUint10, if_pos hb, if_neg (by omega), if_neg (by omega), show v * 10 + (b.toNat - 48) = 10 * v + (b.toNat - 48) by omega]
    exact parse_digits l _ (fun x hx => hd x (by simp [hx])) hv
theorem atoi_itoa {x : Int} (h : short x) : Lib.atoiAll (Lib.itoa x) = .ok x := by
  unfold short at h
  have hp := parse_digits (Lib.decDigits x.natAbs) 0 (dec_dg _) (by rw [dec_val]; omega)
  rw [dec_val] at hp
  have hne : Lib.decDigits x.natAbs ≠ [] := fun e => by
    have := dec_pos x.natAbs
    rw [e] at this
    simp at this
  by_cases c : x < 0
  · rw [itoa_neg x c]
    unfold Lib.atoiAll
    simp only
    rw [if_pos (c := (45 : UInt8).toNat = 43 ∨ (45 : UInt8).toNat = 45) (by decide), Lib.parseMag, if_neg hne, hp]
    simp only
    rw [if_neg (fun g => g.1 (by decide)), if_neg (by omega), if_pos (by decide), show -(x.natAbs : Int) = x by omega]
  · rw [itoa_nn x c]
    cases e : Lib.decDigits x.natAbs with
    | nil => exact absurd e hne
    | cons b r =>
      have hb : isDg b := dec_dg x.natAbs b (by rw [e]; simp)
      unfold isDg at hb
      rw [e] at hp
      unfold Lib.atoiAll
      simp only
      rw [if_neg (c := b.toNat = 43 ∨ b.toNat = 45) (by omega), Lib.parseMag, if_neg (by simp), hp]
      simp only
      rw [if_neg (by omega), if_neg (by omega), if_neg (by omega), show ((x.natAbs : Nat) : Int) = x by omega]
theorem numI (w : List UInt8) (hw : w.length ≤ 281474976710656) (k : Nat) (hk : 1 ≤ k) : ∃ v b, impl_parseNumber.f k (tB w) = some (v, b) ∧ (b = true → short v ∧ w = Lib.itoa v) ∧ (b = false → ∀ x, short x → w ≠ Lib.itoa x) := by
  obtain ⟨k, rfl⟩ : ∃ m, k = m + 1 := ⟨k - 1, by omega⟩
  rw [impl_parseNumber.f_eq, if_pos (by rw [tB_size]; exact hw)]
  refine ⟨_, _, rfl, fun h => ?_, fun h x hx hw => ?_⟩
  · unfold numB at h
    unfold Vm.numV
    rw [tB_data] at h ⊢
    cases e : Lib.atoiAll w with
    | ok v =>
      rw [e] at h
      have := of_decide_eq_true h
      exact ⟨⟨this.1, this.2.1⟩, this.2.2.symm⟩
    | _ => rw [e] at h; cases h
  · unfold numB at h
    rw [tB_data, hw, atoi_itoa hx] at h
    exact of_decide_eq_false h ⟨hx.1, hx.2, rfl⟩
end Go.Vm.Pu
