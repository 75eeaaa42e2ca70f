/- The plain law of FnExactAppendEvent; the conditions are what is known of the input. -/
import Derived.Test.YtjnckjfohpbdeaaVpA
namespace Go.Vm.Pu
open Go Go.RowKit Go.Vm
set_option linter.unusedVariables false
set_option linter.unusedSimpArgs false
/-- What both answer. -/
def ap (a b : List Int) (a0 a1 a2 a3 : Int) (D : List Int) : List Int × List Int × Bool :=
  if a.length + b.length ≤ 60000 ∧ EvP a0 a1 a2 a3 D ∧ a.length + (b ++ pe a0 a1 a2 a3 D).length ≤ 60000 then (a, b ++ pe a0 a1 a2 a3 D, true) else (a, b, false)
theorem ap_len (a b : List Int) (a0 a1 a2 a3 : Int) (D : List Int) (h : a.length + b.length ≤ 1048576) : (ap a b a0 a1 a2 a3 D).1.length + (ap a b a0 a1 a2 a3 D).2.1.length ≤ 1048576 := by
  unfold ap
  split
  · rename_i c
    show a.length + (b ++ pe a0 a1 a2 a3 D).length ≤ 1048576
    have := c.2.2
    omega
  · exact h
/-- The order in which the program hands it on. -/
def dv (x : List Int × List Int × Bool) : Bool × List Int × List Int := (x.2.2, x.1, x.2.1)
theorem sap_f (a b : List Int) (a0 a1 a2 a3 : Int) (D : List Int) (hb : Bs D) (h : a.length + b.length ≤ 1048576) (hD : D.length ≤ 1048576) (k : Nat) (hk : 1600005 ≤ k) : spec_AppendEvent.f k a b a0 a1 a2 a3 D = some (dv (ap a b a0 a1 a2 a3 D)) := by
  obtain ⟨k, rfl⟩ : ∃ m, k = m + 1 := ⟨k - 1, by omega⟩
  have hl := pe_len a0 a1 a2 a3 D
  have no : ¬ (a.length + b.length ≤ 60000 ∧ EvP a0 a1 a2 a3 D) → some (false, a, b) = some (dv (ap a b a0 a1 a2 a3 D)) := by
    intro c
    unfold ap
    rw [if_neg (fun g => c ⟨g.1, g.2.1⟩)]
    rfl
  rw [spec_AppendEvent.f_eq, specDiskOk_f a b h k (by omega)]
  simp only [bs, not_ite, l18Copy_f a b h k (by omega)]
  by_cases c : a.length + b.length ≤ 60000
  · rw [if_pos (decide_eq_true c), sevent_f a0 a1 a2 a3 D hb (by omega) k (by omega)]
    simp only [bs]
    by_cases e : EvP a0 a1 a2 a3 D
    · rw [if_pos (decide_eq_true e), bytes_is a (by omega) k (by omega)]
      simp only [bs]
      rw [sput_f a0 a1 a2 a3 D hb hD k (by omega)]
      simp only [bs]
      rw [join_is b (pe a0 a1 a2 a3 D) (by omega) (by omega) k (by omega) (by omega)]
      simp only [bs]
      have hap : (b ++ pe a0 a1 a2 a3 D).length = b.length + (pe a0 a1 a2 a3 D).length := List.length_append
      rw [specDiskOk_f a (b ++ pe a0 a1 a2 a3 D) (by omega) k (by omega)]
      simp only [bs]
      unfold ap
      by_cases g : a.length + (b ++ pe a0 a1 a2 a3 D).length ≤ 60000
      · rw [if_pos (decide_eq_true g), if_pos ⟨c, e, g⟩]
        rfl
      · rw [if_neg (by simpa using g), if_neg (fun q => g q.2.2)]
        rfl
    · rw [if_neg (by simpa using e)]
      exact no (fun g => e g.2)
  · rw [if_neg (by simpa using c)]
    exact no (fun g => c g.1)
theorem iap_f (a b : List Int) (a0 a1 a2 a3 : Int) (D : List Int) (hb : Bs D) (h : a.length + b.length ≤ 1048576) (hD : D.length ≤ 1048576) (k : Nat) (hk : 1600005 ≤ k) : impl_AppendEvent.f k a b a0 a1 a2 a3 D = some (dv (ap a b a0 a1 a2 a3 D)) := by
  obtain ⟨k, rfl⟩ : ∃ m, k = m + 1 := ⟨k - 1, by omega⟩
  have hl := pe_len a0 a1 a2 a3 D
  have no : ¬ (a.length + b.length ≤ 60000 ∧ EvP a0 a1 a2 a3 D) → some (false, a, b) = some (dv (ap a b a0 a1 a2 a3 D)) := by
    intro c
    unfold ap
    rw [if_neg (fun g => c ⟨g.1, g.2.1⟩)]
    rfl
  rw [impl_AppendEvent.f_eq, copyDisk_f a b h k (by omega)]
  simp only [bs, not_ite]
  rw [isDisk_f a b h k (by omega)]
  simp only [bs]
  by_cases c : a.length + b.length ≤ 60000
  · rw [if_pos (decide_eq_true c), ievent_f a0 a1 a2 a3 D hb (by omega) k (by omega)]
    simp only [bs]
    by_cases e : EvP a0 a1 a2 a3 D
    · rw [if_pos (decide_eq_true e), iput_is a0 a1 a2 a3 D hb hD e k (by omega)]
      simp only [bs]
      have hap : (b ++ pe a0 a1 a2 a3 D).length = b.length + (pe a0 a1 a2 a3 D).length := List.length_append
      rw [if_pos (by omega), isDisk_f a (b ++ pe a0 a1 a2 a3 D) (by omega) k (by omega)]
      simp only [bs]
      unfold ap
      by_cases g : a.length + (b ++ pe a0 a1 a2 a3 D).length ≤ 60000
      · rw [if_pos (decide_eq_true g), if_pos ⟨c, e, g⟩]
        rfl
      · rw [if_neg (by simpa using g), if_neg (fun q => g q.2.2)]
        rfl
    · rw [if_neg (by simpa using e)]
      exact no (fun g => e g.2)
  · rw [if_neg (by simpa using c)]
    exact no (fun g => c g.1)
theorem law_AppendEvent (a b : List Int) (a0 a1 a2 a3 : Int) (D : List Int) (ha : a.length ≤ maxLen) (hbl : b.length ≤ maxLen) (wD : D.length ≤ maxLen) (hb : Bs D) : ∃ k, laws_FnExactAppendEvent.f k a b a0 a1 a2 a3 D = some true := by
  obtain ⟨K, hK⟩ : ∃ K : Nat, K = 1600005 := ⟨_, rfl⟩
  refine ⟨K + 1, ?_⟩
  rw [laws_FnExactAppendEvent.f_eq]
  simp only [not_ite]
  by_cases c : a.length + b.length ≤ 1048576
  case neg =>
    rw [szDisk_f a b ha hbl K (by omega), if_neg c]
    simp only [bs]
    rw [if_pos (by decide)]
  by_cases c2 : (D.length : Int) ≤ 1048576 - (a.length : Int) - b.length
  case neg =>
    rw [szDisk_f a b ha hbl K (by omega), if_pos c]
    simp only [bs]
    rw [if_neg (by omega), szEventL a0 a1 a2 a3 D wD _ (by omega) (by omega) K (by omega), if_neg c2]
    simp only [bs]
    rw [if_pos (by decide)]
  have hD : D.length ≤ 1048576 := by omega
  have T := toEvent_f a0 a1 a2 a3 D hD K (by omega)
  have U := toDisk_f a b c K (by omega)
  have Q := eqEvent_self a0 a1 a2 a3 D hD K (by omega)
  have V := eqDisk_f a b c K (by omega)
  have E1 := sap_f a b a0 a1 a2 a3 D hb c hD K (by omega)
  have E2 := iap_f a b a0 a1 a2 a3 D hb c hD K (by omega)
  have hl := ap_len a b a0 a1 a2 a3 D c
  generalize ap a b a0 a1 a2 a3 D = r at hl E1 E2
  obtain ⟨x, y, ok⟩ := r
  simp only at hl
  simp only [dv] at E1 E2
  have S := eqDisk_f x y hl K (by omega)
  have M := markDisk_f x y hl K (by omega)
  have M0 := markDisk_f a b c K (by omega)
  have H := heldDisk_f x.length y.length hl K (by omega)
  rw [szDisk_f a b ha hbl K (by omega), if_pos c]
  simp only [bs]
  rw [if_neg (by omega), szEventL a0 a1 a2 a3 D wD _ (by omega) (by omega) K (by omega), if_pos c2]
  simp only [bs]
  rw [if_neg (by omega)]
  simp only [U, T, E1, E2, S, V, Q, M0, bs, if_true, beq_self_eq_true]
  rw [markEventL a0 a1 a2 a3 D hD _ (by omega) (by omega) K (by omega)]
  simp only [bs]
  rw [if_neg (by omega)]
  simp only [M, H, bs]
  rw [if_neg (by omega), if_neg (by simp), if_neg (by omega), if_neg (by simp)]
end Go.Vm.Pu
