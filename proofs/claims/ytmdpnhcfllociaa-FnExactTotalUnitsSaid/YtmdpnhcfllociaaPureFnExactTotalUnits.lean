/- TotalUnits of the program and of the reference answer alike for all lists. -/
import Derived.Test.YtmdpnhcfllociaaQFnExactTotalUnitsx2
import Derived.Test.YtmdpnhcfllociaaLib
namespace Go.Proofs.Ytmdpnhcfllociaa.Pure
open Go.RowKit Go.Proofs.Ytmdpnhcfllociaa.QFnExactTotalUnits Go.Proofs.YtmdpnhcfllociaaW.PrintWords Go.Proofs.YtmdpnhcfllociaaW.PrintLast Go.Proofs.Ytmdpnhcfllociaa.Lib

def conv (x : S67) : S65 := ⟨x.f0, x.f1, x.f2, x.f3, x.f4⟩
theorem rdL (l : List S67) (i : Nat) (h : i < l.length) : rd_T67 l (i : Int) = l[i] := by simp [rd_T67, List.getD, h]
theorem rdI (l : List S65) (i : Nat) (h : i < l.length) : rd_T65 l (i : Int) = l[i] := by simp [rd_T65, List.getD, h]
theorem toUsageS_f (l : List S67) (hn : l.length ≤ 1048576) (k : Nat) (hk : l.length < k) : laws_toUsageS.f k l = some (l.map conv) := by
  unfold laws_toUsageS.f
  rw [if_pos (by omega), if_pos (by omega)]
  exact set_loop (fun k s i => laws_toUsageS.l0 k l s i) l conv 0 (by
    intro k s _
    simp only [laws_toUsageS.l0]
    rw [if_neg (by omega)]) (by
    intro k i s h _ hs
    simp only [laws_toUsageS.l0, laws_toUsage.f]
    rw [if_pos (by omega), if_pos (by omega), rdL l i h]
    simp only [bs]
    rw [if_pos (by omega), wrap_next h (by omega)]
    rfl) k (List.replicate ((l.length : Int) : Int).toNat z65) (by omega) (by simp)
theorem eqUsageS_f (l : List S65) (hn : l.length ≤ 1048576) (k : Nat) (hk : l.length < k) : laws_eqUsageS.f k l l = some true := by
  unfold laws_eqUsageS.f
  rw [if_pos rfl]
  exact count_loop (fun k i => laws_eqUsageS.l0 k l l i) l.length 0 true (by
    intro k _
    simp only [laws_eqUsageS.l0]
    rw [if_neg (by omega)]) (by
    intro k i h _
    simp only [laws_eqUsageS.l0, laws_eqUsage.f, if_true, bs]
    rw [if_pos (by omega), if_pos (by omega), if_pos (by omega), wrap_next h (by omega)]) k (by omega)
/-- The sum of the units, where all are in range. -/
def tl (s : Int) : List S65 → Int
  | [] => s
  | x :: xs => if 0 ≤ x.f2 ∧ x.f2 ≤ 1000000000000 then tl (s + x.f2) xs else -1
theorem tl_cons (s : Int) (x : S65) (xs : List S65) : tl s (x :: xs) = if 0 ≤ x.f2 ∧ x.f2 ≤ 1000000000000 then tl (s + x.f2) xs else -1 := rfl
theorem spec_total (l : List S65) (k : Nat) (hk : 5000 < k) : spec_TotalUnits.f k l = some (if l.length ≤ 4096 then tl 0 l else -1) := by
  unfold spec_TotalUnits.f
  by_cases c : l.length ≤ 4096
  · rw [if_neg (by omega), if_pos c]
    exact loop_list (fun k s i => spec_TotalUnits.l0 k l s i) l 0 (fun i s => 0 ≤ s ∧ s ≤ 1000000000000 * i) (fun r s => tl s r) (by
      intro k s _ _
      simp only [spec_TotalUnits.l0]
      rw [if_neg (by omega)]
      rfl) (by
      intro k i s h _ ⟨h0, h1⟩
      simp only [spec_TotalUnits.l0, spec_l01In.f]
      rw [if_pos (by omega), if_pos (by omega), rdI l i h]
      simp only [tl_cons]
      generalize l[i] = x
      by_cases c0 : 0 ≤ x.f2
      · by_cases c1 : x.f2 ≤ 1000000000000
        · left
          refine ⟨s + x.f2, ?_, ⟨by omega, by omega⟩, by rw [if_pos ⟨c0, c1⟩]⟩
          rw [if_pos c0]
          simp only [bs, decide_eq_true c1, if_true]
          rw [wrap_id (x := s + x.f2) (by omega) (by omega), wrap_next h (by omega)]
        · right
          rw [if_pos c0, if_neg (fun h => c1 h.2)]
          simp only [bs, decide_eq_false c1]
          rfl
      · right
        rw [if_neg c0, if_neg (fun h => c0 h.1)]
        simp only [bs]
        rfl) k 0 (by omega) ⟨by omega, by omega⟩
  · rw [if_pos (by omega), if_neg c]
theorem impl_total (l : List S65) (k : Nat) (hk : 5000 < k) : impl_TotalUnits.f k l = some (if l.length ≤ 4096 then tl 0 l else -1) := by
  unfold impl_TotalUnits.f
  by_cases c : l.length ≤ 4096
  · rw [if_neg (by omega), if_pos c]
    exact loop_list (fun k s i => impl_TotalUnits.l0 k s l (l.length : Int) i) l 0 (fun i s => 0 ≤ s ∧ s ≤ 1000000000000 * i) (fun r s => tl s r) (by
      intro k s _ _
      simp only [impl_TotalUnits.l0]
      rw [if_neg (by omega)]
      rfl) (by
      intro k i s h _ ⟨h0, h1⟩
      simp only [impl_TotalUnits.l0]
      rw [if_pos (by omega), if_pos (by omega), if_pos (by omega), rdI l i h]
      simp only [tl_cons]
      generalize l[i] = x
      by_cases c0 : x.f2 < 0
      · right
        rw [if_pos c0, if_neg (by omega)]
      · by_cases c1 : x.f2 > 1000000000000
        · right
          rw [if_neg c0, if_pos c1, if_neg (by omega)]
        · left
          refine ⟨s + x.f2, ?_, ⟨by omega, by omega⟩, by rw [if_pos ⟨by omega, by omega⟩]⟩
          rw [if_neg c0, if_neg c1, wrap_id (x := s + x.f2) (by omega) (by omega), wrap_next h (by omega)]) k 0 (by omega) ⟨by omega, by omega⟩
  · rw [if_pos (by omega), if_neg c]
theorem FnExactTotalUnits : laws_FnExactTotalUnits.Pure := by
  intro l ⟨hl, _⟩
  unfold maxLen at hl
  refine ⟨1048580, ?_⟩
  unfold laws_FnExactTotalUnits.f laws_szUsageS.f
  rw [wrap_id (by omega) (by omega)]
  by_cases c : (1048576 : Int) - l.length < 0
  · rw [if_pos c]
    simp only [bs]
    rw [if_pos (by omega)]
  · rw [if_neg c]
    simp only [bs]
    rw [if_neg c, toUsageS_f l (by omega) _ (by omega)]
    simp only [bs]
    rw [spec_total _ _ (by omega)]
    simp only [bs]
    rw [impl_total _ _ (by omega)]
    simp only [bs, if_true]
    rw [eqUsageS_f _ (by rw [List.length_map]; omega) _ (by rw [List.length_map]; omega)]
    simp only [bs, if_true]

end Go.Proofs.Ytmdpnhcfllociaa.Pure
