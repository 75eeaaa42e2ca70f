/- Lists of numbers: compared, marked. -/
import Derived.Test.YtiljmehapdeanaaDoorVp0
namespace Go.Vm.Pu
open Go Go.RowKit Go.Vm
set_option linter.unusedVariables false
set_option linter.unusedSimpArgs false
def mkI (a : Int) : Nat → List Int
  | 0 => []
  | n + 1 => a :: mkI (a + 1) n
theorem mkI_length (n : Nat) : ∀ a, (mkI a n).length = n := by
  induction n with
  | zero => intro a; rfl
  | succ n ih => intro a; simp [mkI, ih]
theorem eqIntS_f (l : List Int) (hn : l.length ≤ 1048576) (k : Nat) (hk : l.length + 1 < k) : laws_eqIntS.f k l l = some true := by
  obtain ⟨k, rfl⟩ : ∃ m, k = m + 1 := ⟨k - 1, by omega⟩
  rw [laws_eqIntS.f_eq, if_neg (by simp)]
  exact count_loop (fun fu i => laws_eqIntS.l0 k fu l l i) l.length 0 true (by
    intro fu _
    simp only [laws_eqIntS.l0_eq]
    rw [if_neg (by omega)]) (by
    intro fu i h _
    simp only [laws_eqIntS.l0_eq]
    rw [if_pos (by omega), if_pos (by omega), if_pos (by omega), if_pos (by omega), if_pos (by omega), if_neg (by simp), wrap_next h (by omega)]) k (by omega)
end Go.Vm.Pu
