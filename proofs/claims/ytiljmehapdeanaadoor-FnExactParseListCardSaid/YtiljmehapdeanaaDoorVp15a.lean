/- Lists of numbers: compared, marked. -/
import Derived.Test.YtiljmehapdeanaaDoorVp0
namespace Go.Vm.Pu
open Go Go.RowKit Go.Vm
set_option linter.unusedVariables false
set_option linter.unusedSimpArgs false
def mkI (a : Int) : Nat → List Int
  | 0 => []
  | n + 1 => a :: mkI (a + 1) n
theorem mkI_length (n : Nat) : ∀ a, (mkI a n).length = n := by
  induction n with
  | zero => intro a; rfl
  | succ n ih => intro a; simp [mkI, ih]
theorem eqIntS_f (l : List Int) (hn : l.length ≤ 1048576) (k : Nat) (hk : l.length + 1 < k) : laws_eqIntS.f k l l = some true := by
  obtain ⟨k, rfl⟩ : ∃ m, k = m + 1 := ⟨k - 1, by omega⟩
  rw [laws_eqIntS.f_eq, if_neg (by simp)]
  exact count_loop (fun fu i => laws_eqIntS.l0 k fu l l i) l.length 0 true (by
    intro fu _
    simp only [laws_eqIntS.l0_eq]
    rw [if_neg (by omega)]) (by
    intro fu i h _
    simp only [laws_eqIntS.l0_eq]
    rw [if_pos (by omega), if_pos (by omega), if_pos (by omega), if_pos (by omega), if_pos (by omega), if_neg (by simp), wrap_next h (by omega)]) k (by omega)
theorem markI_loop (n : Nat) (hn : n ≤ 2000000) (K : Nat) : ∀ (d k i : Nat) (x0 : List Int) (x1 : Int), i + d = n → x0.length = n → d < k → 0 ≤ x1 → x1 ≤ 1000000000000 + i →
    laws_markIntS.l0 K k x1 (i : Int) x0 = some (x1 + d, x0.take i ++ mkI x1 d) := by
  intro d
  induction d with
  | zero =>
    intro k i x0 x1 hi hl hk h0 h1
    obtain ⟨k, rfl⟩ : ∃ m, k = m + 1 := ⟨k - 1, by omega⟩
    rw [laws_markIntS.l0_eq, if_neg (by omega), List.take_of_length_le (by omega)]
    simp [mkI]
  | succ d ih =>
    intro k i x0 x1 hi hl hk h0 h1
    obtain ⟨k, rfl⟩ : ∃ m, k = m + 1 := ⟨k - 1, by omega⟩
    rw [laws_markIntS.l0_eq, if_pos (by omega), if_pos (by omega), if_pos (by omega), wrap_next (show i < n by omega) (by omega), wrap_id (x := x1 + 1) (by omega) (by omega), ih k (i + 1) _ _ (by omega) (by simpa using hl) (by omega) (by omega) (by omega)]
    simp only [Int.toNat_natCast]
    rw [set_take _ _ _ (by omega), List.append_assoc]
    simp only [mkI, List.singleton_append]
    rw [show x1 + 1 + (d : Int) = x1 + ((d + 1 : Nat) : Int) by omega]
theorem markI_f (l : List Int) (a : Int) (hn : l.length ≤ 2000000) (h0 : 0 ≤ a) (h1 : a ≤ 1000000000000) (k : Nat) (hk : l.length + 1 < k) : laws_markIntS.f k a l = some (a + l.length, mkI a l.length) := by
  obtain ⟨k, rfl⟩ : ∃ m, k = m + 1 := ⟨k - 1, by omega⟩
  rw [laws_markIntS.f_eq]
  have := markI_loop l.length hn k l.length k 0 l a (by omega) rfl (by omega) h0 (by omega)
  simpa using this
theorem heldI_loop (x0 : List Int) (hn : x0.length ≤ 2000000) (K : Nat) : ∀ (d k i : Nat) (x1 : Int), i + d = x0.length → x0.drop i = mkI x1 d → d < k → 0 ≤ x1 → x1 ≤ 1000000000000 + i →
    laws_heldIntS.l0 K k x0 x1 (i : Int) = some (x1 + d) := by
  intro d
  induction d with
  | zero =>
    intro k i x1 hi hl hk h0 h1
    obtain ⟨k, rfl⟩ : ∃ m, k = m + 1 := ⟨k - 1, by omega⟩
    rw [laws_heldIntS.l0_eq, if_neg (by omega)]
    simp
  | succ d ih =>
    intro k i x1 hi hl hk h0 h1
    obtain ⟨k, rfl⟩ : ∃ m, k = m + 1 := ⟨k - 1, by omega⟩
    rw [drop_cons x0 i (by omega)] at hl
    simp only [mkI, List.cons.injEq] at hl
    rw [laws_heldIntS.l0_eq, if_pos (by omega), if_pos (by omega), if_pos (by omega), rd_at x0 i (by omega), if_neg (by simpa using hl.1), wrap_next (show i < x0.length by omega) (by omega), wrap_id (x := x1 + 1) (by omega) (by omega), ih k (i + 1) _ (by omega) hl.2 (by omega) (by omega) (by omega),
      show x1 + 1 + (d : Int) = x1 + ((d + 1 : Nat) : Int) by omega]
theorem heldI_f (a : Int) (n : Nat) (hn : n ≤ 2000000) (h0 : 0 ≤ a) (h1 : a ≤ 1000000000000) (k : Nat) (hk : n + 1 < k) : laws_heldIntS.f k (mkI a n) a = some (a + n) := by
  obtain ⟨k, rfl⟩ : ∃ m, k = m + 1 := ⟨k - 1, by omega⟩
  rw [laws_heldIntS.f_eq]
  have := heldI_loop (mkI a n) (by rw [mkI_length]; exact hn) k n k 0 a (by rw [mkI_length]; omega) rfl (by omega) h0 (by omega)
  simpa using this
end Go.Vm.Pu
