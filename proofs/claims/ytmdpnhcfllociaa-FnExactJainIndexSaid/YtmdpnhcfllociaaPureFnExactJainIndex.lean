/- JainIndex of the program and of the reference answer alike for all lists. -/
import Derived.Test.YtmdpnhcfllociaaQFnExactJainIndexx1
import Derived.Test.YtmdpnhcfllociaaLib
namespace Go.Proofs.Ytmdpnhcfllociaa.Pure
open Go.RowKit Go.Proofs.Ytmdpnhcfllociaa.QFnExactJainIndex Go.Proofs.YtmdpnhcfllociaaW.PrintWords Go.Proofs.YtmdpnhcfllociaaW.PrintLast Go.Proofs.Ytmdpnhcfllociaa.Lib

/-- Jain's index of a list, by a running sum and sum of squares. -/
def jl (n s q : Int) : List Int → Int
  | [] => if s = 0 then -1 else wrap64 (Int.tdiv (wrap64 (wrap64 (10000 * s) * s)) (wrap64 (n * q)))
  | x :: xs => if 0 ≤ x ∧ x ≤ 100000 then jl n (s + x) (q + x * x) xs else -1

theorem sq_bounds (x : Int) (h0 : 0 ≤ x) (h1 : x ≤ 100000) : x ≤ x * x ∧ x * x ≤ 10000000000 := by
  constructor
  · by_cases h : x = 0
    · subst h; omega
    · have := Int.mul_le_mul_of_nonneg_left (show (1:Int) ≤ x by omega) h0
      omega
  · have := Int.mul_le_mul h1 h1 h0 (by omega)
    omega

theorem div_ok (n s q : Int) (hn1 : 1 ≤ n) (hn : n ≤ 40) (hs : s ≠ 0) (hs0 : 0 ≤ s) (hq : s ≤ q) (hq1 : q ≤ 10000000000 * n) : ¬ (wrap64 (n * q) = 0) := by
  have h1 : 1 * q ≤ n * q := Int.mul_le_mul_of_nonneg_right hn1 (by omega)
  have h2 : n * q ≤ 40 * q := Int.mul_le_mul_of_nonneg_right hn (by omega)
  rw [wrap_id (by omega) (by omega)]
  omega

theorem spec_jain_loop (x0 : List Int) (hn1 : 1 ≤ x0.length) (hn : x0.length ≤ 40) : ∀ (d k i : Nat) (s q : Int), i + d = x0.length → 0 ≤ s → s ≤ 100000 * i → s ≤ q → q ≤ 10000000000 * i → d < k →
    spec_JainIndex.l0 k x0 s q (i : Int) = some (jl x0.length s q (x0.drop i)) := by
  intro d
  induction d with
  | zero =>
    intro k i s q hi hs0 hs hq hq1 hk
    obtain ⟨k, rfl⟩ : ∃ m, k = m + 1 := ⟨k - 1, by omega⟩
    simp only [spec_JainIndex.l0]
    rw [if_neg (by omega), List.drop_eq_nil_of_le (by omega)]
    unfold jl
    by_cases e : s = 0
    · rw [if_pos e, if_pos e]
    · rw [if_neg e, if_neg e, if_neg (div_ok _ s q (by omega) (by omega) e hs0 hq (by omega))]
  | succ d ih =>
    intro k i s q hi hs0 hs hq hq1 hk
    obtain ⟨k, rfl⟩ : ∃ m, k = m + 1 := ⟨k - 1, by omega⟩
    have hlt : i < x0.length := by omega
    simp only [spec_JainIndex.l0]
    rw [if_pos (by omega), if_pos (by omega), rd_at x0 i hlt, drop_cons x0 i hlt]
    unfold jl spec_l01In.f
    generalize x0[i] = x
    by_cases c0 : 0 ≤ x
    · by_cases c1 : x ≤ 100000
      · rw [if_pos c0, if_pos ⟨c0, c1⟩]
        have hb := sq_bounds x c0 c1
        simp only [bs, decide_eq_true c1, if_true]
        rw [wrap_id (x := x * x) (by omega) (by omega), wrap_id (x := s + x) (by omega) (by omega), wrap_id (x := q + x * x) (by omega) (by omega), wrap_id (x := (i : Int) + 1) (by omega) (by omega), cast_succ]
        exact ih k (i + 1) _ _ (by omega) (by omega) (by omega) (by omega) (by omega) (by omega)
      · rw [if_pos c0, if_neg (by omega)]
        simp [c1]
    · rw [if_neg c0, if_neg (by omega)]
      simp

theorem impl_jain_loop (x0 : List Int) (hn1 : 1 ≤ x0.length) (hn : x0.length ≤ 40) : ∀ (d k i : Nat) (s q : Int), i + d = x0.length → 0 ≤ s → s ≤ 100000 * i → s ≤ q → q ≤ 10000000000 * i → d < k →
    impl_JainIndex.l0 k x0 s q x0 (x0.length : Int) (i : Int) = some (jl x0.length s q (x0.drop i)) := by
  intro d
  induction d with
  | zero =>
    intro k i s q hi hs0 hs hq hq1 hk
    obtain ⟨k, rfl⟩ : ∃ m, k = m + 1 := ⟨k - 1, by omega⟩
    simp only [impl_JainIndex.l0]
    rw [if_neg (by omega), List.drop_eq_nil_of_le (by omega)]
    unfold jl
    by_cases e : s = 0
    · rw [if_pos e, if_pos e]
    · rw [if_neg e, if_neg e, if_neg (div_ok _ s q (by omega) (by omega) e hs0 hq (by omega))]
  | succ d ih =>
    intro k i s q hi hs0 hs hq hq1 hk
    obtain ⟨k, rfl⟩ : ∃ m, k = m + 1 := ⟨k - 1, by omega⟩
    have hlt : i < x0.length := by omega
    simp only [impl_JainIndex.l0]
    rw [if_pos (by omega), if_pos (by omega), if_pos (by omega), rd_at x0 i hlt, drop_cons x0 i hlt]
    unfold jl
    generalize x0[i] = x
    by_cases c0 : x < 0
    · rw [if_pos c0, if_neg (by omega)]
    · by_cases c1 : x > 100000
      · rw [if_neg c0, if_pos c1, if_neg (by omega)]
      · rw [if_neg c0, if_neg c1, if_pos ⟨by omega, by omega⟩]
        have hb := sq_bounds x (by omega) (by omega)
        rw [wrap_id (x := x * x) (by omega) (by omega), wrap_id (x := s + x) (by omega) (by omega), wrap_id (x := q + x * x) (by omega) (by omega), wrap_id (x := (i : Int) + 1) (by omega) (by omega), cast_succ]
        exact ih k (i + 1) _ _ (by omega) (by omega) (by omega) (by omega) (by omega) (by omega)

/-- What both return. -/
def jain (l : List Int) : Int := if 1 ≤ l.length ∧ l.length ≤ 40 then jl l.length 0 0 l else -1

theorem spec_jain (l : List Int) (k : Nat) (hk : 41 < k) : spec_JainIndex.f k l = some (jain l) := by
  unfold spec_JainIndex.f jain spec_l01In.f
  by_cases c0 : 1 ≤ l.length
  · by_cases c1 : l.length ≤ 40
    · rw [if_pos (by omega), if_pos ⟨c0, c1⟩]
      simp only [bs]
      rw [if_pos (by simp; omega)]
      have := spec_jain_loop l c0 c1 l.length k 0 0 0 (by omega) (by omega) (by omega) (by omega) (by omega) (by omega)
      simpa using this
    · rw [if_pos (by omega), if_neg (by omega)]
      simp only [bs]
      rw [if_neg (by simp; omega)]
  · rw [if_neg (by omega), if_neg (by omega)]
    simp

theorem impl_jain (l : List Int) (k : Nat) (hk : 42 < k) : impl_JainIndex.f k l = some (jain l) := by
  obtain ⟨k, rfl⟩ : ∃ m, k = m + 1 := ⟨k - 1, by omega⟩
  unfold impl_JainIndex.f jain
  by_cases c0 : 1 ≤ l.length
  · by_cases c1 : l.length ≤ 40
    · rw [if_neg (by omega), if_pos ⟨c0, c1⟩]
      simp only [impl_JainIndex.j0]
      rw [if_neg (by simp; omega)]
      have := impl_jain_loop l c0 c1 l.length k 0 0 0 (by omega) (by omega) (by omega) (by omega) (by omega) (by omega)
      simpa using this
    · rw [if_neg (by omega), if_neg (by omega)]
      simp only [impl_JainIndex.j0]
      rw [if_pos (by simp; omega)]
  · rw [if_pos (by omega), if_neg (by omega)]
    simp only [impl_JainIndex.j0, if_true]
theorem toIntS_loop (x0 : List Int) (hn : x0.length ≤ 140737488351232) : ∀ (d k i : Nat) (x3 : List Int), i + d = x0.length → x3.length = x0.length → d < k →
    laws_toIntS.l0 k x0 x3 (i : Int) = some (x3.take i ++ x0.drop i) := by
  intro d
  induction d with
  | zero =>
    intro k i x3 hi h3 hk
    obtain ⟨k, rfl⟩ : ∃ m, k = m + 1 := ⟨k - 1, by omega⟩
    simp only [laws_toIntS.l0]
    rw [if_neg (by omega), List.drop_eq_nil_of_le (by omega), List.take_of_length_le (by omega), List.append_nil]
  | succ d ih =>
    intro k i x3 hi h3 hk
    obtain ⟨k, rfl⟩ : ∃ m, k = m + 1 := ⟨k - 1, by omega⟩
    have hlt : i < x0.length := by omega
    simp only [laws_toIntS.l0]
    rw [if_pos (by omega), if_pos (by omega), if_pos (by omega), rd_at x0 i hlt, wrap_id (x := (i : Int) + 1) (by omega) (by omega), cast_succ,
      ih k (i + 1) _ (by omega) (by simpa using h3) (by omega), drop_cons x0 i hlt]
    simp only [Int.toNat_natCast]
    rw [set_take _ _ _ (by omega), List.append_assoc]
    rfl
theorem toIntS_f (l : List Int) (hn : l.length ≤ 35184372088832) (k : Nat) (hk : l.length < k) : laws_toIntS.f k l = some l := by
  unfold laws_toIntS.f
  rw [if_pos (by omega), if_pos (by omega)]
  have := toIntS_loop l (by omega) l.length k 0 (List.replicate ((l.length : Int) : Int).toNat 0) (by omega) (by simp) hk
  simpa using this
theorem eqIntS_loop (x0 : List Int) (hn : x0.length ≤ 140737488351232) : ∀ (d k i : Nat), i + d = x0.length → d < k → laws_eqIntS.l0 k x0 x0 (i : Int) = some true := by
  intro d
  induction d with
  | zero =>
    intro k i hi hk
    obtain ⟨k, rfl⟩ : ∃ m, k = m + 1 := ⟨k - 1, by omega⟩
    simp only [laws_eqIntS.l0]
    rw [if_neg (by omega)]
  | succ d ih =>
    intro k i hi hk
    obtain ⟨k, rfl⟩ : ∃ m, k = m + 1 := ⟨k - 1, by omega⟩
    simp only [laws_eqIntS.l0, if_true]
    rw [if_pos (by omega), if_pos (by omega), if_pos (by omega), wrap_id (x := (i : Int) + 1) (by omega) (by omega), cast_succ]
    exact ih k (i + 1) (by omega) (by omega)
theorem eqIntS_self (l : List Int) (hn : l.length ≤ 35184372088832) (k : Nat) (hk : l.length < k) : laws_eqIntS.f k l l = some true := by
  unfold laws_eqIntS.f
  rw [if_pos rfl]
  exact eqIntS_loop l (by omega) l.length k 0 (by omega) hk
theorem FnExactJainIndex : laws_FnExactJainIndex.Pure := by
  intro l0 h0 h1 h2
  refine ⟨l0.length + 44, ?_⟩
  unfold laws_FnExactJainIndex.f
  by_cases c : (l0.length : Int) > 1048576
  · rw [if_pos c]
  · rw [if_neg c, toIntS_f l0 (by omega) _ (by omega)]
    simp only [bs]
    rw [spec_jain l0 _ (by omega), bs, impl_jain l0 _ (by omega), bs, if_pos rfl, eqIntS_self l0 (by omega) _ (by omega), bs, if_pos rfl]

end Go.Proofs.Ytmdpnhcfllociaa.Pure
