/- The nine moduli are primes; a product is 0 only with a factor 0; a power to the modulus less 1 is 1 (Fermat). -/
import Derived.Test.YtmdpnhcfllociaaMath
namespace Go.Proofs.Ytmdpnhcfllociaa.Lib
open Go.RowKit Go.Proofs.YtmdpnhcfllociaaW.PrintWords

/-- No number from lo on, 2 to the k of them, divides p. -/
def noDiv (p : Nat) : Nat → Nat → Bool
  | 0, lo => p % lo != 0
  | k + 1, lo => noDiv p k lo && noDiv p k (lo + 2 ^ k)
theorem noDiv_spec (p : Nat) : ∀ (k lo : Nat), noDiv p k lo = true → ∀ d, lo ≤ d → d < lo + 2 ^ k → p % d ≠ 0 := by
  intro k
  induction k with
  | zero =>
    intro lo h d h1 h2
    have : d = lo := by simp at h2; omega
    subst this
    simpa [noDiv] using h
  | succ k ih =>
    intro lo h d h1 h2
    simp only [noDiv, Bool.and_eq_true] at h
    rw [Nat.pow_succ] at h2
    by_cases c : d < lo + 2 ^ k
    · exact ih lo h.1 d h1 c
    · exact ih (lo + 2 ^ k) h.2 d (by omega) (by omega)
structure Pr (p : Nat) : Prop where
  two : 2 ≤ p
  div : ∀ d, d ∣ p → d = 1 ∨ d = p
theorem pr_of (p k : Nat) (h2 : 2 ≤ p) (h : noDiv p k 2 = true) (hk : p < (2 ^ k + 2) * (2 ^ k + 2)) : Pr p := by
  have key := noDiv_spec p k 2 h
  refine ⟨h2, fun d hd => ?_⟩
  obtain ⟨e, rfl⟩ := hd
  by_cases d1 : d = 1
  · exact .inl d1
  · right
    by_cases e1 : e = 1
    · subst e1; simp
    · exfalso
      have hd0 : d ≠ 0 := by rintro rfl; simp at h2
      have he0 : e ≠ 0 := by rintro rfl; simp at h2
      by_cases c : d < 2 ^ k + 2
      · exact key d (by omega) (by omega) (Nat.mul_mod_right d e)
      · by_cases c2 : e < 2 ^ k + 2
        · exact key e (by omega) (by omega) (Nat.mul_mod_left d e)
        · have := Nat.mul_le_mul (show 2 ^ k + 2 ≤ d by omega) (show 2 ^ k + 2 ≤ e by omega)
          omega
theorem Pr.dvd_mul {p a b : Nat} (hp : Pr p) (h : p ∣ a * b) : p ∣ a ∨ p ∣ b := by
  rcases hp.div (Nat.gcd p a) (Nat.gcd_dvd_left p a) with h1 | h1
  · right
    exact Nat.Coprime.dvd_of_dvd_mul_left h1 h
  · left
    rw [← h1]
    exact Nat.gcd_dvd_right p a
/-- Pascal's numbers. -/
def ch : Nat → Nat → Nat
  | _, 0 => 1
  | 0, _ + 1 => 0
  | n + 1, k + 1 => ch n k + ch n (k + 1)
theorem ch_zero (n : Nat) : ch n 0 = 1 := by cases n <;> rfl
theorem ch_out : ∀ n k : Nat, n < k → ch n k = 0 := by
  intro n
  induction n with
  | zero => intro k h; cases k with
    | zero => omega
    | succ k => rfl
  | succ n ih => intro k h; cases k with
    | zero => omega
    | succ k => simp only [ch]; rw [ih k (by omega), ih (k + 1) (by omega)]
theorem ch_self : ∀ n : Nat, ch n n = 1 := by
  intro n
  induction n with
  | zero => rfl
  | succ n ih => simp only [ch]; rw [ih, ch_out n (n + 1) (by omega)]
theorem ch_mul : ∀ n k : Nat, (n + 1) * ch n k = ch (n + 1) (k + 1) * (k + 1) := by
  intro n
  induction n with
  | zero => intro k; cases k with
    | zero => rfl
    | succ k => simp [ch]
  | succ n ih =>
    intro k
    cases k with
    | zero =>
      have h0 := ih 0
      simp only [ch_zero, ch] at h0 ⊢
      omega
    | succ k =>
      have h0 := ih k
      have h1 := ih (k + 1)
      simp only [ch] at h0 h1 ⊢
      grind
def sN (n : Nat) (g : Nat → Nat) : Nat := match n with
  | 0 => 0
  | n + 1 => sN n g + g n
theorem sN_add (n : Nat) (g h : Nat → Nat) : sN n (fun k => g k + h k) = sN n g + sN n h := by
  induction n with
  | zero => rfl
  | succ n ih => simp only [sN, ih]; omega
theorem sN_mul (n x : Nat) (g : Nat → Nat) : sN n (fun k => x * g k) = x * sN n g := by
  induction n with
  | zero => rfl
  | succ n ih => simp only [sN, ih, Nat.mul_add]
theorem sN_front (n : Nat) (g : Nat → Nat) : sN (n + 1) g = g 0 + sN n (fun k => g (k + 1)) := by
  induction n with
  | zero => simp [sN]
  | succ n ih => rw [sN, ih]; simp only [sN]; omega
theorem sN_congr {n : Nat} {g h : Nat → Nat} (e : ∀ i, i < n → g i = h i) : sN n g = sN n h := by
  induction n with
  | zero => rfl
  | succ n ih => simp only [sN]; rw [ih (fun i hi => e i (by omega)), e n (by omega)]
theorem sN_dvd {p n : Nat} {g : Nat → Nat} (h : ∀ i, i < n → p ∣ g i) : p ∣ sN n g := by
  induction n with
  | zero => exact Nat.dvd_zero p
  | succ n ih => exact Nat.dvd_add (ih (fun i hi => h i (by omega))) (h n (by omega))
theorem binom (x : Nat) : ∀ n : Nat, (x + 1) ^ n = sN (n + 1) (fun k => ch n k * x ^ k) := by
  intro n
  induction n with
  | zero => simp [sN, ch]
  | succ n ih =>
    rw [sN_front]
    simp only [ch, Nat.pow_zero, Nat.mul_one]
    have e1 : sN (n + 1) (fun k => (ch n k + ch n (k + 1)) * x ^ (k + 1)) = x * sN (n + 1) (fun k => ch n k * x ^ k) + sN (n + 1) (fun k => ch n (k + 1) * x ^ (k + 1)) := by
      rw [← sN_mul, ← sN_add]
      apply sN_congr
      intro i _
      rw [Nat.pow_succ]
      grind
    have e2 : sN (n + 2) (fun k => ch n k * x ^ k) = 1 + sN (n + 1) (fun k => ch n (k + 1) * x ^ (k + 1)) := by
      rw [sN_front]
      simp [ch_zero]
    have e3 : sN (n + 2) (fun k => ch n k * x ^ k) = sN (n + 1) (fun k => ch n k * x ^ k) := by
      rw [sN, ch_out n (n + 1) (by omega)]
      omega
    rw [e1, Nat.pow_succ, ih]
    have : 1 + (x * sN (n + 1) (fun k => ch n k * x ^ k) + sN (n + 1) (fun k => ch n (k + 1) * x ^ (k + 1))) = x * sN (n + 1) (fun k => ch n k * x ^ k) + sN (n + 1) (fun k => ch n k * x ^ k) := by omega
    rw [this]
    grind
theorem Pr.ch_dvd {p : Nat} (hp : Pr p) (k : Nat) (h0 : 0 < k) (h1 : k < p) : p ∣ ch p k := by
  obtain ⟨n, rfl⟩ : ∃ n, p = n + 1 := ⟨p - 1, by have := hp.two; omega⟩
  obtain ⟨j, rfl⟩ : ∃ j, k = j + 1 := ⟨k - 1, by omega⟩
  have h := ch_mul n j
  rcases hp.dvd_mul (show n + 1 ∣ ch (n + 1) (j + 1) * (j + 1) from ⟨ch n j, h.symm⟩) with h2 | h2
  · exact h2
  · have := Nat.le_of_dvd (by omega) h2
    omega
theorem Pr.freshman {p : Nat} (hp : Pr p) (x : Nat) : ∃ m, (x + 1) ^ p = x ^ p + 1 + p * m := by
  obtain ⟨n, rfl⟩ : ∃ n, p = n + 1 := ⟨p - 1, by have := hp.two; omega⟩
  have hd : n + 1 ∣ sN n (fun k => ch (n + 1) (k + 1) * x ^ (k + 1)) := sN_dvd (fun i hi => Nat.dvd_trans (hp.ch_dvd (i + 1) (by omega) (by omega)) (Nat.dvd_mul_right _ _))
  obtain ⟨m, hm⟩ := hd
  refine ⟨m, ?_⟩
  rw [binom, sN_front]
  rw [show sN (n + 1) (fun k => ch (n + 1) (k + 1) * x ^ (k + 1)) = sN n (fun k => ch (n + 1) (k + 1) * x ^ (k + 1)) + ch (n + 1) (n + 1) * x ^ (n + 1) from rfl, hm, ch_self, ch_zero, Nat.pow_zero, Nat.one_mul, Nat.one_mul]
  omega
theorem Pr.fermat {p : Nat} (hp : Pr p) (x : Nat) : x ^ p % p = x % p := by
  induction x with
  | zero =>
    have := hp.two
    rw [Nat.zero_pow (by omega)]
  | succ x ih =>
    obtain ⟨m, hm⟩ := hp.freshman x
    rw [hm, Nat.add_mul_mod_self_left, Nat.add_mod, ih, ← Nat.add_mod]
theorem Pr.fermat1 {p : Nat} (hp : Pr p) (x : Nat) (h : x % p ≠ 0) : x ^ (p - 1) % p = 1 := by
  have h2 := hp.two
  obtain ⟨n, rfl⟩ : ∃ n, p = n + 1 := ⟨p - 1, by omega⟩
  have hf := hp.fermat x
  have hx0 : 0 < x := by
    rcases Nat.eq_zero_or_pos x with rfl | h'
    · simp at h
    · exact h'
  have hpow : 1 ≤ x ^ n := Nat.pos_of_ne_zero (fun h => by have := (Nat.pow_eq_zero.1 h).1; omega)
  have hd : n + 1 ∣ x * (x ^ n - 1) := by
    rw [Nat.mul_sub, Nat.mul_one, ← Nat.pow_succ']
    exact Nat.dvd_of_mod_eq_zero (Nat.sub_mod_eq_zero_of_mod_eq hf)
  rcases hp.dvd_mul hd with h3 | h3
  · exact absurd (Nat.mod_eq_zero_of_dvd h3) h
  · obtain ⟨m, hm⟩ := h3
    have : x ^ n = 1 + (n + 1) * m := by omega
    rw [Nat.add_sub_cancel, this, Nat.add_mul_mod_self_left, Nat.mod_eq_of_lt (by omega)]
theorem md_pr {f : Int} (h : md f ≠ 0) : Pr (md f).toNat := by
  obtain ⟨h0, h8⟩ := md_in h
  rcases nine h0 h8 with rfl | rfl | rfl | rfl | rfl | rfl | rfl | rfl | rfl
  · exact pr_of 17 2 (by decide) (by decide +kernel) (by decide)
  · exact pr_of 97 3 (by decide) (by decide +kernel) (by decide)
  · exact pr_of 193 4 (by decide) (by decide +kernel) (by decide)
  · exact pr_of 257 4 (by decide) (by decide +kernel) (by decide)
  · exact pr_of 7681 7 (by decide) (by decide +kernel) (by decide)
  · exact pr_of 12289 7 (by decide) (by decide +kernel) (by decide)
  · exact pr_of 998244353 15 (by decide) (by decide +kernel) (by decide)
  · exact pr_of 469762049 15 (by decide) (by decide +kernel) (by decide)
  · exact pr_of 1004535809 15 (by decide) (by decide +kernel) (by decide)
/-- An integer that is a multiple of the modulus, where a product is. -/
theorem no_zero {f : Int} (hp : md f ≠ 0) {x y : Int} (h : (x * y) % md f = 0) : x % md f = 0 ∨ y % md f = 0 := by
  have hq := md_pos hp
  have hpr := md_pr hp
  have e : (((md f).toNat : Nat) : Int) = md f := Int.toNat_of_nonneg (by omega)
  have h1 : (md f).toNat ∣ x.natAbs * y.natAbs := by
    rw [← Int.natAbs_mul, ← Int.ofNat_dvd_left, e]
    exact Int.dvd_of_emod_eq_zero h
  rcases hpr.dvd_mul h1 with h2 | h2
  · left
    exact Int.emod_eq_zero_of_dvd (by rw [← e]; exact Int.ofNat_dvd_left.2 h2)
  · right
    exact Int.emod_eq_zero_of_dvd (by rw [← e]; exact Int.ofNat_dvd_left.2 h2)
theorem fermat_int {f : Int} (hp : md f ≠ 0) {x : Int} (h0 : 0 ≤ x) (h : x % md f ≠ 0) : x ^ ((md f).toNat - 1) % md f = 1 := by
  have hq := md_pos hp
  have e : (((md f).toNat : Nat) : Int) = md f := Int.toNat_of_nonneg (by omega)
  obtain ⟨n, rfl⟩ := Int.eq_ofNat_of_zero_le h0
  have h1 : n % (md f).toNat ≠ 0 := by
    intro hh
    apply h
    rw [← e]
    exact_mod_cast hh
  have := (md_pr hp).fermat1 n h1
  rw [← e]
  exact_mod_cast this
theorem pow_emod (x p : Int) : ∀ n : Nat, (x % p) ^ n % p = x ^ n % p := by
  intro n
  induction n with
  | zero => simp
  | succ n ih => rw [Int.pow_succ, Int.pow_succ, Int.mul_emod, ih, Int.emod_emod_of_dvd _ (Int.dvd_refl p), ← Int.mul_emod]
theorem sq_pow (x : Int) : ∀ n : Nat, (x * x) ^ n = x ^ (2 * n) := by
  intro n
  induction n with
  | zero => simp
  | succ n ih => rw [Int.pow_succ, ih, show 2 * (n + 1) = 2 * n + 1 + 1 by omega, Int.pow_succ, Int.pow_succ, Int.mul_assoc]
/-- A power by squares: one round. -/
theorem pow_half (p x out : Int) (n : Nat) : (if n % 2 = 1 then (out * x % p) * (x * x % p) ^ (n / 2) % p else out * (x * x % p) ^ (n / 2) % p) = out * x ^ n % p := by
  have h : ∀ o : Int, o * (x * x % p) ^ (n / 2) % p = o * x ^ (2 * (n / 2)) % p := by
    intro o
    rw [Int.mul_emod, pow_emod, sq_pow, ← Int.mul_emod]
  by_cases c : n % 2 = 1
  · rw [if_pos c, h, Int.mul_emod, Int.emod_emod_of_dvd _ (Int.dvd_refl p), ← Int.mul_emod, Int.mul_assoc]
    congr 2
    rw [Int.mul_comm, ← Int.pow_succ]
    congr 1
    omega
  · rw [if_neg c, h]
    congr 3
    omega
/-- What the reference's power is. -/
def powS (f a e : Int) : Int := if a % md f = 0 then (if e = 0 then 1 else if e < 0 then -1 else 0) else (a % md f) ^ (e % (md f - 1)).toNat % md f
/-- The inverse of an element. -/
def inv (f a : Int) : Int := (a % md f) ^ ((md f).toNat - 2) % md f
theorem powS_inv {f a : Int} (hp : md f ≠ 0) (ha : a % md f ≠ 0) : powS f a (-1) = inv f a := by
  have hq := md_pos hp
  unfold powS inv
  rw [if_neg ha]
  have : (-1 : Int) % (md f - 1) = md f - 2 := by
    rw [← Int.add_emod_right, Int.emod_eq_of_lt (by omega) (by omega)]
    omega
  rw [this]
  congr 2
  omega
theorem inv_range (f a : Int) (hp : md f ≠ 0) : 0 ≤ inv f a ∧ inv f a < md f := by
  have hq := md_pos hp
  exact emod_range _ (by omega)
theorem mul_inv {f a : Int} (hp : md f ≠ 0) (ha : a % md f ≠ 0) : (a * inv f a) % md f = 1 := by
  have hq := md_pos hp
  have hr := emod_range a (show 0 < md f by omega)
  have h := fermat_int hp hr.1 (x := a % md f) (by rwa [Int.emod_emod_of_dvd _ (Int.dvd_refl _)])
  unfold inv
  rw [Int.mul_emod, Int.emod_emod_of_dvd _ (Int.dvd_refl (md f)), ← h]
  conv => rhs; rw [show (md f).toNat - 1 = ((md f).toNat - 2) + 1 by omega, Int.pow_succ, Int.mul_comm, Int.mul_emod, Int.emod_emod_of_dvd _ (Int.dvd_refl (md f))]
end Go.Proofs.Ytmdpnhcfllociaa.Lib
