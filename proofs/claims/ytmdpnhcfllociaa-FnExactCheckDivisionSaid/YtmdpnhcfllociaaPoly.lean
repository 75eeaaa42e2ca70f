/- Polynomials over a prime field as lists of numbers: products, trimming, and that quotient and rest are the only ones. -/
import Derived.Test.YtmdpnhcfllociaaPrime
namespace Go.Proofs.Ytmdpnhcfllociaa.Lib
open Go.RowKit Go.Proofs.YtmdpnhcfllociaaW.PrintWords

theorem sumN_add (n : Nat) (g h : Nat → Int) : sumN n (fun k => g k + h k) = sumN n g + sumN n h := by
  induction n with
  | zero => rfl
  | succ n ih => simp only [sumN, ih]; omega
theorem sumN_sub (n : Nat) (g h : Nat → Int) : sumN n (fun k => g k - h k) = sumN n g - sumN n h := by
  induction n with
  | zero => rfl
  | succ n ih => simp only [sumN, ih]; omega
theorem sumN_mul (n : Nat) (x : Int) (g : Nat → Int) : sumN n (fun k => x * g k) = x * sumN n g := by
  induction n with
  | zero => simp [sumN]
  | succ n ih => simp only [sumN, ih, Int.mul_add]
theorem sumN_emod {n : Nat} {g h : Nat → Int} (p : Int) (e : ∀ i, i < n → g i % p = h i % p) : sumN n g % p = sumN n h % p := by
  induction n with
  | zero => rfl
  | succ n ih =>
    simp only [sumN]
    rw [Int.add_emod, ih (fun i hi => e i (by omega)), e n (by omega), ← Int.add_emod]
theorem sumN_single {n k : Nat} {g : Nat → Int} (hk : k < n) (e : ∀ i, i < n → i ≠ k → g i = 0) : sumN n g = g k := by
  induction n with
  | zero => omega
  | succ n ih =>
    simp only [sumN]
    by_cases c : k = n
    · subst c
      rw [sumN_zero (fun i hi => e i (by omega) (by omega))]
      omega
    · rw [ih (by omega) (fun i hi hne => e i (by omega) hne), e n (by omega) (by omega)]
      omega
theorem sumN_emod_single {n k : Nat} {g : Nat → Int} (p : Int) (hk : k < n) (e : ∀ i, i < n → i ≠ k → g i % p = 0) : sumN n g % p = g k % p := by
  have h : sumN n g % p = sumN n (fun i => if i = k then g k else 0) % p := by
    apply sumN_emod
    intro i hi
    by_cases c : i = k
    · subst c; rw [if_pos rfl]
    · rw [if_neg c, e i hi c]; simp
  rw [h, sumN_single hk (fun i _ hne => by rw [if_neg hne]), if_pos rfl]
/-- The product's coefficients. -/
def cv (A B : Nat → Int) (m : Nat) : Int := sumN (m + 1) (fun t => A t * B (m - t))
theorem cv_sub (A A' B : Nat → Int) (m : Nat) : cv (fun t => A t - A' t) B m = cv A B m - cv A' B m := by
  unfold cv
  rw [← sumN_sub]
  exact sumN_congr (fun i _ => Int.sub_mul _ _ _)
theorem cv_emod_left {A A' B : Nat → Int} {p : Int} (h : ∀ i, A i % p = A' i % p) (m : Nat) : cv A B m % p = cv A' B m % p := by
  unfold cv
  apply sumN_emod
  intro i _
  rw [Int.mul_emod, h i, ← Int.mul_emod]
/-- A coefficient more. -/
theorem cv_put (A B : Nat → Int) (k : Nat) (v : Int) (hk : A k = 0) (m : Nat) : cv (fun t => if t = k then v else A t) B m = cv A B m + (if k ≤ m then v * B (m - k) else 0) := by
  have h : cv (fun t => if t = k then v else A t) B m = cv A B m + sumN (m + 1) (fun t => if t = k then v * B (m - k) else 0) := by
    unfold cv
    rw [← sumN_add]
    apply sumN_congr
    intro i _
    by_cases c : i = k
    · subst c
      simp [hk]
    · simp [c]
  rw [h]
  by_cases c : k ≤ m
  · rw [if_pos c, sumN_single (k := k) (by omega) (fun i _ hne => by simp [hne])]
    simp
  · rw [if_neg c, sumN_zero (fun i hi => by rw [if_neg (by omega)])]
theorem cv_top {p : Int} {D B : Nat → Int} {n t : Nat} (hn : 1 ≤ n) (hB : ∀ i, n ≤ i → B i = 0) (h : ∀ s, t < s → D s % p = 0) : cv D B (t + (n - 1)) % p = (D t * B (n - 1)) % p := by
  unfold cv
  rw [sumN_emod_single (k := t) p (by omega)]
  · rw [show t + (n - 1) - t = n - 1 by omega]
  · intro i hi hne
    by_cases c : t < i
    · rw [Int.mul_emod, h i c]; simp
    · rw [hB _ (by omega)]; simp
theorem quotient_zero {f : Int} (hp : md f ≠ 0) {D B E : Nat → Int} {n : Nat} (hn : 1 ≤ n) (hB : ∀ i, n ≤ i → B i = 0) (hl : B (n - 1) % md f ≠ 0) (hcv : ∀ m, cv D B m % md f = E m % md f) (hE : ∀ m, n - 1 ≤ m → E m % md f = 0)
    (N : Nat) (hD : ∀ s, N ≤ s → D s % md f = 0) : ∀ s, D s % md f = 0 := by
  have key : ∀ j s : Nat, N ≤ s + j → D s % md f = 0 := by
    intro j
    induction j with
    | zero => intro s hs; exact hD s (by omega)
    | succ j ih =>
      intro s hs
      by_cases c : N ≤ s + j
      · exact ih s c
      · have ht := cv_top (p := md f) (D := D) (t := s) hn hB (fun u hu => ih u (by omega))
        rw [hcv, hE _ (by omega)] at ht
        rcases no_zero hp ht.symm with h1 | h1
        · exact h1
        · exact absurd h1 hl
  intro s
  exact key N s (by omega)
theorem el_eq {p x y : Int} (hx : 0 ≤ x ∧ x < p) (hy : 0 ≤ y ∧ y < p) (h : (x - y) % p = 0) : x = y := by
  obtain ⟨k, hk⟩ := Int.dvd_of_emod_eq_zero h
  rcases Int.lt_trichotomy k 0 with c | c | c
  · have := Int.mul_le_mul_of_nonneg_left (show k ≤ -1 by omega) (show 0 ≤ p by omega)
    omega
  · subst c; omega
  · have := Int.mul_le_mul_of_nonneg_left (show 1 ≤ k by omega) (show 0 ≤ p by omega)
    omega
theorem el_eq_emod {p x y : Int} (hx : 0 ≤ x ∧ x < p) (hy : 0 ≤ y ∧ y < p) (h : x % p = y % p) : x = y := by
  rwa [Int.emod_eq_of_lt hx.1 hx.2, Int.emod_eq_of_lt hy.1 hy.2] at h
/-- How many coefficients stay, the zeros at the end cut off; the list so cut. -/
def tn (l : List Int) : Nat → Nat
  | 0 => 0
  | n + 1 => if L l n = 0 then tn l n else n + 1
def tr (l : List Int) : List Int := l.take (tn l l.length)
def Tr (l : List Int) : Prop := ∀ j, l.length = j + 1 → L l j ≠ 0
theorem tn_le (l : List Int) : ∀ n, tn l n ≤ n := by
  intro n
  induction n with
  | zero => exact Nat.le_refl _
  | succ n ih =>
    simp only [tn]
    split
    · omega
    · omega
theorem tn_zero (l : List Int) : ∀ n i, tn l n ≤ i → i < n → L l i = 0 := by
  intro n
  induction n with
  | zero => intro i _ h; omega
  | succ n ih =>
    intro i h1 h2
    simp only [tn] at h1
    by_cases c : L l n = 0
    · rw [if_pos c] at h1
      by_cases e : i = n
      · subst e; exact c
      · exact ih i h1 (by omega)
    · rw [if_neg c] at h1; omega
theorem tn_last (l : List Int) : ∀ n j, tn l n = j + 1 → L l j ≠ 0 := by
  intro n
  induction n with
  | zero => intro j h; simp [tn] at h
  | succ n ih =>
    intro j h
    simp only [tn] at h
    by_cases c : L l n = 0
    · rw [if_pos c] at h; exact ih j h
    · rw [if_neg c] at h
      obtain rfl : n = j := by omega
      exact c
theorem L_take (l : List Int) (n i : Nat) : L (l.take n) i = if i < n then L l i else 0 := by
  by_cases c : i < n
  · rw [if_pos c]
    by_cases d : i < l.length
    · rw [L_at _ _ (by simp; omega), L_at _ _ d]; simp
    · rw [L_out _ _ (by simp; omega), L_out _ _ (by omega)]
  · rw [if_neg c, L_out _ _ (by simp; omega)]
theorem tr_length (l : List Int) : (tr l).length = tn l l.length := by
  unfold tr
  rw [List.length_take]
  have := tn_le l l.length
  omega
theorem tr_le (l : List Int) : (tr l).length ≤ l.length := by rw [tr_length]; exact tn_le _ _
theorem L_tr (l : List Int) (i : Nat) : L (tr l) i = L l i := by
  unfold tr
  rw [L_take]
  by_cases c : i < tn l l.length
  · rw [if_pos c]
  · rw [if_neg c]
    by_cases d : i < l.length
    · rw [tn_zero l l.length i (by omega) d]
    · rw [L_out l i (by omega)]
theorem tr_Tr (l : List Int) : Tr (tr l) := by
  intro j h
  rw [tr_length] at h
  rw [L_tr]
  exact tn_last l l.length j h
theorem tr_el {p : Int} {l : List Int} (h : El p l) : El p (tr l) := fun x hx => h x (List.mem_of_mem_take hx)
theorem Tr.ext {a b : List Int} (ha : Tr a) (hb : Tr b) (h : ∀ i, L a i = L b i) : a = b := by
  have hl : a.length = b.length := by
    rcases Nat.lt_trichotomy a.length b.length with c | c | c
    · exfalso
      have := hb (b.length - 1) (by omega)
      rw [← h, L_out a _ (by omega)] at this
      exact this rfl
    · exact c
    · exfalso
      have := ha (a.length - 1) (by omega)
      rw [h, L_out b _ (by omega)] at this
      exact this rfl
  exact list_ext hl (fun i _ => h i)
/-- What a list's numbers are beyond zeros: its length is at most where they end. -/
theorem Tr.le {a : List Int} (ha : Tr a) {n : Nat} (h : ∀ i, n ≤ i → L a i = 0) : a.length ≤ n := by
  rcases Nat.lt_or_ge n a.length with c | c
  · exact absurd (h (a.length - 1) (by omega)) (ha (a.length - 1) (by omega))
  · exact c
/-- Two divisions of one list by b: one quotient, one rest. -/
theorem div_unique {f : Int} (hp : md f ≠ 0) {b q r q' r' : List Int} (hb : 1 ≤ b.length) (hEb : El (md f) b) (hTb : Tr b) (hq : El (md f) q) (hr : El (md f) r) (hq' : El (md f) q') (hr' : El (md f) r')
    (tq : Tr q) (trr : Tr r) (tq' : Tr q') (tr' : Tr r') (lr : r.length < b.length) (lr' : r'.length < b.length)
    (h : ∀ m, (cv (L q) (L b) m + L r m) % md f = (cv (L q') (L b) m + L r' m) % md f) : q = q' ∧ r = r' := by
  have hm := md_pos hp
  have hlast : L b (b.length - 1) % md f ≠ 0 := by
    have h1 := hTb (b.length - 1) (by omega)
    have h2 := L_el (show 0 < md f by omega) hEb (b.length - 1)
    rw [Int.emod_eq_of_lt h2.1 h2.2]
    exact h1
  have hsub : ∀ m, cv (fun t => L q t - L q' t) (L b) m % md f = (L r' m - L r m) % md f := by
    intro m
    rw [cv_sub]
    have e := h m
    have e2 := Int.emod_emod_of_dvd 0 (Int.dvd_refl (md f))
    have : (cv (L q) (L b) m + L r m - (cv (L q') (L b) m + L r' m)) % md f = 0 := Int.emod_eq_emod_iff_emod_sub_eq_zero.1 e
    apply Int.emod_eq_emod_iff_emod_sub_eq_zero.2
    rw [← this]
    congr 1
    omega
  have hz := quotient_zero hp (D := fun t => L q t - L q' t) (B := L b) (E := fun m => L r' m - L r m) hb (fun i hi => L_out b i hi) hlast hsub
    (fun m hmm => by rw [L_out r' m (by omega), L_out r m (by omega)]; simp) (q.length + q'.length) (fun s hs => by show (L q s - L q' s) % md f = 0; rw [L_out q s (by omega), L_out q' s (by omega)]; simp)
  have hqq : q = q' := tq.ext tq' (fun i => el_eq (L_el (by omega) hq i) (L_el (by omega) hq' i) (hz i))
  subst hqq
  refine ⟨rfl, trr.ext tr' (fun i => ?_)⟩
  have e := hsub i
  rw [cv_sub, Int.sub_self] at e
  exact (el_eq (L_el (by omega) hr' i) (L_el (by omega) hr i) (by rw [← e]; simp)).symm
theorem sumN_front (n : Nat) (g : Nat → Int) : sumN (n + 1) g = g 0 + sumN n (fun k => g (k + 1)) := by
  induction n with
  | zero => simp [sumN]
  | succ n ih => rw [sumN, ih]; simp only [sumN]; omega
theorem sumN_rev (n : Nat) : ∀ g : Nat → Int, sumN n g = sumN n (fun i => g (n - 1 - i)) := by
  induction n with
  | zero => intro g; rfl
  | succ n ih =>
    intro g
    rw [sumN_front, sumN, ih (fun k => g (k + 1))]
    rw [show n + 1 - 1 - n = 0 by omega]
    have : sumN n (fun i => g (n - 1 - i + 1)) = sumN n (fun i => g (n + 1 - 1 - i)) := sumN_congr (fun i hi => by rw [show n - 1 - i + 1 = n + 1 - 1 - i by omega])
    rw [this]
    omega
theorem cv_comm (A B : Nat → Int) (m : Nat) : cv A B m = cv B A m := by
  unfold cv
  rw [sumN_rev]
  apply sumN_congr
  intro i hi
  rw [show m - (m + 1 - 1 - i) = i by omega, show m + 1 - 1 - i = m - i by omega, Int.mul_comm]
theorem cv_out (a b : List Int) (m : Nat) (h : a.length + b.length ≤ m + 1) : cv (L a) (L b) m = 0 := by
  unfold cv
  apply sumN_zero
  intro i hi
  by_cases c : i < a.length
  · rw [L_out b _ (by omega)]; simp
  · rw [L_out a _ (by omega)]; simp
/-- The sum and the product of two polynomials. -/
def addP (p : Int) (a b : List Int) : List Int := tr (fl (max a.length b.length) (fun m => (L a m + L b m) % p))
def mulP (p : Int) (a b : List Int) : List Int := if a.length = 0 ∨ b.length = 0 then [] else tr (fl (a.length + b.length - 1) (fun m => cv (L a) (L b) m % p))
theorem L_addP (p : Int) (a b : List Int) (i : Nat) : L (addP p a b) i = (L a i + L b i) % p := by
  unfold addP
  rw [L_tr]
  by_cases c : i < max a.length b.length
  · rw [L_fl _ _ _ c]
  · rw [L_out _ _ (by rw [fl_length]; omega), L_out a i (by omega), L_out b i (by omega)]
    simp
theorem L_mulP (p : Int) (a b : List Int) (i : Nat) : L (mulP p a b) i = cv (L a) (L b) i % p := by
  unfold mulP
  by_cases z : a.length = 0 ∨ b.length = 0
  · rw [if_pos z, L_out [] i (by simp)]
    have : cv (L a) (L b) i = 0 := by
      unfold cv
      apply sumN_zero
      intro j _
      rcases z with z | z
      · rw [L_out a j (by omega)]; simp
      · rw [L_out b _ (by omega)]; simp
    rw [this]
    simp
  · rw [if_neg z, L_tr]
    by_cases c : i < a.length + b.length - 1
    · rw [L_fl _ _ _ c]
    · rw [L_out _ _ (by rw [fl_length]; omega), cv_out a b i (by omega)]
      simp
theorem addP_Tr (p : Int) (a b : List Int) : Tr (addP p a b) := tr_Tr _
theorem mulP_Tr (p : Int) (a b : List Int) : Tr (mulP p a b) := by
  unfold mulP
  split
  · intro j h; simp at h
  · exact tr_Tr _
theorem addP_el {p : Int} (hp : 0 < p) (a b : List Int) : El p (addP p a b) := tr_el (fl_el (fun _ _ => emod_range _ hp))
theorem mulP_el {p : Int} (hp : 0 < p) (a b : List Int) : El p (mulP p a b) := by
  unfold mulP
  split
  · exact El.nil p
  · exact tr_el (fl_el (fun _ _ => emod_range _ hp))
theorem mulP_le (p : Int) (a b : List Int) : (mulP p a b).length ≤ a.length + b.length := by
  unfold mulP
  split
  · simp
  · have := tr_le (fl (a.length + b.length - 1) (fun m => cv (L a) (L b) m % p))
    rw [fl_length] at this
    omega
end Go.Proofs.Ytmdpnhcfllociaa.Lib
