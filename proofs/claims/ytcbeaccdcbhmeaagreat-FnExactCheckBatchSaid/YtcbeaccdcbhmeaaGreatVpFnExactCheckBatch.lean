/- The plain law of FnExactCheckBatch; the conditions are what is known of the input. -/
import Derived.Test.YtcbeaccdcbhmeaaGreatVpA
import Derived.RowKit
namespace Go.Vm.Pu
open Go Go.RowKit Go.Vm
set_option linter.unusedVariables false
set_option linter.unusedSimpArgs false
/-- A number's lowest s bits, turned round. -/
def rv : Nat → Nat → Nat
  | 0, _ => 0
  | s + 1, x => x % 2 * 2 ^ s + rv s (x / 2)
theorem rv_lt : ∀ s x : Nat, rv s x < 2 ^ s := by
  intro s
  induction s with
  | zero => intro x; exact Nat.one_pos
  | succ s ih =>
    intro x
    have := ih (x / 2)
    rw [rv, Nat.pow_succ]
    rcases Nat.mod_two_eq_zero_or_one x with h | h <;> rw [h] <;> omega
theorem rv_inj : ∀ s x y : Nat, rv s x = rv s y → x % 2 ^ s = y % 2 ^ s := by
  intro s
  induction s with
  | zero => intro x y _; rw [Nat.pow_zero, Nat.mod_one, Nat.mod_one]
  | succ s ih =>
    intro x y h
    rw [rv, rv] at h
    have h1 := rv_lt s (x / 2)
    have h2 := rv_lt s (y / 2)
    have e : x % 2 = y % 2 ∧ rv s (x / 2) = rv s (y / 2) := by
      rcases Nat.mod_two_eq_zero_or_one x with a | a <;> rcases Nat.mod_two_eq_zero_or_one y with b | b <;> rw [a, b] at h ⊢ <;> omega
    have := ih _ _ e.2
    rw [Nat.pow_succ, Nat.mul_comm, Nat.mod_mul, Nat.mod_mul, e.1, this]
theorem rv_even (s j : Nat) : rv (s + 1) (2 * j) = rv s j := by
  rw [rv, show 2 * j % 2 = 0 by omega, show 2 * j / 2 = j by omega, Nat.zero_mul, Nat.zero_add]
theorem rv_odd (s j : Nat) : rv (s + 1) (2 * j + 1) = 2 ^ s + rv s j := by
  rw [rv, show (2 * j + 1) % 2 = 1 by omega, show (2 * j + 1) / 2 = j by omega, Nat.one_mul]
theorem sumN_two (n : Nat) (g : Nat → Int) : sumN (2 * n) g = sumN n (fun j => g (2 * j)) + sumN n (fun j => g (2 * j + 1)) := by
  induction n with
  | zero => rfl
  | succ n ih =>
    rw [show 2 * (n + 1) = 2 * n + 1 + 1 from rfl]
    simp only [sumN]
    rw [ih]
    omega
/-- The transform of 2 ^ s numbers that stand in turned order. -/
def T (s N : Nat) (w : Int) (u : Nat → Int) (i : Nat) : Int := sumN (2 ^ s) (fun j => w ^ (N * i * j) * u (rv s j))
theorem T_low (s N : Nat) (w : Int) (u : Nat → Int) (i : Nat) : T (s + 1) N w u i = T s (2 * N) w u i + w ^ (N * i) * T s (2 * N) w (fun x => u (2 ^ s + x)) i := by
  unfold T
  rw [Nat.pow_succ, Nat.mul_comm (2 ^ s) 2, sumN_two, ← sumN_mul]
  congr 1
  · refine sumN_congr (fun j _ => ?_)
    rw [rv_even, show N * i * (2 * j) = 2 * N * i * j by rw [Nat.mul_left_comm, Nat.mul_assoc 2 N i, Nat.mul_assoc 2]]
  · refine sumN_congr (fun j _ => ?_)
    rw [rv_odd, show N * i * (2 * j + 1) = N * i + 2 * N * i * j by rw [Nat.mul_add, Nat.mul_one, Nat.add_comm, Nat.mul_left_comm, Nat.mul_assoc 2 N i, Nat.mul_assoc 2], Int.pow_add, Int.mul_assoc]
theorem pow_neg_one {p x : Int} (h : x % p = (-1) % p) (j : Nat) : x ^ (2 * j) % p = 1 % p ∧ x ^ (2 * j + 1) % p = (-1) % p := by
  induction j with
  | zero => exact ⟨by rw [Nat.mul_zero, Int.pow_zero], by rw [show 2 * 0 + 1 = 1 from rfl, Int.pow_succ, Int.pow_zero, Int.one_mul]; exact h⟩
  | succ j ih =>
    have e1 : x ^ (2 * (j + 1)) % p = 1 % p := by
      rw [show 2 * (j + 1) = 2 * j + 1 + 1 from rfl, Int.pow_succ, Int.mul_emod, ih.2, h, ← Int.mul_emod]
      rfl
    refine ⟨e1, ?_⟩
    rw [Int.pow_succ, Int.mul_emod, e1, h, ← Int.mul_emod]
    rfl
theorem T_high (p : Int) (s N : Nat) (w : Int) (u : Nat → Int) (i : Nat) (hw : w ^ (N * 2 ^ s) % p = (-1) % p) : T (s + 1) N w u (i + 2 ^ s) % p = (T s (2 * N) w u i - w ^ (N * i) * T s (2 * N) w (fun x => u (2 ^ s + x)) i) % p := by
  unfold T
  rw [Nat.pow_succ, Nat.mul_comm (2 ^ s) 2, sumN_two, Int.add_emod, ← sumN_mul, Int.sub_eq_add_neg, Int.add_emod (sumN (2 ^ s) (fun j => w ^ (2 * N * i * j) * u (rv s j)))]
  have hn : -sumN (2 ^ s) (fun k => w ^ (N * i) * (w ^ (2 * N * i * k) * u (2 ^ s + rv s k))) = sumN (2 ^ s) (fun k => (-1) * (w ^ (N * i) * (w ^ (2 * N * i * k) * u (2 ^ s + rv s k)))) := by
    rw [sumN_mul (2 ^ s) (-1), Int.neg_one_mul]
  have hq : ∀ e : Nat, w ^ (N * 2 ^ s * e) = (w ^ (N * 2 ^ s)) ^ e := fun e => Int.pow_mul
  rw [hn]
  congr 1
  congr 1
  · refine sumN_emod p (fun j _ => ?_)
    have e : N * (i + 2 ^ s) * (2 * j) = 2 * N * i * j + N * 2 ^ s * (2 * j) := by
      rw [Nat.mul_add, Nat.add_mul, Nat.mul_left_comm (N * i), Nat.mul_assoc 2 N i, Nat.mul_assoc 2]
    rw [rv_even, e, Int.pow_add, Int.mul_right_comm, Int.mul_emod, hq, (pow_neg_one hw j).1, ← Int.mul_emod, Int.mul_one]
  · refine sumN_emod p (fun j _ => ?_)
    have e : N * (i + 2 ^ s) * (2 * j + 1) = (N * i + 2 * N * i * j) + N * 2 ^ s * (2 * j + 1) := by
      have e0 : N * i * (2 * j + 1) = N * i + 2 * N * i * j := by
        rw [Nat.mul_add, Nat.mul_one, Nat.add_comm, Nat.mul_left_comm, Nat.mul_assoc 2 N i, Nat.mul_assoc 2]
      rw [Nat.mul_add N i, Nat.add_mul, e0]
    rw [rv_odd, e, Int.pow_add, Int.mul_right_comm, Int.mul_emod, hq, (pow_neg_one hw j).2, ← Int.mul_emod, Int.mul_comm _ (-1), Int.pow_add, Int.mul_assoc (w ^ (N * i))]
/-- The rounds of the fast transform make the transform. -/
theorem rounds_T (p : Int) (m : Nat) (w : Int) (A : Nat → Nat → Int) (R : Nat → Int) (hR : ∀ s, s < m → R s % p = w ^ (2 ^ (m - s - 1)) % p) (hw : 0 < m → w ^ (2 ^ (m - 1)) % p = (-1) % p)
    (low : ∀ s b i, s < m → i < 2 ^ s → (b + 1) * 2 ^ (s + 1) ≤ 2 ^ m → A (s + 1) (b * 2 ^ (s + 1) + i) % p = (A s (b * 2 ^ (s + 1) + i) + R s ^ i * A s (b * 2 ^ (s + 1) + 2 ^ s + i)) % p)
    (high : ∀ s b i, s < m → i < 2 ^ s → (b + 1) * 2 ^ (s + 1) ≤ 2 ^ m → A (s + 1) (b * 2 ^ (s + 1) + 2 ^ s + i) % p = (A s (b * 2 ^ (s + 1) + i) - R s ^ i * A s (b * 2 ^ (s + 1) + 2 ^ s + i)) % p) :
    ∀ s b i, s ≤ m → i < 2 ^ s → (b + 1) * 2 ^ s ≤ 2 ^ m → A s (b * 2 ^ s + i) % p = T s (2 ^ (m - s)) w (fun x => A 0 (b * 2 ^ s + x)) i % p := by
  intro s
  induction s with
  | zero =>
    intro b i _ hi _
    obtain rfl : i = 0 := by rw [Nat.pow_zero] at hi; omega
    unfold T
    rw [Nat.pow_zero]
    simp only [sumN, rv, Nat.mul_zero, Int.pow_zero, Int.one_mul, Int.zero_add, Nat.mul_one]
  | succ s ih =>
    intro b i hs hi hb
    have hp : 2 ^ (s + 1) = 2 * 2 ^ s := by rw [Nat.pow_succ, Nat.mul_comm]
    have hN : 2 ^ (m - s) = 2 * 2 ^ (m - (s + 1)) := by
      rw [show m - s = m - (s + 1) + 1 by omega, Nat.pow_succ, Nat.mul_comm]
    have hb1 : (2 * b + 1) * 2 ^ s ≤ 2 ^ m := by
      have : (b + 1) * (2 * 2 ^ s) = (2 * b + 1) * 2 ^ s + 2 ^ s := by
        rw [← Nat.mul_assoc, ← Nat.succ_mul]
        congr 1
        omega
      rw [hp] at hb
      omega
    have hb2 : (2 * b + 1 + 1) * 2 ^ s ≤ 2 ^ m := by
      have : (b + 1) * (2 * 2 ^ s) = (2 * b + 1 + 1) * 2 ^ s := by
        rw [← Nat.mul_assoc]
        congr 1
        omega
      rw [hp] at hb
      omega
    have e1 : 2 * b * 2 ^ s = b * 2 ^ (s + 1) := by rw [hp, Nat.mul_comm 2 b, Nat.mul_assoc]
    have e2 : (2 * b + 1) * 2 ^ s = b * 2 ^ (s + 1) + 2 ^ s := by rw [Nat.succ_mul, e1]
    have hT1 : ∀ j, j < 2 ^ s → A s (b * 2 ^ (s + 1) + j) % p = T s (2 * 2 ^ (m - (s + 1))) w (fun x => A 0 (b * 2 ^ (s + 1) + x)) j % p := by
      intro j hj
      have := ih (2 * b) j (by omega) hj hb1
      rw [e1, hN] at this
      exact this
    have hT2 : ∀ j, j < 2 ^ s → A s (b * 2 ^ (s + 1) + 2 ^ s + j) % p = T s (2 * 2 ^ (m - (s + 1))) w (fun x => A 0 (b * 2 ^ (s + 1) + (2 ^ s + x))) j % p := by
      intro j hj
      have := ih (2 * b + 1) j (by omega) hj hb2
      rw [e2, hN] at this
      rw [this]
      congr 2
      funext x
      rw [Nat.add_assoc]
    have hr : ∀ j : Nat, R s ^ j % p = w ^ (2 ^ (m - (s + 1)) * j) % p := by
      intro j
      rw [← pow_emod, hR s (by omega), pow_emod, Int.pow_mul, show m - s - 1 = m - (s + 1) by omega]
    by_cases c : i < 2 ^ s
    · rw [low s b i (by omega) c hb, T_low, Int.add_emod, Int.mul_emod, hT1 i c, hT2 i c, hr i, ← Int.mul_emod, ← Int.add_emod]
    · obtain ⟨j, rfl⟩ : ∃ j, i = j + 2 ^ s := ⟨i - 2 ^ s, by omega⟩
      have hj : j < 2 ^ s := by omega
      have hww : w ^ (2 ^ (m - (s + 1)) * 2 ^ s) % p = (-1) % p := by
        rw [← Nat.pow_add, show m - (s + 1) + s = m - 1 by omega]
        exact hw (by omega)
      rw [show b * 2 ^ (s + 1) + (j + 2 ^ s) = b * 2 ^ (s + 1) + 2 ^ s + j by omega, high s b j (by omega) hj hb, T_high p s _ w _ j hww, Int.sub_emod, Int.mul_emod, hT1 j hj, hT2 j hj, hr j, ← Int.mul_emod, ← Int.sub_emod]
/-- A power by squares. -/
def pw (p : Int) : Nat → Int → Nat → Int → Int
  | 0, _, _, out => out
  | d + 1, x, n, out => if n % 2 = 1 then pw p d (x * x % p) (n / 2) (out * x % p) else pw p d (x * x % p) (n / 2) out
theorem pw_eq (p : Int) : ∀ (d : Nat) (x : Int) (n : Nat) (out : Int), n < 2 ^ d → pw p d x n out % p = out * x ^ n % p := by
  intro d
  induction d with
  | zero =>
    intro x n out h
    obtain rfl : n = 0 := by rw [Nat.pow_zero] at h; omega
    rw [pw, Int.pow_zero, Int.mul_one]
  | succ d ih =>
    intro x n out h
    have hn : n / 2 < 2 ^ d := by rw [Nat.pow_succ] at h; omega
    rw [pw, ← pow_half p x out n]
    by_cases c : n % 2 = 1
    · rw [if_pos c, if_pos c, ih _ _ _ hn]
    · rw [if_neg c, if_neg c, ih _ _ _ hn]
/-- The number of a field's elements beside 0. -/
def p1 (f : Int) : Nat := (md f - 1).toNat
/-- A root of one, of order 2 to the s. -/
def rt (f : Int) (s : Nat) : Int := gn f ^ (p1 f / 2 ^ s) % md f
theorem nine_f {f : Int} (hp : md f ≠ 0) : f = 0 ∨ f = 1 ∨ f = 2 ∨ f = 3 ∨ f = 4 ∨ f = 5 ∨ f = 6 ∨ f = 7 ∨ f = 8 := nine (md_in hp).1 (md_in hp).2
theorem half_root {f : Int} (hp : md f ≠ 0) : gn f ^ (p1 f / 2) % md f = (-1) % md f := by
  have h := pw_eq (md f) 32 (gn f) (p1 f / 2) 1 (by rcases nine_f hp with rfl | rfl | rfl | rfl | rfl | rfl | rfl | rfl | rfl <;> decide)
  rw [Int.one_mul] at h
  rw [← h]
  rcases nine_f hp with rfl | rfl | rfl | rfl | rfl | rfl | rfl | rfl | rfl <;> decide +kernel
theorem tw_range {f : Int} (hp : md f ≠ 0) : 4 ≤ tw f ∧ tw f ≤ 26 := by
  rcases nine_f hp with rfl | rfl | rfl | rfl | rfl | rfl | rfl | rfl | rfl <;> decide
theorem two_dvd {f : Int} (hp : md f ≠ 0) (m : Nat) (hm : (m : Int) ≤ tw f) : 2 ^ m ∣ p1 f := by
  have h : 2 ^ (tw f).toNat ∣ p1 f := by
    rcases nine_f hp with rfl | rfl | rfl | rfl | rfl | rfl | rfl | rfl | rfl <;> decide +kernel
  exact Nat.dvd_trans (Nat.pow_dvd_pow 2 (by omega)) h
theorem div_pow {P m s : Nat} (h : 2 ^ m ∣ P) (hs : s ≤ m) : P / 2 ^ s = P / 2 ^ m * 2 ^ (m - s) := by
  obtain ⟨q, rfl⟩ := h
  rw [Nat.mul_div_cancel_left q (Nat.two_pow_pos m), show 2 ^ m = 2 ^ s * 2 ^ (m - s) by rw [← Nat.pow_add]; congr 1; omega, Nat.mul_assoc, Nat.mul_div_cancel_left _ (Nat.two_pow_pos s), Nat.mul_comm]
theorem rt_pow {f : Int} (hp : md f ≠ 0) (m s : Nat) (hm : (m : Int) ≤ tw f) (hs : s ≤ m) : rt f s % md f = rt f m ^ (2 ^ (m - s)) % md f := by
  unfold rt
  rw [pow_emod, Int.emod_emod_of_dvd _ (Int.dvd_refl _), div_pow (two_dvd hp m hm) hs, Int.pow_mul]
theorem rt_half {f : Int} (hp : md f ≠ 0) (m : Nat) (hm : (m : Int) ≤ tw f) (h0 : 0 < m) : rt f m ^ (2 ^ (m - 1)) % md f = (-1) % md f := by
  rw [← rt_pow hp m 1 hm h0, rt, Int.emod_emod_of_dvd _ (Int.dvd_refl _), Nat.pow_one]
  exact half_root hp
theorem rt_one {f : Int} (hp : md f ≠ 0) (m : Nat) (hm : (m : Int) ≤ tw f) (h0 : 0 < m) : rt f m ^ (2 ^ m) % md f = 1 % md f := by
  rw [show 2 ^ m = 2 ^ (m - 1) * (2 * 1) by rw [Nat.mul_one, ← Nat.pow_succ]; congr 1; omega, Int.pow_mul]
  exact (pow_neg_one (rt_half hp m hm h0) 1).1
theorem L_set (l : List Int) (a x : Nat) (v : Int) (h : a < l.length) : L (l.set a v) x = if x = a then v else L l x := by
  unfold L
  by_cases c : x = a
  · rw [if_pos c, c]
    simp [List.getD, h]
  · rw [if_neg c]
    simp only [List.getD, List.getElem?_set]
    rw [if_neg (fun e => c e.symm)]
/-- A length's logarithm, -1 for none. -/
def lgs (n : Nat) : Nat → Nat → Int
  | 0, _ => -1
  | d + 1, i => if n = 2 ^ i then (i : Int) else lgs n d (i + 1)
def lg (n : Nat) : Int := lgs n 10 0
theorem lgs_spec (n : Nat) : ∀ d i : Nat, lgs n d i = -1 ∨ ∃ m : Nat, lgs n d i = (m : Int) ∧ n = 2 ^ m ∧ m < i + d := by
  intro d
  induction d with
  | zero => intro i; exact Or.inl rfl
  | succ d ih =>
    intro i
    rw [lgs]
    by_cases c : n = 2 ^ i
    · rw [if_pos c]; exact Or.inr ⟨i, rfl, c, by omega⟩
    · rw [if_neg c]
      rcases ih (i + 1) with h | ⟨m, h1, h2, h3⟩
      · exact Or.inl h
      · exact Or.inr ⟨m, h1, h2, by omega⟩
theorem lg_spec {n : Nat} (h : 0 ≤ lg n) : ∃ m : Nat, lg n = (m : Int) ∧ n = 2 ^ m ∧ m ≤ 9 := by
  rcases lgs_spec n 10 0 with h1 | ⟨m, h1, h2, h3⟩
  · unfold lg at h; omega
  · exact ⟨m, h1, h2, by omega⟩
theorem lg_ge (n : Nat) : -1 ≤ lg n := by
  rcases lgs_spec n 10 0 with h1 | ⟨m, h1, h2, h3⟩
  · unfold lg; omega
  · unfold lg; omega
theorem gn_range {f : Int} (hp : md f ≠ 0) : 2 ≤ gn f ∧ gn f < md f := by
  rcases nine_f hp with rfl | rfl | rfl | rfl | rfl | rfl | rfl | rfl | rfl <;> decide
/-- A stage's value at a place. -/
def ts (p w : Int) (h : Nat) (u : Nat → Int) (x : Nat) : Int :=
  if x % (2 * h) < h then (u x + u (x + h) * (w ^ (x % (2 * h)) % p) % p) % p else (u (x - h) - u x * (w ^ (x % (2 * h) - h) % p) % p + p) % p
theorem ts_range (p w : Int) (hp : 0 < p) (h : Nat) (u : Nat → Int) (x : Nat) : 0 ≤ ts p w h u x ∧ ts p w h u x < p := by
  unfold ts
  split <;> exact emod_range _ hp
theorem place_mod (b h j : Nat) (hj : j < 2 * h) : (b * (2 * h) + j) % (2 * h) = j := by
  rw [Nat.mul_comm, Nat.mul_add_mod, Nat.mod_eq_of_lt hj]
theorem ts_low (p w : Int) (h b j : Nat) (u : Nat → Int) (hj : j < h) : ts p w h u (b * (2 * h) + j) = (u (b * (2 * h) + j) + u (b * (2 * h) + j + h) * (w ^ j % p) % p) % p := by
  unfold ts
  rw [place_mod b h j (by omega), if_pos hj]
theorem ts_high (p w : Int) (h b j : Nat) (u : Nat → Int) (hj : j < h) : ts p w h u (b * (2 * h) + j + h) = (u (b * (2 * h) + j) - u (b * (2 * h) + j + h) * (w ^ j % p) % p + p) % p := by
  unfold ts
  rw [show b * (2 * h) + j + h = b * (2 * h) + (j + h) by omega, place_mod b h (j + h) (by omega), if_neg (by omega), show j + h - h = j by omega, show b * (2 * h) + (j + h) - h = b * (2 * h) + j by omega]
/-- The stages, one behind the other. -/
def FS (f : Int) (m : Nat) (o : List Int) : Nat → List Int
  | 0 => o
  | s + 1 => fl (2 ^ m) (ts (md f) (rt f (s + 1)) (2 ^ s) (L (FS f m o s)))
theorem FS_ok {f : Int} (hp : md f ≠ 0) (m : Nat) (o : List Int) (ho : o.length = 2 ^ m) (hE : El (md f) o) (s : Nat) : (FS f m o s).length = 2 ^ m ∧ El (md f) (FS f m o s) := by
  have hq := md_pos hp
  cases s with
  | zero => exact ⟨ho, hE⟩
  | succ s => exact ⟨fl_length _ _, fl_el (fun i _ => ts_range _ _ (by omega) _ _ _)⟩
/-- The reference's root. -/
def ws (f : Int) (m : Nat) : Int := powS f (gn f) ((p1 f / 2 ^ m : Nat) : Int)
/-- The transform. -/
def fwd (f : Int) (v : List Int) : List Int := fl v.length (fun i => sumN v.length (fun j => L v j * (ws f (lg v.length).toNat ^ (i * j % v.length) % md f)) % md f)
theorem ws_eq {f : Int} (hp : md f ≠ 0) (m : Nat) (hm : (m : Int) ≤ tw f) (h0 : 0 < m) : ws f m = rt f m := by
  have hq := md_pos hp
  have hg := gn_range hp
  have hP : (p1 f : Int) = md f - 1 := by unfold p1; omega
  have hd : p1 f / 2 ^ m < p1 f := Nat.div_lt_self (by omega) (Nat.one_lt_two_pow (by omega))
  have e1 : ((p1 f / 2 ^ m : Nat) : Int) % (md f - 1) = ((p1 f / 2 ^ m : Nat) : Int) := by
    rw [← hP]
    exact Int.emod_eq_of_lt (Int.natCast_nonneg _) (by exact_mod_cast hd)
  unfold ws powS rt
  rw [Int.emod_eq_of_lt (show 0 ≤ gn f by omega) hg.2, if_neg (by omega), e1, Int.toNat_natCast]
theorem FS_fwd {f : Int} (hp : md f ≠ 0) (v : List Int) (m : Nat) (hm : m ≤ 9) (hmt : (m : Int) ≤ tw f) (hlg : lg v.length = (m : Int)) (hv : v.length = 2 ^ m) (o : List Int) (ho : o.length = 2 ^ m) (hE : El (md f) o) (hr : ∀ j, j < 2 ^ m → L o (rv m j) = L v j) : FS f m o m = fwd f v := by
  have hq := md_pos hp
  have ok := FS_ok hp m o ho hE m
  have RT := rounds_T (md f) m (rt f m) (fun s x => L (FS f m o s) x) (fun s => rt f (s + 1)) (fun s hs => by rw [rt_pow hp m (s + 1) hmt (by omega), show m - s - 1 = m - (s + 1) by omega]) (fun h0 => rt_half hp m hmt h0)
    (by
      intro s b i hs hi hb
      have e2 : 2 ^ (s + 1) = 2 * 2 ^ s := by rw [Nat.pow_succ, Nat.mul_comm]
      have hlt : b * (2 * 2 ^ s) + i < 2 ^ m := by
        have : (b + 1) * (2 * 2 ^ s) = b * (2 * 2 ^ s) + 2 * 2 ^ s := Nat.succ_mul _ _
        rw [e2] at hb
        omega
      simp only [FS]
      rw [e2, L_fl _ _ _ hlt, ts_low _ _ _ _ _ _ hi, Int.emod_emod_of_dvd _ (Int.dvd_refl _), show b * (2 * 2 ^ s) + 2 ^ s + i = b * (2 * 2 ^ s) + i + 2 ^ s by omega, Int.mul_comm (rt f (s + 1) ^ i), Int.add_emod, Int.emod_emod_of_dvd _ (Int.dvd_refl _), Int.mul_emod (L (FS f m o s) (b * (2 * 2 ^ s) + i + 2 ^ s)), Int.emod_emod_of_dvd _ (Int.dvd_refl _), ← Int.mul_emod, ← Int.add_emod])
    (by
      intro s b i hs hi hb
      have e2 : 2 ^ (s + 1) = 2 * 2 ^ s := by rw [Nat.pow_succ, Nat.mul_comm]
      have hlt : b * (2 * 2 ^ s) + i + 2 ^ s < 2 ^ m := by
        have : (b + 1) * (2 * 2 ^ s) = b * (2 * 2 ^ s) + 2 * 2 ^ s := Nat.succ_mul _ _
        rw [e2] at hb
        omega
      simp only [FS]
      rw [e2, show b * (2 * 2 ^ s) + 2 ^ s + i = b * (2 * 2 ^ s) + i + 2 ^ s by omega, L_fl _ _ _ hlt, ts_high _ _ _ _ _ _ hi, Int.emod_emod_of_dvd _ (Int.dvd_refl _), Int.add_emod_right, Int.mul_comm (rt f (s + 1) ^ i), Int.sub_emod, Int.emod_emod_of_dvd _ (Int.dvd_refl _), Int.mul_emod (L (FS f m o s) (b * (2 * 2 ^ s) + i + 2 ^ s)), Int.emod_emod_of_dvd _ (Int.dvd_refl _), ← Int.mul_emod, ← Int.sub_emod])
  unfold fwd
  refine list_ext (by rw [fl_length, ok.1, hv]) (fun i hi => ?_)
  rw [ok.1] at hi
  rw [L_fl _ _ _ (by omega), hlg, Int.toNat_natCast]
  have h1 := RT m 0 i (Nat.le_refl _) hi (by omega)
  have h2 := L_el (by omega) ok.2 i
  rw [Nat.sub_self, Nat.pow_zero, Nat.zero_mul, Nat.zero_add] at h1
  rw [← Int.emod_eq_of_lt h2.1 h2.2, h1, hv]
  unfold T
  refine sumN_emod (md f) (fun j hj => ?_)
  simp only [FS]
  rw [Nat.zero_add, hr j hj, Nat.one_mul, Int.mul_comm, Int.mul_emod, Int.mul_emod (L v j) (ws f m ^ (i * j % 2 ^ m) % md f), Int.emod_emod_of_dvd _ (Int.dvd_refl _)]
  congr 2
  by_cases c : 0 < m
  · rw [ws_eq hp m hmt c]
    have hd : i * j = 2 ^ m * (i * j / 2 ^ m) + i * j % 2 ^ m := (Nat.div_add_mod _ _).symm
    have e1 : rt f m ^ (i * j) = rt f m ^ (2 ^ m * (i * j / 2 ^ m)) * rt f m ^ (i * j % 2 ^ m) := by rw [← Int.pow_add, ← hd]
    rw [e1, Int.mul_emod, Int.pow_mul, ← pow_emod, rt_one hp m hmt c, pow_emod, Int.one_pow, ← Int.mul_emod, Int.one_mul]
  · have hm0 : m = 0 := by omega
    subst hm0
    have : i = 0 := by rw [Nat.pow_zero] at hi; omega
    subst this
    rw [Nat.zero_mul, Nat.zero_mod, Int.pow_zero, Int.pow_zero]
theorem ws_range {f : Int} (hp : md f ≠ 0) (m : Nat) : 0 ≤ ws f m ∧ ws f m < md f := by
  have hq := md_pos hp
  have hg := gn_range hp
  unfold ws powS
  rw [Int.emod_eq_of_lt (show 0 ≤ gn f by omega) hg.2, if_neg (by omega)]
  exact emod_range _ (by omega)
/-- A vector of a field. -/
def LokV (f : Int) (v : List Int) : Prop := (0 ≤ lg v.length ∧ lg v.length ≤ tw f) ∧ El (md f) v
instance (f : Int) (v : List Int) : Decidable (LokV f v) := by unfold LokV; exact inferInstance
def VecP (f : Int) (v : List Int) : Prop := md f ≠ 0 ∧ LokV f v
instance (f : Int) (v : List Int) : Decidable (VecP f v) := by unfold VecP; exact inferInstance
theorem vec_len {f : Int} {v : List Int} (h : VecP f v) : 1 ≤ v.length ∧ v.length ≤ 512 := by
  obtain ⟨m, _, hv, hm⟩ := lg_spec h.2.1.1
  have h512 : 2 ^ m ≤ 2 ^ 9 := Nat.pow_le_pow_right (by decide) hm
  have h9 : 2 ^ 9 = 512 := by decide
  have hone : 1 ≤ 2 ^ m := Nat.one_le_two_pow
  omega
end Go.Vm.Pu
namespace Go.Vm.Pu
open Go Go.RowKit Go.Vm
set_option linter.unusedVariables false
set_option linter.unusedSimpArgs false
theorem shl1 (i : Nat) (h : i ≤ 20) : wrap64 (1 * 2 ^ (Int.toNat (i : Int))) = ((2 ^ i : Nat) : Int) := by
  have hp : 2 ^ i ≤ 2 ^ 20 := Nat.pow_le_pow_right (by decide) h
  have e : ((2 ^ i : Nat) : Int) = (2 : Int) ^ i := by simp
  rw [Int.toNat_natCast, Int.one_mul, ← e]
  have h20 : 2 ^ 20 = 1048576 := by decide
  rw [h20] at hp
  clear e
  generalize 2 ^ i = q at hp ⊢
  exact wrap_id (by omega) (by omega)
theorem shr_nat (n s : Nat) : Int.fdiv (n : Int) (2 ^ (Int.toNat (s : Int))) = ((n / 2 ^ s : Nat) : Int) := by
  have e : ((2 ^ s : Nat) : Int) = (2 : Int) ^ s := by simp
  rw [Int.toNat_natCast, ← e, Int.fdiv_eq_ediv_of_nonneg _ (Int.natCast_nonneg _)]
  rfl
theorem and_oneV (x : Nat) (h : x < 1000000000000) : bitsOf .and .i64 (x : Int) 1 = ((x % 2 : Nat) : Int) := by
  have e : bitsOf .and .i64 (x : Int) 1 = IntKind.i64.wrap ((BitVec.ofInt 64 (x : Int) &&& BitVec.ofInt 64 1).toNat : Int) := rfl
  have h1 : (BitVec.ofInt 64 (x : Int)).toNat = x := by
    rw [BitVec.toNat_ofInt]
    omega
  have h2 : (BitVec.ofInt 64 1).toNat = 1 := by decide
  rw [e, BitVec.toNat_and, h1, h2, Nat.and_one_is_mod]
  have := wrap_id (x := ((x % 2 : Nat) : Int)) (by omega) (by omega)
  unfold wrap64 at this
  exact this
theorem ilogV_loop (n K : Nat) (hn : n ≤ 2000000) : ∀ d i k : Nat, i + d = 10 → d < k → impl_logOf.l0 K k (n : Int) (i : Int) = some (lgs n d i) := by
  intro d
  induction d with
  | zero =>
    intro i k hi hk
    obtain ⟨k, rfl⟩ : ∃ m, k = m + 1 := ⟨k - 1, by omega⟩
    rw [impl_logOf.l0_eq, if_neg (by omega)]
    rfl
  | succ d ih =>
    intro i k hi hk
    obtain ⟨k, rfl⟩ : ∃ m, k = m + 1 := ⟨k - 1, by omega⟩
    rw [impl_logOf.l0_eq, if_pos (by omega), if_pos (by omega), if_pos (by omega), shl1 i (by omega), lgs]
    by_cases c : n = 2 ^ i
    · rw [if_pos (by omega), if_pos c]
    · rw [if_neg (by omega), if_neg c, wrap_next (show i < 10 by omega) (by omega)]
      exact ih (i + 1) k (by omega) (by omega)
theorem ilogV (n : Nat) (hn : n ≤ 2000000) (k : Nat) (hk : 12 < k) : impl_logOf.f k (n : Int) = some (lg n) := by
  obtain ⟨k, rfl⟩ : ∃ m, k = m + 1 := ⟨k - 1, by omega⟩
  rw [impl_logOf.f_eq]
  exact ilogV_loop n k hn 10 0 k (by omega) (by omega)
theorem slogV_loop (n K : Nat) (hn : n ≤ 2000000) : ∀ d i k : Nat, i + d = 10 → d < k → spec_LogOf.l0 K k (n : Int) (i : Int) = some (lgs n d i) := by
  intro d
  induction d with
  | zero =>
    intro i k hi hk
    obtain ⟨k, rfl⟩ : ∃ m, k = m + 1 := ⟨k - 1, by omega⟩
    rw [spec_LogOf.l0_eq, if_neg (by omega)]
    rfl
  | succ d ih =>
    intro i k hi hk
    obtain ⟨k, rfl⟩ : ∃ m, k = m + 1 := ⟨k - 1, by omega⟩
    have e : IntKind.u64.wrap (i : Int) = (i : Int) := by
      show (i : Int) % 18446744073709551616 = _
      omega
    rw [spec_LogOf.l0_eq, if_pos (by omega), e, if_pos (by omega), if_pos (by omega), shl1 i (by omega), lgs]
    by_cases c : n = 2 ^ i
    · rw [if_pos (by omega), if_pos c]
    · rw [if_neg (by omega), if_neg c, wrap_next (show i < 10 by omega) (by omega)]
      exact ih (i + 1) k (by omega) (by omega)
theorem slogV (n : Nat) (hn : n ≤ 2000000) (k : Nat) (hk : 12 < k) : spec_LogOf.f k (n : Int) = some (lg n) := by
  obtain ⟨k, rfl⟩ : ∃ m, k = m + 1 := ⟨k - 1, by omega⟩
  rw [spec_LogOf.f_eq]
  exact slogV_loop n k hn 10 0 k (by omega) (by omega)
/-- How often 2 divides. -/
def twoN : Nat → Int → Int → Int
  | 0, t, _ => t
  | d + 1, t, n => if Int.tmod n 2 = 0 then twoN d (t + 1) (Int.tdiv n 2) else t
theorem stwoV_loop (K : Nat) : ∀ (d u : Nat) (t n : Int), 0 < n → n < 2 ^ d → d ≤ 40 → d < u → 0 ≤ t → t + d ≤ 100 → spec_TwoPower.l0 K u t n = some (twoN d t n) := by
  intro d
  induction d with
  | zero =>
    intro u t n h0 h1 _ _ _ _
    simp at h1
    omega
  | succ d ih =>
    intro u t n h0 h1 h40 hu ht htd
    obtain ⟨u, rfl⟩ : ∃ m, u = m + 1 := ⟨u - 1, by omega⟩
    have hp : (2 : Int) ^ (d + 1) ≤ 2 ^ 40 := by
      have h := Nat.pow_le_pow_right (n := 2) (by decide) h40
      exact_mod_cast h
    have h40' : (2 : Int) ^ 40 = 1099511627776 := by decide
    rw [spec_TwoPower.l0_eq, twoN]
    by_cases c : Int.tmod n 2 = 0
    · have e : Int.tdiv n 2 = n / 2 := Int.tdiv_eq_ediv_of_nonneg (by omega)
      have c' : n % 2 = 0 := by rw [← Int.tmod_eq_emod_of_nonneg (by omega)]; exact c
      rw [if_pos c, if_pos c, e, wrap_id (x := t + 1) (by omega) (by omega), wrap_id (x := n / 2) (by omega) (by omega)]
      exact ih u (t + 1) (n / 2) (by omega) (by rw [Int.pow_succ] at h1; omega) (by omega) (by omega) (by omega) (by omega)
    · rw [if_neg c, if_neg c]
theorem stwoV (f : Int) (k : Nat) (hk : 50 ≤ k) : spec_TwoPower.f k f = some (if md f = 0 then -1 else tw f) := by
  obtain ⟨k, rfl⟩ : ∃ m, k = m + 1 := ⟨k - 1, by omega⟩
  rw [spec_TwoPower.f_eq, modV f k (by omega), bs]
  by_cases h : md f = 0
  · rw [if_pos h, if_pos h]
  · have hm := md_pos h
    rw [if_neg h, if_neg h, wrap_id (x := md f - 1) (by omega) (by omega), stwoV_loop k 31 k 0 (md f - 1) (by omega) (by
      have : (2 : Int) ^ 31 = 2147483648 := by decide
      omega) (by omega) (by omega) (by omega) (by omega)]
    congr 1
    rcases nine_f h with rfl | rfl | rfl | rfl | rfl | rfl | rfl | rfl | rfl <;> decide +kernel
theorem svecV (f : Int) (v : List Int) (hn : v.length ≤ 2000000) (k : Nat) (hk : 600 ≤ k) : spec_VectorOk.f k f v = some (decide (VecP f v)) := by
  obtain ⟨k, rfl⟩ : ∃ m, k = m + 1 := ⟨k - 1, by omega⟩
  have hg := lg_ge v.length
  rw [spec_VectorOk.f_eq, slogV v.length hn k (by omega), bs]
  by_cases c : lg v.length ≥ 0
  · obtain ⟨m, _, hv, hm⟩ := lg_spec c
    have h512 : 2 ^ m ≤ 2 ^ 9 := Nat.pow_le_pow_right (by decide) hm
    have h9 : 2 ^ 9 = 512 := by decide
    rw [if_pos c, stwoV f k (by omega), bs]
    by_cases h : md f = 0
    · rw [if_pos h, if_neg (by omega), decide_eq_false (fun g => g.1 h)]
    · rw [if_neg h]
      by_cases d : lg v.length ≤ tw f
      · rw [if_pos d, elemsV f v hn k (by omega), bs]
        congr 1
        rw [decide_eq_decide]
        exact ⟨fun g => ⟨h, ⟨c, d⟩, g.2⟩, fun g => ⟨h, g.2.2⟩⟩
      · rw [if_neg d, decide_eq_false (fun g => d g.2.1.2)]
  · rw [if_neg c, decide_eq_false (fun g => c g.2.1.1)]
theorem ivf_step (f : Int) (x1 x19 : List (List Int)) (a v : List Int) (n i K u : Nat) (hi : i < n) (hn : n ≤ 100) (hx : n = x19.length) (hv : rd (.row (.int .i64)) x19 (i : Int) = v) (ha : rd (.row (.int .i64)) x1 0 = a) (h1 : 0 < x1.length) (hl : v.length ≤ 2000000) (hK : 600 ≤ K) :
    impl_vectorField.l0 K (u + 1) x1 x19 (n : Int) (i : Int) 0 0 0 (md f) (gn f) (tw f) = if LokV f v ∧ v.length = a.length then impl_vectorField.l0 K u x1 x19 (n : Int) ((i + 1 : Nat) : Int) 0 0 0 (md f) (gn f) (tw f) else some (0, 0, 0, false) := by
  rw [impl_vectorField.l0_eq, if_pos (by omega), if_pos (by omega), if_pos (by omega), hv, ilogV v.length hl K (by omega), bs]
  simp only [impl_vectorField.j0_eq]
  by_cases c1 : lg v.length < 0
  · rw [if_pos c1, if_true, if_neg (fun h => by have := h.1.1.1; omega)]
  · obtain ⟨m, _, hvm, hm⟩ := lg_spec (show 0 ≤ lg v.length by omega)
    have h512 : 2 ^ m ≤ 2 ^ 9 := Nat.pow_le_pow_right (by decide) hm
    have h9 : 2 ^ 9 = 512 := by decide
    rw [if_neg c1]
    by_cases c2 : lg v.length > tw f
    · rw [if_pos c2, if_true, if_neg (fun h => by have := h.1.1.2; omega)]
    · rw [if_neg c2, areElV _ _ _ v hl K (by omega), bs]
      by_cases c3 : El (md f) v
      · rw [decide_eq_true c3, if_neg (by decide), if_pos (by omega), ha]
        by_cases c4 : v.length = a.length
        · rw [if_neg (by simp [c4]), if_pos ⟨⟨⟨by omega, by omega⟩, c3⟩, c4⟩, wrap_next hi (by omega)]
        · rw [if_pos (by simp; omega), if_neg (fun h => c4 h.2)]
      · rw [decide_eq_false c3, if_pos (by decide), if_true, if_neg (fun h => c3 h.1.2)]
theorem ivf_end (f : Int) (x1 x19 : List (List Int)) (n K u : Nat) : impl_vectorField.l0 K (u + 1) x1 x19 (n : Int) (n : Int) 0 0 0 (md f) (gn f) (tw f) = some (md f, gn f, tw f, true) := by
  rw [impl_vectorField.l0_eq, if_neg (by omega)]
theorem ivfTwo (f : Int) (a b : List Int) (hla : a.length ≤ 2000000) (hlb : b.length ≤ 2000000) (k : Nat) (hk : 610 ≤ k) : impl_vectorField.f k f [a, b] = some (if VecP f a ∧ VecP f b ∧ a.length = b.length then (md f, gn f, tw f, true) else (0, 0, 0, false)) := by
  obtain ⟨k, rfl⟩ : ∃ m, k = m + 4 := ⟨k - 4, by omega⟩
  rw [impl_vectorField.f_eq, fieldV f (k + 3) (by omega), bs]
  by_cases h : md f = 0
  · rw [if_pos (by simpa using h), if_neg (fun g => g.1.1 h)]
  · rw [if_neg (by simpa using h)]
    have s1 := ivf_step f [a, b] [a, b] a a 2 0 (k + 3) (k + 2) (by decide) (by decide) rfl rfl rfl (by simp) hla (by omega)
    have s2 := ivf_step f [a, b] [a, b] a b 2 1 (k + 3) (k + 1) (by decide) (by decide) rfl rfl rfl (by simp) hlb (by omega)
    have s3 := ivf_end f [a, b] [a, b] 2 (k + 3) k
    show impl_vectorField.l0 (k + 3) (k + 2 + 1) [a, b] [a, b] ((2 : Nat) : Int) ((0 : Nat) : Int) 0 0 0 (md f) (gn f) (tw f) = _
    rw [s1]
    by_cases c1 : LokV f a
    · rw [if_pos ⟨c1, rfl⟩]
      show impl_vectorField.l0 (k + 3) (k + 1 + 1) [a, b] [a, b] ((2 : Nat) : Int) ((1 : Nat) : Int) 0 0 0 (md f) (gn f) (tw f) = _
      rw [s2]
      by_cases c2 : LokV f b ∧ b.length = a.length
      · rw [if_pos c2, if_pos ⟨⟨h, c1⟩, ⟨h, c2.1⟩, c2.2.symm⟩]
        exact s3
      · rw [if_neg c2, if_neg (fun g => c2 ⟨g.2.1.2, g.2.2.symm⟩)]
    · rw [if_neg (fun g => c1 g.1), if_neg (fun g => c1 g.1.2)]
theorem ivfOne (f : Int) (a : List Int) (hla : a.length ≤ 2000000) (k : Nat) (hk : 610 ≤ k) : impl_vectorField.f k f [a] = some (if VecP f a then (md f, gn f, tw f, true) else (0, 0, 0, false)) := by
  obtain ⟨k, rfl⟩ : ∃ m, k = m + 3 := ⟨k - 3, by omega⟩
  rw [impl_vectorField.f_eq, fieldV f (k + 2) (by omega), bs]
  by_cases h : md f = 0
  · rw [if_pos (by simpa using h), if_neg (fun g => g.1 h)]
  · rw [if_neg (by simpa using h)]
    have s1 := ivf_step f [a] [a] a a 1 0 (k + 2) (k + 1) (by decide) (by decide) rfl rfl rfl (by simp) hla (by omega)
    have s3 := ivf_end f [a] [a] 1 (k + 2) k
    show impl_vectorField.l0 (k + 2) (k + 1 + 1) [a] [a] ((1 : Nat) : Int) ((0 : Nat) : Int) 0 0 0 (md f) (gn f) (tw f) = _
    rw [s1]
    by_cases c1 : LokV f a
    · rw [if_pos ⟨c1, rfl⟩, if_pos ⟨h, c1⟩]
      exact s3
    · rw [if_neg (fun g => c1 g.1), if_neg (fun g => c1 g.2)]
theorem revV_loop (m K : Nat) (hm : m ≤ 9) : ∀ d i k x r : Nat, i + d = m → d < k → x < 1000 → r < 2 ^ i → impl_reversed.l0 K k (x : Int) (r : Int) (m : Int) (i : Int) = some ((r * 2 ^ d + rv d x : Nat) : Int) := by
  intro d
  induction d with
  | zero =>
    intro i k x r hi hk hx hr
    obtain ⟨k, rfl⟩ : ∃ m, k = m + 1 := ⟨k - 1, by omega⟩
    rw [impl_reversed.l0_eq, if_neg (by omega), Nat.pow_zero, Nat.mul_one]
    rfl
  | succ d ih =>
    intro i k x r hi hk hx hr
    obtain ⟨k, rfl⟩ : ∃ m, k = m + 1 := ⟨k - 1, by omega⟩
    have hp : 2 ^ i ≤ 2 ^ 9 := Nat.pow_le_pow_right (by decide) (by omega)
    have h9 : 2 ^ 9 = 512 := by decide
    have hs := shr_nat x 1
    rw [Nat.pow_one] at hs
    rw [impl_reversed.l0_eq, if_pos (by omega), and_oneV x (by omega), show Int.fdiv (x : Int) (2 ^ (Int.toNat 1)) = ((x / 2 : Nat) : Int) from hs, wrap_id (x := 2 * (r : Int)) (by omega) (by omega), wrap_id (x := 2 * (r : Int) + ((x % 2 : Nat) : Int)) (by omega) (by omega), wrap_next (show i < m by omega) (by omega),
      show 2 * (r : Int) + ((x % 2 : Nat) : Int) = ((2 * r + x % 2 : Nat) : Int) by omega, ih (i + 1) k (x / 2) (2 * r + x % 2) (by omega) (by omega) (by omega) (by rw [Nat.pow_succ]; omega)]
    congr 2
    rw [rv, Nat.add_mul, Nat.pow_succ, Nat.mul_comm 2 r, Nat.mul_assoc r, Nat.mul_comm (2 ^ d) 2]
    omega
theorem revV (m : Nat) (hm : m ≤ 9) (x k : Nat) (hx : x < 1000) (hk : m + 1 < k) : impl_reversed.f k (x : Int) (m : Int) = some ((rv m x : Nat) : Int) := by
  obtain ⟨k, rfl⟩ : ∃ m, k = m + 1 := ⟨k - 1, by omega⟩
  rw [impl_reversed.f_eq]
  have := revV_loop m k hm m 0 k x 0 (by omega) (by omega) hx (by decide)
  rw [Nat.zero_mul, Nat.zero_add] at this
  exact this
theorem permT_loop (p : Int) (v : List Int) (m : Nat) (hm : m ≤ 9) (hv : v.length = 2 ^ m) (hE : El p v) : ∀ (d i : Nat) (o : List Int), i + d = 2 ^ m → o.length = 2 ^ m → El p o → (∀ j, j < i → L o (rv m j) = L v j) →
    Tot2 (fun K u => impl_permuted.l0 K u (m : Int) v (v.length : Int) (i : Int) o) (fun r => r.length = 2 ^ m ∧ El p r ∧ ∀ j, j < 2 ^ m → L r (rv m j) = L v j) := by
  have h512 : 2 ^ m ≤ 2 ^ 9 := Nat.pow_le_pow_right (by decide) hm
  have h9 : 2 ^ 9 = 512 := by decide
  intro d
  induction d with
  | zero =>
    intro i o hi ho hEo hj
    refine Tot2.step (fun K u hK => ?_) (Tot2.now (r := o) ⟨ho, hEo, fun j h => hj j (by omega)⟩)
    rw [impl_permuted.l0_eq, if_neg (by omega)]
  | succ d ih =>
    intro i o hi ho hEo hj
    have hr := rv_lt m i
    refine Tot2.step (fun K u hK => ?_) (ih (i + 1) (o.set (rv m i) (L v i)) (by omega) (by simpa using ho) ?_ ?_)
    · rw [impl_permuted.l0_eq, if_pos (by omega), if_pos (by omega), if_pos (by omega), revV m hm i K (by omega) (by omega), bs, if_pos (by omega), if_pos (by omega), rd_L, Int.toNat_natCast, wrap_next (show i < 2 ^ m by omega) (by omega)]
    · intro x hx
      rcases List.mem_or_eq_of_mem_set hx with h | h
      · exact hEo x h
      · rw [h, L_at v i (by omega)]
        exact hE.at i (by omega)
    · intro j hji
      rw [L_set _ _ _ _ (by omega)]
      by_cases c : j = i
      · rw [c, if_pos rfl]
      · rw [if_neg]
        · exact hj j (by omega)
        · intro e
          have := rv_inj m j i e
          rw [Nat.mod_eq_of_lt (by omega), Nat.mod_eq_of_lt (by omega)] at this
          exact c this
theorem permT (p : Int) (hp : 0 < p) (v : List Int) (m : Nat) (hm : m ≤ 9) (hv : v.length = 2 ^ m) (hlg : lg v.length = (m : Int)) (hE : El p v) :
    Tot (fun k => impl_permuted.f k v) (fun r => r.length = 2 ^ m ∧ El p r ∧ ∀ j, j < 2 ^ m → L r (rv m j) = L v j) := by
  have h512 : 2 ^ m ≤ 2 ^ 9 := Nat.pow_le_pow_right (by decide) hm
  have h9 : 2 ^ 9 = 512 := by decide
  refine Tot.step (fun k hk => ?_) (Tot.enter (permT_loop p v m hm hv hE (2 ^ m) 0 (List.replicate v.length 0) (by omega) (by rw [List.length_replicate, hv]) (fun x hx => by rw [List.eq_of_mem_replicate hx]; omega) (fun j h => by omega)))
  rw [impl_permuted.f_eq, ilogV v.length (by omega) k (by omega), hlg, bs, if_pos (by omega), if_pos (by omega), if_pos (by omega), Int.toNat_natCast]
  rfl
theorem rootV {f : Int} (hp : md f ≠ 0) (s : Nat) (hs : s ≤ 60) (k : Nat) (hk : 80 ≤ k) : impl_field__root.f k (md f) (gn f) (tw f) (s : Int) = some (rt f s) := by
  obtain ⟨k, rfl⟩ : ∃ m, k = m + 1 := ⟨k - 1, by omega⟩
  have hq := md_pos hp
  have hg := gn_range hp
  have hp1 : p1 f ≤ 1004535809 := by unfold p1; omega
  have hd : p1 f / 2 ^ s ≤ p1 f := Nat.div_le_self _ _
  have e : wrap64 (md f - 1) = (p1 f : Int) := by rw [wrap_id (by omega) (by omega)]; unfold p1; omega
  rw [impl_field__root.f_eq, if_pos (by omega), if_pos (by omega), e, shr_nat, fpowV (md f) (gn f) (tw f) (gn f) _ (by omega) hq.2 ⟨by omega, hg.2⟩ (by omega) k (by omega), bs]
  rfl
theorem stage_step (p g t w r : Int) (hp : 17 ≤ p) (hp2 : p ≤ 1004535809) (hw : 0 ≤ w ∧ w < p) (hr : 0 ≤ r ∧ r < p) (l : List Int) (hE : El p l) (h q j : Nat) (hj : j < h) (hb : q + 2 * h ≤ l.length) (hl : l.length ≤ 512) (out : List Int) (ho : out.length = l.length) (K u v : Nat) (hK : 5000 ≤ K) :
    impl_field__stage.l1 K u (v + 1) l (h : Int) w (q : Int) r (h : Int) (j : Int) p g t out = impl_field__stage.l1 K u v l (h : Int) w (q : Int) (r * w % p) (h : Int) ((j + 1 : Nat) : Int) p g t ((out.set (q + j) ((L l (q + j) + L l (q + j + h) * r % p) % p)).set (q + j + h) ((L l (q + j) - L l (q + j + h) * r % p + p) % p)) := by
  have a1 : wrap64 ((q : Int) + (j : Int)) = ((q + j : Nat) : Int) := by
    rw [wrap_id (by omega) (by omega)]; rfl
  have a2 : wrap64 (((q + j : Nat) : Int) + (h : Int)) = ((q + j + h : Nat) : Int) := by
    rw [wrap_id (by omega) (by omega)]; rfl
  have x1 := L_el (by omega) hE (q + j)
  have x2 := L_el (by omega) hE (q + j + h)
  have r2 := emod_range (L l (q + j + h) * r) (show 0 < p by omega)
  have m1 := fmulV p g t (L l (q + j + h)) r (by omega) hp2 x2 hr K (by omega)
  have m2 := fmulV p g t r w (by omega) hp2 hr hw K (by omega)
  have m3 := faddV p g t (L l (q + j)) (L l (q + j + h) * r % p) (by omega) hp2 x1 r2 K (by omega)
  have m4 := fsubV p g t (L l (q + j)) (L l (q + j + h) * r % p) (by omega) hp2 x1 r2 K (by omega)
  rw [impl_field__stage.l1_eq, if_pos (by omega), a1, if_pos (by omega), if_pos (by omega), a2, if_pos (by omega), if_pos (by omega), rd_L, rd_L, m1, bs, m3, bs, if_pos (by omega), if_pos (by omega), m4, bs, if_pos (by omega), if_pos (by rw [List.length_set]; omega), m2, bs, wrap_next hj (by omega), Int.toNat_natCast, Int.toNat_natCast, Int.add_emod_right]
theorem stage_in (p g t w : Int) (hp : 17 ≤ p) (hp2 : p ≤ 1004535809) (hw : 0 ≤ w ∧ w < p) (l : List Int) (hE : El p l) (F : Nat → Int) (h q : Nat) (hh : 1 ≤ h) (hb : q + 2 * h ≤ l.length) (hl : l.length ≤ 512)
    (F1 : ∀ j, j < h → F (q + j) = (L l (q + j) + L l (q + j + h) * (w ^ j % p) % p) % p) (F2 : ∀ j, j < h → F (q + j + h) = (L l (q + j) - L l (q + j + h) * (w ^ j % p) % p + p) % p) (R : List Int)
    (cont : ∀ out : List Int, out.length = l.length → (∀ x, x < q + 2 * h → L out x = F x) → Ev2 (fun K u => impl_field__stage.l0 K u l (h : Int) w ((q + 2 * h : Nat) : Int) p g t out) R) :
    ∀ (d j : Nat) (out : List Int), j + d = h → out.length = l.length → (∀ x, x < q + j → L out x = F x) → (∀ x, q + h ≤ x → x < q + h + j → L out x = F x) →
      Ev3 (fun K u v => impl_field__stage.l1 K u v l (h : Int) w (q : Int) (w ^ j % p) (h : Int) (j : Int) p g t out) R := by
  intro d
  induction d with
  | zero =>
    intro j out hj ho h1 h2
    have e1 : wrap64 (2 * (h : Int)) = 2 * (h : Int) := wrap_id (by omega) (by omega)
    have e2 : wrap64 ((q : Int) + 2 * (h : Int)) = ((q + 2 * h : Nat) : Int) := by
      rw [wrap_id (by omega) (by omega)]
      omega
    have hjh : j = h := hj
    rw [hjh] at h1 h2
    refine Ev3.step (fun K u v hK => ?_) (Ev3.leave (cont out ho (fun x hx => ?_)))
    · rw [impl_field__stage.l1_eq, if_neg (show ¬ (j : Int) < (h : Int) by omega), e1, e2]
    · have e3 : q + 2 * h = q + h + h := by omega
      rw [e3] at hx
      by_cases c : x < q + h
      · exact h1 x c
      · exact h2 x (Nat.le_of_not_lt c) hx
  | succ d ih =>
    intro j out hj ho h1 h2
    have hjh : j < h := by omega
    have t1 := F1 j hjh
    have t2 := F2 j hjh
    have sl : ∀ x, L ((out.set (q + j) (F (q + j))).set (q + j + h) (F (q + j + h))) x = if x = q + j + h then F (q + j + h) else if x = q + j then F (q + j) else L out x := by
      intro x
      rw [L_set _ _ _ _ (by rw [List.length_set]; omega), L_set _ _ _ _ (by omega)]
    refine Ev3.step (fun K u v hK => ?_) (ih (j + 1) ((out.set (q + j) (F (q + j))).set (q + j + h) (F (q + j + h))) (by omega) (by rw [List.length_set, List.length_set]; exact ho) ?_ ?_)
    · rw [stage_step p g t w (w ^ j % p) hp hp2 hw (emod_range _ (by omega)) l hE h q j hjh hb hl out ho K u v hK, show w ^ j % p * w % p = w ^ (j + 1) % p by rw [Int.pow_succ, Int.mul_emod, Int.emod_emod_of_dvd _ (Int.dvd_refl _), ← Int.mul_emod], ← t1, ← t2]
    · intro x hx
      rw [sl]
      by_cases c1 : x = q + j + h
      · omega
      · rw [if_neg c1]
        by_cases c2 : x = q + j
        · rw [if_pos c2, c2]
        · rw [if_neg c2, h1 x (by omega)]
    · intro x hx1 hx2
      rw [sl]
      by_cases c1 : x = q + j + h
      · rw [if_pos c1, c1]
      · rw [if_neg c1, if_neg (by omega), h2 x hx1 (by omega)]
theorem stage_out (p g t w : Int) (hp : 17 ≤ p) (hp2 : p ≤ 1004535809) (hw : 0 ≤ w ∧ w < p) (l : List Int) (hE : El p l) (h B : Nat) (hh : 1 ≤ h) (hB : B * (2 * h) = l.length) (hl : l.length ≤ 512) :
    ∀ (d b : Nat) (out : List Int), b + d = B → out.length = l.length → (∀ x, x < b * (2 * h) → L out x = ts p w h (L l) x) →
      Ev2 (fun K u => impl_field__stage.l0 K u l (h : Int) w ((b * (2 * h) : Nat) : Int) p g t out) (fl l.length (ts p w h (L l))) := by
  intro d
  induction d with
  | zero =>
    intro b out hb ho h1
    obtain rfl : b = B := by omega
    have e : out = fl l.length (ts p w h (L l)) := by
      refine list_ext (by rw [fl_length, ho]) (fun i hi => ?_)
      rw [L_fl _ _ _ (by omega)]
      exact h1 i (by omega)
    rw [← e]
    refine Ev2.step (fun K u hK => ?_) (Ev2.now _)
    rw [impl_field__stage.l0_eq, if_neg (by omega)]
  | succ d ih =>
    intro b out hb ho h1
    have hbl : (b + 1) * (2 * h) ≤ l.length := by
      rw [← hB]
      exact Nat.mul_le_mul_right _ (by omega)
    have hbb : (b + 1) * (2 * h) = b * (2 * h) + 2 * h := Nat.succ_mul _ _
    have := stage_in p g t w hp hp2 hw l hE (ts p w h (L l)) h (b * (2 * h)) hh (by omega) hl (fun j hj => ts_low p w h b j (L l) hj) (fun j hj => ts_high p w h b j (L l) hj) _ (fun o' h1' h2' => by
      rw [← hbb] at h2' ⊢
      exact ih (b + 1) o' (by omega) h1' h2') h 0 out (by omega) ho (fun x hx => h1 x (by omega)) (fun x hx1 hx2 => by omega)
    rw [Int.pow_zero, Int.emod_eq_of_lt (by omega) (by omega)] at this
    refine Ev2.step (fun K u hK => ?_) (Ev2.enter this)
    rw [impl_field__stage.l0_eq, if_pos (by omega)]
    rfl
theorem stageEv {f : Int} (hp : md f ≠ 0) (l : List Int) (hE : El (md f) l) (m s : Nat) (hm : m ≤ 9) (hs : s < m) (hl : l.length = 2 ^ m) : Ev (fun k => impl_field__stage.f k (md f) (gn f) (tw f) l (s : Int)) (fl (2 ^ m) (ts (md f) (rt f (s + 1)) (2 ^ s) (L l))) := by
  have hq := md_pos hp
  have h512 : 2 ^ m ≤ 2 ^ 9 := Nat.pow_le_pow_right (by decide) hm
  have h9 : 2 ^ 9 = 512 := by decide
  have hs1 : 1 ≤ 2 ^ s := Nat.one_le_two_pow
  have hB : 2 ^ (m - (s + 1)) * (2 * 2 ^ s) = l.length := by
    rw [hl, ← Nat.pow_succ', ← Nat.pow_add]
    congr 1
    omega
  have hrt : 0 ≤ rt f (s + 1) ∧ rt f (s + 1) < md f := emod_range _ (by omega)
  have so := stage_out (md f) (gn f) (tw f) (rt f (s + 1)) hq.1 hq.2 hrt l hE (2 ^ s) (2 ^ (m - (s + 1))) hs1 hB (by omega) (2 ^ (m - (s + 1))) 0 (List.replicate l.length 0) (by omega) (by rw [List.length_replicate]) (fun x hx => by omega)
  rw [Nat.zero_mul] at so
  rw [← hl]
  refine Ev.step (fun k hk => ?_) (Ev.enter so)
  rw [impl_field__stage.f_eq, if_pos (by omega), if_pos (by omega), if_pos (by omega), if_pos (by omega), if_pos (by omega), wrap_next (show s < m by omega) (by omega), rootV hp (s + 1) (by omega) k (by omega), bs, shl1 s (by omega), Int.toNat_natCast]
  rfl
theorem stagesEv {f : Int} (hp : md f ≠ 0) (m : Nat) (hm : m ≤ 9) (o : List Int) (ho : o.length = 2 ^ m) (hE : El (md f) o) : ∀ d s : Nat, s + d = m → Ev2 (fun K u => impl_field__forward.l0 K u (m : Int) (s : Int) (md f) (gn f) (tw f) (FS f m o s)) (FS f m o m) := by
  intro d
  induction d with
  | zero =>
    intro s hs
    obtain rfl : s = m := by omega
    refine Ev2.step (fun K u hK => ?_) (Ev2.now _)
    rw [impl_field__forward.l0_eq, if_neg (by omega)]
  | succ d ih =>
    intro s hs
    have ok := FS_ok hp m o ho hE s
    refine Ev2.step (fun K u hK => ?_) (Ev2.bind (f := fun k => impl_field__stage.f k (md f) (gn f) (tw f) (FS f m o s) (s : Int)) (g := fun x K u => impl_field__forward.l0 K u (m : Int) ((s + 1 : Nat) : Int) (md f) (gn f) (tw f) x) (stageEv hp _ ok.2 m s hm (by omega) ok.1) (ih (s + 1) (by omega)))
    rw [impl_field__forward.l0_eq, if_pos (by omega), wrap_next (show s < m by omega) (by omega)]
theorem iforwardEv {f : Int} {v : List Int} (h : VecP f v) : Ev (fun k => impl_field__forward.f k (md f) (gn f) (tw f) v) (fwd f v) := by
  obtain ⟨hp, ⟨h0, h1⟩, hE⟩ := h
  have hq := md_pos hp
  obtain ⟨m, hlg, hv, hm⟩ := lg_spec h0
  have h512 : 2 ^ m ≤ 2 ^ 9 := Nat.pow_le_pow_right (by decide) hm
  have h9 : 2 ^ 9 = 512 := by decide
  obtain ⟨o, ⟨ho, hEo, hr⟩, e⟩ := permT (md f) (by omega) v m hm hv hlg hE
  have h2 := stagesEv hp m hm o ho hEo m 0 (by omega)
  rw [FS_fwd hp v m hm (by omega) hlg hv o ho hEo hr] at h2
  refine Ev.step (fun k hk => ?_) (Ev.bind (f := fun k => impl_permuted.f k v) (g := fun x k => impl_field__forward.l0 k k (m : Int) 0 (md f) (gn f) (tw f) x) e (Ev.enter h2))
  rw [impl_field__forward.f_eq]
  congr 1
  funext x
  rw [ilogV v.length (by omega) k (by omega), hlg, bs]
theorem sgenV {f : Int} (hp : md f ≠ 0) (k : Nat) (hk : 1 ≤ k) : spec_Generator.f k f = some (gn f) := by
  obtain ⟨k, rfl⟩ : ∃ m, k = m + 1 := ⟨k - 1, by omega⟩
  rw [spec_Generator.f_eq]
  simp only [spec_Generator.j0_eq]
  rcases nine_f hp with rfl | rfl | rfl | rfl | rfl | rfl | rfl | rfl | rfl <;> rfl
theorem srootV {f : Int} (hp : md f ≠ 0) (m : Nat) (hm : (m : Int) ≤ tw f) (k : Nat) (hk : 100 ≤ k) : spec_RootOf.f k f (m : Int) = some (ws f m) := by
  obtain ⟨k, rfl⟩ : ∃ m, k = m + 1 := ⟨k - 1, by omega⟩
  have hq := md_pos hp
  have ht := tw_range hp
  have hP : (p1 f : Int) = md f - 1 := by unfold p1; omega
  have hd : p1 f / 2 ^ m ≤ p1 f := Nat.div_le_self _ _
  have e : IntKind.u64.wrap (m : Int) = (m : Int) := by
    show (m : Int) % 18446744073709551616 = _
    omega
  have e2 : wrap64 (md f - 1) = (p1 f : Int) := by rw [wrap_id (by omega) (by omega)]; exact hP.symm
  rw [spec_RootOf.f_eq, modV f k (by omega), bs, if_neg hp, stwoV f k (by omega), if_neg hp, bs, inV _ _ _ k (by omega), decide_eq_true (show 0 ≤ (m : Int) ∧ (m : Int) ≤ tw f from ⟨by omega, hm⟩), bs, if_neg (by decide), sgenV hp k (by omega), bs, bs, e, if_pos (by omega), if_pos (by omega), e2, shr_nat]
  obtain ⟨Q, hQ⟩ : ∃ Q, Q = p1 f / 2 ^ m := ⟨_, rfl⟩
  unfold ws
  rw [← hQ] at hd ⊢
  rw [powV f (gn f) _ hp (by omega) (by omega) k (by omega), bs]
theorem ssum_in (p w : Int) (hp : 17 ≤ p) (hp2 : p ≤ 1004535809) (v : List Int) (hE : El p v) (hl : v.length ≤ 512) (h1 : 1 ≤ v.length) (i : Nat) (hi : i < v.length) (out : List Int) (ho : out.length ≤ 512) (R : List Int)
    (cont : Ev2 (fun K u => spec_l04Sum.l1 K u v p (v.length : Int) ((i + 1 : Nat) : Int) (fl v.length (fun x => w ^ x % p)) (out ++ [sumN v.length (fun j => L v j * (w ^ (i * j % v.length) % p)) % p])) R) :
    ∀ d j : Nat, j + d = v.length → Ev3 (fun K u q => spec_l04Sum.l2 K u q v p (v.length : Int) (i : Int) (sumN j (fun j => L v j * (w ^ (i * j % v.length) % p)) % p) (j : Int) (fl v.length (fun x => w ^ x % p)) out) R := by
  intro d
  induction d with
  | zero =>
    intro j hj
    obtain rfl : j = v.length := by omega
    refine Ev3.step (fun K u q hK => ?_) (Ev3.leave cont)
    rw [spec_l04Sum.l2_eq, if_neg (by omega), if_pos (by omega), wrap_next hi (by omega)]
  | succ d ih =>
    intro j hj
    refine Ev3.step (fun K u q hK => ?_) (ih (j + 1) (by omega))
    have hij : i * j ≤ 512 * 512 := Nat.mul_le_mul (by omega) (by omega)
    have hm : Int.tmod (wrap64 ((i : Int) * (j : Int))) (v.length : Int) = ((i * j % v.length : Nat) : Int) := by
      rw [show (i : Int) * (j : Int) = ((i * j : Nat) : Int) from rfl, wrap_id (by omega) (by omega), Int.tmod_eq_emod_of_nonneg (by omega)]
      rfl
    have hlt : i * j % v.length < v.length := Nat.mod_lt _ (by omega)
    have x1 := L_el (by omega) hE j
    have x2 := emod_range (w ^ (i * j % v.length)) (show 0 < p by omega)
    have m1 := prod_range hp2 x1 x2
    have a1 := emod_range (sumN j (fun j => L v j * (w ^ (i * j % v.length) % p))) (show 0 < p by omega)
    rw [spec_l04Sum.l2_eq, if_pos (by omega), if_pos (by omega), if_pos (by omega), if_pos (by omega), hm, if_pos (by omega), if_pos (by rw [fl_length]; omega), if_pos (by omega), rd_L, rd_L, L_fl _ _ _ hlt, wrap_next (show j < v.length by omega) (by omega), wrap_id (x := L v j * (w ^ (i * j % v.length) % p)) (by omega) (by omega), wrap_id (by omega) (by omega), Int.tmod_eq_emod_of_nonneg (by omega)]
    have e : (sumN j (fun j => L v j * (w ^ (i * j % v.length) % p)) % p + L v j * (w ^ (i * j % v.length) % p)) % p = sumN (j + 1) (fun j => L v j * (w ^ (i * j % v.length) % p)) % p := by
      rw [Int.emod_add_emod]
      rfl
    rw [e]
theorem ssum_out (p w : Int) (hp : 17 ≤ p) (hp2 : p ≤ 1004535809) (v : List Int) (hE : El p v) (hl : v.length ≤ 512) (h1 : 1 ≤ v.length) : ∀ d i : Nat, i + d = v.length →
    Ev2 (fun K u => spec_l04Sum.l1 K u v p (v.length : Int) (i : Int) (fl v.length (fun x => w ^ x % p)) (fl i (fun i => sumN v.length (fun j => L v j * (w ^ (i * j % v.length) % p)) % p))) (fl v.length (fun i => sumN v.length (fun j => L v j * (w ^ (i * j % v.length) % p)) % p)) := by
  intro d
  induction d with
  | zero =>
    intro i hi
    obtain rfl : i = v.length := by omega
    refine Ev2.step (fun K u hK => ?_) (Ev2.now _)
    rw [spec_l04Sum.l1_eq, if_neg (by omega)]
  | succ d ih =>
    intro i hi
    have h2 := ih (i + 1) (by omega)
    rw [← fl_snoc i (fun i => sumN v.length (fun j => L v j * (w ^ (i * j % v.length) % p)) % p)] at h2
    have := ssum_in p w hp hp2 v hE hl h1 i (by omega) (fl i (fun i => sumN v.length (fun j => L v j * (w ^ (i * j % v.length) % p)) % p)) (by rw [fl_length]; omega) _ h2 v.length 0 (by omega)
    rw [show sumN 0 (fun j => L v j * (w ^ (i * j % v.length) % p)) = 0 from rfl, Int.zero_emod] at this
    refine Ev2.step (fun K u hK => ?_) (Ev2.enter this)
    rw [spec_l04Sum.l1_eq, if_pos (by omega)]
    rfl
theorem ssum_pow (p w : Int) (hp : 17 ≤ p) (hp2 : p ≤ 1004535809) (hw : 0 ≤ w ∧ w < p) (v : List Int) (hl : v.length ≤ 512) (R : List Int) (cont : Ev2 (fun K u => spec_l04Sum.l1 K u v p (v.length : Int) 0 (fl v.length (fun x => w ^ x % p)) []) R) :
    ∀ d i : Nat, i + d = v.length → Ev2 (fun K u => spec_l04Sum.l0 K u v w p (v.length : Int) (w ^ i % p) (i : Int) (fl i (fun x => w ^ x % p))) R := by
  intro d
  induction d with
  | zero =>
    intro i hi
    obtain rfl : i = v.length := by omega
    refine Ev2.step (fun K u hK => ?_) (Ev2.enter0 cont)
    rw [spec_l04Sum.l0_eq, if_neg (by omega)]
  | succ d ih =>
    intro i hi
    refine Ev2.step (fun K u hK => ?_) (ih (i + 1) (by omega))
    have x2 := emod_range (w ^ i) (show 0 < p by omega)
    have m1 := prod_range hp2 x2 hw
    rw [spec_l04Sum.l0_eq, if_pos (by omega), fl_length, if_pos (by omega), if_pos (by omega), fl_snoc i (fun x => w ^ x % p), wrap_next (show i < v.length by omega) (by omega), wrap_id (x := w ^ i % p * w) (by omega) (by omega), tmod_nonneg' _ m1.1, show w ^ i % p * w % p = w ^ (i + 1) % p by rw [Int.pow_succ, Int.mul_emod, Int.emod_emod_of_dvd _ (Int.dvd_refl _), ← Int.mul_emod]]
/-- The reference's sum over all places. -/
def dft (p w : Int) (v : List Int) : List Int := fl v.length (fun i => sumN v.length (fun j => L v j * (w ^ (i * j % v.length) % p)) % p)
theorem ssumEv {f : Int} (hp : md f ≠ 0) (w : Int) (hw : 0 ≤ w ∧ w < md f) (v : List Int) (hE : El (md f) v) (hl : v.length ≤ 512) (h1 : 1 ≤ v.length) : Ev (fun k => spec_l04Sum.f k f v w) (dft (md f) w v) := by
  have hq := md_pos hp
  have so := ssum_out (md f) w hq.1 hq.2 v hE hl h1 v.length 0 (by omega)
  have sp := ssum_pow (md f) w hq.1 hq.2 hw v hl _ so v.length 0 (by omega)
  rw [Int.pow_zero, Int.emod_eq_of_lt (by omega) (by omega)] at sp
  refine Ev.step (fun k hk => ?_) (Ev.enter sp)
  rw [spec_l04Sum.f_eq, modV f k (by omega), bs]
  rfl
theorem sforwardEv (f : Int) (v : List Int) (hn : v.length ≤ 1000000) : Ev (fun k => spec_Forward.f k f v) (if VecP f v then fwd f v else []) := by
  by_cases h : VecP f v
  · rw [if_pos h]
    have hV := h
    have hvl := vec_len h
    obtain ⟨hp, ⟨h0, h1⟩, hE⟩ := h
    have hq := md_pos hp
    obtain ⟨m, hlg, hv, hm⟩ := lg_spec h0
    have e := ssumEv hp (ws f m) (ws_range hp m) v hE hvl.2 hvl.1
    have e2 : dft (md f) (ws f m) v = fwd f v := by
      unfold dft fwd
      rw [hlg, Int.toNat_natCast]
    rw [e2] at e
    refine Ev.step (fun k hk => ?_) (Ev.ret e)
    rw [spec_Forward.f_eq, svecV f v (by omega) k (by omega), decide_eq_true hV, bs, if_neg (by decide), slogV v.length (by omega) k (by omega), hlg, bs, srootV hp m (by omega) k (by omega), bs]
  · rw [if_neg h]
    refine Ev.step (fun k hk => ?_) (Ev.now _)
    rw [spec_Forward.f_eq, svecV f v (by omega) k (by omega), decide_eq_false h, bs, if_pos (by decide)]
theorem iForwardEv (f : Int) (v : List Int) (hn : v.length ≤ 1000000) : Ev (fun k => impl_Forward.f k f v) (if VecP f v then fwd f v else []) := by
  by_cases h : VecP f v
  · rw [if_pos h]
    refine Ev.step (fun k hk => ?_) (Ev.ret (iforwardEv h))
    rw [impl_Forward.f_eq, ivfOne f v (by omega) k (by omega), if_pos h]
    simp only [bs, Bool.not_true, Bool.false_eq_true, if_false]
  · rw [if_neg h]
    refine Ev.step (fun k hk => ?_) (Ev.now _)
    rw [impl_Forward.f_eq, ivfOne f v (by omega) k (by omega), if_neg h]
    simp only [bs, Bool.not_false, if_true]
end Go.Vm.Pu
namespace Go.Vm.Pu
open Go Go.RowKit Go.Vm
set_option linter.unusedVariables false
set_option linter.unusedSimpArgs false
theorem emr (a p : Int) : a % p % p = a % p := Int.emod_emod_of_dvd _ (Int.dvd_refl _)
theorem mulm (a b p : Int) : (a % p) * b % p = a * b % p := eml a b p
theorem mulr (a b p : Int) : a * (b % p) % p = a * b % p := by rw [Int.mul_comm, eml, Int.mul_comm]
theorem pow_mod {p w : Int} {n : Nat} (h1 : w ^ n % p = 1 % p) (a b : Nat) (h : a % n = b % n) : w ^ a % p = w ^ b % p := by
  have key : ∀ a : Nat, w ^ a % p = w ^ (a % n) % p := by
    intro a
    have e : w ^ a = (w ^ n) ^ (a / n) * w ^ (a % n) := by rw [← Int.pow_mul, ← Int.pow_add, Nat.div_add_mod]
    rw [e, Int.mul_emod, ← pow_emod (w ^ n), h1, pow_emod, Int.one_pow, ← Int.mul_emod, Int.one_mul]
  rw [key a, key b, h]
/-- The reference's root of a vector's length. -/
theorem ws_zero {f : Int} (hp : md f ≠ 0) : ws f 0 = 1 := by
  rcases nine_f hp with rfl | rfl | rfl | rfl | rfl | rfl | rfl | rfl | rfl <;> rfl
theorem ws_one {f : Int} (hp : md f ≠ 0) (m : Nat) (hm : (m : Int) ≤ tw f) : ws f m ^ (2 ^ m) % md f = 1 % md f := by
  by_cases c : 0 < m
  · rw [ws_eq hp m hm c, rt_one hp m hm c]
  · obtain rfl : m = 0 := by omega
    rw [ws_zero hp, Int.one_pow]
theorem ws_half {f : Int} (hp : md f ≠ 0) (m : Nat) (hm : (m : Int) ≤ tw f) (h0 : 0 < m) : ws f m ^ (2 ^ (m - 1)) % md f = (-1) % md f := by
  rw [ws_eq hp m hm h0, rt_half hp m hm h0]
theorem ws_ne {f : Int} (hp : md f ≠ 0) (m : Nat) (hm : (m : Int) ≤ tw f) : ws f m % md f ≠ 0 := by
  have hq := md_pos hp
  intro h
  have e := ws_one hp m hm
  have h2 : 1 ≤ 2 ^ m := Nat.one_le_two_pow
  obtain ⟨q, hq2⟩ : ∃ q, 2 ^ m = q + 1 := ⟨2 ^ m - 1, by omega⟩
  rw [hq2, Int.pow_succ, Int.mul_emod, h, Int.mul_zero, Int.zero_emod, Int.emod_eq_of_lt (by omega) (by omega)] at e
  omega
theorem two_ne {f : Int} (hp : md f ≠ 0) : (2 : Int) % md f ≠ 0 := by
  have hq := md_pos hp
  rw [Int.emod_eq_of_lt (by omega) (by omega)]
  omega
theorem len_ne {f : Int} (hp : md f ≠ 0) : ∀ m : Nat, ((2 ^ m : Nat) : Int) % md f ≠ 0 := by
  have hq := md_pos hp
  intro m
  induction m with
  | zero =>
    show (1 : Int) % md f ≠ 0
    rw [Int.emod_eq_of_lt (by omega) (by omega)]
    omega
  | succ m ih =>
    intro h
    rw [Nat.pow_succ, Int.natCast_mul] at h
    rcases no_zero hp h with h | h
    · exact ih h
    · exact two_ne hp h
/-- No smaller power of the root is 1. -/
theorem ws_prim {f : Int} (hp : md f ≠ 0) (m : Nat) (hm : (m : Int) ≤ tw f) : ∀ (s e : Nat), s ≤ m → e % 2 ^ s ≠ 0 → ws f m ^ (e * 2 ^ (m - s)) % md f ≠ 1 % md f := by
  have hq := md_pos hp
  intro s
  induction s with
  | zero => intro e _ h; simp at h; omega
  | succ s ih =>
    intro e hs h
    by_cases c : e % 2 = 0
    · obtain ⟨q, rfl⟩ : ∃ q, e = 2 * q := ⟨e / 2, by omega⟩
      have h2 : q % 2 ^ s ≠ 0 := by
        intro hz
        apply h
        rw [Nat.pow_succ, Nat.mul_comm (2 ^ s) 2, Nat.mul_mod_mul_left, hz, Nat.mul_zero]
      have := ih q (by omega) h2
      rw [show m - s = (m - (s + 1)) + 1 by omega, Nat.pow_succ] at this
      rw [show 2 * q * 2 ^ (m - (s + 1)) = q * (2 ^ (m - (s + 1)) * 2) by rw [Nat.mul_comm 2 q, Nat.mul_assoc, Nat.mul_comm 2]]
      exact this
    · -- an odd number: its power by 2^s is -1
      intro hone
      have hh := ws_half hp m hm (by omega)
      obtain ⟨q, rfl⟩ : ∃ q, e = 2 * q + 1 := ⟨e / 2, by omega⟩
      have e1 : (ws f m ^ ((2 * q + 1) * 2 ^ (m - (s + 1)))) ^ (2 ^ s) = (ws f m ^ (2 ^ (m - 1))) ^ (2 * q + 1) := by
        rw [← Int.pow_mul, ← Int.pow_mul]
        congr 1
        rw [Nat.mul_assoc, ← Nat.pow_add, Nat.mul_comm, show m - (s + 1) + s = m - 1 by omega]
      have e2 : (ws f m ^ (2 ^ (m - 1))) ^ (2 * q + 1) % md f = (-1) % md f := (pow_neg_one hh q).2
      rw [← e1, ← pow_emod, hone, pow_emod, Int.one_pow, Int.emod_eq_of_lt (by omega) (by omega)] at e2
      have e3 : (-1 : Int) % md f = md f - 1 := by
        rw [← Int.add_emod_right, Int.emod_eq_of_lt (by omega) (by omega)]
        omega
      omega
theorem ws_prim1 {f : Int} (hp : md f ≠ 0) (m : Nat) (hm : (m : Int) ≤ tw f) (e : Nat) (h : e % 2 ^ m ≠ 0) : ws f m ^ e % md f ≠ 1 % md f := by
  have := ws_prim hp m hm m e (Nat.le_refl _) h
  rwa [Nat.sub_self, Nat.pow_zero, Nat.mul_one] at this
/-- A geometric sum. -/
theorem geo (x : Int) : ∀ n : Nat, (x - 1) * sumN n (fun i => x ^ i) = x ^ n - 1 := by
  intro n
  induction n with
  | zero => simp [sumN]
  | succ n ih =>
    simp only [sumN]
    rw [Int.mul_add, ih, Int.pow_succ, Int.sub_mul, Int.one_mul, Int.mul_comm x]
    omega
theorem sumN_const (n : Nat) (c : Int) : sumN n (fun _ => c) = (n : Int) * c := by
  induction n with
  | zero => simp [sumN]
  | succ n ih =>
    simp only [sumN]
    rw [ih, Int.natCast_add, Int.add_mul]
    simp
/-- The sum of all powers of a root's power. -/
theorem root_sum {f : Int} (hp : md f ≠ 0) (m : Nat) (hm : (m : Int) ≤ tw f) (e : Nat) : sumN (2 ^ m) (fun i => ws f m ^ (e * i)) % md f = (if e % 2 ^ m = 0 then ((2 ^ m : Nat) : Int) else 0) % md f := by
  have hq := md_pos hp
  have h1 := ws_one hp m hm
  by_cases c : e % 2 ^ m = 0
  · rw [if_pos c]
    have : sumN (2 ^ m) (fun i => ws f m ^ (e * i)) % md f = sumN (2 ^ m) (fun _ => 1) % md f := by
      refine sumN_emod _ (fun i _ => ?_)
      have := pow_mod h1 (e * i) 0 (by rw [Nat.mul_mod, c, Nat.zero_mul])
      rw [this, Int.pow_zero]
    rw [this, sumN_const, Int.mul_one]
  · rw [if_neg c, Int.zero_emod]
    have hne := ws_prim1 hp m hm e c
    have hg := geo (ws f m ^ e) (2 ^ m)
    have e0 : sumN (2 ^ m) (fun i => (ws f m ^ e) ^ i) = sumN (2 ^ m) (fun i => ws f m ^ (e * i)) := sumN_congr (fun i _ => Int.pow_mul.symm)
    rw [e0] at hg
    have hz : ((ws f m ^ e - 1) * sumN (2 ^ m) (fun i => ws f m ^ (e * i))) % md f = 0 := by
      rw [hg, ← Int.pow_mul]
      have := pow_mod h1 (e * 2 ^ m) 0 (by simp)
      rw [Int.sub_emod, this, Int.pow_zero, Int.sub_self, Int.zero_emod]
    rcases no_zero hp hz with h | h
    · exact absurd (Int.emod_eq_emod_iff_emod_sub_eq_zero.2 h) hne
    · exact h
theorem sumN_swap (n k : Nat) (g : Nat → Nat → Int) : sumN n (fun i => sumN k (fun j => g i j)) = sumN k (fun j => sumN n (fun i => g i j)) := by
  induction n with
  | zero => simp only [sumN]; exact (sumN_zero (fun _ _ => rfl)).symm
  | succ n ih =>
    simp only [sumN]
    rw [ih, ← sumN_add]
theorem mul_sumN (n : Nat) (x : Int) (g : Nat → Int) : sumN n g * x = sumN n (fun k => g k * x) := by
  rw [Int.mul_comm, ← sumN_mul]
  exact sumN_congr (fun k _ => Int.mul_comm _ _)
/-- The place that stands across. -/
def ac (n i : Nat) : Nat := (n - i) % n
theorem ac_lt {n : Nat} (h : 0 < n) (i : Nat) : ac n i < n := Nat.mod_lt _ h
theorem ac_ac {n i : Nat} (h : i < n) : ac n (ac n i) = i := by
  unfold ac
  by_cases c : i = 0
  · subst c
    rw [Nat.sub_zero, Nat.mod_self, Nat.sub_zero, Nat.mod_self]
  · rw [Nat.mod_eq_of_lt (show n - i < n by omega), Nat.mod_eq_of_lt (by omega)]
    omega
/-- The transform back. -/
def bwd (f : Int) (v : List Int) : List Int := fl v.length (fun i => L (fwd f v) (ac v.length i) * inv f (v.length : Int) % md f)
theorem L_fwd {f : Int} {v : List Int} {m : Nat} (hlg : lg v.length = (m : Int)) (hv : v.length = 2 ^ m) (i : Nat) (hi : i < v.length) : L (fwd f v) i = sumN v.length (fun j => L v j * ws f m ^ (i * j % v.length)) % md f := by
  unfold fwd
  rw [L_fl _ _ _ hi, hlg, Int.toNat_natCast]
  refine sumN_emod _ (fun j _ => ?_)
  rw [mulr]
/-- The reference's sum with the root's inverse is the transform at the places across. -/
theorem dft_inv {f : Int} {v : List Int} (h : VecP f v) (m : Nat) (hlg : lg v.length = (m : Int)) (hv : v.length = 2 ^ m) (i : Nat) (hi : i < v.length) : L (dft (md f) (inv f (ws f m)) v) i = L (fwd f v) (ac v.length i) := by
  obtain ⟨hp, ⟨h0, h1⟩, hE⟩ := h
  have hq := md_pos hp
  have hn : 0 < v.length := by omega
  have hm : (m : Int) ≤ tw f := by omega
  have w1 := ws_one hp m hm
  rw [L_fwd hlg hv _ (ac_lt hn i)]
  unfold dft
  rw [L_fl _ _ _ hi]
  refine sumN_emod _ (fun j hj => ?_)
  rw [mulr, ← mulr, ← mulr (L v j) (ws f m ^ _)]
  congr 2
  -- the inverse is a power of the root
  have hi2 := mul_inv hp (ws_ne hp m hm)
  have e1 : inv f (ws f m) % md f = ws f m ^ (2 ^ m - 1) % md f := by
    have h2 : 1 ≤ 2 ^ m := Nat.one_le_two_pow
    have a1 : ws f m ^ (2 ^ m - 1) * (ws f m * inv f (ws f m)) % md f = ws f m ^ (2 ^ m - 1) % md f := by
      rw [← mulr, hi2, Int.mul_one]
    have a2 : ws f m ^ (2 ^ m - 1) * (ws f m * inv f (ws f m)) = ws f m ^ (2 ^ m) * inv f (ws f m) := by
      rw [← Int.mul_assoc, ← Int.pow_succ]
      congr 2
      omega
    rw [← a1, a2, ← mulm, w1, mulm, Int.one_mul]
  rw [← pow_emod, e1, pow_emod, ← Int.pow_mul]
  refine pow_mod w1 _ _ ?_
  rw [← hv]
  have hn2 : v.length - 1 + 1 = v.length := by omega
  -- both exponents are across i * j
  have k1 : ((v.length - 1) * (i * j % v.length) + i * j) % v.length = 0 := by
    rw [Nat.add_mod, Nat.mul_mod, Nat.mod_mod, ← Nat.mul_mod, ← Nat.add_mod, ← Nat.succ_mul]
    show ((v.length - 1 + 1) * (i * j)) % v.length = 0
    rw [hn2, Nat.mul_mod_right]
  have k2 : (ac v.length i * j % v.length + i * j) % v.length = 0 := by
    rw [Nat.mod_add_mod, ← Nat.add_mul, Nat.mul_mod]
    have : (ac v.length i + i) % v.length = 0 := by
      unfold ac
      rw [Nat.mod_add_mod, show v.length - i + i = v.length by omega, Nat.mod_self]
    rw [this, Nat.zero_mul, Nat.zero_mod]
  have k3 : ac v.length i * j % v.length % v.length = ac v.length i * j % v.length := Nat.mod_mod _ _
  generalize (v.length - 1) * (i * j % v.length) = A at k1 ⊢
  generalize ac v.length i * j % v.length = B at k2 k3 ⊢
  generalize i * j = C at k1 k2
  have hA := Nat.div_add_mod A v.length
  have hC := Nat.div_add_mod C v.length
  have rA := Nat.mod_lt A hn
  have rC := Nat.mod_lt C hn
  rw [Nat.add_mod] at k1 k2
  have rB := Nat.mod_lt B hn
  generalize A % v.length = x at *
  generalize B % v.length = y at *
  generalize C % v.length = z at *
  have f1 : x + z = 0 ∨ x + z = v.length := by
    by_cases g : x + z < v.length
    · rw [Nat.mod_eq_of_lt g] at k1; exact Or.inl k1
    · right
      rw [Nat.mod_eq_sub_mod (by omega), Nat.mod_eq_of_lt (by omega)] at k1
      omega
  have f2 : y + z = 0 ∨ y + z = v.length := by
    by_cases g : y + z < v.length
    · rw [Nat.mod_eq_of_lt g] at k2; exact Or.inl k2
    · right
      rw [Nat.mod_eq_sub_mod (by omega), Nat.mod_eq_of_lt (by omega)] at k2
      omega
  omega
/-- A cyclic product. -/
def cyc (p : Int) (a b : List Int) : List Int := fl a.length (fun i => sumN a.length (fun j => L a j * L b ((i + a.length - j) % a.length)) % p)
def ptw (p : Int) (a b : List Int) : List Int := fl a.length (fun i => L a i * L b i % p)
theorem mulm_three (a b c p : Int) : (a % p) * (b % p) * c % p = a * b * c % p := by
  rw [Int.mul_emod ((a % p) * (b % p)) c p, ← Int.mul_emod a b p, ← Int.mul_emod]
theorem cyc_place2 {n j t : Nat} (hn : 0 < n) (hj : j < n) (ht : t < n) : (j + (t + n - j) % n + ac n t) % n = 0 := by
  unfold ac
  have e1 : (j + (t + n - j) % n) % n = t := by
    rw [Nat.add_mod_mod, show j + (t + n - j) = t + n by omega, Nat.add_mod_right, Nat.mod_eq_of_lt ht]
  rw [← Nat.mod_add_mod, e1, Nat.add_mod_mod, show t + (n - t) = n by omega, Nat.mod_self]
theorem cyc_place {n j t k : Nat} (hn : 0 < n) (hj : j < n) (ht : t < n) (hk : k < n) (h : (j + k + ac n t) % n = 0) : k = (t + n - j) % n := by
  have h2 := cyc_place2 hn hj ht
  have hq := Nat.mod_lt (t + n - j) hn
  have ha := ac_lt hn t
  generalize (t + n - j) % n = q at *
  generalize ac n t = c at *
  -- both sums are multiples of n below 3 n
  have key : ∀ x, x < 3 * n → x % n = 0 → x = 0 ∨ x = n ∨ x = 2 * n := by
    intro x hx hz
    obtain ⟨y, rfl⟩ := Nat.dvd_of_mod_eq_zero hz
    have : y < 3 := by
      by_cases g : y < 3
      · exact g
      · have := Nat.mul_le_mul_left n (show 3 ≤ y by omega)
        rw [Nat.mul_comm n 3] at this
        omega
    have hy : y = 0 ∨ y = 1 ∨ y = 2 := by omega
    rcases hy with rfl | rfl | rfl
    · left; omega
    · right; left; omega
    · right; right; omega
  rcases key _ (by omega) h with e | e | e <;> rcases key _ (by omega) h2 with e' | e' | e' <;> omega
theorem bwd_ptw {f : Int} {a b : List Int} (ha : VecP f a) (hb : VecP f b) (hl : a.length = b.length) : bwd f (ptw (md f) (fwd f a) (fwd f b)) = cyc (md f) a b := by
  obtain ⟨hp, ⟨h0, h1⟩, hE⟩ := ha
  have hq := md_pos hp
  obtain ⟨m, hlg, hv, hm9⟩ := lg_spec h0
  have hm : (m : Int) ≤ tw f := by omega
  have hn : 0 < a.length := by rw [hv]; exact Nat.two_pow_pos m
  have w1 := ws_one hp m hm
  have la : (fwd f a).length = a.length := fl_length _ _
  have lb : (fwd f b).length = a.length := by rw [hl]; exact fl_length _ _
  have lp : (ptw (md f) (fwd f a) (fwd f b)).length = a.length := by unfold ptw; rw [fl_length, la]
  unfold bwd cyc
  rw [lp]
  refine fl_congr (fun t ht => ?_)
  have hs : ac a.length t < a.length := ac_lt hn t
  rw [L_fwd (m := m) (by rw [lp]; exact hlg) (by rw [lp]; exact hv) _ (by rw [lp]; exact hs), lp]
  -- the transform of the product at a place, times the length's inverse
  have e1 : sumN a.length (fun i => L (ptw (md f) (fwd f a) (fwd f b)) i * ws f m ^ (ac a.length t * i % a.length)) % md f
      = ((a.length : Int) * sumN a.length (fun j => L a j * L b ((t + a.length - j) % a.length))) % md f := by
    have s1 : sumN a.length (fun i => L (ptw (md f) (fwd f a) (fwd f b)) i * ws f m ^ (ac a.length t * i % a.length)) % md f
        = sumN a.length (fun i => sumN a.length (fun j => sumN a.length (fun k => L a j * L b k * ws f m ^ ((j + k + ac a.length t) * i)))) % md f := by
      refine sumN_emod _ (fun i hi => ?_)
      unfold ptw
      rw [L_fl _ _ _ (by rw [la]; exact hi), mulm, L_fwd hlg hv i hi, L_fwd (m := m) (by rw [← hl]; exact hlg) (by rw [← hl]; exact hv) i (by omega), ← hl]
      have p1 : ∀ e : Nat, ws f m ^ (e % a.length) % md f = ws f m ^ e % md f := fun e => pow_mod w1 _ _ (by rw [← hv, Nat.mod_mod])
      have A1 : sumN a.length (fun j => L a j * ws f m ^ (i * j % a.length)) % md f = sumN a.length (fun j => L a j * ws f m ^ (i * j)) % md f := sumN_emod _ (fun j _ => by rw [← mulr, p1, mulr])
      have B1 : sumN a.length (fun j => L b j * ws f m ^ (i * j % a.length)) % md f = sumN a.length (fun j => L b j * ws f m ^ (i * j)) % md f := sumN_emod _ (fun j _ => by rw [← mulr, p1, mulr])
      rw [A1, B1, ← mulr, p1, mulr, mulm_three]
      congr 1
      rw [mul_sumN, mul_sumN]
      refine sumN_congr (fun j _ => ?_)
      rw [Int.mul_assoc, Int.mul_comm, mul_sumN, mul_sumN]
      refine sumN_congr (fun k _ => ?_)
      have : ws f m ^ ((j + k + ac a.length t) * i) = ws f m ^ (i * j) * ws f m ^ (i * k) * ws f m ^ (ac a.length t * i) := by
        rw [← Int.pow_add, ← Int.pow_add]
        congr 1
        rw [Nat.add_mul, Nat.add_mul, Nat.mul_comm j i, Nat.mul_comm k i]
      rw [this]
      generalize ws f m ^ (i * j) = X
      generalize ws f m ^ (i * k) = Y
      generalize ws f m ^ (ac a.length t * i) = Z
      generalize L a j = P
      generalize L b k = Q
      ac_rfl
    rw [s1]
    have s2 : sumN a.length (fun i => sumN a.length (fun j => sumN a.length (fun k => L a j * L b k * ws f m ^ ((j + k + ac a.length t) * i))))
        = sumN a.length (fun j => sumN a.length (fun k => L a j * L b k * sumN a.length (fun i => ws f m ^ ((j + k + ac a.length t) * i)))) := by
      rw [sumN_swap]
      refine sumN_congr (fun j _ => ?_)
      rw [sumN_swap]
      refine sumN_congr (fun k _ => ?_)
      rw [← sumN_mul]
    rw [s2, ← sumN_mul]
    refine sumN_emod _ (fun j hj => ?_)
    -- of the inner sum just one term is left
    have k0 : (t + a.length - j) % a.length < a.length := Nat.mod_lt _ hn
    rw [sumN_emod_single (k := (t + a.length - j) % a.length) (md f) k0 (fun k hk hne => by
      rw [← mulr, hv, root_sum hp m hm, if_neg, Int.zero_emod, Int.mul_zero, Int.zero_emod]
      rw [← hv]
      intro hz
      exact hne (cyc_place hn hj ht hk hz))]
    rw [← mulr, hv, root_sum hp m hm, if_pos, ← hv, mulr, Int.mul_comm]
    rw [← hv]
    exact cyc_place2 hn hj ht
  rw [e1, mulm, Int.mul_comm (a.length : Int), Int.mul_assoc, ← mulr, mul_inv hp (by rw [hv]; exact len_ne hp m), Int.mul_one]
end Go.Vm.Pu
namespace Go.Vm.Pu
open Go Go.RowKit Go.Vm
set_option linter.unusedVariables false
set_option linter.unusedSimpArgs false
theorem inv_mod (f a : Int) : inv f (a % md f) = inv f a := by
  unfold inv
  rw [emr]
theorem fwd_len (f : Int) (v : List Int) : (fwd f v).length = v.length := fl_length _ _
theorem fwd_el {f : Int} (hp : md f ≠ 0) (v : List Int) : El (md f) (fwd f v) := by
  have hq := md_pos hp
  exact fl_el (fun i _ => emod_range _ (by omega))
theorem ac_int {n i : Nat} (h : i < n) (hn : n ≤ 1000) : Int.tmod (wrap64 ((n : Int) - (i : Int))) (n : Int) = ((ac n i : Nat) : Int) := by
  rw [wrap_id (by omega) (by omega), show (n : Int) - (i : Int) = ((n - i : Nat) : Int) by omega, Int.tmod_eq_emod_of_nonneg (by omega)]
  rfl
theorem ac_inj {n i j : Nat} (hi : i < n) (hj : j < n) (h : ac n i = ac n j) : i = j := by
  rw [← ac_ac hi, h, ac_ac hj]
theorem iback_loop {f : Int} (hp : md f ≠ 0) (F : List Int) (n : Nat) (hn : 0 < n) (hn2 : n ≤ 512) (hF : F.length = n) (hE : El (md f) F) (by_ : Int) (hb : 0 ≤ by_ ∧ by_ < md f) :
    ∀ (d i : Nat) (o : List Int), i + d = n → o.length = n → (∀ j, j < i → L o (ac n j) = L F j * by_ % md f) →
      Ev2 (fun K u => impl_field__backward.l0 K u (n : Int) by_ (n : Int) (i : Int) (md f) (gn f) (tw f) o F) (fl n (fun i => L F (ac n i) * by_ % md f)) := by
  have hq := md_pos hp
  intro d
  induction d with
  | zero =>
    intro i o hi ho h
    have e : o = fl n (fun i => L F (ac n i) * by_ % md f) := by
      refine list_ext (by rw [fl_length, ho]) (fun x hx => ?_)
      rw [L_fl _ _ _ (by omega)]
      have := h (ac n x) (by have := ac_lt hn x; omega)
      rw [ac_ac (by omega)] at this
      exact this
    rw [← e]
    refine Ev2.step (fun K u hK => ?_) (Ev2.now _)
    rw [impl_field__backward.l0_eq, if_neg (by omega)]
  | succ d ih =>
    intro i o hi ho h
    have ha := ac_lt hn i
    refine Ev2.step (fun K u hK => ?_) (ih (i + 1) (o.set (ac n i) (L F i * by_ % md f)) (by omega) (by simpa using ho) (fun j hj => ?_))
    · rw [impl_field__backward.l0_eq, if_pos (by omega), if_pos (by omega), if_pos (by omega), if_pos (by omega), rd_L, fmulV (md f) (gn f) (tw f) _ _ (by omega) hq.2 (L_el (by omega) hE i) hb K (by omega), bs, ac_int (show i < n by omega) (by omega), if_pos (by omega), if_pos (by omega), wrap_next (show i < n by omega) (by omega), Int.toNat_natCast]
    · rw [L_set _ _ _ _ (by omega)]
      by_cases c : j = i
      · rw [c, if_pos rfl]
      · rw [if_neg (fun e => c (ac_inj (by omega) (by omega) e)), h j (by omega)]
theorem ibackEv {f : Int} {v : List Int} (h : VecP f v) : Ev (fun k => impl_field__backward.f k (md f) (gn f) (tw f) v) (bwd f v) := by
  have hV := h
  have hvl := vec_len h
  obtain ⟨hp, ⟨h0, h1⟩, hE⟩ := h
  have hq := md_pos hp
  have hm := emod_range (v.length : Int) (show 0 < md f by omega)
  have e1 := iforwardEv hV
  have lo := iback_loop hp (fwd f v) v.length (by omega) hvl.2 (fwd_len f v) (fwd_el hp v) (inv f (v.length : Int)) (inv_range f _ hp) v.length 0 (List.replicate v.length 0) (by omega) (by simp) (fun j hj => by omega)
  refine Ev.step (fun k hk => ?_) (Ev.bind (f := fun k => impl_field__forward.f k (md f) (gn f) (tw f) v) (g := fun x k => impl_field__backward.l0 k k (v.length : Int) (inv f (v.length : Int)) (x.length : Int) 0 (md f) (gn f) (tw f) (List.replicate v.length 0) x) e1 ?_)
  · rw [impl_field__backward.f_eq, if_pos (by omega), tmod_nonneg' _ (by omega), finvV f _ (gn f) (tw f) hp hm k (by omega), bs, inv_mod, if_pos (by omega), if_pos (by omega), if_pos (by omega), Int.toNat_natCast]
  · show Ev (fun k => impl_field__backward.l0 k k (v.length : Int) (inv f (v.length : Int)) ((fwd f v).length : Int) 0 (md f) (gn f) (tw f) (List.replicate v.length 0) (fwd f v)) (bwd f v)
    rw [fwd_len]
    exact Ev.enter lo
theorem iBackwardEv (f : Int) (v : List Int) (hn : v.length ≤ 1000000) : Ev (fun k => impl_Backward.f k f v) (if VecP f v then bwd f v else []) := by
  by_cases h : VecP f v
  · rw [if_pos h]
    refine Ev.step (fun k hk => ?_) (Ev.ret (ibackEv h))
    rw [impl_Backward.f_eq, ivfOne f v (by omega) k (by omega), if_pos h]
    simp only [bs, Bool.not_true, Bool.false_eq_true, if_false]
  · rw [if_neg h]
    refine Ev.step (fun k hk => ?_) (Ev.now _)
    rw [impl_Backward.f_eq, ivfOne f v (by omega) k (by omega), if_neg h]
    simp only [bs, Bool.not_false, if_true]
theorem sBackwardEv (f : Int) (v : List Int) (hn : v.length ≤ 1000000) : Ev (fun k => spec_Backward.f k f v) (if VecP f v then bwd f v else []) := by
  by_cases h : VecP f v
  · rw [if_pos h]
    have hV := h
    have hvl := vec_len h
    obtain ⟨hp, ⟨h0, h1⟩, hE⟩ := h
    have hq := md_pos hp
    obtain ⟨m, hlg, hv, hm9⟩ := lg_spec h0
    have e := ssumEv hp (inv f (ws f m)) (inv_range f _ hp) v hE hvl.2 hvl.1
    have ld : (dft (md f) (inv f (ws f m)) v).length = v.length := fl_length _ _
    have key : ∀ d i : Nat, i + d = v.length → Ev2 (fun K u => spec_Backward.l0 K u f (inv f (v.length : Int)) (i : Int) (fl i (fun i => L (fwd f v) (ac v.length i) * inv f (v.length : Int) % md f)) (dft (md f) (inv f (ws f m)) v)) (bwd f v) := by
      intro d
      induction d with
      | zero =>
        intro i hi
        obtain rfl : i = v.length := by omega
        refine Ev2.step (fun K u hK => ?_) (Ev2.now _)
        rw [spec_Backward.l0_eq, if_neg (by omega)]
        rfl
      | succ d ih =>
        intro i hi
        refine Ev2.step (fun K u hK => ?_) (ih (i + 1) (by omega))
        rw [spec_Backward.l0_eq, if_pos (by omega), if_pos (by omega), if_pos (by omega), rd_L, dft_inv hV m hlg hv i (by omega), mulV f _ _ hp K (by omega), bs, fl_length, if_pos (by omega), fl_snoc i (fun i => L (fwd f v) (ac v.length i) * inv f (v.length : Int) % md f), wrap_next (show i < v.length by omega) (by omega)]
    refine Ev.step (fun k hk => ?_) (Ev.bind (f := fun k => spec_l04Sum.f k f v (inv f (ws f m))) (g := fun x k => spec_Backward.l0 k k f (inv f (v.length : Int)) 0 [] x) e (Ev.enter (key v.length 0 (by omega))))
    rw [spec_Backward.f_eq, svecV f v (by omega) k (by omega), decide_eq_true hV, bs, if_neg (by decide), slogV v.length (by omega) k (by omega), hlg, bs, srootV hp m (by omega) k (by omega), bs, invV f _ hp (ws_ne hp m (by omega)) k (by omega), bs]
    congr 1
    funext x
    rw [invV f _ hp (by rw [hv]; exact len_ne hp m) k (by omega), bs]
  · rw [if_neg h]
    refine Ev.step (fun k hk => ?_) (Ev.now _)
    rw [spec_Backward.f_eq, svecV f v (by omega) k (by omega), decide_eq_false h, bs, if_pos (by decide)]
theorem ptwEv (p g t : Int) (hp : 0 < p) (hp2 : p ≤ 1004535809) (a b : List Int) (hEa : El p a) (hEb : El p b) (hl : a.length = b.length) (ha : a.length ≤ 1000000) : Ev (fun k => impl_field__pointwise.f k p g t a b) (ptw p a b) := by
  have key : ∀ d i : Nat, i + d = a.length → Ev2 (fun K u => impl_field__pointwise.l0 K u b a (a.length : Int) (i : Int) p g t (fl i (fun i => L a i * L b i % p))) (ptw p a b) := by
    intro d
    induction d with
    | zero =>
      intro i hi
      obtain rfl : i = a.length := by omega
      refine Ev2.step (fun K u hK => ?_) (Ev2.now _)
      rw [impl_field__pointwise.l0_eq, if_neg (by omega)]
      rfl
    | succ d ih =>
      intro i hi
      refine Ev2.step (fun K u hK => ?_) (ih (i + 1) (by omega))
      rw [impl_field__pointwise.l0_eq, if_pos (by omega), if_pos (by omega), if_pos (by omega), if_pos (by omega), if_pos (by omega), rd_L, rd_L, fmulV p g t _ _ hp hp2 (L_el hp hEa i) (L_el hp hEb i) K (by omega), bs, fl_length, if_pos (by omega), fl_snoc i (fun i => L a i * L b i % p), wrap_next (show i < a.length by omega) (by omega)]
  refine Ev.step (fun k hk => ?_) (Ev.enter (key a.length 0 (by omega)))
  rw [impl_field__pointwise.f_eq]
  rfl
theorem sub_p (S M p : Int) : (S + (p - M % p)) % p = (S + -M) % p := by
  rw [show S + (p - M % p) = S - M % p + p by omega, Int.add_emod_right, Int.sub_emod_emod, Int.sub_eq_add_neg]
def Vec2 (f : Int) (a b : List Int) : Prop := VecP f a ∧ VecP f b ∧ a.length = b.length
instance (f : Int) (a b : List Int) : Decidable (Vec2 f a b) := by unfold Vec2; exact inferInstance
theorem iCyclicEv (f : Int) (a b : List Int) (ha : a.length ≤ 1000000) (hb : b.length ≤ 1000000) : Ev (fun k => impl_Cyclic.f k f a b) (if Vec2 f a b then cyc (md f) a b else []) := by
  by_cases h : Vec2 f a b
  · rw [if_pos h]
    obtain ⟨va, vb, hl⟩ := h
    have hp := va.1
    have hq := md_pos hp
    have la := fwd_len f a
    have lb := fwd_len f b
    have hvl := vec_len va
    have e1 := iforwardEv va
    have e2 := iforwardEv vb
    have e3 := ptwEv (md f) (gn f) (tw f) (by omega) hq.2 (fwd f a) (fwd f b) (fwd_el hp a) (fwd_el hp b) (by omega) (by omega)
    have lp : (ptw (md f) (fwd f a) (fwd f b)).length = a.length := by unfold ptw; rw [fl_length, la]
    have vp : VecP f (ptw (md f) (fwd f a) (fwd f b)) := ⟨hp, by rw [lp]; exact va.2.1, fl_el (fun i _ => emod_range _ (by omega))⟩
    have e4 := ibackEv vp
    rw [bwd_ptw va vb hl] at e4
    refine Ev.step (fun k hk => ?_) (Ev.bind (f := fun k => impl_field__forward.f k (md f) (gn f) (tw f) a) (g := fun x k => (impl_field__forward.f k (md f) (gn f) (tw f) b).bind (fun y => (impl_field__pointwise.f k (md f) (gn f) (tw f) x y).bind (fun z => (impl_field__backward.f k (md f) (gn f) (tw f) z).bind (fun w => some w)))) e1
      (Ev.bind (f := fun k => impl_field__forward.f k (md f) (gn f) (tw f) b) (g := fun y k => (impl_field__pointwise.f k (md f) (gn f) (tw f) (fwd f a) y).bind (fun z => (impl_field__backward.f k (md f) (gn f) (tw f) z).bind (fun w => some w))) e2
        (Ev.bind (f := fun k => impl_field__pointwise.f k (md f) (gn f) (tw f) (fwd f a) (fwd f b)) (g := fun z k => (impl_field__backward.f k (md f) (gn f) (tw f) z).bind (fun w => some w)) e3 (Ev.ret e4))))
    rw [impl_Cyclic.f_eq, ivfTwo f a b (by omega) (by omega) k (by omega), if_pos ⟨va, vb, hl⟩]
    simp only [bs, Bool.not_true, Bool.false_eq_true, if_false]
  · rw [if_neg h]
    refine Ev.step (fun k hk => ?_) (Ev.now _)
    rw [impl_Cyclic.f_eq, ivfTwo f a b (by omega) (by omega) k (by omega), if_neg (show ¬ (VecP f a ∧ VecP f b ∧ a.length = b.length) from h)]
    simp only [bs, Bool.not_false, if_true]
theorem twoV (f : Int) (a b : List Int) (ha : a.length ≤ 1000000) (hb : b.length ≤ 1000000) (k : Nat) (hk : 700 ≤ k) : spec_l04Two.f k f a b = some (decide (Vec2 f a b)) := by
  obtain ⟨k, rfl⟩ : ∃ m, k = m + 1 := ⟨k - 1, by omega⟩
  rw [spec_l04Two.f_eq]
  by_cases c : (a.length : Int) = (b.length : Int)
  · rw [if_pos c, svecV f a (by omega) k (by omega), bs]
    by_cases va : VecP f a
    · rw [decide_eq_true va, if_pos rfl, svecV f b (by omega) k (by omega), bs]
      congr 1
      exact decide_eq_decide.mpr ⟨fun h => ⟨va, h, by omega⟩, fun h => h.2.1⟩
    · rw [decide_eq_false va, if_neg (by decide), decide_eq_false (fun h => va h.1)]
  · rw [if_neg c, decide_eq_false (fun h => c (by have := h.2.2; omega))]
/-- The place of a difference. -/
theorem df_int {n i j : Nat} (hi : i < n) (hj : j < n) (hn : n ≤ 1000) : Int.tmod (wrap64 (wrap64 ((i : Int) - (j : Int)) + (n : Int))) (n : Int) = (((i + n - j) % n : Nat) : Int) := by
  rw [wrap_id (x := (i : Int) - (j : Int)) (by omega) (by omega), wrap_id (by omega) (by omega), show (i : Int) - (j : Int) + (n : Int) = ((i + n - j : Nat) : Int) by omega, Int.tmod_eq_emod_of_nonneg (by omega)]
  rfl
theorem scyc_in (p : Int) (hp : 17 ≤ p) (hp2 : p ≤ 1004535809) (a b : List Int) (hEa : El p a) (hEb : El p b) (n : Nat) (hn : n ≤ 512) (ha : a.length = n) (hb : b.length = n) (i : Nat) (hi : i < n) (out : List Int) (ho : out.length ≤ 512) (R : List Int)
    (cont : Ev2 (fun K u => spec_Cyclic.l0 K u a b p (n : Int) ((i + 1 : Nat) : Int) (out ++ [sumN n (fun j => L a j * L b ((i + n - j) % n)) % p])) R) :
    ∀ d j : Nat, j + d = n → Ev3 (fun K u v => spec_Cyclic.l1 K u v a b p (n : Int) (i : Int) (sumN j (fun j => L a j * L b ((i + n - j) % n)) % p) (j : Int) out) R := by
  intro d
  induction d with
  | zero =>
    intro j hj
    obtain rfl : j = n := by omega
    refine Ev3.step (fun K u v hK => ?_) (Ev3.leave cont)
    rw [spec_Cyclic.l1_eq, if_neg (by omega), if_pos (by omega), wrap_next hi (by omega)]
  | succ d ih =>
    intro j hj
    refine Ev3.step (fun K u v hK => ?_) (ih (j + 1) (by omega))
    have hlt : (i + n - j) % n < n := Nat.mod_lt _ (by omega)
    have x1 := L_el (show 0 < p by omega) hEa j
    have x2 := L_el (show 0 < p by omega) hEb ((i + n - j) % n)
    have m1 := prod_range hp2 x1 x2
    have a1 := emod_range (sumN j (fun j => L a j * L b ((i + n - j) % n))) (show 0 < p by omega)
    rw [spec_Cyclic.l1_eq, if_pos (by omega), if_pos (by omega), if_pos (by omega), if_pos (by omega), df_int hi (by omega) (by omega), if_pos (by omega), if_pos (by omega), if_pos (by omega), rd_L, rd_L, wrap_next (show j < n by omega) (by omega), wrap_id (x := L a j * L b ((i + n - j) % n)) (by omega) (by omega), wrap_id (by omega) (by omega), tmod_nonneg' _ (by omega), Int.emod_add_emod]
    rfl
theorem scyc_out (p : Int) (hp : 17 ≤ p) (hp2 : p ≤ 1004535809) (a b : List Int) (hEa : El p a) (hEb : El p b) (n : Nat) (hn : n ≤ 512) (ha : a.length = n) (hb : b.length = n) : ∀ d i : Nat, i + d = n →
    Ev2 (fun K u => spec_Cyclic.l0 K u a b p (n : Int) (i : Int) (fl i (fun i => sumN n (fun j => L a j * L b ((i + n - j) % n)) % p))) (fl n (fun i => sumN n (fun j => L a j * L b ((i + n - j) % n)) % p)) := by
  intro d
  induction d with
  | zero =>
    intro i hi
    obtain rfl : i = n := by omega
    refine Ev2.step (fun K u hK => ?_) (Ev2.now _)
    rw [spec_Cyclic.l0_eq, if_neg (by omega)]
  | succ d ih =>
    intro i hi
    have h2 := ih (i + 1) (by omega)
    rw [← fl_snoc i (fun i => sumN n (fun j => L a j * L b ((i + n - j) % n)) % p)] at h2
    have := scyc_in p hp hp2 a b hEa hEb n hn ha hb i (by omega) (fl i (fun i => sumN n (fun j => L a j * L b ((i + n - j) % n)) % p)) (by rw [fl_length]; omega) _ h2 n 0 (by omega)
    rw [show sumN 0 (fun j => L a j * L b ((i + n - j) % n)) = 0 from rfl, Int.zero_emod] at this
    refine Ev2.step (fun K u hK => ?_) (Ev2.enter this)
    rw [spec_Cyclic.l0_eq, if_pos (by omega)]
    rfl
theorem sCyclicEv (f : Int) (a b : List Int) (ha : a.length ≤ 1000000) (hb : b.length ≤ 1000000) : Ev (fun k => spec_Cyclic.f k f a b) (if Vec2 f a b then cyc (md f) a b else []) := by
  by_cases h : Vec2 f a b
  · rw [if_pos h]
    have hV := h
    obtain ⟨va, vb, hl⟩ := h
    have hp := va.1
    have hq := md_pos hp
    have hvl := vec_len va
    have key := scyc_out (md f) hq.1 hq.2 a b va.2.2 vb.2.2 a.length hvl.2 rfl hl.symm a.length 0 (by omega)
    refine Ev.step (fun k hk => ?_) (Ev.enter key)
    rw [spec_Cyclic.f_eq, twoV f a b ha hb k (by omega), decide_eq_true hV, bs, if_neg (by decide), modV f k (by omega), bs]
    rfl
  · rw [if_neg h]
    refine Ev.step (fun k hk => ?_) (Ev.now _)
    rw [spec_Cyclic.f_eq, twoV f a b ha hb k (by omega), decide_eq_false h, bs, if_pos (by decide)]
/- Twisted products. -/
/-- A summand: what a place of the first list gives to a place of the product. -/
def tm (a b : List Int) (n m i : Nat) : Int := if i ≤ m then L a i * L b (m - i) else -(L a i * L b (m + n - i))
def twi (p : Int) (a b : List Int) : List Int := fl a.length (fun m => sumN a.length (tm a b a.length m) % p)
theorem stw_in (p : Int) (hp : 17 ≤ p) (hp2 : p ≤ 1004535809) (a b : List Int) (hEa : El p a) (hEb : El p b) (n : Nat) (hn : n ≤ 512) (ha : a.length = n) (hb : b.length = n) (i : Nat) (hi : i < n) (out : List Int) (ho : out.length ≤ 512) (R : List Int)
    (cont : Ev2 (fun K u => spec_Twisted.l0 K u a b p (n : Int) ((i + 1 : Nat) : Int) (out ++ [sumN n (tm a b n i) % p])) R) :
    ∀ d j : Nat, j + d = n → Ev3 (fun K u v => spec_Twisted.l1 K u v a b p (n : Int) (i : Int) (sumN j (tm a b n i) % p) (j : Int) out) R := by
  intro d
  induction d with
  | zero =>
    intro j hj
    obtain rfl : j = n := by omega
    refine Ev3.step (fun K u v hK => ?_) (Ev3.leave cont)
    rw [spec_Twisted.l1_eq, if_neg (by omega), if_pos (by omega), wrap_next hi (by omega)]
  | succ d ih =>
    intro j hj
    refine Ev3.step (fun K u v hK => ?_) (ih (j + 1) (by omega))
    have hlt : (i + n - j) % n < n := Nat.mod_lt _ (by omega)
    have x1 := L_el (show 0 < p by omega) hEa j
    have x2 := L_el (show 0 < p by omega) hEb ((i + n - j) % n)
    have m1 := prod_range hp2 x1 x2
    have a1 := emod_range (sumN j (tm a b n i)) (show 0 < p by omega)
    have a2 := emod_range (L a j * L b ((i + n - j) % n)) (show 0 < p by omega)
    rw [spec_Twisted.l1_eq, if_pos (by omega), if_pos (by omega), if_pos (by omega), if_pos (by omega), df_int hi (by omega) (by omega), if_pos (by omega), if_pos (by omega), if_pos (by omega), rd_L, rd_L, wrap_next (show j < n by omega) (by omega), wrap_id (x := L a j * L b ((i + n - j) % n)) (by omega) (by omega), tmod_nonneg' p m1.1]
    have es : sumN (j + 1) (tm a b n i) = sumN j (tm a b n i) + tm a b n i j := rfl
    by_cases c : (j : Int) > (i : Int)
    · have e2 : (i + n - j) % n = i + n - j := Nat.mod_eq_of_lt (by omega)
      rw [if_pos c, if_pos (by omega), wrap_id (x := p - L a j * L b ((i + n - j) % n) % p) (by omega) (by omega), wrap_id (x := sumN j (tm a b n i) % p + (p - L a j * L b ((i + n - j) % n) % p)) (by omega) (by omega), tmod_nonneg' p (by omega)]
      have e3 : (sumN j (tm a b n i) % p + (p - L a j * L b ((i + n - j) % n) % p)) % p = sumN (j + 1) (tm a b n i) % p := by
        rw [es]
        unfold tm
        rw [if_neg (by omega), e2, Int.emod_add_emod, sub_p]
      rw [e3]
    · have e2 : (i + n - j) % n = i - j := by
        rw [show i + n - j = i - j + n by omega, Nat.add_mod_right, Nat.mod_eq_of_lt (by omega)]
      rw [if_neg c, if_pos (by omega), wrap_id (x := sumN j (tm a b n i) % p + L a j * L b ((i + n - j) % n) % p) (by omega) (by omega), tmod_nonneg' p (by omega)]
      have e3 : (sumN j (tm a b n i) % p + L a j * L b ((i + n - j) % n) % p) % p = sumN (j + 1) (tm a b n i) % p := by
        rw [es, ← Int.add_emod]
        congr 2
        unfold tm
        rw [if_pos (by omega), e2]
      rw [e3]
theorem stw_out (p : Int) (hp : 17 ≤ p) (hp2 : p ≤ 1004535809) (a b : List Int) (hEa : El p a) (hEb : El p b) (n : Nat) (hn : n ≤ 512) (ha : a.length = n) (hb : b.length = n) : ∀ d i : Nat, i + d = n →
    Ev2 (fun K u => spec_Twisted.l0 K u a b p (n : Int) (i : Int) (fl i (fun m => sumN n (tm a b n m) % p))) (fl n (fun m => sumN n (tm a b n m) % p)) := by
  intro d
  induction d with
  | zero =>
    intro i hi
    obtain rfl : i = n := by omega
    refine Ev2.step (fun K u hK => ?_) (Ev2.now _)
    rw [spec_Twisted.l0_eq, if_neg (by omega)]
  | succ d ih =>
    intro i hi
    have h2 := ih (i + 1) (by omega)
    rw [← fl_snoc i (fun m => sumN n (tm a b n m) % p)] at h2
    have := stw_in p hp hp2 a b hEa hEb n hn ha hb i (by omega) (fl i (fun m => sumN n (tm a b n m) % p)) (by rw [fl_length]; omega) _ h2 n 0 (by omega)
    rw [show sumN 0 (tm a b n i) = 0 from rfl, Int.zero_emod] at this
    refine Ev2.step (fun K u hK => ?_) (Ev2.enter this)
    rw [spec_Twisted.l0_eq, if_pos (by omega)]
    rfl
theorem sTwistedEv (f : Int) (a b : List Int) (ha : a.length ≤ 1000000) (hb : b.length ≤ 1000000) : Ev (fun k => spec_Twisted.f k f a b) (if Vec2 f a b then twi (md f) a b else []) := by
  by_cases h : Vec2 f a b
  · rw [if_pos h]
    have hV := h
    obtain ⟨va, vb, hl⟩ := h
    have hp := va.1
    have hq := md_pos hp
    have hvl := vec_len va
    have key := stw_out (md f) hq.1 hq.2 a b va.2.2 vb.2.2 a.length hvl.2 rfl hl.symm a.length 0 (by omega)
    refine Ev.step (fun k hk => ?_) (Ev.enter key)
    rw [spec_Twisted.f_eq, twoV f a b ha hb k (by omega), decide_eq_true hV, bs, if_neg (by decide), modV f k (by omega), bs]
    rfl
  · rw [if_neg h]
    refine Ev.step (fun k hk => ?_) (Ev.now _)
    rw [spec_Twisted.f_eq, twoV f a b ha hb k (by omega), decide_eq_false h, bs, if_pos (by decide)]
/-- The program's twisted product, by rounds: rows before the i-th, of it the first j columns. -/
def iw (p : Int) (a b : List Int) (n i j m : Nat) : Int := (sumN i (tm a b n m) + if (i ≤ m ∧ m < i + j) ∨ m + n < i + j then tm a b n m i else 0) % p
theorem itw_in (f : Int) (hp : md f ≠ 0) (a b : List Int) (hEa : El (md f) a) (hEb : El (md f) b) (n : Nat) (hn : n ≤ 512) (ha : a.length = n) (hb : b.length = n) (i : Nat) (hi : i < n) (R : List Int)
    (cont : Ev2 (fun K u => impl_field__twisted.l0 K u b (n : Int) a (n : Int) ((i + 1 : Nat) : Int) (md f) (gn f) (tw f) (fl n (iw (md f) a b n (i + 1) 0))) R) :
    ∀ d j : Nat, j + d = n → Ev3 (fun K u v => impl_field__twisted.l1 K u v b (n : Int) (i : Int) (L a i) a (n : Int) (i : Int) b (n : Int) (j : Int) (md f) (gn f) (tw f) (fl n (iw (md f) a b n i j))) R := by
  have hq := md_pos hp
  intro d
  induction d with
  | zero =>
    intro j hj
    obtain rfl : j = n := by omega
    have e : fl j (iw (md f) a b j i j) = fl j (iw (md f) a b j (i + 1) 0) := by
      refine fl_congr (fun m hm => ?_)
      unfold iw
      rw [if_pos (by omega), if_neg (by omega), Int.add_zero]
      rfl
    refine Ev3.step (fun K u v hK => ?_) (Ev3.leave cont)
    rw [impl_field__twisted.l1_eq, if_neg (by omega), wrap_next hi (by omega), e]
  | succ d ih =>
    intro j hj
    refine Ev3.step (fun K u v hK => ?_) (ih (j + 1) (by omega))
    have x1 := L_el (show 0 < md f by omega) hEa i
    have x2 := L_el (show 0 < md f by omega) hEb j
    have r1 := emod_range (L a i * L b j) (show 0 < md f by omega)
    have hw : wrap64 ((i : Int) + (j : Int)) = ((i + j : Nat) : Int) := by rw [wrap_id (by omega) (by omega)]; rfl
    have hri : ∀ m, 0 ≤ iw (md f) a b n i j m ∧ iw (md f) a b n i j m < md f := fun m => emod_range _ (by omega)
    rw [impl_field__twisted.l1_eq, if_pos (by omega), if_pos (by omega), if_pos (by omega), rd_L, fmulV (md f) (gn f) (tw f) _ _ (by omega) hq.2 x1 x2 K (by omega), bs, hw]
    by_cases c : ((i + j : Nat) : Int) < (n : Int)
    · rw [if_pos c, if_pos (by omega), if_pos (by rw [fl_length]; omega), rd_L, L_fl _ _ _ (by omega), faddV (md f) (gn f) (tw f) _ _ (by omega) hq.2 (hri _) r1 K (by omega), bs, if_pos (by omega), if_pos (by rw [fl_length]; omega), wrap_next (show j < n by omega) (by omega), fl_set, Int.toNat_natCast]
      have e : fl n (fun m => if m = i + j then (iw (md f) a b n i j (i + j) + L a i * L b j % md f) % md f else iw (md f) a b n i j m) = fl n (iw (md f) a b n i (j + 1)) := by
        refine fl_congr (fun m hm => ?_)
        by_cases c2 : m = i + j
        · subst c2
          rw [if_pos rfl]
          unfold iw
          rw [if_neg (by omega), if_pos (by omega), Int.add_zero, ← Int.add_emod]
          congr 2
          unfold tm
          rw [if_pos (by omega), show i + j - i = j by omega]
        · rw [if_neg c2]
          unfold iw
          by_cases c3 : (i ≤ m ∧ m < i + j) ∨ m + n < i + j
          · rw [if_pos c3, if_pos (by omega)]
          · rw [if_neg c3, if_neg (by omega)]
      rw [e]
    · have hw2 : wrap64 (((i + j : Nat) : Int) - (n : Int)) = ((i + j - n : Nat) : Int) := by rw [wrap_id (by omega) (by omega)]; omega
      rw [if_neg c, hw2, if_pos (by omega), if_pos (by rw [fl_length]; omega), rd_L, L_fl _ _ _ (by omega), fsubV (md f) (gn f) (tw f) _ _ (by omega) hq.2 (hri _) r1 K (by omega), bs, if_pos (by omega), if_pos (by rw [fl_length]; omega), wrap_next (show j < n by omega) (by omega), fl_set, Int.toNat_natCast]
      have e : fl n (fun m => if m = i + j - n then (iw (md f) a b n i j (i + j - n) - L a i * L b j % md f) % md f else iw (md f) a b n i j m) = fl n (iw (md f) a b n i (j + 1)) := by
        refine fl_congr (fun m hm => ?_)
        by_cases c2 : m = i + j - n
        · subst c2
          rw [if_pos rfl]
          unfold iw
          rw [if_neg (by omega), if_pos (by omega), Int.add_zero, ← Int.sub_emod]
          unfold tm
          rw [if_neg (by omega), show i + j - n + n - i = j by omega]
          congr 1
        · rw [if_neg c2]
          unfold iw
          by_cases c3 : (i ≤ m ∧ m < i + j) ∨ m + n < i + j
          · rw [if_pos c3, if_pos (by omega)]
          · rw [if_neg c3, if_neg (by omega)]
      rw [e]
theorem itw_out (f : Int) (hp : md f ≠ 0) (a b : List Int) (hEa : El (md f) a) (hEb : El (md f) b) (n : Nat) (hn : n ≤ 512) (ha : a.length = n) (hb : b.length = n) : ∀ d i : Nat, i + d = n →
    Ev2 (fun K u => impl_field__twisted.l0 K u b (n : Int) a (n : Int) (i : Int) (md f) (gn f) (tw f) (fl n (iw (md f) a b n i 0))) (fl n (fun m => sumN n (tm a b n m) % md f)) := by
  intro d
  induction d with
  | zero =>
    intro i hi
    obtain rfl : i = n := by omega
    have e : fl i (iw (md f) a b i i 0) = fl i (fun m => sumN i (tm a b i m) % md f) := by
      refine fl_congr (fun m hm => ?_)
      unfold iw
      rw [if_neg (by omega), Int.add_zero]
    rw [e]
    refine Ev2.step (fun K u hK => ?_) (Ev2.now _)
    rw [impl_field__twisted.l0_eq, if_neg (by omega)]
  | succ d ih =>
    intro i hi
    refine Ev2.step (fun K u hK => ?_) (Ev2.enter (itw_in f hp a b hEa hEb n hn ha hb i (by omega) _ (ih (i + 1) (by omega)) n 0 (by omega)))
    rw [impl_field__twisted.l0_eq, if_pos (by omega), if_pos (by omega), if_pos (by omega), rd_L, hb]
    rfl
theorem iTwistedEv (f : Int) (a b : List Int) (ha : a.length ≤ 1000000) (hb : b.length ≤ 1000000) : Ev (fun k => impl_Twisted.f k f a b) (if Vec2 f a b then twi (md f) a b else []) := by
  by_cases h : Vec2 f a b
  · rw [if_pos h]
    obtain ⟨va, vb, hl⟩ := h
    have hp := va.1
    have hq := md_pos hp
    have hvl := vec_len va
    have key := itw_out f hp a b va.2.2 vb.2.2 a.length hvl.2 rfl hl.symm a.length 0 (by omega)
    have e0 : List.replicate a.length (0 : Int) = fl a.length (iw (md f) a b a.length 0 0) := by
      rw [fl_zero]
      refine fl_congr (fun m hm => ?_)
      unfold iw
      rw [if_neg (by omega)]
      rfl
    have e1 : Ev (fun k => impl_field__twisted.f k (md f) (gn f) (tw f) a b) (twi (md f) a b) := by
      refine Ev.step (fun k hk => ?_) (Ev.enter key)
      rw [impl_field__twisted.f_eq, if_pos (by omega), if_pos (by omega), if_pos (by omega), Int.toNat_natCast, e0]
      rfl
    refine Ev.step (fun k hk => ?_) (Ev.ret e1)
    rw [impl_Twisted.f_eq, ivfTwo f a b (by omega) (by omega) k (by omega), if_pos ⟨va, vb, hl⟩]
    simp only [bs, Bool.not_true, Bool.false_eq_true, if_false]
  · rw [if_neg h]
    refine Ev.step (fun k hk => ?_) (Ev.now _)
    rw [impl_Twisted.f_eq, ivfTwo f a b (by omega) (by omega) k (by omega), if_neg (show ¬ (VecP f a ∧ VecP f b ∧ a.length = b.length) from h)]
    simp only [bs, Bool.not_false, if_true]
end Go.Vm.Pu
namespace Go.Vm.Pu
open Go Go.RowKit Go.Vm
set_option linter.unusedVariables false
set_option linter.unusedSimpArgs false
/-- What MulPoly answers. -/
def mpR (f : Int) (a b : List Int) : Bool × List Int := if PolyOk f a ∧ PolyOk f b ∧ (mulP (md f) a b).length ≤ 400 then (true, mulP (md f) a b) else (false, [])
theorem iMulPolyEv (f : Int) (a b : List Int) : Ev (fun k => impl_MulPoly.f k f a b) (mpR f a b) := by
  unfold mpR
  by_cases c : md f ≠ 0 ∧ AllLok (md f) [a, b]
  · have pa : PolyOk f a := ⟨c.1, c.2 a (by simp)⟩
    have pb : PolyOk f b := ⟨c.1, c.2 b (by simp)⟩
    have hm := md_pos c.1
    have la := pa.2.1
    have lb := pb.2.1
    have e1 := mulPEv (md f) (gn f) (tw f) (by omega) hm.2 a b pa.2.2.1 pb.2.2.1 (by omega) (by omega)
    refine Ev.step (fun k hk => ?_) (Ev.bind (f := fun k => impl_field__mulPoly.f k (md f) (gn f) (tw f) a b) (g := fun x k => if (x.length : Int) > 400 then some (false, []) else some (true, x)) e1 ?_)
    · rw [impl_MulPoly.f_eq, polyFieldV f [a, b] (by simp) k (by omega), if_pos c]
      simp only [bs, Bool.not_true, Bool.false_eq_true, if_false]
    · by_cases d : (mulP (md f) a b).length ≤ 400
      · rw [if_pos (show PolyOk f a ∧ PolyOk f b ∧ (mulP (md f) a b).length ≤ 400 from ⟨pa, pb, d⟩)]
        exact ⟨0, fun k _ => by rw [if_neg (by omega)]⟩
      · rw [if_neg (show ¬ (PolyOk f a ∧ PolyOk f b ∧ (mulP (md f) a b).length ≤ 400) from fun h => d h.2.2)]
        exact ⟨0, fun k _ => by rw [if_pos (by omega)]⟩
  · rw [if_neg (fun h => c ⟨h.1.1, AllLok.cons h.1.2 (AllLok.cons h.2.1.2 (AllLok.nil _))⟩)]
    refine Ev.step (fun k hk => ?_) (Ev.now _)
    rw [impl_MulPoly.f_eq, polyFieldV f [a, b] (by simp) k (by omega), if_neg c]
    simp only [bs, Bool.not_false, if_true]
theorem sMulPolyEv (f : Int) (a b : List Int) (ha : a.length ≤ 1000000) (hb : b.length ≤ 1000000) : Ev (fun k => spec_MulPoly.f k f a b) (mpR f a b) := by
  unfold mpR
  by_cases c : PolyOk f a ∧ PolyOk f b
  · obtain ⟨pa, pb⟩ := c
    have hm := md_pos pa.1
    have la := pa.2.1
    have lb := pb.2.1
    have e1 := smulEv f a b pa.1 pa.2.2.1 pb.2.2.1 (by omega) (by omega)
    have hw : wrap64 (wrap64 ((a.length : Int) + (b.length : Int)) - 1) = (a.length : Int) + (b.length : Int) - 1 := by
      rw [wrap_id (x := (a.length : Int) + (b.length : Int)) (by omega) (by omega), wrap_id (by omega) (by omega)]
    have e2 : Ev (fun k => (spec_l03Mul.f k f a b).bind (fun rr3 => some (true, rr3))) (true, mulP (md f) a b) := Ev.bind (f := fun k => spec_l03Mul.f k f a b) (g := fun x k => some (true, x)) e1 (Ev.now _)
    have e0 : ∀ k, 5000 ≤ k → spec_MulPoly.f (k + 1) f a b = (if ((a.length : Int) > 0) then (if ((b.length : Int) > 0) then (if ((a.length : Int) + (b.length : Int) - 1 > 400) then some (false, ([] : List Int)) else (spec_l03Mul.f k f a b).bind (fun rr3 => some (true, rr3))) else (spec_l03Mul.f k f a b).bind (fun rr4 => some (true, rr4))) else (spec_l03Mul.f k f a b).bind (fun rr5 => some (true, rr5))) := by
      intro k hk
      rw [spec_MulPoly.f_eq, polyV f a (by omega) k (by omega), decide_eq_true pa, bs, if_neg (by decide), polyV f b (by omega) k (by omega), decide_eq_true pb, bs, if_neg (by decide), hw]
    by_cases z : 1 ≤ a.length ∧ 1 ≤ b.length
    · have hl := mulP_len pa.1 pa.2.2.1 pb.2.2.1 pa.tr pb.tr z.1 z.2
      by_cases d : (mulP (md f) a b).length ≤ 400
      · rw [if_pos (show PolyOk f a ∧ PolyOk f b ∧ (mulP (md f) a b).length ≤ 400 from ⟨pa, pb, d⟩)]
        refine Ev.step (fun k hk => ?_) e2
        rw [e0 k hk, if_pos (by omega), if_pos (by omega), if_neg (by omega)]
      · rw [if_neg (show ¬ (PolyOk f a ∧ PolyOk f b ∧ (mulP (md f) a b).length ≤ 400) from fun h => d h.2.2)]
        refine Ev.step (fun k hk => ?_) (Ev.now _)
        rw [e0 k hk, if_pos (by omega), if_pos (by omega), if_pos (by omega)]
    · have hz : mulP (md f) a b = [] := by
        unfold mulP
        rw [if_pos (by omega)]
      rw [if_pos ⟨pa, pb, by rw [hz]; simp⟩]
      refine Ev.step (fun k hk => ?_) e2
      rw [e0 k hk]
      by_cases z1 : (a.length : Int) > 0
      · rw [if_pos z1, if_neg (by omega)]
      · rw [if_neg z1]
  · rw [if_neg (fun h => c ⟨h.1, h.2.1⟩)]
    refine ⟨1000010, fun k hk => ?_⟩
    obtain ⟨k, rfl⟩ : ∃ m, k = m + 1 := ⟨k - 1, by omega⟩
    show spec_MulPoly.f (k + 1) f a b = _
    rw [spec_MulPoly.f_eq, polyV f a (by omega) k (by omega), bs]
    by_cases pa : PolyOk f a
    · rw [decide_eq_true pa, if_neg (by decide), polyV f b (by omega) k (by omega), bs, decide_eq_false (fun pb => c ⟨pa, pb⟩), if_pos (by decide)]
    · rw [decide_eq_false pa, if_pos (by decide)]
/- Exact products. -/
def TermL (l : List Int) : Prop := ∀ x ∈ l, -1000000 ≤ x ∧ x ≤ 1000000
instance (l : List Int) : Decidable (TermL l) := List.decidableBAll _ _
def Terms (l : List Int) : Prop := l.length ≤ 200 ∧ TermL l
instance (l : List Int) : Decidable (Terms l) := by unfold Terms; exact inferInstance
theorem TermL.L {l : List Int} (h : TermL l) (i : Nat) : -1000000 ≤ L l i ∧ L l i ≤ 1000000 := by
  by_cases c : i < l.length
  · rw [L_at l i c]; exact h _ (List.getElem_mem c)
  · rw [L_out l i (by omega)]; omega
theorem term_prod {x y : Int} (hx : -1000000 ≤ x ∧ x ≤ 1000000) (hy : -1000000 ≤ y ∧ y ≤ 1000000) : -1000000000000 ≤ x * y ∧ x * y ≤ 1000000000000 := by
  have h := Nat.mul_le_mul (show x.natAbs ≤ 1000000 by omega) (show y.natAbs ≤ 1000000 by omega)
  rw [← Int.natAbs_mul] at h
  generalize x * y = z at h ⊢
  omega
theorem sumB (B : Int) (hB : 0 ≤ B) (g : Nat → Int) (h : ∀ i, -B ≤ g i ∧ g i ≤ B) : ∀ n : Nat, -((n : Int) * B) ≤ sumN n g ∧ sumN n g ≤ (n : Int) * B := by
  intro n
  induction n with
  | zero => simp [sumN]
  | succ n ih =>
    simp only [sumN]
    have := h n
    rw [Int.natCast_add, Int.add_mul, Int.natCast_one, Int.one_mul]
    omega
theorem cvx_bd {a b : List Int} (ha : TermL a) (hb : TermL b) (n m : Nat) (hn : n ≤ 100000) : -100000000000000000 ≤ sumN n (fun t => L a t * L b (m - t)) ∧ sumN n (fun t => L a t * L b (m - t)) ≤ 100000000000000000 := by
  have h := sumB 1000000000000 (by omega) (fun t => L a t * L b (m - t)) (fun t => term_prod (ha.L t) (hb.L (m - t))) n
  omega
theorem iTermsV (l : List Int) (hn : l.length ≤ 2000000) (k : Nat) (hk : l.length + 1 < k) : impl_areTerms.f k l = some (decide (Terms l)) := by
  obtain ⟨k, rfl⟩ : ∃ m, k = m + 1 := ⟨k - 1, by omega⟩
  rw [impl_areTerms.f_eq]
  have key := loop_list (fun u (_ : Unit) i => impl_areTerms.l0 k u l l (l.length : Int) i) l 0 (fun _ _ => True) (fun r _ => decide (TermL r) && decide ((l.length : Int) ≤ 200)) (by
    intro u s _ _
    simp only [impl_areTerms.l0_eq]
    rw [if_neg (by omega), decide_eq_true (show TermL [] from fun x hx => by cases hx), Bool.true_and]) (by
    intro u i s h _ _
    simp only [impl_areTerms.l0_eq]
    rw [if_pos (by omega), if_pos (by omega), if_pos (by omega), rd_at l i h]
    by_cases c : l[i] < -1000000
    · right
      rw [if_pos c, decide_eq_false (fun hh => by have := hh l[i] List.mem_cons_self; omega), Bool.false_and]
    · by_cases c1 : l[i] > 1000000
      · right
        rw [if_neg c, if_pos c1, decide_eq_false (fun hh => by have := hh l[i] List.mem_cons_self; omega), Bool.false_and]
      · left
        refine ⟨(), ?_, trivial, ?_⟩
        · rw [if_neg c, if_neg c1, wrap_next h (by omega)]
        · congr 1
          apply decide_eq_decide.mpr
          constructor
          · intro hh x hx
            exact hh x (List.mem_cons_of_mem _ hx)
          · intro hh x hx
            rcases List.mem_cons.1 hx with rfl | hx
            · omega
            · exact hh x hx) k () (by omega) trivial
  rw [key]
  congr 1
  rw [Bool.eq_iff_iff, Bool.and_eq_true, decide_eq_true_eq, decide_eq_true_eq, decide_eq_true_eq]
  exact ⟨fun h => ⟨by omega, h.1⟩, fun h => ⟨h.2, by have := h.1; omega⟩⟩
theorem sTermsV (l : List Int) (hn : l.length ≤ 2000000) (k : Nat) (hk : 300 < k) : spec_l05Terms.f k l = some (decide (Terms l)) := by
  obtain ⟨k, rfl⟩ : ∃ m, k = m + 1 := ⟨k - 1, by omega⟩
  rw [spec_l05Terms.f_eq]
  by_cases c : (l.length : Int) > 200
  · rw [if_pos c, decide_eq_false (fun h => by have := h.1; omega)]
  · rw [if_neg c]
    have key := loop_list (fun u (_ : Unit) i => spec_l05Terms.l0 k u l i) l 0 (fun _ _ => True) (fun r _ => decide (TermL r)) (by
      intro u s _ _
      simp only [spec_l05Terms.l0_eq]
      rw [if_neg (by omega), decide_eq_true (show TermL [] from fun x hx => by cases hx)]) (by
      intro u i s h _ _
      simp only [spec_l05Terms.l0_eq]
      rw [if_pos (by omega), if_pos (by omega), if_pos (by omega), rd_at l i h, inV _ _ _ k (by omega), bs]
      by_cases c : -1000000 ≤ l[i] ∧ l[i] ≤ 1000000
      · left
        refine ⟨(), ?_, trivial, ?_⟩
        · rw [decide_eq_true c, if_neg (by decide), wrap_next h (by omega)]
        · apply decide_eq_decide.mpr
          constructor
          · intro hh x hx
            exact hh x (List.mem_cons_of_mem _ hx)
          · intro hh x hx
            rcases List.mem_cons.1 hx with rfl | hx
            · exact c
            · exact hh x hx
      · right
        rw [decide_eq_false c, if_pos (by decide), decide_eq_false (fun hh => c (hh l[i] List.mem_cons_self))]) k () (by omega) trivial
    rw [key]
    congr 1
    exact decide_eq_decide.mpr ⟨fun h => ⟨by omega, h⟩, fun h => h.2⟩
/-- What ConvExact answers. -/
def cvx (a b : List Int) : List Int := fl (a.length + b.length - 1) (fun m => cv (L a) (L b) m)
def cxR (a b : List Int) : Bool × List Int := if Terms a ∧ Terms b then (true, if a.length = 0 ∨ b.length = 0 then [] else cvx a b) else (false, [])
def ix (a b : List Int) (i j m : Nat) : Int := sumN (if i ≤ m ∧ m < i + j then i + 1 else if m < i then m + 1 else i) (fun t => L a t * L b (m - t))
theorem ix_bd {a b : List Int} (ha : TermL a) (hb : TermL b) (i j m : Nat) (hi : i ≤ 1000) : -100000000000000000 ≤ ix a b i j m ∧ ix a b i j m ≤ 100000000000000000 := by
  unfold ix
  refine cvx_bd ha hb _ m ?_
  split
  · omega
  · split <;> omega
theorem icx_inner (a b : List Int) (ta : Terms a) (tb : Terms b) (i : Nat) (hi : i < a.length) (hb1 : 1 ≤ b.length) (r : Bool × List Int)
    (hr : Ev2 (fun K u => impl_ConvExact.l0 K u b a (a.length : Int) ((i + 1 : Nat) : Int) (fl (a.length + b.length - 1) (ix a b (i + 1) 0))) r) :
    ∀ d j : Nat, j + d = b.length → Ev3 (fun K u v => impl_ConvExact.l1 K u v b (i : Int) (L a i) a (a.length : Int) (i : Int) b (b.length : Int) (j : Int) (fl (a.length + b.length - 1) (ix a b i j))) r := by
  have ha := ta.1
  have hb := tb.1
  intro d
  induction d with
  | zero =>
    intro j hj
    refine Ev3.step (fun K u v hK => ?_) (Ev3.leave hr)
    rw [impl_ConvExact.l1_eq, if_neg (by omega), wrap_next hi (by omega)]
    have e : fl (a.length + b.length - 1) (ix a b i j) = fl (a.length + b.length - 1) (ix a b (i + 1) 0) := by
      apply fl_congr
      intro m hm
      unfold ix
      by_cases c : i ≤ m
      · by_cases c3 : m < i + j
        · by_cases c2 : m = i
          · subst c2
            rw [if_pos ⟨by omega, by omega⟩, if_neg (by omega), if_pos (by omega)]
          · rw [if_pos ⟨by omega, by omega⟩, if_neg (by omega), if_neg (by omega)]
        · rw [if_neg (by omega), if_neg (by omega), if_neg (by omega), if_neg (by omega)]
          simp only [sumN]
          rw [L_out b (m - i) (by omega)]
          simp
      · rw [if_neg (by omega), if_pos (by omega), if_neg (by omega), if_pos (by omega)]
    rw [e]
  | succ d ih =>
    intro j hj
    refine Ev3.step (fun K u v hK => ?_) (ih (j + 1) (by omega))
    have hw : wrap64 ((i : Int) + (j : Int)) = ((i + j : Nat) : Int) := by rw [wrap_id (by omega) (by omega)]; rfl
    have hpr := term_prod (ta.2.L i) (tb.2.L j)
    have hs := ix_bd ta.2 tb.2 i j (i + j) (by omega)
    rw [impl_ConvExact.l1_eq, if_pos (by omega), if_pos (by omega), if_pos (by omega), hw, if_pos (by omega), if_pos (by rw [fl_length]; omega), if_pos (by omega), if_pos (by rw [fl_length]; omega), rd_L, rd_L, L_fl _ _ _ (by omega)]
    rw [wrap_next (show j < b.length by omega) (by omega), wrap_id (x := L a i * L b j) (by omega) (by omega), wrap_id (x := ix a b i j (i + j) + L a i * L b j) (by omega) (by omega), fl_set]
    have e : fl (a.length + b.length - 1) (fun m => if m = ((i + j : Nat) : Int).toNat then ix a b i j (i + j) + L a i * L b j else ix a b i j m) = fl (a.length + b.length - 1) (ix a b i (j + 1)) := by
      apply fl_congr
      intro m hm
      by_cases c : m = i + j
      · subst c
        rw [if_pos (by omega)]
        unfold ix
        rw [if_neg (by omega), if_neg (by omega), if_pos ⟨by omega, by omega⟩]
        simp only [sumN]
        rw [show i + j - i = j by omega]
      · rw [if_neg (by omega)]
        unfold ix
        by_cases c2 : i ≤ m ∧ m < i + j
        · rw [if_pos c2, if_pos ⟨by omega, by omega⟩]
        · rw [if_neg c2, if_neg (show ¬ (i ≤ m ∧ m < i + (j + 1)) by omega)]
    rw [e]
theorem icx_outer (a b : List Int) (ta : Terms a) (tb : Terms b) (ha1 : 1 ≤ a.length) (hb1 : 1 ≤ b.length) :
    ∀ d i : Nat, i + d = a.length → Ev2 (fun K u => impl_ConvExact.l0 K u b a (a.length : Int) (i : Int) (fl (a.length + b.length - 1) (ix a b i 0))) (true, cvx a b) := by
  have ha := ta.1
  have hb := tb.1
  intro d
  induction d with
  | zero =>
    intro i hi
    obtain rfl : i = a.length := by omega
    have e : fl (a.length + b.length - 1) (ix a b a.length 0) = cvx a b := by
      apply fl_congr
      intro m hm
      unfold ix cv
      rw [if_neg (by omega)]
      by_cases c : m < a.length
      · rw [if_pos c]
      · rw [if_neg c]
        have := sum_cut a (fun t => L b (m - t)) (m + 1 - a.length)
        rw [show a.length + (m + 1 - a.length) = m + 1 by omega] at this
        exact this.symm
    rw [e]
    refine Ev2.step (fun K u hK => ?_) (Ev2.now _)
    rw [impl_ConvExact.l0_eq, if_neg (by omega)]
  | succ d ih =>
    intro i hi
    refine Ev2.step (fun K u hK => ?_) (Ev2.enter (icx_inner a b ta tb i (by omega) hb1 _ (ih (i + 1) (by omega)) b.length 0 (by omega)))
    rw [impl_ConvExact.l0_eq, if_pos (by omega), if_pos (by omega), if_pos (by omega), rd_L]
    rfl
theorem iConvEv (a b : List Int) (ha : a.length ≤ 1000000) (hb : b.length ≤ 1000000) : Ev (fun k => impl_ConvExact.f k a b) (cxR a b) := by
  have hn : ∀ k, 1000010 ≤ k → ¬ (Terms a ∧ Terms b) → impl_ConvExact.f (k + 1) a b = some (false, []) := by
    intro k hk h
    rw [impl_ConvExact.f_eq, iTermsV a (by omega) k (by omega), bs]
    by_cases ta : Terms a
    · rw [decide_eq_true ta, if_neg (by decide), iTermsV b (by omega) k (by omega), bs, decide_eq_false (fun tb => h ⟨ta, tb⟩), if_pos (by decide)]
    · rw [decide_eq_false ta, if_pos (by decide)]
  unfold cxR
  by_cases c : Terms a ∧ Terms b
  · obtain ⟨ta, tb⟩ := c
    have la := ta.1
    have lb := tb.1
    rw [if_pos ⟨ta, tb⟩]
    by_cases z : a.length = 0 ∨ b.length = 0
    · rw [if_pos z]
      refine Ev.step (fun k hk => ?_) (Ev.now _)
      rw [impl_ConvExact.f_eq, iTermsV a (by omega) k (by omega), decide_eq_true ta, bs, if_neg (by decide), iTermsV b (by omega) k (by omega), decide_eq_true tb, bs, if_neg (by decide)]
      by_cases z1 : a.length = 0
      · rw [if_pos (by omega)]
      · rw [if_neg (by omega), if_pos (by omega)]
    · rw [if_neg z]
      have hw : wrap64 (wrap64 ((a.length : Int) + (b.length : Int)) - 1) = ((a.length + b.length - 1 : Nat) : Int) := by
        rw [wrap_id (x := (a.length : Int) + (b.length : Int)) (by omega) (by omega), wrap_id (by omega) (by omega)]
        omega
      refine Ev.step (fun k hk => ?_) (Ev.enter (icx_outer a b ta tb (by omega) (by omega) a.length 0 (by omega)))
      rw [impl_ConvExact.f_eq, iTermsV a (by omega) k (by omega), decide_eq_true ta, bs, if_neg (by decide), iTermsV b (by omega) k (by omega), decide_eq_true tb, bs, if_neg (by decide), if_neg (by omega), if_neg (by omega), hw, if_pos (by omega), if_pos (by omega), if_pos (by omega), Int.toNat_natCast, fl_zero]
      have e : fl (a.length + b.length - 1) (fun _ => 0) = fl (a.length + b.length - 1) (ix a b 0 0) := by
        apply fl_congr
        intro m _
        unfold ix
        rw [if_neg (by omega), if_neg (by omega)]
        simp [sumN]
      rw [e]
      rfl
  · rw [if_neg c]
    refine ⟨1000011, fun k hk => ?_⟩
    obtain ⟨k, rfl⟩ : ∃ m, k = m + 1 := ⟨k - 1, by omega⟩
    exact hn k (by omega) c
theorem scx_inner (a b : List Int) (ta : Terms a) (tb : Terms b) (m : Nat) (hm : m + 1 < a.length + b.length) (r : Bool × List Int)
    (hr : Ev2 (fun K u => spec_ConvExact.l0 K u a b ((m + 1 : Nat) : Int) (fl (m + 1) (fun m => cv (L a) (L b) m))) r) :
    ∀ d j : Nat, j + d = min (m + 1) a.length → Ev3 (fun K u v => spec_ConvExact.l1 K u v a b (m : Int) (sumN j (fun t => L a t * L b (m - t))) (j : Int) (fl m (fun m => cv (L a) (L b) m))) r := by
  have ha := ta.1
  have hb := tb.1
  intro d
  induction d with
  | zero =>
    intro j hj
    refine Ev3.step (fun K u v hK => ?_) (Ev3.leave hr)
    have e : sumN j (fun t => L a t * L b (m - t)) = cv (L a) (L b) m := by
      unfold cv
      by_cases c : a.length ≤ m + 1
      · have := sum_cut a (fun t => L b (m - t)) (m + 1 - a.length)
        rw [show a.length + (m + 1 - a.length) = m + 1 by omega] at this
        rw [this, show j = a.length by omega]
      · rw [show j = m + 1 by omega]
    rw [spec_ConvExact.l1_eq, e]
    by_cases c : (j : Int) ≤ (m : Int)
    · rw [if_pos c, if_neg (by omega), fl_length, if_pos (by omega), wrap_next (show m < m + 1 by omega) (by omega), fl_snoc m (fun m => cv (L a) (L b) m)]
    · rw [if_neg c, fl_length, if_pos (by omega), wrap_next (show m < m + 1 by omega) (by omega), fl_snoc m (fun m => cv (L a) (L b) m)]
  | succ d ih =>
    intro j hj
    have hpr := term_prod (ta.2.L j) (tb.2.L (m - j))
    have hs := cvx_bd ta.2 tb.2 j m (by omega)
    have hw : wrap64 ((m : Int) - (j : Int)) = ((m - j : Nat) : Int) := by rw [wrap_id (by omega) (by omega)]; omega
    refine Ev3.step (fun K u v hK => ?_) (ih (j + 1) (by omega))
    rw [spec_ConvExact.l1_eq, if_pos (by omega), if_pos (by omega), hw]
    by_cases c : m - j < b.length
    · rw [if_pos (by omega), if_pos (by omega), if_pos (by omega), if_pos (by omega), if_pos (by omega), rd_L, rd_L, wrap_next (show j < m + 1 by omega) (by omega), wrap_id (x := L a j * L b (m - j)) (by omega) (by omega), wrap_id (x := sumN j (fun t => L a t * L b (m - t)) + L a j * L b (m - j)) (by omega) (by omega)]
      rfl
    · rw [if_neg (by omega), wrap_next (show j < m + 1 by omega) (by omega)]
      have e : sumN (j + 1) (fun t => L a t * L b (m - t)) = sumN j (fun t => L a t * L b (m - t)) := by
        simp only [sumN]
        rw [L_out b (m - j) (by omega)]
        simp
      rw [e]
theorem scx_outer (a b : List Int) (ta : Terms a) (tb : Terms b) (ha1 : 1 ≤ a.length) (hb1 : 1 ≤ b.length) :
    ∀ d m : Nat, m + d = a.length + b.length - 1 → Ev2 (fun K u => spec_ConvExact.l0 K u a b (m : Int) (fl m (fun m => cv (L a) (L b) m))) (true, cvx a b) := by
  have ha := ta.1
  have hb := tb.1
  have hw : wrap64 (wrap64 ((a.length : Int) + (b.length : Int)) - 1) = ((a.length + b.length - 1 : Nat) : Int) := by
    rw [wrap_id (x := (a.length : Int) + (b.length : Int)) (by omega) (by omega), wrap_id (by omega) (by omega)]
    omega
  intro d
  induction d with
  | zero =>
    intro m hm
    obtain rfl : m = a.length + b.length - 1 := by omega
    refine Ev2.step (fun K u hK => ?_) (Ev2.now _)
    rw [spec_ConvExact.l0_eq, hw, if_neg (by omega)]
    rfl
  | succ d ih =>
    intro m hm
    refine Ev2.step (fun K u hK => ?_) (Ev2.enter (scx_inner a b ta tb m (by omega) _ (ih (m + 1) (by omega)) (min (m + 1) a.length) 0 (by omega)))
    rw [spec_ConvExact.l0_eq, hw, if_pos (by omega)]
    rfl
theorem sConvEv (a b : List Int) (ha : a.length ≤ 1000000) (hb : b.length ≤ 1000000) : Ev (fun k => spec_ConvExact.f k a b) (cxR a b) := by
  unfold cxR
  by_cases c : Terms a ∧ Terms b
  · obtain ⟨ta, tb⟩ := c
    have la := ta.1
    have lb := tb.1
    rw [if_pos ⟨ta, tb⟩]
    by_cases z : a.length = 0 ∨ b.length = 0
    · rw [if_pos z]
      refine Ev.step (fun k hk => ?_) (Ev.now _)
      rw [spec_ConvExact.f_eq, sTermsV a (by omega) k (by omega), decide_eq_true ta, bs, if_neg (by decide), sTermsV b (by omega) k (by omega), decide_eq_true tb, bs, if_neg (by decide)]
      by_cases z1 : a.length = 0
      · rw [if_pos (by omega)]
      · rw [if_neg (by omega), if_pos (by omega)]
    · rw [if_neg z]
      refine Ev.step (fun k hk => ?_) (Ev.enter (scx_outer a b ta tb (by omega) (by omega) (a.length + b.length - 1) 0 (by omega)))
      rw [spec_ConvExact.f_eq, sTermsV a (by omega) k (by omega), decide_eq_true ta, bs, if_neg (by decide), sTermsV b (by omega) k (by omega), decide_eq_true tb, bs, if_neg (by decide), if_neg (by omega), if_neg (by omega)]
      rfl
  · rw [if_neg c]
    refine Ev.step (fun k hk => ?_) (Ev.now _)
    rw [spec_ConvExact.f_eq, sTermsV a (by omega) k (by omega), bs]
    by_cases ta : Terms a
    · rw [decide_eq_true ta, if_neg (by decide), sTermsV b (by omega) k (by omega), bs, decide_eq_false (fun tb => c ⟨ta, tb⟩), if_pos (by decide)]
    · rw [decide_eq_false ta, if_pos (by decide)]
end Go.Vm.Pu
namespace Go.Vm.Pu
open Go Go.RowKit Go.Vm
set_option linter.unusedVariables false
set_option linter.unusedSimpArgs false
/-- A series. -/
def SerP (f : Int) (a : List Int) : Prop := md f ≠ 0 ∧ 1 ≤ a.length ∧ a.length ≤ 64 ∧ El (md f) a
instance (f : Int) (a : List Int) : Decidable (SerP f a) := by unfold SerP; exact inferInstance
theorem sSerV (f : Int) (a : List Int) (hn : a.length ≤ 1000000) (k : Nat) (hk : 100 ≤ k) : spec_SeriesOk.f k f a = some (decide (SerP f a)) := by
  obtain ⟨k, rfl⟩ : ∃ m, k = m + 1 := ⟨k - 1, by omega⟩
  rw [spec_SeriesOk.f_eq, inV _ _ _ k (by omega), bs]
  by_cases c : 1 ≤ (a.length : Int) ∧ (a.length : Int) ≤ 64
  · rw [decide_eq_true c, if_pos rfl, elemsV f a (by omega) k (by omega), bs]
    congr 1
    exact decide_eq_decide.mpr ⟨fun h => ⟨h.1, by omega, by omega, h.2⟩, fun h => ⟨h.1, h.2.2.2⟩⟩
  · rw [decide_eq_false c, if_neg (by decide), decide_eq_false (fun h => c ⟨by have := h.2.1; omega, by have := h.2.2.1; omega⟩)]
theorem iSerV (f : Int) (a : List Int) (k : Nat) (hk : 100 ≤ k) : impl_seriesField.f k f [a] = some (if SerP f a then (md f, gn f, tw f, true) else (0, 0, 0, false)) := by
  obtain ⟨k, rfl⟩ : ∃ m, k = m + 3 := ⟨k - 3, by omega⟩
  rw [impl_seriesField.f_eq, fieldV f (k + 2) (by omega), bs]
  by_cases h : md f = 0
  · rw [if_pos (by simpa using h), if_neg (fun g => g.1 h)]
  · rw [if_neg (by simpa using h)]
    have r0 : rd (.row (.int .i64)) [a] 0 = a := rfl
    show impl_seriesField.l0 (k + 2) (k + 1 + 1) [a] [a] 1 0 0 0 0 (md f) (gn f) (tw f) = _
    rw [impl_seriesField.l0_eq, if_pos (by omega), if_pos (by omega), if_pos (by simp), r0]
    simp only [impl_seriesField.j0_eq]
    by_cases c1 : (a.length : Int) < 1
    · rw [if_pos c1, if_true, if_neg (fun g => by have := g.2.1; omega)]
    · rw [if_neg c1]
      by_cases c2 : (a.length : Int) > 64
      · rw [if_pos c2, if_true, if_neg (fun g => by have := g.2.2.1; omega)]
      · rw [if_neg c2, areElV _ _ _ a (by omega) (k + 2) (by omega), bs]
        by_cases c3 : El (md f) a
        · rw [decide_eq_true c3, if_neg (by decide), if_pos (by simp), if_neg (by simp), if_pos ⟨h, by omega, by omega, c3⟩]
          show impl_seriesField.l0 (k + 2) (k + 1) [a] [a] 1 1 0 0 0 (md f) (gn f) (tw f) = _
          rw [impl_seriesField.l0_eq, if_neg (by omega)]
        · rw [decide_eq_false c3, if_pos (by decide), if_true, if_neg (fun g => c3 g.2.2.2)]
/-- The inverse series, term by term. -/
def siL (p by_ : Int) (a : List Int) : Nat → List Int
  | 0 => []
  | n + 1 => siL p by_ a n ++ [((if n = 0 then 1 else 0) - sumN n (fun j => L a (j + 1) * L (siL p by_ a n) (n - 1 - j))) * by_ % p]
theorem siL_len (p by_ : Int) (a : List Int) : ∀ n, (siL p by_ a n).length = n
  | 0 => rfl
  | n + 1 => by simp [siL, siL_len p by_ a n]
theorem siL_el {p : Int} (hp : 0 < p) (by_ : Int) (a : List Int) : ∀ n, El p (siL p by_ a n)
  | 0 => El.nil p
  | n + 1 => fun x hx => by
    simp only [siL] at hx
    rcases List.mem_append.1 hx with h | h
    · exact siL_el hp by_ a n x h
    · rw [List.mem_singleton] at h
      rw [h]
      exact emod_range _ hp
/-- What SeriesInv answers. -/
def siR (f : Int) (a : List Int) : Bool × List Int := if SerP f a ∧ L a 0 ≠ 0 then (true, siL (md f) (inv f (L a 0)) a a.length) else (false, [])
theorem rd0 (a : List Int) : rdI a 0 = L a 0 := rd_L a 0
theorem isi_in (f : Int) (hp : md f ≠ 0) (a : List Int) (hE : El (md f) a) (hl : a.length ≤ 64) (by_ : Int) (hb : 0 ≤ by_ ∧ by_ < md f) (n : Nat) (hn : n < a.length) (h0 : 1 ≤ n) (R : List Int)
    (cont : Ev2 (fun K u => impl_field__seriesInv.l0 K u a by_ ((n + 1 : Nat) : Int) (md f) (gn f) (tw f) (siL (md f) by_ a (n + 1))) R) :
    ∀ d j : Nat, j + d = n → Ev3 (fun K u v => impl_field__seriesInv.l1 K u v a by_ (n : Int) (sumN j (fun j => L a (j + 1) * L (siL (md f) by_ a n) (n - 1 - j)) % md f) ((j + 1 : Nat) : Int) (md f) (gn f) (tw f) (siL (md f) by_ a n)) R := by
  have hq := md_pos hp
  intro d
  induction d with
  | zero =>
    intro j hj
    obtain rfl : j = n := by omega
    have hs := emod_range (sumN j (fun i => L a (i + 1) * L (siL (md f) by_ a j) (j - 1 - i))) (show 0 < md f by omega)
    have r2 := emod_range (0 - sumN j (fun i => L a (i + 1) * L (siL (md f) by_ a j) (j - 1 - i)) % md f) (show 0 < md f by omega)
    refine Ev3.step (fun K u v hK => ?_) (Ev3.leave cont)
    rw [impl_field__seriesInv.l1_eq, if_neg (by omega), fsubV (md f) (gn f) (tw f) 0 _ (by omega) hq.2 ⟨by omega, by omega⟩ hs K (by omega), bs, fmulV (md f) (gn f) (tw f) _ _ (by omega) hq.2 r2 hb K (by omega), bs, if_pos (by rw [siL_len]; omega), wrap_next hn (by omega)]
    simp only [siL]
    rw [if_neg (by omega), Int.sub_emod_emod, mulm]
  | succ d ih =>
    intro j hj
    have hs := emod_range (sumN j (fun i => L a (i + 1) * L (siL (md f) by_ a n) (n - 1 - i))) (show 0 < md f by omega)
    have x1 := L_el (show 0 < md f by omega) hE (j + 1)
    have x2 := L_el (show 0 < md f by omega) (siL_el (show 0 < md f by omega) by_ a n) (n - 1 - j)
    have r1 := emod_range (L a (j + 1) * L (siL (md f) by_ a n) (n - 1 - j)) (show 0 < md f by omega)
    have hw : wrap64 ((n : Int) - ((j + 1 : Nat) : Int)) = ((n - 1 - j : Nat) : Int) := by rw [wrap_id (by omega) (by omega)]; omega
    refine Ev3.step (fun K u v hK => ?_) (ih (j + 1) (by omega))
    rw [impl_field__seriesInv.l1_eq, if_pos (by omega), if_pos (by omega), if_pos (by omega), hw, if_pos (by omega), if_pos (by rw [siL_len]; omega), rd_L, rd_L, fmulV (md f) (gn f) (tw f) _ _ (by omega) hq.2 x1 x2 K (by omega), bs, faddV (md f) (gn f) (tw f) _ _ (by omega) hq.2 hs r1 K (by omega), bs, wrap_next (show j + 1 < j + 2 by omega) (by omega), ← Int.add_emod]
    rfl
theorem isi_out (f : Int) (hp : md f ≠ 0) (a : List Int) (hE : El (md f) a) (hl : a.length ≤ 64) (by_ : Int) (hb : 0 ≤ by_ ∧ by_ < md f) : ∀ d n : Nat, n + d = a.length → 1 ≤ n →
    Ev2 (fun K u => impl_field__seriesInv.l0 K u a by_ (n : Int) (md f) (gn f) (tw f) (siL (md f) by_ a n)) (siL (md f) by_ a a.length) := by
  intro d
  induction d with
  | zero =>
    intro n hn _
    obtain rfl : n = a.length := by omega
    refine Ev2.step (fun K u hK => ?_) (Ev2.now _)
    rw [impl_field__seriesInv.l0_eq, if_neg (by omega)]
  | succ d ih =>
    intro n hn h1
    have := isi_in f hp a hE hl by_ hb n (by omega) h1 _ (ih (n + 1) (by omega) (by omega)) n 0 (by omega)
    rw [show sumN 0 (fun j => L a (j + 1) * L (siL (md f) by_ a n) (n - 1 - j)) = 0 from rfl, Int.zero_emod] at this
    refine Ev2.step (fun K u hK => ?_) (Ev2.enter this)
    rw [impl_field__seriesInv.l0_eq, if_pos (by omega)]
    rfl
theorem iSeriesInvEv (f : Int) (a : List Int) : Ev (fun k => impl_SeriesInv.f k f a) (siR f a) := by
  unfold siR
  by_cases c : SerP f a
  · have hp := c.1
    have hq := md_pos hp
    have l1 := c.2.1
    have l2 := c.2.2.1
    have hE := c.2.2.2
    by_cases z : L a 0 = 0
    · rw [if_neg (fun h => h.2 z)]
      refine Ev.step (fun k hk => ?_) (Ev.now _)
      rw [impl_SeriesInv.f_eq, iSerV f a k (by omega), if_pos c]
      simp only [bs, Bool.not_true, Bool.false_eq_true, if_false]
      rw [if_pos (by omega), rd0, if_pos z]
    · rw [if_pos ⟨c, z⟩]
      have h0 := L_el (show 0 < md f by omega) hE 0
      have hb := inv_range f (L a 0) hp
      have e1 := isi_out f hp a hE l2 (inv f (L a 0)) hb (a.length - 1) 1 (by omega) (by omega)
      have e2 : siL (md f) (inv f (L a 0)) a 1 = [inv f (L a 0)] := by
        simp only [siL, sumN]
        rw [if_true, Int.sub_zero, Int.one_mul, Int.emod_eq_of_lt hb.1 hb.2]
        rfl
      rw [e2] at e1
      have e3 : Ev (fun k => impl_field__seriesInv.f k (md f) (gn f) (tw f) a) (siL (md f) (inv f (L a 0)) a a.length) := by
        refine Ev.step (fun k hk => ?_) (Ev.enter e1)
        rw [impl_field__seriesInv.f_eq, if_pos (by omega), rd0, finvV f _ (gn f) (tw f) hp h0 k (by omega), bs]
        rfl
      refine Ev.step (fun k hk => ?_) (Ev.bind (f := fun k => impl_field__seriesInv.f k (md f) (gn f) (tw f) a) (g := fun x k => some (true, x)) e3 (Ev.now _))
      rw [impl_SeriesInv.f_eq, iSerV f a k (by omega), if_pos c]
      simp only [bs, Bool.not_true, Bool.false_eq_true, if_false]
      rw [if_pos (by omega), rd0, if_neg z]
  · rw [if_neg (fun h => c h.1)]
    refine Ev.step (fun k hk => ?_) (Ev.now _)
    rw [impl_SeriesInv.f_eq, iSerV f a k (by omega), if_neg c]
    simp only [bs, Bool.not_false, if_true]
theorem ssi_in (f : Int) (hp : md f ≠ 0) (a : List Int) (hl : a.length ≤ 64) (by_ : Int) (n : Nat) (hn : n < a.length) (R : Bool × List Int)
    (cont : Ev2 (fun K u => spec_SeriesInv.l0 K u f a by_ ((n + 1 : Nat) : Int) (siL (md f) by_ a (n + 1))) R) :
    ∀ d j : Nat, j + d = n → Ev3 (fun K u v => spec_SeriesInv.l1 K u v f a by_ (n : Int) (((if n = 0 then 1 else 0) - sumN j (fun j => L a (j + 1) * L (siL (md f) by_ a n) (n - 1 - j))) % md f) ((j + 1 : Nat) : Int) (siL (md f) by_ a n)) R := by
  have hq := md_pos hp
  intro d
  induction d with
  | zero =>
    intro j hj
    obtain rfl : j = n := by omega
    refine Ev3.step (fun K u v hK => ?_) (Ev3.leave cont)
    rw [spec_SeriesInv.l1_eq, if_neg (by omega), mulV f _ _ hp K (by omega), bs, if_pos (by rw [siL_len]; omega), wrap_next hn (by omega), mulm]
    simp only [siL]
  | succ d ih =>
    intro j hj
    have hw : wrap64 ((n : Int) - ((j + 1 : Nat) : Int)) = ((n - 1 - j : Nat) : Int) := by rw [wrap_id (by omega) (by omega)]; omega
    refine Ev3.step (fun K u v hK => ?_) (ih (j + 1) (by omega))
    rw [spec_SeriesInv.l1_eq, if_pos (by omega), if_pos (by omega), if_pos (by omega), hw, if_pos (by omega), if_pos (by rw [siL_len]; omega), rd_L, rd_L, mulV f _ _ hp K (by omega), bs, subV f _ _ hp K (by omega), bs, wrap_next (show j + 1 < j + 2 by omega) (by omega), Int.sub_emod_emod, Int.emod_sub_emod]
    simp only [sumN]
    rw [Int.sub_sub]
theorem ssi_out (f : Int) (hp : md f ≠ 0) (a : List Int) (hl : a.length ≤ 64) (by_ : Int) : ∀ d n : Nat, n + d = a.length →
    Ev2 (fun K u => spec_SeriesInv.l0 K u f a by_ (n : Int) (siL (md f) by_ a n)) (true, siL (md f) by_ a a.length) := by
  have hq := md_pos hp
  intro d
  induction d with
  | zero =>
    intro n hn
    obtain rfl : n = a.length := by omega
    refine Ev2.step (fun K u hK => ?_) (Ev2.now _)
    rw [spec_SeriesInv.l0_eq, if_neg (by omega)]
  | succ d ih =>
    intro n hn
    have := ssi_in f hp a hl by_ n (by omega) _ (ih (n + 1) (by omega)) n 0 (by omega)
    rw [show sumN 0 (fun j => L a (j + 1) * L (siL (md f) by_ a n) (n - 1 - j)) = 0 from rfl, Int.sub_zero] at this
    refine Ev2.step (fun K u hK => ?_) (Ev2.enter this)
    simp only [spec_SeriesInv.l0_eq, spec_SeriesInv.j0_eq]
    rw [if_pos (by omega)]
    by_cases c : n = 0
    · rw [if_pos (by omega), if_pos c, Int.emod_eq_of_lt (by omega) (by omega)]
      rfl
    · rw [if_neg (by omega), if_neg c, Int.zero_emod]
      rfl
theorem sSeriesInvEv (f : Int) (a : List Int) (hn : a.length ≤ 1000000) : Ev (fun k => spec_SeriesInv.f k f a) (siR f a) := by
  unfold siR
  by_cases c : SerP f a
  · have hp := c.1
    have hq := md_pos hp
    have l1 := c.2.1
    have hE := c.2.2.2
    by_cases z : L a 0 = 0
    · rw [if_neg (fun h => h.2 z)]
      refine Ev.step (fun k hk => ?_) (Ev.now _)
      rw [spec_SeriesInv.f_eq, sSerV f a hn k (by omega), decide_eq_true c, bs, if_neg (by decide), if_pos (by omega), rd0, if_pos z]
    · rw [if_pos ⟨c, z⟩]
      have h0 := L_el (show 0 < md f by omega) hE 0
      refine Ev.step (fun k hk => ?_) (Ev.enter (ssi_out f hp a c.2.2.1 (inv f (L a 0)) a.length 0 (by omega)))
      rw [spec_SeriesInv.f_eq, sSerV f a hn k (by omega), decide_eq_true c, bs, if_neg (by decide), if_pos (by omega), rd0, if_neg z, if_pos (by omega), invV f _ hp (by rw [Int.emod_eq_of_lt h0.1 h0.2]; exact z) k (by omega), bs]
      rfl
  · rw [if_neg (fun h => c h.1)]
    refine Ev.step (fun k hk => ?_) (Ev.now _)
    rw [spec_SeriesInv.f_eq, sSerV f a hn k (by omega), decide_eq_false c, bs, if_pos (by decide)]
/- Values. -/
theorem powS_nonneg {f x : Int} (hp : md f ≠ 0) (h0 : 0 ≤ x) (h1 : x < md f) (n : Nat) : powS f x (n : Int) = x ^ n % md f := by
  have hm := md_pos hp
  unfold powS
  rw [Int.emod_eq_of_lt h0 h1]
  by_cases z : x = 0
  · subst z
    rw [if_pos rfl]
    cases n with
    | zero => rw [if_pos (by omega), Int.pow_zero, Int.emod_eq_of_lt (by omega) (by omega)]
    | succ n => rw [if_neg (by omega), if_neg (by omega), Int.pow_succ, Int.mul_zero, Int.zero_emod]
  · rw [if_neg z]
    have hf := fermat_int hp h0 (by rw [Int.emod_eq_of_lt h0 h1]; exact z)
    obtain ⟨q, hq⟩ : ∃ q : Nat, q = (md f).toNat - 1 := ⟨_, rfl⟩
    rw [← hq] at hf
    have e : ((n : Int) % (md f - 1)).toNat = n % q := by
      have : md f - 1 = (q : Int) := by omega
      rw [this]
      rfl
    rw [e]
    have h2 : x ^ n = (x ^ q) ^ (n / q) * x ^ (n % q) := by
      rw [← Int.pow_mul, ← Int.pow_add, Nat.div_add_mod]
    rw [h2, Int.mul_emod, ← pow_emod (x ^ q) (md f) (n / q), hf]
    have : ∀ k : Nat, (1 : Int) ^ k = 1 := by
      intro k
      exact Int.one_pow
    rw [this, Int.emod_eq_of_lt (show (0 : Int) ≤ 1 by omega) (show 1 < md f by omega), Int.one_mul, Int.emod_emod_of_dvd _ (Int.dvd_refl _)]
theorem evalPEv (f : Int) (a : List Int) (x : Int) (pa : PolyOk f a) (h0 : 0 ≤ x) (h1 : x < md f) : Ev (fun k => spec_EvalPoly.f k f a x) (evN (md f) a x a.length) := by
  have hp := pa.1
  have hq := md_pos hp
  have la := pa.2.1
  have key : ∀ d i : Nat, i + d = a.length → Ev2 (fun K u => spec_EvalPoly.l0 K u f a x (sumN i (fun i => L a i * x ^ i) % md f) (i : Int)) (evN (md f) a x a.length) := by
    intro d
    induction d with
    | zero =>
      intro i hi
      obtain rfl : i = a.length := by omega
      refine Ev2.step (fun K u hK => ?_) (Ev2.now _)
      rw [spec_EvalPoly.l0_eq, if_neg (by omega)]
      rfl
    | succ d ih =>
      intro i hi
      refine Ev2.step (fun K u hK => ?_) (ih (i + 1) (by omega))
      rw [spec_EvalPoly.l0_eq, if_pos (by omega), if_pos (by omega), if_pos (by omega), rd_L, powV f x (i : Int) hp (by omega) (by omega) K (by omega), bs, powS_nonneg hp h0 h1, mulV f _ _ hp K (by omega), bs, addV f _ _ hp K (by omega), bs, wrap_next (show i < a.length by omega) (by omega), mulr, ← Int.add_emod]
      rfl
  have h := key a.length 0 (by omega)
  rw [show sumN 0 (fun i => L a i * x ^ i) = 0 from rfl, Int.zero_emod] at h
  refine Ev.step (fun k hk => ?_) (Ev.enter h)
  rw [spec_EvalPoly.f_eq, polyV f a (by omega) k (by omega), decide_eq_true pa, bs, if_neg (by decide)]
  rfl
/-- What EvalMany answers. -/
def emR (f : Int) (a xs : List Int) : List Int := if PolyOk f a ∧ xs.length ≤ 40 ∧ El (md f) xs then evL (md f) a xs else []
theorem sEvalManyEv (f : Int) (a xs : List Int) (ha : a.length ≤ 1000000) (hx : xs.length ≤ 1000000) : Ev (fun k => spec_EvalMany.f k f a xs) (emR f a xs) := by
  unfold emR
  by_cases pa : PolyOk f a
  · have la := pa.2.1
    by_cases c1 : xs.length ≤ 40
    · by_cases c2 : El (md f) xs
      · rw [if_pos ⟨pa, c1, c2⟩]
        have key : ∀ (d i : Nat) (s : List Int), i + d = xs.length → s.length = i → Ev2 (fun K u => spec_EvalMany.l0 K u f a xs (i : Int) s) (s ++ evL (md f) a (xs.drop i)) := by
          intro d
          induction d with
          | zero =>
            intro i s hi hs
            rw [List.drop_eq_nil_of_le (by omega)]
            refine Ev2.step (fun K u hK => ?_) (Ev2.now _)
            rw [spec_EvalMany.l0_eq, if_neg (by omega)]
            simp only [evL, List.map_nil, List.append_nil]
          | succ d ih =>
            intro i s hi hs
            have hr := c2.at i (by omega)
            have h := evalPEv f a xs[i] pa hr.1 hr.2
            have h2 := ih (i + 1) (s ++ [evN (md f) a xs[i] a.length]) (by omega) (by simp [hs])
            rw [List.append_assoc] at h2
            rw [drop_cons xs i (by omega)]
            refine Ev2.step (fun K u hK => ?_) (Ev2.bind (f := fun k => spec_EvalPoly.f k f a xs[i]) (g := fun x K u => spec_EvalMany.l0 K u f a xs ((i + 1 : Nat) : Int) (s ++ [x])) h h2)
            rw [spec_EvalMany.l0_eq, if_pos (by omega), if_pos (by omega), if_pos (by omega), rd_at xs i (by omega)]
            congr 1
            funext x
            rw [if_pos (by omega), wrap_next (show i < xs.length by omega) (by omega)]
        have h := key xs.length 0 [] (by omega) rfl
        rw [List.nil_append, List.drop_zero] at h
        refine Ev.step (fun k hk => ?_) (Ev.enter h)
        rw [spec_EvalMany.f_eq, polyV f a (by omega) k (by omega), decide_eq_true pa, bs, if_neg (by decide), if_neg (by omega), elemsV f xs (by omega) k (by omega), decide_eq_true (show md f ≠ 0 ∧ El (md f) xs from ⟨pa.1, c2⟩), bs, if_neg (by decide)]
        rfl
      · rw [if_neg (fun h => c2 h.2.2)]
        refine Ev.step (fun k hk => ?_) (Ev.now _)
        rw [spec_EvalMany.f_eq, polyV f a (by omega) k (by omega), decide_eq_true pa, bs, if_neg (by decide), if_neg (by omega), elemsV f xs (by omega) k (by omega), decide_eq_false (fun h : md f ≠ 0 ∧ El (md f) xs => c2 h.2), bs, if_pos (by decide)]
    · rw [if_neg (fun h => c1 h.2.1)]
      refine Ev.step (fun k hk => ?_) (Ev.now _)
      rw [spec_EvalMany.f_eq, polyV f a (by omega) k (by omega), decide_eq_true pa, bs, if_neg (by decide), if_pos (by omega)]
  · rw [if_neg (fun h => pa h.1)]
    refine ⟨1000010, fun k hk => ?_⟩
    obtain ⟨k, rfl⟩ : ∃ m, k = m + 1 := ⟨k - 1, by omega⟩
    show spec_EvalMany.f (k + 1) f a xs = _
    rw [spec_EvalMany.f_eq, polyV f a (by omega) k (by omega), decide_eq_false pa, bs, if_pos (by decide)]
theorem iEvalManyEv (f : Int) (a xs : List Int) (hx : xs.length ≤ 1000000) : Ev (fun k => impl_EvalMany.f k f a xs) (emR f a xs) := by
  have hlok : md f ≠ 0 ∧ AllLok (md f) [a] ↔ PolyOk f a := ⟨fun g => ⟨g.1, g.2 a List.mem_cons_self⟩, fun g => ⟨g.1, AllLok.cons g.2 (AllLok.nil _)⟩⟩
  unfold emR
  by_cases pa : PolyOk f a
  · have hq := md_pos pa.1
    by_cases c1 : xs.length ≤ 40
    · by_cases c2 : El (md f) xs
      · rw [if_pos ⟨pa, c1, c2⟩]
        refine Ev.step (fun k hk => ?_) (Ev.ret (fevalManyEv (md f) (gn f) (tw f) (by omega) hq.2 a xs pa.2.2.1 c2 pa.2.1 (by omega)))
        rw [impl_EvalMany.f_eq, polyFieldV f [a] (by simp) k (by omega), if_pos (hlok.2 pa)]
        simp only [bs, Bool.not_true, Bool.false_eq_true, if_false]
        rw [if_neg (by omega), areElV _ _ _ xs (by omega) k (by omega), decide_eq_true c2, bs, if_neg (by decide)]
      · rw [if_neg (fun h => c2 h.2.2)]
        refine Ev.step (fun k hk => ?_) (Ev.now _)
        rw [impl_EvalMany.f_eq, polyFieldV f [a] (by simp) k (by omega), if_pos (hlok.2 pa)]
        simp only [bs, Bool.not_true, Bool.false_eq_true, if_false]
        rw [if_neg (by omega), areElV _ _ _ xs (by omega) k (by omega), decide_eq_false c2, bs, if_pos (by decide)]
    · rw [if_neg (fun h => c1 h.2.1)]
      refine Ev.step (fun k hk => ?_) (Ev.now _)
      rw [impl_EvalMany.f_eq, polyFieldV f [a] (by simp) k (by omega), if_pos (hlok.2 pa)]
      simp only [bs, Bool.not_true, Bool.false_eq_true, if_false]
      rw [if_pos (by omega)]
  · rw [if_neg (fun h => pa h.1)]
    refine Ev.step (fun k hk => ?_) (Ev.now _)
    rw [impl_EvalMany.f_eq, polyFieldV f [a] (by simp) k (by omega), if_neg (fun h => pa (hlok.1 h))]
    simp only [bs, Bool.not_false, if_true]
end Go.Vm.Pu
namespace Go.Vm.Pu
open Go Go.RowKit Go.Vm
set_option linter.unusedVariables false
set_option linter.unusedSimpArgs false
theorem L_mul_lin (p : Int) (A : List Int) (c : Int) (m : Nat) : L (mulP p A [c, 1]) m = cv (L A) (L [c, 1]) m % p := L_mulP p A [c, 1] m
theorem lin_comm (p : Int) (A : List Int) (c d : Int) : mulP p (mulP p A [c, 1]) [d, 1] = mulP p (mulP p A [d, 1]) [c, 1] := by
  refine (mulP_Tr _ _ _).ext (mulP_Tr _ _ _) (fun m => ?_)
  rw [L_mul_lin, L_mul_lin]
  cases m with
  | zero =>
    rw [cv_lin0, cv_lin0, L_mul_lin, L_mul_lin, cv_lin0, cv_lin0, mulm, mulm, Int.mul_assoc, Int.mul_assoc, Int.mul_comm c d]
  | succ m =>
    have key : ∀ (c d : Int) (X Y : Nat → Int), (∀ j, X j = Y j % p) → (X (m + 1) * d + X m) % p = (Y (m + 1) * d + Y m) % p := by
      intro c d X Y h
      rw [h, h, Int.add_emod, mulm, Int.emod_emod_of_dvd _ (Int.dvd_refl _), ← Int.add_emod]
    rw [cv_lin, cv_lin, key c d _ (fun j => cv (L A) (L [c, 1]) j) (fun j => L_mul_lin p A c j), key d c _ (fun j => cv (L A) (L [d, 1]) j) (fun j => L_mul_lin p A d j)]
    congr 1
    cases m with
    | zero =>
      rw [cv_lin, cv_lin, cv_lin0, cv_lin0, Int.add_mul, Int.add_mul, Int.mul_assoc, Int.mul_assoc, Int.mul_comm c d]
      omega
    | succ m =>
      rw [cv_lin, cv_lin, cv_lin, cv_lin, Int.add_mul, Int.add_mul, Int.mul_assoc, Int.mul_assoc, Int.mul_comm c d]
      omega
theorem van_snoc (p x : Int) : ∀ (l acc : List Int), van p acc (l ++ [x]) = mulP p (van p acc l) [(0 - x) % p, 1] := by
  intro l
  induction l with
  | nil => intro acc; rfl
  | cons y l ih => intro acc; exact ih _
theorem take_L (xs : List Int) (j : Nat) (h : j < xs.length) : xs.take (j + 1) = xs.take j ++ [L xs j] := by
  rw [List.take_succ_eq_append_getElem h, L_at xs j h]
theorem oth_low (xs : List Int) (i : Nat) (hi : i < xs.length) : ∀ j, j ≤ i → oth xs i j = xs.take j := by
  intro j
  induction j with
  | zero => intro _; simp [oth]
  | succ j ih =>
    intro h
    rw [oth, if_neg (by omega), ih (by omega), take_L xs j (by omega)]
/-- The vanishing polynomial is that of the other places, times the place's own. -/
theorem van_part (p : Int) (xs : List Int) (i : Nat) (hi : i < xs.length) : ∀ j, i < j → j ≤ xs.length → mulP p (van p [1] (oth xs i j)) [(0 - L xs i) % p, 1] = van p [1] (xs.take j) := by
  intro j
  induction j with
  | zero => intro h; omega
  | succ j ih =>
    intro h hj
    rw [take_L xs j (by omega), van_snoc]
    by_cases c : j = i
    · subst c
      rw [oth, if_pos rfl, oth_low xs j hi j (Nat.le_refl _)]
    · rw [oth, if_neg c, van_snoc, lin_comm, ih (by omega) (by omega)]
theorem part_is {f : Int} (hp : md f ≠ 0) (xs : List Int) (i : Nat) (hi : i < xs.length) (q r : List Int) (hd : Div f (van (md f) [1] xs) [(0 - L xs i) % md f, 1] q r) : q = van (md f) [1] (oth xs i xs.length) := by
  have hq := md_pos hp
  obtain ⟨v1, _, _⟩ := van_ok hp (oth xs i xs.length) [1] (one_pk hp)
  have e := van_part (md f) xs i hi xs.length hi (Nat.le_refl _)
  rw [List.take_length] at e
  refine (div_unique hp (b := [(0 - L xs i) % md f, 1]) (r' := []) (by simp) (lin_el hp _) (lin_tr _) hd.qe hd.re v1.1 (El.nil _) hd.qt hd.rt v1.2.1 (fun j hj => by simp at hj) hd.lr (by simp) (fun m => ?_)).1
  rw [hd.eq m, ← e, L_mul_lin, Int.emod_emod_of_dvd _ (Int.dvd_refl _), L_out [] m (by simp), Int.add_zero]
theorem ivanEv {f : Int} (hp : md f ≠ 0) (l : List Int) (hE : El (md f) l) (hl : l.length ≤ 100) : Ev (fun k => impl_field__vanish.f k (md f) (gn f) (tw f) l) (van (md f) [1] l) := by
  have hq := md_pos hp
  have key : ∀ (d i : Nat) (acc : List Int), i + d = l.length → Pk f acc → acc.length + d ≤ 300 → Ev2 (fun K u => impl_field__vanish.l0 K u l (l.length : Int) (i : Int) (md f) (gn f) (tw f) acc) (van (md f) acc (l.drop i)) := by
    intro d
    induction d with
    | zero =>
      intro i acc hi h ha
      rw [List.drop_eq_nil_of_le (by omega)]
      refine Ev2.step (fun K u hK => ?_) (Ev2.now _)
      rw [impl_field__vanish.l0_eq, if_neg (by omega)]
      rfl
    | succ d ih =>
      intro i acc hi h ha
      have s := h.step hp l[i]
      have hx := hE.at i (by omega)
      rw [drop_cons l i (by omega), van]
      refine Ev2.step (fun K u hK => ?_) (Ev2.bind (f := fun k => impl_field__mulPoly.f k (md f) (gn f) (tw f) acc [(0 - l[i]) % md f, 1]) (g := fun x K u => impl_field__vanish.l0 K u l (l.length : Int) ((i + 1 : Nat) : Int) (md f) (gn f) (tw f) x) (mulPEv (md f) (gn f) (tw f) (by omega) hq.2 acc [(0 - l[i]) % md f, 1] h.1 (lin_el hp _) (by omega) (by simp)) (ih (i + 1) _ (by omega) s.1 (by omega)))
      rw [impl_field__vanish.l0_eq, if_pos (by omega), if_pos (by omega), if_pos (by omega), rd_at l i (by omega), fsubV (md f) (gn f) (tw f) 0 _ (by omega) hq.2 ⟨by omega, by omega⟩ hx K (by omega), bs, wrap_next (show i < l.length by omega) (by omega)]
  have h := key l.length 0 [1] (by omega) (one_pk hp) (by simp; omega)
  rw [List.drop_zero] at h
  refine Ev.step (fun k hk => ?_) (Ev.enter h)
  rw [impl_field__vanish.f_eq]
  rfl
theorem pr_range {p x : Int} (hp : 1 < p) : ∀ (l : List Int) (a : Int), 0 ≤ a ∧ a < p → 0 ≤ pr p x l a ∧ pr p x l a < p := by
  intro l
  induction l with
  | nil => intro a h; exact h
  | cons y l ih => intro a h; exact ih _ (emod_range _ (by omega))
theorem weightV {f : Int} (hp : md f ≠ 0) (xs : List Int) (hE : El (md f) xs) (hl : xs.length ≤ 100) (i : Nat) (hi : i < xs.length) (k : Nat) (hk : 200 ≤ k) : impl_field__weight.f k (md f) (gn f) (tw f) xs (i : Int) = some (inv f (pr (md f) (L xs i) (oth xs i xs.length) 1)) := by
  obtain ⟨K, rfl⟩ : ∃ m, k = m + 1 := ⟨k - 1, by omega⟩
  have hq := md_pos hp
  have key : ∀ d j u : Nat, j + d = xs.length → d < u → impl_field__weight.l0 K u xs (i : Int) (pr (md f) (L xs i) (oth xs i j) 1) xs (xs.length : Int) (j : Int) (md f) (gn f) (tw f) = some (inv f (pr (md f) (L xs i) (oth xs i xs.length) 1)) := by
    intro d
    induction d with
    | zero =>
      intro j u hj hu
      obtain ⟨u, rfl⟩ : ∃ m, u = m + 1 := ⟨u - 1, by omega⟩
      obtain rfl : j = xs.length := by omega
      rw [impl_field__weight.l0_eq, if_neg (by omega), finvV f _ (gn f) (tw f) hp (pr_range (by omega) _ 1 ⟨by omega, by omega⟩) K (by omega), bs]
    | succ d ih =>
      intro j u hj hu
      obtain ⟨u, rfl⟩ : ∃ m, u = m + 1 := ⟨u - 1, by omega⟩
      have x1 := L_el (show 0 < md f by omega) hE i
      have x2 := L_el (show 0 < md f by omega) hE j
      have r1 := emod_range (L xs i - L xs j) (show 0 < md f by omega)
      have r2 := pr_range (show 1 < md f by omega) (x := L xs i) (oth xs i j) 1 ⟨by omega, by omega⟩
      have e := ih (j + 1) u (by omega) (by omega)
      rw [impl_field__weight.l0_eq, if_pos (by omega), if_pos (by omega), if_pos (by omega)]
      by_cases c : j = i
      · rw [oth, if_pos c] at e
        rw [if_neg (by omega), wrap_next (show j < xs.length by omega) (by omega), e]
      · rw [oth, if_neg c, pr_snoc] at e
        rw [if_pos (by omega), if_pos (by omega), if_pos (by omega), rd_L, rd_L, fsubV (md f) (gn f) (tw f) _ _ (by omega) hq.2 x1 x2 K (by omega), bs, fmulV (md f) (gn f) (tw f) _ _ (by omega) hq.2 r2 r1 K (by omega), bs, wrap_next (show j < xs.length by omega) (by omega), mulr, e]
  rw [impl_field__weight.f_eq]
  exact key xs.length 0 K (by omega) (by omega)
theorem iscaleEv (p g t : Int) (hp : 0 < p) (hp2 : p ≤ 1004535809) (a : List Int) (c : Int) (hE : El p a) (hc : 0 ≤ c ∧ c < p) (la : a.length ≤ 1000000) : Ev (fun k => impl_field__scalePoly.f k p g t a c) (scP p a c) := by
  have key : ∀ d i : Nat, i + d = a.length → Ev2 (fun K u => impl_field__scalePoly.l0 K u c a (a.length : Int) (i : Int) p g t (fl i (fun m => L a m * c % p))) (scP p a c) := by
    intro d
    induction d with
    | zero =>
      intro i hi
      obtain rfl : i = a.length := by omega
      have ht := trimEv (fl a.length (fun m => L a m * c % p)) (by rw [fl_length]; omega)
      refine Ev2.step (fun K u hK => ?_) (Ev2.of (Ev.ret ht))
      rw [impl_field__scalePoly.l0_eq, if_neg (by omega)]
    | succ d ih =>
      intro i hi
      have h1 := ih (i + 1) (by omega)
      rw [← fl_snoc] at h1
      refine Ev2.step (fun K u hK => ?_) h1
      rw [impl_field__scalePoly.l0_eq, if_pos (by omega), if_pos (by omega), if_pos (by omega), rd_L, fmulV p g t _ _ hp hp2 (L_el hp hE i) hc K (by omega), bs, if_pos (by rw [fl_length]; omega), wrap_next (show i < a.length by omega) (by omega)]
  refine Ev.step (fun k hk => ?_) (Ev.enter (key a.length 0 (by omega)))
  rw [impl_field__scalePoly.f_eq]
  rfl
theorem ithrough_loop {f : Int} {xs ys : List Int} (h : PointsOk f xs) (hE : El (md f) ys) (hly : ys.length = xs.length) : ∀ d i : Nat, i + d = xs.length →
    Ev2 (fun K u => impl_field__through.l0 K u xs ys xs (xs.length : Int) (i : Int) (md f) (gn f) (tw f) (van (md f) [1] xs) (lag f xs ys i)) (lag f xs ys xs.length) := by
  have hp := h.1
  have hq := md_pos hp
  have hn := h.2.2.1
  have hEx := h.2.2.2.1
  obtain ⟨v1, v2, _⟩ := van_ok hp xs [1] (one_pk hp)
  have vl : (van (md f) [1] xs).length = 1 + xs.length := v2
  have vp : PolyOk f (van (md f) [1] xs) := polyOk_of hp (by omega) v1.1 v1.2.1
  intro d
  induction d with
  | zero =>
    intro i hi
    obtain rfl : i = xs.length := by omega
    refine Ev2.step (fun K u hK => ?_) (Ev2.now _)
    rw [impl_field__through.l0_eq, if_neg (by omega)]
  | succ d ih =>
    intro i hi
    have hx := L_el (show 0 < md f by omega) hEx i
    have hy := L_el (show 0 < md f by omega) hE i
    have lp : PolyOk f [(0 - L xs i) % md f, 1] := polyOk_of hp (by simp) (lin_el hp _) (lin_tr _)
    obtain ⟨q, r, hd, e1⟩ := idivEv f (gn f) (tw f) (van (md f) [1] xs) [(0 - L xs i) % md f, 1] (by simp) vp lp
    have hqv := part_is hp xs i (by omega) q r hd
    subst hqv
    obtain ⟨t1, t2, t3, _⟩ := term_ok h i (by omega) (L ys i) hy
    have lg1 := (lag_ok h hE i (by omega)).1.1
    have hb := inv_range f (pr (md f) (L xs i) (oth xs i xs.length) 1) hp
    have hm := emod_range (L ys i * inv f (pr (md f) (L xs i) (oth xs i xs.length) 1)) (show 0 < md f by omega)
    have hs := scP_len (md f) (van (md f) [1] (oth xs i xs.length)) (L ys i * inv f (pr (md f) (L xs i) (oth xs i xs.length) 1) % md f)
    have e3 := iscaleEv (md f) (gn f) (tw f) (by omega) hq.2 (van (md f) [1] (oth xs i xs.length)) (L ys i * inv f (pr (md f) (L xs i) (oth xs i xs.length) 1) % md f) t1.2.2.1 hm (by omega)
    have e4 := addPEv (md f) (gn f) (tw f) (by omega) hq.2 (lag f xs ys i) (scP (md f) (van (md f) [1] (oth xs i xs.length)) (L ys i * inv f (pr (md f) (L xs i) (oth xs i xs.length) 1) % md f)) lg1.2.2.1 (tr_el (fl_el (fun _ _ => emod_range _ (by omega)))) (by have := lg1.2.1; omega) (by omega)
    refine Ev2.step (fun K u hK => ?_) (Ev2.bind (f := fun K => impl_field__divMod.f K (md f) (gn f) (tw f) (van (md f) [1] xs) [(0 - L xs i) % md f, 1]) (g := fun x K u => (impl_field__scalePoly.f K (md f) (gn f) (tw f) x.1 (L ys i * inv f (pr (md f) (L xs i) (oth xs i xs.length) 1) % md f)).bind (fun y => (impl_field__addPoly.f K (md f) (gn f) (tw f) (lag f xs ys i) y).bind (fun z => impl_field__through.l0 K u xs ys xs (xs.length : Int) ((i + 1 : Nat) : Int) (md f) (gn f) (tw f) (van (md f) [1] xs) z))) e1
      (Ev2.bind (f := fun K => impl_field__scalePoly.f K (md f) (gn f) (tw f) (van (md f) [1] (oth xs i xs.length)) (L ys i * inv f (pr (md f) (L xs i) (oth xs i xs.length) 1) % md f)) (g := fun y K u => (impl_field__addPoly.f K (md f) (gn f) (tw f) (lag f xs ys i) y).bind (fun z => impl_field__through.l0 K u xs ys xs (xs.length : Int) ((i + 1 : Nat) : Int) (md f) (gn f) (tw f) (van (md f) [1] xs) z)) e3
        (Ev2.bind (f := fun K => impl_field__addPoly.f K (md f) (gn f) (tw f) (lag f xs ys i) (scP (md f) (van (md f) [1] (oth xs i xs.length)) (L ys i * inv f (pr (md f) (L xs i) (oth xs i xs.length) 1) % md f))) (g := fun z K u => impl_field__through.l0 K u xs ys xs (xs.length : Int) ((i + 1 : Nat) : Int) (md f) (gn f) (tw f) (van (md f) [1] xs) z) e4 (ih (i + 1) (by omega)))))
    rw [impl_field__through.l0_eq, if_pos (by omega), if_pos (by omega), if_pos (by omega), rd_L, fsubV (md f) (gn f) (tw f) 0 _ (by omega) hq.2 ⟨by omega, by omega⟩ hx K (by omega), bs]
    congr 1
    funext x
    rw [if_pos (by omega), if_pos (by omega), weightV hp xs hEx (by omega) i (by omega) K (by omega), bs, rd_L, fmulV (md f) (gn f) (tw f) _ _ (by omega) hq.2 hy hb K (by omega), bs, wrap_next (show i < xs.length by omega) (by omega)]
theorem ithroughEv {f : Int} {xs ys : List Int} (h : PointsOk f xs) (hE : El (md f) ys) (hly : ys.length = xs.length) : Ev (fun k => impl_field__through.f k (md f) (gn f) (tw f) xs ys) (lag f xs ys xs.length) := by
  have hn := h.2.2.1
  refine Ev.step (fun k hk => ?_) (Ev.bind (f := fun k => impl_field__vanish.f k (md f) (gn f) (tw f) xs) (g := fun x k => impl_field__through.l0 k k xs ys xs (xs.length : Int) 0 (md f) (gn f) (tw f) x []) (ivanEv h.1 xs h.2.2.2.1 (by omega)) (Ev.enter (ithrough_loop h hE hly xs.length 0 (by omega))))
  rw [impl_field__through.f_eq]
theorem iinterEv (f : Int) (xs ys : List Int) (hy : ys.length ≤ 1000000) : Ev (fun k => impl_Interpolate.f k f xs ys) (if IntOk f xs ys then (true, lag f xs ys xs.length) else (false, [])) := by
  have e : Ev (fun k => impl_interpolate.f k f xs ys) (if IntOk f xs ys then (true, lag f xs ys xs.length) else (false, [])) := by
    by_cases c : IntOk f xs ys
    · rw [if_pos c]
      obtain ⟨c1, c2, c3⟩ := c
      have hn := c1.2.2.1
      refine Ev.step (fun k hk => ?_) (Ev.bind (f := fun k => impl_field__through.f k (md f) (gn f) (tw f) xs ys) (g := fun x k => some (true, x)) (ithroughEv c1 c3 c2) (Ev.now _))
      rw [impl_interpolate.f_eq, pointFieldV f xs k (by omega), if_pos c1]
      simp only [bs, Bool.not_true, Bool.false_eq_true, if_false]
      rw [if_neg (by omega), areElV _ _ _ ys (by omega) k (by omega), decide_eq_true c3, bs, if_neg (by decide)]
    · rw [if_neg c]
      refine ⟨1000300, fun k hk => ?_⟩
      obtain ⟨k, rfl⟩ : ∃ m, k = m + 1 := ⟨k - 1, by omega⟩
      show impl_interpolate.f (k + 1) f xs ys = _
      rw [impl_interpolate.f_eq, pointFieldV f xs k (by omega)]
      by_cases d : PointsOk f xs
      · rw [if_pos d]
        simp only [bs, Bool.not_true, Bool.false_eq_true, if_false]
        by_cases h : (ys.length : Int) = (xs.length : Int)
        · rw [if_neg (by omega), areElV _ _ _ ys (by omega) k (by omega), decide_eq_false (fun g => c ⟨d, by omega, g⟩), bs, if_pos (by decide)]
        · rw [if_pos h]
      · rw [if_neg d]
        simp only [bs, Bool.not_false, if_true]
  refine Ev.step (fun k hk => ?_) (Ev.bind (f := fun k => impl_interpolate.f k f xs ys) (g := fun x k => some (x.1, x.2)) e (Ev.now _))
  rw [impl_Interpolate.f_eq]
end Go.Vm.Pu
namespace Go.Vm.Pu
open Go Go.RowKit Go.Vm
set_option linter.unusedVariables false
set_option linter.unusedSimpArgs false
/-- The chosen ones of the first i. -/
def pk (l : List Int) (s : Nat) : Nat → List Int
  | 0 => []
  | i + 1 => if s / 2 ^ i % 2 = 1 then pk l s i ++ [L l i] else pk l s i
theorem pk_len (l l' : List Int) (s : Nat) : ∀ i, (pk l s i).length = (pk l' s i).length
  | 0 => rfl
  | i + 1 => by
    simp only [pk]
    split
    · simp [pk_len l l' s i]
    · exact pk_len l l' s i
theorem pk_le (l : List Int) (s : Nat) : ∀ i, (pk l s i).length ≤ i
  | 0 => Nat.le_refl _
  | i + 1 => by
    simp only [pk]
    have := pk_le l s i
    split
    · simp; omega
    · omega
theorem pk_mem (l : List Int) (s : Nat) : ∀ (i : Nat) (x : Int), x ∈ pk l s i → ∃ t, t < i ∧ x = L l t
  | 0, x, h => by cases h
  | i + 1, x, h => by
    simp only [pk] at h
    split at h
    · rcases List.mem_append.1 h with h | h
      · obtain ⟨t, h1, h2⟩ := pk_mem l s i x h
        exact ⟨t, by omega, h2⟩
      · rw [List.mem_singleton] at h
        exact ⟨i, by omega, h⟩
    · obtain ⟨t, h1, h2⟩ := pk_mem l s i x h
      exact ⟨t, by omega, h2⟩
theorem pk_el {p : Int} {l : List Int} (h : El p l) (s i : Nat) (hi : i ≤ l.length) : El p (pk l s i) := by
  intro x hx
  obtain ⟨t, h1, rfl⟩ := pk_mem l s i x hx
  rw [L_at l t (by omega)]
  exact h.at t (by omega)
theorem dis_mk {l : List Int} : ∀ (d i : Nat), (∀ j, i ≤ j → j < i + d → L l j ∉ l.take j) → disB l d i = true := by
  intro d
  induction d with
  | zero => intro i _; rfl
  | succ d ih =>
    intro i h
    rw [disB, Bool.and_eq_true]
    refine ⟨?_, ih (i + 1) (fun j h1 h2 => h j (by omega) (by omega))⟩
    have := h i (Nat.le_refl _) (by omega)
    simp [this]
theorem L_app (l r : List Int) (j : Nat) (h : j < l.length) : L (l ++ r) j = L l j := by
  rw [L_at _ _ (by simp; omega), L_at _ _ h, List.getElem_append_left h]
theorem pk_dis {l : List Int} (hd : ∀ i j, i < l.length → j < l.length → i ≠ j → L l i ≠ L l j) (s : Nat) : ∀ i, i ≤ l.length → ∀ j, j < (pk l s i).length → L (pk l s i) j ∉ (pk l s i).take j := by
  intro i
  induction i with
  | zero => intro _ j hj; simp [pk] at hj
  | succ i ih =>
    intro hi j hj
    simp only [pk] at hj ⊢
    by_cases c : s / 2 ^ i % 2 = 1
    · rw [if_pos c] at hj ⊢
      rw [List.length_append, List.length_singleton] at hj
      by_cases e : j < (pk l s i).length
      · rw [L_app _ _ _ e, List.take_append_of_le_length (by omega)]
        exact ih (by omega) j e
      · obtain rfl : j = (pk l s i).length := by omega
        have e1 : L (pk l s i ++ [L l i]) (pk l s i).length = L l i := by
          rw [L_at _ _ (by simp)]
          simp
        rw [e1, List.take_append_of_le_length (Nat.le_refl _), List.take_length]
        intro hm
        obtain ⟨t, h1, h2⟩ := pk_mem l s i _ hm
        exact hd i t (by omega) (by omega) (by omega) h2
    · rw [if_neg c] at hj ⊢
      exact ih (by omega) j hj
theorem pk_ok {f : Int} {xs : List Int} (h : PointsOk f xs) (s : Nat) (h1 : 1 ≤ (pk xs s xs.length).length) : PointsOk f (pk xs s xs.length) := by
  have hq := md_pos h.1
  have hn := h.2.2.1
  have hle := pk_le xs s xs.length
  refine ⟨h.1, h1, by omega, pk_el h.2.2.2.1 s _ (Nat.le_refl _), dis_mk _ 0 (fun j _ hj => pk_dis (fun i j hi hj hne e => ?_) s xs.length (Nat.le_refl _) j (by omega))⟩
  have := points_dis h i j hi hj hne
  rw [e, Int.sub_self, Int.zero_emod] at this
  exact this rfl
/-- At how many places two lists differ. -/
def dfc (a b : List Int) : Nat → Int
  | 0 => 0
  | i + 1 => dfc a b i + if L a i ≠ L b i then 1 else 0
theorem dfc_bd (a b : List Int) : ∀ n, 0 ≤ dfc a b n ∧ dfc a b n ≤ n
  | 0 => ⟨Int.le_refl _, Int.le_refl _⟩
  | n + 1 => by
    have := dfc_bd a b n
    simp only [dfc]
    split <;> omega
theorem idifV (a b : List Int) (n : Nat) (hn : n ≤ 100) (ha : a.length = n) (hb : b.length = n) (k : Nat) (hk : 200 ≤ k) : impl_differ.f k a b = some (dfc a b n) := by
  obtain ⟨K, rfl⟩ : ∃ m, k = m + 1 := ⟨k - 1, by omega⟩
  have key : ∀ d i u : Nat, i + d = n → d < u → impl_differ.l0 K u a b (dfc a b i) (n : Int) (i : Int) = some (dfc a b n) := by
    intro d
    induction d with
    | zero =>
      intro i u hi hu
      obtain ⟨u, rfl⟩ : ∃ m, u = m + 1 := ⟨u - 1, by omega⟩
      obtain rfl : i = n := by omega
      rw [impl_differ.l0_eq, if_neg (by omega)]
    | succ d ih =>
      intro i u hi hu
      obtain ⟨u, rfl⟩ : ∃ m, u = m + 1 := ⟨u - 1, by omega⟩
      have hbd := dfc_bd a b i
      have e := ih (i + 1) u (by omega) (by omega)
      simp only [dfc] at e
      rw [impl_differ.l0_eq, if_pos (by omega), if_pos (by omega), if_pos (by omega), if_pos (by omega), if_pos (by omega), rd_L, rd_L, wrap_next (show i < n by omega) (by omega)]
      by_cases c : L a i ≠ L b i
      · rw [if_pos c] at e ⊢
        rw [wrap_id (x := dfc a b i + 1) (by omega) (by omega)]
        exact e
      · rw [if_neg c, Int.add_zero] at e
        rw [if_neg c]
        exact e
  have e1 : (if (b.length : Int) > (a.length : Int) then (b.length : Int) else (a.length : Int)) = (n : Int) := by split <;> omega
  have e2 : (if (b.length : Int) < (a.length : Int) then (b.length : Int) else (a.length : Int)) = (n : Int) := by split <;> omega
  rw [impl_differ.f_eq, e1, e2, Int.sub_self]
  exact key n 0 K (by omega) (by omega)
theorem sdifV (a b : List Int) (n : Nat) (hn : n ≤ 100) (ha : a.length = n) (hb : b.length = n) (k : Nat) (hk : 200 ≤ k) : spec_Differ.f k a b = some (dfc a b n) := by
  obtain ⟨K, rfl⟩ : ∃ m, k = m + 1 := ⟨k - 1, by omega⟩
  have key : ∀ d i u : Nat, i + d = n → d < u → spec_Differ.l0 K u a b (dfc a b i) (i : Int) = some (dfc a b n) := by
    intro d
    induction d with
    | zero =>
      intro i u hi hu
      obtain ⟨u, rfl⟩ : ∃ m, u = m + 1 := ⟨u - 1, by omega⟩
      obtain rfl : i = n := by omega
      rw [spec_Differ.l0_eq, if_neg (by omega), if_neg (by omega)]
    | succ d ih =>
      intro i u hi hu
      obtain ⟨u, rfl⟩ : ∃ m, u = m + 1 := ⟨u - 1, by omega⟩
      have hbd := dfc_bd a b i
      have e := ih (i + 1) u (by omega) (by omega)
      simp only [dfc] at e
      rw [spec_Differ.l0_eq, if_pos (by omega), spec_Differ.j0_eq, if_neg (by omega), if_neg (by omega), if_pos (by omega), if_pos (by omega), if_pos (by omega), if_pos (by omega), rd_L, rd_L, wrap_next (show i < n by omega) (by omega)]
      by_cases c : L a i ≠ L b i
      · rw [if_pos c] at e ⊢
        rw [wrap_id (x := dfc a b i + 1) (by omega) (by omega)]
        exact e
      · rw [if_neg c, Int.add_zero] at e
        rw [if_neg c]
        exact e
  rw [spec_Differ.f_eq, if_neg (by omega), if_neg (by omega)]
  exact key n 0 K (by omega) (by omega)
/-- A list made longer by zeros. -/
def pad (l : List Int) (k : Nat) : List Int := l ++ List.replicate (k - l.length) 0
theorem pad_len (l : List Int) (k : Nat) (h : l.length ≤ k) : (pad l k).length = k := by unfold pad; simp; omega
theorem pad_step (l : List Int) (k : Nat) (h : l.length < k) : pad (l ++ [0]) k = pad l k := by
  unfold pad
  rw [List.length_append, List.length_singleton, List.append_assoc, show k - l.length = (k - (l.length + 1)) + 1 by omega, List.replicate_succ]
  rfl
theorem L_pad (l : List Int) (k i : Nat) : L (pad l k) i = L l i := by
  unfold pad
  by_cases c : i < l.length
  · rw [L_app _ _ _ c]
  · rw [L_out l i (by omega)]
    by_cases d : i < (l ++ List.replicate (k - l.length) (0 : Int)).length
    · rw [L_at _ _ d, List.getElem_append_right (by omega)]
      simp
    · rw [L_out _ _ (by omega)]
theorem pad_tr {l : List Int} (h : Tr l) (k : Nat) : tr (pad l k) = l := (tr_Tr _).ext h (fun i => by rw [L_tr, L_pad])
theorem pad_el {p : Int} (hp : 0 < p) {l : List Int} (h : El p l) (k : Nat) : El p (pad l k) := by
  intro x hx
  rcases List.mem_append.1 hx with hx | hx
  · exact h x hx
  · rw [List.eq_of_mem_replicate hx]
    omega
/-- What the choices from one on come to. -/
def dcw (f : Int) (xs ys : List Int) (k : Nat) : Nat → Nat → Int × Bool × List Int
  | 0, _ => (0, false, [])
  | d + 1, s => if (pk xs s xs.length).length = k ∧ dfc (evL (md f) (lag f (pk xs s xs.length) (pk ys s xs.length) (pk xs s xs.length).length) xs) ys xs.length ≤ ((xs.length : Int) - (k : Int)) / 2 then
      (dfc (evL (md f) (lag f (pk xs s xs.length) (pk ys s xs.length) (pk xs s xs.length).length) xs) ys xs.length, true, pad (lag f (pk xs s xs.length) (pk ys s xs.length) (pk xs s xs.length).length) k)
    else dcw f xs ys k d (s + 1)
/-- What is asked of a word. -/
def WordOk (f : Int) (xs ys : List Int) (k : Int) : Prop := (PointsOk f xs ∧ xs.length ≤ 10 ∧ 1 ≤ k ∧ k ≤ (xs.length : Int)) ∧ ys.length = xs.length ∧ El (md f) ys
instance (f : Int) (xs ys : List Int) (k : Int) : Decidable (WordOk f xs ys k) := by unfold WordOk; exact inferInstance
theorem shr_bit (s i : Nat) : Int.fdiv (s : Int) (2 ^ (Int.toNat (i : Int))) = ((s / 2 ^ i : Nat) : Int) := shr_nat s i
theorem msg_ok {f : Int} {xs ys : List Int} {k : Nat} (h : WordOk f xs ys (k : Int)) (s : Nat) (hk : (pk xs s xs.length).length = k) :
    PolyOk f (lag f (pk xs s xs.length) (pk ys s xs.length) (pk xs s xs.length).length) ∧ (lag f (pk xs s xs.length) (pk ys s xs.length) (pk xs s xs.length).length).length ≤ k := by
  obtain ⟨⟨h1, h2, h3, h4⟩, h5, h6⟩ := h
  have hp := pk_ok h1 s (by omega)
  have hE := pk_el h6 s xs.length (by omega)
  have := (lag_ok hp hE _ (Nat.le_refl _)).1
  exact ⟨this.1, by omega⟩
theorem half_int {n k : Nat} (h : k ≤ n) (hn : n ≤ 100) : wrap64 (Int.tdiv (wrap64 ((n : Int) - (k : Int))) 2) = ((n : Int) - (k : Int)) / 2 := by
  rw [wrap_id (x := (n : Int) - (k : Int)) (by omega) (by omega), Int.tdiv_eq_ediv_of_nonneg (by omega), wrap_id (by omega) (by omega)]
/- The program. -/
theorem idec_pad (k : Nat) (hk : k ≤ 100) (e : Int) : ∀ (d : Nat) (l : List Int), l.length + d = k → Ev3 (fun K u v => impl_decodeWord.l2 K u v (k : Int) e l) (e, true, pad l k) := by
  intro d
  induction d with
  | zero =>
    intro l hl
    have : pad l k = l := by unfold pad; rw [show k - l.length = 0 by omega]; simp
    rw [this]
    refine Ev3.step (fun K u v hK => ?_) (Ev3.leave (Ev2.now _))
    rw [impl_decodeWord.l2_eq, if_neg (by omega)]
  | succ d ih =>
    intro l hl
    have e1 := ih (l ++ [0]) (by simp; omega)
    rw [pad_step l k (by omega)] at e1
    refine Ev3.step (fun K u v hK => ?_) e1
    rw [impl_decodeWord.l2_eq, if_pos (by omega), if_pos (by omega)]
theorem idec_pick (f : Int) (xs ys : List Int) (hl : ys.length = xs.length) (hn : xs.length ≤ 10) (k N : Int) (s : Nat) (hs : s < 2000) (R : Int × Bool × List Int)
    (cont : Ev3 (fun K u v => impl_decodeWord.l1 K u v xs ys k (s : Int) N (s : Int) xs (xs.length : Int) (xs.length : Int) (md f) (gn f) (tw f) (pk xs s xs.length) (pk ys s xs.length)) R) :
    ∀ d i : Nat, i + d = xs.length → Ev3 (fun K u v => impl_decodeWord.l1 K u v xs ys k (s : Int) N (s : Int) xs (xs.length : Int) (i : Int) (md f) (gn f) (tw f) (pk xs s i) (pk ys s i)) R := by
  intro d
  induction d with
  | zero =>
    intro i hi
    obtain rfl : i = xs.length := by omega
    exact cont
  | succ d ih =>
    intro i hi
    have e := ih (i + 1) (by omega)
    have h1 := pk_le xs s i
    have h2 := pk_le ys s i
    have hd : s / 2 ^ i ≤ s := Nat.div_le_self _ _
    simp only [pk] at e
    by_cases c : s / 2 ^ i % 2 = 1
    · rw [if_pos c, if_pos c] at e
      refine Ev3.step (fun K u v hK => ?_) e
      rw [impl_decodeWord.l1_eq, if_pos (by omega), if_pos (by omega), if_pos (by omega), if_pos (by omega), if_pos (by omega), shr_bit, and_oneV _ (by omega), if_pos (by omega), if_pos (by omega), if_pos (by omega), if_pos (by omega), if_pos (by omega), rd_L, rd_L, wrap_next (show i < xs.length by omega) (by omega)]
    · rw [if_neg c, if_neg c] at e
      refine Ev3.step (fun K u v hK => ?_) e
      rw [impl_decodeWord.l1_eq, if_pos (by omega), if_pos (by omega), if_pos (by omega), if_pos (by omega), if_pos (by omega), shr_bit, and_oneV _ (by omega), if_neg (by omega), wrap_next (show i < xs.length by omega) (by omega)]
theorem idec_loop {f : Int} {xs ys : List Int} {k : Nat} (h : WordOk f xs ys (k : Int)) : ∀ d s : Nat, s + d = 2 ^ xs.length →
    Ev2 (fun K u => impl_decodeWord.l0 K u xs ys (k : Int) ((2 ^ xs.length : Nat) : Int) (s : Int) (md f) (gn f) (tw f)) (dcw f xs ys k d s) := by
  have h' := h
  obtain ⟨⟨h1, h2, h3, h4⟩, h5, h6⟩ := h
  have hp := h1.1
  have hq := md_pos hp
  have h1024 : 2 ^ xs.length ≤ 2 ^ 10 := Nat.pow_le_pow_right (by decide) h2
  have h10 : 2 ^ 10 = 1024 := by decide
  intro d
  induction d with
  | zero =>
    intro s hs
    refine Ev2.step (fun K u hK => ?_) (Ev2.now _)
    rw [impl_decodeWord.l0_eq, if_neg (by omega)]
    rfl
  | succ d ih =>
    intro s hs
    have nx := ih (s + 1) (by omega)
    have hw : wrap64 ((s : Int) + 1) = ((s + 1 : Nat) : Int) := by rw [wrap_id (by omega) (by omega)]; omega
    have hpk := pk_len ys xs s xs.length
    have body : Ev3 (fun K u v => impl_decodeWord.l1 K u v xs ys (k : Int) (s : Int) ((2 ^ xs.length : Nat) : Int) (s : Int) xs (xs.length : Int) (xs.length : Int) (md f) (gn f) (tw f) (pk xs s xs.length) (pk ys s xs.length)) (dcw f xs ys k (d + 1) s) := by
      by_cases c : (pk xs s xs.length).length = k
      · obtain ⟨mp, ml⟩ := msg_ok h' s c
        have e1 := ithroughEv (pk_ok h1 s (by omega)) (pk_el h6 s xs.length (by omega)) hpk
        have e2 := fevalManyEv (md f) (gn f) (tw f) (by omega) hq.2 (lag f (pk xs s xs.length) (pk ys s xs.length) (pk xs s xs.length).length) xs mp.2.2.1 h1.2.2.2.1 mp.2.1 (by omega)
        have lev : (evL (md f) (lag f (pk xs s xs.length) (pk ys s xs.length) (pk xs s xs.length).length) xs).length = xs.length := evL_len _ _ _
        have hdf := fun K hK => idifV (evL (md f) (lag f (pk xs s xs.length) (pk ys s xs.length) (pk xs s xs.length).length) xs) ys xs.length (by omega) lev h5 K hK
        have hpd := idec_pad k (by omega) (dfc (evL (md f) (lag f (pk xs s xs.length) (pk ys s xs.length) (pk xs s xs.length).length) xs) ys xs.length) (k - (lag f (pk xs s xs.length) (pk ys s xs.length) (pk xs s xs.length).length).length) (lag f (pk xs s xs.length) (pk ys s xs.length) (pk xs s xs.length).length) (by omega)
        simp only [dcw]
        generalize lag f (pk xs s xs.length) (pk ys s xs.length) (pk xs s xs.length).length = m at e1 e2 hdf hpd ⊢
        generalize evL (md f) m xs = w at e2 hdf hpd ⊢
        have last : Ev3 (fun K u v => (impl_differ.f K w ys).bind (fun rr3 => if rr3 ≤ ((xs.length : Int) - (k : Int)) / 2 then impl_decodeWord.l2 K u K (k : Int) rr3 m else impl_decodeWord.l0 K u xs ys (k : Int) ((2 ^ xs.length : Nat) : Int) ((s + 1 : Nat) : Int) (md f) (gn f) (tw f)))
            (if (pk xs s xs.length).length = k ∧ dfc w ys xs.length ≤ ((xs.length : Int) - (k : Int)) / 2 then (dfc w ys xs.length, true, pad m k) else dcw f xs ys k d (s + 1)) := by
          by_cases c2 : dfc w ys xs.length ≤ ((xs.length : Int) - (k : Int)) / 2
          · rw [if_pos ⟨c, c2⟩]
            obtain ⟨B, hB⟩ := Ev2.enter hpd
            exact ⟨B + 200, fun K u v hK hu hv => by
              simp only [hdf K (by omega), bs]
              rw [if_pos c2]; exact hB K u (by omega) (by omega)⟩
          · rw [if_neg (fun g => c2 g.2)]
            obtain ⟨B, hB⟩ := nx
            exact ⟨B + 200, fun K u v hK hu hv => by
              simp only [hdf K (by omega), bs]
              rw [if_neg c2]; exact hB K u (by omega) (by omega)⟩
        refine Ev3.step (fun K u v hK => ?_) (Ev3.bind (f := fun K => impl_field__through.f K (md f) (gn f) (tw f) (pk xs s xs.length) (pk ys s xs.length)) (g := fun x K u v => (impl_field__evalMany.f K (md f) (gn f) (tw f) x xs).bind (fun rr2 => (impl_differ.f K rr2 ys).bind (fun rr3 => if rr3 ≤ ((xs.length : Int) - (k : Int)) / 2 then impl_decodeWord.l2 K u K (k : Int) rr3 x else impl_decodeWord.l0 K u xs ys (k : Int) ((2 ^ xs.length : Nat) : Int) ((s + 1 : Nat) : Int) (md f) (gn f) (tw f)))) e1
          (Ev3.bind (f := fun K => impl_field__evalMany.f K (md f) (gn f) (tw f) m xs) (g := fun y K u v => (impl_differ.f K y ys).bind (fun rr3 => if rr3 ≤ ((xs.length : Int) - (k : Int)) / 2 then impl_decodeWord.l2 K u K (k : Int) rr3 m else impl_decodeWord.l0 K u xs ys (k : Int) ((2 ^ xs.length : Nat) : Int) ((s + 1 : Nat) : Int) (md f) (gn f) (tw f))) e2 last))
        rw [impl_decodeWord.l1_eq, if_neg (by omega), if_neg (by omega), half_int (by omega) (by omega), hw]
      · have e0 : dcw f xs ys k (d + 1) s = dcw f xs ys k d (s + 1) := by
          simp only [dcw]
          rw [if_neg (fun g => c g.1)]
        rw [e0]
        refine Ev3.step (fun K u v hK => ?_) (Ev3.leave nx)
        rw [impl_decodeWord.l1_eq, if_neg (by omega), if_pos (by omega), hw]
    have := idec_pick f xs ys h5 h2 (k : Int) ((2 ^ xs.length : Nat) : Int) s (by omega) _ body xs.length 0 (by omega)
    refine Ev2.step (fun K u hK => ?_) (Ev2.enter this)
    rw [impl_decodeWord.l0_eq, if_pos (by omega)]
    rfl
/-- What DecodeWord answers. -/
def dcR (f : Int) (xs ys : List Int) (k : Int) : Int × Bool × List Int := if WordOk f xs ys k then dcw f xs ys k.toNat (2 ^ xs.length) 0 else (0, false, [])
theorem icodeV (f : Int) (xs : List Int) (k : Int) (K : Nat) (hK : 210 ≤ K) : impl_codeField.f K f xs k = some (if PointsOk f xs ∧ xs.length ≤ 10 ∧ 1 ≤ k ∧ k ≤ (xs.length : Int) then (md f, gn f, tw f, true) else (0, 0, 0, false)) := by
  obtain ⟨K, rfl⟩ : ∃ m, K = m + 1 := ⟨K - 1, by omega⟩
  rw [impl_codeField.f_eq, pointFieldV f xs K (by omega), bs]
  simp only [impl_codeField.j0_eq]
  by_cases c : PointsOk f xs
  · rw [if_pos c]
    simp only [Bool.not_true, Bool.false_eq_true, if_false, if_true]
    by_cases c1 : (xs.length : Int) > 10
    · rw [if_pos c1, if_neg (fun h => by have := h.2.1; omega)]
    · rw [if_neg c1]
      by_cases c2 : k < 1
      · rw [if_pos c2, if_neg (fun h => by have := h.2.2.1; omega)]
      · rw [if_neg c2]
        by_cases c3 : k > (xs.length : Int)
        · rw [if_pos (decide_eq_true c3), if_neg (fun h => by have := h.2.2.2; omega)]
        · rw [if_neg (by simpa using c3), if_pos ⟨c, by omega, by omega, by omega⟩]
  · rw [if_neg c, if_neg (show ¬ (PointsOk f xs ∧ xs.length ≤ 10 ∧ 1 ≤ k ∧ k ≤ (xs.length : Int)) from fun h => c h.1)]
    simp only [Bool.not_false, if_true]
theorem idecEv (f : Int) (xs ys : List Int) (k : Int) (hy : ys.length ≤ 1000000) : Ev (fun K => impl_decodeWord.f K f xs ys k) (dcR f xs ys k) := by
  unfold dcR
  by_cases c : WordOk f xs ys k
  · rw [if_pos c]
    have c' := c
    obtain ⟨⟨h1, h2, h3, h4⟩, h5, h6⟩ := c'
    obtain ⟨n, rfl⟩ := Int.eq_ofNat_of_zero_le (show 0 ≤ k by omega)
    have e := idec_loop c (2 ^ xs.length) 0 (by omega)
    refine Ev.step (fun K hK => ?_) (Ev.enter e)
    rw [impl_decodeWord.f_eq, icodeV f xs _ K (by omega), if_pos ⟨h1, h2, h3, h4⟩]
    simp only [bs, Bool.not_true, Bool.false_eq_true, if_false]
    rw [if_neg (by omega), areElV _ _ _ ys (by omega) K (by omega), decide_eq_true h6, bs, if_neg (by decide), if_pos (by omega), if_pos (by omega), shl1 xs.length (by omega)]
    rfl
  · rw [if_neg c]
    refine ⟨1000300, fun K hK => ?_⟩
    obtain ⟨K, rfl⟩ : ∃ m, K = m + 1 := ⟨K - 1, by omega⟩
    show impl_decodeWord.f (K + 1) f xs ys k = _
    rw [impl_decodeWord.f_eq, icodeV f xs _ K (by omega)]
    by_cases d : PointsOk f xs ∧ xs.length ≤ 10 ∧ 1 ≤ k ∧ k ≤ (xs.length : Int)
    · rw [if_pos d]
      simp only [bs, Bool.not_true, Bool.false_eq_true, if_false]
      by_cases h : (ys.length : Int) = (xs.length : Int)
      · rw [if_neg (by omega), areElV _ _ _ ys (by omega) K (by omega), decide_eq_false (fun g => c ⟨d, by omega, g⟩), bs, if_pos (by decide)]
      · rw [if_pos h]
    · rw [if_neg d]
      simp only [bs, Bool.not_false, if_true]
/- The reference. -/
theorem scodeV (f : Int) (xs : List Int) (k : Int) (hx : xs.length ≤ 1000000) (K : Nat) (hK : 300 ≤ K) : spec_l07Code.f K f xs k = some (decide (PointsOk f xs ∧ xs.length ≤ 10 ∧ 1 ≤ k ∧ k ≤ (xs.length : Int))) := by
  obtain ⟨K, rfl⟩ : ∃ m, K = m + 1 := ⟨K - 1, by omega⟩
  rw [spec_l07Code.f_eq]
  by_cases c1 : (xs.length : Int) ≤ 10
  · rw [if_pos c1, ptsV f xs (by omega) K (by omega), bs]
    by_cases c : PointsOk f xs
    · rw [decide_eq_true c, if_pos rfl, inV _ _ _ K (by omega), bs]
      congr 1
      exact decide_eq_decide.mpr ⟨fun h => ⟨c, by omega, h.1, h.2⟩, fun h => ⟨h.2.2.1, h.2.2.2⟩⟩
    · rw [decide_eq_false c, if_neg (by decide), decide_eq_false (fun h => c h.1)]
  · rw [if_neg c1, decide_eq_false (fun h => c1 (by have := h.2.1; omega))]
theorem sencEv (f : Int) (xs m : List Int) (k : Nat) (h : PointsOk f xs) (h2 : xs.length ≤ 10) (hk : 1 ≤ k) (hk2 : k ≤ xs.length) (mp : PolyOk f m) (ml : m.length ≤ k) : Ev (fun K => spec_EncodeWord.f K f xs (pad m k)) (evL (md f) m xs) := by
  have hp := h.1
  have hq := md_pos hp
  have lp := pad_len m k ml
  have key : ∀ (d i : Nat) (s : List Int), i + d = xs.length → s.length = i → Ev2 (fun K u => spec_EncodeWord.l0 K u f xs (pad m k) (i : Int) s) (s ++ evL (md f) m (xs.drop i)) := by
    intro d
    induction d with
    | zero =>
      intro i s hi hs
      rw [List.drop_eq_nil_of_le (by omega)]
      refine Ev2.step (fun K u hK => ?_) (Ev2.now _)
      rw [spec_EncodeWord.l0_eq, if_neg (by omega)]
      simp only [evL, List.map_nil, List.append_nil]
    | succ d ih =>
      intro i s hi hs
      have hr := h.2.2.2.1.at i (by omega)
      have e := evalPEv f m xs[i] mp hr.1 hr.2
      have e2 := ih (i + 1) (s ++ [evN (md f) m xs[i] m.length]) (by omega) (by simp [hs])
      rw [List.append_assoc] at e2
      rw [drop_cons xs i (by omega)]
      refine Ev2.step (fun K u hK => ?_) (Ev2.bind (f := fun k => spec_EvalPoly.f k f m xs[i]) (g := fun x K u => spec_EncodeWord.l0 K u f xs (pad m k) ((i + 1 : Nat) : Int) (s ++ [x])) e e2)
      rw [spec_EncodeWord.l0_eq, if_pos (by omega), cutV (pad m k) (by omega) K (by omega), pad_tr mp.tr, bs, if_pos (by omega), if_pos (by omega), rd_at xs i (by omega)]
      congr 1
      funext x
      rw [if_pos (by omega), wrap_next (show i < xs.length by omega) (by omega)]
  have e := key xs.length 0 [] (by omega) rfl
  rw [List.nil_append, List.drop_zero] at e
  refine Ev.step (fun K hK => ?_) (Ev.enter e)
  rw [spec_EncodeWord.f_eq, scodeV f xs _ (by omega) K (by omega), decide_eq_true (show PointsOk f xs ∧ xs.length ≤ 10 ∧ 1 ≤ ((pad m k).length : Int) ∧ ((pad m k).length : Int) ≤ (xs.length : Int) from ⟨h, h2, by omega, by omega⟩), bs, if_neg (by decide), elemsV f (pad m k) (by omega) K (by omega), decide_eq_true (show md f ≠ 0 ∧ El (md f) (pad m k) from ⟨hp, pad_el (by omega) mp.2.2.1 k⟩), bs, if_neg (by decide)]
  rfl
theorem sdec_pad (f : Int) (xs ys : List Int) (k : Nat) (hk : k ≤ 100) (s : Int) (R : Int × Bool × List Int) (M : List Int)
    (cont : Ev3 (fun K u v => spec_DecodeWord.l2 K u v f xs ys (k : Int) (xs.length : Int) s (pad M k)) R) : ∀ (d : Nat) (l : List Int), l.length + d = k → pad l k = pad M k → Ev3 (fun K u v => spec_DecodeWord.l2 K u v f xs ys (k : Int) (xs.length : Int) s l) R := by
  intro d
  induction d with
  | zero =>
    intro l hl hp
    have : pad l k = l := by unfold pad; rw [show k - l.length = 0 by omega]; simp
    rw [← this, hp]
    exact cont
  | succ d ih =>
    intro l hl hp
    have e1 := ih (l ++ [0]) (by simp; omega) (by rw [pad_step l k (by omega), hp])
    refine Ev3.step (fun K u v hK => ?_) e1
    rw [spec_DecodeWord.l2_eq, if_pos (by omega), if_pos (by omega)]
theorem u64_small (i : Nat) (h : i ≤ 1000) : IntKind.u64.wrap (i : Int) = (i : Int) := by
  show (i : Int) % 18446744073709551616 = _
  omega
theorem sdec_pick (f : Int) (xs ys : List Int) (hl : ys.length = xs.length) (hn : xs.length ≤ 10) (k : Int) (s : Nat) (hs : s < 2000) (R : Int × Bool × List Int)
    (cont : Ev3 (fun K u v => spec_DecodeWord.l1 K u v f xs ys k (xs.length : Int) (s : Int) (xs.length : Int) (pk xs s xs.length) (pk ys s xs.length)) R) :
    ∀ d i : Nat, i + d = xs.length → Ev3 (fun K u v => spec_DecodeWord.l1 K u v f xs ys k (xs.length : Int) (s : Int) (i : Int) (pk xs s i) (pk ys s i)) R := by
  intro d
  induction d with
  | zero =>
    intro i hi
    obtain rfl : i = xs.length := by omega
    exact cont
  | succ d ih =>
    intro i hi
    have e := ih (i + 1) (by omega)
    have h1 := pk_le xs s i
    have h2 := pk_le ys s i
    have ht : Int.tmod (((s / 2 ^ i : Nat) : Int)) 2 = ((s / 2 ^ i % 2 : Nat) : Int) := by
      rw [Int.tmod_eq_emod_of_nonneg (Int.natCast_nonneg _)]
      rfl
    simp only [pk] at e
    by_cases c : s / 2 ^ i % 2 = 1
    · rw [if_pos c, if_pos c] at e
      refine Ev3.step (fun K u v hK => ?_) e
      rw [spec_DecodeWord.l1_eq, if_pos (by omega), u64_small i (by omega), if_pos (by omega), if_pos (by omega), shr_bit, ht, if_pos (by omega), if_pos (by omega), if_pos (by omega), if_pos (by omega), if_pos (by omega), if_pos (by omega), if_pos (by omega), rd_L, rd_L, wrap_next (show i < xs.length by omega) (by omega)]
    · rw [if_neg c, if_neg c] at e
      refine Ev3.step (fun K u v hK => ?_) e
      rw [spec_DecodeWord.l1_eq, if_pos (by omega), u64_small i (by omega), if_pos (by omega), if_pos (by omega), shr_bit, ht, if_neg (by omega), wrap_next (show i < xs.length by omega) (by omega)]
theorem sdec_loop {f : Int} {xs ys : List Int} {k : Nat} (h : WordOk f xs ys (k : Int)) : ∀ d s : Nat, s + d = 2 ^ xs.length →
    Ev2 (fun K u => spec_DecodeWord.l0 K u f xs ys (k : Int) (xs.length : Int) (s : Int)) (dcw f xs ys k d s) := by
  have h' := h
  obtain ⟨⟨h1, h2, h3, h4⟩, h5, h6⟩ := h
  have hp := h1.1
  have hq := md_pos hp
  have h1024 : 2 ^ xs.length ≤ 2 ^ 10 := Nat.pow_le_pow_right (by decide) h2
  have h10 : 2 ^ 10 = 1024 := by decide
  intro d
  induction d with
  | zero =>
    intro s hs
    refine Ev2.step (fun K u hK => ?_) (Ev2.now _)
    rw [spec_DecodeWord.l0_eq, u64_small xs.length (by omega), if_pos (by omega), if_pos (by omega), shl1 xs.length (by omega), if_neg (by omega)]
    rfl
  | succ d ih =>
    intro s hs
    have nx := ih (s + 1) (by omega)
    have hw : wrap64 ((s : Int) + 1) = ((s + 1 : Nat) : Int) := by rw [wrap_id (by omega) (by omega)]; omega
    have hpk := pk_len ys xs s xs.length
    have body : Ev3 (fun K u v => spec_DecodeWord.l1 K u v f xs ys (k : Int) (xs.length : Int) (s : Int) (xs.length : Int) (pk xs s xs.length) (pk ys s xs.length)) (dcw f xs ys k (d + 1) s) := by
      by_cases c : (pk xs s xs.length).length = k
      · obtain ⟨mp, ml⟩ := msg_ok h' s c
        have e1 : Ev (fun K => spec_l07Through.f K f (pk xs s xs.length) (pk ys s xs.length)) (lag f (pk xs s xs.length) (pk ys s xs.length) (pk xs s xs.length).length) := Ev.step (fun K hK => by rw [spec_l07Through.f_eq]; rfl) (Ev.enter (through_ev (pk_ok h1 s (by omega)) (pk_el h6 s xs.length (by omega)) hpk (pk xs s xs.length).length 0 (by omega)))
        have e2 := sencEv f xs (lag f (pk xs s xs.length) (pk ys s xs.length) (pk xs s xs.length).length) k h1 h2 (by omega) (by omega) mp ml
        have lev : (evL (md f) (lag f (pk xs s xs.length) (pk ys s xs.length) (pk xs s xs.length).length) xs).length = xs.length := evL_len _ _ _
        have hdf := fun K hK => sdifV (evL (md f) (lag f (pk xs s xs.length) (pk ys s xs.length) (pk xs s xs.length).length) xs) ys xs.length (by omega) lev h5 K hK
        simp only [dcw]
        generalize lag f (pk xs s xs.length) (pk ys s xs.length) (pk xs s xs.length).length = m at e1 e2 hdf mp ml ⊢
        generalize evL (md f) m xs = w at e2 hdf ⊢
        have lpd := pad_len m k ml
        have last : Ev3 (fun K u v => (spec_Differ.f K w ys).bind (fun rr3 => if rr3 ≤ ((xs.length : Int) - (k : Int)) / 2 then some (rr3, true, pad m k) else spec_DecodeWord.l0 K u f xs ys (k : Int) (xs.length : Int) ((s + 1 : Nat) : Int)))
            (if (pk xs s xs.length).length = k ∧ dfc w ys xs.length ≤ ((xs.length : Int) - (k : Int)) / 2 then (dfc w ys xs.length, true, pad m k) else dcw f xs ys k d (s + 1)) := by
          by_cases c2 : dfc w ys xs.length ≤ ((xs.length : Int) - (k : Int)) / 2
          · rw [if_pos ⟨c, c2⟩]
            exact ⟨200, fun K u v hK hu hv => by
              simp only [hdf K (by omega), bs]
              rw [if_pos c2]⟩
          · rw [if_neg (fun g => c2 g.2)]
            obtain ⟨B, hB⟩ := nx
            exact ⟨B + 200, fun K u v hK hu hv => by
              simp only [hdf K (by omega), bs]
              rw [if_neg c2]; exact hB K u (by omega) (by omega)⟩
        have fin : Ev3 (fun K u v => spec_DecodeWord.l2 K u v f xs ys (k : Int) (xs.length : Int) (s : Int) (pad m k)) (if (pk xs s xs.length).length = k ∧ dfc w ys xs.length ≤ ((xs.length : Int) - (k : Int)) / 2 then (dfc w ys xs.length, true, pad m k) else dcw f xs ys k d (s + 1)) := by
          refine Ev3.step (fun K u v hK => ?_) (Ev3.bind (f := fun K => spec_EncodeWord.f K f xs (pad m k)) (g := fun y K u v => (spec_Differ.f K y ys).bind (fun rr3 => if rr3 ≤ ((xs.length : Int) - (k : Int)) / 2 then some (rr3, true, pad m k) else spec_DecodeWord.l0 K u f xs ys (k : Int) (xs.length : Int) ((s + 1 : Nat) : Int))) e2 last)
          rw [spec_DecodeWord.l2_eq, if_neg (by omega), half_int (by omega) (by omega), hw]
        have pd := sdec_pad f xs ys k (by omega) (s : Int) _ m fin (k - m.length) m (by omega) rfl
        obtain ⟨B, hB⟩ := Ev2.enter pd
        refine Ev3.step (fun K u v hK => ?_) (Ev3.bind (f := fun K => spec_l07Through.f K f (pk xs s xs.length) (pk ys s xs.length)) (g := fun x K u v => spec_DecodeWord.l2 K u K f xs ys (k : Int) (xs.length : Int) (s : Int) x) e1 ⟨B, fun K u v hK hu hv => hB K u hK hu⟩)
        rw [spec_DecodeWord.l1_eq, if_neg (by omega), if_neg (by omega)]
      · have e0 : dcw f xs ys k (d + 1) s = dcw f xs ys k d (s + 1) := by
          simp only [dcw]
          rw [if_neg (fun g => c g.1)]
        rw [e0]
        refine Ev3.step (fun K u v hK => ?_) (Ev3.leave nx)
        rw [spec_DecodeWord.l1_eq, if_neg (by omega), if_pos (by omega), hw]
    have := sdec_pick f xs ys h5 h2 (k : Int) s (by omega) _ body xs.length 0 (by omega)
    refine Ev2.step (fun K u hK => ?_) (Ev2.enter this)
    rw [spec_DecodeWord.l0_eq, u64_small xs.length (by omega), if_pos (by omega), if_pos (by omega), shl1 xs.length (by omega), if_pos (by omega)]
    rfl
theorem sdecEv (f : Int) (xs ys : List Int) (k : Int) (hx : xs.length ≤ 1000000) (hy : ys.length ≤ 1000000) : Ev (fun K => spec_DecodeWord.f K f xs ys k) (dcR f xs ys k) := by
  unfold dcR
  by_cases c : WordOk f xs ys k
  · rw [if_pos c]
    have c' := c
    obtain ⟨⟨h1, h2, h3, h4⟩, h5, h6⟩ := c'
    obtain ⟨n, rfl⟩ := Int.eq_ofNat_of_zero_le (show 0 ≤ k by omega)
    have e := sdec_loop c (2 ^ xs.length) 0 (by omega)
    refine Ev.step (fun K hK => ?_) (Ev.enter e)
    rw [spec_DecodeWord.f_eq, scodeV f xs _ hx K (by omega), decide_eq_true (show PointsOk f xs ∧ xs.length ≤ 10 ∧ 1 ≤ (n : Int) ∧ (n : Int) ≤ (xs.length : Int) from ⟨h1, h2, h3, h4⟩), bs, if_neg (by decide), if_neg (by omega), elemsV f ys (by omega) K (by omega), decide_eq_true (show md f ≠ 0 ∧ El (md f) ys from ⟨h1.1, h6⟩), bs, if_neg (by decide)]
    rfl
  · rw [if_neg c]
    refine ⟨1000300, fun K hK => ?_⟩
    obtain ⟨K, rfl⟩ : ∃ m, K = m + 1 := ⟨K - 1, by omega⟩
    show spec_DecodeWord.f (K + 1) f xs ys k = _
    rw [spec_DecodeWord.f_eq, scodeV f xs _ hx K (by omega), bs]
    by_cases d : PointsOk f xs ∧ xs.length ≤ 10 ∧ 1 ≤ k ∧ k ≤ (xs.length : Int)
    · rw [decide_eq_true d, if_neg (by decide)]
      by_cases h : (ys.length : Int) = (xs.length : Int)
      · rw [if_neg (by omega), elemsV f ys (by omega) K (by omega), decide_eq_false (fun g : md f ≠ 0 ∧ El (md f) ys => c ⟨d, by omega, g.2⟩), bs, if_pos (by decide)]
      · rw [if_pos h]
    · rw [decide_eq_false d, if_pos (by decide)]
end Go.Vm.Pu
namespace Go.Vm.Pu
open Go Go.RowKit Go.Vm
set_option linter.unusedVariables false
set_option linter.unusedSimpArgs false
abbrev Res := Int × List Int × List Int
/-- The answer of a job that is valid. -/
def fin (ok : Bool) (out more : List Int) : Res := if ok = true then (0, out, more) else (2, [], [])
theorem fin_len (ok : Bool) (out more : List Int) (N : Nat) (h1 : out.length ≤ N) (h2 : more.length ≤ N) : (fin ok out more).2.1.length ≤ N ∧ (fin ok out more).2.2.length ≤ N := by
  unfold fin
  split
  · exact ⟨h1, h2⟩
  · exact ⟨Nat.zero_le _, Nat.zero_le _⟩
theorem ij0 (k : Nat) (ok : Bool) (out more : List Int) : impl_runJob.j0 k ok 0 0 out more = some (fin ok out more) := by
  rw [impl_runJob.j0_eq]
  cases ok <;> rfl
theorem sj0 (k : Nat) (ok : Bool) (out more : List Int) : spec_RunJob.j0 k ok 0 out more = some (fin ok out more) := by
  rw [spec_RunJob.j0_eq]
  cases ok <;> rfl
theorem ivecOkV (f : Int) (v : List Int) (hv : v.length ≤ 2000000) (k : Nat) (hk : 700 ≤ k) : impl_VectorOk.f k f v = some (decide (VecP f v)) := by
  obtain ⟨k, rfl⟩ : ∃ m, k = m + 1 := ⟨k - 1, by omega⟩
  rw [impl_VectorOk.f_eq, ivfOne f v hv k (by omega), bs]
  by_cases c : VecP f v
  · rw [if_pos c, decide_eq_true c]
  · rw [if_neg c, decide_eq_false c]
theorem ipolyOkV (f : Int) (v : List Int) (k : Nat) (hk : 702 ≤ k) : impl_PolyOk.f k f v = some (decide (PolyOk f v)) := by
  obtain ⟨k, rfl⟩ : ∃ m, k = m + 1 := ⟨k - 1, by omega⟩
  rw [impl_PolyOk.f_eq, polyFieldV f [v] (by simp) k (by omega), bs]
  have hlok : md f ≠ 0 ∧ AllLok (md f) [v] ↔ PolyOk f v := ⟨fun g => ⟨g.1, g.2 v List.mem_cons_self⟩, fun g => ⟨g.1, AllLok.cons g.2 (AllLok.nil _)⟩⟩
  by_cases c : PolyOk f v
  · rw [if_pos (hlok.2 c), decide_eq_true c]
  · rw [if_neg (fun h => c (hlok.1 h)), decide_eq_false c]
theorem itwoV (f : Int) (a b : List Int) (ha : a.length ≤ 2000000) (hb : b.length ≤ 2000000) (k : Nat) (hk : 700 ≤ k) :
    impl_vectorField.f k f [a, b] = some (if Vec2 f a b then md f else 0, if Vec2 f a b then gn f else 0, if Vec2 f a b then tw f else 0, decide (Vec2 f a b)) := by
  rw [ivfTwo f a b ha hb k (by omega)]
  by_cases c : Vec2 f a b
  · rw [if_pos (show VecP f a ∧ VecP f b ∧ a.length = b.length from c), if_pos c, if_pos c, if_pos c, decide_eq_true c]
  · rw [if_neg (show ¬ (VecP f a ∧ VecP f b ∧ a.length = b.length) from c), if_neg c, if_neg c, if_neg c, decide_eq_false c]
/-- Both divide alike. -/
theorem dmBoth (f : Int) (a b : List Int) (ha : a.length ≤ 10000) (hb : b.length ≤ 10000) : ∃ R : Bool × List Int × List Int, Ev (fun k => impl_DivMod.f k f a b) R ∧ Ev (fun k => spec_DivMod.f k f a b) R ∧ R.2.1.length ≤ 10000 ∧ R.2.2.length ≤ 10000 := by
  by_cases c : PolyOk f a ∧ PolyOk f b ∧ b.length ≠ 0
  · obtain ⟨pa, pb, z⟩ := c
    obtain ⟨q, r, hd, he⟩ := sdivEv f a b pa.1 (by omega) pa.2.2.1 pb.2.2.1 pb.tr (by omega) (by omega)
    obtain ⟨x, y, hd', he'⟩ := idmEv f a b pa pb (by omega)
    obtain ⟨pq, pr⟩ := hd.polys pa pb
    have hself := (only_one pa pb pq pr z hd).1 ⟨rfl, rfl⟩
    obtain ⟨rfl, rfl⟩ := (only_one pa pb pq pr z hd').2 hself
    have l1 := pq.2.1
    have l2 := pr.2.1
    refine ⟨(true, x, y), he', ?_, by show x.length ≤ _; omega, by show y.length ≤ _; omega⟩
    obtain ⟨B, hB⟩ := he
    refine ⟨B + 10010, fun k hk => ?_⟩
    obtain ⟨k, rfl⟩ : ∃ m, k = m + 1 := ⟨k - 1, by omega⟩
    have hB' : spec_l03DivMod.f k f a b = some (x, y) := hB k (by omega)
    show spec_DivMod.f (k + 1) f a b = _
    rw [spec_DivMod.f_eq, polyV f a (by omega) k (by omega), decide_eq_true pa, bs, if_neg (by decide), polyV f b (by omega) k (by omega), decide_eq_true pb, bs, if_neg (by decide), if_neg (by omega), hB', bs]
  · refine ⟨(false, [], []), ⟨10010, fun k hk => ?_⟩, ⟨10010, fun k hk => ?_⟩, by simp, by simp⟩
    · obtain ⟨k, rfl⟩ : ∃ m, k = m + 1 := ⟨k - 1, by omega⟩
      show impl_DivMod.f (k + 1) f a b = _
      rw [impl_DivMod.f_eq, polyFieldV f [a, b] (by simp) k (by omega), bs]
      by_cases d : md f ≠ 0 ∧ AllLok (md f) [a, b]
      · have pa : PolyOk f a := ⟨d.1, d.2 a (by simp)⟩
        have pb : PolyOk f b := ⟨d.1, d.2 b (by simp)⟩
        rw [if_pos d, if_neg (by simp), if_pos]
        by_cases z : b.length = 0
        · omega
        · exact absurd ⟨pa, pb, z⟩ c
      · rw [if_neg d, if_pos (by decide)]
    · obtain ⟨k, rfl⟩ : ∃ m, k = m + 1 := ⟨k - 1, by omega⟩
      show spec_DivMod.f (k + 1) f a b = _
      rw [spec_DivMod.f_eq, polyV f a (by omega) k (by omega), bs]
      by_cases pa : PolyOk f a
      · rw [decide_eq_true pa, if_neg (by decide), polyV f b (by omega) k (by omega), bs]
        by_cases pb : PolyOk f b
        · rw [decide_eq_true pb, if_neg (by decide), if_pos]
          by_cases z : b.length = 0
          · omega
          · exact absurd ⟨pa, pb, z⟩ c
        · rw [decide_eq_false pb, if_pos (by decide)]
      · rw [decide_eq_false pa, if_pos (by decide)]
theorem dcw_len (f : Int) (xs ys : List Int) (k : Nat) (hw : WordOk f xs ys (k : Int)) : ∀ d s, (dcw f xs ys k d s).2.2.length ≤ 10000
  | 0, s => Nat.zero_le _
  | d + 1, s => by
    simp only [dcw]
    split
    · rename_i h
      have h1 := (msg_ok hw s h.1).2
      have h2 := hw.1.2.2.2
      have h3 := hw.1.2.1
      show (pad _ k).length ≤ _
      rw [pad_len _ _ h1]
      omega
    · exact dcw_len f xs ys k hw d (s + 1)
theorem dcR_len (f : Int) (xs ys : List Int) (k : Int) : (dcR f xs ys k).2.2.length ≤ 10000 := by
  unfold dcR
  split
  · rename_i h
    have hk : ((k.toNat : Nat) : Int) = k := Int.toNat_of_nonneg (by have := h.1.2.2.1; omega)
    exact dcw_len f xs ys k.toNat (by rw [hk]; exact h) _ _
  · exact Nat.zero_le _
theorem emR_len (f : Int) (a xs : List Int) : (emR f a xs).length ≤ 10000 := by
  unfold emR
  split
  · rename_i h
    rw [evL_len]
    omega
  · exact Nat.zero_le _
theorem mpR_len (f : Int) (a b : List Int) : (mpR f a b).2.length ≤ 10000 := by
  unfold mpR
  split
  · rename_i h
    show (mulP (md f) a b).length ≤ _
    omega
  · exact Nat.zero_le _
theorem cxR_len (a b : List Int) : (cxR a b).2.length ≤ 10000 := by
  unfold cxR
  split
  · rename_i h
    have h1 := h.1.1
    have h2 := h.2.1
    show (if _ then [] else cvx a b).length ≤ _
    split
    · exact Nat.zero_le _
    · unfold cvx
      rw [fl_length]
      omega
  · exact Nat.zero_le _
theorem siR_len (f : Int) (a : List Int) : (siR f a).2.length ≤ 10000 := by
  unfold siR
  split
  · rename_i h
    have := h.1.2.2.1
    show (siL _ _ _ _).length ≤ _
    rw [siL_len]
    omega
  · exact Nat.zero_le _
theorem ite_len {c : Prop} [Decidable c] (l : List Int) (N : Nat) (h : c → l.length ≤ N) : (if c then l else []).length ≤ N := by
  split
  · rename_i q
    exact h q
  · exact Nat.zero_le _
/-- Both programs answer a job alike. -/
theorem runBoth (a f : Int) (A B : List Int) (n : Int) (hA : A.length ≤ 1000000) (hB : B.length ≤ 1000000) :
    ∃ R : Res, Ev (fun k => impl_runJob.f k a f A B n) R ∧ Ev (fun k => spec_RunJob.f k a f A B n) R ∧ R.2.1.length ≤ 10000 ∧ R.2.2.length ≤ 10000 := by
  by_cases h : JobP a f A B n
  case neg =>
    refine ⟨(1, [], []), ⟨2000100, fun k hk => ?_⟩, ⟨2000100, fun k hk => ?_⟩, Nat.zero_le _, Nat.zero_le _⟩
    · obtain ⟨k, rfl⟩ : ∃ m, k = m + 1 := ⟨k - 1, by omega⟩
      show impl_runJob.f (k + 1) a f A B n = _
      rw [impl_runJob.f_eq, ijobOk_f a f A B n (by omega) (by omega) k (by omega), decide_eq_false h, bs, if_pos (by decide)]
    · obtain ⟨k, rfl⟩ : ∃ m, k = m + 1 := ⟨k - 1, by omega⟩
      show spec_RunJob.f (k + 1) a f A B n = _
      rw [spec_RunJob.f_eq, sjobOk_f a f A B n (by omega) (by omega) k (by omega), decide_eq_false h, bs, if_pos (by decide)]
  have lA : A.length ≤ 400 := h.2.2.2.1.1
  have lB : B.length ≤ 400 := h.2.2.2.2.1.1
  have lAz : A.length ≤ 10000 := by omega
  have lBz : B.length ≤ 10000 := by omega
  have e0 : ∀ k, 5000 ≤ k → impl_isJob.f k a f A B n = some true := fun k hk => by rw [ijobOk_f a f A B n (by omega) (by omega) k (by omega), decide_eq_true h]
  have s0 : ∀ k, 5000 ≤ k → spec_JobOk.f k a f A B n = some true := fun k hk => by rw [sjobOk_f a f A B n (by omega) (by omega) k (by omega), decide_eq_true h]
  have h11 : a = 1 ∨ a = 2 ∨ a = 3 ∨ a = 4 ∨ a = 5 ∨ a = 6 ∨ a = 7 ∨ a = 8 ∨ a = 9 ∨ a = 10 ∨ a = 11 := by have := h.1; omega
  rcases h11 with rfl | rfl | rfl | rfl | rfl | rfl | rfl | rfl | rfl | rfl | rfl
  · refine ⟨fin (decide (VecP f A)) (if VecP f A then fwd f A else []) [], ?_, ?_, fin_len _ _ _ _ (ite_len _ _ (fun _ => by rw [fwd_len]; omega)) (Nat.zero_le _)⟩
    · refine Ev.step (fun k hk => ?_) (Ev.bind (f := fun k => impl_Forward.f k f A) (g := fun x k => some (fin (decide (VecP f A)) x [])) (iForwardEv f A hA) (Ev.now _))
      rw [impl_runJob.f_eq, e0 k hk, bs, if_neg (by decide), if_pos rfl]
      simp only [ivecOkV f A (by omega) k (by omega), bs, ij0]
    · refine Ev.step (fun k hk => ?_) (Ev.bind (f := fun k => spec_Forward.f k f A) (g := fun x k => some (fin (decide (VecP f A)) x [])) (sforwardEv f A hA) (Ev.now _))
      rw [spec_RunJob.f_eq, s0 k hk, bs, if_neg (by decide), if_pos rfl]
      simp only [svecV f A (by omega) k (by omega), bs, sj0]
  · refine ⟨fin (decide (VecP f A)) (if VecP f A then bwd f A else []) [], ?_, ?_, fin_len _ _ _ _ (ite_len _ _ (fun _ => by unfold bwd; rw [fl_length]; omega)) (Nat.zero_le _)⟩
    · refine Ev.step (fun k hk => ?_) (Ev.bind (f := fun k => impl_Backward.f k f A) (g := fun x k => some (fin (decide (VecP f A)) x [])) (iBackwardEv f A hA) (Ev.now _))
      rw [impl_runJob.f_eq, e0 k hk, bs, if_neg (by decide)]
      repeat rw [if_neg (by decide)]
      rw [if_pos rfl]
      simp only [ivecOkV f A (by omega) k (by omega), bs, ij0]
    · refine Ev.step (fun k hk => ?_) (Ev.bind (f := fun k => spec_Backward.f k f A) (g := fun x k => some (fin (decide (VecP f A)) x [])) (sBackwardEv f A hA) (Ev.now _))
      rw [spec_RunJob.f_eq, s0 k hk, bs, if_neg (by decide)]
      repeat rw [if_neg (by decide)]
      rw [if_pos rfl]
      simp only [svecV f A (by omega) k (by omega), bs, sj0]
  · refine ⟨fin (decide (Vec2 f A B)) (if Vec2 f A B then cyc (md f) A B else []) [], ?_, ?_, fin_len _ _ _ _ (ite_len _ _ (fun _ => by unfold cyc; rw [fl_length]; omega)) (Nat.zero_le _)⟩
    · refine Ev.step (fun k hk => ?_) (Ev.bind (f := fun k => impl_Cyclic.f k f A B) (g := fun x k => some (fin (decide (Vec2 f A B)) x [])) (iCyclicEv f A B hA hB) (Ev.now _))
      rw [impl_runJob.f_eq, e0 k hk, bs, if_neg (by decide)]
      repeat rw [if_neg (by decide)]
      rw [if_pos rfl]
      simp only [itwoV f A B (by omega) (by omega) k (by omega), bs, ij0]
    · refine Ev.step (fun k hk => ?_) (Ev.bind (f := fun k => spec_Cyclic.f k f A B) (g := fun x k => some (fin (decide (Vec2 f A B)) x [])) (sCyclicEv f A B hA hB) (Ev.now _))
      rw [spec_RunJob.f_eq, s0 k hk, bs, if_neg (by decide)]
      repeat rw [if_neg (by decide)]
      rw [if_pos rfl]
      simp only [twoV f A B (by omega) (by omega) k (by omega), bs, sj0]
  · refine ⟨fin (decide (Vec2 f A B)) (if Vec2 f A B then twi (md f) A B else []) [], ?_, ?_, fin_len _ _ _ _ (ite_len _ _ (fun _ => by unfold twi; rw [fl_length]; omega)) (Nat.zero_le _)⟩
    · refine Ev.step (fun k hk => ?_) (Ev.bind (f := fun k => impl_Twisted.f k f A B) (g := fun x k => some (fin (decide (Vec2 f A B)) x [])) (iTwistedEv f A B hA hB) (Ev.now _))
      rw [impl_runJob.f_eq, e0 k hk, bs, if_neg (by decide)]
      repeat rw [if_neg (by decide)]
      rw [if_pos rfl]
      simp only [itwoV f A B (by omega) (by omega) k (by omega), bs, ij0]
    · refine Ev.step (fun k hk => ?_) (Ev.bind (f := fun k => spec_Twisted.f k f A B) (g := fun x k => some (fin (decide (Vec2 f A B)) x [])) (sTwistedEv f A B hA hB) (Ev.now _))
      rw [spec_RunJob.f_eq, s0 k hk, bs, if_neg (by decide)]
      repeat rw [if_neg (by decide)]
      rw [if_pos rfl]
      simp only [twoV f A B (by omega) (by omega) k (by omega), bs, sj0]
  · refine ⟨fin (mpR f A B).1 (mpR f A B).2 [], ?_, ?_, fin_len _ _ _ _ (mpR_len f A B) (Nat.zero_le _)⟩
    · refine Ev.step (fun k hk => ?_) (Ev.bind (f := fun k => impl_MulPoly.f k f A B) (g := fun x k => some (fin x.1 x.2 [])) (iMulPolyEv f A B) (Ev.now _))
      rw [impl_runJob.f_eq, e0 k hk, bs, if_neg (by decide)]
      repeat rw [if_neg (by decide)]
      rw [if_pos rfl]
      simp only [ij0]
    · refine Ev.step (fun k hk => ?_) (Ev.bind (f := fun k => spec_MulPoly.f k f A B) (g := fun x k => some (fin x.1 x.2 [])) (sMulPolyEv f A B hA hB) (Ev.now _))
      rw [spec_RunJob.f_eq, s0 k hk, bs, if_neg (by decide)]
      repeat rw [if_neg (by decide)]
      rw [if_pos rfl]
      simp only [sj0]
  · refine ⟨fin (cxR A B).1 (cxR A B).2 [], ?_, ?_, fin_len _ _ _ _ (cxR_len A B) (Nat.zero_le _)⟩
    · refine Ev.step (fun k hk => ?_) (Ev.bind (f := fun k => impl_ConvExact.f k A B) (g := fun x k => some (fin x.1 x.2 [])) (iConvEv A B hA hB) (Ev.now _))
      rw [impl_runJob.f_eq, e0 k hk, bs, if_neg (by decide)]
      repeat rw [if_neg (by decide)]
      rw [if_pos rfl]
      simp only [ij0]
    · refine Ev.step (fun k hk => ?_) (Ev.bind (f := fun k => spec_ConvExact.f k A B) (g := fun x k => some (fin x.1 x.2 [])) (sConvEv A B hA hB) (Ev.now _))
      rw [spec_RunJob.f_eq, s0 k hk, bs, if_neg (by decide)]
      repeat rw [if_neg (by decide)]
      rw [if_pos rfl]
      simp only [sj0]
  · refine ⟨fin (siR f A).1 (siR f A).2 [], ?_, ?_, fin_len _ _ _ _ (siR_len f A) (Nat.zero_le _)⟩
    · refine Ev.step (fun k hk => ?_) (Ev.bind (f := fun k => impl_SeriesInv.f k f A) (g := fun x k => some (fin x.1 x.2 [])) (iSeriesInvEv f A) (Ev.now _))
      rw [impl_runJob.f_eq, e0 k hk, bs, if_neg (by decide)]
      repeat rw [if_neg (by decide)]
      rw [if_pos rfl]
      simp only [ij0]
    · refine Ev.step (fun k hk => ?_) (Ev.bind (f := fun k => spec_SeriesInv.f k f A) (g := fun x k => some (fin x.1 x.2 [])) (sSeriesInvEv f A hA) (Ev.now _))
      rw [spec_RunJob.f_eq, s0 k hk, bs, if_neg (by decide)]
      repeat rw [if_neg (by decide)]
      rw [if_pos rfl]
      simp only [sj0]
  · refine ⟨fin (decide (PolyOk f A ∧ B.length ≤ 40 ∧ El (md f) B)) (emR f A B) [], ?_, ?_, fin_len _ _ _ _ (emR_len f A B) (Nat.zero_le _)⟩
    · have two : Ev (fun k => if ((B.length : Int) = 0) then (impl_PolyOk.f k f A).bind (fun rr14 => (if rr14 = true then impl_runJob.j0 k true 0 0 (emR f A B) ([] : List Int) else impl_runJob.j0 k (decide (((emR f A B).length : Int) > 0)) 0 0 (emR f A B) ([] : List Int))) else impl_runJob.j0 k (decide (((emR f A B).length : Int) > 0)) 0 0 (emR f A B) ([] : List Int)) (fin (decide (PolyOk f A ∧ B.length ≤ 40 ∧ El (md f) B)) (emR f A B) []) := by
        refine ⟨5000, fun k hk => ?_⟩
        simp only [ij0, ipolyOkV f A k (by omega), bs]
        by_cases z : B.length = 0
        · have hB0 : B = [] := List.length_eq_zero_iff.1 z
          subst hB0
          rw [if_pos (by simp)]
          by_cases c : PolyOk f A
          · rw [decide_eq_true c, if_pos rfl, decide_eq_true ⟨c, by simp, El.nil _⟩]
          · have e : emR f A [] = [] := if_neg (fun q => c q.1)
            rw [decide_eq_false c, if_neg (by decide), e, decide_eq_false (fun q : PolyOk f A ∧ ([] : List Int).length ≤ 40 ∧ El (md f) [] => c q.1)]
            rfl
        · rw [if_neg (by omega)]
          by_cases c : PolyOk f A ∧ B.length ≤ 40 ∧ El (md f) B
          · have e : (emR f A B).length = B.length := by
              unfold emR
              rw [if_pos c, evL_len]
            rw [decide_eq_true c, decide_eq_true (by omega)]
          · have e : emR f A B = [] := if_neg c
            rw [e, decide_eq_false c]
            rfl
      refine Ev.step (fun k hk => ?_) (Ev.bind (f := fun k => impl_EvalMany.f k f A B) (g := fun x k => if ((B.length : Int) = 0) then (impl_PolyOk.f k f A).bind (fun rr14 => (if rr14 = true then impl_runJob.j0 k true 0 0 x ([] : List Int) else impl_runJob.j0 k (decide ((x.length : Int) > 0)) 0 0 x ([] : List Int))) else impl_runJob.j0 k (decide ((x.length : Int) > 0)) 0 0 x ([] : List Int)) (iEvalManyEv f A B hB) two)
      rw [impl_runJob.f_eq, e0 k hk, bs, if_neg (by decide)]
      repeat rw [if_neg (by decide)]
      rw [if_pos rfl]
    · refine Ev.step (fun k hk => ?_) (Ev.bind (f := fun k => spec_EvalMany.f k f A B) (g := fun x k => some (fin (decide (PolyOk f A ∧ B.length ≤ 40 ∧ El (md f) B)) x [])) (sEvalManyEv f A B hA hB) (Ev.now _))
      rw [spec_RunJob.f_eq, s0 k hk, bs, if_neg (by decide)]
      repeat rw [if_neg (by decide)]
      rw [if_pos rfl, polyV f A (by omega) k (by omega), bs]
      simp only [spec_RunJob.j1_eq, sj0]
      by_cases c1 : PolyOk f A
      · rw [decide_eq_true c1, if_pos rfl]
        by_cases c2 : B.length ≤ 40
        · rw [if_pos (by omega), elemsV f B (by omega) k (by omega), bs]
          have e : decide (md f ≠ 0 ∧ El (md f) B) = decide (PolyOk f A ∧ B.length ≤ 40 ∧ El (md f) B) := by
            rw [decide_eq_decide]
            exact ⟨fun q => ⟨c1, c2, q.2⟩, fun q => ⟨c1.1, q.2.2⟩⟩
          rw [e]
        · rw [if_neg (by omega), decide_eq_false (fun q : PolyOk f A ∧ B.length ≤ 40 ∧ El (md f) B => c2 q.2.1)]
      · rw [decide_eq_false c1, if_neg (by decide), decide_eq_false (fun q : PolyOk f A ∧ B.length ≤ 40 ∧ El (md f) B => c1 q.1)]
  · refine ⟨fin (if IntOk f A B then (true, lag f A B A.length) else (false, [])).1 (if IntOk f A B then (true, lag f A B A.length) else (false, [])).2 [], ?_, ?_, fin_len _ _ _ _ (by
      split
      · rename_i q
        have := (lag_ok q.1 q.2.2 _ (Nat.le_refl _)).1.2
        show (lag f A B A.length).length ≤ _
        omega
      · exact Nat.zero_le _) (Nat.zero_le _)⟩
    · refine Ev.step (fun k hk => ?_) (Ev.bind (f := fun k => impl_Interpolate.f k f A B) (g := fun x k => some (fin x.1 x.2 [])) (iinterEv f A B hB) (Ev.now _))
      rw [impl_runJob.f_eq, e0 k hk, bs, if_neg (by decide)]
      repeat rw [if_neg (by decide)]
      rw [if_pos rfl]
      simp only [ij0]
    · refine Ev.step (fun k hk => ?_) (Ev.bind (f := fun k => spec_Interpolate.f k f A B) (g := fun x k => some (fin x.1 x.2 [])) (interEv f A B hA hB) (Ev.now _))
      rw [spec_RunJob.f_eq, s0 k hk, bs, if_neg (by decide)]
      repeat rw [if_neg (by decide)]
      rw [if_pos rfl]
      simp only [sj0]
  · obtain ⟨R, h1, h2, h3, h4⟩ := dmBoth f A B lAz lBz
    refine ⟨fin R.1 R.2.1 R.2.2, ?_, ?_, fin_len _ _ _ _ h3 h4⟩
    · refine Ev.step (fun k hk => ?_) (Ev.bind (f := fun k => impl_DivMod.f k f A B) (g := fun x k => some (fin x.1 x.2.1 x.2.2)) h1 (Ev.now _))
      rw [impl_runJob.f_eq, e0 k hk, bs, if_neg (by decide)]
      repeat rw [if_neg (by decide)]
      rw [if_pos rfl]
      simp only [ij0]
    · refine Ev.step (fun k hk => ?_) (Ev.bind (f := fun k => spec_DivMod.f k f A B) (g := fun x k => some (fin x.1 x.2.1 x.2.2)) h2 (Ev.now _))
      rw [spec_RunJob.f_eq, s0 k hk, bs, if_neg (by decide)]
      repeat rw [if_neg (by decide)]
      rw [if_pos rfl]
      simp only [sj0]
  · refine ⟨fin (dcR f A B n).2.1 (dcR f A B n).2.2 [(dcR f A B n).1], ?_, ?_, fin_len _ _ _ _ (dcR_len f A B n) (by simp)⟩
    · refine Ev.step (fun k hk => ?_) (Ev.bind (f := fun k => impl_decodeWord.f k f A B n) (g := fun x k => some (fin x.2.1 x.2.2 [x.1])) (idecEv f A B n hB) (Ev.now _))
      rw [impl_runJob.f_eq, e0 k hk, bs, if_neg (by decide)]
      repeat rw [if_neg (by decide)]
      rw [if_pos rfl]
      simp only [ij0]
    · refine Ev.step (fun k hk => ?_) (Ev.bind (f := fun k => spec_DecodeWord.f k f A B n) (g := fun x k => some (fin x.2.1 x.2.2 [x.1])) (sdecEv f A B n hA hB) (Ev.now _))
      rw [spec_RunJob.f_eq, s0 k hk, bs, if_neg (by decide)]
      repeat rw [if_neg (by decide)]
      rw [if_pos rfl]
      simp only [sj0]
end Go.Vm.Pu
namespace Go.Vm.Pu
open Go Go.RowKit Go.Vm
set_option linter.unusedVariables false
set_option linter.unusedSimpArgs false
theorem szInts_f (D : List Int) (h : D.length ≤ maxLen) (m : Int) (h0 : 0 ≤ m) (h1 : m ≤ 1048576) (k : Nat) (hk : 1 ≤ k) : laws_szIntS.f k D m = some (if (D.length : Int) ≤ m then m - (D.length : Int) else -1) := by
  obtain ⟨k, rfl⟩ : ∃ m, k = m + 1 := ⟨k - 1, by omega⟩
  unfold maxLen at h
  rw [laws_szIntS.f_eq, wrap_id (x := m - (D.length : Int)) (by omega) (by omega)]
  by_cases c : m - (D.length : Int) < 0
  · rw [if_pos c, if_neg (by omega)]
  · rw [if_neg c, if_pos (by omega)]
theorem szJob_f (a f : Int) (A B : List Int) (n : Int) (hA : A.length ≤ maxLen) (hB : B.length ≤ maxLen) (m : Int) (h0 : 0 ≤ m) (h1 : m ≤ 1048576) (k : Nat) (hk : 2 ≤ k) :
    laws_szJob.f k a f A B n m = some (if (A.length : Int) + (B.length : Int) ≤ m then m - (A.length : Int) - (B.length : Int) else -1) := by
  obtain ⟨k, rfl⟩ : ∃ m, k = m + 1 := ⟨k - 1, by omega⟩
  rw [laws_szJob.f_eq, szInts_f A hA m h0 h1 k (by omega), bs]
  by_cases c : (A.length : Int) ≤ m
  · rw [if_pos c, if_neg (by omega), szInts_f B hB _ (by omega) (by omega) k (by omega), bs]
    by_cases d : (B.length : Int) ≤ m - (A.length : Int)
    · rw [if_pos d, if_neg (by omega), if_pos (by omega)]
    · rw [if_neg d, if_pos (by omega), if_neg (by omega)]
  · rw [if_neg c, if_pos (by omega), if_neg (by omega)]
theorem szRes_f (r : Int) (A B : List Int) (hA : A.length ≤ maxLen) (hB : B.length ≤ maxLen) (m : Int) (h0 : 0 ≤ m) (h1 : m ≤ 1048576) (k : Nat) (hk : 2 ≤ k) :
    laws_szResult.f k r A B m = some (if (A.length : Int) + (B.length : Int) ≤ m then m - (A.length : Int) - (B.length : Int) else -1) := by
  obtain ⟨k, rfl⟩ : ∃ m, k = m + 1 := ⟨k - 1, by omega⟩
  rw [laws_szResult.f_eq, szInts_f A hA m h0 h1 k (by omega), bs]
  by_cases c : (A.length : Int) ≤ m
  · rw [if_pos c, if_neg (by omega), szInts_f B hB _ (by omega) (by omega) k (by omega), bs]
    by_cases d : (B.length : Int) ≤ m - (A.length : Int)
    · rw [if_pos d, if_neg (by omega), if_pos (by omega)]
    · rw [if_neg d, if_pos (by omega), if_neg (by omega)]
  · rw [if_neg c, if_pos (by omega), if_neg (by omega)]
theorem toIntS_f (l : List Int) (hn : l.length ≤ 1048576) (k : Nat) (hk : l.length + 1 < k) : laws_toIntS.f k l = some l := by
  obtain ⟨k, rfl⟩ : ∃ m, k = m + 1 := ⟨k - 1, by omega⟩
  rw [laws_toIntS.f_eq, if_pos (by omega), if_pos (by omega), if_pos (by omega)]
  have := set_loop (fun fu s i => laws_toIntS.l0 k fu l i s) l id 0 (by
    intro fu s _
    simp only [laws_toIntS.l0_eq]
    rw [if_neg (by omega)]) (by
    intro fu i s h _ hs
    simp only [laws_toIntS.l0_eq]
    rw [if_pos (by omega), if_pos (by omega), if_pos (by omega), if_pos (by omega), if_pos (by omega), rd_at l i h, wrap_next h (by omega)]
    rfl) k (List.replicate (Int.toNat (l.length : Int)) (0 : Int)) (by omega) (by simp)
  simpa using this
theorem toJob_f (a f : Int) (A B : List Int) (n : Int) (hA : A.length ≤ 1048576) (hB : B.length ≤ 1048576) (k : Nat) (hk : 1048579 < k) : laws_toJob.f k a f A B n = some (a, f, n, A, B) := by
  obtain ⟨k, rfl⟩ : ∃ m, k = m + 1 := ⟨k - 1, by omega⟩
  rw [laws_toJob.f_eq, toIntS_f A hA k (by omega), bs, toIntS_f B hB k (by omega), bs]
theorem toRes_f (r : Int) (A B : List Int) (hA : A.length ≤ 1048576) (hB : B.length ≤ 1048576) (k : Nat) (hk : 1048579 < k) : laws_toResult.f k r A B = some (r, A, B) := by
  obtain ⟨k, rfl⟩ : ∃ m, k = m + 1 := ⟨k - 1, by omega⟩
  rw [laws_toResult.f_eq, toIntS_f A hA k (by omega), bs, toIntS_f B hB k (by omega), bs]
theorem eqJob_self (a f : Int) (A B : List Int) (n : Int) (hA : A.length ≤ 1048576) (hB : B.length ≤ 1048576) (k : Nat) (hk : 1048579 < k) : laws_eqJob.f k a f A B n a f A B n = some true := by
  obtain ⟨k, rfl⟩ : ∃ m, k = m + 1 := ⟨k - 1, by omega⟩
  rw [laws_eqJob.f_eq, if_neg (by simp), if_neg (by simp), eqIntS_f A hA k (by omega), bs, if_neg (by decide), eqIntS_f B hB k (by omega), bs, if_neg (by decide), if_neg (by simp)]
theorem eqRes_self (r : Int) (A B : List Int) (hA : A.length ≤ 1048576) (hB : B.length ≤ 1048576) (k : Nat) (hk : 1048579 < k) : laws_eqResult.f k r A B r A B = some true := by
  obtain ⟨k, rfl⟩ : ∃ m, k = m + 1 := ⟨k - 1, by omega⟩
  rw [laws_eqResult.f_eq, if_neg (by simp), eqIntS_f A hA k (by omega), bs, if_neg (by decide), eqIntS_f B hB k (by omega), bs, if_neg (by decide)]
theorem sintsV (a b : List Int) (hn : b.length ≤ 2000000) (k : Nat) (hk : b.length + 1 < k) : spec_l16SameInts.f k a b = some (decide (a = b)) := by
  obtain ⟨K, rfl⟩ : ∃ m, k = m + 1 := ⟨k - 1, by omega⟩
  rw [spec_l16SameInts.f_eq]
  by_cases c : (a.length : Int) = (b.length : Int)
  · rw [if_neg (by omega)]
    have key : ∀ (d k i : Nat), i + d = a.length → d < k → spec_l16SameInts.l0 K k a b (i : Int) = some (decide (a.drop i = b.drop i)) := by
      intro d
      induction d with
      | zero =>
        intro k i hi hk
        obtain ⟨k, rfl⟩ : ∃ m, k = m + 1 := ⟨k - 1, by omega⟩
        rw [spec_l16SameInts.l0_eq, if_neg (by omega), List.drop_eq_nil_of_le (by omega), List.drop_eq_nil_of_le (by omega)]
        rfl
      | succ d ih =>
        intro k i hi hk
        obtain ⟨k, rfl⟩ : ∃ m, k = m + 1 := ⟨k - 1, by omega⟩
        rw [spec_l16SameInts.l0_eq, if_pos (by omega), if_pos (by omega), if_pos (by omega), if_pos (by omega), if_pos (by omega), rd_at a i (by omega), rd_at b i (by omega), drop_cons a i (by omega), drop_cons b i (by omega)]
        by_cases e : a[i] = b[i]
        · rw [if_neg (by simpa using e), wrap_next (show i < a.length by omega) (by omega), ih k (i + 1) (by omega) (by omega)]
          congr 1
          exact decide_eq_decide.mpr ⟨fun h => by rw [e, h], fun h => (List.cons.inj h).2⟩
        · rw [if_pos e, decide_eq_false (fun h => e (List.cons.inj h).1)]
    have := key a.length K 0 (by omega) (by omega)
    simpa using this
  · rw [if_pos c, decide_eq_false (fun h => c (by rw [h]))]
theorem ssameV (r x : Res) (h1 : x.2.1.length ≤ 2000000) (h2 : x.2.2.length ≤ 2000000) (k : Nat) (hk : 2000010 ≤ k) : spec_l16SameRes.f k r.1 r.2.1 r.2.2 x.1 x.2.1 x.2.2 = some (decide (r = x)) := by
  obtain ⟨r0, r1, r2⟩ := r
  obtain ⟨x0, x1, x2⟩ := x
  obtain ⟨k, rfl⟩ : ∃ m, k = m + 1 := ⟨k - 1, by omega⟩
  simp only at h1 h2
  simp only [Prod.mk.injEq]
  rw [spec_l16SameRes.f_eq, sintsV r1 x1 h1 k (by omega), bs]
  by_cases c : r0 = x0
  · rw [if_pos c]
    by_cases d : r1 = x1
    · rw [decide_eq_true d, if_pos rfl, sintsV r2 x2 h2 k (by omega), bs]
      congr 1
      rw [decide_eq_decide]
      exact ⟨fun e => ⟨c, d, e⟩, fun e => e.2.2⟩
    · rw [decide_eq_false d, if_neg (by decide), decide_eq_false (fun e => d e.2.1)]
  · rw [if_neg c, decide_eq_false (fun e => c e.1)]
theorem isameV (x r : Res) (h1 : x.2.1.length ≤ 2000000) (h2 : x.2.2.length ≤ 2000000) (k : Nat) (hk : 2000010 ≤ k) : impl_sameResult.f k x.1 x.2.1 x.2.2 r.1 r.2.1 r.2.2 = some (decide (r = x)) := by
  obtain ⟨r0, r1, r2⟩ := r
  obtain ⟨x0, x1, x2⟩ := x
  obtain ⟨k, rfl⟩ : ∃ m, k = m + 1 := ⟨k - 1, by omega⟩
  simp only at h1 h2
  simp only [Prod.mk.injEq]
  rw [impl_sameResult.f_eq, equalV x1 r1 h1 k (by omega), bs]
  by_cases c : x0 = r0
  · rw [if_pos c]
    by_cases d : x1 = r1
    · rw [decide_eq_true d, if_pos rfl, equalV x2 r2 h2 k (by omega), bs]
      congr 1
      rw [decide_eq_decide]
      exact ⟨fun e => ⟨c.symm, d.symm, e.symm⟩, fun e => e.2.2.symm⟩
    · rw [decide_eq_false d, if_neg (by decide), decide_eq_false (fun e => d e.2.1.symm)]
  · rw [if_neg c, decide_eq_false (fun e => c e.1.symm)]
/-- Both judge an answer alike. -/
theorem crBoth (a f : Int) (A B : List Int) (n : Int) (x : Res) (hA : A.length ≤ 1000000) (hB : B.length ≤ 1000000) (h1 : x.2.1.length ≤ 2000000) (h2 : x.2.2.length ≤ 2000000) :
    ∃ R : Bool, Ev (fun k => (impl_runJob.f k a f A B n).bind (fun r => impl_sameResult.f k x.1 x.2.1 x.2.2 r.1 r.2.1 r.2.2)) R ∧ Ev (fun k => spec_CheckResult.f k a f A B n x.1 x.2.1 x.2.2) R := by
  obtain ⟨R, e1, e2, _, _⟩ := runBoth a f A B n hA hB
  refine ⟨decide (R = x), Ev.bind (f := fun k => impl_runJob.f k a f A B n) (g := fun r k => impl_sameResult.f k x.1 x.2.1 x.2.2 r.1 r.2.1 r.2.2) e1 ⟨2000010, fun k hk => isameV x R h1 h2 k hk⟩, ?_⟩
  refine Ev.step (fun k hk => ?_) (Ev.bind (f := fun k => spec_RunJob.f k a f A B n) (g := fun r k => (spec_l16SameRes.f k r.1 r.2.1 r.2.2 x.1 x.2.1 x.2.2).bind (fun y => some y)) e2 (Ev.ret ⟨2000010, fun k hk => ssameV R x h1 h2 k hk⟩))
  rw [spec_CheckResult.f_eq]
theorem law_CheckResult (a f : Int) (A B : List Int) (n r : Int) (O M : List Int) (hA : A.length ≤ maxLen) (hB : B.length ≤ maxLen) (hO : O.length ≤ maxLen) (hM : M.length ≤ maxLen) : ∃ k, laws_FnExactCheckResult.f k a f A B n r O M = some true := by
  by_cases s1 : (A.length : Int) + (B.length : Int) ≤ 1048576
  case neg =>
    refine ⟨3, ?_⟩
    rw [laws_FnExactCheckResult.f_eq, szJob_f a f A B n hA hB 1048576 (by decide) (by decide) 2 (by decide), bs, if_neg s1, if_pos (by decide)]
  by_cases s2 : (O.length : Int) + (M.length : Int) ≤ 1048576 - (A.length : Int) - (B.length : Int)
  case neg =>
    refine ⟨3, ?_⟩
    rw [laws_FnExactCheckResult.f_eq, szJob_f a f A B n hA hB 1048576 (by decide) (by decide) 2 (by decide), bs, if_pos s1, if_neg (by omega), szRes_f r O M hO hM _ (by omega) (by omega) 2 (by decide), bs, if_neg s2, if_pos (by decide)]
  obtain ⟨R, e1, e2⟩ : ∃ R : Bool, Ev (fun k => impl_CheckResult.f k a f A B n r O M) R ∧ Ev (fun k => spec_CheckResult.f k a f A B n r O M) R := by
    by_cases c : A.length ≤ 1000000 ∧ B.length ≤ 1000000
    · obtain ⟨R, e1, e2⟩ := crBoth a f A B n (r, O, M) c.1 c.2 (by show O.length ≤ _; omega) (by show M.length ≤ _; omega)
      refine ⟨R, ?_, e2⟩
      refine Ev.step (f := fun k => ((impl_runJob.f k a f A B n).bind (fun q => impl_sameResult.f k r O M q.1 q.2.1 q.2.2)).bind (fun y => some y)) (fun k hk => ?_) (Ev.ret e1)
      rw [impl_CheckResult.f_eq]
      cases impl_runJob.f k a f A B n <;> rfl
    · have hno : ¬ JobP a f A B n := fun h => c ⟨by have := h.2.2.2.1.1; omega, by have := h.2.2.2.2.1.1; omega⟩
      have h1 : ∀ k, 4000000 ≤ k → impl_runJob.f k a f A B n = some (1, [], []) := fun k hk => by
        obtain ⟨k, rfl⟩ : ∃ m, k = m + 1 := ⟨k - 1, by omega⟩
        rw [impl_runJob.f_eq, ijobOk_f a f A B n (by omega) (by omega) k (by omega), decide_eq_false hno, bs, if_pos (by decide)]
      have h2 : ∀ k, 4000000 ≤ k → spec_RunJob.f k a f A B n = some (1, [], []) := fun k hk => by
        obtain ⟨k, rfl⟩ : ∃ m, k = m + 1 := ⟨k - 1, by omega⟩
        rw [spec_RunJob.f_eq, sjobOk_f a f A B n (by omega) (by omega) k (by omega), decide_eq_false hno, bs, if_pos (by decide)]
      refine ⟨decide (((1, [], []) : Res) = (r, O, M)), ⟨4000001, fun k hk => ?_⟩, ⟨4000001, fun k hk => ?_⟩⟩
      · obtain ⟨k, rfl⟩ : ∃ m, k = m + 1 := ⟨k - 1, by omega⟩
        show impl_CheckResult.f (k + 1) a f A B n r O M = _
        rw [impl_CheckResult.f_eq, h1 k (by omega), bs, isameV (r, O, M) (1, [], []) (by show O.length ≤ _; omega) (by show M.length ≤ _; omega) k (by omega), bs]
      · obtain ⟨k, rfl⟩ : ∃ m, k = m + 1 := ⟨k - 1, by omega⟩
        show spec_CheckResult.f (k + 1) a f A B n r O M = _
        rw [spec_CheckResult.f_eq, h2 k (by omega), bs, ssameV (1, [], []) (r, O, M) (by show O.length ≤ _; omega) (by show M.length ≤ _; omega) k (by omega), bs]
  obtain ⟨B1, e1⟩ := e1
  obtain ⟨B2, e2⟩ := e2
  obtain ⟨K, hK⟩ : ∃ K, K = B1 + B2 + 3000000 := ⟨_, rfl⟩
  have e1 : impl_CheckResult.f K a f A B n r O M = some R := e1 K (by omega)
  have e2 : spec_CheckResult.f K a f A B n r O M = some R := e2 K (by omega)
  refine ⟨K + 1, ?_⟩
  rw [laws_FnExactCheckResult.f_eq, szJob_f a f A B n hA hB 1048576 (by decide) (by decide) K (by omega), bs, if_pos s1, if_neg (by omega), szRes_f r O M hO hM _ (by omega) (by omega) K (by omega), bs, if_pos s2, if_neg (by omega)]
  have T := toJob_f a f A B n (by omega) (by omega) K (by omega)
  have U := toRes_f r O M (by omega) (by omega) K (by omega)
  have V := eqJob_self a f A B n (by omega) (by omega) K (by omega)
  have X := eqRes_self r O M (by omega) (by omega) K (by omega)
  simp only [T, U, V, X, e1, e2, bs, beq_self_eq_true, Bool.not_true, Bool.false_eq_true, if_false]
end Go.Vm.Pu
namespace Go.Vm.Pu
open Go Go.RowKit Go.Vm
set_option linter.unusedVariables false
set_option linter.unusedSimpArgs false
abbrev Jb := Int × Int × List Int × List Int × Int
abbrev JbT : Ty := .pair (.int .i64) (.pair (.int .i64) (.pair (.row (.int .i64)) (.pair (.row (.int .i64)) (.int .i64))))
abbrev ResT : Ty := .pair (.int .i64) (.pair (.row (.int .i64)) (.row (.int .i64)))
theorem rdJ (l : List Jb) (i : Nat) (h : i < l.length) : rd JbT l (i : Int) = l[i] := by
  simp only [rd, Int.toNat_natCast]
  exact (List.getElem_eq_getD _).symm
theorem rdR (l : List Res) (i : Nat) (h : i < l.length) : rd ResT l (i : Int) = l[i] := by
  simp only [rd, Int.toNat_natCast]
  exact (List.getElem_eq_getD _).symm
/-- The numbers of a job, of an answer, that are told apart. -/
def JbOk (N : Nat) (j : Jb) : Prop := j.2.2.1.length ≤ N ∧ j.2.2.2.1.length ≤ N
def RsOk (N : Nat) (r : Res) : Prop := r.2.1.length ≤ N ∧ r.2.2.length ≤ N
def jbTot : List Jb → Int
  | [] => 0
  | j :: l => 1 + j.2.2.1.length + j.2.2.2.1.length + jbTot l
def rsTot : List Res → Int
  | [] => 0
  | r :: l => 1 + r.2.1.length + r.2.2.length + rsTot l
theorem jbTot_pos : ∀ l, 0 ≤ jbTot l
  | [] => Int.le_refl _
  | j :: l => by have := jbTot_pos l; simp only [jbTot]; omega
theorem rsTot_pos : ∀ l, 0 ≤ rsTot l
  | [] => Int.le_refl _
  | j :: l => by have := rsTot_pos l; simp only [rsTot]; omega
theorem jbTot_len : ∀ l, (l.length : Int) ≤ jbTot l
  | [] => Int.le_refl _
  | j :: l => by have := jbTot_len l; simp only [jbTot, List.length_cons]; omega
theorem rsTot_len : ∀ l, (l.length : Int) ≤ rsTot l
  | [] => Int.le_refl _
  | j :: l => by have := rsTot_len l; simp only [rsTot, List.length_cons]; omega
theorem szJobS_is (l : List Jb) (h : l.length ≤ maxLen) (hD : ∀ j ∈ l, JbOk maxLen j) (m0 : Int) (hm0 : 0 ≤ m0) (hm1 : m0 ≤ 1048576) (k : Nat) (hk : 2000010 ≤ k) :
    ∃ r, laws_szJobS.f k l m0 = some r ∧ (r ≤ m0) ∧ (0 ≤ r → r = m0 - jbTot l ∧ ∀ j ∈ l, JbOk 1048576 j) := by
  obtain ⟨k, rfl⟩ : ∃ m, k = m + 1 := ⟨k - 1, by omega⟩
  have hm : maxLen = 9223372036854775807 := rfl
  rw [laws_szJobS.f_eq, wrap_id (x := m0 - (l.length : Int)) (by omega) (by omega)]
  by_cases c : m0 - (l.length : Int) < 0
  · rw [if_pos c]
    exact ⟨-1, rfl, by omega, fun h => by omega⟩
  rw [if_neg c]
  have key : ∀ (d q i : Nat) (m : Int), i + d = l.length → d < q → 0 ≤ m → m ≤ 1048576 → ∃ r, laws_szJobS.l0 k q l m (i : Int) = some r ∧ (r ≤ m) ∧ (0 ≤ r → r = m - (jbTot (l.drop i) - d) ∧ ∀ j ∈ l.drop i, JbOk 1048576 j) := by
    intro d
    induction d with
    | zero =>
      intro q i m hi hq h0 h1
      obtain ⟨q, rfl⟩ : ∃ t, q = t + 1 := ⟨q - 1, by omega⟩
      rw [laws_szJobS.l0_eq, if_neg (by omega), List.drop_of_length_le (by omega)]
      exact ⟨m, rfl, Int.le_refl _, fun _ => ⟨by simp [jbTot], fun e he => (by cases he)⟩⟩
    | succ d ih =>
      intro q i m hi hq h0 h1
      obtain ⟨q, rfl⟩ : ∃ t, q = t + 1 := ⟨q - 1, by omega⟩
      have hlt : i < l.length := by omega
      obtain ⟨hA, hB⟩ := hD _ (List.getElem_mem hlt)
      rw [laws_szJobS.l0_eq, if_pos (by omega), if_pos (by omega), if_pos (by omega), rdJ l i hlt, szJob_f _ _ _ _ _ hA hB m h0 h1 k (by omega), bs, drop_cons l i hlt]
      by_cases c2 : (l[i].2.2.1.length : Int) + (l[i].2.2.2.1.length : Int) ≤ m
      · rw [if_pos c2, if_neg (by omega), wrap_next hlt (by omega)]
        obtain ⟨r, e1, e3, e2⟩ := ih q (i + 1) (m - (l[i].2.2.1.length : Int) - (l[i].2.2.2.1.length : Int)) (by omega) (by omega) (by omega) (by omega)
        refine ⟨r, e1, by omega, fun hr => ?_⟩
        obtain ⟨g1, g2⟩ := e2 hr
        refine ⟨by simp only [jbTot]; omega, fun e he => ?_⟩
        rcases List.mem_cons.1 he with rfl | he
        · exact ⟨by omega, by omega⟩
        · exact g2 e he
      · rw [if_neg c2, if_pos (by omega)]
        exact ⟨-1, rfl, by omega, fun h => by omega⟩
  obtain ⟨r, e1, e3, e2⟩ := key l.length k 0 (m0 - (l.length : Int)) (by omega) (by omega) (by omega) (by omega)
  refine ⟨r, e1, by omega, fun hr => ?_⟩
  obtain ⟨g1, g2⟩ := e2 hr
  rw [List.drop_zero] at g1 g2
  exact ⟨by omega, g2⟩
theorem szResS_is (l : List Res) (h : l.length ≤ maxLen) (hD : ∀ j ∈ l, RsOk maxLen j) (m0 : Int) (hm0 : 0 ≤ m0) (hm1 : m0 ≤ 1048576) (k : Nat) (hk : 2000010 ≤ k) :
    ∃ r, laws_szResultS.f k l m0 = some r ∧ (r ≤ m0) ∧ (0 ≤ r → r = m0 - rsTot l ∧ ∀ j ∈ l, RsOk 1048576 j) := by
  obtain ⟨k, rfl⟩ : ∃ m, k = m + 1 := ⟨k - 1, by omega⟩
  have hm : maxLen = 9223372036854775807 := rfl
  rw [laws_szResultS.f_eq, wrap_id (x := m0 - (l.length : Int)) (by omega) (by omega)]
  by_cases c : m0 - (l.length : Int) < 0
  · rw [if_pos c]
    exact ⟨-1, rfl, by omega, fun h => by omega⟩
  rw [if_neg c]
  have key : ∀ (d q i : Nat) (m : Int), i + d = l.length → d < q → 0 ≤ m → m ≤ 1048576 → ∃ r, laws_szResultS.l0 k q l m (i : Int) = some r ∧ (r ≤ m) ∧ (0 ≤ r → r = m - (rsTot (l.drop i) - d) ∧ ∀ j ∈ l.drop i, RsOk 1048576 j) := by
    intro d
    induction d with
    | zero =>
      intro q i m hi hq h0 h1
      obtain ⟨q, rfl⟩ : ∃ t, q = t + 1 := ⟨q - 1, by omega⟩
      rw [laws_szResultS.l0_eq, if_neg (by omega), List.drop_of_length_le (by omega)]
      exact ⟨m, rfl, Int.le_refl _, fun _ => ⟨by simp [rsTot], fun e he => (by cases he)⟩⟩
    | succ d ih =>
      intro q i m hi hq h0 h1
      obtain ⟨q, rfl⟩ : ∃ t, q = t + 1 := ⟨q - 1, by omega⟩
      have hlt : i < l.length := by omega
      obtain ⟨hA, hB⟩ := hD _ (List.getElem_mem hlt)
      rw [laws_szResultS.l0_eq, if_pos (by omega), if_pos (by omega), if_pos (by omega), rdR l i hlt, szRes_f _ _ _ hA hB m h0 h1 k (by omega), bs, drop_cons l i hlt]
      by_cases c2 : (l[i].2.1.length : Int) + (l[i].2.2.length : Int) ≤ m
      · rw [if_pos c2, if_neg (by omega), wrap_next hlt (by omega)]
        obtain ⟨r, e1, e3, e2⟩ := ih q (i + 1) (m - (l[i].2.1.length : Int) - (l[i].2.2.length : Int)) (by omega) (by omega) (by omega) (by omega)
        refine ⟨r, e1, by omega, fun hr => ?_⟩
        obtain ⟨g1, g2⟩ := e2 hr
        refine ⟨by simp only [rsTot]; omega, fun e he => ?_⟩
        rcases List.mem_cons.1 he with rfl | he
        · exact ⟨by omega, by omega⟩
        · exact g2 e he
      · rw [if_neg c2, if_pos (by omega)]
        exact ⟨-1, rfl, by omega, fun h => by omega⟩
  obtain ⟨r, e1, e3, e2⟩ := key l.length k 0 (m0 - (l.length : Int)) (by omega) (by omega) (by omega) (by omega)
  refine ⟨r, e1, by omega, fun hr => ?_⟩
  obtain ⟨g1, g2⟩ := e2 hr
  rw [List.drop_zero] at g1 g2
  exact ⟨by omega, g2⟩
theorem toJobS_f (l : List Jb) (hn : l.length ≤ 1048576) (hD : ∀ j ∈ l, JbOk 1048576 j) (k : Nat) (hk : 3000010 ≤ k) : laws_toJobS.f k l = some l := by
  obtain ⟨k, rfl⟩ : ∃ m, k = m + 1 := ⟨k - 1, by omega⟩
  rw [laws_toJobS.f_eq, if_pos (by omega), if_pos (by omega), if_pos (by omega)]
  have := set_loop (fun fu s i => laws_toJobS.l0 k fu l i s) l id 0 (by
    intro fu s _
    simp only [laws_toJobS.l0_eq]
    rw [if_neg (by omega)]) (by
    intro fu i s h _ hs
    obtain ⟨hA, hB⟩ := hD _ (List.getElem_mem h)
    simp only [laws_toJobS.l0_eq]
    rw [if_pos (by omega), if_pos (by omega), if_pos (by omega), rdJ l i h, toJob_f _ _ _ _ _ hA hB k (by omega), bs, if_pos (by omega), if_pos (by omega), wrap_next h (by omega)]
    rfl) k (List.replicate (Int.toNat (l.length : Int)) ((0, 0, ([] : List Int), ([] : List Int), 0) : Int × Int × List Int × List Int × Int)) (by omega) (by simp)
  simpa using this
theorem toResS_f (l : List Res) (hn : l.length ≤ 1048576) (hD : ∀ j ∈ l, RsOk 1048576 j) (k : Nat) (hk : 3000010 ≤ k) : laws_toResultS.f k l = some l := by
  obtain ⟨k, rfl⟩ : ∃ m, k = m + 1 := ⟨k - 1, by omega⟩
  rw [laws_toResultS.f_eq, if_pos (by omega), if_pos (by omega), if_pos (by omega)]
  have := set_loop (fun fu s i => laws_toResultS.l0 k fu l i s) l id 0 (by
    intro fu s _
    simp only [laws_toResultS.l0_eq]
    rw [if_neg (by omega)]) (by
    intro fu i s h _ hs
    obtain ⟨hA, hB⟩ := hD _ (List.getElem_mem h)
    simp only [laws_toResultS.l0_eq]
    rw [if_pos (by omega), if_pos (by omega), if_pos (by omega), rdR l i h, toRes_f _ _ _ hA hB k (by omega), bs, if_pos (by omega), if_pos (by omega), wrap_next h (by omega)]
    rfl) k (List.replicate (Int.toNat (l.length : Int)) ((0, ([] : List Int), ([] : List Int)) : Int × List Int × List Int)) (by omega) (by simp)
  simpa using this
theorem eqJobS_f (l : List Jb) (hn : l.length ≤ 1048576) (hD : ∀ j ∈ l, JbOk 1048576 j) (k : Nat) (hk : 3000010 ≤ k) : laws_eqJobS.f k l l = some true := by
  obtain ⟨k, rfl⟩ : ∃ m, k = m + 1 := ⟨k - 1, by omega⟩
  rw [laws_eqJobS.f_eq, if_neg (by simp)]
  exact count_loop (fun fu i => laws_eqJobS.l0 k fu l l i) l.length 0 true (by
    intro fu _
    simp only [laws_eqJobS.l0_eq]
    rw [if_neg (by omega)]) (by
    intro fu i h _
    obtain ⟨hA, hB⟩ := hD _ (List.getElem_mem h)
    simp only [laws_eqJobS.l0_eq]
    rw [if_pos (by omega), if_pos (by omega), if_pos (by omega), if_pos (by omega), if_pos (by omega), rdJ l i h, eqJob_self _ _ _ _ _ hA hB k (by omega), bs, if_neg (by decide), wrap_next h (by omega)]) k (by omega)
theorem eqResS_f (l : List Res) (hn : l.length ≤ 1048576) (hD : ∀ j ∈ l, RsOk 1048576 j) (k : Nat) (hk : 3000010 ≤ k) : laws_eqResultS.f k l l = some true := by
  obtain ⟨k, rfl⟩ : ∃ m, k = m + 1 := ⟨k - 1, by omega⟩
  rw [laws_eqResultS.f_eq, if_neg (by simp)]
  exact count_loop (fun fu i => laws_eqResultS.l0 k fu l l i) l.length 0 true (by
    intro fu _
    simp only [laws_eqResultS.l0_eq]
    rw [if_neg (by omega)]) (by
    intro fu i h _
    obtain ⟨hA, hB⟩ := hD _ (List.getElem_mem h)
    simp only [laws_eqResultS.l0_eq]
    rw [if_pos (by omega), if_pos (by omega), if_pos (by omega), if_pos (by omega), if_pos (by omega), rdR l i h, eqRes_self _ _ _ hA hB k (by omega), bs, if_neg (by decide), wrap_next h (by omega)]) k (by omega)
/-- Both programs answer any job of the law alike. -/
theorem runAny (a f : Int) (A B : List Int) (n : Int) (hA : A.length ≤ 1048576) (hB : B.length ≤ 1048576) :
    ∃ R : Res, Ev (fun k => impl_runJob.f k a f A B n) R ∧ Ev (fun k => spec_RunJob.f k a f A B n) R ∧ R.2.1.length ≤ 10000 ∧ R.2.2.length ≤ 10000 := by
  by_cases c : A.length ≤ 1000000 ∧ B.length ≤ 1000000
  · exact runBoth a f A B n c.1 c.2
  · have hno : ¬ JobP a f A B n := fun h => c ⟨by have := h.2.2.2.1.1; omega, by have := h.2.2.2.2.1.1; omega⟩
    refine ⟨(1, [], []), ⟨4000001, fun k hk => ?_⟩, ⟨4000001, fun k hk => ?_⟩, Nat.zero_le _, Nat.zero_le _⟩
    · obtain ⟨k, rfl⟩ : ∃ m, k = m + 1 := ⟨k - 1, by omega⟩
      show impl_runJob.f (k + 1) a f A B n = _
      rw [impl_runJob.f_eq, ijobOk_f a f A B n (by omega) (by omega) k (by omega), decide_eq_false hno, bs, if_pos (by decide)]
    · obtain ⟨k, rfl⟩ : ∃ m, k = m + 1 := ⟨k - 1, by omega⟩
      show spec_RunJob.f (k + 1) a f A B n = _
      rw [spec_RunJob.f_eq, sjobOk_f a f A B n (by omega) (by omega) k (by omega), decide_eq_false hno, bs, if_pos (by decide)]
theorem scrEv (a f : Int) (A B : List Int) (n : Int) (x R : Res) (e2 : Ev (fun k => spec_RunJob.f k a f A B n) R) (h1 : x.2.1.length ≤ 2000000) (h2 : x.2.2.length ≤ 2000000) :
    Ev (fun k => spec_CheckResult.f k a f A B n x.1 x.2.1 x.2.2) (decide (R = x)) := by
  refine Ev.step (fun k hk => ?_) (Ev.bind (f := fun k => spec_RunJob.f k a f A B n) (g := fun r k => (spec_l16SameRes.f k r.1 r.2.1 r.2.2 x.1 x.2.1 x.2.2).bind (fun y => some y)) e2 (Ev.ret ⟨2000010, fun k hk => ssameV R x h1 h2 k hk⟩))
  rw [spec_CheckResult.f_eq]
theorem cbLoops (js : List Jb) (rs : List Res) (hJ : ∀ j ∈ js, JbOk 1048576 j) (hR : ∀ r ∈ rs, RsOk 1048576 r) (hn : js.length = rs.length) (h50 : js.length ≤ 50) :
    ∀ d i : Nat, i + d = js.length → ∃ x : Int, Ev2 (fun K u => impl_CheckBatch.l0 K u js rs js (js.length : Int) (i : Int)) x ∧ Ev2 (fun K u => spec_CheckBatch.l0 K u js rs (i : Int)) x := by
  intro d
  induction d with
  | zero =>
    intro i hi
    refine ⟨(js.length : Int), Ev2.step (fun K u hK => ?_) (Ev2.now _), Ev2.step (fun K u hK => ?_) (Ev2.now _)⟩
    · rw [impl_CheckBatch.l0_eq, if_neg (by omega)]
    · rw [spec_CheckBatch.l0_eq, if_neg (by omega)]
  | succ d ih =>
    intro i hi
    have h1 : i < js.length := by omega
    have h2 : i < rs.length := by omega
    obtain ⟨jA, jB⟩ := hJ _ (List.getElem_mem h1)
    obtain ⟨rA, rB⟩ := hR _ (List.getElem_mem h2)
    obtain ⟨R, e1, e2, _, _⟩ := runAny js[i].1 js[i].2.1 js[i].2.2.1 js[i].2.2.2.1 js[i].2.2.2.2 jA jB
    have s1 : Ev (fun k => impl_sameResult.f k rs[i].1 rs[i].2.1 rs[i].2.2 R.1 R.2.1 R.2.2) (decide (R = rs[i])) := ⟨2000010, fun k hk => isameV rs[i] R (by omega) (by omega) k hk⟩
    have s2 := scrEv js[i].1 js[i].2.1 js[i].2.2.1 js[i].2.2.2.1 js[i].2.2.2.2 rs[i] R e2 (by omega) (by omega)
    obtain ⟨x, y1, y2⟩ := ih (i + 1) (by omega)
    refine ⟨if decide (R = rs[i]) = true then x else (i : Int), ?_, ?_⟩
    · refine Ev2.step (fun K u hK => ?_) (Ev2.bind (f := fun k => impl_runJob.f k js[i].1 js[i].2.1 js[i].2.2.1 js[i].2.2.2.1 js[i].2.2.2.2) (g := fun r K u => (impl_sameResult.f K rs[i].1 rs[i].2.1 rs[i].2.2 r.1 r.2.1 r.2.2).bind (fun b => if (!b) = true then some (i : Int) else impl_CheckBatch.l0 K u js rs js (js.length : Int) ((i + 1 : Nat) : Int))) e1 (Ev2.bind (f := fun k => impl_sameResult.f k rs[i].1 rs[i].2.1 rs[i].2.2 R.1 R.2.1 R.2.2) (g := fun b K u => if (!b) = true then some (i : Int) else impl_CheckBatch.l0 K u js rs js (js.length : Int) ((i + 1 : Nat) : Int)) s1 ?_))
      · rw [impl_CheckBatch.l0_eq, if_pos (by omega), if_pos (by omega), if_pos (by omega), if_pos (by omega), if_pos (by omega), rdJ js i h1, rdR rs i h2, wrap_next h1 (by omega)]
      · cases decide (R = rs[i]) with
        | true => simpa using y1
        | false => simpa using Ev2.now (i : Int)
    · refine Ev2.step (fun K u hK => ?_) (Ev2.bind (f := fun k => spec_CheckResult.f k js[i].1 js[i].2.1 js[i].2.2.1 js[i].2.2.2.1 js[i].2.2.2.2 rs[i].1 rs[i].2.1 rs[i].2.2) (g := fun b K u => if (!b) = true then some (i : Int) else spec_CheckBatch.l0 K u js rs ((i + 1 : Nat) : Int)) s2 ?_)
      · rw [spec_CheckBatch.l0_eq, if_pos (by omega), if_pos (by omega), if_pos (by omega), if_pos (by omega), if_pos (by omega), rdJ js i h1, rdR rs i h2, wrap_next h1 (by omega)]
      · cases decide (R = rs[i]) with
        | true => simpa using y2
        | false => simpa using Ev2.now (i : Int)
theorem law_CheckBatch (js : List Jb) (rs : List Res) (h1 : js.length ≤ maxLen) (h2 : rs.length ≤ maxLen) (hJ : ∀ j ∈ js, JbOk maxLen j) (hR : ∀ r ∈ rs, RsOk maxLen r) : ∃ k, laws_FnExactCheckBatch.f k js rs = some true := by
  obtain ⟨x, ⟨e1, e2⟩ | e1⟩ : ∃ x : Int, (Ev (fun k => impl_CheckBatch.f k js rs) x ∧ Ev (fun k => spec_CheckBatch.f k js rs) x) ∨ ¬ ((js.length : Int) ≤ 1048576 ∧ (rs.length : Int) ≤ 1048576 ∧ (∀ j ∈ js, JbOk 1048576 j) ∧ ∀ r ∈ rs, RsOk 1048576 r) := by
    by_cases c : (js.length : Int) ≤ 1048576 ∧ (rs.length : Int) ≤ 1048576 ∧ (∀ j ∈ js, JbOk 1048576 j) ∧ ∀ r ∈ rs, RsOk 1048576 r
    case neg => exact ⟨0, .inr c⟩
    obtain ⟨c1, c2, c3, c4⟩ := c
    by_cases d : js.length = rs.length
    · by_cases e : js.length ≤ 50
      · obtain ⟨x, y1, y2⟩ := cbLoops js rs c3 c4 d e js.length 0 (by omega)
        refine ⟨x, .inl ⟨Ev.step (fun k hk => ?_) (Ev.enter y1), Ev.step (fun k hk => ?_) (Ev.enter y2)⟩⟩
        · rw [impl_CheckBatch.f_eq, if_neg (by omega), if_neg (by omega)]
          rfl
        · rw [spec_CheckBatch.f_eq, if_neg (by omega), if_neg (by omega)]
          rfl
      · refine ⟨-1, .inl ⟨Ev.step (fun k hk => ?_) (Ev.now _), Ev.step (fun k hk => ?_) (Ev.now _)⟩⟩
        · rw [impl_CheckBatch.f_eq, if_neg (by omega), if_pos (by omega)]
        · rw [spec_CheckBatch.f_eq, if_neg (by omega), if_pos (by omega)]
    · refine ⟨-1, .inl ⟨Ev.step (fun k hk => ?_) (Ev.now _), Ev.step (fun k hk => ?_) (Ev.now _)⟩⟩
      · rw [impl_CheckBatch.f_eq, if_pos (by omega)]
      · rw [spec_CheckBatch.f_eq, if_pos (by omega)]
  · obtain ⟨B1, e1⟩ := e1
    obtain ⟨B2, e2⟩ := e2
    obtain ⟨K, hK⟩ : ∃ K, K = B1 + B2 + 4000000 := ⟨_, rfl⟩
    have e1 : impl_CheckBatch.f K js rs = some x := e1 K (by omega)
    have e2 : spec_CheckBatch.f K js rs = some x := e2 K (by omega)
    refine ⟨K + 1, ?_⟩
    rw [laws_FnExactCheckBatch.f_eq]
    obtain ⟨r, a1, a3, a2⟩ := szJobS_is js h1 hJ 1048576 (by decide) (by decide) K (by omega)
    rw [a1, bs]
    by_cases c : r < 0
    · rw [if_pos c]
    obtain ⟨g1, g2⟩ := a2 (by omega)
    have jl := jbTot_len js
    obtain ⟨q, b1, b3, b2⟩ := szResS_is rs h2 hR r (by omega) (by omega) K (by omega)
    rw [if_neg c, b1, bs]
    by_cases d : q < 0
    · rw [if_pos d]
    obtain ⟨g3, g4⟩ := b2 (by omega)
    have rl := rsTot_len rs
    have jp := jbTot_pos js
    rw [if_neg d]
    have T := toJobS_f js (by omega) g2 K (by omega)
    have U := toResS_f rs (by omega) g4 K (by omega)
    have V := eqJobS_f js (by omega) g2 K (by omega)
    have X := eqResS_f rs (by omega) g4 K (by omega)
    simp only [T, U, V, X, e1, e2, bs, ne_eq, not_true, Bool.not_true, Bool.false_eq_true, if_false]
  · obtain ⟨K, hK⟩ : ∃ K, K = 4000000 := ⟨_, rfl⟩
    refine ⟨K + 1, ?_⟩
    rw [laws_FnExactCheckBatch.f_eq]
    obtain ⟨r, a1, a3, a2⟩ := szJobS_is js h1 hJ 1048576 (by decide) (by decide) K (by omega)
    rw [a1, bs]
    by_cases c : r < 0
    · rw [if_pos c]
    obtain ⟨g1, g2⟩ := a2 (by omega)
    have jl := jbTot_len js
    obtain ⟨q, b1, b3, b2⟩ := szResS_is rs h2 hR r (by omega) (by omega) K (by omega)
    rw [if_neg c, b1, bs]
    by_cases d : q < 0
    · rw [if_pos d]
    obtain ⟨g3, g4⟩ := b2 (by omega)
    have rl := rsTot_len rs
    have jp := jbTot_pos js
    exact absurd ⟨by omega, by omega, g2, g4⟩ e1
end Go.Vm.Pu
