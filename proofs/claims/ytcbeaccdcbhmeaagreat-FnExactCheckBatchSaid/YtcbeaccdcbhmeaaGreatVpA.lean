/- Plain laws of the functions that the laws share: what each answers; the conditions are those of each theorem. -/
import Derived.Test.YtcbeaccdcbhmeaaGreatQ
import Derived.Test.YtcbeaccdcbhmeaaGreatVmD
import Derived.RowKit
namespace Go.Vm.Pu
open Go Go.RowKit Go.Vm
set_option linter.unusedVariables false
set_option linter.unusedSimpArgs false
/-- A value handed on; told so that simp rewrites by it instead of computing (the kernel else unfolds what follows). -/
theorem bs {α β : Type} (x : α) (f : α → Option β) : (some x).bind f = f x := (Option.bind_some x f).trans (Eq.refl _)
theorem wrap_id {x : Int} (h1 : -9223372036854775808 ≤ x) (h2 : x ≤ 9223372036854775807) : wrap64 x = x := by
  unfold wrap64
  rw [IntKind.wrap_i64]; omega
theorem rd_at (l : List Int) (i : Nat) (h : i < l.length) : rdI l (i : Int) = l[i] := by
  simp [rdI, List.getD, h]
theorem rd_mem (l : List Int) (i : Int) (h0 : 0 ≤ i) (h : i < l.length) : rdI l i ∈ l := by
  obtain ⟨n, rfl⟩ := Int.eq_ofNat_of_zero_le h0
  have hn : n < l.length := by omega
  rw [rd_at l n hn]
  exact List.getElem_mem hn
theorem set_take {α : Type} (l : List α) (i : Nat) (a : α) (h : i < l.length) : (l.set i a).take (i + 1) = l.take i ++ [a] := by
  rw [List.take_succ_eq_append_getElem (by simpa using h), List.take_set_of_le (by omega)]
  simp
theorem drop_cons {α : Type} (l : List α) (i : Nat) (h : i < l.length) : l.drop i = l[i] :: l.drop (i + 1) := List.drop_eq_getElem_cons h
theorem cast_succ (i : Nat) : (i : Int) + 1 = ((i + 1 : Nat) : Int) := rfl
theorem wf_bounds {x : Int} (h : (Lit.int .i64 x).wf = true) : -9223372036854775808 ≤ x ∧ x ≤ 9223372036854775807 := by
  simp only [Lit.wf, Bool.and_eq_true, decide_eq_true_eq] at h
  exact h
theorem wf_byte {x : Int} (h : (Lit.int .u8 x).wf = true) : 0 ≤ x ∧ x ≤ 255 := by
  simp only [Lit.wf, Bool.and_eq_true, decide_eq_true_eq] at h
  exact h

/-- A loop over a list by its index: each round goes on, or ends with what the rest of the list is worth. -/
theorem loop_list {α σ R : Type} (F : Nat → σ → Int → Option R) (l : List α) (K : Nat) (Inv : Nat → σ → Prop) (G : List α → σ → R)
    (hnil : ∀ k s, K ≤ k → Inv l.length s → F (k + 1) s (l.length : Int) = some (G [] s))
    (hcons : ∀ k i s (h : i < l.length), K ≤ k → Inv i s → (∃ s', F (k + 1) s (i : Int) = F k s' ((i + 1 : Nat) : Int) ∧ Inv (i + 1) s' ∧ G (l[i] :: l.drop (i + 1)) s = G (l.drop (i + 1)) s') ∨ F (k + 1) s (i : Int) = some (G (l[i] :: l.drop (i + 1)) s))
    (k : Nat) (s : σ) (hk : l.length + K < k) (h0 : Inv 0 s) : F k s 0 = some (G l s) := by
  have key : ∀ (d k i : Nat) (s : σ), i + d = l.length → d + K < k → Inv i s → F k s (i : Int) = some (G (l.drop i) s) := by
    intro d
    induction d with
    | zero =>
      intro k i s hi hk h
      obtain ⟨k, rfl⟩ : ∃ m, k = m + 1 := ⟨k - 1, by omega⟩
      obtain rfl : i = l.length := by omega
      rw [hnil k s (by omega) h, List.drop_length]
    | succ d ih =>
      intro k i s hi hk h
      obtain ⟨k, rfl⟩ : ∃ m, k = m + 1 := ⟨k - 1, by omega⟩
      rw [drop_cons l i (by omega)]
      rcases hcons k i s (by omega) (by omega) h with ⟨s', e, h', g⟩ | e
      · rw [e, g]
        exact ih k (i + 1) s' (by omega) (by omega) h'
      · exact e
  have := key l.length k 0 s (by omega) (by omega) h0
  simpa using this
/-- A loop that sets element after element. -/
theorem set_loop {α β : Type} (F : Nat → List β → Int → Option (List β)) (l : List α) (f : α → β) (K : Nat)
    (hnil : ∀ k s, K ≤ k → F (k + 1) s (l.length : Int) = some s)
    (hcons : ∀ k i s (h : i < l.length), K ≤ k → s.length = l.length → F (k + 1) s (i : Int) = F k (s.set i (f l[i])) ((i + 1 : Nat) : Int))
    (k : Nat) (s : List β) (hk : l.length + K < k) (hs : s.length = l.length) : F k s 0 = some (l.map f) := by
  have key : ∀ (d k i : Nat) (s : List β), i + d = l.length → d + K < k → s.length = l.length → F k s (i : Int) = some (s.take i ++ (l.drop i).map f) := by
    intro d
    induction d with
    | zero =>
      intro k i s hi hk hs
      obtain ⟨k, rfl⟩ : ∃ m, k = m + 1 := ⟨k - 1, by omega⟩
      obtain rfl : i = l.length := by omega
      rw [hnil k s (by omega), List.drop_length, List.take_of_length_le (by omega)]
      simp
    | succ d ih =>
      intro k i s hi hk hs
      obtain ⟨k, rfl⟩ : ∃ m, k = m + 1 := ⟨k - 1, by omega⟩
      rw [hcons k i s (by omega) (by omega) hs, ih k (i + 1) _ (by omega) (by omega) (by simpa using hs), set_take _ _ _ (by omega), drop_cons l i (by omega), List.map_cons, List.append_assoc]
      rfl
  have := key l.length k 0 s (by omega) (by omega) hs
  simpa using this
/-- A loop that appends an element a round. -/
theorem append_loop {α β : Type} (F : Nat → List β → Int → Option (List β)) (l : List α) (f : α → β) (K : Nat) (s0 : List β)
    (hnil : ∀ k s, K ≤ k → F (k + 1) s (l.length : Int) = some s)
    (hcons : ∀ k i s (h : i < l.length), K ≤ k → s.length = s0.length + i → F (k + 1) s (i : Int) = F k (s ++ [f l[i]]) ((i + 1 : Nat) : Int))
    (k : Nat) (hk : l.length + K < k) : F k s0 0 = some (s0 ++ l.map f) := by
  have key : ∀ (d k i : Nat) (s : List β), i + d = l.length → d + K < k → s.length = s0.length + i → F k s (i : Int) = some (s ++ (l.drop i).map f) := by
    intro d
    induction d with
    | zero =>
      intro k i s hi hk hs
      obtain ⟨k, rfl⟩ : ∃ m, k = m + 1 := ⟨k - 1, by omega⟩
      obtain rfl : i = l.length := by omega
      rw [hnil k s (by omega), List.drop_length]
      simp
    | succ d ih =>
      intro k i s hi hk hs
      obtain ⟨k, rfl⟩ : ∃ m, k = m + 1 := ⟨k - 1, by omega⟩
      rw [hcons k i s (by omega) (by omega) hs, ih k (i + 1) _ (by omega) (by omega) (by simp [hs]; omega), drop_cons l i (by omega), List.map_cons, List.append_assoc]
      rfl
  have := key l.length k 0 s0 (by omega) (by omega) (by simp)
  simpa using this
/-- A loop that goes on for n rounds, and then ends. -/
theorem count_loop {R : Type} (F : Nat → Int → Option R) (n K : Nat) (r : R) (hend : ∀ k, K ≤ k → F (k + 1) (n : Int) = some r)
    (hgo : ∀ k i, i < n → K ≤ k → F (k + 1) (i : Int) = F k ((i + 1 : Nat) : Int)) (k : Nat) (hk : n + K < k) : F k 0 = some r := by
  have key : ∀ (d k i : Nat), i + d = n → d + K < k → F k (i : Int) = some r := by
    intro d
    induction d with
    | zero =>
      intro k i hi hk
      obtain ⟨k, rfl⟩ : ∃ m, k = m + 1 := ⟨k - 1, by omega⟩
      obtain rfl : i = n := by omega
      exact hend k (by omega)
    | succ d ih =>
      intro k i hi hk
      obtain ⟨k, rfl⟩ : ∃ m, k = m + 1 := ⟨k - 1, by omega⟩
      rw [hgo k i (by omega) (by omega)]
      exact ih k (i + 1) (by omega) (by omega)
  exact key n k 0 (by omega) (by omega)
theorem wrap_next {i n : Nat} (h : i < n) (hn : n ≤ 281474976710656) : wrap64 ((i : Int) + 1) = ((i + 1 : Nat) : Int) := by
  rw [wrap_id (by omega) (by omega)]; rfl
/-- The modulus of a field, 0 for none; its generator; how often 2 divides the modulus less 1. -/
def md (f : Int) : Int := if f = 0 then 17 else (if f = 1 then 97 else (if f = 2 then 193 else (if f = 3 then 257 else (if f = 4 then 7681 else (if f = 5 then 12289 else (if f = 6 then 998244353 else (if f = 7 then 469762049 else (if f = 8 then 1004535809 else 0))))))))
def gn (f : Int) : Int := if f = 0 then 3 else (if f = 1 then 5 else (if f = 2 then 5 else (if f = 3 then 3 else (if f = 4 then 17 else (if f = 5 then 11 else (if f = 6 then 3 else (if f = 7 then 3 else (if f = 8 then 3 else 0))))))))
def tw (f : Int) : Int := if f = 0 then 4 else (if f = 1 then 5 else (if f = 2 then 6 else (if f = 3 then 8 else (if f = 4 then 9 else (if f = 5 then 12 else (if f = 6 then 23 else (if f = 7 then 26 else (if f = 8 then 21 else 0))))))))
theorem nine {f : Int} (h0 : 0 ≤ f) (h8 : f ≤ 8) : f = 0 ∨ f = 1 ∨ f = 2 ∨ f = 3 ∨ f = 4 ∨ f = 5 ∨ f = 6 ∨ f = 7 ∨ f = 8 := by omega
theorem md_out {f : Int} (h : ¬ (0 ≤ f ∧ f ≤ 8)) : md f = 0 ∧ gn f = 0 ∧ tw f = 0 := by
  unfold md gn tw
  rw [if_neg (by omega), if_neg (by omega), if_neg (by omega), if_neg (by omega), if_neg (by omega), if_neg (by omega), if_neg (by omega), if_neg (by omega), if_neg (by omega)]
  rw [if_neg (by omega), if_neg (by omega), if_neg (by omega), if_neg (by omega), if_neg (by omega), if_neg (by omega), if_neg (by omega), if_neg (by omega), if_neg (by omega)]
  rw [if_neg (by omega), if_neg (by omega), if_neg (by omega), if_neg (by omega), if_neg (by omega), if_neg (by omega), if_neg (by omega), if_neg (by omega), if_neg (by omega)]
  exact ⟨rfl, rfl, rfl⟩
theorem md_in {f : Int} (h : md f ≠ 0) : 0 ≤ f ∧ f ≤ 8 := by
  by_cases c : 0 ≤ f ∧ f ≤ 8
  · exact c
  · exact absurd (md_out c).1 h
theorem md_pos {f : Int} (h : md f ≠ 0) : 17 ≤ md f ∧ md f ≤ 1004535809 := by
  obtain ⟨h0, h8⟩ := md_in h
  rcases nine h0 h8 with rfl | rfl | rfl | rfl | rfl | rfl | rfl | rfl | rfl <;> decide
theorem md_nonneg (f : Int) : 0 ≤ md f := by
  by_cases h : md f = 0
  · omega
  · have := md_pos h; omega
/-- All numbers are elements. -/
def El (p : Int) (l : List Int) : Prop := ∀ x ∈ l, 0 ≤ x ∧ x < p
instance (p : Int) (l : List Int) : Decidable (El p l) := inferInstanceAs (Decidable (∀ x ∈ l, 0 ≤ x ∧ x < p))
theorem El.nil (p : Int) : El p [] := fun x hx => by cases hx
theorem El.at {p : Int} {l : List Int} (h : El p l) (i : Nat) (hi : i < l.length) : 0 ≤ l[i] ∧ l[i] < p := h _ (List.getElem_mem hi)
/-- A list's element, 0 beyond its end. -/
def L (l : List Int) (i : Nat) : Int := l.getD i 0
theorem L_at (l : List Int) (i : Nat) (h : i < l.length) : L l i = l[i] := by simp [L, List.getD, h]
theorem L_out (l : List Int) (i : Nat) (h : l.length ≤ i) : L l i = 0 := by simp [L, List.getD, h]
theorem rd_L (l : List Int) (i : Nat) : rdI l (i : Int) = L l i := by simp [rdI, L]
theorem L_el {p : Int} (hp : 0 < p) {l : List Int} (h : El p l) (i : Nat) : 0 ≤ L l i ∧ L l i < p := by
  by_cases c : i < l.length
  · rw [L_at l i c]; exact h.at i c
  · rw [L_out l i (by omega)]; omega
/-- The list of a function's values. -/
def fl (n : Nat) (g : Nat → Int) : List Int := (List.range n).map g
theorem fl_length (n : Nat) (g : Nat → Int) : (fl n g).length = n := by simp [fl]
theorem L_fl (n : Nat) (g : Nat → Int) (i : Nat) (h : i < n) : L (fl n g) i = g i := by
  rw [L_at _ _ (by rw [fl_length]; exact h)]; simp [fl]
theorem fl_L (l : List Int) : fl l.length (L l) = l := by
  apply List.ext_getElem
  · exact fl_length _ _
  · intro i h1 h2
    simp [fl, L_at l i h2]
theorem fl_congr {n : Nat} {g h : Nat → Int} (e : ∀ i, i < n → g i = h i) : fl n g = fl n h := by
  unfold fl
  exact List.map_congr_left (fun i hi => e i (List.mem_range.1 hi))
theorem fl_inj {n : Nat} {g h : Nat → Int} (e : fl n g = fl n h) (i : Nat) (hi : i < n) : g i = h i := by
  rw [← L_fl n g i hi, e, L_fl n h i hi]
theorem fl_set (n : Nat) (g : Nat → Int) (t : Nat) (v : Int) : (fl n g).set t v = fl n (fun m => if m = t then v else g m) := by
  apply List.ext_getElem
  · simp [fl_length]
  · intro i h1 h2
    simp only [fl, List.getElem_set, List.getElem_map, List.getElem_range]
    by_cases c : t = i
    · rw [if_pos c, if_pos c.symm]
    · rw [if_neg c, if_neg (Ne.symm c)]
theorem fl_snoc (n : Nat) (g : Nat → Int) : fl n g ++ [g n] = fl (n + 1) g := by simp [fl, List.range_succ]
theorem fl_zero (n : Nat) : List.replicate n (0 : Int) = fl n (fun _ => 0) := by
  apply List.ext_getElem
  · simp [fl]
  · intro i h1 h2; simp [fl]
theorem fl_el {p : Int} {n : Nat} {g : Nat → Int} (h : ∀ i, i < n → 0 ≤ g i ∧ g i < p) : El p (fl n g) := by
  intro x hx
  obtain ⟨i, hi, rfl⟩ := List.mem_map.1 hx
  exact h i (List.mem_range.1 hi)
theorem list_ext {a b : List Int} (hl : a.length = b.length) (h : ∀ i, i < a.length → L a i = L b i) : a = b := by
  rw [← fl_L a, ← fl_L b, ← hl]
  exact fl_congr h
/-- Sums. -/
def sumN (n : Nat) (g : Nat → Int) : Int := match n with
  | 0 => 0
  | n + 1 => sumN n g + g n
theorem sumN_congr {n : Nat} {g h : Nat → Int} (e : ∀ i, i < n → g i = h i) : sumN n g = sumN n h := by
  induction n with
  | zero => rfl
  | succ n ih => simp only [sumN]; rw [ih (fun i hi => e i (by omega)), e n (by omega)]
theorem sumN_zero {n : Nat} {g : Nat → Int} (e : ∀ i, i < n → g i = 0) : sumN n g = 0 := by
  induction n with
  | zero => rfl
  | succ n ih => simp only [sumN]; rw [ih (fun i hi => e i (by omega)), e n (by omega)]; rfl
theorem emod_range (x : Int) {p : Int} (hp : 0 < p) : 0 ≤ x % p ∧ x % p < p := ⟨Int.emod_nonneg x (by omega), Int.emod_lt_of_pos x hp⟩
theorem tmod_nonneg' {x : Int} (p : Int) (h : 0 ≤ x) : Int.tmod x p = x % p := Int.tmod_eq_emod_of_nonneg h
theorem reduce_int (x p : Int) (hp : 0 < p) : (if Int.tmod x p < 0 then Int.tmod x p + p else Int.tmod x p) = x % p := by
  have h := Int.tmod_add_mul_tdiv x p
  have h1 : x % p = (Int.tmod x p) % p := by
    conv => lhs; rw [← h]
    rw [Int.add_mul_emod_self_left]
  have h2 : Int.tmod x p < p := Int.tmod_lt_of_pos x hp
  have h3 : -p < Int.tmod x p := by
    have := Int.lt_tmod_of_pos x hp
    omega
  rw [h1]
  by_cases c : Int.tmod x p < 0
  · rw [if_pos c, ← Int.add_emod_right, Int.emod_eq_of_lt (by omega) (by omega)]
  · rw [if_neg c, Int.emod_eq_of_lt (by omega) h2]
theorem prod_range {x y p : Int} (hp : p ≤ 1004535809) (hx : 0 ≤ x ∧ x < p) (hy : 0 ≤ y ∧ y < p) : 0 ≤ x * y ∧ x * y ≤ 1009092191563284481 := by
  refine ⟨Int.mul_nonneg hx.1 hy.1, ?_⟩
  have := Int.mul_le_mul (show x ≤ 1004535809 by omega) (show y ≤ 1004535809 by omega) hy.1 (by omega)
  omega
/-- A test turned round. -/
theorem not_ite {α : Type} (b : Bool) (x y : α) : (if (!b) = true then x else y) = if b = true then y else x := by cases b <;> rfl
end Go.Vm.Pu
namespace Go.Vm.Pu
open Go Go.RowKit Go.Vm
set_option linter.unusedVariables false
set_option linter.unusedSimpArgs false
theorem and_255 (a : Int) : 0 ≤ bitsOf .and .i64 a 255 ∧ bitsOf .and .i64 a 255 ≤ 255 := by
  have h : ((BitVec.ofInt 64 a &&& BitVec.ofInt 64 255).toNat) ≤ 255 := by
    rw [BitVec.toNat_and]
    exact Nat.and_le_right
  have e : bitsOf .and .i64 a 255 = IntKind.i64.wrap ((BitVec.ofInt 64 a &&& BitVec.ofInt 64 255).toNat : Int) := rfl
  rw [e]
  have := wrap_id (x := ((BitVec.ofInt 64 a &&& BitVec.ofInt 64 255).toNat : Int)) (by omega) (by omega)
  unfold wrap64 at this
  rw [this]
  omega
end Go.Vm.Pu
namespace Go.Vm.Pu
open Go Go.RowKit Go.Vm
set_option linter.unusedVariables false
set_option linter.unusedSimpArgs false

/-- No number from lo on, 2 to the k of them, divides p. -/
def noDiv (p : Nat) : Nat → Nat → Bool
  | 0, lo => p % lo != 0
  | k + 1, lo => noDiv p k lo && noDiv p k (lo + 2 ^ k)
theorem noDiv_spec (p : Nat) : ∀ (k lo : Nat), noDiv p k lo = true → ∀ d, lo ≤ d → d < lo + 2 ^ k → p % d ≠ 0 := by
  intro k
  induction k with
  | zero =>
    intro lo h d h1 h2
    have : d = lo := by simp at h2; omega
    subst this
    simpa [noDiv] using h
  | succ k ih =>
    intro lo h d h1 h2
    simp only [noDiv, Bool.and_eq_true] at h
    rw [Nat.pow_succ] at h2
    by_cases c : d < lo + 2 ^ k
    · exact ih lo h.1 d h1 c
    · exact ih (lo + 2 ^ k) h.2 d (by omega) (by omega)
structure Pr (p : Nat) : Prop where
  two : 2 ≤ p
  div : ∀ d, d ∣ p → d = 1 ∨ d = p
theorem pr_of (p k : Nat) (h2 : 2 ≤ p) (h : noDiv p k 2 = true) (hk : p < (2 ^ k + 2) * (2 ^ k + 2)) : Pr p := by
  have key := noDiv_spec p k 2 h
  refine ⟨h2, fun d hd => ?_⟩
  obtain ⟨e, rfl⟩ := hd
  by_cases d1 : d = 1
  · exact .inl d1
  · right
    by_cases e1 : e = 1
    · subst e1; simp
    · exfalso
      have hd0 : d ≠ 0 := by rintro rfl; simp at h2
      have he0 : e ≠ 0 := by rintro rfl; simp at h2
      by_cases c : d < 2 ^ k + 2
      · exact key d (by omega) (by omega) (Nat.mul_mod_right d e)
      · by_cases c2 : e < 2 ^ k + 2
        · exact key e (by omega) (by omega) (Nat.mul_mod_left d e)
        · have := Nat.mul_le_mul (show 2 ^ k + 2 ≤ d by omega) (show 2 ^ k + 2 ≤ e by omega)
          omega
theorem Pr.dvd_mul {p a b : Nat} (hp : Pr p) (h : p ∣ a * b) : p ∣ a ∨ p ∣ b := by
  rcases hp.div (Nat.gcd p a) (Nat.gcd_dvd_left p a) with h1 | h1
  · right
    exact Nat.Coprime.dvd_of_dvd_mul_left h1 h
  · left
    rw [← h1]
    exact Nat.gcd_dvd_right p a
/-- Pascal's numbers. -/
def ch : Nat → Nat → Nat
  | _, 0 => 1
  | 0, _ + 1 => 0
  | n + 1, k + 1 => ch n k + ch n (k + 1)
theorem ch_zero (n : Nat) : ch n 0 = 1 := by cases n <;> rfl
theorem ch_out : ∀ n k : Nat, n < k → ch n k = 0 := by
  intro n
  induction n with
  | zero => intro k h; cases k with
    | zero => omega
    | succ k => rfl
  | succ n ih => intro k h; cases k with
    | zero => omega
    | succ k => simp only [ch]; rw [ih k (by omega), ih (k + 1) (by omega)]
theorem ch_self : ∀ n : Nat, ch n n = 1 := by
  intro n
  induction n with
  | zero => rfl
  | succ n ih => simp only [ch]; rw [ih, ch_out n (n + 1) (by omega)]
theorem ch_mul : ∀ n k : Nat, (n + 1) * ch n k = ch (n + 1) (k + 1) * (k + 1) := by
  intro n
  induction n with
  | zero => intro k; cases k with
    | zero => rfl
    | succ k => simp [ch]
  | succ n ih =>
    intro k
    cases k with
    | zero =>
      have h0 := ih 0
      simp only [ch_zero, ch] at h0 ⊢
      omega
    | succ k =>
      have h0 := ih k
      have h1 := ih (k + 1)
      simp only [ch] at h0 h1 ⊢
      grind
def sN (n : Nat) (g : Nat → Nat) : Nat := match n with
  | 0 => 0
  | n + 1 => sN n g + g n
theorem sN_add (n : Nat) (g h : Nat → Nat) : sN n (fun k => g k + h k) = sN n g + sN n h := by
  induction n with
  | zero => rfl
  | succ n ih => simp only [sN, ih]; omega
theorem sN_mul (n x : Nat) (g : Nat → Nat) : sN n (fun k => x * g k) = x * sN n g := by
  induction n with
  | zero => rfl
  | succ n ih => simp only [sN, ih, Nat.mul_add]
theorem sN_front (n : Nat) (g : Nat → Nat) : sN (n + 1) g = g 0 + sN n (fun k => g (k + 1)) := by
  induction n with
  | zero => simp [sN]
  | succ n ih => rw [sN, ih]; simp only [sN]; omega
theorem sN_congr {n : Nat} {g h : Nat → Nat} (e : ∀ i, i < n → g i = h i) : sN n g = sN n h := by
  induction n with
  | zero => rfl
  | succ n ih => simp only [sN]; rw [ih (fun i hi => e i (by omega)), e n (by omega)]
theorem sN_dvd {p n : Nat} {g : Nat → Nat} (h : ∀ i, i < n → p ∣ g i) : p ∣ sN n g := by
  induction n with
  | zero => exact Nat.dvd_zero p
  | succ n ih => exact Nat.dvd_add (ih (fun i hi => h i (by omega))) (h n (by omega))
theorem binom (x : Nat) : ∀ n : Nat, (x + 1) ^ n = sN (n + 1) (fun k => ch n k * x ^ k) := by
  intro n
  induction n with
  | zero => simp [sN, ch]
  | succ n ih =>
    rw [sN_front]
    simp only [ch, Nat.pow_zero, Nat.mul_one]
    have e1 : sN (n + 1) (fun k => (ch n k + ch n (k + 1)) * x ^ (k + 1)) = x * sN (n + 1) (fun k => ch n k * x ^ k) + sN (n + 1) (fun k => ch n (k + 1) * x ^ (k + 1)) := by
      rw [← sN_mul, ← sN_add]
      apply sN_congr
      intro i _
      rw [Nat.pow_succ]
      grind
    have e2 : sN (n + 2) (fun k => ch n k * x ^ k) = 1 + sN (n + 1) (fun k => ch n (k + 1) * x ^ (k + 1)) := by
      rw [sN_front]
      simp [ch_zero]
    have e3 : sN (n + 2) (fun k => ch n k * x ^ k) = sN (n + 1) (fun k => ch n k * x ^ k) := by
      rw [sN, ch_out n (n + 1) (by omega)]
      omega
    rw [e1, Nat.pow_succ, ih]
    have : 1 + (x * sN (n + 1) (fun k => ch n k * x ^ k) + sN (n + 1) (fun k => ch n (k + 1) * x ^ (k + 1))) = x * sN (n + 1) (fun k => ch n k * x ^ k) + sN (n + 1) (fun k => ch n k * x ^ k) := by omega
    rw [this]
    grind
theorem Pr.ch_dvd {p : Nat} (hp : Pr p) (k : Nat) (h0 : 0 < k) (h1 : k < p) : p ∣ ch p k := by
  obtain ⟨n, rfl⟩ : ∃ n, p = n + 1 := ⟨p - 1, by have := hp.two; omega⟩
  obtain ⟨j, rfl⟩ : ∃ j, k = j + 1 := ⟨k - 1, by omega⟩
  have h := ch_mul n j
  rcases hp.dvd_mul (show n + 1 ∣ ch (n + 1) (j + 1) * (j + 1) from ⟨ch n j, h.symm⟩) with h2 | h2
  · exact h2
  · have := Nat.le_of_dvd (by omega) h2
    omega
theorem Pr.freshman {p : Nat} (hp : Pr p) (x : Nat) : ∃ m, (x + 1) ^ p = x ^ p + 1 + p * m := by
  obtain ⟨n, rfl⟩ : ∃ n, p = n + 1 := ⟨p - 1, by have := hp.two; omega⟩
  have hd : n + 1 ∣ sN n (fun k => ch (n + 1) (k + 1) * x ^ (k + 1)) := sN_dvd (fun i hi => Nat.dvd_trans (hp.ch_dvd (i + 1) (by omega) (by omega)) (Nat.dvd_mul_right _ _))
  obtain ⟨m, hm⟩ := hd
  refine ⟨m, ?_⟩
  rw [binom, sN_front]
  rw [show sN (n + 1) (fun k => ch (n + 1) (k + 1) * x ^ (k + 1)) = sN n (fun k => ch (n + 1) (k + 1) * x ^ (k + 1)) + ch (n + 1) (n + 1) * x ^ (n + 1) from rfl, hm, ch_self, ch_zero, Nat.pow_zero, Nat.one_mul, Nat.one_mul]
  omega
theorem Pr.fermat {p : Nat} (hp : Pr p) (x : Nat) : x ^ p % p = x % p := by
  induction x with
  | zero =>
    have := hp.two
    rw [Nat.zero_pow (by omega)]
  | succ x ih =>
    obtain ⟨m, hm⟩ := hp.freshman x
    rw [hm, Nat.add_mul_mod_self_left, Nat.add_mod, ih, ← Nat.add_mod]
theorem Pr.fermat1 {p : Nat} (hp : Pr p) (x : Nat) (h : x % p ≠ 0) : x ^ (p - 1) % p = 1 := by
  have h2 := hp.two
  obtain ⟨n, rfl⟩ : ∃ n, p = n + 1 := ⟨p - 1, by omega⟩
  have hf := hp.fermat x
  have hx0 : 0 < x := by
    rcases Nat.eq_zero_or_pos x with rfl | h'
    · simp at h
    · exact h'
  have hpow : 1 ≤ x ^ n := Nat.pos_of_ne_zero (fun h => by have := (Nat.pow_eq_zero.1 h).1; omega)
  have hd : n + 1 ∣ x * (x ^ n - 1) := by
    rw [Nat.mul_sub, Nat.mul_one, ← Nat.pow_succ']
    exact Nat.dvd_of_mod_eq_zero (Nat.sub_mod_eq_zero_of_mod_eq hf)
  rcases hp.dvd_mul hd with h3 | h3
  · exact absurd (Nat.mod_eq_zero_of_dvd h3) h
  · obtain ⟨m, hm⟩ := h3
    have : x ^ n = 1 + (n + 1) * m := by omega
    rw [Nat.add_sub_cancel, this, Nat.add_mul_mod_self_left, Nat.mod_eq_of_lt (by omega)]
theorem md_pr {f : Int} (h : md f ≠ 0) : Pr (md f).toNat := by
  obtain ⟨h0, h8⟩ := md_in h
  rcases nine h0 h8 with rfl | rfl | rfl | rfl | rfl | rfl | rfl | rfl | rfl
  · exact pr_of 17 2 (by decide) (by decide +kernel) (by decide)
  · exact pr_of 97 3 (by decide) (by decide +kernel) (by decide)
  · exact pr_of 193 4 (by decide) (by decide +kernel) (by decide)
  · exact pr_of 257 4 (by decide) (by decide +kernel) (by decide)
  · exact pr_of 7681 7 (by decide) (by decide +kernel) (by decide)
  · exact pr_of 12289 7 (by decide) (by decide +kernel) (by decide)
  · exact pr_of 998244353 15 (by decide) (by decide +kernel) (by decide)
  · exact pr_of 469762049 15 (by decide) (by decide +kernel) (by decide)
  · exact pr_of 1004535809 15 (by decide) (by decide +kernel) (by decide)
/-- An integer that is a multiple of the modulus, where a product is. -/
theorem no_zero {f : Int} (hp : md f ≠ 0) {x y : Int} (h : (x * y) % md f = 0) : x % md f = 0 ∨ y % md f = 0 := by
  have hq := md_pos hp
  have hpr := md_pr hp
  have e : (((md f).toNat : Nat) : Int) = md f := Int.toNat_of_nonneg (by omega)
  have h1 : (md f).toNat ∣ x.natAbs * y.natAbs := by
    rw [← Int.natAbs_mul, ← Int.ofNat_dvd_left, e]
    exact Int.dvd_of_emod_eq_zero h
  rcases hpr.dvd_mul h1 with h2 | h2
  · left
    exact Int.emod_eq_zero_of_dvd (by rw [← e]; exact Int.ofNat_dvd_left.2 h2)
  · right
    exact Int.emod_eq_zero_of_dvd (by rw [← e]; exact Int.ofNat_dvd_left.2 h2)
theorem fermat_int {f : Int} (hp : md f ≠ 0) {x : Int} (h0 : 0 ≤ x) (h : x % md f ≠ 0) : x ^ ((md f).toNat - 1) % md f = 1 := by
  have hq := md_pos hp
  have e : (((md f).toNat : Nat) : Int) = md f := Int.toNat_of_nonneg (by omega)
  obtain ⟨n, rfl⟩ := Int.eq_ofNat_of_zero_le h0
  have h1 : n % (md f).toNat ≠ 0 := by
    intro hh
    apply h
    rw [← e]
    exact_mod_cast hh
  have := (md_pr hp).fermat1 n h1
  rw [← e]
  exact_mod_cast this
theorem pow_emod (x p : Int) : ∀ n : Nat, (x % p) ^ n % p = x ^ n % p := by
  intro n
  induction n with
  | zero => simp
  | succ n ih => rw [Int.pow_succ, Int.pow_succ, Int.mul_emod, ih, Int.emod_emod_of_dvd _ (Int.dvd_refl p), ← Int.mul_emod]
theorem sq_pow (x : Int) : ∀ n : Nat, (x * x) ^ n = x ^ (2 * n) := by
  intro n
  induction n with
  | zero => simp
  | succ n ih => rw [Int.pow_succ, ih, show 2 * (n + 1) = 2 * n + 1 + 1 by omega, Int.pow_succ, Int.pow_succ, Int.mul_assoc]
/-- A power by squares: one round. -/
theorem pow_half (p x out : Int) (n : Nat) : (if n % 2 = 1 then (out * x % p) * (x * x % p) ^ (n / 2) % p else out * (x * x % p) ^ (n / 2) % p) = out * x ^ n % p := by
  have h : ∀ o : Int, o * (x * x % p) ^ (n / 2) % p = o * x ^ (2 * (n / 2)) % p := by
    intro o
    rw [Int.mul_emod, pow_emod, sq_pow, ← Int.mul_emod]
  by_cases c : n % 2 = 1
  · rw [if_pos c, h, Int.mul_emod, Int.emod_emod_of_dvd _ (Int.dvd_refl p), ← Int.mul_emod, Int.mul_assoc]
    congr 2
    rw [Int.mul_comm, ← Int.pow_succ]
    congr 1
    omega
  · rw [if_neg c, h]
    congr 3
    omega
/-- What the reference's power is. -/
def powS (f a e : Int) : Int := if a % md f = 0 then (if e = 0 then 1 else if e < 0 then -1 else 0) else (a % md f) ^ (e % (md f - 1)).toNat % md f
/-- The inverse of an element. -/
def inv (f a : Int) : Int := (a % md f) ^ ((md f).toNat - 2) % md f
theorem powS_inv {f a : Int} (hp : md f ≠ 0) (ha : a % md f ≠ 0) : powS f a (-1) = inv f a := by
  have hq := md_pos hp
  unfold powS inv
  rw [if_neg ha]
  have : (-1 : Int) % (md f - 1) = md f - 2 := by
    rw [← Int.add_emod_right, Int.emod_eq_of_lt (by omega) (by omega)]
    omega
  rw [this]
  congr 2
  omega
theorem inv_range (f a : Int) (hp : md f ≠ 0) : 0 ≤ inv f a ∧ inv f a < md f := by
  have hq := md_pos hp
  exact emod_range _ (by omega)
theorem mul_inv {f a : Int} (hp : md f ≠ 0) (ha : a % md f ≠ 0) : (a * inv f a) % md f = 1 := by
  have hq := md_pos hp
  have hr := emod_range a (show 0 < md f by omega)
  have h := fermat_int hp hr.1 (x := a % md f) (by rwa [Int.emod_emod_of_dvd _ (Int.dvd_refl _)])
  unfold inv
  rw [Int.mul_emod, Int.emod_emod_of_dvd _ (Int.dvd_refl (md f)), ← h]
  conv => rhs; rw [show (md f).toNat - 1 = ((md f).toNat - 2) + 1 by omega, Int.pow_succ, Int.mul_comm, Int.mul_emod, Int.emod_emod_of_dvd _ (Int.dvd_refl (md f))]

theorem sumN_add (n : Nat) (g h : Nat → Int) : sumN n (fun k => g k + h k) = sumN n g + sumN n h := by
  induction n with
  | zero => rfl
  | succ n ih => simp only [sumN, ih]; omega
theorem sumN_sub (n : Nat) (g h : Nat → Int) : sumN n (fun k => g k - h k) = sumN n g - sumN n h := by
  induction n with
  | zero => rfl
  | succ n ih => simp only [sumN, ih]; omega
theorem sumN_mul (n : Nat) (x : Int) (g : Nat → Int) : sumN n (fun k => x * g k) = x * sumN n g := by
  induction n with
  | zero => simp [sumN]
  | succ n ih => simp only [sumN, ih, Int.mul_add]
theorem sumN_emod {n : Nat} {g h : Nat → Int} (p : Int) (e : ∀ i, i < n → g i % p = h i % p) : sumN n g % p = sumN n h % p := by
  induction n with
  | zero => rfl
  | succ n ih =>
    simp only [sumN]
    rw [Int.add_emod, ih (fun i hi => e i (by omega)), e n (by omega), ← Int.add_emod]
theorem sumN_single {n k : Nat} {g : Nat → Int} (hk : k < n) (e : ∀ i, i < n → i ≠ k → g i = 0) : sumN n g = g k := by
  induction n with
  | zero => omega
  | succ n ih =>
    simp only [sumN]
    by_cases c : k = n
    · subst c
      rw [sumN_zero (fun i hi => e i (by omega) (by omega))]
      omega
    · rw [ih (by omega) (fun i hi hne => e i (by omega) hne), e n (by omega) (by omega)]
      omega
theorem sumN_emod_single {n k : Nat} {g : Nat → Int} (p : Int) (hk : k < n) (e : ∀ i, i < n → i ≠ k → g i % p = 0) : sumN n g % p = g k % p := by
  have h : sumN n g % p = sumN n (fun i => if i = k then g k else 0) % p := by
    apply sumN_emod
    intro i hi
    by_cases c : i = k
    · subst c; rw [if_pos rfl]
    · rw [if_neg c, e i hi c]; simp
  rw [h, sumN_single hk (fun i _ hne => by rw [if_neg hne]), if_pos rfl]
/-- The product's coefficients. -/
def cv (A B : Nat → Int) (m : Nat) : Int := sumN (m + 1) (fun t => A t * B (m - t))
theorem cv_sub (A A' B : Nat → Int) (m : Nat) : cv (fun t => A t - A' t) B m = cv A B m - cv A' B m := by
  unfold cv
  rw [← sumN_sub]
  exact sumN_congr (fun i _ => Int.sub_mul _ _ _)
theorem cv_emod_left {A A' B : Nat → Int} {p : Int} (h : ∀ i, A i % p = A' i % p) (m : Nat) : cv A B m % p = cv A' B m % p := by
  unfold cv
  apply sumN_emod
  intro i _
  rw [Int.mul_emod, h i, ← Int.mul_emod]
/-- A coefficient more. -/
theorem cv_put (A B : Nat → Int) (k : Nat) (v : Int) (hk : A k = 0) (m : Nat) : cv (fun t => if t = k then v else A t) B m = cv A B m + (if k ≤ m then v * B (m - k) else 0) := by
  have h : cv (fun t => if t = k then v else A t) B m = cv A B m + sumN (m + 1) (fun t => if t = k then v * B (m - k) else 0) := by
    unfold cv
    rw [← sumN_add]
    apply sumN_congr
    intro i _
    by_cases c : i = k
    · subst c
      simp [hk]
    · simp [c]
  rw [h]
  by_cases c : k ≤ m
  · rw [if_pos c, sumN_single (k := k) (by omega) (fun i _ hne => by simp [hne])]
    simp
  · rw [if_neg c, sumN_zero (fun i hi => by rw [if_neg (by omega)])]
theorem cv_top {p : Int} {D B : Nat → Int} {n t : Nat} (hn : 1 ≤ n) (hB : ∀ i, n ≤ i → B i = 0) (h : ∀ s, t < s → D s % p = 0) : cv D B (t + (n - 1)) % p = (D t * B (n - 1)) % p := by
  unfold cv
  rw [sumN_emod_single (k := t) p (by omega)]
  · rw [show t + (n - 1) - t = n - 1 by omega]
  · intro i hi hne
    by_cases c : t < i
    · rw [Int.mul_emod, h i c]; simp
    · rw [hB _ (by omega)]; simp
theorem quotient_zero {f : Int} (hp : md f ≠ 0) {D B E : Nat → Int} {n : Nat} (hn : 1 ≤ n) (hB : ∀ i, n ≤ i → B i = 0) (hl : B (n - 1) % md f ≠ 0) (hcv : ∀ m, cv D B m % md f = E m % md f) (hE : ∀ m, n - 1 ≤ m → E m % md f = 0)
    (N : Nat) (hD : ∀ s, N ≤ s → D s % md f = 0) : ∀ s, D s % md f = 0 := by
  have key : ∀ j s : Nat, N ≤ s + j → D s % md f = 0 := by
    intro j
    induction j with
    | zero => intro s hs; exact hD s (by omega)
    | succ j ih =>
      intro s hs
      by_cases c : N ≤ s + j
      · exact ih s c
      · have ht := cv_top (p := md f) (D := D) (t := s) hn hB (fun u hu => ih u (by omega))
        rw [hcv, hE _ (by omega)] at ht
        rcases no_zero hp ht.symm with h1 | h1
        · exact h1
        · exact absurd h1 hl
  intro s
  exact key N s (by omega)
theorem el_eq {p x y : Int} (hx : 0 ≤ x ∧ x < p) (hy : 0 ≤ y ∧ y < p) (h : (x - y) % p = 0) : x = y := by
  obtain ⟨k, hk⟩ := Int.dvd_of_emod_eq_zero h
  rcases Int.lt_trichotomy k 0 with c | c | c
  · have := Int.mul_le_mul_of_nonneg_left (show k ≤ -1 by omega) (show 0 ≤ p by omega)
    omega
  · subst c; omega
  · have := Int.mul_le_mul_of_nonneg_left (show 1 ≤ k by omega) (show 0 ≤ p by omega)
    omega
theorem el_eq_emod {p x y : Int} (hx : 0 ≤ x ∧ x < p) (hy : 0 ≤ y ∧ y < p) (h : x % p = y % p) : x = y := by
  rwa [Int.emod_eq_of_lt hx.1 hx.2, Int.emod_eq_of_lt hy.1 hy.2] at h
/-- How many coefficients stay, the zeros at the end cut off; the list so cut. -/
def tn (l : List Int) : Nat → Nat
  | 0 => 0
  | n + 1 => if L l n = 0 then tn l n else n + 1
def tr (l : List Int) : List Int := l.take (tn l l.length)
def Tr (l : List Int) : Prop := ∀ j, l.length = j + 1 → L l j ≠ 0
theorem tn_le (l : List Int) : ∀ n, tn l n ≤ n := by
  intro n
  induction n with
  | zero => exact Nat.le_refl _
  | succ n ih =>
    simp only [tn]
    split
    · omega
    · omega
theorem tn_zero (l : List Int) : ∀ n i, tn l n ≤ i → i < n → L l i = 0 := by
  intro n
  induction n with
  | zero => intro i _ h; omega
  | succ n ih =>
    intro i h1 h2
    simp only [tn] at h1
    by_cases c : L l n = 0
    · rw [if_pos c] at h1
      by_cases e : i = n
      · subst e; exact c
      · exact ih i h1 (by omega)
    · rw [if_neg c] at h1; omega
theorem tn_last (l : List Int) : ∀ n j, tn l n = j + 1 → L l j ≠ 0 := by
  intro n
  induction n with
  | zero => intro j h; simp [tn] at h
  | succ n ih =>
    intro j h
    simp only [tn] at h
    by_cases c : L l n = 0
    · rw [if_pos c] at h; exact ih j h
    · rw [if_neg c] at h
      obtain rfl : n = j := by omega
      exact c
theorem L_take (l : List Int) (n i : Nat) : L (l.take n) i = if i < n then L l i else 0 := by
  by_cases c : i < n
  · rw [if_pos c]
    by_cases d : i < l.length
    · rw [L_at _ _ (by simp; omega), L_at _ _ d]; simp
    · rw [L_out _ _ (by simp; omega), L_out _ _ (by omega)]
  · rw [if_neg c, L_out _ _ (by simp; omega)]
theorem tr_length (l : List Int) : (tr l).length = tn l l.length := by
  unfold tr
  rw [List.length_take]
  have := tn_le l l.length
  omega
theorem tr_le (l : List Int) : (tr l).length ≤ l.length := by rw [tr_length]; exact tn_le _ _
theorem L_tr (l : List Int) (i : Nat) : L (tr l) i = L l i := by
  unfold tr
  rw [L_take]
  by_cases c : i < tn l l.length
  · rw [if_pos c]
  · rw [if_neg c]
    by_cases d : i < l.length
    · rw [tn_zero l l.length i (by omega) d]
    · rw [L_out l i (by omega)]
theorem tr_Tr (l : List Int) : Tr (tr l) := by
  intro j h
  rw [tr_length] at h
  rw [L_tr]
  exact tn_last l l.length j h
theorem tr_el {p : Int} {l : List Int} (h : El p l) : El p (tr l) := fun x hx => h x (List.mem_of_mem_take hx)
theorem Tr.ext {a b : List Int} (ha : Tr a) (hb : Tr b) (h : ∀ i, L a i = L b i) : a = b := by
  have hl : a.length = b.length := by
    rcases Nat.lt_trichotomy a.length b.length with c | c | c
    · exfalso
      have := hb (b.length - 1) (by omega)
      rw [← h, L_out a _ (by omega)] at this
      exact this rfl
    · exact c
    · exfalso
      have := ha (a.length - 1) (by omega)
      rw [h, L_out b _ (by omega)] at this
      exact this rfl
  exact list_ext hl (fun i _ => h i)
/-- What a list's numbers are beyond zeros: its length is at most where they end. -/
theorem Tr.le {a : List Int} (ha : Tr a) {n : Nat} (h : ∀ i, n ≤ i → L a i = 0) : a.length ≤ n := by
  rcases Nat.lt_or_ge n a.length with c | c
  · exact absurd (h (a.length - 1) (by omega)) (ha (a.length - 1) (by omega))
  · exact c
/-- Two divisions of one list by b: one quotient, one rest. -/
theorem div_unique {f : Int} (hp : md f ≠ 0) {b q r q' r' : List Int} (hb : 1 ≤ b.length) (hEb : El (md f) b) (hTb : Tr b) (hq : El (md f) q) (hr : El (md f) r) (hq' : El (md f) q') (hr' : El (md f) r')
    (tq : Tr q) (trr : Tr r) (tq' : Tr q') (tr' : Tr r') (lr : r.length < b.length) (lr' : r'.length < b.length)
    (h : ∀ m, (cv (L q) (L b) m + L r m) % md f = (cv (L q') (L b) m + L r' m) % md f) : q = q' ∧ r = r' := by
  have hm := md_pos hp
  have hlast : L b (b.length - 1) % md f ≠ 0 := by
    have h1 := hTb (b.length - 1) (by omega)
    have h2 := L_el (show 0 < md f by omega) hEb (b.length - 1)
    rw [Int.emod_eq_of_lt h2.1 h2.2]
    exact h1
  have hsub : ∀ m, cv (fun t => L q t - L q' t) (L b) m % md f = (L r' m - L r m) % md f := by
    intro m
    rw [cv_sub]
    have e := h m
    have e2 := Int.emod_emod_of_dvd 0 (Int.dvd_refl (md f))
    have : (cv (L q) (L b) m + L r m - (cv (L q') (L b) m + L r' m)) % md f = 0 := Int.emod_eq_emod_iff_emod_sub_eq_zero.1 e
    apply Int.emod_eq_emod_iff_emod_sub_eq_zero.2
    rw [← this]
    congr 1
    omega
  have hz := quotient_zero hp (D := fun t => L q t - L q' t) (B := L b) (E := fun m => L r' m - L r m) hb (fun i hi => L_out b i hi) hlast hsub
    (fun m hmm => by rw [L_out r' m (by omega), L_out r m (by omega)]; simp) (q.length + q'.length) (fun s hs => by show (L q s - L q' s) % md f = 0; rw [L_out q s (by omega), L_out q' s (by omega)]; simp)
  have hqq : q = q' := tq.ext tq' (fun i => el_eq (L_el (by omega) hq i) (L_el (by omega) hq' i) (hz i))
  subst hqq
  refine ⟨rfl, trr.ext tr' (fun i => ?_)⟩
  have e := hsub i
  rw [cv_sub, Int.sub_self] at e
  exact (el_eq (L_el (by omega) hr' i) (L_el (by omega) hr i) (by rw [← e]; simp)).symm
theorem sumN_front (n : Nat) (g : Nat → Int) : sumN (n + 1) g = g 0 + sumN n (fun k => g (k + 1)) := by
  induction n with
  | zero => simp [sumN]
  | succ n ih => rw [sumN, ih]; simp only [sumN]; omega
theorem sumN_rev (n : Nat) : ∀ g : Nat → Int, sumN n g = sumN n (fun i => g (n - 1 - i)) := by
  induction n with
  | zero => intro g; rfl
  | succ n ih =>
    intro g
    rw [sumN_front, sumN, ih (fun k => g (k + 1))]
    rw [show n + 1 - 1 - n = 0 by omega]
    have : sumN n (fun i => g (n - 1 - i + 1)) = sumN n (fun i => g (n + 1 - 1 - i)) := sumN_congr (fun i hi => by rw [show n - 1 - i + 1 = n + 1 - 1 - i by omega])
    rw [this]
    omega
theorem cv_comm (A B : Nat → Int) (m : Nat) : cv A B m = cv B A m := by
  unfold cv
  rw [sumN_rev]
  apply sumN_congr
  intro i hi
  rw [show m - (m + 1 - 1 - i) = i by omega, show m + 1 - 1 - i = m - i by omega, Int.mul_comm]
theorem cv_out (a b : List Int) (m : Nat) (h : a.length + b.length ≤ m + 1) : cv (L a) (L b) m = 0 := by
  unfold cv
  apply sumN_zero
  intro i hi
  by_cases c : i < a.length
  · rw [L_out b _ (by omega)]; simp
  · rw [L_out a _ (by omega)]; simp
/-- The sum and the product of two polynomials. -/
def addP (p : Int) (a b : List Int) : List Int := tr (fl (max a.length b.length) (fun m => (L a m + L b m) % p))
def mulP (p : Int) (a b : List Int) : List Int := if a.length = 0 ∨ b.length = 0 then [] else tr (fl (a.length + b.length - 1) (fun m => cv (L a) (L b) m % p))
theorem L_addP (p : Int) (a b : List Int) (i : Nat) : L (addP p a b) i = (L a i + L b i) % p := by
  unfold addP
  rw [L_tr]
  by_cases c : i < max a.length b.length
  · rw [L_fl _ _ _ c]
  · rw [L_out _ _ (by rw [fl_length]; omega), L_out a i (by omega), L_out b i (by omega)]
    simp
theorem L_mulP (p : Int) (a b : List Int) (i : Nat) : L (mulP p a b) i = cv (L a) (L b) i % p := by
  unfold mulP
  by_cases z : a.length = 0 ∨ b.length = 0
  · rw [if_pos z, L_out [] i (by simp)]
    have : cv (L a) (L b) i = 0 := by
      unfold cv
      apply sumN_zero
      intro j _
      rcases z with z | z
      · rw [L_out a j (by omega)]; simp
      · rw [L_out b _ (by omega)]; simp
    rw [this]
    simp
  · rw [if_neg z, L_tr]
    by_cases c : i < a.length + b.length - 1
    · rw [L_fl _ _ _ c]
    · rw [L_out _ _ (by rw [fl_length]; omega), cv_out a b i (by omega)]
      simp
theorem addP_Tr (p : Int) (a b : List Int) : Tr (addP p a b) := tr_Tr _
theorem mulP_Tr (p : Int) (a b : List Int) : Tr (mulP p a b) := by
  unfold mulP
  split
  · intro j h; simp at h
  · exact tr_Tr _
theorem addP_el {p : Int} (hp : 0 < p) (a b : List Int) : El p (addP p a b) := tr_el (fl_el (fun _ _ => emod_range _ hp))
theorem mulP_el {p : Int} (hp : 0 < p) (a b : List Int) : El p (mulP p a b) := by
  unfold mulP
  split
  · exact El.nil p
  · exact tr_el (fl_el (fun _ _ => emod_range _ hp))
theorem mulP_le (p : Int) (a b : List Int) : (mulP p a b).length ≤ a.length + b.length := by
  unfold mulP
  split
  · simp
  · have := tr_le (fl (a.length + b.length - 1) (fun m => cv (L a) (L b) m % p))
    rw [fl_length] at this
    omega

end Go.Vm.Pu
namespace Go.Vm.Pu
open Go Go.RowKit Go.Vm
set_option linter.unusedVariables false
set_option linter.unusedSimpArgs false
def Ev {α : Type} (g : Nat → Option α) (r : α) : Prop := ∃ B, ∀ k, B ≤ k → g k = some r
def Ev2 {α : Type} (g : Nat → Nat → Option α) (r : α) : Prop := ∃ B, ∀ K u, B ≤ K → B ≤ u → g K u = some r
def Ev3 {α : Type} (g : Nat → Nat → Nat → Option α) (r : α) : Prop := ∃ B, ∀ K u v, B ≤ K → B ≤ u → B ≤ v → g K u v = some r
theorem Ev.now {α : Type} (r : α) : Ev (fun _ => some r) r := ⟨0, fun _ _ => rfl⟩
theorem Ev.of {α : Type} {g : Nat → Option α} {r : α} (B : Nat) (h : ∀ k, B ≤ k → g k = some r) : Ev g r := ⟨B, h⟩
theorem Ev.step {α : Type} {g f : Nat → Option α} {r : α} (h : ∀ k, 5000 ≤ k → g (k + 1) = f k) (e : Ev f r) : Ev g r := by
  obtain ⟨B, hB⟩ := e
  refine ⟨B + 5001, fun k hk => ?_⟩
  obtain ⟨k, rfl⟩ : ∃ m, k = m + 1 := ⟨k - 1, by omega⟩
  rw [h k (by omega)]
  exact hB k (by omega)
theorem Ev.bind {α β : Type} {f : Nat → Option β} {g : β → Nat → Option α} {a : β} {r : α} (h1 : Ev f a) (h2 : Ev (g a) r) : Ev (fun k => (f k).bind (fun x => g x k)) r := by
  obtain ⟨B, hB⟩ := h1
  obtain ⟨C, hC⟩ := h2
  refine ⟨B + C, fun k hk => ?_⟩
  show (f k).bind (fun x => g x k) = some r
  rw [hB k (by omega), bs]
  exact hC k (by omega)
theorem Ev.ret {α : Type} {f : Nat → Option α} {a : α} (h : Ev f a) : Ev (fun k => (f k).bind (fun x => some x)) a := by
  obtain ⟨B, hB⟩ := h
  exact ⟨B, fun k hk => by simp only [hB k hk, bs]⟩
theorem Ev.enter {α : Type} {g : Nat → Nat → Option α} {r : α} (e : Ev2 g r) : Ev (fun k => g k k) r := by
  obtain ⟨B, hB⟩ := e
  exact ⟨B, fun k hk => hB k k hk hk⟩
theorem Ev2.now {α : Type} (r : α) : Ev2 (fun _ _ => some r) r := ⟨0, fun _ _ _ _ => rfl⟩
theorem Ev2.of {α : Type} {f : Nat → Option α} {r : α} (e : Ev f r) : Ev2 (fun K _ => f K) r := by
  obtain ⟨B, hB⟩ := e
  exact ⟨B, fun K u hK hu => hB K hK⟩
theorem Ev2.step {α : Type} {g f : Nat → Nat → Option α} {r : α} (h : ∀ K u, 5000 ≤ K → g K (u + 1) = f K u) (e : Ev2 f r) : Ev2 g r := by
  obtain ⟨B, hB⟩ := e
  refine ⟨B + 5001, fun K u hK hu => ?_⟩
  obtain ⟨u, rfl⟩ : ∃ m, u = m + 1 := ⟨u - 1, by omega⟩
  rw [h K u (by omega)]
  exact hB K u (by omega) (by omega)
theorem Ev2.bind {α β : Type} {f : Nat → Option β} {g : β → Nat → Nat → Option α} {a : β} {r : α} (h1 : Ev f a) (h2 : Ev2 (g a) r) : Ev2 (fun K u => (f K).bind (fun x => g x K u)) r := by
  obtain ⟨B, hB⟩ := h1
  obtain ⟨C, hC⟩ := h2
  refine ⟨B + C, fun K u hK hu => ?_⟩
  show (f K).bind (fun x => g x K u) = some r
  rw [hB K (by omega), bs]
  exact hC K u (by omega) (by omega)
theorem Ev2.enter {α : Type} {g : Nat → Nat → Nat → Option α} {r : α} (e : Ev3 g r) : Ev2 (fun K u => g K u K) r := by
  obtain ⟨B, hB⟩ := e
  exact ⟨B, fun K u hK hu => hB K u K hK hu hK⟩
/-- A loop that follows another. -/
theorem Ev2.enter0 {α : Type} {g : Nat → Nat → Option α} {r : α} (e : Ev2 g r) : Ev2 (fun K _ => g K K) r := by
  obtain ⟨B, hB⟩ := e
  exact ⟨B, fun K u hK hu => hB K K hK hK⟩
theorem Ev3.step {α : Type} {g f : Nat → Nat → Nat → Option α} {r : α} (h : ∀ K u v, 5000 ≤ K → g K u (v + 1) = f K u v) (e : Ev3 f r) : Ev3 g r := by
  obtain ⟨B, hB⟩ := e
  refine ⟨B + 5001, fun K u v hK hu hv => ?_⟩
  obtain ⟨v, rfl⟩ : ∃ m, v = m + 1 := ⟨v - 1, by omega⟩
  rw [h K u v (by omega)]
  exact hB K u v (by omega) (by omega) (by omega)
theorem Ev3.bind {α β : Type} {f : Nat → Option β} {g : β → Nat → Nat → Nat → Option α} {a : β} {r : α} (h1 : Ev f a) (h2 : Ev3 (g a) r) : Ev3 (fun K u v => (f K).bind (fun x => g x K u v)) r := by
  obtain ⟨B, hB⟩ := h1
  obtain ⟨C, hC⟩ := h2
  refine ⟨B + C, fun K u v hK hu hv => ?_⟩
  show (f K).bind (fun x => g x K u v) = some r
  rw [hB K (by omega), bs]
  exact hC K u v (by omega) (by omega) (by omega)
theorem Ev3.leave {α : Type} {g : Nat → Nat → Option α} {r : α} (e : Ev2 g r) : Ev3 (fun K u _ => g K u) r := by
  obtain ⟨B, hB⟩ := e
  exact ⟨B, fun K u v hK hu hv => hB K u hK hu⟩
theorem cutI_front (l : List Int) (i : Nat) : cut l 0 (i : Int) = l.take i := by
  simp [cut]
/- The field. -/
theorem modV (f : Int) (k : Nat) (hk : 1 ≤ k) : spec_Modulus.f k f = some (md f) := by
  obtain ⟨k, rfl⟩ : ∃ m, k = m + 1 := ⟨k - 1, by omega⟩
  rw [spec_Modulus.f_eq]
  unfold md
  simp only [apply_ite some]
theorem redV (f x : Int) (hp : md f ≠ 0) (k : Nat) (hk : 2 ≤ k) : spec_Reduce.f k f x = some (x % md f) := by
  obtain ⟨k, rfl⟩ : ∃ m, k = m + 1 := ⟨k - 1, by omega⟩
  have h := md_pos hp
  have hr := reduce_int x (md f) (by omega)
  have hx := emod_range x (show 0 < md f by omega)
  rw [spec_Reduce.f_eq, modV f k (by omega), bs, if_neg hp, if_pos hp]
  by_cases c : Int.tmod x (md f) < 0
  · rw [if_pos c] at hr ⊢
    rw [hr, wrap_id (by omega) (by omega)]
  · rw [if_neg c] at hr ⊢
    rw [hr]
theorem mulV (f x y : Int) (hp : md f ≠ 0) (k : Nat) (hk : 3 ≤ k) : spec_Mul.f k f x y = some ((x * y) % md f) := by
  obtain ⟨k, rfl⟩ : ∃ m, k = m + 1 := ⟨k - 1, by omega⟩
  have h := md_pos hp
  have hx := emod_range x (show 0 < md f by omega)
  have hy := emod_range y (show 0 < md f by omega)
  have hm := prod_range h.2 hx hy
  rw [spec_Mul.f_eq, modV f k (by omega), bs, if_neg hp]
  simp only [redV f _ hp k (by omega), bs]
  rw [wrap_id (by omega) (by omega), ← Int.mul_emod]
theorem subV (f x y : Int) (hp : md f ≠ 0) (k : Nat) (hk : 3 ≤ k) : spec_Sub.f k f x y = some ((x - y) % md f) := by
  obtain ⟨k, rfl⟩ : ∃ m, k = m + 1 := ⟨k - 1, by omega⟩
  have h := md_pos hp
  have hx := emod_range x (show 0 < md f by omega)
  have hy := emod_range y (show 0 < md f by omega)
  rw [spec_Sub.f_eq, modV f k (by omega), bs, if_neg hp]
  simp only [redV f _ hp k (by omega), bs]
  rw [wrap_id (by omega) (by omega), ← Int.sub_emod]
theorem addV (f x y : Int) (hp : md f ≠ 0) (k : Nat) (hk : 3 ≤ k) : spec_Add.f k f x y = some ((x + y) % md f) := by
  obtain ⟨k, rfl⟩ : ∃ m, k = m + 1 := ⟨k - 1, by omega⟩
  have h := md_pos hp
  have hx := emod_range x (show 0 < md f by omega)
  have hy := emod_range y (show 0 < md f by omega)
  rw [spec_Add.f_eq, modV f k (by omega), bs, if_neg hp]
  simp only [redV f _ hp k (by omega), bs]
  rw [wrap_id (by omega) (by omega), ← Int.add_emod]
theorem pow_loop (p : Int) (h2 : 2 ≤ p) (hp : p ≤ 1004535809) (K : Nat) : ∀ (m n u : Nat), n < 2 ^ m → n ≤ 4611686018427387904 → m < u → ∀ (x out : Int), 0 ≤ x ∧ x < p → 0 ≤ out ∧ out < p → spec_Power.l0 K u p x (n : Int) out = some (out * x ^ n % p) := by
  intro m
  induction m with
  | zero =>
    intro n u hn _ hu x out hx ho
    obtain rfl : n = 0 := by omega
    obtain ⟨u, rfl⟩ : ∃ m, u = m + 1 := ⟨u - 1, by omega⟩
    rw [spec_Power.l0_eq, if_neg (by omega), Int.pow_zero, Int.mul_one, Int.emod_eq_of_lt ho.1 ho.2]
  | succ m ih =>
    intro n u hn hmax hu x out hx ho
    obtain ⟨u, rfl⟩ : ∃ m, u = m + 1 := ⟨u - 1, by omega⟩
    by_cases c : n = 0
    · subst c
      rw [spec_Power.l0_eq, if_neg (by omega), Int.pow_zero, Int.mul_one, Int.emod_eq_of_lt ho.1 ho.2]
    · have hxx := prod_range hp hx hx
      have hox := prod_range hp ho hx
      have r1 := emod_range (x * x) (show 0 < p by omega)
      have r2 := emod_range (out * x) (show 0 < p by omega)
      have hdiv : wrap64 (Int.tdiv (n : Int) 2) = ((n / 2 : Nat) : Int) := by
        rw [Int.tdiv_eq_ediv_of_nonneg (by omega), wrap_id (by omega) (by omega)]
        rfl
      have hpw := pow_half p x out n
      by_cases o : n % 2 = 1
      · rw [if_pos o] at hpw
        rw [← hpw, spec_Power.l0_eq, if_pos (by omega), if_pos (by rw [tmod_nonneg' _ (by omega)]; omega), if_pos (by omega), if_pos (by omega), hdiv, wrap_id (x := x * x) (by omega) (by omega), wrap_id (x := out * x) (by omega) (by omega), tmod_nonneg' _ hxx.1, tmod_nonneg' _ hox.1]
        exact ih (n / 2) u (by rw [Nat.pow_succ] at hn; omega) (by omega) (by omega) _ _ r1 r2
      · rw [if_neg o] at hpw
        rw [← hpw, spec_Power.l0_eq, if_pos (by omega), if_neg (by rw [tmod_nonneg' _ (by omega)]; omega), if_pos (by omega), hdiv, wrap_id (x := x * x) (by omega) (by omega), tmod_nonneg' _ hxx.1]
        exact ih (n / 2) u (by rw [Nat.pow_succ] at hn; omega) (by omega) (by omega) _ _ r1 ho
theorem powV (f a e : Int) (hp : md f ≠ 0) (he0 : -4611686018427387904 ≤ e) (he1 : e ≤ 4611686018427387904) (k : Nat) (hk : 70 ≤ k) : spec_Power.f k f a e = some (powS f a e) := by
  obtain ⟨k, rfl⟩ : ∃ m, k = m + 1 := ⟨k - 1, by omega⟩
  have hq := md_pos hp
  have hr := emod_range a (show 0 < md f by omega)
  have hn := emod_range e (show 0 < md f - 1 by omega)
  have hre := reduce_int e (md f - 1) (by omega)
  unfold powS
  rw [spec_Power.f_eq, modV f k (by omega), bs, if_neg hp, redV f a hp k (by omega), bs]
  by_cases z : a % md f = 0
  · rw [if_pos z, if_pos z]
    by_cases e0 : e = 0
    · rw [if_pos e0, if_pos e0]
    · rw [if_neg e0, if_neg e0]
      by_cases e1 : e < 0
      · rw [if_pos e1, if_pos e1]
      · rw [if_neg e1, if_neg e1]
  · rw [if_neg z, if_neg z]
    have hl := pow_loop (md f) (by omega) hq.2 k 62 (e % (md f - 1)).toNat k (by omega) (by omega) (by omega) (a % md f) 1 hr ⟨by omega, by omega⟩
    rw [Int.one_mul, Int.toNat_of_nonneg hn.1] at hl
    rw [wrap_id (x := md f - 1) (by omega) (by omega), if_pos (by omega)]
    by_cases c : Int.tmod e (md f - 1) < 0
    · rw [if_pos c] at hre ⊢
      have : -(md f - 1) < Int.tmod e (md f - 1) := by
        have := Int.lt_tmod_of_pos e (show 0 < md f - 1 by omega)
        omega
      rw [wrap_id (x := Int.tmod e (md f - 1) + md f) (by omega) (by omega), wrap_id (by omega) (by omega), show Int.tmod e (md f - 1) + md f - 1 = e % (md f - 1) by omega, spec_Power.j0_eq]
      exact hl
    · rw [if_neg c] at hre ⊢
      rw [hre, spec_Power.j0_eq]
      exact hl
theorem invV (f a : Int) (hp : md f ≠ 0) (ha : a % md f ≠ 0) (k : Nat) (hk : 71 ≤ k) : spec_Inverse.f k f a = some (inv f a) := by
  obtain ⟨k, rfl⟩ : ∃ m, k = m + 1 := ⟨k - 1, by omega⟩
  rw [spec_Inverse.f_eq, powV f a (-1) hp (by omega) (by omega) k (by omega), bs, powS_inv hp ha]
theorem inV (x a b : Int) (k : Nat) (hk : 1 ≤ k) : spec_l01In.f k x a b = some (decide (a ≤ x ∧ x ≤ b)) := by
  obtain ⟨k, rfl⟩ : ∃ m, k = m + 1 := ⟨k - 1, by omega⟩
  rw [spec_l01In.f_eq]
  by_cases c : a ≤ x
  · rw [if_pos c]; simp [c]
  · rw [if_neg c]; simp [c]
theorem elemsV (f : Int) (l : List Int) (hn : l.length ≤ 2000000) (k : Nat) (hk : l.length + 2 < k) : spec_l03Elements.f k f l = some (decide (md f ≠ 0 ∧ El (md f) l)) := by
  obtain ⟨k, rfl⟩ : ∃ m, k = m + 1 := ⟨k - 1, by omega⟩
  rw [spec_l03Elements.f_eq, modV f k (by omega), bs]
  by_cases hp : md f = 0
  · rw [if_pos hp, decide_eq_false (fun h => h.1 hp)]
  · rw [if_neg hp]
    have hq := md_pos hp
    have key := loop_list (fun u (_ : Unit) i => spec_l03Elements.l0 k u l (md f) i) l 0 (fun _ _ => True) (fun r _ => decide (El (md f) r)) (by
      intro u s _ _
      simp only [spec_l03Elements.l0_eq]
      rw [if_neg (by omega), decide_eq_true (El.nil _)]) (by
      intro u i s h _ _
      simp only [spec_l03Elements.l0_eq]
      rw [if_pos (by omega), if_pos (by omega), if_pos (by omega), rd_at l i h, wrap_id (x := md f - 1) (by omega) (by omega), inV _ _ _ k (by omega)]
      simp only [bs]
      by_cases c : 0 ≤ l[i] ∧ l[i] ≤ md f - 1
      · left
        refine ⟨(), ?_, trivial, ?_⟩
        · rw [if_neg (by simpa using c), wrap_next h (by omega)]
        · apply decide_eq_decide.mpr
          constructor
          · intro hh x hx
            exact hh x (List.mem_cons_of_mem _ hx)
          · intro hh x hx
            rcases List.mem_cons.1 hx with rfl | hx
            · omega
            · exact hh x hx
      · right
        rw [decide_eq_false c, if_pos (by decide)]
        rw [decide_eq_false]
        intro hh
        have := hh l[i] List.mem_cons_self
        omega) k () (by omega) trivial
    rw [key]
    congr 1
    exact decide_eq_decide.mpr ⟨fun h => ⟨hp, h⟩, fun h => h.2⟩
theorem fieldV (f : Int) (k : Nat) (hk : 1 ≤ k) : impl_fieldOf.f k f = some (md f, gn f, tw f, decide (md f ≠ 0)) := by
  obtain ⟨k, rfl⟩ : ∃ m, k = m + 1 := ⟨k - 1, by omega⟩
  rw [impl_fieldOf.f_eq]
  by_cases c : 0 ≤ f ∧ f ≤ 8
  · rcases nine c.1 c.2 with rfl | rfl | rfl | rfl | rfl | rfl | rfl | rfl | rfl <;> rfl
  · obtain ⟨h1, h2, h3⟩ := md_out c
    rw [h1, h2, h3]
    by_cases c0 : f < 0
    · rw [if_pos c0]; rfl
    · rw [if_neg c0, if_pos (by omega)]; rfl
theorem areElV (p g t : Int) (l : List Int) (hn : l.length ≤ 2000000) (k : Nat) (hk : l.length + 1 < k) : impl_field__areElements.f k p g t l = some (decide (El p l)) := by
  obtain ⟨k, rfl⟩ : ∃ m, k = m + 1 := ⟨k - 1, by omega⟩
  rw [impl_field__areElements.f_eq]
  exact loop_list (fun u (_ : Unit) i => impl_field__areElements.l0 k u l (l.length : Int) i p g t) l 0 (fun _ _ => True) (fun r _ => decide (El p r)) (by
    intro u s _ _
    simp only [impl_field__areElements.l0_eq]
    rw [if_neg (by omega), decide_eq_true (El.nil _)]) (by
    intro u i s h _ _
    simp only [impl_field__areElements.l0_eq]
    rw [if_pos (by omega), if_pos (by omega), if_pos (by omega), rd_at l i h]
    by_cases c : l[i] < 0
    · right
      rw [if_pos c, decide_eq_false]
      intro hh
      have := hh l[i] List.mem_cons_self
      omega
    · by_cases c1 : l[i] ≥ p
      · right
        rw [if_neg c, if_pos c1, decide_eq_false]
        intro hh
        have := hh l[i] List.mem_cons_self
        omega
      · left
        refine ⟨(), ?_, trivial, ?_⟩
        · rw [if_neg c, if_neg c1, wrap_next h (by omega)]
        · apply decide_eq_decide.mpr
          constructor
          · intro hh x hx
            exact hh x (List.mem_cons_of_mem _ hx)
          · intro hh x hx
            rcases List.mem_cons.1 hx with rfl | hx
            · omega
            · exact hh x hx) k () (by omega) trivial
theorem coeffV (l : List Int) (i : Nat) (k : Nat) (hk : 1 ≤ k) : impl_coefficient.f k l (i : Int) = some (L l i) := by
  obtain ⟨k, rfl⟩ : ∃ m, k = m + 1 := ⟨k - 1, by omega⟩
  rw [impl_coefficient.f_eq]
  by_cases c : (i : Int) ≥ (l.length : Int)
  · rw [if_pos c, L_out l i (by omega)]
  · rw [if_neg c, if_pos (by omega), if_pos (by omega), rd_L]
theorem faddV (p g t x y : Int) (hp : 0 < p) (hp2 : p ≤ 1004535809) (hx : 0 ≤ x ∧ x < p) (hy : 0 ≤ y ∧ y < p) (k : Nat) (hk : 1 ≤ k) : impl_field__add.f k p g t x y = some ((x + y) % p) := by
  obtain ⟨k, rfl⟩ : ∃ m, k = m + 1 := ⟨k - 1, by omega⟩
  rw [impl_field__add.f_eq, if_pos (by omega), wrap_id (by omega) (by omega), tmod_nonneg' _ (by omega)]
theorem fsubV (p g t x y : Int) (hp : 0 < p) (hp2 : p ≤ 1004535809) (hx : 0 ≤ x ∧ x < p) (hy : 0 ≤ y ∧ y < p) (k : Nat) (hk : 1 ≤ k) : impl_field__sub.f k p g t x y = some ((x - y) % p) := by
  obtain ⟨k, rfl⟩ : ∃ m, k = m + 1 := ⟨k - 1, by omega⟩
  rw [impl_field__sub.f_eq, if_pos (by omega), wrap_id (x := x - y) (by omega) (by omega), wrap_id (by omega) (by omega), tmod_nonneg' _ (by omega), Int.add_emod_right]
theorem fmulV (p g t x y : Int) (hp : 0 < p) (hp2 : p ≤ 1004535809) (hx : 0 ≤ x ∧ x < p) (hy : 0 ≤ y ∧ y < p) (k : Nat) (hk : 1 ≤ k) : impl_field__mul.f k p g t x y = some ((x * y) % p) := by
  obtain ⟨k, rfl⟩ : ∃ m, k = m + 1 := ⟨k - 1, by omega⟩
  have hm := prod_range hp2 hx hy
  rw [impl_field__mul.f_eq, if_pos (by omega), wrap_id (by omega) (by omega), tmod_nonneg' _ (by omega)]
theorem fpow_loop (p g t : Int) (h2 : 2 ≤ p) (hp : p ≤ 1004535809) (K : Nat) (hK : 1 ≤ K) : ∀ (m n u : Nat), n < 2 ^ m → n ≤ 4611686018427387904 → m < u → ∀ (x out : Int), 0 ≤ x ∧ x < p → 0 ≤ out ∧ out < p → impl_field__power.l0 K u x (n : Int) out p g t = some (out * x ^ n % p) := by
  intro m
  induction m with
  | zero =>
    intro n u hn _ hu x out hx ho
    obtain rfl : n = 0 := by omega
    obtain ⟨u, rfl⟩ : ∃ m, u = m + 1 := ⟨u - 1, by omega⟩
    rw [impl_field__power.l0_eq, if_neg (by omega), Int.pow_zero, Int.mul_one, Int.emod_eq_of_lt ho.1 ho.2]
  | succ m ih =>
    intro n u hn hmax hu x out hx ho
    obtain ⟨u, rfl⟩ : ∃ m, u = m + 1 := ⟨u - 1, by omega⟩
    by_cases c : n = 0
    · subst c
      rw [impl_field__power.l0_eq, if_neg (by omega), Int.pow_zero, Int.mul_one, Int.emod_eq_of_lt ho.1 ho.2]
    · have r1 := emod_range (x * x) (show 0 < p by omega)
      have r2 := emod_range (out * x) (show 0 < p by omega)
      have hdiv : wrap64 (Int.tdiv (n : Int) 2) = ((n / 2 : Nat) : Int) := by
        rw [Int.tdiv_eq_ediv_of_nonneg (by omega), wrap_id (by omega) (by omega)]
        rfl
      have hpw := pow_half p x out n
      by_cases o : n % 2 = 1
      · rw [if_pos o] at hpw
        rw [← hpw, impl_field__power.l0_eq, if_pos (by omega), if_pos (by rw [tmod_nonneg' _ (by omega)]; omega), fmulV p g t out x (by omega) hp ho hx K hK, bs, fmulV p g t x x (by omega) hp hx hx K hK, bs, hdiv]
        exact ih (n / 2) u (by rw [Nat.pow_succ] at hn; omega) (by omega) (by omega) _ _ r1 r2
      · rw [if_neg o] at hpw
        rw [← hpw, impl_field__power.l0_eq, if_pos (by omega), if_neg (by rw [tmod_nonneg' _ (by omega)]; omega), fmulV p g t x x (by omega) hp hx hx K hK, bs, hdiv]
        exact ih (n / 2) u (by rw [Nat.pow_succ] at hn; omega) (by omega) (by omega) _ _ r1 ho
theorem fpowV (p g t x : Int) (n : Nat) (h2 : 2 ≤ p) (hp : p ≤ 1004535809) (hx : 0 ≤ x ∧ x < p) (hn : n < 2 ^ 62) (k : Nat) (hk : 70 ≤ k) : impl_field__power.f k p g t x (n : Int) = some (x ^ n % p) := by
  obtain ⟨k, rfl⟩ : ∃ m, k = m + 1 := ⟨k - 1, by omega⟩
  rw [impl_field__power.f_eq, fpow_loop p g t h2 hp k (by omega) 62 n k hn (by omega) (by omega) x 1 hx ⟨by omega, by omega⟩, Int.one_mul]
theorem finvV (f x : Int) (g t : Int) (hp : md f ≠ 0) (hx : 0 ≤ x ∧ x < md f) (k : Nat) (hk : 71 ≤ k) : impl_field__inverse.f k (md f) g t x = some (inv f x) := by
  obtain ⟨k, rfl⟩ : ∃ m, k = m + 1 := ⟨k - 1, by omega⟩
  have hq := md_pos hp
  have e : wrap64 (md f - 2) = (((md f).toNat - 2 : Nat) : Int) := by rw [wrap_id (by omega) (by omega)]; omega
  rw [impl_field__inverse.f_eq, e, fpowV (md f) g t x _ (by omega) hq.2 hx (by omega) k (by omega), bs]
  unfold inv
  rw [Int.emod_eq_of_lt hx.1 hx.2]
/- Lists. -/
theorem copyV (l : List Int) (hn : l.length ≤ 2000000) (k : Nat) (hk : l.length + 1 < k) : spec_l01Copy.f k l = some l := by
  obtain ⟨k, rfl⟩ : ∃ m, k = m + 1 := ⟨k - 1, by omega⟩
  have := append_loop (fun u s i => spec_l01Copy.l0 k u l i s) l id 0 [] (by
    intro u s _
    simp only [spec_l01Copy.l0_eq]
    rw [if_neg (by omega)]) (by
    intro u i s h _ hs
    simp only [List.length_nil] at hs
    simp only [spec_l01Copy.l0_eq]
    rw [if_pos (by omega), if_pos (by omega), if_pos (by omega), if_pos (by omega), rd_at l i h, wrap_next h (by omega)]
    rfl) k (by omega)
  rw [spec_l01Copy.f_eq]
  simpa using this
theorem cutV (l : List Int) (hn : l.length ≤ 2000000) (k : Nat) (hk : l.length + 2 < k) : spec_l03Cut.f k l = some (tr l) := by
  obtain ⟨K, rfl⟩ : ∃ m, k = m + 1 := ⟨k - 1, by omega⟩
  have key : ∀ (n k : Nat), n ≤ l.length → n < k → spec_l03Cut.l0 K k l (n : Int) = some (l.take (tn l n)) := by
    intro n
    induction n with
    | zero =>
      intro k h hk
      obtain ⟨k, rfl⟩ : ∃ m, k = m + 1 := ⟨k - 1, by omega⟩
      rw [spec_l03Cut.l0_eq, if_neg (by omega), if_pos (by omega), if_pos (by omega), cutI_front, copyV _ (by simp) K (by simp; omega), bs]
      rfl
    | succ n ih =>
      intro k h hk
      obtain ⟨k, rfl⟩ : ∃ m, k = m + 1 := ⟨k - 1, by omega⟩
      have hw : wrap64 (((n + 1 : Nat) : Int) - 1) = (n : Int) := by rw [wrap_id (by omega) (by omega)]; omega
      rw [spec_l03Cut.l0_eq, if_pos (by omega), hw, if_pos (by omega), if_pos (by omega), rd_L]
      by_cases c : L l n = 0
      · rw [if_pos c, ih k (by omega) (by omega)]
        simp only [tn]
        rw [if_pos c]
      · rw [if_neg c, if_pos (by omega), if_pos (by omega), cutI_front, copyV _ (by rw [List.length_take]; omega) K (by rw [List.length_take]; omega), bs]
        simp only [tn]
        rw [if_neg c]
  unfold tr
  rw [spec_l03Cut.f_eq]
  exact key l.length K (by omega) (by omega)
/-- A polynomial over the field. -/
def PolyOk (f : Int) (l : List Int) : Prop := md f ≠ 0 ∧ l.length ≤ 400 ∧ El (md f) l ∧ (l.length ≠ 0 → L l (l.length - 1) ≠ 0)
instance (f : Int) (l : List Int) : Decidable (PolyOk f l) := by unfold PolyOk; exact inferInstance
theorem PolyOk.tr {f : Int} {l : List Int} (h : PolyOk f l) : Tr l := by
  intro j hj
  have := h.2.2.2 (by omega)
  rwa [hj] at this
theorem polyOk_of {f : Int} {l : List Int} (hp : md f ≠ 0) (hl : l.length ≤ 400) (hE : El (md f) l) (ht : Tr l) : PolyOk f l :=
  ⟨hp, hl, hE, fun h => ht (l.length - 1) (by omega)⟩
theorem polyV (f : Int) (l : List Int) (hn : l.length ≤ 2000000) (k : Nat) (hk : l.length + 3 < k) : spec_PolyOk.f k f l = some (decide (PolyOk f l)) := by
  obtain ⟨k, rfl⟩ : ∃ m, k = m + 1 := ⟨k - 1, by omega⟩
  rw [spec_PolyOk.f_eq]
  by_cases c : (l.length : Int) > 400
  · rw [if_pos c, decide_eq_false (fun h => by have := h.2.1; omega)]
  · rw [if_neg c, elemsV f l hn k (by omega), bs]
    by_cases d : md f ≠ 0 ∧ El (md f) l
    · rw [decide_eq_true d, if_neg (by decide)]
      by_cases z : (l.length : Int) = 0
      · rw [if_pos z, decide_eq_true ⟨d.1, by omega, d.2, fun h => by omega⟩]
      · have hw : wrap64 ((l.length : Int) - 1) = ((l.length - 1 : Nat) : Int) := by rw [wrap_id (by omega) (by omega)]; omega
        rw [if_neg z, hw, if_pos (by omega), if_pos (by omega), rd_L]
        congr 1
        exact decide_eq_decide.mpr ⟨fun h => ⟨d.1, by omega, d.2, fun _ => h⟩, fun h => h.2.2.2 (by omega)⟩
    · rw [decide_eq_false d, if_pos (by decide), decide_eq_false (fun h => d ⟨h.1, h.2.2.1⟩)]
theorem trimV (l : List Int) (hn : l.length ≤ 2000000) (k : Nat) (hk : l.length + 1 < k) : impl_trimmed.f k l = some (tr l) := by
  obtain ⟨K, rfl⟩ : ∃ m, k = m + 1 := ⟨k - 1, by omega⟩
  have key : ∀ n u : Nat, n ≤ l.length → n < u → impl_trimmed.l0 K u (l.take n) = some (l.take (tn l n)) := by
    intro n
    induction n with
    | zero =>
      intro u _ hu
      obtain ⟨u, rfl⟩ : ∃ m, u = m + 1 := ⟨u - 1, by omega⟩
      rw [impl_trimmed.l0_eq, if_neg (by simp)]
      rfl
    | succ n ih =>
      intro u h hu
      obtain ⟨u, rfl⟩ : ∃ m, u = m + 1 := ⟨u - 1, by omega⟩
      have hlen : (l.take (n + 1)).length = n + 1 := by rw [List.length_take]; omega
      have hw : wrap64 (((n + 1 : Nat) : Int) - 1) = (n : Int) := by rw [wrap_id (by omega) (by omega)]; omega
      have hL : L (l.take (n + 1)) n = L l n := by rw [L_take, if_pos (by omega)]
      rw [impl_trimmed.l0_eq, hlen, if_pos (by omega), hw, if_pos (by omega), if_pos (by omega), rd_L, hL]
      by_cases c : L l n = 0
      · rw [if_pos c, if_pos (by omega), if_pos (by omega), cutI_front, List.take_take, show min n (n + 1) = n by omega, ih u (by omega) (by omega)]
        simp only [tn]
        rw [if_pos c]
      · rw [if_neg c]
        simp only [tn]
        rw [if_neg c]
  have h := key l.length K (Nat.le_refl _) (by omega)
  rw [List.take_length] at h
  rw [impl_trimmed.f_eq]
  exact h
theorem equalV (a b : List Int) (hn : a.length ≤ 2000000) (k : Nat) (hk : a.length + 1 < k) : slices_Equal.f k a b = some (decide (a = b)) := by
  obtain ⟨K, rfl⟩ : ∃ m, k = m + 1 := ⟨k - 1, by omega⟩
  rw [slices_Equal.f_eq]
  by_cases c : (a.length : Int) = (b.length : Int)
  · rw [if_neg (by omega)]
    have key : ∀ (d k i : Nat), i + d = a.length → d < k → slices_Equal.l0 K k a b (a.length : Int) (i : Int) = some (decide (a.drop i = b.drop i)) := by
      intro d
      induction d with
      | zero =>
        intro k i hi hk
        obtain ⟨k, rfl⟩ : ∃ m, k = m + 1 := ⟨k - 1, by omega⟩
        rw [slices_Equal.l0_eq, if_neg (by omega), List.drop_eq_nil_of_le (by omega), List.drop_eq_nil_of_le (by omega)]
        rfl
      | succ d ih =>
        intro k i hi hk
        obtain ⟨k, rfl⟩ : ∃ m, k = m + 1 := ⟨k - 1, by omega⟩
        rw [slices_Equal.l0_eq, if_pos (by omega), if_pos (by omega), if_pos (by omega), if_pos (by omega), if_pos (by omega), rd_at a i (by omega), rd_at b i (by omega), drop_cons a i (by omega), drop_cons b i (by omega)]
        by_cases e : a[i] = b[i]
        · rw [if_neg (by simpa using e), wrap_next (show i < a.length by omega) (by omega), ih k (i + 1) (by omega) (by omega)]
          congr 1
          exact decide_eq_decide.mpr ⟨fun h => by rw [e, h], fun h => (List.cons.inj h).2⟩
        · rw [if_pos e, decide_eq_false (fun h => e (List.cons.inj h).1)]
    have := key a.length K 0 (by omega) (by omega)
    simpa using this
  · rw [if_pos c, decide_eq_false (fun h => c (by rw [h]))]
/-- What a list must be for a polynomial, the field given. -/
def Lok (p : Int) (l : List Int) : Prop := l.length ≤ 400 ∧ El p l ∧ (l.length ≠ 0 → L l (l.length - 1) ≠ 0)
instance (p : Int) (l : List Int) : Decidable (Lok p l) := by unfold Lok; exact inferInstance
theorem rdLL (ls : List (List Int)) (i : Nat) (h : i < ls.length) : rd (.row (.int .i64)) ls (i : Int) = ls[i] := by
  simp only [rd, Int.toNat_natCast]
  exact (List.getElem_eq_getD _).symm
def AllLok (p : Int) (ls : List (List Int)) : Prop := ∀ l ∈ ls, Lok p l
instance (p : Int) (ls : List (List Int)) : Decidable (AllLok p ls) := List.decidableBAll _ _
theorem AllLok.nil (p : Int) : AllLok p [] := fun l hl => by cases hl
theorem AllLok.cons {p : Int} {l : List Int} {ls : List (List Int)} (h : Lok p l) (hs : AllLok p ls) : AllLok p (l :: ls) := fun x hx => by
  rcases List.mem_cons.1 hx with rfl | hx
  · exact h
  · exact hs x hx
theorem polyFieldV (f : Int) (ls : List (List Int)) (hls : ls.length ≤ 100) (k : Nat) (hk : 700 ≤ k) :
    impl_polyField.f k f ls = some (if md f ≠ 0 ∧ AllLok (md f) ls then (md f, gn f, tw f, true) else (0, 0, 0, false)) := by
  obtain ⟨K, rfl⟩ : ∃ m, k = m + 1 := ⟨k - 1, by omega⟩
  rw [impl_polyField.f_eq, fieldV f K (by omega), bs]
  by_cases hp : md f = 0
  · rw [if_pos (by simpa using hp), if_neg (fun h => h.1 hp)]
  · rw [if_neg (by simpa using hp)]
    have key := loop_list (fun u (_ : Unit) i => impl_polyField.l0 K u ls (ls.length : Int) i 0 0 0 (md f) (gn f) (tw f)) ls 0 (fun _ _ => True) (fun r _ => if AllLok (md f) r then (md f, gn f, tw f, true) else (0, 0, 0, false)) (by
      intro u s _ _
      simp only [impl_polyField.l0_eq]
      rw [if_neg (by omega), if_pos (AllLok.nil _)]) (by
      intro u i s h hKk _
      simp only [impl_polyField.l0_eq, impl_polyField.j0_eq]
      rw [if_pos (by omega), if_pos (by omega), if_pos (by omega), rdLL ls i h]
      generalize ls[i] = l
      have no : ∀ hh : ¬ Lok (md f) l, (if AllLok (md f) (l :: ls.drop (i + 1)) then (md f, gn f, tw f, true) else (0, 0, 0, false)) = (0, 0, 0, false) := fun hh => if_neg (fun h => hh (h l List.mem_cons_self))
      have yes : ∀ hh : Lok (md f) l, (if AllLok (md f) (l :: ls.drop (i + 1)) then (md f, gn f, tw f, true) else (0, 0, 0, false)) = (if AllLok (md f) (ls.drop (i + 1)) then (md f, gn f, tw f, true) else (0, 0, 0, false)) := by
        intro hh
        by_cases c : AllLok (md f) (ls.drop (i + 1))
        · rw [if_pos c, if_pos (AllLok.cons hh c)]
        · rw [if_neg c, if_neg (fun h => c (fun x hx => h x (List.mem_cons_of_mem _ hx)))]
      by_cases c1 : (l.length : Int) > 400
      · right
        rw [if_pos c1, if_true, no (fun h => by have := h.1; omega)]
      · rw [if_neg c1, areElV _ _ _ l (by omega) K (by omega), bs]
        by_cases c2 : El (md f) l
        · rw [if_neg (by simpa using c2)]
          by_cases c3 : (l.length : Int) > 0
          · have hw : wrap64 ((l.length : Int) - 1) = ((l.length - 1 : Nat) : Int) := by rw [wrap_id (by omega) (by omega)]; omega
            rw [if_pos c3, hw, if_pos (by omega), if_pos (by omega), rd_L]
            by_cases c4 : L l (l.length - 1) = 0
            · right
              rw [if_pos (by simpa using c4), no (fun h => h.2.2 (by omega) c4)]
            · left
              refine ⟨(), ?_, trivial, yes ⟨by omega, c2, fun _ => c4⟩⟩
              rw [if_neg (by simpa using c4), wrap_next h (by omega)]
          · left
            refine ⟨(), ?_, trivial, yes ⟨by omega, c2, fun h => by omega⟩⟩
            rw [if_neg c3, if_neg (by decide), wrap_next h (by omega)]
        · right
          rw [if_pos (by simpa using c2), if_true, no (fun h => c2 h.2.1)]) K () (by omega) trivial
    rw [key]
    congr 1
    by_cases c : AllLok (md f) ls
    · rw [if_pos c, if_pos ⟨hp, c⟩]
    · rw [if_neg c, if_neg (fun h => c h.2)]
end Go.Vm.Pu
namespace Go.Vm.Pu
open Go Go.RowKit Go.Vm
set_option linter.unusedVariables false
set_option linter.unusedSimpArgs false
theorem trimEv (l : List Int) (hn : l.length ≤ 2000000) : Ev (fun k => impl_trimmed.f k l) (tr l) := ⟨2000010, fun k hk => trimV l hn k (by omega)⟩
theorem cutEv (l : List Int) (hn : l.length ≤ 2000000) : Ev (fun k => spec_l03Cut.f k l) (tr l) := ⟨2000010, fun k hk => cutV l hn k (by omega)⟩
theorem copyEv (l : List Int) (hn : l.length ≤ 2000000) : Ev (fun k => spec_l01Copy.f k l) l := ⟨2000010, fun k hk => copyV l hn k (by omega)⟩
theorem addPEv (p g t : Int) (hp : 0 < p) (hp2 : p ≤ 1004535809) (a b : List Int) (hEa : El p a) (hEb : El p b) (ha : a.length ≤ 1000000) (hb : b.length ≤ 1000000) : Ev (fun k => impl_field__addPoly.f k p g t a b) (addP p a b) := by
  have hmx : (if (b.length : Int) > (a.length : Int) then (b.length : Int) else (a.length : Int)) = ((max a.length b.length : Nat) : Int) := by split <;> omega
  have key : ∀ d i : Nat, i + d = max a.length b.length → Ev2 (fun K u => impl_field__addPoly.l0 K u a b ((max a.length b.length : Nat) : Int) (i : Int) p g t (fl i (fun m => (L a m + L b m) % p))) (addP p a b) := by
    intro d
    induction d with
    | zero =>
      intro i hi
      obtain rfl : i = max a.length b.length := by omega
      have ht := trimEv (fl (max a.length b.length) (fun m => (L a m + L b m) % p)) (by rw [fl_length]; omega)
      refine Ev2.step (fun K u hK => ?_) (Ev2.of (Ev.ret ht))
      rw [impl_field__addPoly.l0_eq, if_neg (by omega)]
    | succ d ih =>
      intro i hi
      have h1 := ih (i + 1) (by omega)
      rw [← fl_snoc] at h1
      refine Ev2.step (fun K u hK => ?_) h1
      rw [impl_field__addPoly.l0_eq, if_pos (by omega), coeffV a i K (by omega), bs, coeffV b i K (by omega), bs, faddV p g t _ _ hp hp2 (L_el hp hEa i) (L_el hp hEb i) K (by omega), bs]
      rw [if_pos (by rw [fl_length]; omega), wrap_id (x := (i : Int) + 1) (by omega) (by omega)]
      rfl
  refine Ev.step (fun k hk => ?_) (Ev.enter (key (max a.length b.length) 0 (by omega)))
  rw [impl_field__addPoly.f_eq, hmx]
  rfl
/-- The program's product of two polynomials, by rounds. -/
def ip (p : Int) (a b : List Int) (i j m : Nat) : Int := (sumN (if i ≤ m ∧ m < i + j then i + 1 else if m < i then m + 1 else i) (fun t => L a t * L b (m - t))) % p
theorem mul_inner (p g t : Int) (hp : 0 < p) (hp2 : p ≤ 1004535809) (a b : List Int) (hEa : El p a) (hEb : El p b) (ha : a.length ≤ 1000000) (hb : b.length ≤ 1000000) (i : Nat) (hi : i < a.length) (hb1 : 1 ≤ b.length) (r : List Int)
    (hr : Ev2 (fun K u => impl_field__mulPoly.l0 K u b a (a.length : Int) ((i + 1 : Nat) : Int) p g t (fl (a.length + b.length - 1) (ip p a b (i + 1) 0))) r) :
    ∀ d j : Nat, j + d = b.length → Ev3 (fun K u v => impl_field__mulPoly.l1 K u v b (i : Int) (L a i) a (a.length : Int) (i : Int) b (b.length : Int) (j : Int) p g t (fl (a.length + b.length - 1) (ip p a b i j))) r := by
  intro d
  induction d with
  | zero =>
    intro j hj
    refine Ev3.step (fun K u v hK => ?_) (Ev3.leave hr)
    rw [impl_field__mulPoly.l1_eq, if_neg (by omega), wrap_next hi (by omega)]
    have e : fl (a.length + b.length - 1) (ip p a b i j) = fl (a.length + b.length - 1) (ip p a b (i + 1) 0) := by
      apply fl_congr
      intro m hm
      unfold ip
      by_cases c : i ≤ m
      · by_cases c3 : m < i + j
        · by_cases c2 : m = i
          · subst c2
            rw [if_pos ⟨by omega, by omega⟩, if_neg (by omega), if_pos (by omega)]
          · rw [if_pos ⟨by omega, by omega⟩, if_neg (by omega), if_neg (by omega)]
        · rw [if_neg (by omega), if_neg (by omega), if_neg (by omega), if_neg (by omega)]
          simp only [sumN]
          rw [L_out b (m - i) (by omega)]
          simp
      · rw [if_neg (by omega), if_pos (by omega), if_neg (by omega), if_pos (by omega)]
    rw [e]
  | succ d ih =>
    intro j hj
    refine Ev3.step (fun K u v hK => ?_) (ih (j + 1) (by omega))
    have hw : wrap64 ((i : Int) + (j : Int)) = ((i + j : Nat) : Int) := by rw [wrap_id (by omega) (by omega)]; rfl
    have h1 := L_el hp hEa i
    have h2 := L_el hp hEb j
    have hm := prod_range hp2 h1 h2
    have hs := emod_range (sumN (if i ≤ i + j ∧ i + j < i + j then i + 1 else if i + j < i then i + j + 1 else i) (fun t => L a t * L b (i + j - t))) hp
    rw [impl_field__mulPoly.l1_eq, if_pos (by omega), if_pos (by omega), if_pos (by omega), hw, if_pos (by omega), if_pos (by rw [fl_length]; omega), if_pos (by omega), if_pos (by omega), if_pos (by rw [fl_length]; omega), rd_L, rd_L, L_fl _ _ _ (by omega)]
    rw [wrap_id (x := L a i * L b j) (by omega) (by omega)]
    unfold ip at hs ⊢
    rw [wrap_next (show j < b.length by omega) (by omega), wrap_id (by omega) (by omega), tmod_nonneg' _ (by omega), Int.emod_add_emod, fl_set]
    have e : fl (a.length + b.length - 1) (fun m => if m = ((i + j : Nat) : Int).toNat then (sumN (if i ≤ i + j ∧ i + j < i + j then i + 1 else if i + j < i then i + j + 1 else i) (fun t => L a t * L b (i + j - t)) + L a i * L b j) % p
        else (sumN (if i ≤ m ∧ m < i + j then i + 1 else if m < i then m + 1 else i) (fun t => L a t * L b (m - t))) % p)
        = fl (a.length + b.length - 1) (fun m => (sumN (if i ≤ m ∧ m < i + (j + 1) then i + 1 else if m < i then m + 1 else i) (fun t => L a t * L b (m - t))) % p) := by
      apply fl_congr
      intro m hm
      by_cases c : m = i + j
      · subst c
        rw [if_pos (by omega), if_neg (by omega), if_neg (by omega), if_pos ⟨by omega, by omega⟩]
        simp only [sumN]
        rw [show i + j - i = j by omega]
      · rw [if_neg (by omega)]
        by_cases c2 : i ≤ m ∧ m < i + j
        · rw [if_pos c2, if_pos ⟨by omega, by omega⟩]
        · rw [if_neg c2, if_neg (show ¬ (i ≤ m ∧ m < i + (j + 1)) by omega)]
    rw [e]
theorem mul_outer (p g t : Int) (hp : 0 < p) (hp2 : p ≤ 1004535809) (a b : List Int) (hEa : El p a) (hEb : El p b) (ha : a.length ≤ 1000000) (hb : b.length ≤ 1000000) (ha1 : 1 ≤ a.length) (hb1 : 1 ≤ b.length) :
    ∀ d i : Nat, i + d = a.length → Ev2 (fun K u => impl_field__mulPoly.l0 K u b a (a.length : Int) (i : Int) p g t (fl (a.length + b.length - 1) (ip p a b i 0))) (mulP p a b) := by
  intro d
  induction d with
  | zero =>
    intro i hi
    obtain rfl : i = a.length := by omega
    have e : fl (a.length + b.length - 1) (ip p a b a.length 0) = fl (a.length + b.length - 1) (fun m => cv (L a) (L b) m % p) := by
      apply fl_congr
      intro m hm
      unfold ip cv
      rw [if_neg (by omega)]
      by_cases c : m < a.length
      · rw [if_pos c]
      · rw [if_neg c]
        congr 1
        have : ∀ e : Nat, sumN (a.length + e) (fun t => L a t * L b (m - t)) = sumN a.length (fun t => L a t * L b (m - t)) := by
          intro e
          induction e with
          | zero => rfl
          | succ e ih =>
            rw [show a.length + (e + 1) = a.length + e + 1 by omega]
            simp only [sumN]
            rw [ih, L_out a (a.length + e) (by omega)]
            simp
        rw [show m + 1 = a.length + (m + 1 - a.length) by omega, this]
    have ht := trimEv (fl (a.length + b.length - 1) (fun m => cv (L a) (L b) m % p)) (by rw [fl_length]; omega)
    rw [e]
    unfold mulP
    rw [if_neg (by omega)]
    refine Ev2.step (fun K u hK => ?_) (Ev2.of (Ev.ret ht))
    rw [impl_field__mulPoly.l0_eq, if_neg (by omega)]
  | succ d ih =>
    intro i hi
    refine Ev2.step (fun K u hK => ?_) (Ev2.enter (mul_inner p g t hp hp2 a b hEa hEb ha hb i (by omega) hb1 _ (ih (i + 1) (by omega)) b.length 0 (by omega)))
    rw [impl_field__mulPoly.l0_eq, if_pos (by omega), if_pos (by omega), if_pos (by omega), rd_L]
    rfl
theorem mulPEv (p g t : Int) (hp : 0 < p) (hp2 : p ≤ 1004535809) (a b : List Int) (hEa : El p a) (hEb : El p b) (ha : a.length ≤ 1000000) (hb : b.length ≤ 1000000) : Ev (fun k => impl_field__mulPoly.f k p g t a b) (mulP p a b) := by
  by_cases z : a.length = 0 ∨ b.length = 0
  · have e : mulP p a b = [] := by unfold mulP; rw [if_pos z]
    rw [e]
    refine Ev.step (fun k hk => ?_) (Ev.now _)
    rw [impl_field__mulPoly.f_eq]
    by_cases z1 : a.length = 0
    · rw [if_pos (by omega)]
    · rw [if_neg (by omega), if_pos (by omega)]
  · have hw : wrap64 (wrap64 ((a.length : Int) + (b.length : Int)) - 1) = ((a.length + b.length - 1 : Nat) : Int) := by
      rw [wrap_id (x := (a.length : Int) + (b.length : Int)) (by omega) (by omega), wrap_id (by omega) (by omega)]
      omega
    refine Ev.step (fun k hk => ?_) (Ev.enter (mul_outer p g t hp hp2 a b hEa hEb ha hb (by omega) (by omega) a.length 0 (by omega)))
    rw [impl_field__mulPoly.f_eq, if_neg (by omega), if_neg (by omega), hw, if_pos (by omega), if_pos (by omega), if_pos (by omega), Int.toNat_natCast, fl_zero]
    have e : fl (a.length + b.length - 1) (fun _ => 0) = fl (a.length + b.length - 1) (ip p a b 0 0) := by
      apply fl_congr
      intro m _
      unfold ip
      rw [if_neg (by omega), if_neg (by omega)]
      simp [sumN]
    rw [e]
    rfl
/- The reference's product. -/
theorem sum_cut (a : List Int) (g : Nat → Int) : ∀ e : Nat, sumN (a.length + e) (fun t => L a t * g t) = sumN a.length (fun t => L a t * g t) := by
  intro e
  induction e with
  | zero => rfl
  | succ e ih =>
    rw [show a.length + (e + 1) = a.length + e + 1 by omega]
    simp only [sumN]
    rw [ih, L_out a (a.length + e) (by omega)]
    simp
theorem smul_inner (p : Int) (hp : 0 < p) (hp2 : p ≤ 1004535809) (a b : List Int) (hEa : El p a) (hEb : El p b) (ha : a.length ≤ 1000000) (hb : b.length ≤ 1000000) (m : Nat) (hm : m + 1 < a.length + b.length) (r : List Int)
    (hr : Ev2 (fun K u => spec_l03Mul.l0 K u a b p ((m + 1 : Nat) : Int) (fl (m + 1) (fun m => cv (L a) (L b) m % p))) r) :
    ∀ d j : Nat, j + d = min (m + 1) a.length → Ev3 (fun K u v => spec_l03Mul.l1 K u v a b p (m : Int) (sumN j (fun t => L a t * L b (m - t)) % p) (j : Int) (fl m (fun m => cv (L a) (L b) m % p))) r := by
  intro d
  induction d with
  | zero =>
    intro j hj
    refine Ev3.step (fun K u v hK => ?_) (Ev3.leave hr)
    have e : sumN j (fun t => L a t * L b (m - t)) = cv (L a) (L b) m := by
      unfold cv
      by_cases c : a.length ≤ m + 1
      · have := sum_cut a (fun t => L b (m - t)) (m + 1 - a.length)
        rw [show a.length + (m + 1 - a.length) = m + 1 by omega] at this
        rw [this, show j = a.length by omega]
      · rw [show j = m + 1 by omega]
    rw [spec_l03Mul.l1_eq, e]
    by_cases c : (j : Int) ≤ (m : Int)
    · rw [if_pos c, if_neg (by omega), fl_length, if_pos (by omega), wrap_next (show m < m + 1 by omega) (by omega), fl_snoc m (fun m => cv (L a) (L b) m % p)]
    · rw [if_neg c, fl_length, if_pos (by omega), wrap_next (show m < m + 1 by omega) (by omega), fl_snoc m (fun m => cv (L a) (L b) m % p)]
  | succ d ih =>
    intro j hj
    have h1 := L_el hp hEa j
    have h2 := L_el hp hEb (m - j)
    have hpr := prod_range hp2 h1 h2
    have hs := emod_range (sumN j (fun t => L a t * L b (m - t))) hp
    have hw : wrap64 ((m : Int) - (j : Int)) = ((m - j : Nat) : Int) := by rw [wrap_id (by omega) (by omega)]; omega
    refine Ev3.step (fun K u v hK => ?_) (ih (j + 1) (by omega))
    rw [spec_l03Mul.l1_eq, if_pos (by omega), if_pos (by omega), hw]
    by_cases c : m - j < b.length
    · rw [if_pos (by omega), if_pos (by omega), if_pos (by omega), if_pos (by omega), if_pos (by omega), if_pos (by omega), rd_L, rd_L, wrap_id (x := L a j * L b (m - j)) (by omega) (by omega), wrap_id (by omega) (by omega), tmod_nonneg' _ (by omega), Int.emod_add_emod, wrap_next (show j < m + 1 by omega) (by omega)]
      rfl
    · rw [if_neg (by omega), wrap_next (show j < m + 1 by omega) (by omega)]
      have e : sumN (j + 1) (fun t => L a t * L b (m - t)) = sumN j (fun t => L a t * L b (m - t)) := by
        simp only [sumN]
        rw [L_out b (m - j) (by omega)]
        simp
      rw [e]
theorem smul_outer (p : Int) (hp : 0 < p) (hp2 : p ≤ 1004535809) (a b : List Int) (hEa : El p a) (hEb : El p b) (ha : a.length ≤ 1000000) (hb : b.length ≤ 1000000) (ha1 : 1 ≤ a.length) (hb1 : 1 ≤ b.length) :
    ∀ d m : Nat, m + d = a.length + b.length - 1 → Ev2 (fun K u => spec_l03Mul.l0 K u a b p (m : Int) (fl m (fun m => cv (L a) (L b) m % p))) (mulP p a b) := by
  have hw : wrap64 (wrap64 ((a.length : Int) + (b.length : Int)) - 1) = ((a.length + b.length - 1 : Nat) : Int) := by
    rw [wrap_id (x := (a.length : Int) + (b.length : Int)) (by omega) (by omega), wrap_id (by omega) (by omega)]
    omega
  intro d
  induction d with
  | zero =>
    intro m hm
    obtain rfl : m = a.length + b.length - 1 := by omega
    unfold mulP
    rw [if_neg (by omega)]
    have ht := cutEv (fl (a.length + b.length - 1) (fun m => cv (L a) (L b) m % p)) (by rw [fl_length]; omega)
    refine Ev2.step (fun K u hK => ?_) (Ev2.of (Ev.ret ht))
    rw [spec_l03Mul.l0_eq, hw, if_neg (by omega)]
  | succ d ih =>
    intro m hm
    refine Ev2.step (fun K u hK => ?_) (Ev2.enter (smul_inner p hp hp2 a b hEa hEb ha hb m (by omega) _ (ih (m + 1) (by omega)) (min (m + 1) a.length) 0 (by omega)))
    rw [spec_l03Mul.l0_eq, hw, if_pos (by omega)]
    simp only [sumN, Int.zero_emod]
    rfl
theorem smulEv (f : Int) (a b : List Int) (hp : md f ≠ 0) (hEa : El (md f) a) (hEb : El (md f) b) (ha : a.length ≤ 1000000) (hb : b.length ≤ 1000000) : Ev (fun k => spec_l03Mul.f k f a b) (mulP (md f) a b) := by
  have hm := md_pos hp
  by_cases z : a.length = 0 ∨ b.length = 0
  · have e : mulP (md f) a b = [] := by unfold mulP; rw [if_pos z]
    rw [e]
    refine Ev.step (fun k hk => ?_) (Ev.now _)
    rw [spec_l03Mul.f_eq, modV f k (by omega), bs]
    by_cases z1 : a.length = 0
    · rw [if_pos (by omega)]
    · rw [if_neg (by omega), if_pos (by omega)]
  · refine Ev.step (fun k hk => ?_) (Ev.enter (smul_outer (md f) (by omega) hm.2 a b hEa hEb ha hb (by omega) (by omega) (a.length + b.length - 1) 0 (by omega)))
    rw [spec_l03Mul.f_eq, modV f k (by omega), bs, if_neg (by omega), if_neg (by omega)]
    rfl
/- The reference's sum and multiple. -/
theorem atV (a : List Int) (i : Nat) (k : Nat) (hk : 1 ≤ k) : spec_l03At.f k a (i : Int) = some (L a i) := by
  obtain ⟨k, rfl⟩ : ∃ m, k = m + 1 := ⟨k - 1, by omega⟩
  rw [spec_l03At.f_eq, if_pos (by omega)]
  by_cases c : (i : Int) < (a.length : Int)
  · rw [if_pos c, if_pos (by omega), if_pos c, rd_L]
  · rw [if_neg c, L_out a i (by omega)]
theorem saddEv (f : Int) (a b : List Int) (ha : PolyOk f a) (hb : PolyOk f b) : Ev (fun k => spec_AddPoly.f k f a b) (addP (md f) a b) := by
  have hp := ha.1
  have hm := md_pos hp
  have la := ha.2.1
  have lb := hb.2.1
  have key : ∀ d i : Nat, i + d = max a.length b.length → Ev2 (fun K u => spec_AddPoly.l0 K u f a b (i : Int) (fl i (fun m => (L a m + L b m) % md f))) (addP (md f) a b) := by
    intro d
    induction d with
    | zero =>
      intro i hi
      obtain rfl : i = max a.length b.length := by omega
      have ht := cutEv (fl (max a.length b.length) (fun m => (L a m + L b m) % md f)) (by rw [fl_length]; omega)
      refine Ev2.step (fun K u hK => ?_) (Ev2.of (Ev.ret ht))
      rw [spec_AddPoly.l0_eq, if_neg (by omega), if_neg (by omega)]
    | succ d ih =>
      intro i hi
      have h1 := ih (i + 1) (by omega)
      rw [← fl_snoc] at h1
      refine Ev2.step (fun K u hK => ?_) h1
      have ej : spec_AddPoly.j0 K u f a b (i : Int) (fl i (fun m => (L a m + L b m) % md f)) = spec_AddPoly.l0 K u f a b ((i + 1 : Nat) : Int) (fl i (fun m => (L a m + L b m) % md f) ++ [(L a i + L b i) % md f]) := by
        rw [spec_AddPoly.j0_eq, atV a i K (by omega), bs, atV b i K (by omega), bs, addV f _ _ hp K (by omega), bs, if_pos (by rw [fl_length]; omega), wrap_id (x := (i : Int) + 1) (by omega) (by omega)]
        rfl
      rw [spec_AddPoly.l0_eq, ej]
      by_cases c : (i : Int) < (a.length : Int)
      · rw [if_pos c]
      · rw [if_neg c, if_pos (by omega)]
  refine Ev.step (fun k hk => ?_) (Ev.enter (key (max a.length b.length) 0 (by omega)))
  rw [spec_AddPoly.f_eq, polyV f a (by omega) k (by omega), decide_eq_true ha, bs, if_neg (by decide), polyV f b (by omega) k (by omega), decide_eq_true hb, bs, if_neg (by decide)]
  rfl
/-- A multiple of a polynomial. -/
def scP (p : Int) (v : List Int) (s : Int) : List Int := tr (fl v.length (fun m => L v m * s % p))
theorem scaleEv (f : Int) (a : List Int) (c : Int) (ha : PolyOk f a) : Ev (fun k => spec_ScalePoly.f k f a c) (scP (md f) a c) := by
  have hp := ha.1
  have la := ha.2.1
  have key : ∀ d i : Nat, i + d = a.length → Ev2 (fun K u => spec_ScalePoly.l0 K u f a c (i : Int) (fl i (fun m => L a m * c % md f))) (scP (md f) a c) := by
    intro d
    induction d with
    | zero =>
      intro i hi
      obtain rfl : i = a.length := by omega
      have ht := cutEv (fl a.length (fun m => L a m * c % md f)) (by rw [fl_length]; omega)
      refine Ev2.step (fun K u hK => ?_) (Ev2.of (Ev.ret ht))
      rw [spec_ScalePoly.l0_eq, if_neg (by omega)]
    | succ d ih =>
      intro i hi
      have hlt : i < a.length := by omega
      have h1 := ih (i + 1) (by omega)
      rw [← fl_snoc] at h1
      refine Ev2.step (fun K u hK => ?_) h1
      rw [spec_ScalePoly.l0_eq, if_pos (by omega), if_pos (by omega), if_pos (by omega), rd_L, mulV f _ _ hp K (by omega), bs, if_pos (by rw [fl_length]; omega), wrap_next hlt (by omega)]
  refine Ev.step (fun k hk => ?_) (Ev.enter (key a.length 0 (by omega)))
  rw [spec_ScalePoly.f_eq, polyV f a (by omega) k (by omega), decide_eq_true ha, bs, if_neg (by decide)]
  rfl
end Go.Vm.Pu
namespace Go.Vm.Pu
open Go Go.RowKit Go.Vm
set_option linter.unusedVariables false
set_option linter.unusedSimpArgs false
/-- What a division of a by b has come to, n coefficients of the rest to go. -/
structure St (f : Int) (a b : List Int) (n : Nat) (R Q : Nat → Int) : Prop where
  rel : ∀ i, 0 ≤ R i ∧ R i < md f
  qel : ∀ i, 0 ≤ Q i ∧ Q i < md f
  r0 : ∀ i, n ≤ i → R i = 0
  q0 : ∀ i, i + b.length ≤ n → Q i = 0
  qout : ∀ i, a.length ≤ i → Q i = 0
  eq : ∀ m, (cv Q (L b) m + R m) % md f = L a m % md f
/-- A quotient and a rest of a by b. -/
structure Div (f : Int) (a b q r : List Int) : Prop where
  qe : El (md f) q
  re : El (md f) r
  qt : Tr q
  rt : Tr r
  lr : r.length < b.length
  lq : q.length ≤ a.length
  eq : ∀ m, (cv (L q) (L b) m + L r m) % md f = L a m % md f
theorem St.done {f : Int} {a b : List Int} {n : Nat} {R Q : Nat → Int} (h : St f a b n R Q) (hn : n < b.length) (hna : n ≤ a.length) : Div f a b (tr (fl a.length Q)) (tr (fl a.length R)) := by
  have hR : ∀ i, L (tr (fl a.length R)) i = R i := by
    intro i
    rw [L_tr]
    by_cases c : i < a.length
    · rw [L_fl _ _ _ c]
    · rw [L_out _ _ (by rw [fl_length]; omega), h.r0 i (by omega)]
  have hQ : ∀ i, L (tr (fl a.length Q)) i = Q i := by
    intro i
    rw [L_tr]
    by_cases c : i < a.length
    · rw [L_fl _ _ _ c]
    · rw [L_out _ _ (by rw [fl_length]; omega), h.qout i (by omega)]
  have hl : (tr (fl a.length R)).length ≤ n := (tr_Tr _).le (fun i hi => by rw [hR]; exact h.r0 i hi)
  refine ⟨tr_el (fl_el (fun i _ => h.qel i)), tr_el (fl_el (fun i _ => h.rel i)), tr_Tr _, tr_Tr _, by omega, by have := tr_le (fl a.length Q); rwa [fl_length] at this, fun m => ?_⟩
  rw [hR, show L (tr (fl a.length Q)) = Q from funext hQ]
  exact h.eq m
theorem St.next {f : Int} {a b : List Int} {n : Nat} {R Q : Nat → Int} (h : St f a b n R Q) (hp : md f ≠ 0) (hb : 1 ≤ b.length) (hn : b.length ≤ n) (hna : n ≤ a.length) (hl : L b (b.length - 1) % md f ≠ 0) (m : Int) (hm : m = (R (n - 1) * inv f (L b (b.length - 1))) % md f) :
    St f a b (n - 1) (fun i => if n - b.length ≤ i ∧ i < n then (R i - m * L b (i - (n - b.length))) % md f else R i) (fun t => if t = n - b.length then m else Q t) := by
  have hq := md_pos hp
  have hm2 := emod_range (R (n - 1) * inv f (L b (b.length - 1))) (show 0 < md f by omega)
  rw [← hm] at hm2
  refine ⟨fun i => ?_, fun i => ?_, fun i hi => ?_, fun i hi => ?_, fun i hi => ?_, fun i => ?_⟩
  · show 0 ≤ (if n - b.length ≤ i ∧ i < n then (R i - m * L b (i - (n - b.length))) % md f else R i) ∧ (if n - b.length ≤ i ∧ i < n then (R i - m * L b (i - (n - b.length))) % md f else R i) < md f
    split
    · exact emod_range _ (by omega)
    · exact h.rel i
  · show 0 ≤ (if i = n - b.length then m else Q i) ∧ (if i = n - b.length then m else Q i) < md f
    split
    · exact hm2
    · exact h.qel i
  · show (if n - b.length ≤ i ∧ i < n then (R i - m * L b (i - (n - b.length))) % md f else R i) = 0
    by_cases c : i = n - 1
    · subst c
      rw [if_pos ⟨by omega, by omega⟩, show n - 1 - (n - b.length) = b.length - 1 by omega]
      have hi := mul_inv hp hl
      have e : (m * L b (b.length - 1)) % md f = R (n - 1) % md f := by
        rw [hm, Int.mul_emod, Int.emod_emod_of_dvd _ (Int.dvd_refl (md f)), ← Int.mul_emod, Int.mul_assoc, Int.mul_emod, Int.mul_comm (inv f _), hi, Int.mul_one, Int.emod_emod_of_dvd _ (Int.dvd_refl (md f))]
      exact Int.emod_eq_emod_iff_emod_sub_eq_zero.1 e.symm
    · rw [if_neg (by omega)]
      exact h.r0 i (by omega)
  · show (if i = n - b.length then m else Q i) = 0
    rw [if_neg (by omega)]
    exact h.q0 i (by omega)
  · show (if i = n - b.length then m else Q i) = 0
    rw [if_neg (by omega)]
    exact h.qout i hi
  · show (cv (fun t => if t = n - b.length then m else Q t) (L b) i + (if n - b.length ≤ i ∧ i < n then (R i - m * L b (i - (n - b.length))) % md f else R i)) % md f = L a i % md f
    rw [cv_put _ _ _ _ (h.q0 _ (by omega)), ← h.eq i]
    by_cases c : n - b.length ≤ i
    · rw [if_pos c]
      by_cases d : i < n
      · rw [if_pos ⟨c, d⟩, Int.add_emod_emod]
        congr 1
        omega
      · rw [if_neg (by omega), L_out b _ (by omega)]
        simp
    · rw [if_neg c, if_neg (by omega), Int.add_zero]
theorem div_set (f : Int) (b : List Int) (N n j : Nat) (hn : b.length ≤ n) (m : Int) (R : Nat → Int) :
    fl N (fun i => if i = n - b.length + j then (R (n - b.length + j) - m * L b j) % md f else if n - b.length ≤ i ∧ i < n - b.length + j then (R i - m * L b (i - (n - b.length))) % md f else R i)
        = fl N (fun i => if n - b.length ≤ i ∧ i < n - b.length + (j + 1) then (R i - m * L b (i - (n - b.length))) % md f else R i) := by
  apply fl_congr
  intro i _
  by_cases c : i = n - b.length + j
  · subst c
    rw [if_pos rfl, if_pos ⟨by omega, by omega⟩, show n - b.length + j - (n - b.length) = j by omega]
  · rw [if_neg c]
    by_cases c2 : n - b.length ≤ i ∧ i < n - b.length + j
    · rw [if_pos c2, if_pos ⟨by omega, by omega⟩]
    · rw [if_neg c2, if_neg (show ¬ (n - b.length ≤ i ∧ i < n - b.length + (j + 1)) by omega)]
theorem div_inner (f : Int) (a b : List Int) (hp : md f ≠ 0) (hEb : El (md f) b) (n : Nat) (hn : b.length ≤ n) (hna : n ≤ a.length) (ha : a.length ≤ 1000000) (q : List Int) (i : Int) (m : Int) (R : Nat → Int) (res : List Int × List Int)
    (hr : Ev2 (fun K u => spec_l03DivMod.l1 K u f b i ((n - 1 : Nat) : Int) (fl a.length (fun i => if n - b.length ≤ i ∧ i < n then (R i - m * L b (i - (n - b.length))) % md f else R i)) q) res) (hb : 1 ≤ b.length) :
    ∀ d j : Nat, j + d = b.length → Ev3 (fun K u v => spec_l03DivMod.l2 K u v f b i (n : Int) m (j : Int) (fl a.length (fun i => if n - b.length ≤ i ∧ i < n - b.length + j then (R i - m * L b (i - (n - b.length))) % md f else R i)) q) res := by
  intro d
  induction d with
  | zero =>
    intro j hj
    refine Ev3.step (fun K u v hK => ?_) (Ev3.leave hr)
    rw [spec_l03DivMod.l2_eq, if_neg (by omega), wrap_id (x := (n : Int) - 1) (by omega) (by omega), show n - b.length + j = n by omega, show (n : Int) - 1 = ((n - 1 : Nat) : Int) by omega]
  | succ d ih =>
    intro j hj
    refine Ev3.step (fun K u v hK => ?_) (ih (j + 1) (by omega))
    have hw : wrap64 (wrap64 ((n : Int) - (b.length : Int)) + (j : Int)) = ((n - b.length + j : Nat) : Int) := by
      rw [wrap_id (x := (n : Int) - (b.length : Int)) (by omega) (by omega), wrap_id (by omega) (by omega)]
      omega
    rw [spec_l03DivMod.l2_eq, if_pos (by omega), hw, if_pos (by omega), if_pos (by rw [fl_length]; omega), if_pos (by omega), if_pos (by omega), mulV f _ _ hp K (by omega), bs, subV f _ _ hp K (by omega), bs, if_pos (by omega), if_pos (by rw [fl_length]; omega)]
    rw [rd_L, rd_L, L_fl _ _ _ (by omega), wrap_id (x := (j : Int) + 1) (by omega) (by omega), cast_succ, fl_set, if_neg (by omega), Int.sub_emod_emod, Int.toNat_natCast, div_set f b _ n j hn m R]
theorem div_outer (f : Int) (a b : List Int) (hp : md f ≠ 0) (hb : 1 ≤ b.length) (hEb : El (md f) b) (hl : L b (b.length - 1) % md f ≠ 0) (ha : a.length ≤ 1000000) :
    ∀ d n : Nat, n ≤ b.length - 1 + d → n ≤ a.length → ∀ R Q : Nat → Int, St f a b n R Q → ∃ q r, Div f a b q r ∧ Ev2 (fun K u => spec_l03DivMod.l1 K u f b (inv f (L b (b.length - 1))) (n : Int) (fl a.length R) (fl a.length Q)) (q, r) := by
  intro d
  induction d with
  | zero =>
    intro n hn hna R Q h
    refine ⟨_, _, h.done (by omega) hna, Ev2.step (fun K u hK => ?_) (Ev2.of (Ev.bind (f := fun k => spec_l03Cut.f k (fl a.length Q)) (g := fun x k => (spec_l03Cut.f k (fl a.length R)).bind (fun y => some (x, y))) (cutEv _ (by rw [fl_length]; omega)) (Ev.bind (f := fun k => spec_l03Cut.f k (fl a.length R)) (g := fun y k => some (tr (fl a.length Q), y)) (cutEv _ (by rw [fl_length]; omega)) (Ev.now _))))⟩
    rw [spec_l03DivMod.l1_eq, if_neg (by omega)]
  | succ d ih =>
    intro n hn hna R Q h
    by_cases c : n ≤ b.length - 1 + d
    · exact ih n c hna R Q h
    · have hnext := h.next hp hb (by omega) hna hl _ rfl
      obtain ⟨q, r, hd, hev⟩ := ih (n - 1) (by omega) (by omega) _ _ hnext
      refine ⟨q, r, hd, ?_⟩
      have hin := div_inner f a b hp hEb n (by omega) hna ha _ _ _ R (q, r) hev hb b.length 0 (by omega)
      have hw : wrap64 ((n : Int) - 1) = ((n - 1 : Nat) : Int) := by rw [wrap_id (by omega) (by omega)]; omega
      have hw2 : wrap64 ((n : Int) - (b.length : Int)) = ((n - b.length : Nat) : Int) := by rw [wrap_id (by omega) (by omega)]; omega
      refine Ev2.step (fun K u hK => ?_) (Ev2.enter hin)
      rw [spec_l03DivMod.l1_eq, if_pos (by omega), hw, if_pos (by omega), if_pos (by rw [fl_length]; omega), mulV f _ _ hp K (by omega), bs, hw2, if_pos (by omega), if_pos (by rw [fl_length]; omega), rd_L, L_fl _ _ _ (by omega), fl_set, Int.toNat_natCast]
      have e : fl a.length (fun i => if n - b.length ≤ i ∧ i < n - b.length + 0 then (R i - (R (n - 1) * inv f (L b (b.length - 1))) % md f * L b (i - (n - b.length))) % md f else R i) = fl a.length R := fl_congr (fun i _ => by rw [if_neg (by omega)])
      rw [e]
      rfl
theorem st_start {f : Int} (hp : md f ≠ 0) (a b : List Int) (hEa : El (md f) a) : St f a b a.length (L a) (fun _ => 0) := by
  have hq := md_pos hp
  exact ⟨fun i => L_el (by omega) hEa i, fun i => ⟨by omega, by omega⟩, fun i hi => L_out a i hi, fun _ _ => rfl, fun _ _ => rfl, fun m => by
    unfold cv
    rw [sumN_zero (fun i _ => by simp)]
    simp⟩
theorem last_ne {f : Int} (hp : md f ≠ 0) {b : List Int} (hb : 1 ≤ b.length) (hEb : El (md f) b) (hTb : Tr b) : L b (b.length - 1) % md f ≠ 0 := by
  have hq := md_pos hp
  have h1 := hTb (b.length - 1) (by omega)
  have h2 := L_el (show 0 < md f by omega) hEb (b.length - 1)
  rw [Int.emod_eq_of_lt h2.1 h2.2]
  exact h1
theorem sdivEv (f : Int) (a b : List Int) (hp : md f ≠ 0) (hb : 1 ≤ b.length) (hEa : El (md f) a) (hEb : El (md f) b) (hTb : Tr b) (ha : a.length ≤ 1000000) (hbl : b.length ≤ 1000000) : ∃ q r, Div f a b q r ∧ Ev (fun k => spec_l03DivMod.f k f a b) (q, r) := by
  have hlast := last_ne hp hb hEb hTb
  obtain ⟨q, r, hd, hev⟩ := div_outer f a b hp hb hEb hlast ha a.length a.length (by omega) (by omega) _ _ (st_start hp a b hEa)
  refine ⟨q, r, hd, ?_⟩
  have zeros : ∀ d i : Nat, i + d = a.length → Ev2 (fun K u => spec_l03DivMod.l0 K u f a b (i : Int) a (fl i (fun _ => 0))) (q, r) := by
    intro d
    induction d with
    | zero =>
      intro i hi
      obtain rfl : i = a.length := by omega
      have hw : wrap64 ((b.length : Int) - 1) = ((b.length - 1 : Nat) : Int) := by rw [wrap_id (by omega) (by omega)]; omega
      rw [fl_L] at hev
      refine Ev2.step (fun K u hK => ?_) (Ev2.enter0 hev)
      rw [spec_l03DivMod.l0_eq, if_neg (by omega), hw, if_pos (by omega), if_pos (by omega), rd_L, invV f _ hp hlast K (by omega), bs]
    | succ d ih =>
      intro i hi
      refine Ev2.step (fun K u hK => ?_) (ih (i + 1) (by omega))
      rw [spec_l03DivMod.l0_eq, if_pos (by omega), if_pos (by rw [fl_length]; omega), wrap_next (show i < a.length by omega) (by omega), ← fl_snoc]
  refine Ev.step (fun k hk => ?_) (Ev.bind (f := fun k => spec_l01Copy.f k a) (g := fun x k => spec_l03DivMod.l0 k k f a b 0 x []) (copyEv a (by omega)) (Ev.enter (zeros a.length 0 (by omega))))
  rw [spec_l03DivMod.f_eq]
/- The program's division. -/
theorem idiv_inner (f g t : Int) (a b : List Int) (hp : md f ≠ 0) (hEb : El (md f) b) (n : Nat) (hn : b.length ≤ n) (hna : n ≤ a.length) (ha : a.length ≤ 1000000) (q : List Int) (by_ m : Int) (hm : 0 ≤ m ∧ m < md f) (R : Nat → Int) (hR : ∀ i, 0 ≤ R i ∧ R i < md f) (res : List Int × List Int)
    (hr : Ev2 (fun K u => impl_field__divMod.l0 K u b by_ (((n - b.length : Nat) : Int) - 1) (md f) g t (fl a.length (fun i => if n - b.length ≤ i ∧ i < n then (R i - m * L b (i - (n - b.length))) % md f else R i)) q) res) (hb : 1 ≤ b.length) :
    ∀ d j : Nat, j + d = b.length → Ev3 (fun K u v => impl_field__divMod.l1 K u v b by_ ((n - b.length : Nat) : Int) m b (b.length : Int) (j : Int) (md f) g t (fl a.length (fun i => if n - b.length ≤ i ∧ i < n - b.length + j then (R i - m * L b (i - (n - b.length))) % md f else R i)) q) res := by
  have hq := md_pos hp
  intro d
  induction d with
  | zero =>
    intro j hj
    refine Ev3.step (fun K u v hK => ?_) (Ev3.leave hr)
    rw [impl_field__divMod.l1_eq, if_neg (by omega), wrap_id (x := ((n - b.length : Nat) : Int) - 1) (by omega) (by omega), show n - b.length + j = n by omega]
  | succ d ih =>
    intro j hj
    refine Ev3.step (fun K u v hK => ?_) (ih (j + 1) (by omega))
    have hw : wrap64 (((n - b.length : Nat) : Int) + (j : Int)) = ((n - b.length + j : Nat) : Int) := by
      rw [wrap_id (by omega) (by omega)]
      omega
    have hbj := L_el (show 0 < md f by omega) hEb j
    have hmb := emod_range (m * L b j) (show 0 < md f by omega)
    rw [impl_field__divMod.l1_eq, if_pos (by omega), if_pos (by omega), if_pos (by omega), hw, if_pos (by omega), if_pos (by rw [fl_length]; omega), rd_L, rd_L, L_fl _ _ _ (by omega), if_neg (by omega), fmulV (md f) g t m _ (by omega) hq.2 hm hbj K (by omega), bs, fsubV (md f) g t _ _ (by omega) hq.2 (hR _) hmb K (by omega), bs, if_pos (by omega), if_pos (by rw [fl_length]; omega)]
    rw [wrap_next (show j < b.length by omega) (by omega), fl_set, Int.sub_emod_emod, Int.toNat_natCast, div_set f b _ n j hn m R]
theorem idiv_outer (f g t : Int) (a b : List Int) (hp : md f ≠ 0) (hb : 1 ≤ b.length) (hEb : El (md f) b) (hl : L b (b.length - 1) % md f ≠ 0) (ha : a.length ≤ 1000000) (hba : b.length ≤ a.length) :
    ∀ d n : Nat, n = b.length - 1 + d → n ≤ a.length → ∀ R Q : Nat → Int, St f a b n R Q → (∀ i, a.length - b.length < i → Q i = 0) → ∃ R' Q', St f a b (b.length - 1) R' Q' ∧ (∀ i, a.length - b.length < i → Q' i = 0) ∧
      Ev2 (fun K u => impl_field__divMod.l0 K u b (inv f (L b (b.length - 1))) ((n : Int) - (b.length : Int)) (md f) g t (fl a.length R) (fl (a.length - b.length + 1) Q)) (fl (a.length - b.length + 1) Q', tr (fl a.length R')) := by
  have hq := md_pos hp
  intro d
  induction d with
  | zero =>
    intro n hn hna R Q h hz
    obtain rfl : n = b.length - 1 := by omega
    refine ⟨R, Q, h, hz, ?_⟩
    have hw : wrap64 ((b.length : Int) - 1) = ((b.length - 1 : Nat) : Int) := by rw [wrap_id (by omega) (by omega)]; omega
    have e : tr ((fl a.length R).take (b.length - 1)) = tr (fl a.length R) := by
      refine (tr_Tr _).ext (tr_Tr _) (fun i => ?_)
      rw [L_tr, L_tr, L_take]
      by_cases c : i < b.length - 1
      · rw [if_pos c]
      · rw [if_neg c]
        by_cases c2 : i < a.length
        · rw [L_fl _ _ _ c2, h.r0 i (by omega)]
        · rw [L_out _ _ (by rw [fl_length]; omega)]
    have ht := trimEv ((fl a.length R).take (b.length - 1)) (by rw [List.length_take, fl_length]; omega)
    rw [e] at ht
    refine Ev2.step (fun K u hK => ?_) (Ev2.of (Ev.bind (f := fun k => impl_trimmed.f k ((fl a.length R).take (b.length - 1))) (g := fun x k => some (fl (a.length - b.length + 1) Q, x)) ht (Ev.now _)))
    rw [impl_field__divMod.l0_eq, if_neg (by omega), hw, if_pos (by omega), if_pos (by rw [fl_length]; omega), cutI_front]
  | succ d ih =>
    intro n hn hna R Q h hz
    have hnext := h.next hp hb (by omega) hna hl _ rfl
    obtain ⟨R', Q', hd, hz', hev⟩ := ih (n - 1) (by omega) (by omega) _ _ hnext (fun i hi => by rw [if_neg (by omega)]; exact hz i hi)
    refine ⟨R', Q', hd, hz', ?_⟩
    have hi : (n : Int) - (b.length : Int) = ((n - b.length : Nat) : Int) := by omega
    have hi1 : ((n - 1 : Nat) : Int) - (b.length : Int) = ((n - b.length : Nat) : Int) - 1 := by omega
    rw [hi1] at hev
    have hw : wrap64 (wrap64 (((n - b.length : Nat) : Int) + (b.length : Int)) - 1) = ((n - 1 : Nat) : Int) := by
      rw [wrap_id (x := ((n - b.length : Nat) : Int) + (b.length : Int)) (by omega) (by omega), wrap_id (by omega) (by omega)]; omega
    have hir := inv_range f (L b (b.length - 1)) hp
    have hmr := emod_range (R (n - 1) * inv f (L b (b.length - 1))) (show 0 < md f by omega)
    have first : ∀ K u, 5000 ≤ K → impl_field__divMod.l0 K (u + 1) b (inv f (L b (b.length - 1))) ((n : Int) - (b.length : Int)) (md f) g t (fl a.length R) (fl (a.length - b.length + 1) Q)
        = (if R (n - 1) * inv f (L b (b.length - 1)) % md f = 0 then impl_field__divMod.l0 K u b (inv f (L b (b.length - 1))) (((n - b.length : Nat) : Int) - 1) (md f) g t (fl a.length R) (fl (a.length - b.length + 1) (fun t => if t = n - b.length then R (n - 1) * inv f (L b (b.length - 1)) % md f else Q t))
          else impl_field__divMod.l1 K u K b (inv f (L b (b.length - 1))) ((n - b.length : Nat) : Int) (R (n - 1) * inv f (L b (b.length - 1)) % md f) b (b.length : Int) 0 (md f) g t (fl a.length R) (fl (a.length - b.length + 1) (fun t => if t = n - b.length then R (n - 1) * inv f (L b (b.length - 1)) % md f else Q t))) := by
      intro K u hK
      rw [hi, impl_field__divMod.l0_eq, if_pos (by omega), hw, if_pos (by omega), if_pos (by rw [fl_length]; omega), rd_L, L_fl _ _ _ (by omega), fmulV (md f) g t _ _ (by omega) hq.2 (h.rel _) hir K (by omega), bs, if_pos (by omega), if_pos (by rw [fl_length]; omega), fl_set, Int.toNat_natCast, wrap_id (x := ((n - b.length : Nat) : Int) - 1) (by omega) (by omega)]
    by_cases z : R (n - 1) * inv f (L b (b.length - 1)) % md f = 0
    · have e : fl a.length (fun i => if n - b.length ≤ i ∧ i < n then (R i - R (n - 1) * inv f (L b (b.length - 1)) % md f * L b (i - (n - b.length))) % md f else R i) = fl a.length R := by
        refine fl_congr (fun i _ => ?_)
        rw [z]
        have := h.rel i
        split
        · rw [Int.zero_mul, Int.sub_zero, Int.emod_eq_of_lt this.1 this.2]
        · rfl
      rw [e] at hev
      refine Ev2.step (fun K u hK => ?_) hev
      rw [first K u hK, if_pos z]
    · have hin := idiv_inner f g t a b hp hEb n (by omega) hna ha _ _ _ hmr R h.rel _ hev hb b.length 0 (by omega)
      refine Ev2.step (fun K u hK => ?_) (Ev2.enter hin)
      rw [first K u hK, if_neg z]
      have e : fl a.length (fun i => if n - b.length ≤ i ∧ i < n - b.length + 0 then (R i - (R (n - 1) * inv f (L b (b.length - 1))) % md f * L b (i - (n - b.length))) % md f else R i) = fl a.length R := fl_congr (fun i _ => by rw [if_neg (by omega)])
      rw [e]
      rfl
theorem idivEv (f g t : Int) (a b : List Int) (hb : 1 ≤ b.length) (pa : PolyOk f a) (pb : PolyOk f b) : ∃ q r, Div f a b q r ∧ Ev (fun k => impl_field__divMod.f k (md f) g t a b) (q, r) := by
  have hp := pa.1
  have hq := md_pos hp
  have la := pa.2.1
  have lb := pb.2.1
  have hEa := pa.2.2.1
  have hEb := pb.2.2.1
  by_cases c : a.length < b.length
  · refine ⟨[], a, ⟨El.nil _, hEa, fun j hj => by simp at hj, pa.tr, c, Nat.zero_le _, fun m => ?_⟩, Ev.step (fun k hk => ?_) (Ev.now _)⟩
    · unfold cv
      rw [sumN_zero (fun i _ => by rw [L_out [] i (by simp)]; simp), Int.zero_add]
    · rw [impl_field__divMod.f_eq, if_pos (by omega), if_pos (by omega)]
      rfl
  · have hlast := last_ne hp hb hEb pb.tr
    obtain ⟨R', Q', hd, hz, hev⟩ := idiv_outer f g t a b hp hb hEb hlast (by omega) (by omega) (a.length - (b.length - 1)) a.length (by omega) (by omega) _ _ (st_start hp a b hEa) (fun _ _ => rfl)
    have hdone := hd.done (by omega) (by omega)
    have hQ0 : Q' (a.length - b.length) ≠ 0 := by
      intro z
      have e := hd.eq (a.length - 1)
      rw [hd.r0 (a.length - 1) (by omega), Int.add_zero] at e
      have z2 : cv Q' (L b) (a.length - 1) = 0 := by
        unfold cv
        refine sumN_zero (fun i hi => ?_)
        by_cases c1 : i < a.length - b.length
        · rw [L_out b _ (by omega), Int.mul_zero]
        · by_cases c2 : i = a.length - b.length
          · rw [c2, z, Int.zero_mul]
          · rw [hz i (by omega), Int.zero_mul]
      rw [z2, Int.zero_emod] at e
      have h1 := pa.tr (a.length - 1) (by omega)
      have h2 := L_el (show 0 < md f by omega) hEa (a.length - 1)
      rw [Int.emod_eq_of_lt h2.1 h2.2] at e
      exact h1 e.symm
    have eQ : fl (a.length - b.length + 1) Q' = tr (fl a.length Q') := by
      refine Tr.ext (fun j hj => ?_) (tr_Tr _) (fun i => ?_)
      · rw [fl_length] at hj
        obtain rfl : j = a.length - b.length := by omega
        rw [L_fl _ _ _ (by omega)]
        exact hQ0
      · rw [L_tr]
        by_cases c1 : i < a.length - b.length + 1
        · rw [L_fl _ _ _ c1, L_fl _ _ _ (by omega)]
        · rw [L_out _ _ (by rw [fl_length]; omega)]
          by_cases c2 : i < a.length
          · rw [L_fl _ _ _ c2, hz i (by omega)]
          · rw [L_out _ _ (by rw [fl_length]; omega)]
    rw [eQ] at hev
    refine ⟨_, _, hdone, Ev.step (fun k hk => ?_) (Ev.enter hev)⟩
    have hw1 : wrap64 (wrap64 ((a.length : Int) - (b.length : Int)) + 1) = ((a.length - b.length + 1 : Nat) : Int) := by
      rw [wrap_id (x := (a.length : Int) - (b.length : Int)) (by omega) (by omega), wrap_id (by omega) (by omega)]; omega
    have hw2 : wrap64 ((b.length : Int) - 1) = ((b.length - 1 : Nat) : Int) := by rw [wrap_id (by omega) (by omega)]; omega
    have hw3 : wrap64 (((a.length - b.length + 1 : Nat) : Int) - 1) = (a.length : Int) - (b.length : Int) := by rw [wrap_id (by omega) (by omega)]; omega
    rw [impl_field__divMod.f_eq, if_pos (by omega), if_neg (by omega), hw1, if_pos (by omega), if_pos (by omega), if_pos (by omega), hw2, if_pos (by omega), if_pos (by omega), rd_L, finvV f _ g t hp (L_el (by omega) hEb _) k (by omega), bs, List.length_replicate, Int.toNat_natCast, hw3, fl_zero, List.nil_append, fl_L]
end Go.Vm.Pu
namespace Go.Vm.Pu
open Go Go.RowKit Go.Vm
set_option linter.unusedVariables false
set_option linter.unusedSimpArgs false
/-- What both CheckDivisions answer. -/
def CD (f : Int) (a b q r : List Int) : Prop := PolyOk f a ∧ PolyOk f b ∧ PolyOk f q ∧ PolyOk f r ∧ b.length ≠ 0 ∧ r.length < b.length ∧ a = addP (md f) (mulP (md f) b q) r
instance (f : Int) (a b q r : List Int) : Decidable (CD f a b q r) := by unfold CD; exact inferInstance
theorem only_one {f : Int} {a b q r x y : List Int} (ha : PolyOk f a) (hb : PolyOk f b) (hq : PolyOk f q) (hr : PolyOk f r) (h0 : b.length ≠ 0) (hd : Div f a b x y) :
    (x = q ∧ y = r) ↔ (r.length < b.length ∧ a = addP (md f) (mulP (md f) b q) r) := by
  have hm := md_pos ha.1
  have eqn : ∀ i, L (addP (md f) (mulP (md f) b q) r) i = (cv (L q) (L b) i + L r i) % md f := by
    intro i
    rw [L_addP, L_mulP, cv_comm (L b) (L q), Int.emod_add_emod]
  constructor
  · rintro ⟨rfl, rfl⟩
    refine ⟨hd.lr, ha.tr.ext (addP_Tr _ _ _) (fun i => ?_)⟩
    rw [eqn, hd.eq i]
    have := L_el (show 0 < md f by omega) ha.2.2.1 i
    rw [Int.emod_eq_of_lt this.1 this.2]
  · rintro ⟨hlr, hae⟩
    exact div_unique ha.1 (by omega) hb.2.2.1 hb.tr hd.qe hd.re hq.2.2.1 hr.2.2.1 hd.qt hd.rt hq.tr hr.tr hd.lr hlr (fun m => by
      rw [hd.eq m, hae, eqn, Int.emod_emod_of_dvd _ (Int.dvd_refl _)])
theorem Div.polys {f : Int} {a b q r : List Int} (hd : Div f a b q r) (pa : PolyOk f a) (pb : PolyOk f b) : PolyOk f q ∧ PolyOk f r := by
  have la := pa.2.1
  have lb := pb.2.1
  have h1 := hd.lq
  have h2 := hd.lr
  exact ⟨polyOk_of pa.1 (by omega) hd.qe hd.qt, polyOk_of pa.1 (by omega) hd.re hd.rt⟩
theorem idmEv (f : Int) (a b : List Int) (pa : PolyOk f a) (pb : PolyOk f b) (hb : 1 ≤ b.length) : ∃ q r, Div f a b q r ∧ Ev (fun k => impl_DivMod.f k f a b) (true, q, r) := by
  obtain ⟨q, r, hd, he⟩ := idivEv f (gn f) (tw f) a b hb pa pb
  have c : md f ≠ 0 ∧ AllLok (md f) [a, b] := ⟨pa.1, AllLok.cons pa.2 (AllLok.cons pb.2 (AllLok.nil _))⟩
  refine ⟨q, r, hd, Ev.step (fun k hk => ?_) (Ev.bind (f := fun k => impl_field__divMod.f k (md f) (gn f) (tw f) a b) (g := fun x k => some (true, x.1, x.2)) he (Ev.now _))⟩
  rw [impl_DivMod.f_eq, polyFieldV f [a, b] (by simp) k (by omega), if_pos c]
  simp only [bs, Bool.not_true, Bool.false_eq_true, if_false]
  rw [if_neg (by omega)]
theorem sdmEv (f : Int) (a b : List Int) (ha : a.length ≤ 10000) (hb : b.length ≤ 10000) : ∃ o q r, Ev (fun k => spec_DivMod.f k f a b) (o, q, r) ∧ q.length ≤ 10000 ∧ r.length ≤ 10000 := by
  by_cases c : PolyOk f a ∧ PolyOk f b ∧ b.length ≠ 0
  · obtain ⟨pa, pb, z⟩ := c
    obtain ⟨q, r, hd, he⟩ := sdivEv f a b pa.1 (by omega) pa.2.2.1 pb.2.2.1 pb.tr (by omega) (by omega)
    have h1 := hd.lq
    have h2 := hd.lr
    refine ⟨true, q, r, ?_, by omega, by omega⟩
    obtain ⟨B, hB⟩ := he
    refine ⟨B + 10010, fun k hk => ?_⟩
    obtain ⟨k, rfl⟩ : ∃ m, k = m + 1 := ⟨k - 1, by omega⟩
    have hB' : spec_l03DivMod.f k f a b = some (q, r) := hB k (by omega)
    show spec_DivMod.f (k + 1) f a b = _
    rw [spec_DivMod.f_eq, polyV f a (by omega) k (by omega), decide_eq_true pa, bs, if_neg (by decide), polyV f b (by omega) k (by omega), decide_eq_true pb, bs, if_neg (by decide), if_neg (by omega), hB', bs]
  · refine ⟨false, [], [], ⟨10010, fun k hk => ?_⟩, by simp, by simp⟩
    obtain ⟨k, rfl⟩ : ∃ m, k = m + 1 := ⟨k - 1, by omega⟩
    show spec_DivMod.f (k + 1) f a b = _
    rw [spec_DivMod.f_eq, polyV f a (by omega) k (by omega), bs]
    by_cases pa : PolyOk f a
    · rw [decide_eq_true pa, if_neg (by decide), polyV f b (by omega) k (by omega), bs]
      by_cases pb : PolyOk f b
      · rw [decide_eq_true pb, if_neg (by decide), if_pos]
        by_cases z : b.length = 0
        · omega
        · exact absurd ⟨pa, pb, z⟩ c
      · rw [decide_eq_false pb, if_pos (by decide)]
    · rw [decide_eq_false pa, if_pos (by decide)]
end Go.Vm.Pu
namespace Go.Vm.Pu
open Go Go.RowKit Go.Vm
set_option linter.unusedVariables false
set_option linter.unusedSimpArgs false
/-- The product of two polynomials that aren't nought has no fewer terms than it may have: the numbers are prime. -/
theorem mulP_len {f : Int} (hp : md f ≠ 0) {a b : List Int} (hEa : El (md f) a) (hEb : El (md f) b) (hTa : Tr a) (hTb : Tr b) (ha : 1 ≤ a.length) (hb : 1 ≤ b.length) : (mulP (md f) a b).length = a.length + b.length - 1 := by
  have hm := md_pos hp
  have h1 : (mulP (md f) a b).length ≤ a.length + b.length - 1 := by
    unfold mulP
    rw [if_neg (by omega)]
    have := tr_le (fl (a.length + b.length - 1) (fun m => cv (L a) (L b) m % md f))
    rw [fl_length] at this
    exact this
  have e : cv (L a) (L b) (a.length + b.length - 2) = L a (a.length - 1) * L b (b.length - 1) := by
    unfold cv
    rw [sumN_single (k := a.length - 1) (by omega) (by
      intro i hi hne
      by_cases c : i < a.length - 1
      · rw [L_out b _ (by omega), Int.mul_zero]
      · rw [L_out a i (by omega), Int.zero_mul]), show a.length + b.length - 2 - (a.length - 1) = b.length - 1 by omega]
  have hne : L (mulP (md f) a b) (a.length + b.length - 2) ≠ 0 := by
    rw [L_mulP, e]
    intro h
    have ra := L_el (show 0 < md f by omega) hEa (a.length - 1)
    have rb := L_el (show 0 < md f by omega) hEb (b.length - 1)
    rcases no_zero hp h with h | h
    · rw [Int.emod_eq_of_lt ra.1 ra.2] at h
      exact hTa (a.length - 1) (by omega) h
    · rw [Int.emod_eq_of_lt rb.1 rb.2] at h
      exact hTb (b.length - 1) (by omega) h
  have h2 : a.length + b.length - 2 < (mulP (md f) a b).length := by
    by_cases c : a.length + b.length - 2 < (mulP (md f) a b).length
    · exact c
    · exact absurd (L_out _ _ (by omega)) hne
  omega
/-- A polynomial's value at a place. -/
def evN (p : Int) (a : List Int) (x : Int) (n : Nat) : Int := sumN n (fun i => L a i * x ^ i) % p
def evL (p : Int) (a xs : List Int) : List Int := xs.map (fun x => evN p a x a.length)
/-- A polynomial's rest behind its first coefficients, by a place's powers. -/
def Hd (n : Nat) (D : Nat → Int) (z : Int) : Nat → Int
  | 0 => 0
  | d + 1 => D (n - d) + z * Hd n D z d
def Hj (n : Nat) (D : Nat → Int) (z : Int) (j : Nat) : Int := Hd n D z (n + 1 - j)
theorem Hj_step (n : Nat) (D : Nat → Int) (z : Int) (j : Nat) (h : j ≤ n) : Hj n D z j = D j + z * Hj n D z (j + 1) := by
  unfold Hj
  rw [show n + 1 - j = (n - j) + 1 by omega, Hd, show n - (n - j) = j by omega, show n + 1 - (j + 1) = n - j by omega]
theorem Hj_end (n : Nat) (D : Nat → Int) (z : Int) : Hj n D z (n + 1) = 0 := by
  unfold Hj
  rw [Nat.sub_self]
  rfl
theorem Hj_sum (n : Nat) (D : Nat → Int) (z x : Int) : ∀ j : Nat, j ≤ n + 1 → (x - z) * sumN j (fun k => Hj n D z (k + 1) * x ^ k) = Hj n D z j * x ^ j - Hj n D z 0 + sumN j (fun k => D k * x ^ k) := by
  intro j
  induction j with
  | zero => intro _; simp [sumN]
  | succ j ih =>
    intro h
    simp only [sumN]
    rw [Int.mul_add, ih (by omega), Int.pow_succ]
    have e := Hj_step n D z j (by omega)
    generalize Hj n D z (j + 1) = u at e ⊢
    rw [e]
    have a1 : (x - z) * (u * x ^ j) = u * (x ^ j * x) - z * u * x ^ j := by
      rw [Int.sub_mul, Int.mul_left_comm x u, Int.mul_comm x (x ^ j), Int.mul_assoc z u]
    have a2 : (D j + z * u) * x ^ j = D j * x ^ j + z * u * x ^ j := Int.add_mul _ _ _
    rw [a1, a2]
    omega
/-- A polynomial with as many zeros as it has coefficients is nought. -/
theorem roots_zero {f : Int} (hp : md f ≠ 0) : ∀ (n : Nat) (D r : Nat → Int), (∀ i j, i < j → j < n → (r i - r j) % md f ≠ 0) → (∀ i, i < n → sumN n (fun m => D m * r i ^ m) % md f = 0) → ∀ m, m < n → D m % md f = 0 := by
  intro n
  induction n with
  | zero => intro D r _ _ m hm; omega
  | succ n ih =>
    intro D r hd hz m hm
    have hsum := fun x => Hj_sum n D (r n) x (n + 1) (Nat.le_refl _)
    simp only [Hj_end, Int.zero_mul, Int.zero_sub] at hsum
    have h0 : Hj n D (r n) 0 % md f = 0 := by
      have := hsum (r n)
      rw [Int.sub_self, Int.zero_mul] at this
      have e : Hj n D (r n) 0 = sumN (n + 1) (fun k => D k * r n ^ k) := by omega
      rw [e]
      exact hz n (by omega)
    have hq : ∀ k, k < n → Hj n D (r n) (k + 1) % md f = 0 := by
      refine ih (fun k => Hj n D (r n) (k + 1)) r (fun i j h1 h2 => hd i j h1 (by omega)) (fun i hi => ?_)
      have e := hsum (r i)
      have hm0 : ((r i - r n) * sumN (n + 1) (fun k => Hj n D (r n) (k + 1) * r i ^ k)) % md f = 0 := by
        rw [e, Int.add_emod, hz i (by omega), Int.add_zero, Int.emod_emod_of_dvd _ (Int.dvd_refl _), Int.neg_emod_eq_sub_emod (b := md f), Int.sub_emod, h0]
        simp
      rcases no_zero hp hm0 with h | h
      · exact absurd h (hd i n hi (by omega))
      · simp only [sumN] at h
        rw [Hj_end, Int.zero_mul, Int.add_zero] at h
        exact h
    have e := Hj_step n D (r n) m (by omega)
    have h1 : Hj n D (r n) m % md f = 0 := by
      cases m with
      | zero => exact h0
      | succ m => exact hq m (by omega)
    have h2 : Hj n D (r n) (m + 1) % md f = 0 := by
      by_cases c : m = n
      · rw [c, Hj_end]; exact Int.zero_emod _
      · exact hq m (by omega)
    have e2 : D m = Hj n D (r n) m - r n * Hj n D (r n) (m + 1) := by omega
    rw [e2, Int.sub_emod, Int.mul_emod, h1, h2]
    simp
theorem sum_out (a : List Int) (x : Int) (n : Nat) (h : a.length ≤ n) : sumN n (fun m => L a m * x ^ m) = sumN a.length (fun m => L a m * x ^ m) := by
  obtain ⟨e, rfl⟩ : ∃ e, n = a.length + e := ⟨n - a.length, by omega⟩
  induction e with
  | zero => rfl
  | succ e ih =>
    rw [show a.length + (e + 1) = a.length + e + 1 by omega]
    simp only [sumN]
    rw [ih (by omega), L_out a (a.length + e) (by omega), Int.zero_mul, Int.add_zero]
theorem ev_out (p : Int) (a : List Int) (x : Int) (n : Nat) (h : a.length ≤ n) : evN p a x a.length = sumN n (fun m => L a m * x ^ m) % p := by
  rw [sum_out a x n h]
  rfl
/-- Polynomials that are alike at enough places are alike. -/
theorem poly_unique {f : Int} (hp : md f ≠ 0) {a b xs : List Int} (ha : Tr a) (hb : Tr b) (hEa : El (md f) a) (hEb : El (md f) b) (la : a.length ≤ xs.length) (lb : b.length ≤ xs.length)
    (hd : ∀ i j, i < j → j < xs.length → (L xs i - L xs j) % md f ≠ 0) (he : ∀ i, i < xs.length → evN (md f) a (L xs i) a.length = evN (md f) b (L xs i) b.length) : a = b := by
  have hq := md_pos hp
  have hz := roots_zero hp xs.length (fun m => L a m - L b m) (L xs) hd (fun i hi => by
    have e := he i hi
    rw [ev_out _ a _ xs.length la, ev_out _ b _ xs.length lb] at e
    have e2 : sumN xs.length (fun m => (L a m - L b m) * L xs i ^ m) = sumN xs.length (fun m => L a m * L xs i ^ m) - sumN xs.length (fun m => L b m * L xs i ^ m) := by
      rw [← sumN_sub]
      exact sumN_congr (fun m _ => Int.sub_mul _ _ _)
    rw [e2, Int.sub_emod, e, Int.sub_self, Int.zero_emod])
  refine Tr.ext ha hb (fun i => ?_)
  by_cases c : i < xs.length
  · exact el_eq (L_el (by omega) hEa i) (L_el (by omega) hEb i) (hz i c)
  · rw [L_out a i (by omega), L_out b i (by omega)]
/-- Points that differ, from a place on. -/
def disB (l : List Int) : Nat → Nat → Bool
  | 0, _ => true
  | d + 1, i => (!decide (L l i ∈ l.take i)) && disB l d (i + 1)
def PointsOk (f : Int) (l : List Int) : Prop := md f ≠ 0 ∧ 1 ≤ l.length ∧ l.length ≤ 40 ∧ El (md f) l ∧ disB l l.length 0 = true
instance (f : Int) (l : List Int) : Decidable (PointsOk f l) := by unfold PointsOk; exact inferInstance
theorem cv_lin (A : Nat → Int) (c : Int) (m : Nat) : cv A (L [c, 1]) (m + 1) = A (m + 1) * c + A m := by
  unfold cv
  simp only [sumN]
  rw [sumN_zero (fun t ht => by rw [L_out [c, 1] _ (by simp; omega), Int.mul_zero]), Nat.sub_self, show m + 1 - m = 1 by omega, show L [c, 1] 0 = c from rfl, show L [c, 1] 1 = 1 from rfl]
  omega
theorem cv_lin0 (A : Nat → Int) (c : Int) : cv A (L [c, 1]) 0 = A 0 * c := by
  unfold cv
  simp only [sumN]
  rw [show L [c, 1] (0 - 0) = c from rfl]
  omega
theorem sum_lin (A : Nat → Int) (c x : Int) : ∀ n : Nat, sumN (n + 1) (fun m => cv A (L [c, 1]) m * x ^ m) = c * sumN (n + 1) (fun m => A m * x ^ m) + x * sumN n (fun m => A m * x ^ m) := by
  intro n
  induction n with
  | zero =>
    simp only [sumN]
    rw [cv_lin0, Int.pow_zero, Int.mul_one, Int.mul_one, Int.mul_zero, Int.add_zero, Int.zero_add, Int.zero_add, Int.mul_comm]
  | succ n ih =>
    have e : sumN (n + 1 + 1) (fun m => cv A (L [c, 1]) m * x ^ m) = sumN (n + 1) (fun m => cv A (L [c, 1]) m * x ^ m) + cv A (L [c, 1]) (n + 1) * x ^ (n + 1) := rfl
    have e1 : sumN (n + 1 + 1) (fun m => A m * x ^ m) = sumN (n + 1) (fun m => A m * x ^ m) + A (n + 1) * x ^ (n + 1) := rfl
    have e2 : sumN (n + 1) (fun m => A m * x ^ m) = sumN n (fun m => A m * x ^ m) + A n * x ^ n := rfl
    have t1 : (A (n + 1) * c + A n) * x ^ (n + 1) = c * (A (n + 1) * x ^ (n + 1)) + x * (A n * x ^ n) := by
      rw [Int.add_mul, Int.mul_comm (A (n + 1)) c, Int.mul_assoc c, Int.pow_succ, Int.mul_comm (x ^ n) x, Int.mul_left_comm (A n) x]
    rw [e, ih, cv_lin, e1, t1, Int.mul_add c, e2, Int.mul_add x]
    omega
theorem eml (a b p : Int) : a % p * b % p = a * b % p := by
  rw [Int.mul_emod, Int.emod_emod_of_dvd _ (Int.dvd_refl _), ← Int.mul_emod]
theorem ev_lin (p : Int) (a : List Int) (c x : Int) (ha : 1 ≤ a.length) : evN p (mulP p a [c, 1]) x (mulP p a [c, 1]).length = evN p a x a.length * (c + x) % p := by
  have hl := mulP_le p a [c, 1]
  simp only [List.length_cons, List.length_nil] at hl
  rw [ev_out p _ x (a.length + 2) (by omega)]
  have e : sumN (a.length + 2) (fun m => L (mulP p a [c, 1]) m * x ^ m) % p = sumN (a.length + 2) (fun m => cv (L a) (L [c, 1]) m * x ^ m) % p := by
    refine sumN_emod p (fun m _ => ?_)
    rw [L_mulP, Int.mul_emod, Int.emod_emod_of_dvd _ (Int.dvd_refl _), ← Int.mul_emod]
  rw [e, sum_lin, sum_out a x (a.length + 1 + 1) (by omega), sum_out a x (a.length + 1) (by omega), ← Int.add_mul, Int.mul_comm]
  unfold evN
  exact (eml _ _ _).symm
/-- The product of the differences from a place. -/
def pr (p x : Int) : List Int → Int → Int
  | [], a => a
  | y :: l, a => pr p x l (a * (x - y) % p)
theorem pr_snoc (p x y : Int) : ∀ (l : List Int) (a : Int), pr p x (l ++ [y]) a = pr p x l a * (x - y) % p := by
  intro l
  induction l with
  | nil => intro a; rfl
  | cons z l ih => intro a; exact ih _
theorem pr_zero (p x : Int) : ∀ (l : List Int), pr p x l 0 = 0 := by
  intro l
  induction l with
  | nil => rfl
  | cons z l ih => rw [pr, Int.zero_mul, Int.zero_emod, ih]
theorem pr_mem (p x : Int) : ∀ (l : List Int) (a : Int), x ∈ l → pr p x l a = 0 := by
  intro l
  induction l with
  | nil => intro a h; cases h
  | cons z l ih =>
    intro a h
    rw [pr]
    rcases List.mem_cons.1 h with rfl | h
    · rw [Int.sub_self, Int.mul_zero, Int.zero_emod, pr_zero]
    · exact ih _ h
theorem pr_ne {f : Int} (hp : md f ≠ 0) (x : Int) : ∀ (l : List Int) (a : Int), (∀ y ∈ l, (x - y) % md f ≠ 0) → a % md f ≠ 0 → pr (md f) x l a % md f ≠ 0 := by
  intro l
  induction l with
  | nil => intro a _ h; exact h
  | cons z l ih =>
    intro a h ha
    rw [pr]
    refine ih _ (fun y hy => h y (List.mem_cons_of_mem _ hy)) ?_
    rw [Int.emod_emod_of_dvd _ (Int.dvd_refl _)]
    intro e
    rcases no_zero hp e with e | e
    · exact ha e
    · exact h z List.mem_cons_self e
/-- The polynomial that is nought just at some places. -/
def van (p : Int) : List Int → List Int → List Int
  | acc, [] => acc
  | acc, x :: l => van p (mulP p acc [(0 - x) % p, 1]) l
def Pk (f : Int) (l : List Int) : Prop := El (md f) l ∧ Tr l ∧ 1 ≤ l.length
theorem lin_el {f : Int} (hp : md f ≠ 0) (x : Int) : El (md f) [(0 - x) % md f, 1] := by
  have hq := md_pos hp
  intro y hy
  simp only [List.mem_cons, List.not_mem_nil, or_false] at hy
  rcases hy with rfl | rfl
  · exact emod_range _ (by omega)
  · omega
theorem lin_tr (c : Int) : Tr [c, 1] := by
  intro j hj
  have : j = 1 := by simp at hj; omega
  rw [this]
  show (1 : Int) ≠ 0
  decide
theorem Pk.step {f : Int} (hp : md f ≠ 0) {l : List Int} (h : Pk f l) (x : Int) : Pk f (mulP (md f) l [(0 - x) % md f, 1]) ∧ (mulP (md f) l [(0 - x) % md f, 1]).length = l.length + 1 := by
  have hq := md_pos hp
  have e := mulP_len hp h.1 (lin_el hp x) h.2.1 (lin_tr _) h.2.2 (by simp)
  simp only [List.length_cons, List.length_nil] at e
  exact ⟨⟨mulP_el (by omega) _ _, mulP_Tr _ _ _, by omega⟩, by omega⟩
theorem van_ok {f : Int} (hp : md f ≠ 0) : ∀ (l acc : List Int), Pk f acc → Pk f (van (md f) acc l) ∧ (van (md f) acc l).length = acc.length + l.length ∧ ∀ x, evN (md f) (van (md f) acc l) x (van (md f) acc l).length = pr (md f) x l (evN (md f) acc x acc.length) := by
  intro l
  induction l with
  | nil => intro acc h; exact ⟨h, rfl, fun x => rfl⟩
  | cons z l ih =>
    intro acc h
    have s := h.step hp z
    obtain ⟨h1, h2, h3⟩ := ih _ s.1
    refine ⟨h1, by rw [van, h2, s.2, List.length_cons]; omega, fun x => ?_⟩
    rw [van, h3 x, pr, ev_lin _ acc _ x h.2.2]
    congr 1
    rw [Int.mul_emod, Int.add_emod, Int.emod_emod_of_dvd _ (Int.dvd_refl _), ← Int.add_emod, ← Int.mul_emod]
    congr 2
    omega
theorem L_scP (p : Int) (v : List Int) (s : Int) (m : Nat) : L (scP p v s) m = L v m * s % p := by
  unfold scP
  rw [L_tr]
  by_cases c : m < v.length
  · rw [L_fl _ _ _ c]
  · rw [L_out _ _ (by rw [fl_length]; omega), L_out v m (by omega), Int.zero_mul, Int.zero_emod]
theorem scP_len (p : Int) (v : List Int) (s : Int) : (scP p v s).length ≤ v.length := by
  have := tr_le (fl v.length (fun m => L v m * s % p))
  rw [fl_length] at this
  exact this
theorem ev_scP (p : Int) (v : List Int) (s x : Int) : evN p (scP p v s) x (scP p v s).length = evN p v x v.length * s % p := by
  rw [ev_out p _ x v.length (scP_len p v s)]
  have e : sumN v.length (fun m => L (scP p v s) m * x ^ m) % p = sumN v.length (fun m => s * (L v m * x ^ m)) % p := by
    refine sumN_emod p (fun m _ => ?_)
    rw [L_scP, Int.mul_emod, Int.emod_emod_of_dvd _ (Int.dvd_refl _), ← Int.mul_emod, Int.mul_comm (L v m) s, Int.mul_assoc]
  rw [e, sumN_mul, Int.mul_comm]
  unfold evN
  exact (eml _ _ _).symm
theorem addP_len (p : Int) (a b : List Int) : (addP p a b).length ≤ max a.length b.length := by
  have := tr_le (fl (max a.length b.length) (fun m => (L a m + L b m) % p))
  rw [fl_length] at this
  exact this
theorem ev_addP (p : Int) (a b : List Int) (x : Int) : evN p (addP p a b) x (addP p a b).length = (evN p a x a.length + evN p b x b.length) % p := by
  have hl := addP_len p a b
  rw [ev_out p _ x (max a.length b.length) hl, ev_out p a x (max a.length b.length) (by omega), ev_out p b x (max a.length b.length) (by omega)]
  have e : sumN (max a.length b.length) (fun m => L (addP p a b) m * x ^ m) % p = sumN (max a.length b.length) (fun m => L a m * x ^ m + L b m * x ^ m) % p := by
    refine sumN_emod p (fun m _ => ?_)
    rw [L_addP, Int.mul_emod, Int.emod_emod_of_dvd _ (Int.dvd_refl _), ← Int.mul_emod, Int.add_mul]
  rw [e, sumN_add, Int.add_emod]
/-- The places beside the i-th, of the first j. -/
def oth (xs : List Int) (i : Nat) : Nat → List Int
  | 0 => []
  | j + 1 => if j = i then oth xs i j else oth xs i j ++ [L xs j]
theorem oth_len (xs : List Int) (i : Nat) : ∀ j : Nat, (oth xs i j).length = if i < j then j - 1 else j := by
  intro j
  induction j with
  | zero => rfl
  | succ j ih =>
    rw [oth]
    by_cases c : j = i
    · rw [if_pos c, ih, if_neg (by omega), if_pos (by omega)]; omega
    · rw [if_neg c, List.length_append, ih, List.length_singleton]
      by_cases d : i < j
      · rw [if_pos d, if_pos (by omega)]; omega
      · rw [if_neg d, if_neg (by omega)]
theorem oth_mem (xs : List Int) (i : Nat) : ∀ (j : Nat) (y : Int), y ∈ oth xs i j ↔ ∃ t, t < j ∧ t ≠ i ∧ y = L xs t := by
  intro j
  induction j with
  | zero => intro y; constructor
            · intro h; cases h
            · rintro ⟨t, h, _⟩; omega
  | succ j ih =>
    intro y
    rw [oth]
    by_cases c : j = i
    · rw [if_pos c, ih]
      constructor
      · rintro ⟨t, h1, h2, h3⟩; exact ⟨t, by omega, h2, h3⟩
      · rintro ⟨t, h1, h2, h3⟩; exact ⟨t, by omega, h2, h3⟩
    · rw [if_neg c, List.mem_append, List.mem_singleton, ih]
      constructor
      · rintro (⟨t, h1, h2, h3⟩ | h)
        · exact ⟨t, by omega, h2, h3⟩
        · exact ⟨j, by omega, c, h⟩
      · rintro ⟨t, h1, h2, h3⟩
        by_cases e : t = j
        · right; rw [h3, e]
        · left; exact ⟨t, by omega, h2, h3⟩
/-- Lagrange's sum over the first places. -/
def lag (f : Int) (xs ys : List Int) : Nat → List Int
  | 0 => []
  | i + 1 => addP (md f) (lag f xs ys i) (scP (md f) (van (md f) [1] (oth xs i xs.length)) (L ys i * inv f (pr (md f) (L xs i) (oth xs i xs.length) 1) % md f))
theorem dis_of {l : List Int} : ∀ (d i : Nat), disB l d i = true → ∀ j, i ≤ j → j < i + d → L l j ∉ l.take j := by
  intro d
  induction d with
  | zero => intro i _ j h1 h2; omega
  | succ d ih =>
    intro i h j h1 h2
    rw [disB, Bool.and_eq_true] at h
    by_cases c : j = i
    · rw [c]
      have := h.1
      simpa using this
    · exact ih (i + 1) h.2 j (by omega) (by omega)
theorem mem_take_L (l : List Int) (i j : Nat) (h : i < j) (hj : j ≤ l.length) : L l i ∈ l.take j := by
  rw [L_at l i (by omega)]
  have : (l.take j)[i]'(by rw [List.length_take]; omega) = l[i] := List.getElem_take
  rw [← this]
  exact List.getElem_mem _
theorem points_dis {f : Int} {xs : List Int} (h : PointsOk f xs) : ∀ i j, i < xs.length → j < xs.length → i ≠ j → (L xs i - L xs j) % md f ≠ 0 := by
  have hq := md_pos h.1
  have key : ∀ i j, i < j → j < xs.length → L xs i ≠ L xs j := by
    intro i j hij hj e
    exact dis_of xs.length 0 h.2.2.2.2 j (by omega) (by omega) (e ▸ mem_take_L xs i j hij (by omega))
  intro i j hi hj hne e
  have := el_eq (L_el (by omega) h.2.2.2.1 i) (L_el (by omega) h.2.2.2.1 j) e
  by_cases c : i < j
  · exact key i j c hj this
  · exact key j i (by omega) hi this.symm
theorem one_pk {f : Int} (hp : md f ≠ 0) : Pk f [1] := by
  have hq := md_pos hp
  refine ⟨fun y hy => ?_, fun j hj => ?_, by simp⟩
  · simp only [List.mem_cons, List.not_mem_nil, or_false] at hy
    omega
  · have : j = 0 := by simp at hj; omega
    rw [this]
    show (1 : Int) ≠ 0
    decide
theorem one_ev (p : Int) (hp : 1 < p) (x : Int) : evN p [1] x [(1 : Int)].length = 1 := by
  unfold evN
  show (0 + 1 * x ^ 0) % p = 1
  rw [Int.pow_zero, Int.mul_one, Int.zero_add, Int.emod_eq_of_lt (by omega) hp]
/-- A summand of Lagrange's. -/
theorem term_ok {f : Int} {xs : List Int} (h : PointsOk f xs) (i : Nat) (hi : i < xs.length) (y : Int) (hy : 0 ≤ y ∧ y < md f) :
    PolyOk f (van (md f) [1] (oth xs i xs.length)) ∧ (van (md f) [1] (oth xs i xs.length)).length = xs.length ∧ pr (md f) (L xs i) (oth xs i xs.length) 1 % md f ≠ 0 ∧
    ∀ k, k < xs.length → evN (md f) (scP (md f) (van (md f) [1] (oth xs i xs.length)) (y * inv f (pr (md f) (L xs i) (oth xs i xs.length) 1) % md f)) (L xs k) (scP (md f) (van (md f) [1] (oth xs i xs.length)) (y * inv f (pr (md f) (L xs i) (oth xs i xs.length) 1) % md f)).length = if k = i then y else 0 := by
  have hp := h.1
  have hq := md_pos hp
  have hn := h.2.2.1
  have hd := points_dis h
  obtain ⟨v1, v2, v3⟩ := van_ok hp (oth xs i xs.length) [1] (one_pk hp)
  have hl := oth_len xs i xs.length
  rw [if_pos hi] at hl
  have hlen : (van (md f) [1] (oth xs i xs.length)).length = xs.length := by
    rw [v2, hl]
    show 1 + (xs.length - 1) = xs.length
    omega
  have hne : pr (md f) (L xs i) (oth xs i xs.length) 1 % md f ≠ 0 := by
    refine pr_ne hp _ _ _ (fun z hz => ?_) (by rw [Int.emod_eq_of_lt (by omega) (by omega)]; decide)
    obtain ⟨t, h1, h2, rfl⟩ := (oth_mem xs i xs.length z).1 hz
    exact hd i t hi h1 (Ne.symm h2)
  refine ⟨polyOk_of hp (by omega) v1.1 v1.2.1, hlen, hne, fun k hk => ?_⟩
  rw [ev_scP, v3, one_ev _ (by omega)]
  by_cases c : k = i
  · rw [if_pos c, c]
    have hm := mul_inv hp hne
    generalize pr (md f) (L xs i) (oth xs i xs.length) 1 = u at hm ⊢
    rw [Int.mul_emod, Int.emod_emod_of_dvd _ (Int.dvd_refl _), ← Int.mul_emod, Int.mul_left_comm, Int.mul_emod, hm, Int.mul_one, Int.emod_emod_of_dvd _ (Int.dvd_refl _), Int.emod_eq_of_lt hy.1 hy.2]
  · rw [if_neg c, pr_mem _ _ _ _ ((oth_mem xs i xs.length _).2 ⟨k, hk, c, rfl⟩), Int.zero_mul, Int.zero_emod]
theorem lag_ok {f : Int} {xs ys : List Int} (h : PointsOk f xs) (hE : El (md f) ys) : ∀ i, i ≤ xs.length → (PolyOk f (lag f xs ys i) ∧ (lag f xs ys i).length ≤ xs.length) ∧ ∀ k, k < xs.length → evN (md f) (lag f xs ys i) (L xs k) (lag f xs ys i).length = if k < i then L ys k else 0 := by
  have hp := h.1
  have hq := md_pos hp
  intro i
  induction i with
  | zero =>
    intro _
    refine ⟨⟨polyOk_of hp (by simp [lag]) (El.nil _) (fun j hj => by simp [lag] at hj), by simp [lag]⟩, fun k hk => ?_⟩
    rw [if_neg (by omega)]
    show (0 : Int) % md f = 0
    exact Int.zero_emod _
  | succ i ih =>
    intro hi
    obtain ⟨⟨i1, i2⟩, i3⟩ := ih (by omega)
    have hy := L_el (by omega) hE i
    obtain ⟨t1, t2, _, t4⟩ := term_ok h i (by omega) (L ys i) hy
    have hs := scP_len (md f) (van (md f) [1] (oth xs i xs.length)) (L ys i * inv f (pr (md f) (L xs i) (oth xs i xs.length) 1) % md f)
    have hl := addP_len (md f) (lag f xs ys i) (scP (md f) (van (md f) [1] (oth xs i xs.length)) (L ys i * inv f (pr (md f) (L xs i) (oth xs i xs.length) 1) % md f))
    have hn := h.2.2.1
    refine ⟨⟨polyOk_of hp (by rw [lag]; omega) (addP_el (by omega) _ _) (addP_Tr _ _ _), by rw [lag]; omega⟩, fun k hk => ?_⟩
    rw [lag, ev_addP, i3 k hk, t4 k hk]
    have hyk := L_el (by omega) hE k
    by_cases c : k < i
    · rw [if_pos c, if_neg (by omega), if_pos (by omega), Int.add_zero, Int.emod_eq_of_lt hyk.1 hyk.2]
    · rw [if_neg c]
      by_cases d : k = i
      · rw [if_pos d, if_pos (by omega), Int.zero_add, ← d, Int.emod_eq_of_lt hyk.1 hyk.2]
      · rw [if_neg d, if_neg (by omega), Int.zero_add, Int.zero_emod]
/-- The program's value of a polynomial, from the top down. -/
def hs (p : Int) (a : List Int) (x : Int) (j : Nat) : Int := sumN (a.length - j) (fun t => L a (j + t) * x ^ t) % p
theorem hs_step (p : Int) (a : List Int) (x : Int) (j : Nat) (h : j < a.length) : (hs p a x (j + 1) * x + L a j) % p = hs p a x j := by
  unfold hs
  rw [show a.length - j = (a.length - (j + 1)) + 1 by omega, sumN_front]
  rw [Int.pow_zero, Int.mul_one]
  have e : sumN (a.length - (j + 1)) (fun k => L a (j + (k + 1)) * x ^ (k + 1)) = x * sumN (a.length - (j + 1)) (fun t => L a (j + 1 + t) * x ^ t) := by
    rw [← sumN_mul]
    apply sumN_congr
    intro i _
    rw [show j + (i + 1) = j + 1 + i by omega, Int.pow_succ, ← Int.mul_assoc, Int.mul_comm]
  generalize sumN (a.length - (j + 1)) (fun t => L a (j + 1 + t) * x ^ t) = S at e ⊢
  rw [e, Nat.add_zero, Int.mul_comm x, Int.add_comm (L a j), Int.add_emod, Int.mul_emod, Int.emod_emod_of_dvd _ (Int.dvd_refl _), ← Int.mul_emod, ← Int.add_emod]
end Go.Vm.Pu
namespace Go.Vm.Pu
open Go Go.RowKit Go.Vm
set_option linter.unusedVariables false
set_option linter.unusedSimpArgs false
theorem fevalEv (p g t : Int) (hp : 0 < p) (hp2 : p ≤ 1004535809) (a : List Int) (x : Int) (hE : El p a) (h0 : 0 ≤ x) (h1 : x < p) (hl : a.length ≤ 400) : Ev (fun k => impl_field__eval.f k p g t a x) (evN p a x a.length) := by
  have key : ∀ n : Nat, n ≤ a.length → Ev2 (fun K u => impl_field__eval.l0 K u a x (hs p a x n) ((n : Int) - 1) p g t) (evN p a x a.length) := by
    intro n
    induction n with
    | zero =>
      intro _
      have e : evN p a x a.length = hs p a x 0 := by
        unfold evN hs
        simp only [Nat.zero_add, Nat.sub_zero]
      rw [e]
      refine Ev2.step (fun K u hK => ?_) (Ev2.now _)
      rw [impl_field__eval.l0_eq, if_neg (by omega)]
    | succ n ih =>
      intro hn
      refine Ev2.step (fun K u hK => ?_) (ih (by omega))
      have hr := emod_range (sumN (a.length - (n + 1)) (fun t => L a (n + 1 + t) * x ^ t)) hp
      have ha := L_el hp hE n
      have hm := prod_range hp2 (x := hs p a x (n + 1)) hr ⟨h0, h1⟩
      rw [impl_field__eval.l0_eq, show ((n + 1 : Nat) : Int) - 1 = (n : Int) by omega, if_pos (by omega), if_pos (by omega), if_pos (by omega), if_pos (by omega), rd_L, wrap_id (x := hs p a x (n + 1) * x) (by omega) (by omega), wrap_id (x := hs p a x (n + 1) * x + L a n) (by omega) (by omega), wrap_id (x := (n : Int) - 1) (by omega) (by omega), tmod_nonneg' _ (by omega), hs_step p a x n (by omega)]
  have h := key a.length (Nat.le_refl _)
  have e : hs p a x a.length = 0 := by
    unfold hs
    rw [Nat.sub_self]
    simp [sumN]
  rw [e] at h
  refine Ev.step (fun k hk => ?_) (Ev.enter h)
  rw [impl_field__eval.f_eq, wrap_id (x := (a.length : Int) - 1) (by omega) (by omega)]
theorem fevalMany_loop (p g t : Int) (hp : 0 < p) (hp2 : p ≤ 1004535809) (a xs : List Int) (hE : El p a) (hx : El p xs) (hl : a.length ≤ 400) (hxs : xs.length ≤ 1000000) :
    ∀ (d i : Nat) (s : List Int), i + d = xs.length → s.length = i → Ev2 (fun K u => impl_field__evalMany.l0 K u a xs (xs.length : Int) (i : Int) p g t s) (s ++ evL p a (xs.drop i)) := by
  intro d
  induction d with
  | zero =>
    intro i s hi hs
    rw [List.drop_eq_nil_of_le (by omega)]
    refine Ev2.step (fun K u hK => ?_) (Ev2.now _)
    rw [impl_field__evalMany.l0_eq, if_neg (by omega)]
    simp only [evL, List.map_nil, List.append_nil]
  | succ d ih =>
    intro i s hi hs
    have hr := hx.at i (by omega)
    have h := fevalEv p g t hp hp2 a xs[i] hE hr.1 hr.2 hl
    have h2 := ih (i + 1) (s ++ [evN p a xs[i] a.length]) (by omega) (by simp [hs])
    rw [List.append_assoc] at h2
    rw [drop_cons xs i (by omega)]
    refine Ev2.step (fun K u hK => ?_) (Ev2.bind (f := fun k => impl_field__eval.f k p g t a xs[i]) (g := fun x K u => impl_field__evalMany.l0 K u a xs (xs.length : Int) ((i + 1 : Nat) : Int) p g t (s ++ [x])) h h2)
    rw [impl_field__evalMany.l0_eq, if_pos (by omega), if_pos (by omega), if_pos (by omega), rd_at xs i (by omega)]
    congr 1
    funext x
    rw [if_pos (by omega), wrap_next (show i < xs.length by omega) (by omega)]
theorem fevalManyEv (p g t : Int) (hp : 0 < p) (hp2 : p ≤ 1004535809) (a xs : List Int) (hE : El p a) (hx : El p xs) (hl : a.length ≤ 400) (hxs : xs.length ≤ 1000000) : Ev (fun k => impl_field__evalMany.f k p g t a xs) (evL p a xs) := by
  have h := fevalMany_loop p g t hp hp2 a xs hE hx hl hxs xs.length 0 [] (by omega) rfl
  rw [List.nil_append, List.drop_zero] at h
  refine Ev.step (fun k hk => ?_) (Ev.enter h)
  rw [impl_field__evalMany.f_eq]
  rfl
theorem hasV (l : List Int) (a : Int) (hn : l.length ≤ 2000000) (k : Nat) (hk : l.length + 1 < k) : spec_l01Has.f k l a = some (decide (a ∈ l)) := by
  obtain ⟨k, rfl⟩ : ∃ m, k = m + 1 := ⟨k - 1, by omega⟩
  rw [spec_l01Has.f_eq]
  exact loop_list (fun u (_ : Unit) i => spec_l01Has.l0 k u l a i) l 0 (fun _ _ => True) (fun r _ => decide (a ∈ r)) (by
    intro u s _ _
    simp only [spec_l01Has.l0_eq]
    rw [if_neg (by omega)]
    simp) (by
    intro u i s h _ _
    simp only [spec_l01Has.l0_eq]
    rw [if_pos (by omega), if_pos (by omega), if_pos (by omega), rd_at l i h]
    by_cases c : l[i] = a
    · right
      rw [if_pos c]
      simp [c]
    · left
      refine ⟨(), ?_, trivial, ?_⟩
      · rw [if_neg c, wrap_next h (by omega)]
      · have c' : ¬ a = l[i] := fun e => c e.symm
        rw [decide_eq_decide, List.mem_cons]
        exact ⟨fun h => h.resolve_left c', Or.inr⟩) k () (by omega) trivial
theorem ptsV_loop (l : List Int) (hn : l.length ≤ 40) (K : Nat) (hK : 100 ≤ K) : ∀ (d k i : Nat), i + d = l.length → d < k → spec_PointsOk.l0 K k l (i : Int) = some (disB l d i) := by
  intro d
  induction d with
  | zero =>
    intro k i hi hk
    obtain ⟨k, rfl⟩ : ∃ m, k = m + 1 := ⟨k - 1, by omega⟩
    rw [spec_PointsOk.l0_eq, if_neg (by omega)]
    rfl
  | succ d ih =>
    intro k i hi hk
    obtain ⟨k, rfl⟩ : ∃ m, k = m + 1 := ⟨k - 1, by omega⟩
    rw [spec_PointsOk.l0_eq, if_pos (by omega), if_pos (by omega), if_pos (by omega), if_pos (by omega), if_pos (by omega), cutI_front, hasV _ _ (by rw [List.length_take]; omega) K (by rw [List.length_take]; omega), rd_L, bs]
    simp only [disB]
    by_cases c : L l i ∈ l.take i
    · rw [decide_eq_true c, if_pos rfl]
      rfl
    · rw [decide_eq_false c, if_neg (by decide), wrap_next (show i < l.length by omega) (by omega), ih k (i + 1) (by omega) (by omega)]
      rfl
theorem ptsV (f : Int) (l : List Int) (hn : l.length ≤ 2000000) (k : Nat) (hk : l.length + 200 < k) : spec_PointsOk.f k f l = some (decide (PointsOk f l)) := by
  obtain ⟨k, rfl⟩ : ∃ m, k = m + 1 := ⟨k - 1, by omega⟩
  rw [spec_PointsOk.f_eq, inV _ _ _ k (by omega), bs]
  by_cases c : 1 ≤ (l.length : Int) ∧ (l.length : Int) ≤ 40
  · rw [decide_eq_true c, if_neg (by decide), elemsV f l hn k (by omega), bs]
    by_cases d : md f ≠ 0 ∧ El (md f) l
    · rw [decide_eq_true d, if_neg (by decide)]
      have := ptsV_loop l (by omega) k (by omega) l.length k 0 (by omega) (by omega)
      rw [show ((0 : Nat) : Int) = 0 from rfl] at this
      rw [this]
      congr 1
      rw [Bool.eq_iff_iff, decide_eq_true_eq]
      exact ⟨fun h => ⟨d.1, by omega, by omega, d.2, h⟩, fun h => h.2.2.2.2⟩
    · rw [decide_eq_false d, if_pos (by decide), decide_eq_false (fun h => d ⟨h.1, h.2.2.2.1⟩)]
  · rw [decide_eq_false c, if_pos (by decide), decide_eq_false (fun h => c ⟨by have := h.2.1; omega, by have := h.2.2.1; omega⟩)]
theorem pf_inner (p g t : Int) (l : List Int) (hn : l.length ≤ 40) (i : Nat) (hi : i < l.length) (r : Int × Int × Int × Bool) (K u : Nat)
    (hr : impl_pointField.l0 K u l l (l.length : Int) ((i + 1 : Nat) : Int) 0 0 0 p g t = some r) : ∀ (d j k : Nat), j + d = i → d < k →
    impl_pointField.l1 K u k l (L l i) l (l.length : Int) (i : Int) (l.take i) ((l.take i).length : Int) (j : Int) 0 0 0 p g t = some (if L l i ∈ (l.take i).drop j then (0, 0, 0, false) else r) := by
  have hlen : (l.take i).length = i := by rw [List.length_take]; omega
  intro d
  induction d with
  | zero =>
    intro j k hj hk
    obtain ⟨k, rfl⟩ : ∃ m, k = m + 1 := ⟨k - 1, by omega⟩
    rw [impl_pointField.l1_eq, if_neg (by omega), wrap_next (show i < l.length by omega) (by omega), hr, List.drop_eq_nil_of_le (by omega), if_neg (by simp)]
  | succ d ih =>
    intro j k hj hk
    obtain ⟨k, rfl⟩ : ∃ m, k = m + 1 := ⟨k - 1, by omega⟩
    rw [impl_pointField.l1_eq, if_pos (by omega), if_pos (by omega), if_pos (by omega), rd_at _ j (by omega), drop_cons _ j (by omega)]
    by_cases c : L l i = (l.take i)[j]'(by omega)
    · rw [if_pos c, if_pos (by rw [c]; exact List.mem_cons_self)]
    · rw [if_neg c, wrap_next (show j < i by omega) (by omega), ih (j + 1) k (by omega) (by omega)]
      by_cases c2 : L l i ∈ (l.take i).drop (j + 1)
      · rw [if_pos c2, if_pos (List.mem_cons_of_mem _ c2)]
      · rw [if_neg c2, if_neg (fun h => (List.mem_cons.1 h).elim c c2)]
theorem pf_loop (p g t : Int) (l : List Int) (hn : l.length ≤ 40) (K : Nat) (hK : 100 ≤ K) : ∀ (d i k : Nat), i + d = l.length → d < k →
    impl_pointField.l0 K k l l (l.length : Int) (i : Int) 0 0 0 p g t = some (if disB l d i = true then (p, g, t, true) else (0, 0, 0, false)) := by
  intro d
  induction d with
  | zero =>
    intro i k hi hk
    obtain ⟨k, rfl⟩ : ∃ m, k = m + 1 := ⟨k - 1, by omega⟩
    rw [impl_pointField.l0_eq, if_neg (by omega)]
    rfl
  | succ d ih =>
    intro i k hi hk
    obtain ⟨k, rfl⟩ : ∃ m, k = m + 1 := ⟨k - 1, by omega⟩
    rw [impl_pointField.l0_eq, if_pos (by omega), if_pos (by omega), if_pos (by omega), if_pos (by omega), if_pos (by omega), cutI_front, rd_L]
    have h := pf_inner p g t l hn i (by omega) _ K k (ih (i + 1) k (by omega) (by omega)) i 0 K (by omega) (by omega)
    rw [show ((0 : Nat) : Int) = 0 from rfl, List.drop_zero] at h
    rw [h]
    congr 1
    by_cases c : L l i ∈ l.take i
    · have e : disB l (d + 1) i = false := by simp [disB, c]
      rw [if_pos c, e]
      rfl
    · have e : disB l (d + 1) i = disB l d (i + 1) := by simp [disB, c]
      rw [if_neg c, e]
theorem pointFieldV (f : Int) (l : List Int) (k : Nat) (hk : 200 ≤ k) : impl_pointField.f k f l = some (if PointsOk f l then (md f, gn f, tw f, true) else (0, 0, 0, false)) := by
  obtain ⟨k, rfl⟩ : ∃ m, k = m + 1 := ⟨k - 1, by omega⟩
  rw [impl_pointField.f_eq, fieldV f k (by omega), bs]
  by_cases hp : md f = 0
  · rw [if_pos (by simpa using hp), impl_pointField.j0_eq, if_pos rfl, if_neg (fun h => h.1 hp)]
  · rw [if_neg (by simpa using hp)]
    by_cases c1 : (l.length : Int) < 1
    · rw [if_pos c1, impl_pointField.j0_eq, if_pos rfl, if_neg (fun h => by have := h.2.1; omega)]
    · rw [if_neg c1]
      by_cases c2 : (l.length : Int) > 40
      · rw [if_pos c2, impl_pointField.j0_eq, if_pos rfl, if_neg (fun h => by have := h.2.2.1; omega)]
      · rw [if_neg c2, areElV _ _ _ l (by omega) k (by omega), bs, impl_pointField.j0_eq]
        by_cases c3 : El (md f) l
        · rw [decide_eq_true c3, if_neg (by decide)]
          have := pf_loop (md f) (gn f) (tw f) l (by omega) k (by omega) l.length 0 k (by omega) (by omega)
          rw [show ((0 : Nat) : Int) = 0 from rfl] at this
          rw [this]
          congr 1
          by_cases c4 : disB l l.length 0 = true
          · rw [if_pos c4, if_pos ⟨hp, by omega, by omega, c3, c4⟩]
          · rw [if_neg c4, if_neg (fun h => c4 h.2.2.2.2)]
        · rw [decide_eq_false c3, if_pos (by decide), if_neg (fun h => c3 h.2.2.2.1)]
theorem vanEv {f : Int} (hp : md f ≠ 0) (l : List Int) (hl : l.length ≤ 100) : ∀ (d i : Nat) (acc : List Int), i + d = l.length → Pk f acc → acc.length + d ≤ 300 → Ev2 (fun K u => spec_l07Vanish.l0 K u f l (i : Int) acc) (van (md f) acc (l.drop i)) := by
  intro d
  induction d with
  | zero =>
    intro i acc hi h ha
    rw [List.drop_eq_nil_of_le (by omega)]
    refine Ev2.step (fun K u hK => ?_) (Ev2.now _)
    rw [spec_l07Vanish.l0_eq, if_neg (by omega)]
    rfl
  | succ d ih =>
    intro i acc hi h ha
    have s := h.step hp l[i]
    rw [drop_cons l i (by omega), van]
    refine Ev2.step (fun K u hK => ?_) (Ev2.bind (f := fun k => spec_l03Mul.f k f acc [(0 - l[i]) % md f, 1]) (g := fun x K u => spec_l07Vanish.l0 K u f l ((i + 1 : Nat) : Int) x) (smulEv f acc [(0 - l[i]) % md f, 1] hp h.1 (lin_el hp _) (by omega) (by simp)) (ih (i + 1) _ (by omega) s.1 (by omega)))
    rw [spec_l07Vanish.l0_eq, if_pos (by omega), if_pos (by omega), if_pos (by omega), rd_at l i (by omega), subV f 0 _ hp K (by omega), bs, wrap_next (show i < l.length by omega) (by omega)]
theorem through_in {f : Int} {xs ys : List Int} (h : PointsOk f xs) (hE : El (md f) ys) (hly : ys.length = xs.length) (i : Nat) (hi : i < xs.length) (R : List Int)
    (cont : Ev2 (fun K u => spec_l07Through.l0 K u f xs ys ((i + 1 : Nat) : Int) (lag f xs ys (i + 1))) R) : ∀ d j : Nat, j + d = xs.length → Ev3 (fun K u v => spec_l07Through.l1 K u v f xs ys (i : Int) (pr (md f) (L xs i) (oth xs i j) 1) (j : Int) (lag f xs ys i) (oth xs i j)) R := by
  have hp := h.1
  have hq := md_pos hp
  have hn := h.2.2.1
  intro d
  induction d with
  | zero =>
    intro j hj
    obtain rfl : j = xs.length := by omega
    have hy := L_el (by omega) hE i
    obtain ⟨t1, t2, t3, _⟩ := term_ok h i hi (L ys i) hy
    have hl := oth_len xs i xs.length
    rw [if_pos hi] at hl
    have lg1 := (lag_ok h hE i (by omega)).1.1
    have hs := scP_len (md f) (van (md f) [1] (oth xs i xs.length)) (L ys i * inv f (pr (md f) (L xs i) (oth xs i xs.length) 1) % md f)
    have p2 : PolyOk f (scP (md f) (van (md f) [1] (oth xs i xs.length)) (L ys i * inv f (pr (md f) (L xs i) (oth xs i xs.length) 1) % md f)) := polyOk_of hp (by omega) (tr_el (fl_el (fun _ _ => emod_range _ (by omega)))) (tr_Tr _)
    have e1 := vanEv hp (oth xs i xs.length) (by omega) (oth xs i xs.length).length 0 [1] (by omega) (one_pk hp) (by simp; omega)
    rw [List.drop_zero] at e1
    have e1 : Ev (fun k => spec_l07Vanish.f k f (oth xs i xs.length)) (van (md f) [1] (oth xs i xs.length)) := Ev.step (fun k hk => by rw [spec_l07Vanish.f_eq]; rfl) (Ev.enter e1)
    have e3 := scaleEv f (van (md f) [1] (oth xs i xs.length)) (L ys i * inv f (pr (md f) (L xs i) (oth xs i xs.length) 1) % md f) t1
    have e4 := saddEv f _ _ lg1 p2
    refine Ev3.step (fun K u v hK => ?_) (Ev3.leave (Ev2.bind (f := fun k => spec_l07Vanish.f k f (oth xs i xs.length)) (g := fun x K u => (spec_ScalePoly.f K f x (L ys i * inv f (pr (md f) (L xs i) (oth xs i xs.length) 1) % md f)).bind (fun y => (spec_AddPoly.f K f (lag f xs ys i) y).bind (fun z => spec_l07Through.l0 K u f xs ys ((i + 1 : Nat) : Int) z))) e1
      (Ev2.bind (f := fun K => spec_ScalePoly.f K f (van (md f) [1] (oth xs i xs.length)) (L ys i * inv f (pr (md f) (L xs i) (oth xs i xs.length) 1) % md f)) (g := fun y K u => (spec_AddPoly.f K f (lag f xs ys i) y).bind (fun z => spec_l07Through.l0 K u f xs ys ((i + 1 : Nat) : Int) z)) e3
        (Ev2.bind (f := fun K => spec_AddPoly.f K f (lag f xs ys i) (scP (md f) (van (md f) [1] (oth xs i xs.length)) (L ys i * inv f (pr (md f) (L xs i) (oth xs i xs.length) 1) % md f))) (g := fun z K u => spec_l07Through.l0 K u f xs ys ((i + 1 : Nat) : Int) z) e4 cont))))
    rw [spec_l07Through.l1_eq, if_neg (by omega)]
    congr 1
    funext x
    rw [if_pos (by omega), if_pos (by omega), invV f _ hp t3 K (by omega), bs, rd_L, mulV f _ _ hp K (by omega), bs, wrap_next hi (by omega)]
  | succ d ih =>
    intro j hj
    by_cases c : j = i
    · have e := ih (j + 1) (by omega)
      rw [oth, if_pos c] at e
      refine Ev3.step (fun K u v hK => ?_) e
      rw [spec_l07Through.l1_eq, if_pos (by omega), if_neg (by omega), wrap_next (show j < xs.length by omega) (by omega)]
    · have e := ih (j + 1) (by omega)
      rw [oth, if_neg c, pr_snoc] at e
      have hl := oth_len xs i j
      have hl2 : (oth xs i j).length ≤ j := by rw [hl]; split <;> omega
      refine Ev3.step (fun K u v hK => ?_) e
      rw [spec_l07Through.l1_eq, if_pos (by omega), if_pos (by omega), if_pos (by omega), if_pos (by omega), if_pos (by omega), if_pos (by omega), if_pos (by omega), if_pos (by omega), if_pos (by omega), rd_L, rd_L, subV f _ _ hp K (by omega), bs, mulV f _ _ hp K (by omega), bs]
      rw [wrap_next (show j < xs.length by omega) (by omega), show pr (md f) (L xs i) (oth xs i j) 1 * ((L xs i - L xs j) % md f) % md f = pr (md f) (L xs i) (oth xs i j) 1 * (L xs i - L xs j) % md f by rw [Int.mul_emod, Int.emod_emod_of_dvd _ (Int.dvd_refl _), ← Int.mul_emod]]
theorem through_ev {f : Int} {xs ys : List Int} (h : PointsOk f xs) (hE : El (md f) ys) (hly : ys.length = xs.length) : ∀ d i : Nat, i + d = xs.length → Ev2 (fun K u => spec_l07Through.l0 K u f xs ys (i : Int) (lag f xs ys i)) (lag f xs ys xs.length) := by
  have hn := h.2.2.1
  intro d
  induction d with
  | zero =>
    intro i hi
    obtain rfl : i = xs.length := by omega
    obtain ⟨⟨p1, p2⟩, _⟩ := lag_ok h hE xs.length (Nat.le_refl _)
    have ht : tr (lag f xs ys xs.length) = lag f xs ys xs.length := Tr.ext (tr_Tr _) p1.tr (fun i => L_tr _ i)
    have hc := cutEv (lag f xs ys xs.length) (by omega)
    rw [ht] at hc
    refine Ev2.step (fun K u hK => ?_) (Ev2.of (Ev.ret hc))
    rw [spec_l07Through.l0_eq, if_neg (by omega)]
  | succ d ih =>
    intro i hi
    have := through_in h hE hly i (by omega) _ (ih (i + 1) (by omega)) xs.length 0 (by omega)
    refine Ev2.step (fun K u hK => ?_) (Ev2.enter this)
    rw [spec_l07Through.l0_eq, if_pos (by omega)]
    rfl
/-- What Interpolate asks. -/
def IntOk (f : Int) (xs ys : List Int) : Prop := PointsOk f xs ∧ ys.length = xs.length ∧ El (md f) ys
instance (f : Int) (xs ys : List Int) : Decidable (IntOk f xs ys) := by unfold IntOk; exact inferInstance
theorem interEv (f : Int) (xs ys : List Int) (hx : xs.length ≤ 1000000) (hy : ys.length ≤ 1000000) : Ev (fun k => spec_Interpolate.f k f xs ys) (if IntOk f xs ys then (true, lag f xs ys xs.length) else (false, [])) := by
  by_cases c : IntOk f xs ys
  · rw [if_pos c]
    obtain ⟨c1, c2, c3⟩ := c
    have hn := c1.2.2.1
    have e : Ev (fun k => spec_l07Through.f k f xs ys) (lag f xs ys xs.length) := Ev.step (fun k hk => by rw [spec_l07Through.f_eq]; rfl) (Ev.enter (through_ev c1 c3 c2 xs.length 0 (by omega)))
    refine Ev.step (fun k hk => ?_) (Ev.bind (f := fun k => spec_l07Through.f k f xs ys) (g := fun x k => some (true, x)) e (Ev.now _))
    rw [spec_Interpolate.f_eq, ptsV f xs (by omega) k (by omega), decide_eq_true c1, bs, if_neg (by decide), if_neg (by omega), elemsV f ys (by omega) k (by omega), decide_eq_true (show md f ≠ 0 ∧ El (md f) ys from ⟨c1.1, c3⟩), bs, if_neg (by decide)]
  · rw [if_neg c]
    refine ⟨1000300, fun k hk => ?_⟩
    obtain ⟨k, rfl⟩ : ∃ m, k = m + 1 := ⟨k - 1, by omega⟩
    show spec_Interpolate.f (k + 1) f xs ys = _
    rw [spec_Interpolate.f_eq, ptsV f xs (by omega) k (by omega), bs]
    by_cases d : PointsOk f xs
    · rw [decide_eq_true d, if_neg (by decide)]
      by_cases h : (ys.length : Int) = (xs.length : Int)
      · rw [if_neg (by omega), elemsV f ys (by omega) k (by omega), decide_eq_false (show ¬ (md f ≠ 0 ∧ El (md f) ys) from fun g => c ⟨d, by omega, g.2⟩), bs, if_pos (by decide)]
      · rw [if_pos h]
    · rw [decide_eq_false d, if_pos (by decide)]
def CvP (f : Int) (xs ys a : List Int) : Prop := IntOk f xs ys ∧ PolyOk f a ∧ lag f xs ys xs.length = a
instance (f : Int) (xs ys a : List Int) : Decidable (CvP f xs ys a) := by unfold CvP; exact inferInstance
theorem evL_len (p : Int) (a xs : List Int) : (evL p a xs).length = xs.length := by unfold evL; exact List.length_map ..
theorem evL_at (p : Int) (a xs : List Int) (i : Nat) (h : i < xs.length) : L (evL p a xs) i = evN p a (L xs i) a.length := by
  rw [L_at _ i (by rw [evL_len]; exact h), L_at xs i h]
  unfold evL
  rw [List.getElem_map]
theorem cv_same (f : Int) (xs ys a : List Int) : CvP f xs ys a ↔ (PointsOk f xs ∧ PolyOk f a) ∧ ys.length = xs.length ∧ a.length ≤ xs.length ∧ evL (md f) a xs = ys := by
  constructor
  · rintro ⟨⟨h1, h2, h3⟩, h4, rfl⟩
    obtain ⟨⟨l1, l2⟩, l3⟩ := lag_ok h1 h3 xs.length (Nat.le_refl _)
    refine ⟨⟨h1, h4⟩, h2, l2, ?_⟩
    refine list_ext (by rw [evL_len, h2]) (fun i hi => ?_)
    rw [evL_len] at hi
    rw [evL_at _ _ _ i hi, l3 i hi, if_pos hi]
  · rintro ⟨⟨h1, h4⟩, h2, h3, h5⟩
    have hq := md_pos h1.1
    have hE : El (md f) ys := by
      rw [← h5]
      intro y hy
      unfold evL at hy
      obtain ⟨x, _, rfl⟩ := List.mem_map.1 hy
      exact emod_range _ (by omega)
    obtain ⟨⟨l1, l2⟩, l3⟩ := lag_ok h1 hE xs.length (Nat.le_refl _)
    refine ⟨⟨h1, h2, hE⟩, h4, ?_⟩
    refine poly_unique h1.1 l1.tr h4.tr l1.2.2.1 h4.2.2.1 l2 h3 (fun i j h hj => points_dis h1 i j (by omega) hj (by omega)) (fun i hi => ?_)
    rw [l3 i hi, if_pos hi, ← evL_at _ _ _ i hi, h5]
end Go.Vm.Pu
namespace Go.Vm.Pu
open Go Go.RowKit Go.Vm
set_option linter.unusedVariables false
set_option linter.unusedSimpArgs false
def Tot {α : Type} (g : Nat → Option α) (P : α → Prop) : Prop := ∃ r, P r ∧ Ev g r
def Tot2 {α : Type} (g : Nat → Nat → Option α) (P : α → Prop) : Prop := ∃ r, P r ∧ Ev2 g r
theorem Tot.now {α : Type} {r : α} {P : α → Prop} (h : P r) : Tot (fun _ => some r) P := ⟨r, h, Ev.now r⟩
theorem Tot.of {α : Type} {g : Nat → Option α} {r : α} {P : α → Prop} (e : Ev g r) (h : P r) : Tot g P := ⟨r, h, e⟩
theorem Tot.step {α : Type} {g f : Nat → Option α} {P : α → Prop} (h : ∀ k, 5000 ≤ k → g (k + 1) = f k) (e : Tot f P) : Tot g P := by
  obtain ⟨r, p, e⟩ := e
  exact ⟨r, p, Ev.step h e⟩
theorem Tot.eq {α : Type} {g f : Nat → Option α} {P : α → Prop} (h : ∀ k, 5000 ≤ k → g k = f k) (e : Tot f P) : Tot g P := by
  obtain ⟨r, p, B, hB⟩ := e
  exact ⟨r, p, B + 5000, fun k hk => by rw [h k (by omega)]; exact hB k (by omega)⟩
theorem Tot.bind {α β : Type} {f : Nat → Option β} {g : β → Nat → Option α} {P : β → Prop} {Q : α → Prop} (h1 : Tot f P) (h2 : ∀ a, P a → Tot (g a) Q) : Tot (fun k => (f k).bind (fun x => g x k)) Q := by
  obtain ⟨a, p, e⟩ := h1
  obtain ⟨r, q, e2⟩ := h2 a p
  exact ⟨r, q, Ev.bind e e2⟩
theorem Tot.ite {α : Type} {c : Prop} [Decidable c] {g f : Nat → Option α} {Q : α → Prop} (h1 : c → Tot g Q) (h2 : ¬ c → Tot f Q) : Tot (fun k => if c then g k else f k) Q := by
  by_cases hc : c
  · simp only [if_pos hc]; exact h1 hc
  · simp only [if_neg hc]; exact h2 hc
theorem Tot.imp {α : Type} {g : Nat → Option α} {P Q : α → Prop} (e : Tot g P) (h : ∀ r, P r → Q r) : Tot g Q := by
  obtain ⟨r, p, e⟩ := e
  exact ⟨r, h r p, e⟩
theorem Tot.enter {α : Type} {g : Nat → Nat → Option α} {P : α → Prop} (e : Tot2 g P) : Tot (fun k => g k k) P := by
  obtain ⟨r, p, e⟩ := e
  exact ⟨r, p, Ev.enter e⟩
theorem Tot2.now {α : Type} {r : α} {P : α → Prop} (h : P r) : Tot2 (fun _ _ => some r) P := ⟨r, h, Ev2.now r⟩
theorem Tot2.of {α : Type} {f : Nat → Option α} {P : α → Prop} (e : Tot f P) : Tot2 (fun K _ => f K) P := by
  obtain ⟨r, p, e⟩ := e
  exact ⟨r, p, Ev2.of e⟩
theorem Tot2.step {α : Type} {g f : Nat → Nat → Option α} {P : α → Prop} (h : ∀ K u, 5000 ≤ K → g K (u + 1) = f K u) (e : Tot2 f P) : Tot2 g P := by
  obtain ⟨r, p, e⟩ := e
  exact ⟨r, p, Ev2.step h e⟩
theorem Tot2.bind {α β : Type} {f : Nat → Option β} {g : β → Nat → Nat → Option α} {P : β → Prop} {Q : α → Prop} (h1 : Tot f P) (h2 : ∀ a, P a → Tot2 (g a) Q) : Tot2 (fun K u => (f K).bind (fun x => g x K u)) Q := by
  obtain ⟨a, p, e⟩ := h1
  obtain ⟨r, q, e2⟩ := h2 a p
  exact ⟨r, q, Ev2.bind e e2⟩
theorem Tot2.ite {α : Type} {c : Prop} [Decidable c] {g f : Nat → Nat → Option α} {Q : α → Prop} (h1 : c → Tot2 g Q) (h2 : ¬ c → Tot2 f Q) : Tot2 (fun K u => if c then g K u else f K u) Q := by
  by_cases hc : c
  · simp only [if_pos hc]; exact h1 hc
  · simp only [if_neg hc]; exact h2 hc
/-- A drawn thing, the cursor behind it; a drawn list. -/
def CuR {α : Type} (b : List Int) (Q : α → Prop) (r : α × List Int × Int × Int) : Prop := ∃ x i h, r = (x, b, i, h) ∧ 0 ≤ i ∧ Q x
def CuL (b : List Int) (Q : List Int → Prop) (r : List Int × Int × Int × List Int) : Prop := ∃ i h l, r = (b, i, h, l) ∧ 0 ≤ i ∧ Q l
theorem modT (f : Int) : Tot (fun k => spec_Modulus.f k f) (fun r => r = md f) := ⟨_, rfl, 1, fun k hk => modV f k hk⟩
theorem cutT (l : List Int) (hl : l.length ≤ 1000000) : Tot (fun k => spec_l03Cut.f k l) (fun r => r.length ≤ l.length) := Tot.of (cutEv l (by omega)) (tr_le l)
theorem polyOkT (f : Int) (l : List Int) (hl : l.length ≤ 20000) : Tot (fun k => spec_PolyOk.f k f l) (fun r => r = decide (PolyOk f l)) := ⟨_, rfl, 20010, fun k hk => polyV f l (by omega) k (by omega)⟩
theorem smulT (f : Int) (a b : List Int) (ha : PolyOk f a) (hb : PolyOk f b) : Tot (fun k => spec_l03Mul.f k f a b) (fun r => r.length ≤ 1000) := by
  have la := ha.2.1
  have lb := hb.2.1
  exact Tot.of (smulEv f a b ha.1 ha.2.2.1 hb.2.2.1 (by omega) (by omega)) (by have := mulP_le (md f) a b; omega)
def Two (r : Int × List Int × List Int) : Prop := r.2.1.length ≤ 1000 ∧ r.2.2.length ≤ 1000
end Go.Vm.Pu
namespace Go.Vm.Pu
open Go Go.RowKit Go.Vm
set_option linter.unusedVariables false
set_option linter.unusedSimpArgs false
def Pairs (r : Int × List Int × List Int) : Prop := r.2.1.length ≤ 1000 ∧ r.2.2.length ≤ 1001
theorem lag_poly (f : Int) (xs ys : List Int) (h : IntOk f xs ys) : PolyOk f (lag f xs ys xs.length) ∧ (lag f xs ys xs.length).length ≤ 40 := by
  obtain ⟨⟨l1, l2⟩, _⟩ := lag_ok h.1 h.2.2 xs.length (Nat.le_refl _)
  have := h.1.2.2.1
  exact ⟨l1, by omega⟩
end Go.Vm.Pu
namespace Go.Vm.Pu
open Go Go.RowKit Go.Vm
set_option linter.unusedVariables false
set_option linter.unusedSimpArgs false
/-- All are bytes. -/
def Bs (l : List Int) : Prop := ∀ x ∈ l, 0 ≤ x ∧ x < 256
theorem Bs.L {l : List Int} (h : Bs l) (i : Nat) : 0 ≤ L l i ∧ L l i < 256 := L_el (by decide) h i
/-- 128 to the n. -/
def P7 (n : Nat) : Int := (2 : Int) ^ (7 * n)
theorem P7_succ (n : Nat) : P7 (n + 1) = P7 n * 128 := by
  unfold P7
  rw [show 7 * (n + 1) = 7 * n + 7 from rfl, Int.pow_add]
  rfl
theorem P7_pos (n : Nat) : 1 ≤ P7 n := by
  induction n with
  | zero => decide
  | succ n ih => rw [P7_succ]; omega
theorem P7_le {n m : Nat} (h : n ≤ m) : P7 n ≤ P7 m := by
  induction m with
  | zero => obtain rfl : n = 0 := by omega
            exact Int.le_refl _
  | succ m ih =>
    by_cases c : n = m + 1
    · rw [c]; exact Int.le_refl _
    · have := ih (by omega)
      have := P7_pos m
      rw [P7_succ]
      omega
/-- The number that a varint's bytes tell. -/
def val : List Int → Int
  | [] => 0
  | a :: s => a % 128 + 128 * val s
/-- A number's varint, of at most d + 1 bytes. -/
def vi : Nat → Int → List Int
  | 0, u => [u % 256]
  | d + 1, u => if u ≥ 128 then (128 + u % 128) % 256 :: vi d (u / 128) else [u % 256]
theorem val_nonneg (s : List Int) : 0 ≤ val s := by
  induction s with
  | nil => exact Int.le_refl _
  | cons a s ih => unfold val; omega
theorem val_lt (s : List Int) : val s < P7 s.length := by
  induction s with
  | nil => decide
  | cons a s ih =>
    rw [List.length_cons, P7_succ]
    unfold val
    omega
theorem val_snoc (s : List Int) (c : Int) : val (s ++ [c]) = val s + c % 128 * P7 s.length := by
  induction s with
  | nil =>
    show c % 128 + 128 * 0 = 0 + c % 128 * 1
    omega
  | cons a s ih =>
    rw [List.cons_append, val, ih, val, List.length_cons, P7_succ, Int.mul_add, ← Int.add_assoc, ← Int.mul_assoc (c % 128), Int.mul_comm 128 (c % 128 * P7 s.length)]
theorem vi_val (c : Int) (hc : 0 ≤ c ∧ c < 128) : ∀ (s : List Int) (d : Nat), (∀ a ∈ s, 128 ≤ a ∧ a < 256) → s.length ≤ d → (vi d (val (s ++ [c])) = s ++ [c] ↔ (s = [] ∨ c ≠ 0)) := by
  intro s
  induction s with
  | nil =>
    intro d _ _
    have e : val ([] ++ [c]) = c := by
      show c % 128 + 128 * 0 = c
      omega
    rw [e]
    have e2 : vi d c = [c % 256] := by
      cases d with
      | zero => rfl
      | succ d =>
        unfold vi
        rw [if_neg (by omega)]
    rw [e2, show c % 256 = c by omega]
    simp
  | cons a s ih =>
    intro d ha hd
    obtain ⟨d, rfl⟩ : ∃ m, d = m + 1 := ⟨d - 1, by simp at hd; omega⟩
    have a1 := ha a List.mem_cons_self
    have ihs := ih d (fun x hx => ha x (List.mem_cons_of_mem _ hx)) (by simp at hd; omega)
    have hv := val_nonneg (s ++ [c])
    have hsn := val_snoc s c
    have hs0 := val_nonneg s
    have hP := P7_pos s.length
    rw [List.cons_append, val]
    by_cases z : val (s ++ [c]) = 0
    · rw [z]
      have hm : 0 ≤ c % 128 * P7 s.length := Int.mul_nonneg (by omega) (by omega)
      have hz : c = 0 := by
        rcases Int.mul_eq_zero.1 (show c % 128 * P7 s.length = 0 by omega) with h | h <;> omega
      unfold vi
      rw [if_neg (by omega)]
      constructor
      · intro h
        have := (List.cons.inj h).2
        simp at this
      · intro h
        rcases h with h | h
        · simp at h
        · exact absurd hz h
    · unfold vi
      rw [if_pos (by omega), show (a % 128 + 128 * val (s ++ [c])) / 128 = val (s ++ [c]) by omega, show (128 + (a % 128 + 128 * val (s ++ [c])) % 128) % 256 = a by omega]
      constructor
      · intro h
        have := ihs.1 (List.cons.inj h).2
        right
        rcases this with h | h
        · rw [h] at z
          intro e
          rw [e] at z
          exact z (by decide)
        · exact h
      · intro h
        have hc0 : c ≠ 0 := by
          rcases h with h | h
          · simp at h
          · exact h
        rw [ihs.2 (Or.inr hc0)]
theorem or_gen (n : Nat) (hn : n ≤ 42) (u c : Int) (hu : 0 ≤ u) (hu2 : u < 2 ^ n) (hc : 0 ≤ c) (hc2 : c < 128) :
    wrap64 (c * 2 ^ n) = c * 2 ^ n ∧ bitsOf .or .i64 u (c * 2 ^ n) = u + c * 2 ^ n := by
  have hp : (2 : Int) ^ n ≤ 2 ^ 42 := by exact_mod_cast Nat.pow_le_pow_right (by decide) hn
  have hp0 : (0 : Int) < 2 ^ n := by exact_mod_cast Nat.two_pow_pos n
  have hm : c * 2 ^ n ≤ 127 * 2 ^ n := Int.mul_le_mul_of_nonneg_right (by omega) (by omega)
  have hm0 : 0 ≤ c * 2 ^ n := Int.mul_nonneg hc (by omega)
  have h42 : (2 : Int) ^ 42 = 4398046511104 := by decide
  have h62 : (2 : Int) ^ 62 = 4611686018427387904 := by decide
  refine ⟨wrap_id (by omega) (by omega), ?_⟩
  show Go.bits .or .i64 u (c * 2 ^ n) = _
  have hcm : ∀ x y : Int, Go.bits .or .i64 x y = Go.bits .or .i64 y x := by
    intro x y
    simp only [Go.bits, BitVec.or_comm]
  rw [hcm, bits_join .i64 62 (by decide) (fun m h1 h2 => by rw [IntKind.wrap_i64]; omega) n (c * 2 ^ n) u hm0 (Int.mul_emod_left _ _) (by omega) hu hu2 (by omega)]
  omega
/-- What a number's varint tells: the even ones are the numbers from 0 on, the odd ones those below. -/
def zig (u : Int) : Int := if u % 2 = 1 then -((u + 1) / 2) else u / 2
/-- Behind the last byte, c. -/
def tnf (u c : Int) (i at_ : Nat) : Int × Nat × Bool := if (c = 0 ∧ 0 < i) ∨ zig u < -1099511627776 ∨ zig u > 1099511627776 then (0, 0, false) else (zig u, at_ + i + 1, true)
def scan (b : List Int) (at_ : Nat) : Nat → Nat → Int → Int × Nat × Bool
  | 0, _, _ => (0, 0, false)
  | d + 1, i, u => if at_ + i < b.length then (if L b (at_ + i) ≥ 128 then scan b at_ d (i + 1) (u + L b (at_ + i) % 128 * P7 i) else tnf (u + L b (at_ + i) % 128 * P7 i) (L b (at_ + i)) i at_) else (0, 0, false)
theorem scan_succ (b : List Int) (at_ d i : Nat) (u : Int) : scan b at_ (d + 1) i u = if at_ + i < b.length then (if L b (at_ + i) ≥ 128 then scan b at_ d (i + 1) (u + L b (at_ + i) % 128 * P7 i) else tnf (u + L b (at_ + i) % 128 * P7 i) (L b (at_ + i)) i at_) else (0, 0, false) := rfl
/-- The number at a place: the number, the place behind it, whether there is one. -/
def tk (b : List Int) (at_ : Nat) : Int × Nat × Bool := scan b at_ 6 0 0
theorem scan_last (b : List Int) (at_ : Nat) (u : Int) (hb : Bs b) (hu : 0 ≤ u) : scan b at_ 1 6 u = (0, 0, false) := by
  have hc := hb.L (at_ + 6)
  unfold scan
  by_cases c1 : at_ + 6 < b.length
  · rw [if_pos c1]
    by_cases c2 : L b (at_ + 6) ≥ 128
    · rw [if_pos c2]; rfl
    · rw [if_neg c2]
      unfold tnf
      by_cases c3 : L b (at_ + 6) = 0
      · rw [if_pos (Or.inl ⟨c3, by decide⟩)]
      · have hP : P7 6 = 4398046511104 := by decide
        rw [if_pos]
        right
        unfold zig
        rw [hP]
        by_cases z : (u + L b (at_ + 6) % 128 * 4398046511104) % 2 = 1
        · rw [if_pos z]; omega
        · rw [if_neg z]; omega
  · rw [if_neg c1]
theorem scan76 (b : List Int) (at_ : Nat) (hb : Bs b) : ∀ (d i : Nat) (u : Int), i + d = 6 → 0 ≤ u → scan b at_ (d + 1) i u = scan b at_ d i u := by
  intro d
  induction d with
  | zero =>
    intro i u hi hu
    obtain rfl : i = 6 := by omega
    rw [scan_last b at_ u hb hu]; rfl
  | succ d ih =>
    intro i u hi hu
    rw [scan_succ b at_ (d + 1) i u, scan_succ b at_ d i u]
    have hn : 0 ≤ u + L b (at_ + i) % 128 * P7 i := by
      have := Int.mul_nonneg (show 0 ≤ L b (at_ + i) % 128 by omega) (show 0 ≤ P7 i by have := P7_pos i; omega)
      omega
    rw [ih (i + 1) _ (by omega) hn]
theorem scan_at (b : List Int) (at_ : Nat) : ∀ (d i : Nat) (u : Int), (scan b at_ d i u).2.1 ≤ b.length ∧ ((scan b at_ d i u).2.2 = true → at_ < (scan b at_ d i u).2.1) ∧ ((scan b at_ d i u).2.2 = false → scan b at_ d i u = (0, 0, false)) ∧ -1099511627776 ≤ (scan b at_ d i u).1 ∧ (scan b at_ d i u).1 ≤ 1099511627776 := by
  intro d
  induction d with
  | zero => intro i u; exact ⟨Nat.zero_le _, fun h => by simp [scan] at h, fun _ => rfl, by simp [scan], by simp [scan]⟩
  | succ d ih =>
    intro i u
    rw [scan]
    by_cases c1 : at_ + i < b.length
    · rw [if_pos c1]
      by_cases c2 : L b (at_ + i) ≥ 128
      · rw [if_pos c2]; exact ih _ _
      · rw [if_neg c2]
        unfold tnf
        split
        · exact ⟨Nat.zero_le _, fun h => by simp at h, fun _ => rfl, by simp, by simp⟩
        · rename_i h
          exact ⟨by show at_ + i + 1 ≤ b.length; omega, fun _ => by show at_ < at_ + i + 1; omega, fun h => by simp at h, by show -1099511627776 ≤ zig _; omega, by show zig _ ≤ 1099511627776; omega⟩
    · rw [if_neg c1]
      exact ⟨Nat.zero_le _, fun h => by simp at h, fun _ => rfl, by simp, by simp⟩
theorem tk_at (b : List Int) (at_ : Nat) : (tk b at_).2.1 ≤ b.length ∧ ((tk b at_).2.2 = true → at_ < (tk b at_).2.1) ∧ ((tk b at_).2.2 = false → tk b at_ = (0, 0, false)) ∧ -1099511627776 ≤ (tk b at_).1 ∧ (tk b at_).1 ≤ 1099511627776 := scan_at b at_ 6 0 0
theorem P7_42 {i : Nat} (h : i ≤ 6) : P7 i ≤ 4398046511104 := by
  have := P7_le h
  have e : P7 6 = 4398046511104 := by decide
  omega
theorem take_seg (b : List Int) (at_ i : Nat) (h : at_ + i < b.length) : (b.take (at_ + i + 1)).drop at_ = (b.take (at_ + i)).drop at_ ++ [L b (at_ + i)] := by
  rw [List.take_succ_eq_append_getElem h, List.drop_append_of_le_length (by rw [List.length_take]; omega), L_at _ _ h]
/-- What the rounds hold of a byte. -/
theorem round_of (b : List Int) (hb : Bs b) (at_ i : Nat) (u : Int) (hi : i ≤ 6) (hu : 0 ≤ u) (hu2 : u < P7 i) :
    0 ≤ u + L b (at_ + i) % 128 * P7 i ∧ u + L b (at_ + i) % 128 * P7 i < P7 (i + 1) ∧ u + L b (at_ + i) % 128 * P7 i < 562949953421312 := by
  have hc := hb.L (at_ + i)
  have hp := P7_pos i
  have h42 := P7_42 hi
  have h1 : 0 ≤ L b (at_ + i) % 128 * P7 i := Int.mul_nonneg (by omega) (by omega)
  have h2 : L b (at_ + i) % 128 * P7 i ≤ 127 * P7 i := Int.mul_le_mul_of_nonneg_right (by omega) (by omega)
  have h3 := P7_succ i
  refine ⟨by omega, by omega, by omega⟩
theorem vi_length : ∀ (d : Nat) (u : Int), (vi d u).length ≤ d + 1 := by
  intro d
  induction d with
  | zero => intro u; exact Nat.le_refl _
  | succ d ih =>
    intro u
    unfold vi
    split
    · have := ih (u / 128)
      rw [List.length_cons]
      omega
    · simp
/-- The number that is written for one. -/
def unz (x : Int) : Int := if x < 0 then -2 * x - 1 else 2 * x
theorem unz_zig (u : Int) (h : 0 ≤ u) : unz (zig u) = u := by
  unfold unz zig
  by_cases z : u % 2 = 1
  · rw [if_pos z, if_pos (by omega)]; omega
  · rw [if_neg z, if_neg (by omega)]; omega

theorem wrap8 (x : Int) : IntKind.u8.wrap x = x % 256 := rfl
theorem in_is (a b c : Int) (k : Nat) (hk : 1 ≤ k) : spec_l01In.f k a b c = some (decide (b ≤ a ∧ a ≤ c)) := by
  obtain ⟨k, rfl⟩ : ∃ m, k = m + 1 := ⟨k - 1, by omega⟩
  rw [spec_l01In.f_eq]
  by_cases h : b ≤ a
  · rw [if_pos h]; simp [h]
  · rw [if_neg h, decide_eq_false (fun g => h g.1)]
theorem cut_nat (l : List Int) (i j : Nat) : cut l (i : Int) (j : Int) = (l.take j).drop i := by simp [cut]
end Go.Vm.Pu
namespace Go.Vm.Pu
open Go Go.RowKit Go.Vm
set_option linter.unusedVariables false
set_option linter.unusedSimpArgs false
theorem modulus_is (f : Int) (k : Nat) (hk : 1 ≤ k) : spec_Modulus.f k f = some (md f) := by
  obtain ⟨k, rfl⟩ : ∃ m, k = m + 1 := ⟨k - 1, by omega⟩
  rw [spec_Modulus.f_eq]
  unfold md
  simp only [apply_ite some]
theorem fieldOf_is (f : Int) (k : Nat) (hk : 1 ≤ k) : impl_fieldOf.f k f = some (md f, gn f, tw f, decide (md f ≠ 0)) := by
  obtain ⟨k, rfl⟩ : ∃ m, k = m + 1 := ⟨k - 1, by omega⟩
  rw [impl_fieldOf.f_eq]
  by_cases c : 0 ≤ f ∧ f ≤ 8
  · rcases nine c.1 c.2 with rfl | rfl | rfl | rfl | rfl | rfl | rfl | rfl | rfl <;> rfl
  · obtain ⟨h1, h2, h3⟩ := md_out c
    rw [h1, h2, h3]
    by_cases c0 : f < 0
    · rw [if_pos c0]; rfl
    · rw [if_neg c0, if_pos (by omega)]; rfl
/-- Few numbers that are not too great. -/
def Wd (l : List Int) : Prop := ∀ x ∈ l, -1099511627776 ≤ x ∧ x ≤ 1099511627776
instance (l : List Int) : Decidable (Wd l) := inferInstanceAs (Decidable (∀ x ∈ l, -1099511627776 ≤ x ∧ x ≤ 1099511627776))
def Ww (l : List Int) : Prop := l.length ≤ 400 ∧ Wd l
instance (l : List Int) : Decidable (Ww l) := by unfold Ww; exact inferInstance
theorem Wd_cons {a : Int} {l : List Int} : Wd (a :: l) ↔ (-1099511627776 ≤ a ∧ a ≤ 1099511627776) ∧ Wd l := by
  constructor
  · intro h
    exact ⟨h a List.mem_cons_self, fun x hx => h x (List.mem_cons_of_mem _ hx)⟩
  · rintro ⟨h1, h2⟩ x hx
    rcases List.mem_cons.1 hx with rfl | hx
    · exact h1
    · exact h2 x hx
theorem swords_f (l : List Int) (hn : l.length ≤ 2000000) (k : Nat) (hk : l.length + 2 < k) : spec_l10Words.f k l = some (decide (Ww l)) := by
  obtain ⟨k, rfl⟩ : ∃ m, k = m + 1 := ⟨k - 1, by omega⟩
  rw [spec_l10Words.f_eq]
  by_cases c : (l.length : Int) > 400
  · rw [if_pos c, decide_eq_false (fun h => by have := h.1; omega)]
  · rw [if_neg c]
    have := loop_list (fun fu (_ : Unit) i => spec_l10Words.l0 k fu l i) l 0 (fun _ _ => True) (fun r _ => decide (Wd r)) (by
      intro fu s _ _
      simp only [spec_l10Words.l0_eq]
      rw [if_neg (by omega), decide_eq_true (show Wd [] from fun x hx => by cases hx)]) (by
      intro fu i s h _ _
      simp only [spec_l10Words.l0_eq]
      rw [if_pos (by omega), if_pos (by omega), if_pos (by omega), rd_at l i h, in_is _ _ _ _ (by omega)]
      simp only [bs, not_ite]
      by_cases c : -1099511627776 ≤ l[i] ∧ l[i] ≤ 1099511627776
      · left
        refine ⟨(), ?_, trivial, ?_⟩
        · rw [if_pos (decide_eq_true c), wrap_next h (by omega)]
        · rw [decide_eq_decide, Wd_cons]
          exact ⟨fun h => h.2, fun h => ⟨c, h⟩⟩
      · right
        rw [if_neg (by simpa using c), decide_eq_false (fun h => c (Wd_cons.1 h).1)]) k () (by omega) trivial
    rw [this]
    congr 1
    rw [decide_eq_decide]
    exact ⟨fun h => ⟨by omega, h⟩, fun h => h.2⟩
theorem iwords_f (l : List Int) (hn : l.length ≤ 2000000) (k : Nat) (hk : l.length + 2 < k) : impl_areWords.f k l = some (decide (Ww l)) := by
  obtain ⟨k, rfl⟩ : ∃ m, k = m + 1 := ⟨k - 1, by omega⟩
  rw [impl_areWords.f_eq]
  have := loop_list (fun fu (_ : Unit) i => impl_areWords.l0 k fu l l (l.length : Int) i) l 0 (fun _ _ => True) (fun r _ => decide (l.length ≤ 400 ∧ Wd r)) (by
    intro fu s _ _
    simp only [impl_areWords.l0_eq]
    rw [if_neg (by omega)]
    congr 1
    rw [decide_eq_decide]
    exact ⟨fun h => ⟨by omega, fun x hx => by cases hx⟩, fun h => by have := h.1; omega⟩) (by
    intro fu i s h _ _
    simp only [impl_areWords.l0_eq]
    rw [if_pos (by omega), if_pos (by omega), if_pos (by omega), rd_at l i h]
    by_cases c1 : l[i] < -1099511627776
    · right
      rw [if_pos c1, decide_eq_false (fun h => by have := (Wd_cons.1 h.2).1; omega)]
    · rw [if_neg c1]
      by_cases c2 : l[i] > 1099511627776
      · right
        rw [if_pos c2, decide_eq_false (fun h => by have := (Wd_cons.1 h.2).1; omega)]
      · left
        refine ⟨(), ?_, trivial, ?_⟩
        · rw [if_neg c2, wrap_next h (by omega)]
        · rw [decide_eq_decide, Wd_cons]
          exact ⟨fun h => ⟨h.1, h.2.2⟩, fun h => ⟨h.1, ⟨by omega, by omega⟩, h.2⟩⟩) k () (by omega) trivial
  exact this
def uB (a : Int) : Prop := a ≠ 1 ∧ a ≠ 2 ∧ a ≠ 7
instance (a : Int) : Decidable (uB a) := by unfold uB; exact inferInstance
/-- A valid job. -/
def JobP (a f : Int) (A B : List Int) (n : Int) : Prop := (1 ≤ a ∧ a ≤ 11) ∧ md f ≠ 0 ∧ (a = 6 → f = 0) ∧ Ww A ∧ Ww B ∧ (0 ≤ n ∧ n ≤ 400) ∧ (uB a ∨ B.length = 0) ∧ (a = 11 ∨ n = 0)
instance (a f : Int) (A B : List Int) (n : Int) : Decidable (JobP a f A B n) := by unfold JobP; exact inferInstance
theorem has_is (l : List Int) (a : Int) (hn : l.length ≤ 2000000) (k : Nat) (hk : l.length + 1 < k) : spec_l01Has.f k l a = some (decide (a ∈ l)) := by
  obtain ⟨k, rfl⟩ : ∃ m, k = m + 1 := ⟨k - 1, by omega⟩
  rw [spec_l01Has.f_eq]
  exact loop_list (fun fu (_ : Unit) i => spec_l01Has.l0 k fu l a i) l 0 (fun _ _ => True) (fun r _ => decide (a ∈ r)) (by
    intro fu s _ _
    simp only [spec_l01Has.l0_eq]
    rw [if_neg (by omega)]
    simp) (by
    intro fu i s h _ _
    simp only [spec_l01Has.l0_eq]
    rw [if_pos (by omega), if_pos (by omega), if_pos (by omega), rd_at l i h]
    by_cases c : l[i] = a
    · right
      rw [if_pos c]
      simp [c]
    · left
      refine ⟨(), ?_, trivial, ?_⟩
      · rw [if_neg c, wrap_next h (by omega)]
      · have c' : ¬ a = l[i] := fun e => c e.symm
        rw [decide_eq_decide, List.mem_cons]
        exact ⟨fun h => h.resolve_left c', Or.inr⟩) k () (by omega) trivial
theorem susesB_f (a : Int) (ha : 1 ≤ a ∧ a ≤ 11) (k : Nat) (hk : 11 < k) : spec_l10UsesB.f k a = some (decide (uB a)) := by
  obtain ⟨k, rfl⟩ : ∃ m, k = m + 1 := ⟨k - 1, by omega⟩
  rw [spec_l10UsesB.f_eq, has_is ([3, 4, 5, 6, 8, 9, 10, 11] : List Int) a (by decide) k (by simp; omega)]
  simp only [bs]
  congr 1
  rw [decide_eq_decide]
  unfold uB
  simp only [List.mem_cons, List.not_mem_nil, or_false]
  omega
theorem iusesB_f (a : Int) (k : Nat) (hk : 1 ≤ k) : impl_usesB.f k a = some (decide (uB a)) := by
  obtain ⟨k, rfl⟩ : ∃ m, k = m + 1 := ⟨k - 1, by omega⟩
  rw [impl_usesB.f_eq]
  by_cases c1 : a = 1
  · rw [if_neg (by omega), decide_eq_false (fun h => h.1 c1)]
  · rw [if_pos c1]
    by_cases c2 : a = 2
    · rw [if_neg (by omega), decide_eq_false (fun h => h.2.1 c2)]
    · rw [if_pos c2]
      congr 1
      rw [decide_eq_decide]
      exact ⟨fun h => ⟨c1, c2, h⟩, fun h => h.2.2⟩
theorem tail_job (a n : Int) : (if a = 11 then some true else some (decide (n = 0))) = some (decide (a = 11 ∨ n = 0)) := by
  by_cases c : a = 11
  · rw [if_pos c, decide_eq_true (Or.inl c)]
  · rw [if_neg c]
    congr 1
    rw [decide_eq_decide]
    exact ⟨Or.inr, fun h => h.resolve_left c⟩
theorem sjobOk_f (a f : Int) (A B : List Int) (n : Int) (hA : A.length ≤ 2000000) (hB : B.length ≤ 2000000) (k : Nat) (hk : A.length + B.length + 30 < k) : spec_JobOk.f k a f A B n = some (decide (JobP a f A B n)) := by
  obtain ⟨k, rfl⟩ : ∃ m, k = m + 1 := ⟨k - 1, by omega⟩
  have bad : ¬ ((1 ≤ a ∧ a ≤ 11) ∧ md f ≠ 0 ∧ (a = 6 → f = 0)) → some false = some (decide (JobP a f A B n)) := fun h => by rw [decide_eq_false (fun g => h ⟨g.1, g.2.1, g.2.2.1⟩)]
  have good : (1 ≤ a ∧ a ≤ 11) ∧ md f ≠ 0 ∧ (a = 6 → f = 0) → spec_JobOk.j0 k a f A B n = some (decide (JobP a f A B n)) := by
    intro h
    rw [spec_JobOk.j0_eq, swords_f A hA k (by omega)]
    simp only [bs, not_ite]
    by_cases wA : Ww A
    · rw [if_pos (decide_eq_true wA), swords_f B hB k (by omega)]
      simp only [bs, not_ite]
      by_cases wB : Ww B
      · rw [if_pos (decide_eq_true wB), in_is _ _ _ _ (by omega)]
        simp only [bs, not_ite]
        by_cases wn : 0 ≤ n ∧ n ≤ 400
        · rw [if_pos (decide_eq_true wn), susesB_f a h.1 k (by omega)]
          simp only [bs, tail_job]
          by_cases u : uB a
          · rw [if_pos (decide_eq_true u)]
            congr 1
            rw [decide_eq_decide]
            exact ⟨fun g => ⟨h.1, h.2.1, h.2.2, wA, wB, wn, Or.inl u, g⟩, fun g => g.2.2.2.2.2.2.2⟩
          · rw [if_neg (by simpa using u)]
            by_cases z : (B.length : Int) = 0
            · rw [if_pos z]
              congr 1
              rw [decide_eq_decide]
              exact ⟨fun g => ⟨h.1, h.2.1, h.2.2, wA, wB, wn, Or.inr (by omega), g⟩, fun g => g.2.2.2.2.2.2.2⟩
            · rw [if_neg z, decide_eq_false (fun g => g.2.2.2.2.2.2.1.elim u (fun e => z (by omega)))]
        · rw [if_neg (by simpa using wn), decide_eq_false (fun g => wn g.2.2.2.2.2.1)]
      · rw [if_neg (by simpa using wB), decide_eq_false (fun g => wB g.2.2.2.2.1)]
    · rw [if_neg (by simpa using wA), decide_eq_false (fun g => wA g.2.2.2.1)]
  rw [spec_JobOk.f_eq, in_is _ _ _ _ (by omega)]
  simp only [bs, not_ite]
  by_cases h1 : 1 ≤ a ∧ a ≤ 11
  · rw [if_pos (decide_eq_true h1), modulus_is _ _ (by omega)]
    simp only [bs]
    by_cases h2 : md f = 0
    · rw [if_pos h2, bad (fun g => g.2.1 h2)]
    · rw [if_neg h2]
      by_cases h3 : a = 6
      · rw [if_pos h3]
        by_cases h4 : f = 0
        · rw [if_neg (by simpa using h4), good ⟨h1, h2, fun _ => h4⟩]
        · rw [if_pos h4, bad (fun g => h4 (g.2.2 h3))]
      · rw [if_neg h3, good ⟨h1, h2, fun e => absurd e h3⟩]
  · rw [if_neg (by simpa using h1), bad (fun g => h1 g.1)]
theorem ijobOk_f (a f : Int) (A B : List Int) (n : Int) (hA : A.length ≤ 2000000) (hB : B.length ≤ 2000000) (k : Nat) (hk : A.length + B.length + 30 < k) : impl_isJob.f k a f A B n = some (decide (JobP a f A B n)) := by
  obtain ⟨k, rfl⟩ : ∃ m, k = m + 1 := ⟨k - 1, by omega⟩
  have bad : ¬ ((1 ≤ a ∧ a ≤ 11) ∧ md f ≠ 0 ∧ (a = 6 → f = 0)) → some false = some (decide (JobP a f A B n)) := fun h => by rw [decide_eq_false (fun g => h ⟨g.1, g.2.1, g.2.2.1⟩)]
  have good : (1 ≤ a ∧ a ≤ 11) ∧ md f ≠ 0 ∧ (a = 6 → f = 0) → impl_isJob.j0 k a f A B n = some (decide (JobP a f A B n)) := by
    intro h
    rw [impl_isJob.j0_eq, iwords_f A hA k (by omega)]
    simp only [bs, not_ite]
    by_cases wA : Ww A
    · rw [if_pos (decide_eq_true wA), iwords_f B hB k (by omega)]
      simp only [bs, not_ite]
      by_cases wB : Ww B
      · rw [if_pos (decide_eq_true wB)]
        by_cases n1 : n < 0
        · rw [if_pos n1, decide_eq_false (fun g => by have := g.2.2.2.2.2.1; omega)]
        · rw [if_neg n1]
          by_cases n2 : n > 400
          · rw [if_pos n2, decide_eq_false (fun g => by have := g.2.2.2.2.2.1; omega)]
          · have wn : 0 ≤ n ∧ n ≤ 400 := by omega
            rw [if_neg n2, iusesB_f a k (by omega)]
            simp only [bs, tail_job]
            by_cases u : uB a
            · rw [if_pos (decide_eq_true u)]
              congr 1
              rw [decide_eq_decide]
              exact ⟨fun g => ⟨h.1, h.2.1, h.2.2, wA, wB, wn, Or.inl u, g⟩, fun g => g.2.2.2.2.2.2.2⟩
            · rw [if_neg (by simpa using u)]
              by_cases z : (B.length : Int) = 0
              · rw [if_pos z]
                congr 1
                rw [decide_eq_decide]
                exact ⟨fun g => ⟨h.1, h.2.1, h.2.2, wA, wB, wn, Or.inr (by omega), g⟩, fun g => g.2.2.2.2.2.2.2⟩
              · rw [if_neg z, decide_eq_false (fun g => g.2.2.2.2.2.2.1.elim u (fun e => z (by omega)))]
      · rw [if_neg (by simpa using wB), decide_eq_false (fun g => wB g.2.2.2.2.1)]
    · rw [if_neg (by simpa using wA), decide_eq_false (fun g => wA g.2.2.2.1)]
  rw [impl_isJob.f_eq, fieldOf_is _ _ (by omega)]
  simp only [bs, not_ite]
  by_cases h2 : md f = 0
  · rw [if_neg (by simpa using h2), bad (fun g => g.2.1 h2)]
  · rw [if_pos (decide_eq_true h2)]
    by_cases h1 : a < 1
    · rw [if_pos h1, bad (fun g => by omega)]
    · rw [if_neg h1]
      by_cases h1' : a > 11
      · rw [if_pos h1', bad (fun g => by omega)]
      · rw [if_neg h1']
        by_cases h3 : a = 6
        · rw [if_pos h3]
          by_cases h4 : f = 0
          · rw [if_neg (by simpa using h4), good ⟨⟨by omega, by omega⟩, h2, fun _ => h4⟩]
          · rw [if_pos h4, bad (fun g => h4 (g.2.2 h3))]
        · rw [if_neg h3, good ⟨⟨by omega, by omega⟩, h2, fun e => absurd e h3⟩]
end Go.Vm.Pu
namespace Go.Vm.Pu
open Go Go.RowKit Go.Vm
set_option linter.unusedVariables false
set_option linter.unusedSimpArgs false
def mkI (a : Int) : Nat → List Int
  | 0 => []
  | n + 1 => a :: mkI (a + 1) n
theorem mkI_length (n : Nat) : ∀ a, (mkI a n).length = n := by
  induction n with
  | zero => intro a; rfl
  | succ n ih => intro a; simp [mkI, ih]
theorem eqIntS_f (l : List Int) (hn : l.length ≤ 1048576) (k : Nat) (hk : l.length + 1 < k) : laws_eqIntS.f k l l = some true := by
  obtain ⟨k, rfl⟩ : ∃ m, k = m + 1 := ⟨k - 1, by omega⟩
  rw [laws_eqIntS.f_eq, if_neg (by simp)]
  exact count_loop (fun fu i => laws_eqIntS.l0 k fu l l i) l.length 0 true (by
    intro fu _
    simp only [laws_eqIntS.l0_eq]
    rw [if_neg (by omega)]) (by
    intro fu i h _
    simp only [laws_eqIntS.l0_eq]
    rw [if_pos (by omega), if_pos (by omega), if_pos (by omega), if_pos (by omega), if_pos (by omega), if_neg (by simp), wrap_next h (by omega)]) k (by omega)
end Go.Vm.Pu
