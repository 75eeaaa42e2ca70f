/- Plain laws of the functions that the laws share: what each answers; the conditions are those of each theorem. -/
import Derived.Test.YtlmpfcdajmngfaaGreatQ
import Derived.Test.YtlmpfcdajmngfaaGreatVmD
import Derived.RowKit
import Derived.KernelRfl
namespace Go.Vm.Pu
open Go Go.RowKit Go.Vm
set_option linter.unusedVariables false
set_option linter.unusedSimpArgs false
/-- A value handed on; told so that simp rewrites by it instead of computing (the kernel else unfolds what follows). -/
theorem bs {α β : Type} (x : α) (f : α → Option β) : (some x).bind f = f x := (Option.bind_some x f).trans (Eq.refl _)
theorem wrap_id {x : Int} (h1 : -9223372036854775808 ≤ x) (h2 : x ≤ 9223372036854775807) : wrap64 x = x := by
  unfold wrap64
  rw [IntKind.wrap_i64]; omega
theorem rd_at (l : List Int) (i : Nat) (h : i < l.length) : rdI l (i : Int) = l[i] := by
  simp [rdI, List.getD, h]
theorem rd_mem (l : List Int) (i : Int) (h0 : 0 ≤ i) (h : i < l.length) : rdI l i ∈ l := by
  obtain ⟨n, rfl⟩ := Int.eq_ofNat_of_zero_le h0
  have hn : n < l.length := by omega
  rw [rd_at l n hn]
  exact List.getElem_mem hn
theorem set_take {α : Type} (l : List α) (i : Nat) (a : α) (h : i < l.length) : (l.set i a).take (i + 1) = l.take i ++ [a] := by
  rw [List.take_succ_eq_append_getElem (by simpa using h), List.take_set_of_le (by omega)]
  simp
theorem drop_cons {α : Type} (l : List α) (i : Nat) (h : i < l.length) : l.drop i = l[i] :: l.drop (i + 1) := List.drop_eq_getElem_cons h
theorem cast_succ (i : Nat) : (i : Int) + 1 = ((i + 1 : Nat) : Int) := rfl
theorem wf_bounds {x : Int} (h : (Lit.int .i64 x).wf = true) : -9223372036854775808 ≤ x ∧ x ≤ 9223372036854775807 := by
  simp only [Lit.wf, Bool.and_eq_true, decide_eq_true_eq] at h
  exact h
theorem wf_byte {x : Int} (h : (Lit.int .u8 x).wf = true) : 0 ≤ x ∧ x ≤ 255 := by
  simp only [Lit.wf, Bool.and_eq_true, decide_eq_true_eq] at h
  exact h

/-- A loop over a list by its index: each round goes on, or ends with what the rest of the list is worth. -/
theorem loop_list {α σ R : Type} (F : Nat → σ → Int → Option R) (l : List α) (K : Nat) (Inv : Nat → σ → Prop) (G : List α → σ → R)
    (hnil : ∀ k s, K ≤ k → Inv l.length s → F (k + 1) s (l.length : Int) = some (G [] s))
    (hcons : ∀ k i s (h : i < l.length), K ≤ k → Inv i s → (∃ s', F (k + 1) s (i : Int) = F k s' ((i + 1 : Nat) : Int) ∧ Inv (i + 1) s' ∧ G (l[i] :: l.drop (i + 1)) s = G (l.drop (i + 1)) s') ∨ F (k + 1) s (i : Int) = some (G (l[i] :: l.drop (i + 1)) s))
    (k : Nat) (s : σ) (hk : l.length + K < k) (h0 : Inv 0 s) : F k s 0 = some (G l s) := by
  have key : ∀ (d k i : Nat) (s : σ), i + d = l.length → d + K < k → Inv i s → F k s (i : Int) = some (G (l.drop i) s) := by
    intro d
    induction d with
    | zero =>
      intro k i s hi hk h
      obtain ⟨k, rfl⟩ : ∃ m, k = m + 1 := ⟨k - 1, by omega⟩
      obtain rfl : i = l.length := by omega
      rw [hnil k s (by omega) h, List.drop_length]
    | succ d ih =>
      intro k i s hi hk h
      obtain ⟨k, rfl⟩ : ∃ m, k = m + 1 := ⟨k - 1, by omega⟩
      rw [drop_cons l i (by omega)]
      rcases hcons k i s (by omega) (by omega) h with ⟨s', e, h', g⟩ | e
      · rw [e, g]
        exact ih k (i + 1) s' (by omega) (by omega) h'
      · exact e
  have := key l.length k 0 s (by omega) (by omega) h0
  simpa using this
/-- A loop that sets element after element. -/
theorem set_loop {α β : Type} (F : Nat → List β → Int → Option (List β)) (l : List α) (f : α → β) (K : Nat)
    (hnil : ∀ k s, K ≤ k → F (k + 1) s (l.length : Int) = some s)
    (hcons : ∀ k i s (h : i < l.length), K ≤ k → s.length = l.length → F (k + 1) s (i : Int) = F k (s.set i (f l[i])) ((i + 1 : Nat) : Int))
    (k : Nat) (s : List β) (hk : l.length + K < k) (hs : s.length = l.length) : F k s 0 = some (l.map f) := by
  have key : ∀ (d k i : Nat) (s : List β), i + d = l.length → d + K < k → s.length = l.length → F k s (i : Int) = some (s.take i ++ (l.drop i).map f) := by
    intro d
    induction d with
    | zero =>
      intro k i s hi hk hs
      obtain ⟨k, rfl⟩ : ∃ m, k = m + 1 := ⟨k - 1, by omega⟩
      obtain rfl : i = l.length := by omega
      rw [hnil k s (by omega), List.drop_length, List.take_of_length_le (by omega)]
      simp
    | succ d ih =>
      intro k i s hi hk hs
      obtain ⟨k, rfl⟩ : ∃ m, k = m + 1 := ⟨k - 1, by omega⟩
      rw [hcons k i s (by omega) (by omega) hs, ih k (i + 1) _ (by omega) (by omega) (by simpa using hs), set_take _ _ _ (by omega), drop_cons l i (by omega), List.map_cons, List.append_assoc]
      rfl
  have := key l.length k 0 s (by omega) (by omega) hs
  simpa using this
/-- A loop that appends an element a round. -/
theorem append_loop {α β : Type} (F : Nat → List β → Int → Option (List β)) (l : List α) (f : α → β) (K : Nat) (s0 : List β)
    (hnil : ∀ k s, K ≤ k → F (k + 1) s (l.length : Int) = some s)
    (hcons : ∀ k i s (h : i < l.length), K ≤ k → s.length = s0.length + i → F (k + 1) s (i : Int) = F k (s ++ [f l[i]]) ((i + 1 : Nat) : Int))
    (k : Nat) (hk : l.length + K < k) : F k s0 0 = some (s0 ++ l.map f) := by
  have key : ∀ (d k i : Nat) (s : List β), i + d = l.length → d + K < k → s.length = s0.length + i → F k s (i : Int) = some (s ++ (l.drop i).map f) := by
    intro d
    induction d with
    | zero =>
      intro k i s hi hk hs
      obtain ⟨k, rfl⟩ : ∃ m, k = m + 1 := ⟨k - 1, by omega⟩
      obtain rfl : i = l.length := by omega
      rw [hnil k s (by omega), List.drop_length]
      simp
    | succ d ih =>
      intro k i s hi hk hs
      obtain ⟨k, rfl⟩ : ∃ m, k = m + 1 := ⟨k - 1, by omega⟩
      rw [hcons k i s (by omega) (by omega) hs, ih k (i + 1) _ (by omega) (by omega) (by simp [hs]; omega), drop_cons l i (by omega), List.map_cons, List.append_assoc]
      rfl
  have := key l.length k 0 s0 (by omega) (by omega) (by simp)
  simpa using this
/-- A loop that goes on for n rounds, and then ends. -/
theorem count_loop {R : Type} (F : Nat → Int → Option R) (n K : Nat) (r : R) (hend : ∀ k, K ≤ k → F (k + 1) (n : Int) = some r)
    (hgo : ∀ k i, i < n → K ≤ k → F (k + 1) (i : Int) = F k ((i + 1 : Nat) : Int)) (k : Nat) (hk : n + K < k) : F k 0 = some r := by
  have key : ∀ (d k i : Nat), i + d = n → d + K < k → F k (i : Int) = some r := by
    intro d
    induction d with
    | zero =>
      intro k i hi hk
      obtain ⟨k, rfl⟩ : ∃ m, k = m + 1 := ⟨k - 1, by omega⟩
      obtain rfl : i = n := by omega
      exact hend k (by omega)
    | succ d ih =>
      intro k i hi hk
      obtain ⟨k, rfl⟩ : ∃ m, k = m + 1 := ⟨k - 1, by omega⟩
      rw [hgo k i (by omega) (by omega)]
      exact ih k (i + 1) (by omega) (by omega)
  exact key n k 0 (by omega) (by omega)
theorem wrap_next {i n : Nat} (h : i < n) (hn : n ≤ 281474976710656) : wrap64 ((i : Int) + 1) = ((i + 1 : Nat) : Int) := by
  rw [wrap_id (by omega) (by omega)]; rfl
/-- The modulus of a field, 0 for none; its generator; how often 2 divides the modulus less 1. -/
def md (f : Int) : Int := if f = 0 then 17 else (if f = 1 then 97 else (if f = 2 then 193 else (if f = 3 then 257 else (if f = 4 then 7681 else (if f = 5 then 12289 else (if f = 6 then 998244353 else (if f = 7 then 469762049 else (if f = 8 then 1004535809 else 0))))))))
def gn (f : Int) : Int := if f = 0 then 3 else (if f = 1 then 5 else (if f = 2 then 5 else (if f = 3 then 3 else (if f = 4 then 17 else (if f = 5 then 11 else (if f = 6 then 3 else (if f = 7 then 3 else (if f = 8 then 3 else 0))))))))
def tw (f : Int) : Int := if f = 0 then 4 else (if f = 1 then 5 else (if f = 2 then 6 else (if f = 3 then 8 else (if f = 4 then 9 else (if f = 5 then 12 else (if f = 6 then 23 else (if f = 7 then 26 else (if f = 8 then 21 else 0))))))))
theorem nine {f : Int} (h0 : 0 ≤ f) (h8 : f ≤ 8) : f = 0 ∨ f = 1 ∨ f = 2 ∨ f = 3 ∨ f = 4 ∨ f = 5 ∨ f = 6 ∨ f = 7 ∨ f = 8 := by omega
theorem md_out {f : Int} (h : ¬ (0 ≤ f ∧ f ≤ 8)) : md f = 0 ∧ gn f = 0 ∧ tw f = 0 := by
  unfold md gn tw
  rw [if_neg (by omega), if_neg (by omega), if_neg (by omega), if_neg (by omega), if_neg (by omega), if_neg (by omega), if_neg (by omega), if_neg (by omega), if_neg (by omega)]
  rw [if_neg (by omega), if_neg (by omega), if_neg (by omega), if_neg (by omega), if_neg (by omega), if_neg (by omega), if_neg (by omega), if_neg (by omega), if_neg (by omega)]
  rw [if_neg (by omega), if_neg (by omega), if_neg (by omega), if_neg (by omega), if_neg (by omega), if_neg (by omega), if_neg (by omega), if_neg (by omega), if_neg (by omega)]
  exact ⟨rfl, rfl, rfl⟩
theorem md_in {f : Int} (h : md f ≠ 0) : 0 ≤ f ∧ f ≤ 8 := by
  by_cases c : 0 ≤ f ∧ f ≤ 8
  · exact c
  · exact absurd (md_out c).1 h
theorem md_pos {f : Int} (h : md f ≠ 0) : 17 ≤ md f ∧ md f ≤ 1004535809 := by
  obtain ⟨h0, h8⟩ := md_in h
  rcases nine h0 h8 with rfl | rfl | rfl | rfl | rfl | rfl | rfl | rfl | rfl <;> decide
theorem md_nonneg (f : Int) : 0 ≤ md f := by
  by_cases h : md f = 0
  · omega
  · have := md_pos h; omega
/-- All numbers are elements. -/
def El (p : Int) (l : List Int) : Prop := ∀ x ∈ l, 0 ≤ x ∧ x < p
instance (p : Int) (l : List Int) : Decidable (El p l) := inferInstanceAs (Decidable (∀ x ∈ l, 0 ≤ x ∧ x < p))
theorem El.nil (p : Int) : El p [] := fun x hx => by cases hx
theorem El.at {p : Int} {l : List Int} (h : El p l) (i : Nat) (hi : i < l.length) : 0 ≤ l[i] ∧ l[i] < p := h _ (List.getElem_mem hi)
/-- A list's element, 0 beyond its end. -/
def L (l : List Int) (i : Nat) : Int := l.getD i 0
theorem L_at (l : List Int) (i : Nat) (h : i < l.length) : L l i = l[i] := by simp [L, List.getD, h]
theorem L_out (l : List Int) (i : Nat) (h : l.length ≤ i) : L l i = 0 := by simp [L, List.getD, h]
theorem rd_L (l : List Int) (i : Nat) : rdI l (i : Int) = L l i := by simp [rdI, L]
theorem L_el {p : Int} (hp : 0 < p) {l : List Int} (h : El p l) (i : Nat) : 0 ≤ L l i ∧ L l i < p := by
  by_cases c : i < l.length
  · rw [L_at l i c]; exact h.at i c
  · rw [L_out l i (by omega)]; omega
/-- The list of a function's values. -/
def fl (n : Nat) (g : Nat → Int) : List Int := (List.range n).map g
theorem fl_length (n : Nat) (g : Nat → Int) : (fl n g).length = n := by simp [fl]
theorem L_fl (n : Nat) (g : Nat → Int) (i : Nat) (h : i < n) : L (fl n g) i = g i := by
  rw [L_at _ _ (by rw [fl_length]; exact h)]; simp [fl]
theorem fl_L (l : List Int) : fl l.length (L l) = l := by
  apply List.ext_getElem
  · exact fl_length _ _
  · intro i h1 h2
    simp [fl, L_at l i h2]
theorem fl_congr {n : Nat} {g h : Nat → Int} (e : ∀ i, i < n → g i = h i) : fl n g = fl n h := by
  unfold fl
  exact List.map_congr_left (fun i hi => e i (List.mem_range.1 hi))
theorem fl_inj {n : Nat} {g h : Nat → Int} (e : fl n g = fl n h) (i : Nat) (hi : i < n) : g i = h i := by
  rw [← L_fl n g i hi, e, L_fl n h i hi]
theorem fl_set (n : Nat) (g : Nat → Int) (t : Nat) (v : Int) : (fl n g).set t v = fl n (fun m => if m = t then v else g m) := by
  apply List.ext_getElem
  · simp [fl_length]
  · intro i h1 h2
    simp only [fl, List.getElem_set, List.getElem_map, List.getElem_range]
    by_cases c : t = i
    · rw [if_pos c, if_pos c.symm]
    · rw [if_neg c, if_neg (Ne.symm c)]
theorem fl_snoc (n : Nat) (g : Nat → Int) : fl n g ++ [g n] = fl (n + 1) g := by simp [fl, List.range_succ]
theorem fl_zero (n : Nat) : List.replicate n (0 : Int) = fl n (fun _ => 0) := by
  apply List.ext_getElem
  · simp [fl]
  · intro i h1 h2; simp [fl]
theorem fl_el {p : Int} {n : Nat} {g : Nat → Int} (h : ∀ i, i < n → 0 ≤ g i ∧ g i < p) : El p (fl n g) := by
  intro x hx
  obtain ⟨i, hi, rfl⟩ := List.mem_map.1 hx
  exact h i (List.mem_range.1 hi)
theorem list_ext {a b : List Int} (hl : a.length = b.length) (h : ∀ i, i < a.length → L a i = L b i) : a = b := by
  rw [← fl_L a, ← fl_L b, ← hl]
  exact fl_congr h
/-- Sums. -/
def sumN (n : Nat) (g : Nat → Int) : Int := match n with
  | 0 => 0
  | n + 1 => sumN n g + g n
theorem sumN_congr {n : Nat} {g h : Nat → Int} (e : ∀ i, i < n → g i = h i) : sumN n g = sumN n h := by
  induction n with
  | zero => rfl
  | succ n ih => simp only [sumN]; rw [ih (fun i hi => e i (by omega)), e n (by omega)]
theorem sumN_zero {n : Nat} {g : Nat → Int} (e : ∀ i, i < n → g i = 0) : sumN n g = 0 := by
  induction n with
  | zero => rfl
  | succ n ih => simp only [sumN]; rw [ih (fun i hi => e i (by omega)), e n (by omega)]; rfl
theorem emod_range (x : Int) {p : Int} (hp : 0 < p) : 0 ≤ x % p ∧ x % p < p := ⟨Int.emod_nonneg x (by omega), Int.emod_lt_of_pos x hp⟩
theorem tmod_nonneg' {x : Int} (p : Int) (h : 0 ≤ x) : Int.tmod x p = x % p := Int.tmod_eq_emod_of_nonneg h
theorem reduce_int (x p : Int) (hp : 0 < p) : (if Int.tmod x p < 0 then Int.tmod x p + p else Int.tmod x p) = x % p := by
  have h := Int.tmod_add_mul_tdiv x p
  have h1 : x % p = (Int.tmod x p) % p := by
    conv => lhs; rw [← h]
    rw [Int.add_mul_emod_self_left]
  have h2 : Int.tmod x p < p := Int.tmod_lt_of_pos x hp
  have h3 : -p < Int.tmod x p := by
    have := Int.lt_tmod_of_pos x hp
    omega
  rw [h1]
  by_cases c : Int.tmod x p < 0
  · rw [if_pos c, ← Int.add_emod_right, Int.emod_eq_of_lt (by omega) (by omega)]
  · rw [if_neg c, Int.emod_eq_of_lt (by omega) h2]
theorem prod_range {x y p : Int} (hp : p ≤ 1004535809) (hx : 0 ≤ x ∧ x < p) (hy : 0 ≤ y ∧ y < p) : 0 ≤ x * y ∧ x * y ≤ 1009092191563284481 := by
  refine ⟨Int.mul_nonneg hx.1 hy.1, ?_⟩
  have := Int.mul_le_mul (show x ≤ 1004535809 by omega) (show y ≤ 1004535809 by omega) hy.1 (by omega)
  omega
/-- A test turned round. -/
theorem not_ite {α : Type} (b : Bool) (x y : α) : (if (!b) = true then x else y) = if b = true then y else x := by cases b <;> rfl
end Go.Vm.Pu
namespace Go.Vm.Pu
open Go Go.RowKit Go.Vm
set_option linter.unusedVariables false
set_option linter.unusedSimpArgs false
/-- All are bytes. -/
def Bs (l : List Int) : Prop := ∀ x ∈ l, 0 ≤ x ∧ x < 256
theorem Bs.L {l : List Int} (h : Bs l) (i : Nat) : 0 ≤ L l i ∧ L l i < 256 := L_el (by decide) h i
/-- 128 to the n. -/
def P7 (n : Nat) : Int := (2 : Int) ^ (7 * n)
theorem P7_succ (n : Nat) : P7 (n + 1) = P7 n * 128 := by
  unfold P7
  rw [show 7 * (n + 1) = 7 * n + 7 from rfl, Int.pow_add]
  rfl
theorem P7_pos (n : Nat) : 1 ≤ P7 n := by
  induction n with
  | zero => decide
  | succ n ih => rw [P7_succ]; omega
theorem P7_le {n m : Nat} (h : n ≤ m) : P7 n ≤ P7 m := by
  induction m with
  | zero => obtain rfl : n = 0 := by omega
            exact Int.le_refl _
  | succ m ih =>
    by_cases c : n = m + 1
    · rw [c]; exact Int.le_refl _
    · have := ih (by omega)
      have := P7_pos m
      rw [P7_succ]
      omega
/-- The number that a varint's bytes tell. -/
def val : List Int → Int
  | [] => 0
  | a :: s => a % 128 + 128 * val s
/-- A number's varint, of at most d + 1 bytes. -/
def vi : Nat → Int → List Int
  | 0, u => [u % 256]
  | d + 1, u => if u ≥ 128 then (128 + u % 128) % 256 :: vi d (u / 128) else [u % 256]
theorem val_nonneg (s : List Int) : 0 ≤ val s := by
  induction s with
  | nil => exact Int.le_refl _
  | cons a s ih => unfold val; omega
theorem val_lt (s : List Int) : val s < P7 s.length := by
  induction s with
  | nil => decide
  | cons a s ih =>
    rw [List.length_cons, P7_succ]
    unfold val
    omega
theorem val_snoc (s : List Int) (c : Int) : val (s ++ [c]) = val s + c % 128 * P7 s.length := by
  induction s with
  | nil =>
    show c % 128 + 128 * 0 = 0 + c % 128 * 1
    omega
  | cons a s ih =>
    rw [List.cons_append, val, ih, val, List.length_cons, P7_succ, Int.mul_add, ← Int.add_assoc, ← Int.mul_assoc (c % 128), Int.mul_comm 128 (c % 128 * P7 s.length)]
theorem vi_val (c : Int) (hc : 0 ≤ c ∧ c < 128) : ∀ (s : List Int) (d : Nat), (∀ a ∈ s, 128 ≤ a ∧ a < 256) → s.length ≤ d → (vi d (val (s ++ [c])) = s ++ [c] ↔ (s = [] ∨ c ≠ 0)) := by
  intro s
  induction s with
  | nil =>
    intro d _ _
    have e : val ([] ++ [c]) = c := by
      show c % 128 + 128 * 0 = c
      omega
    rw [e]
    have e2 : vi d c = [c % 256] := by
      cases d with
      | zero => rfl
      | succ d =>
        unfold vi
        rw [if_neg (by omega)]
    rw [e2, show c % 256 = c by omega]
    simp
  | cons a s ih =>
    intro d ha hd
    obtain ⟨d, rfl⟩ : ∃ m, d = m + 1 := ⟨d - 1, by simp at hd; omega⟩
    have a1 := ha a List.mem_cons_self
    have ihs := ih d (fun x hx => ha x (List.mem_cons_of_mem _ hx)) (by simp at hd; omega)
    have hv := val_nonneg (s ++ [c])
    have hsn := val_snoc s c
    have hs0 := val_nonneg s
    have hP := P7_pos s.length
    rw [List.cons_append, val]
    by_cases z : val (s ++ [c]) = 0
    · rw [z]
      have hm : 0 ≤ c % 128 * P7 s.length := Int.mul_nonneg (by omega) (by omega)
      have hz : c = 0 := by
        rcases Int.mul_eq_zero.1 (show c % 128 * P7 s.length = 0 by omega) with h | h <;> omega
      unfold vi
      rw [if_neg (by omega)]
      constructor
      · intro h
        have := (List.cons.inj h).2
        simp at this
      · intro h
        rcases h with h | h
        · simp at h
        · exact absurd hz h
    · unfold vi
      rw [if_pos (by omega), show (a % 128 + 128 * val (s ++ [c])) / 128 = val (s ++ [c]) by omega, show (128 + (a % 128 + 128 * val (s ++ [c])) % 128) % 256 = a by omega]
      constructor
      · intro h
        have := ihs.1 (List.cons.inj h).2
        right
        rcases this with h | h
        · rw [h] at z
          intro e
          rw [e] at z
          exact z (by decide)
        · exact h
      · intro h
        have hc0 : c ≠ 0 := by
          rcases h with h | h
          · simp at h
          · exact h
        rw [ihs.2 (Or.inr hc0)]
theorem or_gen (n : Nat) (hn : n ≤ 42) (u c : Int) (hu : 0 ≤ u) (hu2 : u < 2 ^ n) (hc : 0 ≤ c) (hc2 : c < 128) :
    wrap64 (c * 2 ^ n) = c * 2 ^ n ∧ bitsOf .or .i64 u (c * 2 ^ n) = u + c * 2 ^ n := by
  have hp : (2 : Int) ^ n ≤ 2 ^ 42 := by exact_mod_cast Nat.pow_le_pow_right (by decide) hn
  have hp0 : (0 : Int) < 2 ^ n := by exact_mod_cast Nat.two_pow_pos n
  have hm : c * 2 ^ n ≤ 127 * 2 ^ n := Int.mul_le_mul_of_nonneg_right (by omega) (by omega)
  have hm0 : 0 ≤ c * 2 ^ n := Int.mul_nonneg hc (by omega)
  have h42 : (2 : Int) ^ 42 = 4398046511104 := by decide
  have h62 : (2 : Int) ^ 62 = 4611686018427387904 := by decide
  refine ⟨wrap_id (by omega) (by omega), ?_⟩
  show Go.bits .or .i64 u (c * 2 ^ n) = _
  have hcm : ∀ x y : Int, Go.bits .or .i64 x y = Go.bits .or .i64 y x := by
    intro x y
    simp only [Go.bits, BitVec.or_comm]
  rw [hcm, bits_join .i64 62 (by decide) (fun m h1 h2 => by rw [IntKind.wrap_i64]; omega) n (c * 2 ^ n) u hm0 (Int.mul_emod_left _ _) (by omega) hu hu2 (by omega)]
  omega
/-- What a number's varint tells: the even ones are the numbers from 0 on, the odd ones those below. -/
def zig (u : Int) : Int := if u % 2 = 1 then -((u + 1) / 2) else u / 2
/-- Behind the last byte, c. -/
def tnf (u c : Int) (i at_ : Nat) : Int × Nat × Bool := if (c = 0 ∧ 0 < i) ∨ zig u < -1099511627776 ∨ zig u > 1099511627776 then (0, 0, false) else (zig u, at_ + i + 1, true)
def scan (b : List Int) (at_ : Nat) : Nat → Nat → Int → Int × Nat × Bool
  | 0, _, _ => (0, 0, false)
  | d + 1, i, u => if at_ + i < b.length then (if L b (at_ + i) ≥ 128 then scan b at_ d (i + 1) (u + L b (at_ + i) % 128 * P7 i) else tnf (u + L b (at_ + i) % 128 * P7 i) (L b (at_ + i)) i at_) else (0, 0, false)
theorem scan_succ (b : List Int) (at_ d i : Nat) (u : Int) : scan b at_ (d + 1) i u = if at_ + i < b.length then (if L b (at_ + i) ≥ 128 then scan b at_ d (i + 1) (u + L b (at_ + i) % 128 * P7 i) else tnf (u + L b (at_ + i) % 128 * P7 i) (L b (at_ + i)) i at_) else (0, 0, false) := rfl
/-- The number at a place: the number, the place behind it, whether there is one. -/
def tk (b : List Int) (at_ : Nat) : Int × Nat × Bool := scan b at_ 6 0 0
theorem scan_last (b : List Int) (at_ : Nat) (u : Int) (hb : Bs b) (hu : 0 ≤ u) : scan b at_ 1 6 u = (0, 0, false) := by
  have hc := hb.L (at_ + 6)
  unfold scan
  by_cases c1 : at_ + 6 < b.length
  · rw [if_pos c1]
    by_cases c2 : L b (at_ + 6) ≥ 128
    · rw [if_pos c2]; rfl
    · rw [if_neg c2]
      unfold tnf
      by_cases c3 : L b (at_ + 6) = 0
      · rw [if_pos (Or.inl ⟨c3, by decide⟩)]
      · have hP : P7 6 = 4398046511104 := by decide
        rw [if_pos]
        right
        unfold zig
        rw [hP]
        by_cases z : (u + L b (at_ + 6) % 128 * 4398046511104) % 2 = 1
        · rw [if_pos z]; omega
        · rw [if_neg z]; omega
  · rw [if_neg c1]
theorem scan76 (b : List Int) (at_ : Nat) (hb : Bs b) : ∀ (d i : Nat) (u : Int), i + d = 6 → 0 ≤ u → scan b at_ (d + 1) i u = scan b at_ d i u := by
  intro d
  induction d with
  | zero =>
    intro i u hi hu
    obtain rfl : i = 6 := by omega
    rw [scan_last b at_ u hb hu]; rfl
  | succ d ih =>
    intro i u hi hu
    rw [scan_succ b at_ (d + 1) i u, scan_succ b at_ d i u]
    have hn : 0 ≤ u + L b (at_ + i) % 128 * P7 i := by
      have := Int.mul_nonneg (show 0 ≤ L b (at_ + i) % 128 by omega) (show 0 ≤ P7 i by have := P7_pos i; omega)
      omega
    rw [ih (i + 1) _ (by omega) hn]
theorem scan_at (b : List Int) (at_ : Nat) : ∀ (d i : Nat) (u : Int), (scan b at_ d i u).2.1 ≤ b.length ∧ ((scan b at_ d i u).2.2 = true → at_ < (scan b at_ d i u).2.1) ∧ ((scan b at_ d i u).2.2 = false → scan b at_ d i u = (0, 0, false)) ∧ -1099511627776 ≤ (scan b at_ d i u).1 ∧ (scan b at_ d i u).1 ≤ 1099511627776 := by
  intro d
  induction d with
  | zero => intro i u; exact ⟨Nat.zero_le _, fun h => by simp [scan] at h, fun _ => rfl, by simp [scan], by simp [scan]⟩
  | succ d ih =>
    intro i u
    rw [scan]
    by_cases c1 : at_ + i < b.length
    · rw [if_pos c1]
      by_cases c2 : L b (at_ + i) ≥ 128
      · rw [if_pos c2]; exact ih _ _
      · rw [if_neg c2]
        unfold tnf
        split
        · exact ⟨Nat.zero_le _, fun h => by simp at h, fun _ => rfl, by simp, by simp⟩
        · rename_i h
          exact ⟨by show at_ + i + 1 ≤ b.length; omega, fun _ => by show at_ < at_ + i + 1; omega, fun h => by simp at h, by show -1099511627776 ≤ zig _; omega, by show zig _ ≤ 1099511627776; omega⟩
    · rw [if_neg c1]
      exact ⟨Nat.zero_le _, fun h => by simp at h, fun _ => rfl, by simp, by simp⟩
theorem tk_at (b : List Int) (at_ : Nat) : (tk b at_).2.1 ≤ b.length ∧ ((tk b at_).2.2 = true → at_ < (tk b at_).2.1) ∧ ((tk b at_).2.2 = false → tk b at_ = (0, 0, false)) ∧ -1099511627776 ≤ (tk b at_).1 ∧ (tk b at_).1 ≤ 1099511627776 := scan_at b at_ 6 0 0
theorem P7_42 {i : Nat} (h : i ≤ 6) : P7 i ≤ 4398046511104 := by
  have := P7_le h
  have e : P7 6 = 4398046511104 := by decide
  omega
theorem take_seg (b : List Int) (at_ i : Nat) (h : at_ + i < b.length) : (b.take (at_ + i + 1)).drop at_ = (b.take (at_ + i)).drop at_ ++ [L b (at_ + i)] := by
  rw [List.take_succ_eq_append_getElem h, List.drop_append_of_le_length (by rw [List.length_take]; omega), L_at _ _ h]
/-- What the rounds hold of a byte. -/
theorem round_of (b : List Int) (hb : Bs b) (at_ i : Nat) (u : Int) (hi : i ≤ 6) (hu : 0 ≤ u) (hu2 : u < P7 i) :
    0 ≤ u + L b (at_ + i) % 128 * P7 i ∧ u + L b (at_ + i) % 128 * P7 i < P7 (i + 1) ∧ u + L b (at_ + i) % 128 * P7 i < 562949953421312 := by
  have hc := hb.L (at_ + i)
  have hp := P7_pos i
  have h42 := P7_42 hi
  have h1 : 0 ≤ L b (at_ + i) % 128 * P7 i := Int.mul_nonneg (by omega) (by omega)
  have h2 : L b (at_ + i) % 128 * P7 i ≤ 127 * P7 i := Int.mul_le_mul_of_nonneg_right (by omega) (by omega)
  have h3 := P7_succ i
  refine ⟨by omega, by omega, by omega⟩
theorem vi_length : ∀ (d : Nat) (u : Int), (vi d u).length ≤ d + 1 := by
  intro d
  induction d with
  | zero => intro u; exact Nat.le_refl _
  | succ d ih =>
    intro u
    unfold vi
    split
    · have := ih (u / 128)
      rw [List.length_cons]
      omega
    · simp
/-- The number that is written for one. -/
def unz (x : Int) : Int := if x < 0 then -2 * x - 1 else 2 * x
theorem unz_zig (u : Int) (h : 0 ≤ u) : unz (zig u) = u := by
  unfold unz zig
  by_cases z : u % 2 = 1
  · rw [if_pos z, if_pos (by omega)]; omega
  · rw [if_neg z, if_neg (by omega)]; omega

theorem itake_end (at_ i : Nat) (hi : i ≤ 6) (hat : at_ ≤ 2000000) (v c : Int) (k fu : Nat) (x : Int) (hx : x = zig v) : impl_takeNumber.j0 k fu (at_ : Int) (i : Int) c x = some ((tnf v c i at_).1, ((tnf v c i at_).2.1 : Int), (tnf v c i at_).2.2) := by
  have ha : wrap64 (wrap64 ((at_ : Int) + (i : Int)) + 1) = ((at_ + i + 1 : Nat) : Int) := by
    rw [wrap_id (x := (at_ : Int) + (i : Int)) (by omega) (by omega), wrap_id (by omega) (by omega)]; rfl
  rw [impl_takeNumber.j0_eq, ha]
  unfold tnf
  rw [← hx]
  by_cases y0 : c = 0
  · rw [if_pos y0]
    by_cases y1 : (i : Int) > 0
    · rw [if_pos y1, if_pos (Or.inl ⟨y0, by omega⟩)]; rfl
    · rw [if_neg y1]
      by_cases y2 : x < (-1099511627776 : Int)
      · rw [if_pos y2, if_pos (Or.inr (Or.inl y2))]; rfl
      · rw [if_neg y2]
        by_cases y3 : x > (1099511627776 : Int)
        · rw [if_pos y3, if_pos (Or.inr (Or.inr y3))]; rfl
        · rw [if_neg y3, if_neg (by omega)]
  · rw [if_neg y0]
    by_cases y2 : x < (-1099511627776 : Int)
    · rw [if_pos y2, if_pos (Or.inr (Or.inl y2))]; rfl
    · rw [if_neg y2]
      by_cases y3 : x > (1099511627776 : Int)
      · rw [if_pos y3, if_pos (Or.inr (Or.inr y3))]; rfl
      · rw [if_neg y3, if_neg (by omega)]
theorem itake_loop (b : List Int) (hb : Bs b) (at_ : Nat) (hlen : b.length ≤ 2000000) (hat : at_ ≤ b.length) (K : Nat) : ∀ (d i k : Nat) (u : Int), i + d = 7 → d + 1 ≤ k → 0 ≤ u → u < P7 i →
    impl_takeNumber.l0 K k b (at_ : Int) u (i : Int) = some ((scan b at_ d i u).1, ((scan b at_ d i u).2.1 : Int), (scan b at_ d i u).2.2) := by
  intro d
  induction d with
  | zero =>
    intro i k u hi hk hu hu2
    obtain ⟨k, rfl⟩ : ∃ m, k = m + 1 := ⟨k - 1, by omega⟩
    rw [impl_takeNumber.l0_eq, if_neg (by omega)]
    rfl
  | succ d ih =>
    intro i k u hi hk hu hu2
    obtain ⟨k, rfl⟩ : ∃ m, k = m + 1 := ⟨k - 1, by omega⟩
    have hw : wrap64 ((at_ : Int) + (i : Int)) = ((at_ + i : Nat) : Int) := by
      rw [wrap_id (by omega) (by omega)]; rfl
    have h7 : wrap64 (7 * (i : Int)) = ((7 * i : Nat) : Int) := by
      rw [wrap_id (by omega) (by omega)]; rfl
    have hc := hb.L (at_ + i)
    have hr := round_of b hb at_ i u (by omega) hu hu2
    rw [impl_takeNumber.l0_eq, if_pos (by omega), hw, h7, rd_L, Int.toNat_natCast]
    rw [scan]
    by_cases c1 : at_ + i < b.length
    · have ho := or_gen (7 * i) (by omega) u (L b (at_ + i) % 128) hu hu2 (by omega) (by omega)
      have hP : (2 : Int) ^ (7 * i) = P7 i := rfl
      rw [hP] at ho
      rw [if_pos c1, if_pos (by omega), if_pos (by omega), if_pos (by omega), if_pos (by omega), if_pos (by omega), wrap_id (x := L b (at_ + i)) (by omega) (by omega), Int.tmod_eq_emod_of_nonneg hc.1, hP, ho.1, ho.2]
      by_cases c2 : L b (at_ + i) ≥ 128
      · rw [if_pos c2, if_pos c2, wrap_next (show i < 7 by omega) (by omega)]
        exact ih (i + 1) k _ (by omega) (by omega) hr.1 hr.2.1
      · rw [if_neg c2, if_neg c2]
        generalize u + L b (at_ + i) % 128 * P7 i = v at hr ⊢
        rw [Int.tmod_eq_emod_of_nonneg hr.1]
        by_cases z : v % 2 = 1
        · rw [if_pos z]
          refine itake_end at_ i (by omega) (by omega) v _ K k _ ?_
          unfold zig
          rw [if_pos z, wrap_id (x := v + 1) (by omega) (by omega), wrap_id (x := 0 - (v + 1)) (by omega) (by omega), show (0 : Int) - (v + 1) = -(v + 1) by omega, Int.neg_tdiv, Int.tdiv_eq_ediv_of_nonneg (by omega), wrap_id (by omega) (by omega)]
        · rw [if_neg z]
          refine itake_end at_ i (by omega) (by omega) v _ K k _ ?_
          unfold zig
          rw [if_neg z, Int.tdiv_eq_ediv_of_nonneg hr.1, wrap_id (by omega) (by omega)]
    · rw [if_neg c1, if_neg (by omega)]
      rfl
theorem itake_f (b : List Int) (hb : Bs b) (at_ : Nat) (hlen : b.length ≤ 2000000) (hat : at_ ≤ b.length) (k : Nat) (hk : 16 ≤ k) : impl_takeNumber.f k b (at_ : Int) = some ((tk b at_).1, ((tk b at_).2.1 : Int), (tk b at_).2.2) := by
  obtain ⟨k, rfl⟩ : ∃ m, k = m + 1 := ⟨k - 1, by omega⟩
  rw [impl_takeNumber.f_eq, if_neg (by omega)]
  have := itake_loop b hb at_ hlen hat k 7 0 k 0 (by omega) (by omega) (by omega) (by decide)
  rw [scan76 b at_ hb 6 0 0 (by omega) (by omega)] at this
  exact this
theorem wrap8 (x : Int) : IntKind.u8.wrap x = x % 256 := rfl
theorem put_loop (K : Nat) : ∀ (d k : Nat) (acc : List Int) (u : Int), 0 ≤ u → u < P7 (d + 1) → u < 4611686018427387904 → acc.length + d ≤ 1000 → d < k → spec_PutNumber.l0 K k u acc = some (acc ++ vi d u) := by
  intro d
  induction d with
  | zero =>
    intro k acc u h0 h1 _ hl hk
    obtain ⟨k, rfl⟩ : ∃ m, k = m + 1 := ⟨k - 1, by omega⟩
    have e : P7 (0 + 1) = 128 := by decide
    rw [spec_PutNumber.l0_eq, if_neg (by omega), if_pos (by omega)]
    rfl
  | succ d ih =>
    intro k acc u h0 h1 h2 hl hk
    obtain ⟨k, rfl⟩ : ∃ m, k = m + 1 := ⟨k - 1, by omega⟩
    rw [spec_PutNumber.l0_eq]
    unfold vi
    by_cases c : u ≥ 128
    · have hd := Int.emod_add_mul_ediv u 128
      have := P7_succ (d + 1)
      rw [if_pos c, if_pos c, if_pos (by omega), Int.tmod_eq_emod_of_nonneg h0, Int.tdiv_eq_ediv_of_nonneg h0, wrap_id (x := 128 + u % 128) (by omega) (by omega), wrap_id (x := u / 128) (by omega) (by omega), ih k _ (u / 128) (by omega) (by omega) (by omega) (by simp; omega) (by omega), List.append_assoc, wrap8]
      rfl
    · rw [if_neg c, if_neg c, if_pos (by omega), wrap8]
theorem in_is (a b c : Int) (k : Nat) (hk : 1 ≤ k) : spec_l01In.f k a b c = some (decide (b ≤ a ∧ a ≤ c)) := by
  obtain ⟨k, rfl⟩ : ∃ m, k = m + 1 := ⟨k - 1, by omega⟩
  rw [spec_l01In.f_eq]
  by_cases h : b ≤ a
  · rw [if_pos h]; simp [h]
  · rw [if_neg h, decide_eq_false (fun g => h g.1)]
theorem put_f (x : Int) (h1 : -1099511627776 ≤ x) (h2 : x ≤ 1099511627776) (k : Nat) (hk : 10 ≤ k) : spec_PutNumber.f k x = some (vi 6 (unz x)) := by
  obtain ⟨k, rfl⟩ : ∃ m, k = m + 1 := ⟨k - 1, by omega⟩
  have e : P7 (6 + 1) = 562949953421312 := by decide
  rw [spec_PutNumber.f_eq, in_is _ _ _ _ (by omega)]
  simp only [bs]
  rw [not_ite, if_pos (decide_eq_true ⟨h1, h2⟩)]
  unfold unz
  by_cases c : x < 0
  · rw [if_pos c, if_pos c, wrap_id (x := -2 * x) (by omega) (by omega), wrap_id (by omega) (by omega), spec_PutNumber.j0_eq, put_loop k 6 k [] (-2 * x - 1) (by omega) (by omega) (by omega) (by decide) (by omega), List.nil_append]
  · rw [if_neg c, if_neg c, wrap_id (x := 2 * x) (by omega) (by omega), spec_PutNumber.j0_eq, put_loop k 6 k [] (2 * x) (by omega) (by omega) (by omega) (by decide) (by omega), List.nil_append]
theorem put_out (x : Int) (h : x < -1099511627776 ∨ x > 1099511627776) (k : Nat) (hk : 2 ≤ k) : spec_PutNumber.f k x = some [] := by
  obtain ⟨k, rfl⟩ : ∃ m, k = m + 1 := ⟨k - 1, by omega⟩
  rw [spec_PutNumber.f_eq, in_is _ _ _ _ (by omega)]
  simp only [bs]
  rw [not_ite, if_neg (by simp; omega)]
theorem same_f (a b : List Int) (hn : a.length ≤ 2000000) (k : Nat) (hk : a.length + 1 < k) : spec_l01Same.f k a b = some (decide (a = b)) := by
  obtain ⟨K, rfl⟩ : ∃ m, k = m + 1 := ⟨k - 1, by omega⟩
  rw [spec_l01Same.f_eq]
  by_cases c : (a.length : Int) = (b.length : Int)
  · rw [if_neg (by omega)]
    have key : ∀ (d k i : Nat), i + d = a.length → d < k → spec_l01Same.l0 K k a b (i : Int) = some (decide (a.drop i = b.drop i)) := by
      intro d
      induction d with
      | zero =>
        intro k i hi hk
        obtain ⟨k, rfl⟩ : ∃ m, k = m + 1 := ⟨k - 1, by omega⟩
        rw [spec_l01Same.l0_eq, if_neg (by omega), List.drop_eq_nil_of_le (by omega), List.drop_eq_nil_of_le (by omega)]
        rfl
      | succ d ih =>
        intro k i hi hk
        obtain ⟨k, rfl⟩ : ∃ m, k = m + 1 := ⟨k - 1, by omega⟩
        rw [spec_l01Same.l0_eq, if_pos (by omega), if_pos (by omega), if_pos (by omega), if_pos (by omega), if_pos (by omega), rd_at a i (by omega), rd_at b i (by omega), drop_cons a i (by omega), drop_cons b i (by omega)]
        by_cases e : a[i] = b[i]
        · rw [if_neg (by simpa using e), wrap_next (show i < a.length by omega) (by omega), ih k (i + 1) (by omega) (by omega)]
          congr 1
          exact decide_eq_decide.mpr ⟨fun h => by rw [e, h], fun h => (List.cons.inj h).2⟩
        · rw [if_pos e, decide_eq_false (fun h => e (List.cons.inj h).1)]
    have := key a.length K 0 (by omega) (by omega)
    simpa using this
  · rw [if_pos c, decide_eq_false (fun h => c (by rw [h]))]
theorem cut_nat (l : List Int) (i j : Nat) : cut l (i : Int) (j : Int) = (l.take j).drop i := by simp [cut]
theorem stake_end (b : List Int) (hb : Bs b) (at_ i : Nat) (hlen : b.length ≤ 2000000) (hi : i ≤ 5) (h : at_ + i < b.length) (hc : L b (at_ + i) < 128) (hs : ∀ a ∈ (b.take (at_ + i)).drop at_, 128 ≤ a ∧ a < 256) (k fu : Nat) (hk : 50 ≤ k) :
    spec_TakeNumber.j0 k fu b (at_ : Int) (i : Int) (zig (val ((b.take (at_ + i + 1)).drop at_))) = some ((tnf (val ((b.take (at_ + i + 1)).drop at_)) (L b (at_ + i)) i at_).1, ((tnf (val ((b.take (at_ + i + 1)).drop at_)) (L b (at_ + i)) i at_).2.1 : Int), (tnf (val ((b.take (at_ + i + 1)).drop at_)) (L b (at_ + i)) i at_).2.2) := by
  have hcc := hb.L (at_ + i)
  have hw : wrap64 (wrap64 ((at_ : Int) + (i : Int)) + 1) = ((at_ + i + 1 : Nat) : Int) := by
    rw [wrap_id (x := (at_ : Int) + (i : Int)) (by omega) (by omega), wrap_id (by omega) (by omega)]; rfl
  have hsl : ((b.take (at_ + i)).drop at_).length = i := by rw [List.length_drop, List.length_take]; omega
  have hvv := vi_val (L b (at_ + i)) ⟨hcc.1, hc⟩ ((b.take (at_ + i)).drop at_) 6 hs (by omega)
  have hv0 := val_nonneg ((b.take (at_ + i + 1)).drop at_)
  have huz := unz_zig _ hv0
  have hne : ((b.take (at_ + i)).drop at_ = [] ↔ i = 0) := by
    rw [← List.length_eq_zero_iff, hsl]
  rw [← take_seg b at_ i h] at hvv
  have hl2 : ((b.take (at_ + i + 1)).drop at_).length = i + 1 := by rw [List.length_drop, List.length_take]; omega
  rw [spec_TakeNumber.j0_eq, hw, cut_nat]
  generalize (b.take (at_ + i + 1)).drop at_ = seg at hvv hv0 huz hl2 ⊢
  unfold tnf
  by_cases g : zig (val seg) < -1099511627776 ∨ zig (val seg) > 1099511627776
  · rw [if_pos (Or.inr g), put_out _ g _ (by omega)]
    simp only [bs]
    rw [if_pos (by omega), if_pos (by omega), if_pos (by omega), same_f _ _ (by simp) k (by simp; omega)]
    simp only [bs]
    rw [not_ite, if_neg]
    · rfl
    · rw [decide_eq_false (fun e => by rw [← e] at hl2; simp at hl2)]
      decide
  · rw [put_f _ (by omega) (by omega) k (by omega), huz]
    simp only [bs]
    have hlv := vi_length 6 (val seg)
    rw [if_pos (by omega), if_pos (by omega), if_pos (by omega), same_f _ _ (by omega) k (by omega)]
    simp only [bs]
    rw [not_ite]
    by_cases y : L b (at_ + i) = 0 ∧ 0 < i
    · rw [if_pos (Or.inl y), if_neg]
      · rfl
      · rw [decide_eq_false]
        · decide
        · intro e
          rcases hvv.1 e with e1 | e1
          · have := hne.1 e1; omega
          · exact e1 y.1
    · have hvs : vi 6 (val seg) = seg := by
        apply hvv.2
        by_cases z : i = 0
        · exact Or.inl (hne.2 z)
        · right
          intro e
          exact y ⟨e, by omega⟩
      rw [decide_eq_true hvs, if_pos rfl, if_neg (fun e => e.elim y g)]
theorem stake_loop (b : List Int) (hb : Bs b) (at_ : Nat) (hlen : b.length ≤ 2000000) (hat : at_ ≤ b.length) (K : Nat) (hK : 50 ≤ K) : ∀ (d i k : Nat), i + d = 6 → at_ + i ≤ b.length → d < k → (∀ a ∈ (b.take (at_ + i)).drop at_, 128 ≤ a ∧ a < 256) →
    spec_TakeNumber.l0 K k b (at_ : Int) (val ((b.take (at_ + i)).drop at_)) (i : Int) = some ((scan b at_ d i (val ((b.take (at_ + i)).drop at_))).1, ((scan b at_ d i (val ((b.take (at_ + i)).drop at_))).2.1 : Int), (scan b at_ d i (val ((b.take (at_ + i)).drop at_))).2.2) := by
  intro d
  induction d with
  | zero =>
    intro i k hi hai hk hs
    obtain ⟨k, rfl⟩ : ∃ m, k = m + 1 := ⟨k - 1, by omega⟩
    rw [spec_TakeNumber.l0_eq, if_neg (by omega)]
    rfl
  | succ d ih =>
    intro i k hi hai hk hs
    obtain ⟨k, rfl⟩ : ∃ m, k = m + 1 := ⟨k - 1, by omega⟩
    have hw : wrap64 ((at_ : Int) + (i : Int)) = ((at_ + i : Nat) : Int) := by
      rw [wrap_id (by omega) (by omega)]; rfl
    have h7 : IntKind.u64.wrap (wrap64 (7 * (i : Int))) = ((7 * i : Nat) : Int) := by
      rw [wrap_id (x := 7 * (i : Int)) (by omega) (by omega)]
      show (7 * (i : Int)) % 18446744073709551616 = _
      omega
    have hwl : wrap64 ((b.length : Int) - (at_ : Int)) = (b.length : Int) - (at_ : Int) := wrap_id (by omega) (by omega)
    have hc := hb.L (at_ + i)
    have hsl : ((b.take (at_ + i)).drop at_).length = i := by rw [List.length_drop, List.length_take]; omega
    have hv0 := val_nonneg ((b.take (at_ + i)).drop at_)
    have hv1 := val_lt ((b.take (at_ + i)).drop at_)
    rw [hsl] at hv1
    have hr := round_of b hb at_ i _ (by omega) hv0 hv1
    rw [spec_TakeNumber.l0_eq, if_pos (by omega), hwl, hw, h7, rd_L, Int.toNat_natCast]
    rw [scan]
    by_cases c1 : at_ + i < b.length
    · have hseg := take_seg b at_ i c1
      have hval : val ((b.take (at_ + i + 1)).drop at_) = val ((b.take (at_ + i)).drop at_) + L b (at_ + i) % 128 * P7 i := by
        rw [hseg, val_snoc, hsl]
      have ho := or_gen (7 * i) (by omega) _ (L b (at_ + i) % 128) hv0 hv1 (by omega) (by omega)
      have hP : (2 : Int) ^ (7 * i) = P7 i := rfl
      rw [hP] at ho
      rw [if_pos c1, if_pos (by omega), if_pos (by omega), if_pos (by omega), if_pos (by omega), if_pos (by omega), wrap_id (x := L b (at_ + i)) (by omega) (by omega), Int.tmod_eq_emod_of_nonneg hc.1, hP, ho.1, ← hval]
      rw [← hval] at hr
      rw [wrap_id (x := val ((b.take (at_ + i + 1)).drop at_)) (by omega) (by omega)]
      by_cases c2 : L b (at_ + i) ≥ 128
      · rw [if_pos c2, if_pos c2, wrap_next (show i < 7 by omega) (by omega)]
        refine ih (i + 1) k (by omega) (by omega) (by omega) ?_
        intro a ha
        rw [show at_ + (i + 1) = at_ + i + 1 from rfl, hseg, List.mem_append, List.mem_singleton] at ha
        rcases ha with ha | rfl
        · exact hs a ha
        · exact ⟨c2, hc.2⟩
      · rw [if_neg c2, if_neg c2]
        have he := stake_end b hb at_ i hlen (by omega) c1 (by omega) hs K k (by omega)
        rw [Int.tmod_eq_emod_of_nonneg hr.1, Int.tdiv_eq_ediv_of_nonneg hr.1]
        have hz : ∀ v : Int, 0 ≤ v → v < 562949953421312 → (v % 2 = 1 → wrap64 (wrap64 (0 - wrap64 (v / 2)) - 1) = zig v) ∧ (¬ v % 2 = 1 → wrap64 (v / 2) = zig v) := by
          intro v h0 h1
          unfold zig
          refine ⟨fun z => ?_, fun z => ?_⟩
          · rw [if_pos z, wrap_id (x := v / 2) (by omega) (by omega), wrap_id (x := 0 - (v / 2)) (by omega) (by omega), wrap_id (by omega) (by omega)]
            omega
          · rw [if_neg z, wrap_id (x := v / 2) (by omega) (by omega)]
        have hz := hz _ hr.1 hr.2.2
        by_cases z : val ((b.take (at_ + i + 1)).drop at_) % 2 = 1
        · rw [if_pos z, hz.1 z, he]
        · rw [if_neg z, hz.2 z, he]
    · rw [if_neg c1, if_neg (by omega)]
      rfl
theorem stake_f (b : List Int) (hb : Bs b) (at_ : Nat) (hlen : b.length ≤ 2000000) (hat : at_ ≤ b.length) (k : Nat) (hk : 80 ≤ k) : spec_TakeNumber.f k b (at_ : Int) = some ((tk b at_).1, ((tk b at_).2.1 : Int), (tk b at_).2.2) := by
  obtain ⟨k, rfl⟩ : ∃ m, k = m + 1 := ⟨k - 1, by omega⟩
  rw [spec_TakeNumber.f_eq, if_neg (by omega)]
  by_cases c : at_ = b.length
  · rw [if_pos (by omega)]
    have e : tk b at_ = (0, 0, false) := by
      unfold tk scan
      rw [if_neg (by omega)]
    rw [e]
    rfl
  · rw [if_neg (by omega)]
    have hd : (b.take (at_ + 0)).drop at_ = [] := by
      apply List.drop_eq_nil_of_le
      rw [List.length_take]
      omega
    have := stake_loop b hb at_ hlen hat k (by omega) 6 0 k (by omega) (by omega) (by omega) (by rw [hd]; intro a ha; cases ha)
    rw [hd] at this
    exact this
end Go.Vm.Pu
namespace Go.Vm.Pu
open Go Go.RowKit Go.Vm
set_option linter.unusedVariables false
set_option linter.unusedSimpArgs false
theorem modulus_is (f : Int) (k : Nat) (hk : 1 ≤ k) : spec_Modulus.f k f = some (md f) := by
  obtain ⟨k, rfl⟩ : ∃ m, k = m + 1 := ⟨k - 1, by omega⟩
  rw [spec_Modulus.f_eq]
  unfold md
  simp only [apply_ite some]
theorem fieldOf_is (f : Int) (k : Nat) (hk : 1 ≤ k) : impl_fieldOf.f k f = some (md f, gn f, tw f, decide (md f ≠ 0)) := by
  obtain ⟨k, rfl⟩ : ∃ m, k = m + 1 := ⟨k - 1, by omega⟩
  rw [impl_fieldOf.f_eq]
  by_cases c : 0 ≤ f ∧ f ≤ 8
  · rcases nine c.1 c.2 with rfl | rfl | rfl | rfl | rfl | rfl | rfl | rfl | rfl <;> rfl
  · obtain ⟨h1, h2, h3⟩ := md_out c
    rw [h1, h2, h3]
    by_cases c0 : f < 0
    · rw [if_pos c0]; rfl
    · rw [if_neg c0, if_pos (by omega)]; rfl
/-- Few numbers that are not too great. -/
def Wd (l : List Int) : Prop := ∀ x ∈ l, -1099511627776 ≤ x ∧ x ≤ 1099511627776
instance (l : List Int) : Decidable (Wd l) := inferInstanceAs (Decidable (∀ x ∈ l, -1099511627776 ≤ x ∧ x ≤ 1099511627776))
def Ww (l : List Int) : Prop := l.length ≤ 400 ∧ Wd l
instance (l : List Int) : Decidable (Ww l) := by unfold Ww; exact inferInstance
theorem Wd_cons {a : Int} {l : List Int} : Wd (a :: l) ↔ (-1099511627776 ≤ a ∧ a ≤ 1099511627776) ∧ Wd l := by
  constructor
  · intro h
    exact ⟨h a List.mem_cons_self, fun x hx => h x (List.mem_cons_of_mem _ hx)⟩
  · rintro ⟨h1, h2⟩ x hx
    rcases List.mem_cons.1 hx with rfl | hx
    · exact h1
    · exact h2 x hx
theorem swords_f (l : List Int) (hn : l.length ≤ 2000000) (k : Nat) (hk : l.length + 2 < k) : spec_l10Words.f k l = some (decide (Ww l)) := by
  obtain ⟨k, rfl⟩ : ∃ m, k = m + 1 := ⟨k - 1, by omega⟩
  rw [spec_l10Words.f_eq]
  by_cases c : (l.length : Int) > 400
  · rw [if_pos c, decide_eq_false (fun h => by have := h.1; omega)]
  · rw [if_neg c]
    have := loop_list (fun fu (_ : Unit) i => spec_l10Words.l0 k fu l i) l 0 (fun _ _ => True) (fun r _ => decide (Wd r)) (by
      intro fu s _ _
      simp only [spec_l10Words.l0_eq]
      rw [if_neg (by omega), decide_eq_true (show Wd [] from fun x hx => by cases hx)]) (by
      intro fu i s h _ _
      simp only [spec_l10Words.l0_eq]
      rw [if_pos (by omega), if_pos (by omega), if_pos (by omega), rd_at l i h, in_is _ _ _ _ (by omega)]
      simp only [bs, not_ite]
      by_cases c : -1099511627776 ≤ l[i] ∧ l[i] ≤ 1099511627776
      · left
        refine ⟨(), ?_, trivial, ?_⟩
        · rw [if_pos (decide_eq_true c), wrap_next h (by omega)]
        · rw [decide_eq_decide, Wd_cons]
          exact ⟨fun h => h.2, fun h => ⟨c, h⟩⟩
      · right
        rw [if_neg (by simpa using c), decide_eq_false (fun h => c (Wd_cons.1 h).1)]) k () (by omega) trivial
    rw [this]
    congr 1
    rw [decide_eq_decide]
    exact ⟨fun h => ⟨by omega, h⟩, fun h => h.2⟩
theorem iwords_f (l : List Int) (hn : l.length ≤ 2000000) (k : Nat) (hk : l.length + 2 < k) : impl_areWords.f k l = some (decide (Ww l)) := by
  obtain ⟨k, rfl⟩ : ∃ m, k = m + 1 := ⟨k - 1, by omega⟩
  rw [impl_areWords.f_eq]
  have := loop_list (fun fu (_ : Unit) i => impl_areWords.l0 k fu l l (l.length : Int) i) l 0 (fun _ _ => True) (fun r _ => decide (l.length ≤ 400 ∧ Wd r)) (by
    intro fu s _ _
    simp only [impl_areWords.l0_eq]
    rw [if_neg (by omega)]
    congr 1
    rw [decide_eq_decide]
    exact ⟨fun h => ⟨by omega, fun x hx => by cases hx⟩, fun h => by have := h.1; omega⟩) (by
    intro fu i s h _ _
    simp only [impl_areWords.l0_eq]
    rw [if_pos (by omega), if_pos (by omega), if_pos (by omega), rd_at l i h]
    by_cases c1 : l[i] < -1099511627776
    · right
      rw [if_pos c1, decide_eq_false (fun h => by have := (Wd_cons.1 h.2).1; omega)]
    · rw [if_neg c1]
      by_cases c2 : l[i] > 1099511627776
      · right
        rw [if_pos c2, decide_eq_false (fun h => by have := (Wd_cons.1 h.2).1; omega)]
      · left
        refine ⟨(), ?_, trivial, ?_⟩
        · rw [if_neg c2, wrap_next h (by omega)]
        · rw [decide_eq_decide, Wd_cons]
          exact ⟨fun h => ⟨h.1, h.2.2⟩, fun h => ⟨h.1, ⟨by omega, by omega⟩, h.2⟩⟩) k () (by omega) trivial
  exact this
def uB (a : Int) : Prop := a ≠ 1 ∧ a ≠ 2 ∧ a ≠ 7
instance (a : Int) : Decidable (uB a) := by unfold uB; exact inferInstance
/-- A valid job. -/
def JobP (a f : Int) (A B : List Int) (n : Int) : Prop := (1 ≤ a ∧ a ≤ 11) ∧ md f ≠ 0 ∧ (a = 6 → f = 0) ∧ Ww A ∧ Ww B ∧ (0 ≤ n ∧ n ≤ 400) ∧ (uB a ∨ B.length = 0) ∧ (a = 11 ∨ n = 0)
instance (a f : Int) (A B : List Int) (n : Int) : Decidable (JobP a f A B n) := by unfold JobP; exact inferInstance
theorem has_is (l : List Int) (a : Int) (hn : l.length ≤ 2000000) (k : Nat) (hk : l.length + 1 < k) : spec_l01Has.f k l a = some (decide (a ∈ l)) := by
  obtain ⟨k, rfl⟩ : ∃ m, k = m + 1 := ⟨k - 1, by omega⟩
  rw [spec_l01Has.f_eq]
  exact loop_list (fun fu (_ : Unit) i => spec_l01Has.l0 k fu l a i) l 0 (fun _ _ => True) (fun r _ => decide (a ∈ r)) (by
    intro fu s _ _
    simp only [spec_l01Has.l0_eq]
    rw [if_neg (by omega)]
    simp) (by
    intro fu i s h _ _
    simp only [spec_l01Has.l0_eq]
    rw [if_pos (by omega), if_pos (by omega), if_pos (by omega), rd_at l i h]
    by_cases c : l[i] = a
    · right
      rw [if_pos c]
      simp [c]
    · left
      refine ⟨(), ?_, trivial, ?_⟩
      · rw [if_neg c, wrap_next h (by omega)]
      · have c' : ¬ a = l[i] := fun e => c e.symm
        rw [decide_eq_decide, List.mem_cons]
        exact ⟨fun h => h.resolve_left c', Or.inr⟩) k () (by omega) trivial
theorem susesB_f (a : Int) (ha : 1 ≤ a ∧ a ≤ 11) (k : Nat) (hk : 11 < k) : spec_l10UsesB.f k a = some (decide (uB a)) := by
  obtain ⟨k, rfl⟩ : ∃ m, k = m + 1 := ⟨k - 1, by omega⟩
  rw [spec_l10UsesB.f_eq, has_is ([3, 4, 5, 6, 8, 9, 10, 11] : List Int) a (by decide) k (by simp; omega)]
  simp only [bs]
  congr 1
  rw [decide_eq_decide]
  unfold uB
  simp only [List.mem_cons, List.not_mem_nil, or_false]
  omega
theorem iusesB_f (a : Int) (k : Nat) (hk : 1 ≤ k) : impl_usesB.f k a = some (decide (uB a)) := by
  obtain ⟨k, rfl⟩ : ∃ m, k = m + 1 := ⟨k - 1, by omega⟩
  rw [impl_usesB.f_eq]
  by_cases c1 : a = 1
  · rw [if_neg (by omega), decide_eq_false (fun h => h.1 c1)]
  · rw [if_pos c1]
    by_cases c2 : a = 2
    · rw [if_neg (by omega), decide_eq_false (fun h => h.2.1 c2)]
    · rw [if_pos c2]
      congr 1
      rw [decide_eq_decide]
      exact ⟨fun h => ⟨c1, c2, h⟩, fun h => h.2.2⟩
theorem tail_job (a n : Int) : (if a = 11 then some true else some (decide (n = 0))) = some (decide (a = 11 ∨ n = 0)) := by
  by_cases c : a = 11
  · rw [if_pos c, decide_eq_true (Or.inl c)]
  · rw [if_neg c]
    congr 1
    rw [decide_eq_decide]
    exact ⟨Or.inr, fun h => h.resolve_left c⟩
theorem sjobOk_f (a f : Int) (A B : List Int) (n : Int) (hA : A.length ≤ 2000000) (hB : B.length ≤ 2000000) (k : Nat) (hk : A.length + B.length + 30 < k) : spec_JobOk.f k a f A B n = some (decide (JobP a f A B n)) := by
  obtain ⟨k, rfl⟩ : ∃ m, k = m + 1 := ⟨k - 1, by omega⟩
  have bad : ¬ ((1 ≤ a ∧ a ≤ 11) ∧ md f ≠ 0 ∧ (a = 6 → f = 0)) → some false = some (decide (JobP a f A B n)) := fun h => by rw [decide_eq_false (fun g => h ⟨g.1, g.2.1, g.2.2.1⟩)]
  have good : (1 ≤ a ∧ a ≤ 11) ∧ md f ≠ 0 ∧ (a = 6 → f = 0) → spec_JobOk.j0 k a f A B n = some (decide (JobP a f A B n)) := by
    intro h
    rw [spec_JobOk.j0_eq, swords_f A hA k (by omega)]
    simp only [bs, not_ite]
    by_cases wA : Ww A
    · rw [if_pos (decide_eq_true wA), swords_f B hB k (by omega)]
      simp only [bs, not_ite]
      by_cases wB : Ww B
      · rw [if_pos (decide_eq_true wB), in_is _ _ _ _ (by omega)]
        simp only [bs, not_ite]
        by_cases wn : 0 ≤ n ∧ n ≤ 400
        · rw [if_pos (decide_eq_true wn), susesB_f a h.1 k (by omega)]
          simp only [bs, tail_job]
          by_cases u : uB a
          · rw [if_pos (decide_eq_true u)]
            congr 1
            rw [decide_eq_decide]
            exact ⟨fun g => ⟨h.1, h.2.1, h.2.2, wA, wB, wn, Or.inl u, g⟩, fun g => g.2.2.2.2.2.2.2⟩
          · rw [if_neg (by simpa using u)]
            by_cases z : (B.length : Int) = 0
            · rw [if_pos z]
              congr 1
              rw [decide_eq_decide]
              exact ⟨fun g => ⟨h.1, h.2.1, h.2.2, wA, wB, wn, Or.inr (by omega), g⟩, fun g => g.2.2.2.2.2.2.2⟩
            · rw [if_neg z, decide_eq_false (fun g => g.2.2.2.2.2.2.1.elim u (fun e => z (by omega)))]
        · rw [if_neg (by simpa using wn), decide_eq_false (fun g => wn g.2.2.2.2.2.1)]
      · rw [if_neg (by simpa using wB), decide_eq_false (fun g => wB g.2.2.2.2.1)]
    · rw [if_neg (by simpa using wA), decide_eq_false (fun g => wA g.2.2.2.1)]
  rw [spec_JobOk.f_eq, in_is _ _ _ _ (by omega)]
  simp only [bs, not_ite]
  by_cases h1 : 1 ≤ a ∧ a ≤ 11
  · rw [if_pos (decide_eq_true h1), modulus_is _ _ (by omega)]
    simp only [bs]
    by_cases h2 : md f = 0
    · rw [if_pos h2, bad (fun g => g.2.1 h2)]
    · rw [if_neg h2]
      by_cases h3 : a = 6
      · rw [if_pos h3]
        by_cases h4 : f = 0
        · rw [if_neg (by simpa using h4), good ⟨h1, h2, fun _ => h4⟩]
        · rw [if_pos h4, bad (fun g => h4 (g.2.2 h3))]
      · rw [if_neg h3, good ⟨h1, h2, fun e => absurd e h3⟩]
  · rw [if_neg (by simpa using h1), bad (fun g => h1 g.1)]
theorem ijobOk_f (a f : Int) (A B : List Int) (n : Int) (hA : A.length ≤ 2000000) (hB : B.length ≤ 2000000) (k : Nat) (hk : A.length + B.length + 30 < k) : impl_isJob.f k a f A B n = some (decide (JobP a f A B n)) := by
  obtain ⟨k, rfl⟩ : ∃ m, k = m + 1 := ⟨k - 1, by omega⟩
  have bad : ¬ ((1 ≤ a ∧ a ≤ 11) ∧ md f ≠ 0 ∧ (a = 6 → f = 0)) → some false = some (decide (JobP a f A B n)) := fun h => by rw [decide_eq_false (fun g => h ⟨g.1, g.2.1, g.2.2.1⟩)]
  have good : (1 ≤ a ∧ a ≤ 11) ∧ md f ≠ 0 ∧ (a = 6 → f = 0) → impl_isJob.j0 k a f A B n = some (decide (JobP a f A B n)) := by
    intro h
    rw [impl_isJob.j0_eq, iwords_f A hA k (by omega)]
    simp only [bs, not_ite]
    by_cases wA : Ww A
    · rw [if_pos (decide_eq_true wA), iwords_f B hB k (by omega)]
      simp only [bs, not_ite]
      by_cases wB : Ww B
      · rw [if_pos (decide_eq_true wB)]
        by_cases n1 : n < 0
        · rw [if_pos n1, decide_eq_false (fun g => by have := g.2.2.2.2.2.1; omega)]
        · rw [if_neg n1]
          by_cases n2 : n > 400
          · rw [if_pos n2, decide_eq_false (fun g => by have := g.2.2.2.2.2.1; omega)]
          · have wn : 0 ≤ n ∧ n ≤ 400 := by omega
            rw [if_neg n2, iusesB_f a k (by omega)]
            simp only [bs, tail_job]
            by_cases u : uB a
            · rw [if_pos (decide_eq_true u)]
              congr 1
              rw [decide_eq_decide]
              exact ⟨fun g => ⟨h.1, h.2.1, h.2.2, wA, wB, wn, Or.inl u, g⟩, fun g => g.2.2.2.2.2.2.2⟩
            · rw [if_neg (by simpa using u)]
              by_cases z : (B.length : Int) = 0
              · rw [if_pos z]
                congr 1
                rw [decide_eq_decide]
                exact ⟨fun g => ⟨h.1, h.2.1, h.2.2, wA, wB, wn, Or.inr (by omega), g⟩, fun g => g.2.2.2.2.2.2.2⟩
              · rw [if_neg z, decide_eq_false (fun g => g.2.2.2.2.2.2.1.elim u (fun e => z (by omega)))]
      · rw [if_neg (by simpa using wB), decide_eq_false (fun g => wB g.2.2.2.2.1)]
    · rw [if_neg (by simpa using wA), decide_eq_false (fun g => wA g.2.2.2.1)]
  rw [impl_isJob.f_eq, fieldOf_is _ _ (by omega)]
  simp only [bs, not_ite]
  by_cases h2 : md f = 0
  · rw [if_neg (by simpa using h2), bad (fun g => g.2.1 h2)]
  · rw [if_pos (decide_eq_true h2)]
    by_cases h1 : a < 1
    · rw [if_pos h1, bad (fun g => by omega)]
    · rw [if_neg h1]
      by_cases h1' : a > 11
      · rw [if_pos h1', bad (fun g => by omega)]
      · rw [if_neg h1']
        by_cases h3 : a = 6
        · rw [if_pos h3]
          by_cases h4 : f = 0
          · rw [if_neg (by simpa using h4), good ⟨⟨by omega, by omega⟩, h2, fun _ => h4⟩]
          · rw [if_pos h4, bad (fun g => h4 (g.2.2 h3))]
        · rw [if_neg h3, good ⟨⟨by omega, by omega⟩, h2, fun e => absurd e h3⟩]
end Go.Vm.Pu
namespace Go.Vm.Pu
open Go Go.RowKit Go.Vm
set_option linter.unusedVariables false
set_option linter.unusedSimpArgs false
/-- So many numbers, one behind the other. -/
def items (b : List Int) : Nat → Nat → List Int → List Int × Nat × Bool
  | 0, at_, acc => (acc, at_, true)
  | n + 1, at_, acc => if (tk b at_).2.2 = true then items b n (tk b at_).2.1 (acc ++ [(tk b at_).1]) else ([], 0, false)
/-- A list: its length ahead. -/
def tl (b : List Int) (at_ : Nat) : List Int × Nat × Bool := if (tk b at_).2.2 = true ∧ 0 ≤ (tk b at_).1 ∧ (tk b at_).1 ≤ 400 then items b (tk b at_).1.toNat (tk b at_).2.1 [] else ([], 0, false)
theorem items_at (b : List Int) : ∀ (n at_ : Nat) (acc : List Int), at_ ≤ b.length → (items b n at_ acc).2.1 ≤ b.length ∧ (items b n at_ acc).1.length ≤ acc.length + n ∧ ((items b n at_ acc).2.2 = false → items b n at_ acc = ([], 0, false)) := by
  intro n
  induction n with
  | zero => intro at_ acc h; exact ⟨h, Nat.le_refl _, fun h => by simp [items] at h⟩
  | succ n ih =>
    intro at_ acc h
    unfold items
    by_cases c : (tk b at_).2.2 = true
    · rw [if_pos c]
      have := ih (tk b at_).2.1 (acc ++ [(tk b at_).1]) (tk_at b at_).1
      refine ⟨this.1, ?_, this.2.2⟩
      have h2 := this.2.1
      rw [List.length_append, List.length_singleton] at h2
      omega
    · rw [if_neg c]
      exact ⟨Nat.zero_le _, by simp, fun _ => rfl⟩
theorem tl_at (b : List Int) (at_ : Nat) : (tl b at_).2.1 ≤ b.length ∧ (tl b at_).1.length ≤ 400 ∧ ((tl b at_).2.2 = false → tl b at_ = ([], 0, false)) := by
  unfold tl
  by_cases c : (tk b at_).2.2 = true ∧ 0 ≤ (tk b at_).1 ∧ (tk b at_).1 ≤ 400
  · rw [if_pos c]
    have := items_at b (tk b at_).1.toNat (tk b at_).2.1 [] (tk_at b at_).1
    refine ⟨this.1, ?_, this.2.2⟩
    have h2 := this.2.1
    simp only [List.length_nil] at h2
    omega
  · rw [if_neg c]
    exact ⟨Nat.zero_le _, by simp, fun _ => rfl⟩
theorem stl_loop (b : List Int) (hb : Bs b) (hlen : b.length ≤ 2000000) (n : Nat) (hn : n ≤ 400) (K : Nat) (hK : 80 ≤ K) : ∀ (d i at_ k : Nat) (acc : List Int), i + d = n → at_ ≤ b.length → acc.length + d ≤ 1000 → d < k →
    spec_l10TakeList.l0 K k b (at_ : Int) (n : Int) (i : Int) acc = some (((items b d at_ acc).2.1 : Int), (items b d at_ acc).2.2, (items b d at_ acc).1) := by
  intro d
  induction d with
  | zero =>
    intro i at_ k acc hi hat hacc hk
    obtain ⟨k, rfl⟩ : ∃ m, k = m + 1 := ⟨k - 1, by omega⟩
    rw [spec_l10TakeList.l0_eq, if_neg (by omega)]
    rfl
  | succ d ih =>
    intro i at_ k acc hi hat hacc hk
    obtain ⟨k, rfl⟩ : ∃ m, k = m + 1 := ⟨k - 1, by omega⟩
    rw [spec_l10TakeList.l0_eq, if_pos (by omega), stake_f b hb at_ hlen hat K (by omega)]
    simp only [bs, not_ite]
    rw [items]
    by_cases c : (tk b at_).2.2 = true
    · rw [if_pos c, if_pos c, if_pos (by omega), wrap_next (show i < n by omega) (by omega)]
      exact ih (i + 1) _ k _ (by omega) (tk_at b at_).1 (by simp; omega) (by omega)
    · rw [if_neg c, if_neg c]
      rfl
theorem stl_f (b : List Int) (hb : Bs b) (hlen : b.length ≤ 2000000) (at_ : Nat) (hat : at_ ≤ b.length) (k : Nat) (hk : 600 ≤ k) : spec_l10TakeList.f k b (at_ : Int) = some (((tl b at_).2.1 : Int), (tl b at_).2.2, (tl b at_).1) := by
  obtain ⟨k, rfl⟩ : ∃ m, k = m + 1 := ⟨k - 1, by omega⟩
  rw [spec_l10TakeList.f_eq, stake_f b hb at_ hlen hat k (by omega)]
  simp only [bs, not_ite]
  unfold tl
  by_cases c : (tk b at_).2.2 = true
  · rw [if_pos c, in_is _ _ _ _ (by omega)]
    simp only [bs, not_ite]
    by_cases d : 0 ≤ (tk b at_).1 ∧ (tk b at_).1 ≤ 400
    · rw [if_pos (decide_eq_true d), if_pos ⟨c, d⟩]
      have := stl_loop b hb hlen (tk b at_).1.toNat (by omega) k (by omega) (tk b at_).1.toNat 0 (tk b at_).2.1 k [] (by omega) (tk_at b at_).1 (by simp; omega) (by omega)
      rw [Int.toNat_of_nonneg d.1] at this
      exact this
    · rw [if_neg (by simpa using d), if_neg (fun h => d h.2)]
      rfl
  · rw [if_neg c, if_neg (fun h => c h.1)]
    rfl
def badJob : Int × Int × List Int × List Int × Int × Bool := (0, 0, [], [], 0, false)
/-- What both decode. -/
def djEnd (b : List Int) (f0 f1 : Int) (A : List Int) (f4 : Int) (B : List Int × Nat × Bool) : Int × Int × List Int × List Int × Int × Bool :=
  if B.2.2 = true ∧ B.2.1 = b.length ∧ JobP f0 f1 A B.1 f4 then (f0, f1, A, B.1, f4, true) else badJob
def djA (b : List Int) (f0 f1 f4 : Int) (A : List Int × Nat × Bool) : Int × Int × List Int × List Int × Int × Bool :=
  if A.2.2 = true then djEnd b f0 f1 A.1 f4 (tl b A.2.1) else badJob
def dj (b : List Int) : Int × Int × List Int × List Int × Int × Bool :=
  if b.length < 2 then badJob else (if (tk b 2).2.2 = true then djA b (L b 0) (L b 1) (tk b 2).1 (tl b (tk b 2).2.1) else badJob)
/-- The order in which the program hands it on. -/
def jv (x : Int × Int × List Int × List Int × Int × Bool) : Int × Int × Int × Bool × List Int × List Int := (x.1, x.2.1, x.2.2.2.2.1, x.2.2.2.2.2, x.2.2.1, x.2.2.2.1)
theorem sdecode_f (b : List Int) (hb : Bs b) (hlen : b.length ≤ 2000000) (k : Nat) (hk : 2000 ≤ k) : spec_DecodeJob.f k b = some (jv (dj b)) := by
  have b0 := hb.L 0
  have b1 := hb.L 1
  obtain ⟨k, rfl⟩ : ∃ m, k = m + 1 := ⟨k - 1, by omega⟩
  rw [spec_DecodeJob.f_eq]
  unfold dj
  by_cases c : (b.length : Int) < 2
  · rw [if_pos c, if_pos (by omega)]
    rfl
  · have s2 := stake_f b hb 2 hlen (by omega) k (by omega)
    have r0 : rdI b 0 = L b 0 := rd_L b 0
    have r1 : rdI b 1 = L b 1 := rd_L b 1
    rw [show ((2 : Nat) : Int) = 2 from rfl] at s2
    rw [if_neg c, if_pos (by omega), if_pos (by omega), s2, if_neg (by omega)]
    simp only [bs, not_ite]
    rw [r0, r1, wrap_id (x := L b 0) (by omega) (by omega), wrap_id (x := L b 1) (by omega) (by omega)]
    by_cases h1 : (tk b 2).2.2 = true
    · rw [if_pos h1, if_pos h1, stl_f b hb hlen _ (tk_at b 2).1 k (by omega)]
      simp only [bs]
      have tA := tl_at b (tk b 2).2.1
      generalize tl b (tk b 2).2.1 = A at tA ⊢
      unfold djA
      by_cases h2 : A.2.2 = true
      · rw [if_pos h2, if_pos h2, stl_f b hb hlen _ tA.1 k (by omega)]
        simp only [bs]
        have tB := tl_at b A.2.1
        generalize tl b A.2.1 = B at tB ⊢
        unfold djEnd
        by_cases h3 : B.2.2 = true
        · rw [if_pos h3]
          by_cases h4 : (B.2.1 : Int) = (b.length : Int)
          · rw [if_neg (by simpa using h4), sjobOk_f _ _ _ _ _ (by omega) (by omega) k (by omega)]
            simp only [bs]
            by_cases h5 : JobP (L b 0) (L b 1) A.1 B.1 (tk b 2).1
            · rw [if_pos (decide_eq_true h5), if_pos ⟨h3, by omega, h5⟩]
              rfl
            · rw [if_neg (by simpa using h5), if_neg (fun h => h5 h.2.2)]
              rfl
          · rw [if_pos h4, if_neg (fun h => h4 (by omega))]
            rfl
        · rw [if_neg h3, if_neg (fun h => h3 h.1)]
          rfl
      · rw [if_neg h2, if_neg h2]
        rfl
    · rw [if_neg h1, if_neg h1]
      rfl
theorem ij0_f (b : List Int) (hlen : b.length ≤ 2000000) (at_ : Nat) (f0 f1 : Int) (A B : List Int) (f4 : Int) (hA : A.length ≤ 500) (hB : B.length ≤ 500) (k : Nat) (hk : 1100 ≤ k) (x y z : Int) :
    impl_DecodeJob.j0 k b (at_ : Int) x y z f0 f1 f4 A B = some (jv (djEnd b f0 f1 A f4 (B, at_, true))) := by
  rw [impl_DecodeJob.j0_eq]
  unfold djEnd
  by_cases d : (at_ : Int) = (b.length : Int)
  · rw [if_neg (by simpa using d), ijobOk_f _ _ _ _ _ (by omega) (by omega) k (by omega)]
    simp only [bs, not_ite]
    by_cases e : JobP f0 f1 A B f4
    · rw [if_pos (decide_eq_true e), if_pos ⟨trivial, by omega, e⟩]
      rfl
    · rw [if_neg (by simpa using e), if_neg (fun h => e h.2.2)]
      rfl
  · rw [if_pos d, if_neg (fun h => d (by have h2 := h.2.1; simp only at h2; omega))]
    rfl
theorem il1_no (b : List Int) (at_ m i : Int) (f0 f1 : Int) (A B : List Int) (f4 : Int) (K k : Nat) (hk : 1 ≤ k) : impl_DecodeJob.l1 K k b at_ false m i f0 f1 f4 A B = some (jv badJob) := by
  obtain ⟨k, rfl⟩ : ∃ m, k = m + 1 := ⟨k - 1, by omega⟩
  rw [impl_DecodeJob.l1_eq]
  rfl
theorem il0_no (b : List Int) (at_ m i : Int) (f0 f1 : Int) (A : List Int) (f4 : Int) (K k : Nat) (hk : 1 ≤ k) : impl_DecodeJob.l0 K k b at_ false m i f0 f1 f4 A = some (jv badJob) := by
  obtain ⟨k, rfl⟩ : ∃ m, k = m + 1 := ⟨k - 1, by omega⟩
  rw [impl_DecodeJob.l0_eq, if_neg (by decide), if_pos (by decide)]
  rfl
theorem il1_f (b : List Int) (hb : Bs b) (hlen : b.length ≤ 2000000) (f0 f1 : Int) (A : List Int) (f4 : Int) (hA : A.length ≤ 500) (n : Nat) (hn : n ≤ 400) (K : Nat) (hK : 1100 ≤ K) : ∀ (d i at_ k : Nat) (B : List Int), i + d = n → at_ ≤ b.length → B.length + d ≤ 500 → d + 1 < k →
    impl_DecodeJob.l1 K k b (at_ : Int) true (n : Int) (i : Int) f0 f1 f4 A B = some (jv (djEnd b f0 f1 A f4 (items b d at_ B))) := by
  intro d
  induction d with
  | zero =>
    intro i at_ k B hi hat hB hk
    obtain ⟨k, rfl⟩ : ∃ m, k = m + 1 := ⟨k - 1, by omega⟩
    rw [impl_DecodeJob.l1_eq, if_pos rfl, if_neg (by omega), if_neg (by decide), ij0_f b hlen at_ f0 f1 A B f4 hA (by omega) K (by omega)]
    rfl
  | succ d ih =>
    intro i at_ k B hi hat hB hk
    obtain ⟨k, rfl⟩ : ∃ m, k = m + 1 := ⟨k - 1, by omega⟩
    rw [impl_DecodeJob.l1_eq, if_pos rfl, if_pos (by omega), itake_f b hb at_ hlen hat K (by omega)]
    simp only [bs]
    rw [if_pos (by omega), items]
    by_cases c : (tk b at_).2.2 = true
    · rw [c, if_pos rfl, wrap_next (show i < n by omega) (by omega)]
      exact ih (i + 1) _ k _ (by omega) (tk_at b at_).1 (by simp; omega) (by omega)
    · rw [if_neg c, show (tk b at_).2.2 = false by simpa using c, il1_no _ _ _ _ _ _ _ _ _ _ k (by omega)]
      unfold djEnd
      rw [if_neg (fun h => by simp at h)]
theorem ij2_f (b : List Int) (hb : Bs b) (hlen : b.length ≤ 2000000) (at_ : Nat) (hat : at_ ≤ b.length) (f0 f1 : Int) (A : List Int) (f4 : Int) (hA : A.length ≤ 500) (k : Nat) (hk : 2000 ≤ k) :
    (impl_takeNumber.f k b (at_ : Int)).bind (fun r2 => (if r2.2.2 = true then (if (r2.1 ≥ 0) then impl_DecodeJob.j2 k b r2.2.1 (decide (r2.1 ≤ 400)) r2.1 f0 f1 f4 A else impl_DecodeJob.j2 k b r2.2.1 false r2.1 f0 f1 f4 A) else impl_DecodeJob.j2 k b r2.2.1 false r2.1 f0 f1 f4 A)) = some (jv (djEnd b f0 f1 A f4 (tl b at_))) := by
  rw [itake_f b hb at_ hlen hat k (by omega)]
  simp only [bs, impl_DecodeJob.j2_eq]
  have no : ¬ ((tk b at_).2.2 = true ∧ 0 ≤ (tk b at_).1 ∧ (tk b at_).1 ≤ 400) → some (jv badJob) = some (jv (djEnd b f0 f1 A f4 (tl b at_))) := by
    intro h
    unfold tl
    rw [if_neg h]
    unfold djEnd
    rw [if_neg (fun h => by simp at h)]
  by_cases c : (tk b at_).2.2 = true
  · rw [if_pos c]
    by_cases d : (tk b at_).1 ≥ 0
    · rw [if_pos d]
      by_cases e : (tk b at_).1 ≤ 400
      · rw [decide_eq_true e]
        have := il1_f b hb hlen f0 f1 A f4 hA (tk b at_).1.toNat (by omega) k (by omega) (tk b at_).1.toNat 0 (tk b at_).2.1 k [] (by omega) (tk_at b at_).1 (by simp; omega) (by omega)
        rw [Int.toNat_of_nonneg d] at this
        rw [show ((0 : Nat) : Int) = 0 from rfl] at this
        rw [this]
        unfold tl
        rw [if_pos ⟨c, d, e⟩]
      · rw [decide_eq_false e, il1_no _ _ _ _ _ _ _ _ _ _ k (by omega)]
        exact no (fun h => e h.2.2)
    · rw [if_neg d, il1_no _ _ _ _ _ _ _ _ _ _ k (by omega)]
      exact no (fun h => d h.2.1)
  · rw [if_neg c, il1_no _ _ _ _ _ _ _ _ _ _ k (by omega)]
    exact no (fun h => c h.1)
theorem il0_f (b : List Int) (hb : Bs b) (hlen : b.length ≤ 2000000) (f0 f1 : Int) (f4 : Int) (n : Nat) (hn : n ≤ 400) (K : Nat) (hK : 2000 ≤ K) : ∀ (d i at_ k : Nat) (A : List Int), i + d = n → at_ ≤ b.length → A.length + d ≤ 500 → d + 1 < k →
    impl_DecodeJob.l0 K k b (at_ : Int) true (n : Int) (i : Int) f0 f1 f4 A = some (jv (djA b f0 f1 f4 (items b d at_ A))) := by
  intro d
  induction d with
  | zero =>
    intro i at_ k A hi hat hA hk
    obtain ⟨k, rfl⟩ : ∃ m, k = m + 1 := ⟨k - 1, by omega⟩
    rw [impl_DecodeJob.l0_eq, if_pos rfl, if_neg (by omega), if_neg (by decide)]
    simp only [if_true]
    exact ij2_f b hb hlen at_ hat f0 f1 A f4 (by omega) K (by omega)
  | succ d ih =>
    intro i at_ k A hi hat hA hk
    obtain ⟨k, rfl⟩ : ∃ m, k = m + 1 := ⟨k - 1, by omega⟩
    rw [impl_DecodeJob.l0_eq, if_pos rfl, if_pos (by omega), itake_f b hb at_ hlen hat K (by omega)]
    simp only [bs]
    rw [if_pos (by omega), items]
    by_cases c : (tk b at_).2.2 = true
    · rw [c, if_pos rfl, wrap_next (show i < n by omega) (by omega)]
      exact ih (i + 1) _ k _ (by omega) (tk_at b at_).1 (by simp; omega) (by omega)
    · rw [if_neg c, show (tk b at_).2.2 = false by simpa using c, il0_no _ _ _ _ _ _ _ _ _ k (by omega)]
      unfold djA
      rw [if_neg (fun h => by simp at h)]
theorem idecode_f (b : List Int) (hb : Bs b) (hlen : b.length ≤ 2000000) (k : Nat) (hk : 3000 ≤ k) : impl_DecodeJob.f k b = some (jv (dj b)) := by
  obtain ⟨k, rfl⟩ : ∃ m, k = m + 1 := ⟨k - 1, by omega⟩
  have b0 := hb.L 0
  have b1 := hb.L 1
  rw [impl_DecodeJob.f_eq]
  unfold dj
  by_cases c : (b.length : Int) < 2
  · rw [if_pos c, if_pos (by omega)]
    rfl
  · have s2 := itake_f b hb 2 hlen (by omega) k (by omega)
    have r0 : rdI b 0 = L b 0 := rd_L b 0
    have r1 : rdI b 1 = L b 1 := rd_L b 1
    rw [show ((2 : Nat) : Int) = 2 from rfl] at s2
    rw [if_neg c, if_pos (by omega), if_pos (by omega), s2, if_neg (by omega)]
    simp only [bs]
    rw [itake_f b hb _ hlen (tk_at b 2).1 k (by omega)]
    simp only [bs]
    rw [r0, r1, wrap_id (x := L b 0) (by omega) (by omega), wrap_id (x := L b 1) (by omega) (by omega)]
    simp only [impl_DecodeJob.j1_eq]
    have noA : ¬ ((tk b (tk b 2).2.1).2.2 = true ∧ 0 ≤ (tk b (tk b 2).2.1).1 ∧ (tk b (tk b 2).2.1).1 ≤ 400) → djA b (L b 0) (L b 1) (tk b 2).1 (tl b (tk b 2).2.1) = badJob := by
      intro h
      unfold tl
      rw [if_neg h]
      unfold djA
      rw [if_neg (fun h => by simp at h)]
    by_cases h1 : (tk b 2).2.2 = true
    · rw [if_pos h1, if_pos h1]
      by_cases h2 : (tk b (tk b 2).2.1).2.2 = true
      · rw [if_pos h2]
        by_cases h3 : (tk b (tk b 2).2.1).1 ≥ 0
        · rw [if_pos h3]
          by_cases h4 : (tk b (tk b 2).2.1).1 ≤ 400
          · rw [decide_eq_true h4]
            have := il0_f b hb hlen (L b 0) (L b 1) (tk b 2).1 (tk b (tk b 2).2.1).1.toNat (by omega) k (by omega) (tk b (tk b 2).2.1).1.toNat 0 (tk b (tk b 2).2.1).2.1 k [] (by omega) (tk_at b _).1 (by simp; omega) (by omega)
            rw [Int.toNat_of_nonneg h3] at this
            rw [show ((0 : Nat) : Int) = 0 from rfl] at this
            rw [this]
            unfold tl
            rw [if_pos ⟨h2, h3, h4⟩]
          · rw [decide_eq_false h4, il0_no _ _ _ _ _ _ _ _ _ k (by omega), noA (fun h => h4 h.2.2)]
        · rw [if_neg h3, il0_no _ _ _ _ _ _ _ _ _ k (by omega), noA (fun h => h3 h.2.1)]
      · rw [if_neg h2, il0_no _ _ _ _ _ _ _ _ _ k (by omega), noA (fun h => h2 h.1)]
    · rw [if_neg h1, if_neg h1, il0_no _ _ _ _ _ _ _ _ _ k (by omega)]
theorem dj_ok (b : List Int) : ((dj b).2.2.2.2.2 = true → JobP (dj b).1 (dj b).2.1 (dj b).2.2.1 (dj b).2.2.2.1 (dj b).2.2.2.2.1) ∧ (dj b).2.2.1.length ≤ 400 ∧ (dj b).2.2.2.1.length ≤ 400 := by
  have hbad : ((badJob).2.2.2.2.2 = true → JobP badJob.1 badJob.2.1 badJob.2.2.1 badJob.2.2.2.1 badJob.2.2.2.2.1) ∧ badJob.2.2.1.length ≤ 400 ∧ badJob.2.2.2.1.length ≤ 400 := ⟨fun h => by simp [badJob] at h, by simp [badJob], by simp [badJob]⟩
  unfold dj
  by_cases c : b.length < 2
  · rw [if_pos c]; exact hbad
  · rw [if_neg c]
    by_cases d : (tk b 2).2.2 = true
    · rw [if_pos d]
      unfold djA
      have tA := tl_at b (tk b 2).2.1
      by_cases e : (tl b (tk b 2).2.1).2.2 = true
      · rw [if_pos e]
        have tB := tl_at b (tl b (tk b 2).2.1).2.1
        unfold djEnd
        split
        · rename_i h
          exact ⟨fun _ => h.2.2, tA.2.1, tB.2.1⟩
        · exact hbad
      · rw [if_neg e]; exact hbad
    · rw [if_neg d]; exact hbad
end Go.Vm.Pu
namespace Go.Vm.Pu
open Go Go.RowKit Go.Vm
set_option linter.unusedVariables false
set_option linter.unusedSimpArgs false
/-- The rounds that count a number's bits. -/
def lb : Nat → Int → Int → Option Int
  | 0, _, _ => none
  | k + 1, x, a => if x > 0 then lb k (wrap64 (Int.tdiv x 2)) (wrap64 (a + 1)) else some a
theorem lb_is (K : Nat) : ∀ (k : Nat) (x a : Int), spec_l10Bits.l0 K k x a = lb k x a
  | 0, x, a => by kernel_rfl
  | k + 1, x, a => by rw [spec_l10Bits.l0_eq, lb, lb_is K k]
theorem bits_mono : ∀ (k : Nat) (x a r : Int), lb k x a = some r → ∀ m, lb (k + m) x a = some r := by
  intro k
  induction k with
  | zero => intro x a r h; simp [lb] at h
  | succ k ih =>
    intro x a r h m
    rw [show k + 1 + m = (k + m) + 1 by omega]
    simp only [lb] at h ⊢
    by_cases c : x > 0
    · rw [if_pos c] at h ⊢
      exact ih _ _ _ h m
    · rw [if_neg c] at h ⊢
      exact h
/-- How many bits a number of at most 1000 has. -/
def bl (n : Nat) : Int := (lb 12 (n : Int) 0).getD 0
set_option maxRecDepth 100000 in
theorem bits_tab1 : ∀ n : _root_.Fin 1001, lb 12 (n.val : Int) 0 = some (bl n.val) := by decide +kernel
set_option maxRecDepth 100000 in
theorem bits_tab2 : ∀ n : _root_.Fin 1001, bits_Len.f 2 (n.val : Int) = some (bl n.val) := by decide +kernel
theorem sbits_f (n : Nat) (h : n ≤ 1000) (k : Nat) (hk : 13 ≤ k) : spec_l10Bits.f k (n : Int) = some (bl n) := by
  obtain ⟨m, rfl⟩ : ∃ m, k = (12 + m) + 1 := ⟨k - 13, by omega⟩
  rw [spec_l10Bits.f_eq, lb_is]
  exact bits_mono 12 _ _ _ (bits_tab1 ⟨n, by omega⟩) m
theorem ibits_f (n : Nat) (h : n ≤ 1000) (k : Nat) (hk : 2 ≤ k) : bits_Len.f k (IntKind.u64.wrap (n : Int)) = some (bl n) := by
  obtain ⟨k, rfl⟩ : ∃ m, k = (m + 1) + 1 := ⟨k - 2, by omega⟩
  have e : IntKind.u64.wrap (n : Int) = (n : Int) := by
    show (n : Int) % 18446744073709551616 = _
    omega
  have e2 : bits_Len.f ((k + 1) + 1) (n : Int) = bits_Len.f ((0 + 1) + 1) (n : Int) := by rw [bits_Len.f_eq, bits_Len.f_eq, bits_Len64.f_eq, bits_Len64.f_eq]
  rw [e, e2]
  exact bits_tab2 ⟨n, by omega⟩
/-- A job's cost. -/
def jc (a l s v w : Int) : Int :=
  if a = 1 ∨ a = 2 then wrap64 (1 + wrap64 (l * v)) else if a = 3 ∨ a = 4 then wrap64 (1 + wrap64 (wrap64 (3 * l) * v)) else if a = 5 then wrap64 (1 + wrap64 (s * w)) else if a = 6 then wrap64 (1 + wrap64 (wrap64 (2 * s) * w)) else
  if a = 7 then wrap64 (1 + wrap64 (wrap64 (2 * l) * v)) else if a = 8 ∨ a = 9 then wrap64 (1 + wrap64 (wrap64 (s * w) * w)) else if a = 10 then wrap64 (1 + wrap64 (wrap64 (3 * s) * w)) else wrap64 (1 + wrap64 (l * l))
def cost (a : Int) (A B : List Int) : Int := jc a A.length (wrap64 ((A.length : Int) + (B.length : Int))) (bl A.length) (bl (A.length + B.length))
theorem eleven {a : Int} (h : 1 ≤ a ∧ a ≤ 11) : a = 1 ∨ a = 2 ∨ a = 3 ∨ a = 4 ∨ a = 5 ∨ a = 6 ∨ a = 7 ∨ a = 8 ∨ a = 9 ∨ a = 10 ∨ a = 11 := by omega
theorem scost_f (a f : Int) (A B : List Int) (n : Int) (h : JobP a f A B n) (k : Nat) (hk : 1000 ≤ k) : spec_JobCost.f k a f A B n = some (cost a A B) := by
  obtain ⟨k, rfl⟩ : ∃ m, k = m + 1 := ⟨k - 1, by omega⟩
  have e := eleven h.1
  have hA := h.2.2.2.1.1
  have hB := h.2.2.2.2.1.1
  have hs : wrap64 ((A.length : Int) + (B.length : Int)) = ((A.length + B.length : Nat) : Int) := by
    rw [wrap_id (by omega) (by omega)]; rfl
  rw [spec_JobCost.f_eq, sjobOk_f a f A B n (by omega) (by omega) k (by omega)]
  simp only [bs, not_ite]
  rw [if_pos (decide_eq_true h), sbits_f _ (by omega) k (by omega)]
  simp only [bs]
  rw [hs, sbits_f _ (by omega) k (by omega)]
  simp only [bs]
  unfold cost
  rw [hs]
  generalize ((A.length + B.length : Nat) : Int) = s
  generalize bl A.length = v
  generalize bl (A.length + B.length) = w
  generalize (A.length : Int) = l
  clear hA hB hs h
  rcases e with rfl | rfl | rfl | rfl | rfl | rfl | rfl | rfl | rfl | rfl | rfl <;> simp [jc, spec_JobCost.j0_eq, spec_JobCost.j1_eq, spec_JobCost.j2_eq]
theorem icost_f (a f : Int) (A B : List Int) (n : Int) (h : JobP a f A B n) (k : Nat) (hk : 1000 ≤ k) : impl_jobCost.f k a f A B n = some (cost a A B) := by
  obtain ⟨k, rfl⟩ : ∃ m, k = m + 1 := ⟨k - 1, by omega⟩
  have e := eleven h.1
  have hA := h.2.2.2.1.1
  have hB := h.2.2.2.2.1.1
  have hs : wrap64 ((A.length : Int) + (B.length : Int)) = ((A.length + B.length : Nat) : Int) := by
    rw [wrap_id (by omega) (by omega)]; rfl
  rw [impl_jobCost.f_eq, ibits_f _ (by omega) k (by omega)]
  simp only [bs]
  rw [hs, ibits_f _ (by omega) k (by omega)]
  simp only [bs]
  unfold cost
  generalize bl A.length = v
  generalize bl (A.length + B.length) = w
  generalize (A.length : Int) = l
  generalize (B.length : Int) = m
  clear hA hB hs h
  rcases e with rfl | rfl | rfl | rfl | rfl | rfl | rfl | rfl | rfl | rfl | rfl <;> simp [jc, impl_jobCost.j0_eq, impl_jobCost.j1_eq, impl_jobCost.j2_eq, impl_jobCost.j3_eq]
/-- A valid event. -/
def EvP (a0 a1 a2 a3 : Int) (D : List Int) : Prop := (0 ≤ a1 ∧ a1 ≤ 99) ∧ ((a0 = 1 ∧ a2 = 0 ∧ (100 ≤ a3 ∧ a3 ≤ 100000) ∧ D.length = 0) ∨
  (a0 = 2 ∧ (1 ≤ a2 ∧ a2 ≤ 1000000000) ∧ (dj D).2.2.2.2.2 = true ∧ a3 = cost (dj D).1 (dj D).2.2.1 (dj D).2.2.2.1) ∨ ((a0 = 3 ∨ a0 = 4) ∧ (1 ≤ a2 ∧ a2 ≤ 1000000000) ∧ a3 = 0 ∧ D.length = 0) ∨ (a0 = 5 ∧ a2 = 0 ∧ a3 = 0 ∧ D.length = 0))
instance (a0 a1 a2 a3 : Int) (D : List Int) : Decidable (EvP a0 a1 a2 a3 D) := by unfold EvP; exact inferInstance
theorem sevent_f (a0 a1 a2 a3 : Int) (D : List Int) (hb : Bs D) (hlen : D.length ≤ 2000000) (k : Nat) (hk : 4000 ≤ k) : spec_EventOk.f k a0 a1 a2 a3 D = some (decide (EvP a0 a1 a2 a3 D)) := by
  obtain ⟨k, rfl⟩ : ∃ m, k = m + 1 := ⟨k - 1, by omega⟩
  rw [spec_EventOk.f_eq, in_is _ _ _ _ (by omega)]
  simp only [bs, not_ite]
  by_cases h1 : 0 ≤ a1 ∧ a1 ≤ 99
  · rw [if_pos (decide_eq_true h1)]
    by_cases e1 : a0 = 1
    · rw [if_pos e1]
      by_cases e2 : a2 = 0
      · rw [if_pos e2, in_is _ _ _ _ (by omega)]
        simp only [bs]
        by_cases e3 : 100 ≤ a3 ∧ a3 ≤ 100000
        · rw [if_pos (decide_eq_true e3)]
          congr 1
          rw [decide_eq_decide]
          unfold EvP
          omega
        · rw [if_neg (by simpa using e3), decide_eq_false]
          unfold EvP
          omega
      · rw [if_neg e2, decide_eq_false]
        unfold EvP
        omega
    · rw [if_neg e1]
      by_cases e2 : a0 = 2
      · rw [if_pos e2, sdecode_f D hb hlen k (by omega), in_is _ _ _ _ (by omega)]
        simp only [bs, jv]
        have hok := dj_ok D
        by_cases e3 : 1 ≤ a2 ∧ a2 ≤ 1000000000
        · rw [if_pos (decide_eq_true e3)]
          by_cases e4 : (dj D).2.2.2.2.2 = true
          · rw [if_pos e4, scost_f _ _ _ _ _ (hok.1 e4) k (by omega)]
            simp only [bs]
            congr 1
            rw [decide_eq_decide]
            unfold EvP
            exact ⟨fun h => ⟨h1, Or.inr (Or.inl ⟨e2, e3, e4, h⟩)⟩, fun h => by
              rcases h.2 with h | h | h | h
              · omega
              · exact h.2.2.2
              · omega
              · omega⟩
          · rw [if_neg e4, decide_eq_false]
            unfold EvP
            rintro ⟨_, h | h | h | h⟩
            · omega
            · exact e4 h.2.2.1
            · omega
            · omega
        · rw [if_neg (by simpa using e3), decide_eq_false]
          unfold EvP
          rintro ⟨_, h | h | h | h⟩
          · omega
          · exact e3 h.2.1
          · omega
          · omega
      · rw [if_neg e2]
        have key : ∀ x : Bool, (x = true ↔ (a0 = 3 ∨ a0 = 4)) → spec_EventOk.j0 k a0 x a0 a1 a2 a3 D = some (decide (EvP a0 a1 a2 a3 D)) := by
          intro x hx
          rw [spec_EventOk.j0_eq]
          by_cases c : x = true
          · rw [if_pos c, in_is _ _ _ _ (by omega)]
            simp only [bs]
            have := hx.1 c
            by_cases e3 : 1 ≤ a2 ∧ a2 ≤ 1000000000
            · rw [if_pos (decide_eq_true e3)]
              by_cases e4 : a3 = 0
              · rw [if_pos e4]
                congr 1
                rw [decide_eq_decide]
                unfold EvP
                omega
              · rw [if_neg e4, decide_eq_false]
                unfold EvP
                omega
            · rw [if_neg (by simpa using e3), decide_eq_false]
              unfold EvP
              omega
          · rw [if_neg c]
            have hn : ¬ (a0 = 3 ∨ a0 = 4) := fun h => c (hx.2 h)
            by_cases e5 : a0 = 5
            · rw [if_pos e5]
              by_cases e6 : a2 = 0
              · rw [if_pos e6]
                by_cases e7 : a3 = 0
                · rw [if_pos e7]
                  congr 1
                  rw [decide_eq_decide]
                  unfold EvP
                  omega
                · rw [if_neg e7, decide_eq_false]
                  unfold EvP
                  omega
              · rw [if_neg e6, decide_eq_false]
                unfold EvP
                omega
            · rw [if_neg e5, decide_eq_false]
              unfold EvP
              omega
        by_cases e3 : a0 = 3
        · rw [if_pos e3, key _ (by simp [e3])]
        · rw [if_neg e3, key _ (by simp [e3])]
  · rw [if_neg (by simpa using h1), decide_eq_false (fun h => h1 h.1)]
theorem ievent_f (a0 a1 a2 a3 : Int) (D : List Int) (hb : Bs D) (hlen : D.length ≤ 2000000) (k : Nat) (hk : 4000 ≤ k) : impl_isEvent.f k a0 a1 a2 a3 D = some (decide (EvP a0 a1 a2 a3 D)) := by
  obtain ⟨k, rfl⟩ : ∃ m, k = m + 1 := ⟨k - 1, by omega⟩
  have key : (0 ≤ a1 ∧ a1 ≤ 99) → ∀ x : Bool, (x = true ↔ (1 ≤ a2 ∧ a2 ≤ 1000000000)) → impl_isEvent.j0 k x a0 a1 a2 a3 D = some (decide (EvP a0 a1 a2 a3 D)) := by
      intro h1 x hx
      rw [impl_isEvent.j0_eq]
      by_cases e1 : a0 = 1
      · rw [if_pos e1]
        by_cases e2 : a2 = 0
        · rw [if_pos e2]
          by_cases e3 : a3 ≥ 100
          · rw [if_pos e3]
            by_cases e4 : a3 ≤ 100000
            · rw [if_pos e4]
              congr 1
              rw [decide_eq_decide]
              unfold EvP
              omega
            · rw [if_neg e4, decide_eq_false]
              unfold EvP
              omega
          · rw [if_neg e3, decide_eq_false]
            unfold EvP
            omega
        · rw [if_neg e2, decide_eq_false]
          unfold EvP
          omega
      · rw [if_neg e1]
        by_cases e2 : a0 = 2
        · rw [if_pos e2, idecode_f D hb hlen k (by omega)]
          simp only [bs, jv]
          have hok := dj_ok D
          by_cases e3 : x = true
          · rw [if_pos e3]
            by_cases e4 : (dj D).2.2.2.2.2 = true
            · rw [if_pos e4, icost_f _ _ _ _ _ (hok.1 e4) k (by omega)]
              simp only [bs]
              congr 1
              rw [decide_eq_decide]
              unfold EvP
              exact ⟨fun h => ⟨h1, Or.inr (Or.inl ⟨e2, hx.1 e3, e4, h⟩)⟩, fun h => by
                rcases h.2 with h | h | h | h
                · omega
                · exact h.2.2.2
                · omega
                · omega⟩
            · rw [if_neg e4, decide_eq_false]
              unfold EvP
              rintro ⟨_, h | h | h | h⟩
              · omega
              · exact e4 h.2.2.1
              · omega
              · omega
          · rw [if_neg e3, decide_eq_false]
            unfold EvP
            rintro ⟨_, h | h | h | h⟩
            · omega
            · exact e3 (hx.2 h.2.1)
            · omega
            · omega
        · rw [if_neg e2]
          have key2 : ∀ y : Bool, (y = true ↔ (a0 = 3 ∨ a0 = 4)) → impl_isEvent.j1 k x a0 y a0 a1 a2 a3 D = some (decide (EvP a0 a1 a2 a3 D)) := by
            intro y hy
            rw [impl_isEvent.j1_eq]
            by_cases c : y = true
            · rw [if_pos c]
              have := hy.1 c
              by_cases e3 : x = true
              · have := hx.1 e3
                rw [if_pos e3]
                by_cases e4 : a3 = 0
                · rw [if_pos e4]
                  congr 1
                  rw [decide_eq_decide]
                  unfold EvP
                  omega
                · rw [if_neg e4, decide_eq_false]
                  unfold EvP
                  omega
              · have : ¬ (1 ≤ a2 ∧ a2 ≤ 1000000000) := fun h => e3 (hx.2 h)
                rw [if_neg e3, decide_eq_false]
                unfold EvP
                omega
            · rw [if_neg c]
              have hn : ¬ (a0 = 3 ∨ a0 = 4) := fun h => c (hy.2 h)
              by_cases e5 : a0 = 5
              · rw [if_pos e5]
                by_cases e6 : a2 = 0
                · rw [if_pos e6]
                  by_cases e7 : a3 = 0
                  · rw [if_pos e7]
                    congr 1
                    rw [decide_eq_decide]
                    unfold EvP
                    omega
                  · rw [if_neg e7, decide_eq_false]
                    unfold EvP
                    omega
                · rw [if_neg e6, decide_eq_false]
                  unfold EvP
                  omega
              · rw [if_neg e5, decide_eq_false]
                unfold EvP
                omega
          by_cases e3 : a0 = 3
          · rw [if_pos e3, key2 _ (by simp [e3])]
          · rw [if_neg e3, key2 _ (by simp [e3])]
  rw [impl_isEvent.f_eq]
  by_cases c : a1 < 0
  · rw [if_pos c, decide_eq_false (fun g => by have := g.1; omega)]
  · rw [if_neg c]
    by_cases d : a1 > 99
    · rw [if_pos d, decide_eq_false (fun g => by have := g.1; omega)]
    · rw [if_neg d]
      by_cases e1 : a2 ≥ 1
      · rw [if_pos e1, key ⟨by omega, by omega⟩ _ (by simp; omega)]
      · rw [if_neg e1, key ⟨by omega, by omega⟩ _ (by simp; omega)]
end Go.Vm.Pu
namespace Go.Vm.Pu
open Go Go.RowKit Go.Vm
set_option linter.unusedVariables false
set_option linter.unusedSimpArgs false
theorem Bs.of {l : List Int} (h : ∀ y ∈ l, (Lit.int .u8 y).wf = true) : Bs l := fun x hx => by
  have := wf_byte (h x hx)
  omega
/-- So many bytes, counted from a number on. -/
def markL (a : Int) : Nat → List Int
  | 0 => []
  | n + 1 => (a % 256) :: markL (a + 1) n
theorem markL_length (n : Nat) : ∀ a, (markL a n).length = n := by
  induction n with
  | zero => intro a; rfl
  | succ n ih => intro a; simp [markL, ih]
abbrev Evt := Int × Int × Int × Int × List Int
end Go.Vm.Pu
namespace Go.Vm.Pu
open Go Go.RowKit Go.Vm
set_option linter.unusedVariables false
set_option linter.unusedSimpArgs false
/-- A valid frame. -/
def FrP (t s : Int) (b : List Int) : Prop := (0 ≤ t ∧ t ≤ 99) ∧ (0 ≤ s ∧ s ≤ 2147483647) ∧ b.length ≤ 5000
instance (t s : Int) (b : List Int) : Decidable (FrP t s b) := by unfold FrP; exact inferInstance
theorem bytes_is (l : List Int) (hn : l.length ≤ 2000000) (k : Nat) (hk : l.length + 1 < k) : spec_l01Bytes.f k l = some l := by
  obtain ⟨k, rfl⟩ : ∃ m, k = m + 1 := ⟨k - 1, by omega⟩
  rw [spec_l01Bytes.f_eq]
  have := append_loop (fun fu s i => spec_l01Bytes.l0 k fu l i s) l id 0 [] (by
    intro fu s _
    simp only [spec_l01Bytes.l0_eq]
    rw [if_neg (by omega)]) (by
    intro fu i s h _ hs
    simp only [List.length_nil] at hs
    simp only [spec_l01Bytes.l0_eq]
    rw [if_pos (by omega), if_pos (by omega), if_pos (by omega), if_pos (by omega), rd_at l i h, wrap_next h (by omega)]
    rfl) k (by omega)
  simpa using this
theorem join_is (a b : List Int) (ha : a.length ≤ 2000000) (hb : b.length ≤ 2000000) (k : Nat) (hk : a.length + 2 < k) (hk2 : b.length + 1 < k) : spec_l01Join.f k a b = some (a ++ b) := by
  obtain ⟨k, rfl⟩ : ∃ m, k = m + 1 := ⟨k - 1, by omega⟩
  rw [spec_l01Join.f_eq, bytes_is a ha k (by omega)]
  simp only [bs]
  have := append_loop (fun fu s i => spec_l01Join.l0 k fu b i s) b id 0 a (by
    intro fu s _
    simp only [spec_l01Join.l0_eq]
    rw [if_neg (by omega)]) (by
    intro fu i s h _ hs
    simp only [spec_l01Join.l0_eq]
    rw [if_pos (by omega), if_pos (by omega), if_pos (by omega), if_pos (by omega), rd_at b i h, wrap_next h (by omega)]
    rfl) k (by omega)
  simpa using this
set_option maxRecDepth 100000 in
theorem bl_tab : ∀ n : _root_.Fin 1001, 0 ≤ bl n.val ∧ bl n.val ≤ 10 := by decide +kernel
theorem bl_range (n : Nat) (h : n ≤ 1000) : 0 ≤ bl n ∧ bl n ≤ 10 := bl_tab ⟨n, by omega⟩
theorem mul_range {x y X Y : Int} (h1 : 0 ≤ x) (h2 : x ≤ X) (h3 : 0 ≤ y) (h4 : y ≤ Y) : 0 ≤ x * y ∧ x * y ≤ X * Y :=
  ⟨Int.mul_nonneg h1 h3, Int.mul_le_mul h2 h4 h3 (by omega)⟩
theorem cost_range (a f : Int) (A B : List Int) (n : Int) (h : JobP a f A B n) : 0 ≤ cost a A B ∧ cost a A B ≤ 1000000000 := by
  have hA := h.2.2.2.1.1
  have hB := h.2.2.2.2.1.1
  have v := bl_range A.length (by omega)
  have w := bl_range (A.length + B.length) (by omega)
  unfold cost
  rw [wrap_id (x := (A.length : Int) + (B.length : Int)) (by omega) (by omega)]
  have hl : 0 ≤ (A.length : Int) ∧ (A.length : Int) ≤ 400 := by omega
  have hs : 0 ≤ (A.length : Int) + (B.length : Int) ∧ (A.length : Int) + (B.length : Int) ≤ 800 := by omega
  generalize bl A.length = v0 at v ⊢
  generalize bl (A.length + B.length) = w0 at w ⊢
  generalize (A.length : Int) + (B.length : Int) = s at hs ⊢
  generalize (A.length : Int) = l at hl ⊢
  have lv := mul_range hl.1 hl.2 v.1 v.2
  have ll := mul_range hl.1 hl.2 hl.1 hl.2
  have sw := mul_range hs.1 hs.2 w.1 w.2
  have sww := mul_range sw.1 sw.2 w.1 w.2
  have l3 := mul_range (show 0 ≤ 3 * l by omega) (show 3 * l ≤ 1200 by omega) v.1 v.2
  have l2 := mul_range (show 0 ≤ 2 * l by omega) (show 2 * l ≤ 1200 by omega) v.1 v.2
  have s2 := mul_range (show 0 ≤ 2 * s by omega) (show 2 * s ≤ 2400 by omega) w.1 w.2
  have s3 := mul_range (show 0 ≤ 3 * s by omega) (show 3 * s ≤ 2400 by omega) w.1 w.2
  unfold jc
  rw [wrap_id (x := 3 * l) (by omega) (by omega), wrap_id (x := 2 * l) (by omega) (by omega), wrap_id (x := 2 * s) (by omega) (by omega), wrap_id (x := 3 * s) (by omega) (by omega), wrap_id (x := l * v0) (by omega) (by omega), wrap_id (x := l * l) (by omega) (by omega), wrap_id (x := s * w0) (by omega) (by omega),
    wrap_id (x := s * w0 * w0) (by omega) (by omega), wrap_id (x := 3 * l * v0) (by omega) (by omega), wrap_id (x := 2 * l * v0) (by omega) (by omega), wrap_id (x := 2 * s * w0) (by omega) (by omega), wrap_id (x := 3 * s * w0) (by omega) (by omega)]
  repeat' split
  all_goals (rw [wrap_id (by omega) (by omega)]; omega)
theorem ev_num {a0 a1 a2 a3 : Int} {D : List Int} (h : EvP a0 a1 a2 a3 D) : -1099511627776 ≤ a3 ∧ a3 ≤ 1099511627776 := by
  rcases h.2 with h | h | h | h
  · omega
  · have := cost_range _ _ _ _ _ ((dj_ok D).1 h.2.2.1)
    omega
  · omega
  · omega
/-- A number's bytes, the highest first. -/
def w4 (x : Int) : List Int := [x / 16777216 % 256, x / 65536 % 256, x / 256 % 256, x % 256]
def w2 (x : Int) : List Int := [x / 256 % 256, x % 256]
theorem byte_of (x : Int) (n : Nat) (hn : n ≤ 3) (h0 : 0 ≤ x) (h1 : x < 4294967296) : IntKind.u8.wrap (bitsOf .and .i64 (Int.fdiv x (2 ^ (8 * n))) 255) = x / 2 ^ (8 * n) % 256 := by
  have hp : (1 : Int) ≤ 2 ^ (8 * n) := by exact_mod_cast Nat.one_le_two_pow
  have hq : 0 ≤ x / 2 ^ (8 * n) := Int.ediv_nonneg h0 (by omega)
  have hq2 : x / 2 ^ (8 * n) ≤ x := Int.ediv_le_self _ h0
  rw [Int.fdiv_eq_ediv_of_nonneg x (by omega)]
  show (Go.bits .and .i64 (x / 2 ^ (8 * n)) 255) % 256 = _
  rw [show (255 : Int) = 2 ^ 8 - 1 from rfl, bits_mask .i64 62 (by decide) (fun m h1 h2 => by rw [IntKind.wrap_i64]; omega) 8 (by decide) _ hq (by omega)]
  rw [show (2 : Int) ^ 8 = 256 from rfl]
  omega
/-- The checksum of what follows. -/
def ck : List Int → Int × Int → Int
  | [], s => 65536 * s.2 + s.1
  | c :: l, s => ck l ((s.1 + c) % 65521, (s.2 + (s.1 + c) % 65521) % 65521)
theorem ck_range : ∀ (l : List Int) (s : Int × Int), 0 ≤ s.1 → s.1 < 65521 → 0 ≤ s.2 → s.2 < 65521 → 0 ≤ ck l s ∧ ck l s < 4294967296 := by
  intro l
  induction l with
  | nil => intro s h1 h2 h3 h4; show 0 ≤ 65536 * s.2 + s.1 ∧ 65536 * s.2 + s.1 < 4294967296; omega
  | cons c l ih =>
    intro s h1 h2 h3 h4
    exact ih _ (by simp only; omega) (by simp only; omega) (by simp only; omega) (by simp only; omega)
def CkI (s : Int × Int) : Prop := (0 ≤ s.1 ∧ s.1 < 65521) ∧ (0 ≤ s.2 ∧ s.2 < 65521)
theorem CkI.next {s : Int × Int} (h : CkI s) (c : Int) : CkI ((s.1 + c) % 65521, (s.2 + (s.1 + c) % 65521) % 65521) := by
  unfold CkI
  simp only
  omega
theorem Bs.app {a b : List Int} (ha : Bs a) (hb : Bs b) : Bs (a ++ b) := fun x hx => (List.mem_append.1 hx).elim (ha x) (hb x)
theorem Bs.w4 (x : Int) : Bs (w4 x) := by
  intro y hy
  simp only [Pu.w4, List.mem_cons, List.not_mem_nil, or_false] at hy
  omega
theorem Bs.w2 (x : Int) : Bs (w2 x) := by
  intro y hy
  simp only [Pu.w2, List.mem_cons, List.not_mem_nil, or_false] at hy
  omega
theorem Bs.one (x : Int) : Bs [x % 256] := by
  intro y hy
  simp only [List.mem_cons, List.not_mem_nil, or_false] at hy
  omega
theorem Bs.vi : ∀ (d : Nat) (u : Int), Bs (vi d u) := by
  intro d
  induction d with
  | zero => intro u; exact Bs.one u
  | succ d ih =>
    intro u
    unfold Pu.vi
    split
    · intro y hy
      rcases List.mem_cons.1 hy with rfl | hy
      · omega
      · exact ih _ y hy
    · exact Bs.one u
/-- What stands between the sign and the sum. -/
def mid (t s : Int) (b : List Int) : List Int := [t % 256] ++ w4 s ++ w2 (b.length : Int) ++ b
/-- What both encode. -/
def ef (t s : Int) (b : List Int) : List Int := if FrP t s b then [199, 77] ++ mid t s b ++ w4 (ck (mid t s b) (1, 0)) else []
theorem mid_len (t s : Int) (b : List Int) : (mid t s b).length = 7 + b.length := by
  unfold mid w4 w2
  simp only [List.length_append, List.length_cons, List.length_nil]
theorem mid_bs (t s : Int) (b : List Int) (hb : Bs b) : Bs (mid t s b) := (((Bs.one t).app (Bs.w4 s)).app (Bs.w2 _)).app hb
theorem ef_len (t s : Int) (b : List Int) : (ef t s b).length ≤ 5013 := by
  unfold ef
  split
  · rename_i h
    have := h.2.2
    have hm := mid_len t s b
    unfold w4
    simp only [List.length_append, List.length_cons, List.length_nil]
    omega
  · exact Nat.zero_le _
/-- What both put. -/
def pe (a0 a1 a2 a3 : Int) (D : List Int) : List Int := if EvP a0 a1 a2 a3 D then ef a1 a2 ([a0 % 256] ++ vi 6 (unz a3) ++ D) else []
theorem pe_len (a0 a1 a2 a3 : Int) (D : List Int) : (pe a0 a1 a2 a3 D).length ≤ 5013 := by
  unfold pe
  split
  · exact ef_len _ _ _
  · exact Nat.zero_le _
theorem body_bs (a0 a3 : Int) (D : List Int) (hb : Bs D) : Bs ([a0 % 256] ++ vi 6 (unz a3) ++ D) := ((Bs.one a0).app (Bs.vi 6 _)).app hb
theorem body_len (a0 a3 : Int) (D : List Int) : ([a0 % 256] ++ vi 6 (unz a3) ++ D).length ≤ 8 + D.length := by
  have := vi_length 6 (unz a3)
  simp only [List.length_append, List.length_cons, List.length_nil]
  omega
end Go.Vm.Pu
namespace Go.Vm.Pu
open Go Go.RowKit Go.Vm
set_option linter.unusedVariables false
set_option linter.unusedSimpArgs false
end Go.Vm.Pu
namespace Go.Vm.Pu
open Go Go.RowKit Go.Vm
set_option linter.unusedVariables false
set_option linter.unusedSimpArgs false
theorem itake_short (b : List Int) (h : b.length < 2) (k : Nat) (hk : 3 ≤ k) : impl_takeNumber.f k b 1 = some (0, 0, false) := by
  obtain ⟨k, rfl⟩ : ∃ m, k = (m + 1) + 1 := ⟨k - 2, by omega⟩
  have e : wrap64 (1 + 0) = 1 := wrap_id (by decide) (by decide)
  rw [impl_takeNumber.f_eq, if_neg (by decide), impl_takeNumber.l0_eq, if_pos (by decide), e, if_neg (by omega)]
theorem Bs.drop {l : List Int} (h : Bs l) (n : Nat) : Bs (l.drop n) := fun x hx => h x (List.mem_of_mem_drop hx)
def badEvent : Int × Int × Int × Int × List Int × Bool := (0, 0, 0, 0, [], false)
/-- What both take. -/
def te (t s : Int) (b : List Int) : Int × Int × Int × Int × List Int × Bool :=
  if FrP t s b ∧ 2 ≤ b.length ∧ (tk b 1).2.2 = true ∧ EvP (L b 0) t s (tk b 1).1 (b.drop (tk b 1).2.1) then (L b 0, t, s, (tk b 1).1, b.drop (tk b 1).2.1, true) else badEvent
theorem te_len (t s : Int) (b : List Int) : (te t s b).2.2.2.2.1.length ≤ b.length := by
  unfold te
  split
  · show (b.drop _).length ≤ _
    rw [List.length_drop]
    omega
  · exact Nat.zero_le _
/-- The order in which the program hands it on. -/
def tv (x : Int × Int × Int × Int × List Int × Bool) : Int × Int × Int × Int × Bool × List Int := (x.1, x.2.1, x.2.2.1, x.2.2.2.1, x.2.2.2.2.2, x.2.2.2.2.1)
theorem cut_end (l : List Int) (i : Nat) : cut l (i : Int) (l.length : Int) = l.drop i := by
  rw [cut_nat, List.take_of_length_le (Nat.le_refl _)]
/-! ### frames -/
/-- A number's bytes read, the highest first. -/
def be : List Int → Int → Int
  | [], x => x
  | c :: l, x => be l (256 * x + c)
theorem p256_pos : ∀ n : Nat, (0 : Int) < 256 ^ n
  | 0 => by decide
  | n + 1 => by
    have := p256_pos n
    rw [Int.pow_succ]
    omega
theorem be_range : ∀ (l : List Int) (x : Int), Bs l → 0 ≤ x → 0 ≤ be l x ∧ be l x < (x + 1) * 256 ^ l.length := by
  intro l
  induction l with
  | nil => intro x _ h; show 0 ≤ x ∧ x < (x + 1) * 1; omega
  | cons c l ih =>
    intro x hb h
    have hc := hb c List.mem_cons_self
    obtain ⟨h1, h2⟩ := ih (256 * x + c) (fun y hy => hb y (List.mem_cons_of_mem _ hy)) (by omega)
    refine ⟨h1, ?_⟩
    have hp := p256_pos l.length
    have : (256 * x + c + 1) * 256 ^ l.length ≤ ((x + 1) * 256) * 256 ^ l.length := Int.mul_le_mul_of_nonneg_right (by omega) (by omega)
    rw [List.length_cons, Int.pow_succ, Int.mul_comm (256 ^ l.length) 256, ← Int.mul_assoc]
    exact Int.lt_of_lt_of_le h2 this
theorem p256 : ∀ n : Nat, n ≤ 4 → (256 : Int) ^ n ≤ 4294967296 := by
  intro n h
  have : n = 0 ∨ n = 1 ∨ n = 2 ∨ n = 3 ∨ n = 4 := by omega
  rcases this with rfl | rfl | rfl | rfl | rfl <;> decide
theorem Bs.seg {l : List Int} (h : Bs l) (n m : Nat) : Bs ((l.take n).drop m) := fun x hx => h x (List.mem_of_mem_take (List.mem_of_mem_drop hx))
/-- A frame's length, as it is told. -/
def lg2 (b : List Int) : Int := be ((b.take 9).drop 7) 0
/-- The head can't be a frame's: so many bytes are looked at. -/
def hdBad (b : List Int) : Prop := (0 < b.length ∧ L b 0 ≠ 199) ∨ (1 < b.length ∧ L b 1 ≠ 77) ∨ (2 < b.length ∧ L b 2 > 99) ∨ (3 < b.length ∧ L b 3 > 127) ∨ (7 < b.length ∧ L b 7 > 19)
instance (b : List Int) : Decidable (hdBad b) := by unfold hdBad; exact inferInstance
def hdBad9 (b : List Int) : Prop := hdBad b ∨ (8 < b.length ∧ lg2 b > 5000)
instance (b : List Int) : Decidable (hdBad9 b) := by unfold hdBad9; exact inferInstance
/-- The sum compared. -/
def cmpS (b : List Int) (n : Nat) (s : List Int) : Nat → Nat → Int
  | 0, _ => 0
  | d + 1, i => if n + i = b.length then 1 else if L b (n + i) ≠ L s i then 2 else cmpS b n s d (i + 1)
theorem cmpS_cases (b : List Int) (n : Nat) (s : List Int) : ∀ d i : Nat, cmpS b n s d i = 0 ∨ cmpS b n s d i = 1 ∨ cmpS b n s d i = 2 := by
  intro d
  induction d with
  | zero => intro i; exact Or.inl rfl
  | succ d ih =>
    intro i
    rw [cmpS]
    split
    · exact Or.inr (Or.inl rfl)
    · split
      · exact Or.inr (Or.inr rfl)
      · exact ih (i + 1)
theorem cmpS_len (b : List Int) (n : Nat) (s : List Int) : ∀ d i : Nat, n + i ≤ b.length → cmpS b n s d i = 0 → n + i + d ≤ b.length := by
  intro d
  induction d with
  | zero => intro i h _; omega
  | succ d ih =>
    intro i h hc
    rw [cmpS] at hc
    split at hc
    · exact absurd hc (by decide)
    · split at hc
      · exact absurd hc (by decide)
      · have := ih (i + 1) (by omega) hc
        omega
/-- What both decode: tenant, number, length, kind of the answer, body. -/
def df (b : List Int) : Int × Int × Int × Int × List Int :=
  if hdBad9 b then (0, 0, 0, 2, []) else if b.length < 9 then (0, 0, 0, 1, []) else if (b.length : Int) < 9 + lg2 b then (0, 0, 0, 1, []) else
    if cmpS b (9 + lg2 b).toNat (w4 (ck ((b.take (9 + lg2 b).toNat).drop 2) (1, 0))) 4 0 = 0 then (L b 2, be ((b.take 7).drop 3) 0, 13 + lg2 b, 0, (b.take (9 + lg2 b).toNat).drop 9)
    else (0, 0, 0, cmpS b (9 + lg2 b).toNat (w4 (ck ((b.take (9 + lg2 b).toNat).drop 2) (1, 0))) 4 0, [])
theorem w4_length (x : Int) : (w4 x).length = 4 := rfl
theorem lg2_range (b : List Int) (hb : Bs b) : 0 ≤ lg2 b ∧ lg2 b < 4294967296 := by
  have h := be_range ((b.take 9).drop 7) 0 (hb.seg 9 7) (by decide)
  have hl : ((b.take 9).drop 7).length ≤ 4 := by rw [List.length_drop, List.length_take]; omega
  have hp := p256 _ hl
  unfold lg2
  rw [Int.zero_add, Int.one_mul] at h
  omega
end Go.Vm.Pu
namespace Go.Vm.Pu
open Go Go.RowKit Go.Vm
set_option linter.unusedVariables false
set_option linter.unusedSimpArgs false
theorem and_255 (a : Int) : 0 ≤ bitsOf .and .i64 a 255 ∧ bitsOf .and .i64 a 255 ≤ 255 := by
  have h : ((BitVec.ofInt 64 a &&& BitVec.ofInt 64 255).toNat) ≤ 255 := by
    rw [BitVec.toNat_and]
    exact Nat.and_le_right
  have e : bitsOf .and .i64 a 255 = IntKind.i64.wrap ((BitVec.ofInt 64 a &&& BitVec.ofInt 64 255).toNat : Int) := rfl
  rw [e]
  have := wrap_id (x := ((BitVec.ofInt 64 a &&& BitVec.ofInt 64 255).toNat : Int)) (by omega) (by omega)
  unfold wrap64 at this
  rw [this]
  omega
theorem byte_f (b : List Int) (hb : b.length ≤ 1048576) (i h : Int) (hi : 0 ≤ i) (k : Nat) (hk : 1 ≤ k) : ∃ x i' h', spec_l01Byte.f k b i h = some (x, b, i', h') ∧ 0 ≤ x ∧ x ≤ 255 ∧ 0 ≤ i' := by
  obtain ⟨k, rfl⟩ : ∃ m, k = m + 1 := ⟨k - 1, by omega⟩
  rw [spec_l01Byte.f_eq]
  by_cases c : i < (b.length : Int)
  · rw [if_pos c, if_pos hi, if_pos c]
    exact ⟨_, _, _, rfl, (and_255 _).1, (and_255 _).2, by rw [wrap_id (by omega) (by omega)]; omega⟩
  · rw [if_neg c]
    exact ⟨_, _, _, rfl, (and_255 _).1, (and_255 _).2, hi⟩
theorem below_f (b : List Int) (hb : b.length ≤ 1048576) (n i h : Int) (hi : 0 ≤ i) (k : Nat) (hk : 2 ≤ k) : ∃ x i' h', spec_l01Below.f k n b i h = some (x, b, i', h') ∧ 0 ≤ x ∧ (0 < n → x < n) ∧ (n ≤ 0 → x = 0) ∧ 0 ≤ i' := by
  obtain ⟨k, rfl⟩ : ∃ m, k = m + 1 := ⟨k - 1, by omega⟩
  rw [spec_l01Below.f_eq]
  by_cases c : n ≤ 0
  · rw [if_pos c]
    exact ⟨0, i, h, rfl, by omega, by omega, fun _ => rfl, hi⟩
  rw [if_neg c]
  obtain ⟨x, i1, h1, e1, x0, x1, j1⟩ := byte_f b hb i h hi k (by omega)
  by_cases c2 : n ≤ 256
  · rw [if_pos c2, e1, bs, if_pos (by omega)]
    exact ⟨_, _, _, rfl, Int.tmod_nonneg _ x0, fun _ => Int.tmod_lt_of_pos _ (by omega), fun q => absurd q c, j1⟩
  · rw [if_neg c2, e1, bs]
    obtain ⟨y, i2, h2, e2, y0, y1, j2⟩ := byte_f b hb i1 h1 j1 k (by omega)
    simp only [e2, bs]
    obtain ⟨z, i3, h3, e3, z0, z1, j3⟩ := byte_f b hb i2 h2 j2 k (by omega)
    simp only [e3, bs]
    rw [if_pos (by omega), wrap_id (x := x * 65536) (by omega) (by omega), wrap_id (x := y * 256) (by omega) (by omega), wrap_id (x := x * 65536 + y * 256) (by omega) (by omega), wrap_id (x := x * 65536 + y * 256 + z) (by omega) (by omega)]
    exact ⟨_, _, _, rfl, Int.tmod_nonneg _ (by omega), fun _ => Int.tmod_lt_of_pos _ (by omega), fun q => absurd q c, j3⟩
theorem once_f (b : List Int) (hb : b.length ≤ 1048576) (n i h : Int) (hi : 0 ≤ i) (k : Nat) (hk : 3 ≤ k) : ∃ x i' h', spec_l01Once.f k n b i h = some (x, b, i', h') ∧ 0 ≤ i' := by
  obtain ⟨k, rfl⟩ : ∃ m, k = m + 1 := ⟨k - 1, by omega⟩
  obtain ⟨x, i1, h1, e1, x0, x1, x2, j1⟩ := below_f b hb n i h hi k (by omega)
  rw [spec_l01Once.f_eq, e1, bs]
  exact ⟨_, _, _, rfl, j1⟩
theorem pick_f (b : List Int) (hb : b.length ≤ 1048576) (l : List Int) (hl : 0 < l.length) (i h : Int) (hi : 0 ≤ i) (k : Nat) (hk : 3 ≤ k) : ∃ x i' h', spec_l01PickInt.f k l b i h = some (x, b, i', h') ∧ x ∈ l ∧ 0 ≤ i' := by
  obtain ⟨k, rfl⟩ : ∃ m, k = m + 1 := ⟨k - 1, by omega⟩
  obtain ⟨x, i1, h1, e1, x0, x1, x2, j1⟩ := below_f b hb (l.length : Int) i h hi k (by omega)
  have := x1 (by omega)
  rw [spec_l01PickInt.f_eq, e1, bs, if_pos x0, if_pos this]
  exact ⟨_, _, _, rfl, rd_mem l x x0 this, j1⟩
theorem new_l0 (b : List Int) (hb : b.length ≤ 1048576) (K : Nat) : ∀ (d k i : Nat) (h : Int), i + d = b.length → d < k → ∃ h', spec_l01New.l0 K k b h (i : Int) = some (b, 0, h') := by
  intro d
  induction d with
  | zero =>
    intro k i h hi hk
    obtain ⟨k, rfl⟩ : ∃ m, k = m + 1 := ⟨k - 1, by omega⟩
    rw [spec_l01New.l0_eq, if_neg (by omega)]
    exact ⟨_, rfl⟩
  | succ d ih =>
    intro k i h hi hk
    obtain ⟨k, rfl⟩ : ∃ m, k = m + 1 := ⟨k - 1, by omega⟩
    rw [spec_l01New.l0_eq, if_pos (by omega)]
    by_cases c : (i : Int) < 4000
    · rw [if_pos c, if_pos (by omega), if_pos (by omega), wrap_next (show i < b.length by omega) (by omega)]
      exact ih k (i + 1) _ (by omega) (by omega)
    · rw [if_neg c]
      exact ⟨_, rfl⟩
theorem new_f (b : List Int) (hb : b.length ≤ 1048576) (k : Nat) (hk : 1048580 ≤ k) : ∃ h', spec_l01New.f k b = some (b, 0, h') := by
  obtain ⟨k, rfl⟩ : ∃ m, k = m + 1 := ⟨k - 1, by omega⟩
  rw [spec_l01New.f_eq]
  exact new_l0 b hb k b.length k 0 _ (by omega) (by omega)
theorem size_f (b : List Int) (hb : b.length ≤ 1048576) (most : Int) (hm : 2 ≤ most) (k : Nat) (hk : 1 ≤ k) : ∃ n, spec_l01Size.f k b most = some n ∧ 2 ≤ n ∧ n ≤ most := by
  obtain ⟨k, rfl⟩ : ∃ m, k = m + 1 := ⟨k - 1, by omega⟩
  have e : Int.tdiv (b.length : Int) 16 = (b.length : Int) / 16 := Int.tdiv_eq_ediv_of_nonneg (by omega)
  rw [spec_l01Size.f_eq, e, wrap_id (x := (b.length : Int) / 16) (by omega) (by omega), wrap_id (x := 2 + (b.length : Int) / 16) (by omega) (by omega)]
  by_cases c : 2 + (b.length : Int) / 16 > most
  · rw [if_pos c]; exact ⟨_, rfl, by omega, by omega⟩
  · rw [if_neg c]; exact ⟨_, rfl, by omega, by omega⟩
theorem big_f (b : List Int) (k : Nat) (hk : 1 ≤ k) : laws_big.f k b = some (decide ((b.length : Int) > 1048576)) := by
  obtain ⟨k, rfl⟩ : ∃ m, k = m + 1 := ⟨k - 1, by omega⟩
  rw [laws_big.f_eq]
end Go.Vm.Pu
namespace Go.Vm.Pu
open Go Go.RowKit Go.Vm
set_option linter.unusedVariables false
set_option linter.unusedSimpArgs false
abbrev EvT : Ty := .pair (.int .i64) (.pair (.int .i64) (.pair (.int .i64) (.pair (.int .i64) (.row (.int .u8)))))
theorem rdE (l : List Evt) (i : Nat) (h : i < l.length) : rd EvT l (i : Int) = l[i] := by
  simp [rd, List.getD, h]
def evTot : List Evt → Int
  | [] => 0
  | e :: l => 4 + (e.2.2.2.2.length : Int) + evTot l
theorem evTot_pos : ∀ l, 0 ≤ evTot l
  | [] => by simp [evTot]
  | e :: l => by have := evTot_pos l; simp only [evTot]; omega
def markEv : Int → List Evt → List Evt
  | _, [] => []
  | m, e :: l => (m, m + 1, m + 1 + 1, m + 1 + 1 + 1, markL (m + 1 + 1 + 1 + 1) e.2.2.2.2.length) :: markEv (m + 1 + 1 + 1 + 1 + (e.2.2.2.2.length : Int)) l
theorem markEv_length : ∀ (l : List Evt) (m : Int), (markEv m l).length = l.length
  | [], m => rfl
  | e :: l, m => by simp [markEv, markEv_length l]
theorem rd_setE (l : List Evt) (i : Nat) (h : i < l.length) (x : Evt) : rd EvT (l.set (Int.toNat (i : Int)) x) (i : Int) = x := by
  rw [rdE _ i (by simpa using h)]; simp
theorem evTot_le (B : Nat) : ∀ (l : List Evt), (∀ e ∈ l, e.2.2.2.2.length ≤ B) → evTot l ≤ (4 + (B : Int)) * (l.length : Int)
  | [], _ => by simp [evTot]
  | e :: l, h => by
    have h1 := evTot_le B l fun x hx => h x (List.mem_cons_of_mem _ hx)
    have h2 := h e (by simp)
    simp only [evTot, List.length_cons]
    rw [show ((l.length + 1 : Nat) : Int) = (l.length : Int) + 1 by omega, Int.mul_add]
    omega
end Go.Vm.Pu
namespace Go.Vm.Pu
open Go Go.RowKit Go.Vm
set_option linter.unusedVariables false
set_option linter.unusedSimpArgs false
set_option linter.unusedSectionVars false
section
variable (b : List Int) (hb : b.length ≤ 1048576)
include hb
theorem field_f (i h : Int) (hi : 0 ≤ i) (k : Nat) (hk : 10 ≤ k) : ∃ x i' h', spec_l01DrawField.f k b i h = some (x, b, i', h') ∧ 0 ≤ i' := by
  obtain ⟨k, rfl⟩ : ∃ q, k = q + 1 := ⟨k - 1, by omega⟩
  rw [spec_l01DrawField.f_eq]
  obtain ⟨x, i1, h1, e1, j1⟩ := once_f b hb 20 i h hi k (by omega)
  simp only [e1, bs]
  cases x with
  | true =>
    obtain ⟨y, i2, h2, e2, _, j2⟩ := pick_f b hb [(-1), 9, 100] (by simp) i1 h1 j1 k (by omega)
    simp only [e2, bs, if_true]
    exact ⟨_, _, _, rfl, j2⟩
  | false =>
    obtain ⟨y, i2, h2, e2, _, _, _, j2⟩ := below_f b hb 9 i1 h1 j1 k (by omega)
    simp only [e2, bs, Bool.false_eq_true, if_false]
    exact ⟨_, _, _, rfl, j2⟩
theorem elem_f (f i h : Int) (hi : 0 ≤ i) (k : Nat) (hk : 10 ≤ k) : ∃ x i' h', spec_l01DrawElement.f k f b i h = some (x, b, i', h') ∧ 0 ≤ i' := by
  obtain ⟨k, rfl⟩ : ∃ q, k = q + 1 := ⟨k - 1, by omega⟩
  rw [spec_l01DrawElement.f_eq, modulus_is f k (by omega), bs]
  by_cases c0 : md f = 0
  · rw [if_pos c0]
    obtain ⟨y, i2, h2, e2, _, _, _, j2⟩ := below_f b hb 50 i h hi k (by omega)
    simp only [e2, bs]
    exact ⟨_, _, _, rfl, j2⟩
  rw [if_neg c0]
  obtain ⟨x, i1, h1, e1, _, _, _, j1⟩ := below_f b hb 6 i h hi k (by omega)
  simp only [e1, bs]
  by_cases c1 : x = 0
  · rw [if_pos c1]
    obtain ⟨y, i2, h2, e2, _, _, _, j2⟩ := below_f b hb 3 i1 h1 j1 k (by omega)
    simp only [e2, bs]
    rw [if_pos c0]
    exact ⟨_, _, _, rfl, j2⟩
  rw [if_neg c1]
  by_cases c2 : x = 1
  · rw [if_pos c2]
    obtain ⟨y, i2, h2, e2, _, _, _, j2⟩ := below_f b hb 3 i1 h1 j1 k (by omega)
    simp only [e2, bs]
    exact ⟨_, _, _, rfl, j2⟩
  rw [if_neg c2]
  by_cases c3 : x = 2
  · rw [if_pos c3]
    obtain ⟨y, i2, h2, e2, _, _, _, j2⟩ := below_f b hb 16777216 i1 h1 j1 k (by omega)
    simp only [e2, bs]
    obtain ⟨z, i3, h3, e3, _, _, _, j3⟩ := below_f b hb 256 i2 h2 j2 k (by omega)
    simp only [e3, bs]
    rw [if_pos c0]
    exact ⟨_, _, _, rfl, j3⟩
  · rw [if_neg c3]
    obtain ⟨y, i2, h2, e2, _, _, _, j2⟩ := below_f b hb 30 i1 h1 j1 k (by omega)
    simp only [e2, bs]
    rw [if_pos c0]
    exact ⟨_, _, _, rfl, j2⟩
theorem dlist_l0 (f n : Int) (hn : n ≤ 1000) (K : Nat) (hK : 10 ≤ K) : ∀ (d k m : Nat) (i h : Int) (out : List Int), (n - m).toNat ≤ d → d < k → 0 ≤ i → out.length = m → (m : Int) ≤ max n 0 →
    ∃ i' h' l, spec_l01DrawList.l0 K k f n (m : Int) b i h out = some (b, i', h', l) ∧ l.length = n.toNat ∧ 0 ≤ i' := by
  intro d
  induction d with
  | zero =>
    intro k m i h out hd hk hi ho hm
    obtain ⟨k, rfl⟩ : ∃ q, k = q + 1 := ⟨k - 1, by omega⟩
    rw [spec_l01DrawList.l0_eq, if_neg (by omega)]
    exact ⟨_, _, _, rfl, by omega, hi⟩
  | succ d ih =>
    intro k m i h out hd hk hi ho hm
    obtain ⟨k, rfl⟩ : ∃ q, k = q + 1 := ⟨k - 1, by omega⟩
    rw [spec_l01DrawList.l0_eq]
    by_cases c : (m : Int) < n
    · rw [if_pos c]
      obtain ⟨x, i1, h1, e1, j1⟩ := elem_f b hb f i h hi K hK
      simp only [e1, bs]
      rw [if_pos (by omega), wrap_id (by omega) (by omega)]
      exact ih k (m + 1) i1 h1 (out ++ [x]) (by omega) (by omega) j1 (by simp; omega) (by omega)
    · rw [if_neg c]
      exact ⟨_, _, _, rfl, by omega, hi⟩
theorem dlist_f (f n : Int) (hn : n ≤ 1000) (i h : Int) (hi : 0 ≤ i) (k : Nat) (hk : 1010 ≤ k) : ∃ i' h' l, spec_l01DrawList.f k f n b i h = some (b, i', h', l) ∧ l.length = n.toNat ∧ 0 ≤ i' := by
  obtain ⟨k, rfl⟩ : ∃ q, k = q + 1 := ⟨k - 1, by omega⟩
  rw [spec_l01DrawList.f_eq]
  exact dlist_l0 b hb f n hn k (by omega) n.toNat k 0 i h [] (by omega) (by omega) hi rfl (by omega)
theorem terms_j0 (n : Int) (t : Bool) (i h : Int) (hi : 0 ≤ i) (out : List Int) (ho : out.length = n.toNat) (ht : t = true → 0 < n) (k : Nat) (hk : 10 ≤ k) :
    ∃ i' h' l, spec_l05DrawTerms.j0 k n t b i h out = some (b, i', h', l) ∧ l.length = n.toNat ∧ 0 ≤ i' := by
  rw [spec_l05DrawTerms.j0_eq]
  cases t with
  | true =>
    have hn := ht rfl
    obtain ⟨x, i1, h1, e1, x0, x1, _, j1⟩ := below_f b hb n i h hi k (by omega)
    have hx := x1 hn
    simp only [e1, bs, if_true]
    obtain ⟨y, i2, h2, e2, _, j2⟩ := pick_f b hb [1000001, (-1000001)] (by simp) i1 h1 j1 k (by omega)
    simp only [e2, bs]
    rw [if_pos x0, if_pos (by omega)]
    exact ⟨_, _, _, rfl, by simpa using ho, j2⟩
  | false =>
    exact ⟨_, _, _, rfl, ho, hi⟩
theorem terms_l0 (n : Int) (hn : n ≤ 1000) (K : Nat) (hK : 10 ≤ K) : ∀ (d k m : Nat) (i h : Int) (out : List Int), (n - m).toNat ≤ d → d < k → 0 ≤ i → out.length = m → (m : Int) ≤ max n 0 →
    ∃ i' h' l, spec_l05DrawTerms.l0 K k n (m : Int) b i h out = some (b, i', h', l) ∧ l.length = n.toNat ∧ 0 ≤ i' := by
  have fin : ∀ (k m : Nat) (i h : Int) (out : List Int), ¬ ((m : Int) < n) → 0 ≤ i → out.length = m → (m : Int) ≤ max n 0 → ∃ i' h' l, spec_l05DrawTerms.l0 K (k + 1) n (m : Int) b i h out = some (b, i', h', l) ∧ l.length = n.toNat ∧ 0 ≤ i' := by
    intro k m i h out c hi ho hm
    rw [spec_l05DrawTerms.l0_eq, if_neg c]
    obtain ⟨x, i1, h1, e1, j1⟩ := once_f b hb 15 i h hi K (by omega)
    simp only [e1, bs]
    cases x with
    | true =>
      rw [if_pos rfl]
      exact terms_j0 b hb n _ i1 h1 j1 out (by omega) (fun q => of_decide_eq_true q) K hK
    | false =>
      rw [if_neg (by decide)]
      exact terms_j0 b hb n _ i1 h1 j1 out (by omega) (fun q => by cases q) K hK
  intro d
  induction d with
  | zero =>
    intro k m i h out hd hk hi ho hm
    obtain ⟨k, rfl⟩ : ∃ q, k = q + 1 := ⟨k - 1, by omega⟩
    exact fin k m i h out (by omega) hi ho hm
  | succ d ih =>
    intro k m i h out hd hk hi ho hm
    obtain ⟨k, rfl⟩ : ∃ q, k = q + 1 := ⟨k - 1, by omega⟩
    by_cases c : (m : Int) < n
    · rw [spec_l05DrawTerms.l0_eq, if_pos c]
      obtain ⟨x, i1, h1, e1, _, _, _, j1⟩ := below_f b hb 1000001 i h hi K (by omega)
      simp only [e1, bs]
      obtain ⟨y, i2, h2, e2, _, _, _, j2⟩ := below_f b hb 1000001 i1 h1 j1 K (by omega)
      simp only [e2, bs]
      obtain ⟨z, i3, h3, e3, _, _, _, j3⟩ := below_f b hb 9 i2 h2 j2 K (by omega)
      simp only [e3, bs]
      obtain ⟨v, i4, h4, e4, _, j4⟩ := pick_f b hb [1000000, (-1000000), x, (wrap64 (0 - y)), (wrap64 (z - 4)), 0] (by simp) i3 h3 j3 K (by omega)
      simp only [e4, bs]
      rw [if_pos (by omega), wrap_id (x := (m : Int) + 1) (by omega) (by omega)]
      exact ih k (m + 1) i4 h4 (out ++ [v]) (by omega) (by omega) j4 (by simp; omega) (by omega)
    · exact fin k m i h out c hi ho hm
theorem terms_f (n : Int) (hn : n ≤ 1000) (i h : Int) (hi : 0 ≤ i) (k : Nat) (hk : 1010 ≤ k) : ∃ i' h' l, spec_l05DrawTerms.f k n b i h = some (b, i', h', l) ∧ l.length = n.toNat ∧ 0 ≤ i' := by
  obtain ⟨k, rfl⟩ : ∃ q, k = q + 1 := ⟨k - 1, by omega⟩
  rw [spec_l05DrawTerms.f_eq]
  exact terms_l0 b hb n hn k (by omega) n.toNat k 0 i h [] (by omega) (by omega) hi rfl (by omega)
theorem series_j1 (f n : Int) (t : Bool) (i h : Int) (hi : 0 ≤ i) (out : List Int) (ho : out.length = n.toNat) (ht : t = true → 0 < n) (k : Nat) (hk : 10 ≤ k) :
    ∃ i' h' l, spec_l06DrawSeries.j1 k f n t b i h out = some (b, i', h', l) ∧ l.length = n.toNat ∧ 0 ≤ i' := by
  rw [spec_l06DrawSeries.j1_eq]
  cases t with
  | true =>
    have hn := ht rfl
    obtain ⟨x, i1, h1, e1, x0, x1, _, j1⟩ := below_f b hb n i h hi k (by omega)
    have hx := x1 hn
    simp only [e1, bs, if_true, modulus_is f k (by omega)]
    obtain ⟨y, i2, h2, e2, _, j2⟩ := pick_f b hb [(-1), md f, 0, 1] (by simp) i1 h1 j1 k (by omega)
    simp only [e2, bs]
    rw [if_pos x0, if_pos (by omega)]
    exact ⟨_, _, _, rfl, by simpa using ho, j2⟩
  | false =>
    exact ⟨_, _, _, rfl, ho, hi⟩
theorem series_j0 (f n : Int) (i h : Int) (hi : 0 ≤ i) (out : List Int) (ho : out.length = n.toNat) (k : Nat) (hk : 10 ≤ k) :
    ∃ i' h' l, spec_l06DrawSeries.j0 k f n b i h out = some (b, i', h', l) ∧ l.length = n.toNat ∧ 0 ≤ i' := by
  rw [spec_l06DrawSeries.j0_eq]
  obtain ⟨x, i1, h1, e1, j1⟩ := once_f b hb 20 i h hi k (by omega)
  simp only [e1, bs]
  cases x with
  | true =>
    rw [if_pos rfl]
    exact series_j1 b hb f n _ i1 h1 j1 out ho (fun q => of_decide_eq_true q) k hk
  | false =>
    rw [if_neg (by decide)]
    exact series_j1 b hb f n _ i1 h1 j1 out ho (fun q => by cases q) k hk
theorem series_f (f n first : Int) (hn : n ≤ 1000) (i h : Int) (hi : 0 ≤ i) (k : Nat) (hk : 1020 ≤ k) : ∃ i' h' l, spec_l06DrawSeries.f k f n first b i h = some (b, i', h', l) ∧ l.length = n.toNat ∧ 0 ≤ i' := by
  obtain ⟨k, rfl⟩ : ∃ q, k = q + 1 := ⟨k - 1, by omega⟩
  rw [spec_l06DrawSeries.f_eq]
  obtain ⟨i1, h1, l, e1, hl, j1⟩ := dlist_f b hb f n hn i h hi k (by omega)
  simp only [e1, bs]
  by_cases c : first ≥ 0
  · rw [if_pos c]
    by_cases c2 : n > 0
    · rw [if_pos c2, if_pos (by omega)]
      exact series_j0 b hb f n i1 h1 j1 _ (by simpa using hl) k (by omega)
    · rw [if_neg c2]
      exact series_j0 b hb f n i1 h1 j1 _ hl k (by omega)
  · rw [if_neg c]
    exact series_j0 b hb f n i1 h1 j1 _ hl k (by omega)
theorem points_j0 (f : Int) (t : Bool) (i h : Int) (hi : 0 ≤ i) (out : List Int) (ht : t = true → 0 < out.length) (k : Nat) (hk : 10 ≤ k) :
    ∃ i' h' l, spec_l07DrawPoints.j0 k f t b i h out = some (b, i', h', l) ∧ l.length = out.length ∧ 0 ≤ i' := by
  rw [spec_l07DrawPoints.j0_eq]
  cases t with
  | true =>
    have hn := ht rfl
    obtain ⟨x, i1, h1, e1, x0, x1, _, j1⟩ := below_f b hb (out.length : Int) i h hi k (by omega)
    have hx := x1 (by omega)
    simp only [e1, bs, if_true, modulus_is f k (by omega)]
    obtain ⟨y, i2, h2, e2, _, j2⟩ := pick_f b hb [(-1), md f] (by simp) i1 h1 j1 k (by omega)
    simp only [e2, bs]
    rw [if_pos x0, if_pos (by omega)]
    exact ⟨_, _, _, rfl, by simp, j2⟩
  | false =>
    exact ⟨_, _, _, rfl, rfl, hi⟩
theorem points_l0 (f n : Int) (hn : n ≤ 1000) (K : Nat) (hK : 1010 ≤ K) : ∀ (d k m : Nat) (i h : Int) (out : List Int), (n - m).toNat ≤ d → d < k → 0 ≤ i → out.length ≤ m → m ≤ 1000 → (0 < m → 0 < out.length) →
    ∃ i' h' l, spec_l07DrawPoints.l0 K k f n (m : Int) b i h out = some (b, i', h', l) ∧ l.length ≤ m + (n - m).toNat ∧ 0 ≤ i' ∧ ((0 < m ∨ 0 < n) → 0 < l.length) := by
  have fin : ∀ (k m : Nat) (i h : Int) (out : List Int), ¬ ((m : Int) < n) → 0 ≤ i → out.length ≤ m → (0 < m → 0 < out.length) → ∃ i' h' l, spec_l07DrawPoints.l0 K (k + 1) f n (m : Int) b i h out = some (b, i', h', l) ∧ l.length ≤ m + (n - m).toNat ∧ 0 ≤ i' ∧ ((0 < m ∨ 0 < n) → 0 < l.length) := by
    intro k m i h out c hi ho hm
    rw [spec_l07DrawPoints.l0_eq, if_neg c]
    obtain ⟨x, i1, h1, e1, j1⟩ := once_f b hb 25 i h hi K (by omega)
    simp only [e1, bs]
    cases x with
    | true =>
      rw [if_pos rfl]
      obtain ⟨i2, h2, l, e2, hl, j2⟩ := points_j0 b hb f (decide ((out.length : Int) > 0)) i1 h1 j1 out (fun q => by have := of_decide_eq_true q; omega) K (by omega)
      exact ⟨_, _, _, e2, by omega, j2, fun q => by have := hm (by omega); omega⟩
    | false =>
      rw [if_neg (by decide)]
      obtain ⟨i2, h2, l, e2, hl, j2⟩ := points_j0 b hb f false i1 h1 j1 out (fun q => by cases q) K (by omega)
      exact ⟨_, _, _, e2, by omega, j2, fun q => by have := hm (by omega); omega⟩
  intro d
  induction d with
  | zero =>
    intro k m i h out hd hk hi ho hm1 hm
    obtain ⟨k, rfl⟩ : ∃ q, k = q + 1 := ⟨k - 1, by omega⟩
    exact fin k m i h out (by omega) hi ho hm
  | succ d ih =>
    intro k m i h out hd hk hi ho hm1 hm
    obtain ⟨k, rfl⟩ : ∃ q, k = q + 1 := ⟨k - 1, by omega⟩
    by_cases c : (m : Int) < n
    · rw [spec_l07DrawPoints.l0_eq, if_pos c]
      obtain ⟨x, i1, h1, e1, j1⟩ := elem_f b hb f i h hi K (by omega)
      simp only [e1, bs]
      rw [has_is out x (by omega) K (by omega)]
      simp only [bs]
      have step : ∀ (i2 h2 : Int) (o : List Int), 0 ≤ i2 → o.length ≤ m + 1 → 0 < o.length → ∃ i' h' l, spec_l07DrawPoints.l0 K k f n (wrap64 ((m : Int) + 1)) b i2 h2 o = some (b, i', h', l) ∧ l.length ≤ m + (n - m).toNat ∧ 0 ≤ i' ∧ ((0 < m ∨ 0 < n) → 0 < l.length) := by
        intro i2 h2 o hi2 ho2 ho3
        rw [wrap_id (x := (m : Int) + 1) (by omega) (by omega)]
        obtain ⟨i', h', l, e, hl, hj, hp⟩ := ih k (m + 1) i2 h2 o (by omega) (by omega) hi2 ho2 (by omega) (fun _ => ho3)
        exact ⟨i', h', l, e, by omega, hj, fun _ => hp (by omega)⟩
      by_cases cx : x ∈ out
      · rw [decide_eq_true cx, if_neg (by decide)]
        obtain ⟨y, i2, h2, e2, j2⟩ := once_f b hb 60 i1 h1 j1 K (by omega)
        simp only [e2, bs]
        have hpos : 0 < out.length := List.length_pos_of_mem cx
        cases y with
        | true =>
          rw [if_pos rfl, if_pos (by omega)]
          exact step i2 h2 _ j2 (by simp; omega) (by simp)
        | false =>
          rw [if_neg (by decide)]
          exact step i2 h2 _ j2 (by omega) hpos
      · rw [decide_eq_false cx, if_pos (by decide), if_pos (by omega)]
        exact step i1 h1 _ j1 (by simp; omega) (by simp)
    · exact fin k m i h out c hi ho hm
theorem points_f (f n : Int) (hn : n ≤ 1000) (i h : Int) (hi : 0 ≤ i) (k : Nat) (hk : 1020 ≤ k) : ∃ i' h' l, spec_l07DrawPoints.f k f n b i h = some (b, i', h', l) ∧ l.length ≤ n.toNat ∧ 0 ≤ i' ∧ (0 < n → 0 < l.length) := by
  obtain ⟨k, rfl⟩ : ∃ q, k = q + 1 := ⟨k - 1, by omega⟩
  rw [spec_l07DrawPoints.f_eq]
  obtain ⟨i', h', l, e, hl, hj, hp⟩ := points_l0 b hb f n hn k (by omega) n.toNat k 0 i h [] (by omega) (by omega) hi (by simp) (by omega) (fun q => absurd q (by omega))
  exact ⟨i', h', l, e, by omega, hj, fun q => hp (.inr q)⟩
theorem any_f (f i h : Int) (hi : 0 ≤ i) (k : Nat) (hk : 20 ≤ k) : ∃ x i' h', spec_l01DrawAny.f k f b i h = some (x, b, i', h') ∧ 0 ≤ i' := by
  obtain ⟨k, rfl⟩ : ∃ q, k = q + 1 := ⟨k - 1, by omega⟩
  rw [spec_l01DrawAny.f_eq]
  obtain ⟨x, i1, h1, e1, _, _, _, j1⟩ := below_f b hb 8 i h hi k (by omega)
  simp only [e1, bs]
  by_cases c0 : x = 0
  · rw [if_pos c0]
    obtain ⟨y, i2, h2, e2, _, _, _, j2⟩ := below_f b hb 300 i1 h1 j1 k (by omega)
    simp only [e2, bs]
    exact ⟨_, _, _, rfl, j2⟩
  rw [if_neg c0]
  by_cases c1 : x = 1
  · rw [if_pos c1]
    obtain ⟨y, i2, h2, e2, _, j2⟩ := pick_f b hb [9223372036854775807, (-9223372036854775808), (-9223372036854775807), 4611686018427387904] (by simp) i1 h1 j1 k (by omega)
    simp only [e2, bs]
    exact ⟨_, _, _, rfl, j2⟩
  rw [if_neg c1]
  by_cases c2 : x = 2
  · rw [if_pos c2, modulus_is f k (by omega)]
    simp only [bs]
    obtain ⟨y, i2, h2, e2, _, _, _, j2⟩ := below_f b hb 1000 i1 h1 j1 k (by omega)
    simp only [e2, bs]
    exact ⟨_, _, _, rfl, j2⟩
  rw [if_neg c2]
  by_cases c3 : x = 3
  · rw [if_pos c3]
    obtain ⟨y, i2, h2, e2, _, _, _, j2⟩ := below_f b hb 16777216 i1 h1 j1 k (by omega)
    simp only [e2, bs]
    obtain ⟨z, i3, h3, e3, _, _, _, j3⟩ := below_f b hb 16777216 i2 h2 j2 k (by omega)
    simp only [e3, bs]
    exact ⟨_, _, _, rfl, j3⟩
  · rw [if_neg c3]
    obtain ⟨y, i2, h2, e2, j2⟩ := elem_f b hb f i1 h1 j1 k (by omega)
    simp only [e2, bs]
    exact ⟨_, _, _, rfl, j2⟩
end
/-! ### arithmetic: it answers -/
theorem copy_f (a : List Int) (ha : a.length ≤ 1048576) (k : Nat) (hk : a.length + 1 < k) : spec_l01Copy.f k a = some a := by
  obtain ⟨k, rfl⟩ : ∃ q, k = q + 1 := ⟨k - 1, by omega⟩
  rw [spec_l01Copy.f_eq]
  have := append_loop (fun fu s i => spec_l01Copy.l0 k fu a i s) a id 0 [] (by
    intro fu s _
    simp only [spec_l01Copy.l0_eq]
    rw [if_neg (by omega)]) (by
    intro fu i s h _ hs
    simp only [spec_l01Copy.l0_eq]
    rw [if_pos (by omega), if_pos (by omega), if_pos (by omega), if_pos (by simp at hs; omega), rd_at a i h, wrap_next h (by omega)]
    rfl) k (by omega)
  simpa using this
theorem cut_some (a : List Int) (n : Nat) (hn : n ≤ a.length) (ha : a.length ≤ 10000) (k : Nat) (hk : 10010 ≤ k) : ∃ r, (spec_l01Copy.f k (cut a 0 (n : Int))).bind (fun r1 => some r1) = some r ∧ r.length ≤ a.length := by
  have e : cut a 0 (n : Int) = a.take n := by simp [cut]
  rw [e, copy_f _ (by rw [List.length_take]; omega) k (by rw [List.length_take]; omega), bs]
  exact ⟨_, rfl, by rw [List.length_take]; omega⟩
theorem cut_l0 (a : List Int) (ha : a.length ≤ 10000) (K : Nat) (hK : 10010 ≤ K) : ∀ (n k : Nat), n ≤ a.length → n < k → ∃ r, spec_l03Cut.l0 K k a (n : Int) = some r ∧ r.length ≤ a.length := by
  intro n
  induction n with
  | zero =>
    intro k hn hk
    obtain ⟨k, rfl⟩ : ∃ q, k = q + 1 := ⟨k - 1, by omega⟩
    rw [spec_l03Cut.l0_eq, if_neg (by omega), if_pos (by omega), if_pos (by omega)]
    exact cut_some a 0 (by omega) ha K hK
  | succ n ih =>
    intro k hn hk
    obtain ⟨k, rfl⟩ : ∃ q, k = q + 1 := ⟨k - 1, by omega⟩
    rw [spec_l03Cut.l0_eq, if_pos (by omega), wrap_id (x := ((n + 1 : Nat) : Int) - 1) (by omega) (by omega), if_pos (by omega), if_pos (by omega)]
    by_cases c : rdI a (((n + 1 : Nat) : Int) - 1) = 0
    · rw [if_pos c, show ((n + 1 : Nat) : Int) - 1 = (n : Int) by omega]
      exact ih k (by omega) (by omega)
    · rw [if_neg c, if_pos (by omega), if_pos (by omega)]
      exact cut_some a (n + 1) hn ha K hK
theorem cut_f (a : List Int) (ha : a.length ≤ 10000) (k : Nat) (hk : 10020 ≤ k) : ∃ r, spec_l03Cut.f k a = some r ∧ r.length ≤ a.length := by
  obtain ⟨k, rfl⟩ : ∃ q, k = q + 1 := ⟨k - 1, by omega⟩
  rw [spec_l03Cut.f_eq]
  exact cut_l0 a ha k (by omega) a.length k (Nat.le_refl _) (by omega)
theorem reduce_some (f x : Int) (k : Nat) (hk : 3 ≤ k) : ∃ r, spec_Reduce.f k f x = some r := by
  obtain ⟨k, rfl⟩ : ∃ q, k = q + 1 := ⟨k - 1, by omega⟩
  rw [spec_Reduce.f_eq, modulus_is f k (by omega), bs]
  by_cases c : md f = 0
  · rw [if_pos c]; exact ⟨_, rfl⟩
  · rw [if_neg c, if_pos c]
    split <;> exact ⟨_, rfl⟩
theorem mul_some (f x y : Int) (k : Nat) (hk : 5 ≤ k) : ∃ r, spec_Mul.f k f x y = some r := by
  obtain ⟨k, rfl⟩ : ∃ q, k = q + 1 := ⟨k - 1, by omega⟩
  rw [spec_Mul.f_eq, modulus_is f k (by omega), bs]
  by_cases c : md f = 0
  · rw [if_pos c]; exact ⟨_, rfl⟩
  · rw [if_neg c]
    obtain ⟨u, hu⟩ := reduce_some f x k (by omega)
    obtain ⟨v, hv⟩ := reduce_some f y k (by omega)
    obtain ⟨z, hz⟩ := reduce_some f (wrap64 (u * v)) k (by omega)
    simp only [hu, hv, hz, bs]
    exact ⟨_, rfl⟩
theorem add_some (f x y : Int) (k : Nat) (hk : 5 ≤ k) : ∃ r, spec_Add.f k f x y = some r := by
  obtain ⟨k, rfl⟩ : ∃ q, k = q + 1 := ⟨k - 1, by omega⟩
  rw [spec_Add.f_eq, modulus_is f k (by omega), bs]
  by_cases c : md f = 0
  · rw [if_pos c]; exact ⟨_, rfl⟩
  · rw [if_neg c]
    obtain ⟨u, hu⟩ := reduce_some f x k (by omega)
    obtain ⟨v, hv⟩ := reduce_some f y k (by omega)
    obtain ⟨z, hz⟩ := reduce_some f (wrap64 (u + v)) k (by omega)
    simp only [hu, hv, hz, bs]
    exact ⟨_, rfl⟩
theorem power_l0 (K : Nat) (p : Int) (hp : p ≠ 0) : ∀ (d k : Nat) (n x o : Int), n < 2 ^ d → n < 4611686018427387904 → d < k → ∃ r, spec_Power.l0 K k p x n o = some r := by
  intro d
  induction d with
  | zero =>
    intro k n x o hn hn2 hk
    obtain ⟨k, rfl⟩ : ∃ q, k = q + 1 := ⟨k - 1, by omega⟩
    rw [spec_Power.l0_eq, if_neg (by omega)]
    exact ⟨_, rfl⟩
  | succ d ih =>
    intro k n x o hn hn2 hk
    obtain ⟨k, rfl⟩ : ∃ q, k = q + 1 := ⟨k - 1, by omega⟩
    rw [spec_Power.l0_eq]
    by_cases c : n > 0
    · have e : Int.tdiv n 2 = n / 2 := Int.tdiv_eq_ediv_of_nonneg (by omega)
      rw [if_pos c, e, wrap_id (x := n / 2) (by omega) (by omega)]
      have h2 : n / 2 < 2 ^ d := by
        rw [Int.pow_succ] at hn
        omega
      by_cases c2 : Int.tmod n 2 = 1
      · rw [if_pos c2, if_pos hp, if_pos hp]
        exact ih k _ _ _ h2 (by omega) (by omega)
      · rw [if_neg c2, if_pos hp]
        exact ih k _ _ _ h2 (by omega) (by omega)
    · rw [if_neg c]; exact ⟨_, rfl⟩
theorem power_some (f x e : Int) (he : 0 ≤ e) (k : Nat) (hk : 100 ≤ k) : ∃ r, spec_Power.f k f x e = some r := by
  obtain ⟨k, rfl⟩ : ∃ q, k = q + 1 := ⟨k - 1, by omega⟩
  rw [spec_Power.f_eq, modulus_is f k (by omega), bs]
  by_cases c : md f = 0
  · rw [if_pos c]; exact ⟨_, rfl⟩
  · have hp := md_pos c
    rw [if_neg c]
    obtain ⟨u, hu⟩ := reduce_some f x k (by omega)
    simp only [hu, bs]
    by_cases c2 : u = 0
    · rw [if_pos c2]
      split
      · exact ⟨_, rfl⟩
      · split <;> exact ⟨_, rfl⟩
    · rw [if_neg c2, wrap_id (x := md f - 1) (by omega) (by omega), if_pos (by omega), if_neg (by have := Int.tmod_nonneg (md f - 1) he; omega)]
      rw [spec_Power.j0_eq]
      have h1 := Int.tmod_lt_of_pos e (show 0 < md f - 1 by omega)
      exact power_l0 k (md f) c 40 k _ _ _ (by omega) (by omega) (by omega)
theorem elems_some (f : Int) (a : List Int) (ha : a.length ≤ 10000) (k : Nat) (hk : 10010 ≤ k) : ∃ r, spec_l03Elements.f k f a = some r := by
  obtain ⟨k, rfl⟩ : ∃ q, k = q + 1 := ⟨k - 1, by omega⟩
  rw [spec_l03Elements.f_eq, modulus_is f k (by omega), bs]
  by_cases c : md f = 0
  · rw [if_pos c]; exact ⟨_, rfl⟩
  · rw [if_neg c]
    have key : ∀ (d fu i : Nat), i + d = a.length → d < fu → ∃ r, spec_l03Elements.l0 k fu a (md f) (i : Int) = some r := by
      intro d
      induction d with
      | zero =>
        intro fu i hi hf
        obtain ⟨fu, rfl⟩ : ∃ q, fu = q + 1 := ⟨fu - 1, by omega⟩
        rw [spec_l03Elements.l0_eq, if_neg (by omega)]; exact ⟨_, rfl⟩
      | succ d ih =>
        intro fu i hi hf
        obtain ⟨fu, rfl⟩ : ∃ q, fu = q + 1 := ⟨fu - 1, by omega⟩
        rw [spec_l03Elements.l0_eq, if_pos (by omega), if_pos (by omega), if_pos (by omega), in_is _ _ _ k (by omega), bs, wrap_next (show i < a.length by omega) (by omega)]
        split
        · exact ⟨_, rfl⟩
        · exact ih fu (i + 1) (by omega) (by omega)
    exact key a.length k 0 (by omega) (by omega)
theorem polyok_some (f : Int) (a : List Int) (k : Nat) (hk : 10020 ≤ k) : ∃ r, spec_PolyOk.f k f a = some r := by
  obtain ⟨k, rfl⟩ : ∃ q, k = q + 1 := ⟨k - 1, by omega⟩
  rw [spec_PolyOk.f_eq]
  by_cases c : (a.length : Int) > 400
  · rw [if_pos c]; exact ⟨_, rfl⟩
  · rw [if_neg c]
    obtain ⟨r, hr⟩ := elems_some f a (by omega) k (by omega)
    simp only [hr, bs]
    split
    · exact ⟨_, rfl⟩
    · split
      · exact ⟨_, rfl⟩
      · rw [wrap_id (by omega) (by omega), if_pos (by omega), if_pos (by omega)]; exact ⟨_, rfl⟩
theorem eval_some (f : Int) (a : List Int) (x : Int) (k : Nat) (hk : 10030 ≤ k) (ha : a.length ≤ 10000) : ∃ r, spec_EvalPoly.f k f a x = some r := by
  obtain ⟨k, rfl⟩ : ∃ q, k = q + 1 := ⟨k - 1, by omega⟩
  rw [spec_EvalPoly.f_eq]
  obtain ⟨r, hr⟩ := polyok_some f a k (by omega)
  simp only [hr, bs]
  split
  · exact ⟨_, rfl⟩
  · have key : ∀ (d fu i : Nat) (s : Int), i + d = a.length → d < fu → ∃ r, spec_EvalPoly.l0 k fu f a x s (i : Int) = some r := by
      intro d
      induction d with
      | zero =>
        intro fu i s hi hf
        obtain ⟨fu, rfl⟩ : ∃ q, fu = q + 1 := ⟨fu - 1, by omega⟩
        rw [spec_EvalPoly.l0_eq, if_neg (by omega)]; exact ⟨_, rfl⟩
      | succ d ih =>
        intro fu i s hi hf
        obtain ⟨fu, rfl⟩ : ∃ q, fu = q + 1 := ⟨fu - 1, by omega⟩
        obtain ⟨u, hu⟩ := power_some f x (i : Int) (by omega) k (by omega)
        obtain ⟨v, hv⟩ := mul_some f (rdI a (i : Int)) u k (by omega)
        obtain ⟨z, hz⟩ := add_some f s v k (by omega)
        rw [spec_EvalPoly.l0_eq, if_pos (by omega), if_pos (by omega), if_pos (by omega)]
        simp only [hu, hv, hz, bs]
        rw [wrap_next (show i < a.length by omega) (by omega)]
        exact ih fu (i + 1) z (by omega) (by omega)
    exact key a.length k 0 0 (by omega) (by omega)
theorem pointsok_some (f : Int) (xs : List Int) (hx : xs.length ≤ 10000) (k : Nat) (hk : 10030 ≤ k) : ∃ r, spec_PointsOk.f k f xs = some r := by
  obtain ⟨k, rfl⟩ : ∃ q, k = q + 1 := ⟨k - 1, by omega⟩
  rw [spec_PointsOk.f_eq, in_is _ _ _ k (by omega), bs]
  split
  · exact ⟨_, rfl⟩
  · obtain ⟨r, hr⟩ := elems_some f xs hx k (by omega)
    simp only [hr, bs]
    split
    · exact ⟨_, rfl⟩
    · have key : ∀ (d fu i : Nat), i + d = xs.length → d < fu → ∃ r, spec_PointsOk.l0 k fu xs (i : Int) = some r := by
        intro d
        induction d with
        | zero =>
          intro fu i hi hf
          obtain ⟨fu, rfl⟩ : ∃ q, fu = q + 1 := ⟨fu - 1, by omega⟩
          rw [spec_PointsOk.l0_eq, if_neg (by omega)]; exact ⟨_, rfl⟩
        | succ d ih =>
          intro fu i hi hf
          obtain ⟨fu, rfl⟩ : ∃ q, fu = q + 1 := ⟨fu - 1, by omega⟩
          have hc : (cut xs 0 (i : Int)).length ≤ 10000 := by simp [cut]; omega
          rw [spec_PointsOk.l0_eq, if_pos (by omega), if_pos (by omega), if_pos (by omega), if_pos (by omega), if_pos (by omega), has_is _ _ (by omega) k (by omega), bs, wrap_next (show i < xs.length by omega) (by omega)]
          split
          · exact ⟨_, rfl⟩
          · exact ih fu (i + 1) (by omega) (by omega)
      exact key xs.length k 0 (by omega) (by omega)
theorem encword_some (f : Int) (xs m : List Int) (hx : xs.length ≤ 10000) (hm : m.length ≤ 10000) (k : Nat) (hk : 20050 ≤ k) : ∃ r, spec_EncodeWord.f k f xs m = some r ∧ r.length ≤ xs.length := by
  obtain ⟨k, rfl⟩ : ∃ q, k = q + 1 := ⟨k - 1, by omega⟩
  rw [spec_EncodeWord.f_eq]
  have hcode : ∃ r, spec_l07Code.f k f xs (m.length : Int) = some r := by
    obtain ⟨k, rfl⟩ : ∃ q, k = q + 1 := ⟨k - 1, by omega⟩
    rw [spec_l07Code.f_eq]
    split
    · obtain ⟨r, hr⟩ := pointsok_some f xs hx k (by omega)
      simp only [hr, bs]
      split
      · rw [in_is _ _ _ k (by omega), bs]; exact ⟨_, rfl⟩
      · exact ⟨_, rfl⟩
    · exact ⟨_, rfl⟩
  obtain ⟨r, hr⟩ := hcode
  simp only [hr, bs]
  split
  · exact ⟨_, rfl, by simp⟩
  · obtain ⟨r2, hr2⟩ := elems_some f m hm k (by omega)
    simp only [hr2, bs]
    split
    · exact ⟨_, rfl, by simp⟩
    · have key : ∀ (d fu i : Nat) (out : List Int), i + d = xs.length → d < fu → out.length = i → ∃ r, spec_EncodeWord.l0 k fu f xs m (i : Int) out = some r ∧ r.length ≤ xs.length := by
        intro d
        induction d with
        | zero =>
          intro fu i out hi hf ho
          obtain ⟨fu, rfl⟩ : ∃ q, fu = q + 1 := ⟨fu - 1, by omega⟩
          rw [spec_EncodeWord.l0_eq, if_neg (by omega)]; exact ⟨_, rfl, by omega⟩
        | succ d ih =>
          intro fu i out hi hf ho
          obtain ⟨fu, rfl⟩ : ∃ q, fu = q + 1 := ⟨fu - 1, by omega⟩
          obtain ⟨u, hu, hul⟩ := cut_f m hm k (by omega)
          obtain ⟨v, hv⟩ := eval_some f u (rdI xs (i : Int)) k (by omega) (by omega)
          rw [spec_EncodeWord.l0_eq, if_pos (by omega)]
          simp only [hu, bs]
          rw [if_pos (by omega), if_pos (by omega)]
          simp only [hv, bs]
          rw [if_pos (by omega), wrap_next (show i < xs.length by omega) (by omega)]
          exact ih fu (i + 1) _ (by omega) (by omega) (by simp; omega)
      exact key xs.length k 0 [] (by omega) (by omega) rfl
end Go.Vm.Pu
namespace Go.Vm.Pu
open Go Go.RowKit Go.Vm
set_option linter.unusedVariables false
set_option linter.unusedSimpArgs false
set_option linter.unusedSectionVars false
theorem tdiv2 (x : Int) : (0 ≤ x → Int.tdiv x 2 = x / 2) ∧ (x < 0 → Int.tdiv x 2 = -((-x) / 2)) := by
  refine ⟨fun h => Int.tdiv_eq_ediv_of_nonneg h, fun h => ?_⟩
  have e : Int.tdiv (-x) 2 = (-x) / 2 := Int.tdiv_eq_ediv_of_nonneg (by omega)
  rw [Int.neg_tdiv] at e
  omega
section
variable (b : List Int) (hb : b.length ≤ 1048576)
include hb
theorem word_l0 (f k9 n : Int) (hn : n ≤ 1000) (xs m : List Int) (K : Nat) (hK : 10 ≤ K) : ∀ (d k j : Nat) (i h : Int) (ys : List Int), (n - j).toNat ≤ d → d < k → 0 ≤ i → 0 < ys.length → j ≤ 1000 →
    ∃ i' h' ys', spec_l07DrawWord.l0 K k f k9 n (j : Int) b i h xs m ys = some (f, k9, b, i', h', xs, ys', m) ∧ ys'.length = ys.length ∧ 0 ≤ i' := by
  intro d
  induction d with
  | zero =>
    intro k j i h ys hd hk hi hy hj
    obtain ⟨k, rfl⟩ : ∃ q, k = q + 1 := ⟨k - 1, by omega⟩
    rw [spec_l07DrawWord.l0_eq, if_neg (by omega)]
    exact ⟨_, _, _, rfl, rfl, hi⟩
  | succ d ih =>
    intro k j i h ys hd hk hi hy hj
    obtain ⟨k, rfl⟩ : ∃ q, k = q + 1 := ⟨k - 1, by omega⟩
    rw [spec_l07DrawWord.l0_eq]
    by_cases c : (j : Int) < n
    · rw [if_pos c]
      obtain ⟨x, i1, h1, e1, x0, x1, _, j1⟩ := below_f b hb (ys.length : Int) i h hi K (by omega)
      have hx := x1 (by omega)
      simp only [e1, bs]
      obtain ⟨y, i2, h2, e2, j2⟩ := elem_f b hb f i1 h1 j1 K hK
      simp only [e2, bs]
      rw [if_pos x0, if_pos hx, wrap_id (by omega) (by omega)]
      obtain ⟨i', h', ys', e, hl, hj'⟩ := ih k (j + 1) i2 h2 (ys.set (Int.toNat x) y) (by omega) (by omega) j2 (by simpa using hy) (by omega)
      exact ⟨i', h', ys', e, by simpa using hl, hj'⟩
    · rw [if_neg c]
      exact ⟨_, _, _, rfl, rfl, hi⟩
theorem word_j1 (f k9 : Int) (xs m ys : List Int) (hx : xs.length ≤ 100) (hk9 : 1 ≤ k9) (hk92 : k9 ≤ 200) (hy : 0 < ys.length) (i h : Int) (hi : 0 ≤ i) (k : Nat) (hk : 1010 ≤ k) :
    ∃ i' h' ys', spec_l07DrawWord.j1 k f k9 b i h xs m ys = some (f, k9, b, i', h', xs, ys', m) ∧ ys'.length = ys.length ∧ 0 ≤ i' := by
  rw [spec_l07DrawWord.j1_eq]
  obtain ⟨x, i1, h1, e1, x0, x1, x2, j1⟩ := below_f b hb (wrap64 ((wrap64 (Int.tdiv (wrap64 ((xs.length : Int) - k9)) 2)) + 2)) i h hi k (by omega)
  have hxs : x ≤ 1000 := by
    have w1 : wrap64 ((xs.length : Int) - k9) = (xs.length : Int) - k9 := wrap_id (by omega) (by omega)
    have hd : -200 ≤ Int.tdiv ((xs.length : Int) - k9) 2 ∧ Int.tdiv ((xs.length : Int) - k9) 2 ≤ 200 := by
      have := tdiv2 ((xs.length : Int) - k9)
      by_cases c : 0 ≤ (xs.length : Int) - k9
      · rw [this.1 c]; omega
      · rw [this.2 (by omega)]; omega
    rw [w1, wrap_id (x := Int.tdiv ((xs.length : Int) - k9) 2) (by omega) (by omega), wrap_id (by omega) (by omega)] at x1 x2
    by_cases c : 0 < Int.tdiv ((xs.length : Int) - k9) 2 + 2
    · have := x1 c; omega
    · have := x2 (by omega); omega
  simp only [e1, bs]
  obtain ⟨y, i2, h2, e2, j2⟩ := once_f b hb 5 i1 h1 j1 k (by omega)
  simp only [e2, bs]
  cases y with
  | true =>
    rw [if_pos rfl, wrap_id (by omega) (by omega)]
    obtain ⟨z, i3, h3, e3, z0, z1, _, j3⟩ := below_f b hb ((xs.length : Int) + 1) i2 h2 j2 k (by omega)
    have hz := z1 (by omega)
    simp only [e3, bs]
    rw [spec_l07DrawWord.j2_eq]
    exact word_l0 b hb f k9 z (by omega) xs m k (by omega) 1000 k 0 i3 h3 ys (by omega) (by omega) j3 hy (by omega)
  | false =>
    rw [if_neg (by decide), spec_l07DrawWord.j2_eq]
    exact word_l0 b hb f k9 x (by omega) xs m k (by omega) 1000 k 0 i2 h2 ys (by omega) (by omega) j2 hy (by omega)
theorem word_j0 (f k9 : Int) (xs : List Int) (hx : xs.length ≤ 100) (hx0 : 0 < xs.length) (hk9 : 1 ≤ k9) (hk92 : k9 ≤ 200) (i h : Int) (hi : 0 ≤ i) (k : Nat) (hk : 20060 ≤ k) :
    ∃ i' h' ys' m, spec_l07DrawWord.j0 k f k9 b i h xs = some (f, k9, b, i', h', xs, ys', m) ∧ ys'.length ≤ 100 ∧ 0 ≤ i' := by
  rw [spec_l07DrawWord.j0_eq]
  obtain ⟨i1, h1, m, e1, hm, j1⟩ := dlist_f b hb f k9 (by omega) i h hi k (by omega)
  simp only [e1, bs]
  obtain ⟨r, hr, hrl⟩ := encword_some f xs m (by omega) (by omega) k (by omega)
  simp only [hr, bs]
  by_cases c : (r.length : Int) = 0
  · rw [if_pos c]
    obtain ⟨i2, h2, ys, e2, hys, j2⟩ := dlist_f b hb f (xs.length : Int) (by omega) i1 h1 j1 k (by omega)
    simp only [e2, bs]
    obtain ⟨i', h', ys', e, hl, hj⟩ := word_j1 b hb f k9 xs m ys hx hk9 hk92 (by omega) i2 h2 j2 k (by omega)
    exact ⟨i', h', ys', m, e, by omega, hj⟩
  · rw [if_neg c]
    obtain ⟨i', h', ys', e, hl, hj⟩ := word_j1 b hb f k9 xs m r hx hk9 hk92 (by omega) i1 h1 j1 k (by omega)
    exact ⟨i', h', ys', m, e, by omega, hj⟩
theorem word_f (i h : Int) (hi : 0 ≤ i) (k : Nat) (hk : 20070 ≤ k) : ∃ f k9 i' h' xs ys m, spec_l07DrawWord.f k b i h = some (f, k9, b, i', h', xs, ys, m) ∧ xs.length ≤ 100 ∧ ys.length ≤ 100 ∧ 0 ≤ i' := by
  obtain ⟨k, rfl⟩ : ∃ q, k = q + 1 := ⟨k - 1, by omega⟩
  rw [spec_l07DrawWord.f_eq]
  obtain ⟨f, i1, h1, e1, j1⟩ := field_f b hb i h hi k (by omega)
  simp only [e1, bs]
  obtain ⟨x, i2, h2, e2, x0, x1, _, j2⟩ := below_f b hb 8 i1 h1 j1 k (by omega)
  have hx := x1 (by omega)
  simp only [e2, bs]
  rw [wrap_id (x := 3 + x) (by omega) (by omega)]
  obtain ⟨i3, h3, xs, e3, hl, j3, hp⟩ := points_f b hb f (3 + x) (by omega) i2 h2 j2 k (by omega)
  have hxs := hp (by omega)
  simp only [e3, bs]
  obtain ⟨y, i4, h4, e4, y0, y1, _, j4⟩ := below_f b hb (xs.length : Int) i3 h3 j3 k (by omega)
  have hy := y1 (by omega)
  simp only [e4, bs]
  obtain ⟨t, i5, h5, e5, j5⟩ := once_f b hb 2 i4 h4 j4 k (by omega)
  simp only [e5, bs]
  cases t with
  | true =>
    rw [if_pos rfl]
    have w1 : wrap64 ((xs.length : Int) + 1) = (xs.length : Int) + 1 := wrap_id (by omega) (by omega)
    have hd : 0 ≤ Int.tdiv ((xs.length : Int) + 1) 2 ∧ Int.tdiv ((xs.length : Int) + 1) 2 ≤ 100 := by
      rw [(tdiv2 ((xs.length : Int) + 1)).1 (by omega)]; omega
    rw [w1, wrap_id (x := Int.tdiv ((xs.length : Int) + 1) 2) (by omega) (by omega)]
    obtain ⟨z, i6, h6, e6, z0, z1, z2, j6⟩ := below_f b hb (Int.tdiv ((xs.length : Int) + 1) 2) i5 h5 j5 k (by omega)
    have hz : z ≤ 100 := by
      by_cases c : 0 < Int.tdiv ((xs.length : Int) + 1) 2
      · have := z1 c; omega
      · have := z2 (by omega); omega
    simp only [e6, bs]
    rw [wrap_id (x := 1 + z) (by omega) (by omega)]
    obtain ⟨i', h', ys', m, e, hl', hj⟩ := word_j0 b hb f (1 + z) xs (by omega) hxs (by omega) (by omega) i6 h6 j6 k (by omega)
    exact ⟨_, _, _, _, _, _, _, e, by omega, hl', hj⟩
  | false =>
    rw [if_neg (by decide), wrap_id (x := 1 + y) (by omega) (by omega)]
    obtain ⟨i', h', ys', m, e, hl', hj⟩ := word_j0 b hb f (1 + y) xs (by omega) hxs (by omega) (by omega) i5 h5 j5 k (by omega)
    exact ⟨_, _, _, _, _, _, _, e, by omega, hl', hj⟩
/-- A drawn job. -/
def JobD (b : List Int) (r : Option (Int × Int × Int × List Int × Int × Int × List Int × List Int)) : Prop :=
  ∃ a f n i h A B, r = some (a, f, n, b, i, h, A, B) ∧ A.length ≤ 101 ∧ B.length ≤ 101 ∧ 0 ≤ i
theorem job_j0 (t0 t1 t4 a f n : Int) (A B : List Int) (hA : A.length ≤ 100) (hB : B.length ≤ 100) (i h : Int) (hi : 0 ≤ i) (k : Nat) (hk : 1010 ≤ k) : JobD b (spec_l10DrawJob.j0 k b i h t0 t1 t4 a f n A B) := by
  rw [spec_l10DrawJob.j0_eq]
  simp only [spec_l10DrawJob.j4_eq]
  obtain ⟨x, i1, h1, e1, j1⟩ := once_f b hb 12 i h hi k (by omega)
  simp only [e1, bs]
  cases x with
  | false => exact ⟨_, _, _, _, _, _, _, rfl, by omega, by omega, j1⟩
  | true =>
    rw [if_pos rfl]
    obtain ⟨x, i2, h2, e2, _, _, _, j2⟩ := below_f b hb 5 i1 h1 j1 k (by omega)
    simp only [e2, bs]
    by_cases c0 : x = 0
    · rw [if_pos c0]
      obtain ⟨y, i3, h3, e3, _, _, _, j3⟩ := below_f b hb 11 i2 h2 j2 k (by omega)
      simp only [e3, bs]
      obtain ⟨z, i4, h4, e4, _, j4⟩ := pick_f b hb [0, 12, (-1), (wrap64 (1 + y))] (by simp) i3 h3 j3 k (by omega)
      simp only [e4, bs]
      exact ⟨_, _, _, _, _, _, _, rfl, by omega, by omega, j4⟩
    rw [if_neg c0]
    by_cases c1 : x = 1
    · rw [if_pos c1]
      obtain ⟨y, i3, h3, e3, j3⟩ := field_f b hb i2 h2 j2 k (by omega)
      simp only [e3, bs]
      exact ⟨_, _, _, _, _, _, _, rfl, by omega, by omega, j3⟩
    rw [if_neg c1]
    by_cases c2 : x = 2
    · rw [if_pos c2]
      obtain ⟨z, i4, h4, e4, _, j4⟩ := pick_f b hb [1, 400, 401, (-1)] (by simp) i2 h2 j2 k (by omega)
      simp only [e4, bs]
      exact ⟨_, _, _, _, _, _, _, rfl, by omega, by omega, j4⟩
    rw [if_neg c2]
    by_cases c3 : x = 3
    · rw [if_pos c3, copy_f B (by omega) k (by omega)]
      simp only [bs]
      obtain ⟨z, i4, h4, e4, j4⟩ := any_f b hb f i2 h2 j2 k (by omega)
      simp only [e4, bs]
      rw [if_pos (by omega)]
      exact ⟨_, _, _, _, _, _, _, rfl, by omega, by simp; omega, j4⟩
    rw [if_neg c3]
    by_cases c4 : x = 4
    · rw [if_pos c4, copy_f A (by omega) k (by omega)]
      simp only [bs]
      obtain ⟨z, i4, h4, e4, _, j4⟩ := pick_f b hb [1099511627776, (-1099511627776), 1099511627777, 0, (-1)] (by simp) i2 h2 j2 k (by omega)
      simp only [e4, bs]
      rw [if_pos (by omega)]
      exact ⟨_, _, _, _, _, _, _, rfl, by simp; omega, by omega, j4⟩
    rw [if_neg c4]
    exact ⟨_, _, _, _, _, _, _, rfl, by omega, by omega, j2⟩
theorem job_j3 (t21 : Int) (t52 : Bool) (t0 t1 t4 a f n : Int) (i h : Int) (hi : 0 ≤ i) (k : Nat) (hk : 20070 ≤ k) : JobD b (spec_l10DrawJob.j3 k 5 t21 t52 b i h t0 t1 t4 a f n) := by
  rw [spec_l10DrawJob.j3_eq]
  have w6 : wrap64 (5 + 1) = 6 := wrap_id (by omega) (by omega)
  have w4 : wrap64 ((wrap64 (Int.tdiv 5 2)) + 2) = 4 := by
    have : Int.tdiv 5 2 = 2 := by decide
    rw [this, wrap_id (x := 2) (by omega) (by omega), wrap_id (by omega) (by omega)]; rfl
  simp only [w6, w4]
  cases t52 with
  | true =>
    rw [if_pos rfl]
    obtain ⟨x, i1, h1, e1, x0, x1, _, j1⟩ := below_f b hb 6 i h hi k (by omega)
    have hx := x1 (by omega)
    simp only [e1, bs]
    obtain ⟨i2, h2, l, e2, hl, j2⟩ := dlist_f b hb f x (by omega) i1 h1 j1 k (by omega)
    simp only [e2, bs]
    obtain ⟨A, e3, hA⟩ := cut_f l (by omega) k (by omega)
    simp only [e3, bs]
    obtain ⟨y, i4, h4, e4, y0, y1, _, j4⟩ := below_f b hb 4 i2 h2 j2 k (by omega)
    have hy := y1 (by omega)
    simp only [e4, bs]
    obtain ⟨i5, h5, l5, e5, hl5, j5⟩ := dlist_f b hb f y (by omega) i4 h4 j4 k (by omega)
    simp only [e5, bs]
    obtain ⟨B, e6, hB⟩ := cut_f l5 (by omega) k (by omega)
    simp only [e6, bs]
    exact job_j0 b hb t0 t1 t4 a f n A B (by omega) (by omega) i5 h5 j5 k (by omega)
  | false =>
    rw [if_neg (by decide)]
    by_cases c6 : t21 = 6
    · rw [if_pos c6]
      obtain ⟨x, i1, h1, e1, x0, x1, _, j1⟩ := below_f b hb 6 i h hi k (by omega)
      have hx := x1 (by omega)
      simp only [e1, bs]
      obtain ⟨i2, h2, A, e2, hA, j2⟩ := terms_f b hb x (by omega) i1 h1 j1 k (by omega)
      simp only [e2, bs]
      obtain ⟨y, i4, h4, e4, y0, y1, _, j4⟩ := below_f b hb 6 i2 h2 j2 k (by omega)
      have hy := y1 (by omega)
      simp only [e4, bs]
      obtain ⟨i5, h5, B, e5, hB, j5⟩ := terms_f b hb y (by omega) i4 h4 j4 k (by omega)
      simp only [e5, bs]
      exact job_j0 b hb t0 t1 t4 a 0 n A B (by omega) (by omega) i5 h5 j5 k (by omega)
    rw [if_neg c6]
    by_cases c7 : t21 = 7
    · rw [if_pos c7]
      obtain ⟨x, i1, h1, e1, x0, x1, _, j1⟩ := below_f b hb 5 i h hi k (by omega)
      have hx := x1 (by omega)
      simp only [e1, bs]
      obtain ⟨y, i4, h4, e4, y0, y1, _, j4⟩ := below_f b hb 3 i1 h1 j1 k (by omega)
      have hy := y1 (by omega)
      simp only [e4, bs]
      rw [wrap_id (x := 1 + x) (by omega) (by omega)]
      obtain ⟨i5, h5, A, e5, hA, j5⟩ := series_f b hb f (1 + x) (wrap64 (1 + y)) (by omega) i4 h4 j4 k (by omega)
      simp only [e5, bs]
      exact job_j0 b hb t0 t1 t4 a f n A [] (by omega) (by simp) i5 h5 j5 k (by omega)
    rw [if_neg c7]
    by_cases c8 : t21 = 8
    · rw [if_pos c8]
      obtain ⟨x, i1, h1, e1, x0, x1, _, j1⟩ := below_f b hb 6 i h hi k (by omega)
      have hx := x1 (by omega)
      simp only [e1, bs]
      obtain ⟨i2, h2, l, e2, hl, j2⟩ := dlist_f b hb f x (by omega) i1 h1 j1 k (by omega)
      simp only [e2, bs]
      obtain ⟨A, e3, hA⟩ := cut_f l (by omega) k (by omega)
      simp only [e3, bs]
      obtain ⟨y, i4, h4, e4, y0, y1, _, j4⟩ := below_f b hb 6 i2 h2 j2 k (by omega)
      have hy := y1 (by omega)
      simp only [e4, bs]
      obtain ⟨i5, h5, B, e5, hB, j5⟩ := dlist_f b hb f y (by omega) i4 h4 j4 k (by omega)
      simp only [e5, bs]
      exact job_j0 b hb t0 t1 t4 a f n A B (by omega) (by omega) i5 h5 j5 k (by omega)
    rw [if_neg c8]
    by_cases c9 : t21 = 9
    · rw [if_pos c9]
      obtain ⟨x, i1, h1, e1, x0, x1, _, j1⟩ := below_f b hb 5 i h hi k (by omega)
      have hx := x1 (by omega)
      simp only [e1, bs]
      rw [wrap_id (x := 1 + x) (by omega) (by omega)]
      obtain ⟨i2, h2, A, e2, hA, j2, _⟩ := points_f b hb f (1 + x) (by omega) i1 h1 j1 k (by omega)
      simp only [e2, bs]
      obtain ⟨i5, h5, B, e5, hB, j5⟩ := dlist_f b hb f (A.length : Int) (by omega) i2 h2 j2 k (by omega)
      simp only [e5, bs]
      exact job_j0 b hb t0 t1 t4 a f n A B (by omega) (by omega) i5 h5 j5 k (by omega)
    rw [if_neg c9]
    by_cases c11 : t21 = 11
    · rw [if_pos c11]
      obtain ⟨g, k9, i5, h5, xs, ys, m, e5, hA, hB, j5⟩ := word_f b hb i h hi k (by omega)
      simp only [e5, bs]
      exact job_j0 b hb t0 t1 t4 a g k9 xs ys (by omega) (by omega) i5 h5 j5 k (by omega)
    rw [if_neg c11]
    exact job_j0 b hb t0 t1 t4 a f n [] [] (by simp) (by simp) i h hi k (by omega)
theorem pow_k (k6 : Int) (h0 : 0 ≤ k6) (h1 : k6 < 4) : IntKind.u64.wrap k6 = k6 ∧ wrap64 (1 * 2 ^ (Int.toNat k6)) ≤ 8 := by
  have e : k6 = 0 ∨ k6 = 1 ∨ k6 = 2 ∨ k6 = 3 := by omega
  rcases e with rfl | rfl | rfl | rfl <;> exact ⟨by decide, by decide⟩
theorem job_j2 (k6 : Int) (h0 : 0 ≤ k6) (h1 : k6 < 4) (t21 : Int) (t33 : Bool) (t0 t1 t4 a f n : Int) (i h : Int) (hi : 0 ≤ i) (k : Nat) (hk : 20070 ≤ k) : JobD b (spec_l10DrawJob.j2 k 5 k6 t21 t33 b i h t0 t1 t4 a f n) := by
  rw [spec_l10DrawJob.j2_eq]
  obtain ⟨p1, p2⟩ := pow_k b hb k6 h0 h1
  rw [p1]
  cases t33 with
  | true =>
    rw [if_pos rfl, if_pos h0, if_pos (by omega)]
    obtain ⟨i2, h2, A, e2, hA, j2⟩ := dlist_f b hb f _ (show wrap64 (1 * 2 ^ (Int.toNat k6)) ≤ 1000 by omega) i h hi k (by omega)
    simp only [e2, bs]
    rw [if_pos h0, if_pos (by omega)]
    obtain ⟨i5, h5, B, e5, hB, j5⟩ := dlist_f b hb f _ (show wrap64 (1 * 2 ^ (Int.toNat k6)) ≤ 1000 by omega) i2 h2 j2 k (by omega)
    simp only [e5, bs]
    exact job_j0 b hb t0 t1 t4 a f n A B (by omega) (by omega) i5 h5 j5 k (by omega)
  | false =>
    rw [if_neg (by decide)]
    split
    · exact job_j3 b hb _ _ t0 t1 t4 a f n i h hi k hk
    · exact job_j3 b hb _ _ t0 t1 t4 a f n i h hi k hk
theorem job_j1 (k6 : Int) (h0 : 0 ≤ k6) (h1 : k6 < 4) (t21 : Int) (t22 : Bool) (t0 t1 t4 a f n : Int) (i h : Int) (hi : 0 ≤ i) (k : Nat) (hk : 20070 ≤ k) : JobD b (spec_l10DrawJob.j1 k 5 k6 t21 t22 b i h t0 t1 t4 a f n) := by
  rw [spec_l10DrawJob.j1_eq]
  obtain ⟨p1, p2⟩ := pow_k b hb k6 h0 h1
  rw [p1]
  cases t22 with
  | true =>
    rw [if_pos rfl, if_pos h0, if_pos (by omega)]
    obtain ⟨i2, h2, A, e2, hA, j2⟩ := dlist_f b hb f _ (show wrap64 (1 * 2 ^ (Int.toNat k6)) ≤ 1000 by omega) i h hi k (by omega)
    simp only [e2, bs]
    exact job_j0 b hb t0 t1 t4 a f n A [] (by omega) (by simp) i2 h2 j2 k (by omega)
  | false =>
    rw [if_neg (by decide)]
    split
    · exact job_j2 b hb k6 h0 h1 _ _ t0 t1 t4 a f n i h hi k hk
    · exact job_j2 b hb k6 h0 h1 _ _ t0 t1 t4 a f n i h hi k hk
theorem job_f (i h : Int) (hi : 0 ≤ i) (k : Nat) (hk : 20080 ≤ k) : JobD b (spec_l10DrawJob.f k 5 b i h) := by
  obtain ⟨k, rfl⟩ : ∃ q, k = q + 1 := ⟨k - 1, by omega⟩
  rw [spec_l10DrawJob.f_eq]
  obtain ⟨x, i1, h1, e1, _, _, _, j1⟩ := below_f b hb 11 i h hi k (by omega)
  simp only [e1, bs]
  obtain ⟨y, i2, h2, e2, _, _, _, j2⟩ := below_f b hb 9 i1 h1 j1 k (by omega)
  simp only [e2, bs]
  obtain ⟨z, i3, h3, e3, z0, z1, _, j3⟩ := below_f b hb 4 i2 h2 j2 k (by omega)
  have hz := z1 (by omega)
  simp only [e3, bs]
  split
  · exact job_j1 b hb z z0 hz _ _ 0 0 0 _ y 0 i3 h3 j3 k (by omega)
  · exact job_j1 b hb z z0 hz _ _ 0 0 0 _ y 0 i3 h3 j3 k (by omega)
end
/-! ### a job's bytes -/
theorem putlist_some (out l : List Int) (ho : out.length ≤ 100000) (hl : l.length ≤ 400) (hw : Wd l) (hbs : Bs out) (k : Nat) (hk : 200000 ≤ k) : ∃ r, spec_l10PutList.f k out l = some r ∧ Bs r ∧ r.length ≤ out.length + 7 * (l.length + 1) := by
  obtain ⟨k, rfl⟩ : ∃ q, k = q + 1 := ⟨k - 1, by omega⟩
  have hv := vi_length 6 (unz (l.length : Int))
  rw [spec_l10PutList.f_eq, put_f (l.length : Int) (by omega) (by omega) k (by omega), bs, join_is out _ (by omega) (by omega) k (by omega) (by omega), bs]
  have inner : ∀ (K fu0 i : Nat) (v : List Int), v.length ≤ 7 → 0 < fu0 → ∀ (d fu j : Nat) (o : List Int), j + d = v.length → d < fu → o.length ≤ 200000 →
      spec_l10PutList.l1 K fu0 fu l (i : Int) (v.length : Int) (j : Int) o v = spec_l10PutList.l0 K fu0 l (wrap64 ((i : Int) + 1)) (o ++ v.drop j) := by
    intro K fu0 i v hv hf0 d
    induction d with
    | zero =>
      intro fu j o hj hf ho
      obtain ⟨fu, rfl⟩ : ∃ q, fu = q + 1 := ⟨fu - 1, by omega⟩
      rw [spec_l10PutList.l1_eq, if_neg (by omega), List.drop_of_length_le (by omega), List.append_nil]
    | succ d ih =>
      intro fu j o hj hf ho
      obtain ⟨fu, rfl⟩ : ∃ q, fu = q + 1 := ⟨fu - 1, by omega⟩
      have hjl : j < v.length := by omega
      rw [spec_l10PutList.l1_eq, if_pos (by omega), if_pos (by omega), if_pos (by omega), if_pos (by omega), wrap_next hjl (by omega), rd_at v j hjl]
      have ho2 : (o ++ [v[j]]).length ≤ 200000 ∨ True := .inr trivial
      by_cases hsz : (o ++ [v[j]]).length ≤ 200000
      · rw [ih fu (j + 1) _ (by omega) (by omega) hsz, drop_cons v j hjl, List.append_assoc]; rfl
      · have hd0 : ∀ (d' fu j : Nat) (o : List Int), j + d' = v.length → d' < fu → o.length + d' ≤ 300000 → spec_l10PutList.l1 K fu0 fu l (i : Int) (v.length : Int) (j : Int) o v = spec_l10PutList.l0 K fu0 l (wrap64 ((i : Int) + 1)) (o ++ v.drop j) := by
          intro d'
          induction d' with
          | zero =>
            intro fu j o hj hf ho
            obtain ⟨fu, rfl⟩ : ∃ q, fu = q + 1 := ⟨fu - 1, by omega⟩
            rw [spec_l10PutList.l1_eq, if_neg (by omega), List.drop_of_length_le (by omega), List.append_nil]
          | succ d' ih' =>
            intro fu j o hj hf ho
            obtain ⟨fu, rfl⟩ : ∃ q, fu = q + 1 := ⟨fu - 1, by omega⟩
            have hjl : j < v.length := by omega
            rw [spec_l10PutList.l1_eq, if_pos (by omega), if_pos (by omega), if_pos (by omega), if_pos (by omega), wrap_next hjl (by omega), rd_at v j hjl, ih' fu (j + 1) _ (by omega) (by omega) (by simp; omega), drop_cons v j hjl, List.append_assoc]; rfl
        rw [hd0 d fu (j + 1) _ (by omega) (by omega) (by simp; omega), drop_cons v j hjl, List.append_assoc]; rfl
  have key : ∀ (d fu i : Nat) (o : List Int), i + d = l.length → d < fu → o.length ≤ 100000 + 7 * (i + 1) → Bs o → ∃ r, spec_l10PutList.l0 k fu l (i : Int) o = some r ∧ Bs r ∧ r.length ≤ o.length + 7 * d := by
    intro d
    induction d with
    | zero =>
      intro fu i o hi hf ho hbo
      obtain ⟨fu, rfl⟩ : ∃ q, fu = q + 1 := ⟨fu - 1, by omega⟩
      rw [spec_l10PutList.l0_eq, if_neg (by omega)]
      exact ⟨_, rfl, hbo, by omega⟩
    | succ d ih =>
      intro fu i o hi hf ho hbo
      obtain ⟨fu, rfl⟩ : ∃ q, fu = q + 1 := ⟨fu - 1, by omega⟩
      have hil : i < l.length := by omega
      have hwi := hw _ (List.getElem_mem hil)
      have hvl := vi_length 6 (unz l[i])
      rw [spec_l10PutList.l0_eq, if_pos (by omega), if_pos (by omega), if_pos (by omega), rd_at l i hil, put_f _ hwi.1 hwi.2 k (by omega), bs]
      have hin := inner k fu i (vi 6 (unz l[i])) (by omega) (by omega) (vi 6 (unz l[i])).length k 0 o (by omega) (by omega) (by omega)
      have e0 : ((0 : Nat) : Int) = 0 := rfl
      rw [e0] at hin
      rw [hin, List.drop_zero, wrap_next hil (by omega)]
      obtain ⟨r, hr, hbr, hrl⟩ := ih fu (i + 1) (o ++ vi 6 (unz l[i])) (by omega) (by omega) (by simp; omega) (hbo.app (Bs.vi 6 _))
      exact ⟨r, hr, hbr, by simp at hrl; omega⟩
  obtain ⟨r, hr, hbr, hrl⟩ := key l.length k 0 (out ++ vi 6 (unz (l.length : Int))) (by omega) (by omega) (by simp; omega) (hbs.app (Bs.vi 6 _))
  exact ⟨r, hr, hbr, by simp at hrl; omega⟩
theorem encjob_some (a f n : Int) (A B : List Int) (h : JobP a f A B n) (k : Nat) (hk : 200010 ≤ k) : ∃ D, spec_EncodeJob.f k a f A B n = some D ∧ Bs D ∧ D.length ≤ 9 + 7 * (A.length + 1) + 7 * (B.length + 1) := by
  obtain ⟨k, rfl⟩ : ∃ q, k = q + 1 := ⟨k - 1, by omega⟩
  obtain ⟨_, _, _, hA, hB, hn, _, _⟩ := id h
  rw [spec_EncodeJob.f_eq, sjobOk_f a f A B n (by have := hA.1; omega) (by have := hB.1; omega) k (by have := hA.1; have := hB.1; omega), bs, decide_eq_true h, if_neg (by decide), put_f n (by omega) (by omega) k (by omega), bs]
  have hv := vi_length 6 (unz n)
  have hA1 := hA.1
  have hB1 := hB.1
  rw [join_is _ _ (by simp) (by omega) k (by simp; omega) (by omega), bs]
  have hb0 : Bs ([IntKind.u8.wrap a, IntKind.u8.wrap f] ++ vi 6 (unz n)) := by
    refine Bs.app ?_ (Bs.vi 6 _)
    intro x hx
    simp only [List.mem_cons, List.not_mem_nil, or_false] at hx
    rcases hx with rfl | rfl <;> (rw [wrap8]; omega)
  obtain ⟨r1, e1, b1, l1⟩ := putlist_some _ A (by simp; omega) hA1 hA.2 hb0 k (by omega)
  have l1' : r1.length ≤ 9 + 7 * 401 := by simp at l1; omega
  have l1'' : r1.length ≤ 9 + 7 * (A.length + 1) := by simp at l1; omega
  simp only [e1, bs]
  obtain ⟨r2, e2, b2, l2⟩ := putlist_some r1 B (by omega) hB1 hB.2 b1 k (by omega)
  simp only [e2, bs]
  exact ⟨_, rfl, b2, by omega⟩
/-! ### a drawn event -/
section
variable (b : List Int) (hb : b.length ≤ 1048576)
include hb
theorem jobev_j0 (te id t0 t1 t2 t3 a f n : Int) (A B : List Int) (h : JobP a f A B n) (hA : A.length ≤ 101) (hB : B.length ≤ 101) (i hh : Int) (k : Nat) (hk : 200010 ≤ k) :
    ∃ c D, spec_l18DrawJobEvent.j0 k te id b i hh t0 t1 t2 t3 a f n A B = some (2, te, id, c, b, i, hh, D) ∧ Bs D ∧ D.length ≤ 1437 := by
  rw [spec_l18DrawJobEvent.j0_eq, scost_f a f A B n h k (by omega), bs]
  obtain ⟨D, e, h1, h2⟩ := encjob_some a f n A B h k (by omega)
  simp only [e, bs]
  exact ⟨_, _, rfl, h1, by omega⟩
theorem jobev_f (te id i h : Int) (hi : 0 ≤ i) (k : Nat) (hk : 200020 ≤ k) :
    ∃ c i' h' D, spec_l18DrawJobEvent.f k te id b i h = some (2, te, id, c, b, i', h', D) ∧ Bs D ∧ D.length ≤ 1437 ∧ 0 ≤ i' := by
  obtain ⟨k, rfl⟩ : ∃ q, k = q + 1 := ⟨k - 1, by omega⟩
  rw [spec_l18DrawJobEvent.f_eq]
  obtain ⟨a, f, n, i1, h1, A, B, e1, hA, hB, j1⟩ := job_f b hb i h hi k (by omega)
  simp only [e1, bs]
  rw [sjobOk_f a f A B n (by omega) (by omega) k (by omega), bs]
  by_cases c : JobP a f A B n
  · rw [decide_eq_true c, if_neg (by decide)]
    obtain ⟨c', D, e, h1, h2⟩ := jobev_j0 b hb te id 0 0 0 0 a f n A B c hA hB i1 h1 k (by omega)
    exact ⟨_, _, _, _, e, h1, h2, j1⟩
  · rw [decide_eq_false c, if_pos (by decide)]
    obtain ⟨c', D, e, h1, h2⟩ := jobev_j0 b hb te id 0 0 0 0 1 0 0 [3] [] (by decide) (by simp) (by simp) i1 h1 k (by omega)
    exact ⟨_, _, _, _, e, h1, h2, j1⟩
end
end Go.Vm.Pu
namespace Go.Vm.Pu
open Go Go.RowKit Go.Vm
set_option linter.unusedVariables false
set_option linter.unusedSimpArgs false
theorem L_zero (a : Int) (l : List Int) : L (a :: l) 0 = a := rfl
theorem L_succ (a : Int) (l : List Int) (n : Nat) : L (a :: l) (n + 1) = L l n := by simp [L]
theorem L_app (a b : List Int) (n : Nat) : L (a ++ b) (a.length + n) = L b n := by
  simp [L, List.getD_eq_getElem?_getD, List.getElem?_append_right]
theorem L_left (a b : List Int) (n : Nat) (h : n < a.length) : L (a ++ b) n = L a n := by
  simp [L, List.getD_eq_getElem?_getD, List.getElem?_append_left h]
theorem zig_unz (x : Int) : zig (unz x) = x := by
  unfold zig unz
  by_cases h : x < 0
  · rw [if_pos h, if_pos (by omega)]; omega
  · rw [if_neg h, if_neg (by omega)]; omega
theorem vi_len : ∀ (d : Nat) (u : Int) (n : Nat), 0 ≤ u → u < P7 (n + 1) → (vi d u).length ≤ n + 1
  | 0, u, n, _, _ => by simp [vi]
  | d + 1, u, n, h0, h1 => by
    simp only [vi]
    split
    · rename_i h
      cases n with
      | zero => rw [show P7 (0 + 1) = 128 by decide] at h1; omega
      | succ n =>
        have := vi_len d (u / 128) n (by omega) (by rw [P7_succ] at h1; omega)
        simp only [List.length_cons]
        omega
    · simp
theorem vi_pos (d : Nat) (u : Int) : 1 ≤ (vi d u).length := by
  cases d with
  | zero => simp [vi]
  | succ d => simp only [vi]; split <;> simp
theorem scan_vi (b : List Int) (at_ : Nat) : ∀ (e : Nat) (u : Int) (d i : Nat) (acc : Int), 0 ≤ u → u < P7 (e + 1) → (vi e u).length ≤ d → (∀ j, j < (vi e u).length → at_ + i + j < b.length ∧ L b (at_ + i + j) = L (vi e u) j) → (0 < i → u ≠ 0) →
    -1099511627776 ≤ zig (acc + u * P7 i) → zig (acc + u * P7 i) ≤ 1099511627776 → scan b at_ d i acc = (zig (acc + u * P7 i), at_ + i + (vi e u).length, true) := by
  have one : ∀ (u : Int) (d i : Nat) (acc : Int), 0 ≤ u → u < 128 → 1 ≤ d → at_ + i < b.length → L b (at_ + i) = u → (0 < i → u ≠ 0) → -1099511627776 ≤ zig (acc + u * P7 i) → zig (acc + u * P7 i) ≤ 1099511627776 → scan b at_ d i acc = (zig (acc + u * P7 i), at_ + i + 1, true) := by
    intro u d i acc h0 h1 hd hb hL hi r1 r2
    obtain ⟨d, rfl⟩ : ∃ q, d = q + 1 := ⟨d - 1, by omega⟩
    rw [scan_succ, if_pos hb, hL, if_neg (by omega), show u % 128 = u by omega]
    unfold tnf
    rw [if_neg]
    rintro (⟨q1, q2⟩ | q | q)
    · exact hi q2 q1
    · omega
    · omega
  intro e
  induction e with
  | zero =>
    intro u d i acc h0 h1 hd hb hi r1 r2
    rw [show P7 (0 + 1) = 128 by decide] at h1
    have e : vi 0 u = [u] := by simp only [vi]; rw [show u % 256 = u by omega]
    rw [e] at hd hb ⊢
    obtain ⟨b1, b2⟩ := hb 0 (by simp)
    exact one u d i acc h0 h1 (by simpa using hd) (by omega) (by simpa [L] using b2) hi r1 r2
  | succ e ih =>
    intro u d i acc h0 h1 hd hb hi r1 r2
    by_cases c : u ≥ 128
    · have e' : vi (e + 1) u = (128 + u % 128) :: vi e (u / 128) := by
        simp only [vi]; rw [if_pos c, show (128 + u % 128) % 256 = 128 + u % 128 by omega]
      rw [e'] at hd hb ⊢
      simp only [List.length_cons] at hd hb ⊢
      obtain ⟨d, rfl⟩ : ∃ q, d = q + 1 := ⟨d - 1, by omega⟩
      obtain ⟨b1, b2⟩ := hb 0 (by omega)
      rw [L_zero] at b2
      have b2' : L b (at_ + i) = 128 + u % 128 := b2
      have hmul : acc + (128 + u % 128) % 128 * P7 i + u / 128 * P7 (i + 1) = acc + u * P7 i := by
        rw [P7_succ, show (128 + u % 128) % 128 = u % 128 by omega]
        have : u / 128 * (P7 i * 128) = (128 * (u / 128)) * P7 i := by
          rw [Int.mul_comm (P7 i) 128, ← Int.mul_assoc, Int.mul_comm (u / 128) 128]
        rw [this, Int.add_assoc, ← Int.add_mul, show u % 128 + 128 * (u / 128) = u by omega]
      rw [scan_succ, if_pos (by omega), b2', if_pos (by omega)]
      rw [ih (u / 128) d (i + 1) _ (by omega) (by rw [P7_succ] at h1; omega) (by omega) (fun j hj => by
        obtain ⟨g1, g2⟩ := hb (j + 1) (by omega)
        rw [L_succ] at g2
        exact ⟨by omega, by rw [show at_ + (i + 1) + j = at_ + i + (j + 1) by omega]; exact g2⟩) (fun _ => by omega) (by rw [hmul]; exact r1) (by rw [hmul]; exact r2), hmul]
      congr 2
      omega
    · have e' : vi (e + 1) u = [u] := by
        simp only [vi]; rw [if_neg c, show u % 256 = u by omega]
      rw [e'] at hd hb ⊢
      obtain ⟨b1, b2⟩ := hb 0 (by simp)
      exact one u d i acc h0 (by omega) (by simpa using hd) (by omega) (by simpa [L] using b2) hi r1 r2
/-- A number that was put is taken. -/
theorem tk_vi (pre post : List Int) (x : Int) (h1 : -1099511627776 ≤ x) (h2 : x ≤ 1099511627776) : tk (pre ++ vi 6 (unz x) ++ post) pre.length = (x, pre.length + (vi 6 (unz x)).length, true) := by
  have hu : 0 ≤ unz x ∧ unz x ≤ 2199023255552 := by unfold unz; split <;> omega
  have hP : P7 6 = 4398046511104 := by decide
  have hP7 : P7 (6 + 1) = 562949953421312 := by decide
  have hl := vi_len 6 (unz x) 5 hu.1 (by rw [hP]; omega)
  have e0 : 0 + unz x * P7 0 = unz x := by rw [show P7 0 = 1 by decide]; omega
  have := scan_vi (pre ++ vi 6 (unz x) ++ post) pre.length 6 (unz x) 6 0 0 hu.1 (by rw [hP7]; omega) (by omega) (fun j hj => by
    refine ⟨by simp; omega, ?_⟩
    rw [Nat.add_zero, List.append_assoc, L_app, L_left _ _ _ hj]) (fun h => absurd h (by omega)) (by rw [e0, zig_unz]; exact h1) (by rw [e0, zig_unz]; exact h2)
  rw [e0, zig_unz] at this
  exact this
theorem be4 (s : Int) (h0 : 0 ≤ s) (h1 : s < 4294967296) : be (w4 s) 0 = s := by
  simp only [w4, be]; omega
theorem be2 (s : Int) (h0 : 0 ≤ s) (h1 : s < 65536) : be (w2 s) 0 = s := by
  simp only [w2, be]; omega
theorem cmpS_same (b : List Int) (n : Nat) (s : List Int) : ∀ (d i : Nat), (∀ j, i ≤ j → j < i + d → n + j < b.length ∧ L b (n + j) = L s j) → cmpS b n s d i = 0 := by
  intro d
  induction d with
  | zero => intro i _; rfl
  | succ d ih =>
    intro i h
    obtain ⟨h1, h2⟩ := h i (Nat.le_refl _) (by omega)
    rw [cmpS, if_neg (by omega), if_neg (by simpa using h2)]
    exact ih (i + 1) fun j hj hj2 => h j (by omega) (by omega)
/-- A frame that was encoded is decoded. -/
theorem df_ef (t s : Int) (b : List Int) (h : FrP t s b) : df (ef t s b) = (t, s, ((ef t s b).length : Int), 0, b) := by
  obtain ⟨⟨t0, t1⟩, ⟨s0, s1⟩, hl⟩ := id h
  let H : List Int := [199, 77, t % 256, s / 16777216 % 256, s / 65536 % 256, s / 256 % 256, s % 256, (b.length : Int) / 256 % 256, (b.length : Int) % 256]
  have hH : H.length = 9 := rfl
  have hmid : [199, 77] ++ mid t s b = H ++ b := by simp [mid, w4, w2, H]
  obtain ⟨c, hc⟩ : ∃ c, c = ck (mid t s b) (1, 0) := ⟨_, rfl⟩
  have hef : ef t s b = H ++ b ++ w4 c := by
    unfold ef
    rw [if_pos h, hmid, ← hc]
  have hlen : (ef t s b).length = 13 + b.length := by rw [hef]; simp [H, w4]; omega
  obtain ⟨F, hF⟩ : ∃ F, F = ef t s b := ⟨_, rfl⟩
  have hF' : F = H ++ (b ++ w4 c) := by rw [hF, hef, List.append_assoc]
  have hL : ∀ n, n < 9 → L F n = L H n := fun n hn => by rw [hF']; exact L_left _ _ _ (by rw [hH]; exact hn)
  have l0 : L F 0 = 199 := hL 0 (by omega)
  have l1 : L F 1 = 77 := hL 1 (by omega)
  have l2 : L F 2 = t % 256 := hL 2 (by omega)
  have l3 : L F 3 = s / 16777216 % 256 := hL 3 (by omega)
  have l7 : L F 7 = (b.length : Int) / 256 % 256 := hL 7 (by omega)
  have ht9 : F.take 9 = H := by rw [hF', List.take_append_of_le_length (by rw [hH]; omega), List.take_of_length_le (by rw [hH]; omega)]
  have hlg : lg2 F = (b.length : Int) := by
    unfold lg2
    rw [ht9]
    show be (w2 (b.length : Int)) 0 = _
    exact be2 _ (by omega) (by omega)
  have hs : be ((F.take 7).drop 3) 0 = s := by
    have : F.take 7 = H.take 7 := by rw [← ht9, List.take_take]; rfl
    rw [this]
    show be (w4 s) 0 = s
    exact be4 s s0 (by omega)
  have hnat : (9 + (b.length : Int)).toNat = 9 + b.length := by omega
  have htk : F.take (9 + b.length) = H ++ b := by
    rw [hF, hef, List.take_append_of_le_length (by simp [hH]), List.take_of_length_le (by simp [hH])]
  have hd2 : (H ++ b).drop 2 = mid t s b := by rw [← hmid]; rfl
  have hd9 : (H ++ b).drop 9 = b := by
    rw [show 9 = H.length from rfl, List.drop_append_of_le_length (Nat.le_refl _), List.drop_of_length_le (Nat.le_refl _), List.nil_append]
  rw [← hF] at hlen ⊢
  have hbad : ¬ hdBad9 F := by
    unfold hdBad9 hdBad
    rw [l0, l1, l2, l3, l7, hlg]
    omega
  unfold df
  rw [if_neg hbad, if_neg (by omega), hlg, if_neg (by omega), hnat, htk, hd2, hd9, ← hc]
  have hcmp : cmpS F (9 + b.length) (w4 c) 4 0 = 0 := cmpS_same _ _ _ 4 0 fun j hj hj2 => by
    refine ⟨by omega, ?_⟩
    have : F = (H ++ b) ++ w4 c := by rw [hF, hef]
    rw [this, show 9 + b.length = (H ++ b).length by simp [hH], L_app]
  rw [if_pos hcmp, l2, hs, show t % 256 = t by omega]
  rw [show (13 : Int) + (b.length : Int) = (F.length : Int) by omega]
/-! ### a job's bytes are few -/
theorem scan_few (b : List Int) (at_ : Nat) : ∀ (d i : Nat) (u : Int), (scan b at_ d i u).2.2 = true → (scan b at_ d i u).2.1 ≤ at_ + i + d := by
  intro d
  induction d with
  | zero => intro i u h; simp [scan] at h
  | succ d ih =>
    intro i u h
    rw [scan_succ] at h ⊢
    split at h
    · rename_i hc
      split at h
      · rename_i hc2
        rw [if_pos hc, if_pos hc2]
        have := ih (i + 1) _ h
        omega
      · rename_i hc2
        rw [if_pos hc, if_neg hc2]
        unfold tnf at h ⊢
        split at h
        · cases h
        · rename_i hc3
          rw [if_neg hc3]
          show at_ + i + 1 ≤ _
          omega
    · cases h
theorem items_few (b : List Int) : ∀ (n at_ : Nat) (acc : List Int), (items b n at_ acc).2.2 = true → (items b n at_ acc).2.1 ≤ at_ + 6 * n := by
  intro n
  induction n with
  | zero => intro at_ acc _; simp [items]
  | succ n ih =>
    intro at_ acc h
    rw [items] at h ⊢
    split at h
    · rename_i hc
      rw [if_pos hc]
      have h1 := ih _ _ h
      have h2 := scan_few b at_ 6 0 0 hc
      have h3 : (tk b at_).2.1 ≤ at_ + 0 + 6 := h2
      omega
    · cases h
theorem tl_few (b : List Int) (at_ : Nat) (h : (tl b at_).2.2 = true) : (tl b at_).2.1 ≤ at_ + 2406 := by
  unfold tl at h ⊢
  split at h
  · rename_i hc
    rw [if_pos hc]
    have h1 := items_few b _ _ _ h
    have h3 : (tk b at_).2.1 ≤ at_ + 0 + 6 := scan_few b at_ 6 0 0 hc.1
    omega
  · cases h
theorem dj_few (b : List Int) (h : (dj b).2.2.2.2.2 = true) : b.length ≤ 4820 := by
  unfold dj at h
  split at h
  · cases h
  · split at h
    · rename_i hc
      have h3 : (tk b 2).2.1 ≤ 2 + 0 + 6 := scan_few b 2 6 0 0 hc
      unfold djA at h
      split at h
      · rename_i hA
        have h4 := tl_few b _ hA
        unfold djEnd at h
        split at h
        · rename_i hB
          have h5 := tl_few b _ hB.1
          omega
        · cases h
      · cases h
    · cases h
theorem ev_few {a0 a1 a2 a3 : Int} {D : List Int} (h : EvP a0 a1 a2 a3 D) : D.length ≤ 4820 := by
  obtain ⟨_, h⟩ := h
  rcases h with ⟨_, _, _, h⟩ | ⟨_, _, h, _⟩ | ⟨_, _, _, h⟩ | ⟨_, _, _, h⟩
  · omega
  · exact dj_few D h
  · omega
  · omega
/-- An event's frame is taken as the event. -/
theorem ev_frame {a0 a1 a2 a3 : Int} {D : List Int} (h : EvP a0 a1 a2 a3 D) : FrP a1 a2 ([a0 % 256] ++ vi 6 (unz a3) ++ D) := by
  have hD := ev_few h
  have hl := body_len a0 a3 D
  obtain ⟨h1, h2⟩ := h
  refine ⟨h1, ?_, by omega⟩
  rcases h2 with ⟨_, h, _⟩ | ⟨_, h, _⟩ | ⟨_, h, _⟩ | ⟨_, h, _⟩ <;> omega
theorem te_put {a0 a1 a2 a3 : Int} {D : List Int} (h : EvP a0 a1 a2 a3 D) : te a1 a2 ([a0 % 256] ++ vi 6 (unz a3) ++ D) = (a0, a1, a2, a3, D, true) := by
  have hn := ev_num h
  have h0 : a0 % 256 = a0 := by
    obtain ⟨_, h2⟩ := h
    rcases h2 with ⟨h, _⟩ | ⟨h, _⟩ | ⟨h, _⟩ | ⟨h, _⟩ <;> omega
  have ht := tk_vi [a0 % 256] D a3 hn.1 hn.2
  have ht' : tk ([a0 % 256] ++ vi 6 (unz a3) ++ D) 1 = (a3, 1 + (vi 6 (unz a3)).length, true) := ht
  have hd : ([a0 % 256] ++ vi 6 (unz a3) ++ D).drop (1 + (vi 6 (unz a3)).length) = D := by
    rw [List.drop_append_of_le_length (by simp; omega), List.drop_of_length_le (by simp; omega), List.nil_append]
  have hL : L ([a0 % 256] ++ vi 6 (unz a3) ++ D) 0 = a0 := by
    show a0 % 256 = a0
    exact h0
  have hv := vi_pos 6 (unz a3)
  unfold te
  rw [ht']
  simp only
  rw [hd, hL, if_pos ⟨ev_frame h, by simp; omega, trivial, h⟩]
theorem sameBytes_f (l : List Int) (hn : l.length ≤ 1048576) (k : Nat) (hk : l.length + 1 < k) : laws_sameBytes.f k l l = some true := by
  obtain ⟨k, rfl⟩ : ∃ m, k = m + 1 := ⟨k - 1, by omega⟩
  rw [laws_sameBytes.f_eq, if_neg (by simp)]
  exact count_loop (fun fu i => laws_sameBytes.l0 k fu l l i) l.length 0 true (by
    intro fu _
    simp only [laws_sameBytes.l0_eq]
    rw [if_neg (by omega)]) (by
    intro fu i h _
    simp only [laws_sameBytes.l0_eq]
    rw [if_pos (by omega), if_pos (by omega), if_pos (by omega), if_pos (by omega), if_pos (by omega), if_neg (by simp), wrap_next h (by omega)]) k (by omega)
end Go.Vm.Pu
