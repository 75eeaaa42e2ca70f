/- Plain laws of the functions that the laws share: what each answers; the conditions are those of each theorem. -/
import Derived.Test.YtcbeaccdcbhmeaaGreatRQ
import Derived.Test.YtcbeaccdcbhmeaaGreatVmD
import Derived.RowKit
import Derived.KernelRfl
namespace Go.Vm.Pu
open Go Go.RowKit Go.Vm
set_option linter.unusedVariables false
set_option linter.unusedSimpArgs false
/-- A value handed on; told so that simp rewrites by it instead of computing (the kernel else unfolds what follows). -/
theorem bs {α β : Type} (x : α) (f : α → Option β) : (some x).bind f = f x := (Option.bind_some x f).trans (Eq.refl _)
theorem wrap_id {x : Int} (h1 : -9223372036854775808 ≤ x) (h2 : x ≤ 9223372036854775807) : wrap64 x = x := by
  unfold wrap64
  rw [IntKind.wrap_i64]; omega
theorem rd_at (l : List Int) (i : Nat) (h : i < l.length) : rdI l (i : Int) = l[i] := by
  simp [rdI, List.getD, h]
theorem rd_mem (l : List Int) (i : Int) (h0 : 0 ≤ i) (h : i < l.length) : rdI l i ∈ l := by
  obtain ⟨n, rfl⟩ := Int.eq_ofNat_of_zero_le h0
  have hn : n < l.length := by omega
  rw [rd_at l n hn]
  exact List.getElem_mem hn
theorem set_take {α : Type} (l : List α) (i : Nat) (a : α) (h : i < l.length) : (l.set i a).take (i + 1) = l.take i ++ [a] := by
  rw [List.take_succ_eq_append_getElem (by simpa using h), List.take_set_of_le (by omega)]
  simp
theorem drop_cons {α : Type} (l : List α) (i : Nat) (h : i < l.length) : l.drop i = l[i] :: l.drop (i + 1) := List.drop_eq_getElem_cons h
theorem cast_succ (i : Nat) : (i : Int) + 1 = ((i + 1 : Nat) : Int) := rfl
theorem wf_bounds {x : Int} (h : (Lit.int .i64 x).wf = true) : -9223372036854775808 ≤ x ∧ x ≤ 9223372036854775807 := by
  simp only [Lit.wf, Bool.and_eq_true, decide_eq_true_eq] at h
  exact h
theorem wf_byte {x : Int} (h : (Lit.int .u8 x).wf = true) : 0 ≤ x ∧ x ≤ 255 := by
  simp only [Lit.wf, Bool.and_eq_true, decide_eq_true_eq] at h
  exact h

/-- A loop over a list by its index: each round goes on, or ends with what the rest of the list is worth. -/
theorem loop_list {α σ R : Type} (F : Nat → σ → Int → Option R) (l : List α) (K : Nat) (Inv : Nat → σ → Prop) (G : List α → σ → R)
    (hnil : ∀ k s, K ≤ k → Inv l.length s → F (k + 1) s (l.length : Int) = some (G [] s))
    (hcons : ∀ k i s (h : i < l.length), K ≤ k → Inv i s → (∃ s', F (k + 1) s (i : Int) = F k s' ((i + 1 : Nat) : Int) ∧ Inv (i + 1) s' ∧ G (l[i] :: l.drop (i + 1)) s = G (l.drop (i + 1)) s') ∨ F (k + 1) s (i : Int) = some (G (l[i] :: l.drop (i + 1)) s))
    (k : Nat) (s : σ) (hk : l.length + K < k) (h0 : Inv 0 s) : F k s 0 = some (G l s) := by
  have key : ∀ (d k i : Nat) (s : σ), i + d = l.length → d + K < k → Inv i s → F k s (i : Int) = some (G (l.drop i) s) := by
    intro d
    induction d with
    | zero =>
      intro k i s hi hk h
      obtain ⟨k, rfl⟩ : ∃ m, k = m + 1 := ⟨k - 1, by omega⟩
      obtain rfl : i = l.length := by omega
      rw [hnil k s (by omega) h, List.drop_length]
    | succ d ih =>
      intro k i s hi hk h
      obtain ⟨k, rfl⟩ : ∃ m, k = m + 1 := ⟨k - 1, by omega⟩
      rw [drop_cons l i (by omega)]
      rcases hcons k i s (by omega) (by omega) h with ⟨s', e, h', g⟩ | e
      · rw [e, g]
        exact ih k (i + 1) s' (by omega) (by omega) h'
      · exact e
  have := key l.length k 0 s (by omega) (by omega) h0
  simpa using this
/-- A loop that sets element after element. -/
theorem set_loop {α β : Type} (F : Nat → List β → Int → Option (List β)) (l : List α) (f : α → β) (K : Nat)
    (hnil : ∀ k s, K ≤ k → F (k + 1) s (l.length : Int) = some s)
    (hcons : ∀ k i s (h : i < l.length), K ≤ k → s.length = l.length → F (k + 1) s (i : Int) = F k (s.set i (f l[i])) ((i + 1 : Nat) : Int))
    (k : Nat) (s : List β) (hk : l.length + K < k) (hs : s.length = l.length) : F k s 0 = some (l.map f) := by
  have key : ∀ (d k i : Nat) (s : List β), i + d = l.length → d + K < k → s.length = l.length → F k s (i : Int) = some (s.take i ++ (l.drop i).map f) := by
    intro d
    induction d with
    | zero =>
      intro k i s hi hk hs
      obtain ⟨k, rfl⟩ : ∃ m, k = m + 1 := ⟨k - 1, by omega⟩
      obtain rfl : i = l.length := by omega
      rw [hnil k s (by omega), List.drop_length, List.take_of_length_le (by omega)]
      simp
    | succ d ih =>
      intro k i s hi hk hs
      obtain ⟨k, rfl⟩ : ∃ m, k = m + 1 := ⟨k - 1, by omega⟩
      rw [hcons k i s (by omega) (by omega) hs, ih k (i + 1) _ (by omega) (by omega) (by simpa using hs), set_take _ _ _ (by omega), drop_cons l i (by omega), List.map_cons, List.append_assoc]
      rfl
  have := key l.length k 0 s (by omega) (by omega) hs
  simpa using this
/-- A loop that appends an element a round. -/
theorem append_loop {α β : Type} (F : Nat → List β → Int → Option (List β)) (l : List α) (f : α → β) (K : Nat) (s0 : List β)
    (hnil : ∀ k s, K ≤ k → F (k + 1) s (l.length : Int) = some s)
    (hcons : ∀ k i s (h : i < l.length), K ≤ k → s.length = s0.length + i → F (k + 1) s (i : Int) = F k (s ++ [f l[i]]) ((i + 1 : Nat) : Int))
    (k : Nat) (hk : l.length + K < k) : F k s0 0 = some (s0 ++ l.map f) := by
  have key : ∀ (d k i : Nat) (s : List β), i + d = l.length → d + K < k → s.length = s0.length + i → F k s (i : Int) = some (s ++ (l.drop i).map f) := by
    intro d
    induction d with
    | zero =>
      intro k i s hi hk hs
      obtain ⟨k, rfl⟩ : ∃ m, k = m + 1 := ⟨k - 1, by omega⟩
      obtain rfl : i = l.length := by omega
      rw [hnil k s (by omega), List.drop_length]
      simp
    | succ d ih =>
      intro k i s hi hk hs
      obtain ⟨k, rfl⟩ : ∃ m, k = m + 1 := ⟨k - 1, by omega⟩
      rw [hcons k i s (by omega) (by omega) hs, ih k (i + 1) _ (by omega) (by omega) (by simp [hs]; omega), drop_cons l i (by omega), List.map_cons, List.append_assoc]
      rfl
  have := key l.length k 0 s0 (by omega) (by omega) (by simp)
  simpa using this
/-- A loop that goes on for n rounds, and then ends. -/
theorem count_loop {R : Type} (F : Nat → Int → Option R) (n K : Nat) (r : R) (hend : ∀ k, K ≤ k → F (k + 1) (n : Int) = some r)
    (hgo : ∀ k i, i < n → K ≤ k → F (k + 1) (i : Int) = F k ((i + 1 : Nat) : Int)) (k : Nat) (hk : n + K < k) : F k 0 = some r := by
  have key : ∀ (d k i : Nat), i + d = n → d + K < k → F k (i : Int) = some r := by
    intro d
    induction d with
    | zero =>
      intro k i hi hk
      obtain ⟨k, rfl⟩ : ∃ m, k = m + 1 := ⟨k - 1, by omega⟩
      obtain rfl : i = n := by omega
      exact hend k (by omega)
    | succ d ih =>
      intro k i hi hk
      obtain ⟨k, rfl⟩ : ∃ m, k = m + 1 := ⟨k - 1, by omega⟩
      rw [hgo k i (by omega) (by omega)]
      exact ih k (i + 1) (by omega) (by omega)
  exact key n k 0 (by omega) (by omega)
theorem wrap_next {i n : Nat} (h : i < n) (hn : n ≤ 281474976710656) : wrap64 ((i : Int) + 1) = ((i + 1 : Nat) : Int) := by
  rw [wrap_id (by omega) (by omega)]; rfl
/-- The modulus of a field, 0 for none; its generator; how often 2 divides the modulus less 1. -/
def md (f : Int) : Int := if f = 0 then 17 else (if f = 1 then 97 else (if f = 2 then 193 else (if f = 3 then 257 else (if f = 4 then 7681 else (if f = 5 then 12289 else (if f = 6 then 998244353 else (if f = 7 then 469762049 else (if f = 8 then 1004535809 else 0))))))))
def gn (f : Int) : Int := if f = 0 then 3 else (if f = 1 then 5 else (if f = 2 then 5 else (if f = 3 then 3 else (if f = 4 then 17 else (if f = 5 then 11 else (if f = 6 then 3 else (if f = 7 then 3 else (if f = 8 then 3 else 0))))))))
def tw (f : Int) : Int := if f = 0 then 4 else (if f = 1 then 5 else (if f = 2 then 6 else (if f = 3 then 8 else (if f = 4 then 9 else (if f = 5 then 12 else (if f = 6 then 23 else (if f = 7 then 26 else (if f = 8 then 21 else 0))))))))
theorem nine {f : Int} (h0 : 0 ≤ f) (h8 : f ≤ 8) : f = 0 ∨ f = 1 ∨ f = 2 ∨ f = 3 ∨ f = 4 ∨ f = 5 ∨ f = 6 ∨ f = 7 ∨ f = 8 := by omega
theorem md_out {f : Int} (h : ¬ (0 ≤ f ∧ f ≤ 8)) : md f = 0 ∧ gn f = 0 ∧ tw f = 0 := by
  unfold md gn tw
  rw [if_neg (by omega), if_neg (by omega), if_neg (by omega), if_neg (by omega), if_neg (by omega), if_neg (by omega), if_neg (by omega), if_neg (by omega), if_neg (by omega)]
  rw [if_neg (by omega), if_neg (by omega), if_neg (by omega), if_neg (by omega), if_neg (by omega), if_neg (by omega), if_neg (by omega), if_neg (by omega), if_neg (by omega)]
  rw [if_neg (by omega), if_neg (by omega), if_neg (by omega), if_neg (by omega), if_neg (by omega), if_neg (by omega), if_neg (by omega), if_neg (by omega), if_neg (by omega)]
  exact ⟨rfl, rfl, rfl⟩
theorem md_in {f : Int} (h : md f ≠ 0) : 0 ≤ f ∧ f ≤ 8 := by
  by_cases c : 0 ≤ f ∧ f ≤ 8
  · exact c
  · exact absurd (md_out c).1 h
theorem md_pos {f : Int} (h : md f ≠ 0) : 17 ≤ md f ∧ md f ≤ 1004535809 := by
  obtain ⟨h0, h8⟩ := md_in h
  rcases nine h0 h8 with rfl | rfl | rfl | rfl | rfl | rfl | rfl | rfl | rfl <;> decide
theorem md_nonneg (f : Int) : 0 ≤ md f := by
  by_cases h : md f = 0
  · omega
  · have := md_pos h; omega
/-- All numbers are elements. -/
def El (p : Int) (l : List Int) : Prop := ∀ x ∈ l, 0 ≤ x ∧ x < p
instance (p : Int) (l : List Int) : Decidable (El p l) := inferInstanceAs (Decidable (∀ x ∈ l, 0 ≤ x ∧ x < p))
theorem El.nil (p : Int) : El p [] := fun x hx => by cases hx
theorem El.at {p : Int} {l : List Int} (h : El p l) (i : Nat) (hi : i < l.length) : 0 ≤ l[i] ∧ l[i] < p := h _ (List.getElem_mem hi)
/-- A list's element, 0 beyond its end. -/
def L (l : List Int) (i : Nat) : Int := l.getD i 0
theorem L_at (l : List Int) (i : Nat) (h : i < l.length) : L l i = l[i] := by simp [L, List.getD, h]
theorem L_out (l : List Int) (i : Nat) (h : l.length ≤ i) : L l i = 0 := by simp [L, List.getD, h]
theorem rd_L (l : List Int) (i : Nat) : rdI l (i : Int) = L l i := by simp [rdI, L]
theorem L_el {p : Int} (hp : 0 < p) {l : List Int} (h : El p l) (i : Nat) : 0 ≤ L l i ∧ L l i < p := by
  by_cases c : i < l.length
  · rw [L_at l i c]; exact h.at i c
  · rw [L_out l i (by omega)]; omega
/-- The list of a function's values. -/
def fl (n : Nat) (g : Nat → Int) : List Int := (List.range n).map g
theorem fl_length (n : Nat) (g : Nat → Int) : (fl n g).length = n := by simp [fl]
theorem L_fl (n : Nat) (g : Nat → Int) (i : Nat) (h : i < n) : L (fl n g) i = g i := by
  rw [L_at _ _ (by rw [fl_length]; exact h)]; simp [fl]
theorem fl_L (l : List Int) : fl l.length (L l) = l := by
  apply List.ext_getElem
  · exact fl_length _ _
  · intro i h1 h2
    simp [fl, L_at l i h2]
theorem fl_congr {n : Nat} {g h : Nat → Int} (e : ∀ i, i < n → g i = h i) : fl n g = fl n h := by
  unfold fl
  exact List.map_congr_left (fun i hi => e i (List.mem_range.1 hi))
theorem fl_inj {n : Nat} {g h : Nat → Int} (e : fl n g = fl n h) (i : Nat) (hi : i < n) : g i = h i := by
  rw [← L_fl n g i hi, e, L_fl n h i hi]
theorem fl_set (n : Nat) (g : Nat → Int) (t : Nat) (v : Int) : (fl n g).set t v = fl n (fun m => if m = t then v else g m) := by
  apply List.ext_getElem
  · simp [fl_length]
  · intro i h1 h2
    simp only [fl, List.getElem_set, List.getElem_map, List.getElem_range]
    by_cases c : t = i
    · rw [if_pos c, if_pos c.symm]
    · rw [if_neg c, if_neg (Ne.symm c)]
theorem fl_snoc (n : Nat) (g : Nat → Int) : fl n g ++ [g n] = fl (n + 1) g := by simp [fl, List.range_succ]
theorem fl_zero (n : Nat) : List.replicate n (0 : Int) = fl n (fun _ => 0) := by
  apply List.ext_getElem
  · simp [fl]
  · intro i h1 h2; simp [fl]
theorem fl_el {p : Int} {n : Nat} {g : Nat → Int} (h : ∀ i, i < n → 0 ≤ g i ∧ g i < p) : El p (fl n g) := by
  intro x hx
  obtain ⟨i, hi, rfl⟩ := List.mem_map.1 hx
  exact h i (List.mem_range.1 hi)
theorem list_ext {a b : List Int} (hl : a.length = b.length) (h : ∀ i, i < a.length → L a i = L b i) : a = b := by
  rw [← fl_L a, ← fl_L b, ← hl]
  exact fl_congr h
/-- Sums. -/
def sumN (n : Nat) (g : Nat → Int) : Int := match n with
  | 0 => 0
  | n + 1 => sumN n g + g n
theorem sumN_congr {n : Nat} {g h : Nat → Int} (e : ∀ i, i < n → g i = h i) : sumN n g = sumN n h := by
  induction n with
  | zero => rfl
  | succ n ih => simp only [sumN]; rw [ih (fun i hi => e i (by omega)), e n (by omega)]
theorem sumN_zero {n : Nat} {g : Nat → Int} (e : ∀ i, i < n → g i = 0) : sumN n g = 0 := by
  induction n with
  | zero => rfl
  | succ n ih => simp only [sumN]; rw [ih (fun i hi => e i (by omega)), e n (by omega)]; rfl
theorem emod_range (x : Int) {p : Int} (hp : 0 < p) : 0 ≤ x % p ∧ x % p < p := ⟨Int.emod_nonneg x (by omega), Int.emod_lt_of_pos x hp⟩
theorem tmod_nonneg' {x : Int} (p : Int) (h : 0 ≤ x) : Int.tmod x p = x % p := Int.tmod_eq_emod_of_nonneg h
theorem reduce_int (x p : Int) (hp : 0 < p) : (if Int.tmod x p < 0 then Int.tmod x p + p else Int.tmod x p) = x % p := by
  have h := Int.tmod_add_mul_tdiv x p
  have h1 : x % p = (Int.tmod x p) % p := by
    conv => lhs; rw [← h]
    rw [Int.add_mul_emod_self_left]
  have h2 : Int.tmod x p < p := Int.tmod_lt_of_pos x hp
  have h3 : -p < Int.tmod x p := by
    have := Int.lt_tmod_of_pos x hp
    omega
  rw [h1]
  by_cases c : Int.tmod x p < 0
  · rw [if_pos c, ← Int.add_emod_right, Int.emod_eq_of_lt (by omega) (by omega)]
  · rw [if_neg c, Int.emod_eq_of_lt (by omega) h2]
theorem prod_range {x y p : Int} (hp : p ≤ 1004535809) (hx : 0 ≤ x ∧ x < p) (hy : 0 ≤ y ∧ y < p) : 0 ≤ x * y ∧ x * y ≤ 1009092191563284481 := by
  refine ⟨Int.mul_nonneg hx.1 hy.1, ?_⟩
  have := Int.mul_le_mul (show x ≤ 1004535809 by omega) (show y ≤ 1004535809 by omega) hy.1 (by omega)
  omega
/-- A test turned round. -/
theorem not_ite {α : Type} (b : Bool) (x y : α) : (if (!b) = true then x else y) = if b = true then y else x := by cases b <;> rfl
end Go.Vm.Pu
namespace Go.Vm.Pu
open Go Go.RowKit Go.Vm
set_option linter.unusedVariables false
set_option linter.unusedSimpArgs false
/-- All are bytes. -/
def Bs (l : List Int) : Prop := ∀ x ∈ l, 0 ≤ x ∧ x < 256
theorem Bs.L {l : List Int} (h : Bs l) (i : Nat) : 0 ≤ L l i ∧ L l i < 256 := L_el (by decide) h i
/-- 128 to the n. -/
def P7 (n : Nat) : Int := (2 : Int) ^ (7 * n)
theorem P7_succ (n : Nat) : P7 (n + 1) = P7 n * 128 := by
  unfold P7
  rw [show 7 * (n + 1) = 7 * n + 7 from rfl, Int.pow_add]
  rfl
theorem P7_pos (n : Nat) : 1 ≤ P7 n := by
  induction n with
  | zero => decide
  | succ n ih => rw [P7_succ]; omega
theorem P7_le {n m : Nat} (h : n ≤ m) : P7 n ≤ P7 m := by
  induction m with
  | zero => obtain rfl : n = 0 := by omega
            exact Int.le_refl _
  | succ m ih =>
    by_cases c : n = m + 1
    · rw [c]; exact Int.le_refl _
    · have := ih (by omega)
      have := P7_pos m
      rw [P7_succ]
      omega
/-- The number that a varint's bytes tell. -/
def val : List Int → Int
  | [] => 0
  | a :: s => a % 128 + 128 * val s
/-- A number's varint, of at most d + 1 bytes. -/
def vi : Nat → Int → List Int
  | 0, u => [u % 256]
  | d + 1, u => if u ≥ 128 then (128 + u % 128) % 256 :: vi d (u / 128) else [u % 256]
theorem val_nonneg (s : List Int) : 0 ≤ val s := by
  induction s with
  | nil => exact Int.le_refl _
  | cons a s ih => unfold val; omega
theorem val_lt (s : List Int) : val s < P7 s.length := by
  induction s with
  | nil => decide
  | cons a s ih =>
    rw [List.length_cons, P7_succ]
    unfold val
    omega
theorem val_snoc (s : List Int) (c : Int) : val (s ++ [c]) = val s + c % 128 * P7 s.length := by
  induction s with
  | nil =>
    show c % 128 + 128 * 0 = 0 + c % 128 * 1
    omega
  | cons a s ih =>
    rw [List.cons_append, val, ih, val, List.length_cons, P7_succ, Int.mul_add, ← Int.add_assoc, ← Int.mul_assoc (c % 128), Int.mul_comm 128 (c % 128 * P7 s.length)]
theorem vi_val (c : Int) (hc : 0 ≤ c ∧ c < 128) : ∀ (s : List Int) (d : Nat), (∀ a ∈ s, 128 ≤ a ∧ a < 256) → s.length ≤ d → (vi d (val (s ++ [c])) = s ++ [c] ↔ (s = [] ∨ c ≠ 0)) := by
  intro s
  induction s with
  | nil =>
    intro d _ _
    have e : val ([] ++ [c]) = c := by
      show c % 128 + 128 * 0 = c
      omega
    rw [e]
    have e2 : vi d c = [c % 256] := by
      cases d with
      | zero => rfl
      | succ d =>
        unfold vi
        rw [if_neg (by omega)]
    rw [e2, show c % 256 = c by omega]
    simp
  | cons a s ih =>
    intro d ha hd
    obtain ⟨d, rfl⟩ : ∃ m, d = m + 1 := ⟨d - 1, by simp at hd; omega⟩
    have a1 := ha a List.mem_cons_self
    have ihs := ih d (fun x hx => ha x (List.mem_cons_of_mem _ hx)) (by simp at hd; omega)
    have hv := val_nonneg (s ++ [c])
    have hsn := val_snoc s c
    have hs0 := val_nonneg s
    have hP := P7_pos s.length
    rw [List.cons_append, val]
    by_cases z : val (s ++ [c]) = 0
    · rw [z]
      have hm : 0 ≤ c % 128 * P7 s.length := Int.mul_nonneg (by omega) (by omega)
      have hz : c = 0 := by
        rcases Int.mul_eq_zero.1 (show c % 128 * P7 s.length = 0 by omega) with h | h <;> omega
      unfold vi
      rw [if_neg (by omega)]
      constructor
      · intro h
        have := (List.cons.inj h).2
        simp at this
      · intro h
        rcases h with h | h
        · simp at h
        · exact absurd hz h
    · unfold vi
      rw [if_pos (by omega), show (a % 128 + 128 * val (s ++ [c])) / 128 = val (s ++ [c]) by omega, show (128 + (a % 128 + 128 * val (s ++ [c])) % 128) % 256 = a by omega]
      constructor
      · intro h
        have := ihs.1 (List.cons.inj h).2
        right
        rcases this with h | h
        · rw [h] at z
          intro e
          rw [e] at z
          exact z (by decide)
        · exact h
      · intro h
        have hc0 : c ≠ 0 := by
          rcases h with h | h
          · simp at h
          · exact h
        rw [ihs.2 (Or.inr hc0)]
theorem or_gen (n : Nat) (hn : n ≤ 42) (u c : Int) (hu : 0 ≤ u) (hu2 : u < 2 ^ n) (hc : 0 ≤ c) (hc2 : c < 128) :
    wrap64 (c * 2 ^ n) = c * 2 ^ n ∧ bitsOf .or .i64 u (c * 2 ^ n) = u + c * 2 ^ n := by
  have hp : (2 : Int) ^ n ≤ 2 ^ 42 := by exact_mod_cast Nat.pow_le_pow_right (by decide) hn
  have hp0 : (0 : Int) < 2 ^ n := by exact_mod_cast Nat.two_pow_pos n
  have hm : c * 2 ^ n ≤ 127 * 2 ^ n := Int.mul_le_mul_of_nonneg_right (by omega) (by omega)
  have hm0 : 0 ≤ c * 2 ^ n := Int.mul_nonneg hc (by omega)
  have h42 : (2 : Int) ^ 42 = 4398046511104 := by decide
  have h62 : (2 : Int) ^ 62 = 4611686018427387904 := by decide
  refine ⟨wrap_id (by omega) (by omega), ?_⟩
  show Go.bits .or .i64 u (c * 2 ^ n) = _
  have hcm : ∀ x y : Int, Go.bits .or .i64 x y = Go.bits .or .i64 y x := by
    intro x y
    simp only [Go.bits, BitVec.or_comm]
  rw [hcm, bits_join .i64 62 (by decide) (fun m h1 h2 => by rw [IntKind.wrap_i64]; omega) n (c * 2 ^ n) u hm0 (Int.mul_emod_left _ _) (by omega) hu hu2 (by omega)]
  omega
/-- What a number's varint tells: the even ones are the numbers from 0 on, the odd ones those below. -/
def zig (u : Int) : Int := if u % 2 = 1 then -((u + 1) / 2) else u / 2
/-- Behind the last byte, c. -/
def tnf (u c : Int) (i at_ : Nat) : Int × Nat × Bool := if (c = 0 ∧ 0 < i) ∨ zig u < -1099511627776 ∨ zig u > 1099511627776 then (0, 0, false) else (zig u, at_ + i + 1, true)
def scan (b : List Int) (at_ : Nat) : Nat → Nat → Int → Int × Nat × Bool
  | 0, _, _ => (0, 0, false)
  | d + 1, i, u => if at_ + i < b.length then (if L b (at_ + i) ≥ 128 then scan b at_ d (i + 1) (u + L b (at_ + i) % 128 * P7 i) else tnf (u + L b (at_ + i) % 128 * P7 i) (L b (at_ + i)) i at_) else (0, 0, false)
theorem scan_succ (b : List Int) (at_ d i : Nat) (u : Int) : scan b at_ (d + 1) i u = if at_ + i < b.length then (if L b (at_ + i) ≥ 128 then scan b at_ d (i + 1) (u + L b (at_ + i) % 128 * P7 i) else tnf (u + L b (at_ + i) % 128 * P7 i) (L b (at_ + i)) i at_) else (0, 0, false) := rfl
/-- The number at a place: the number, the place behind it, whether there is one. -/
def tk (b : List Int) (at_ : Nat) : Int × Nat × Bool := scan b at_ 6 0 0
theorem scan_last (b : List Int) (at_ : Nat) (u : Int) (hb : Bs b) (hu : 0 ≤ u) : scan b at_ 1 6 u = (0, 0, false) := by
  have hc := hb.L (at_ + 6)
  unfold scan
  by_cases c1 : at_ + 6 < b.length
  · rw [if_pos c1]
    by_cases c2 : L b (at_ + 6) ≥ 128
    · rw [if_pos c2]; rfl
    · rw [if_neg c2]
      unfold tnf
      by_cases c3 : L b (at_ + 6) = 0
      · rw [if_pos (Or.inl ⟨c3, by decide⟩)]
      · have hP : P7 6 = 4398046511104 := by decide
        rw [if_pos]
        right
        unfold zig
        rw [hP]
        by_cases z : (u + L b (at_ + 6) % 128 * 4398046511104) % 2 = 1
        · rw [if_pos z]; omega
        · rw [if_neg z]; omega
  · rw [if_neg c1]
theorem scan76 (b : List Int) (at_ : Nat) (hb : Bs b) : ∀ (d i : Nat) (u : Int), i + d = 6 → 0 ≤ u → scan b at_ (d + 1) i u = scan b at_ d i u := by
  intro d
  induction d with
  | zero =>
    intro i u hi hu
    obtain rfl : i = 6 := by omega
    rw [scan_last b at_ u hb hu]; rfl
  | succ d ih =>
    intro i u hi hu
    rw [scan_succ b at_ (d + 1) i u, scan_succ b at_ d i u]
    have hn : 0 ≤ u + L b (at_ + i) % 128 * P7 i := by
      have := Int.mul_nonneg (show 0 ≤ L b (at_ + i) % 128 by omega) (show 0 ≤ P7 i by have := P7_pos i; omega)
      omega
    rw [ih (i + 1) _ (by omega) hn]
theorem scan_at (b : List Int) (at_ : Nat) : ∀ (d i : Nat) (u : Int), (scan b at_ d i u).2.1 ≤ b.length ∧ ((scan b at_ d i u).2.2 = true → at_ < (scan b at_ d i u).2.1) ∧ ((scan b at_ d i u).2.2 = false → scan b at_ d i u = (0, 0, false)) ∧ -1099511627776 ≤ (scan b at_ d i u).1 ∧ (scan b at_ d i u).1 ≤ 1099511627776 := by
  intro d
  induction d with
  | zero => intro i u; exact ⟨Nat.zero_le _, fun h => by simp [scan] at h, fun _ => rfl, by simp [scan], by simp [scan]⟩
  | succ d ih =>
    intro i u
    rw [scan]
    by_cases c1 : at_ + i < b.length
    · rw [if_pos c1]
      by_cases c2 : L b (at_ + i) ≥ 128
      · rw [if_pos c2]; exact ih _ _
      · rw [if_neg c2]
        unfold tnf
        split
        · exact ⟨Nat.zero_le _, fun h => by simp at h, fun _ => rfl, by simp, by simp⟩
        · rename_i h
          exact ⟨by show at_ + i + 1 ≤ b.length; omega, fun _ => by show at_ < at_ + i + 1; omega, fun h => by simp at h, by show -1099511627776 ≤ zig _; omega, by show zig _ ≤ 1099511627776; omega⟩
    · rw [if_neg c1]
      exact ⟨Nat.zero_le _, fun h => by simp at h, fun _ => rfl, by simp, by simp⟩
theorem tk_at (b : List Int) (at_ : Nat) : (tk b at_).2.1 ≤ b.length ∧ ((tk b at_).2.2 = true → at_ < (tk b at_).2.1) ∧ ((tk b at_).2.2 = false → tk b at_ = (0, 0, false)) ∧ -1099511627776 ≤ (tk b at_).1 ∧ (tk b at_).1 ≤ 1099511627776 := scan_at b at_ 6 0 0
theorem P7_42 {i : Nat} (h : i ≤ 6) : P7 i ≤ 4398046511104 := by
  have := P7_le h
  have e : P7 6 = 4398046511104 := by decide
  omega
theorem take_seg (b : List Int) (at_ i : Nat) (h : at_ + i < b.length) : (b.take (at_ + i + 1)).drop at_ = (b.take (at_ + i)).drop at_ ++ [L b (at_ + i)] := by
  rw [List.take_succ_eq_append_getElem h, List.drop_append_of_le_length (by rw [List.length_take]; omega), L_at _ _ h]
/-- What the rounds hold of a byte. -/
theorem round_of (b : List Int) (hb : Bs b) (at_ i : Nat) (u : Int) (hi : i ≤ 6) (hu : 0 ≤ u) (hu2 : u < P7 i) :
    0 ≤ u + L b (at_ + i) % 128 * P7 i ∧ u + L b (at_ + i) % 128 * P7 i < P7 (i + 1) ∧ u + L b (at_ + i) % 128 * P7 i < 562949953421312 := by
  have hc := hb.L (at_ + i)
  have hp := P7_pos i
  have h42 := P7_42 hi
  have h1 : 0 ≤ L b (at_ + i) % 128 * P7 i := Int.mul_nonneg (by omega) (by omega)
  have h2 : L b (at_ + i) % 128 * P7 i ≤ 127 * P7 i := Int.mul_le_mul_of_nonneg_right (by omega) (by omega)
  have h3 := P7_succ i
  refine ⟨by omega, by omega, by omega⟩
theorem vi_length : ∀ (d : Nat) (u : Int), (vi d u).length ≤ d + 1 := by
  intro d
  induction d with
  | zero => intro u; exact Nat.le_refl _
  | succ d ih =>
    intro u
    unfold vi
    split
    · have := ih (u / 128)
      rw [List.length_cons]
      omega
    · simp
/-- The number that is written for one. -/
def unz (x : Int) : Int := if x < 0 then -2 * x - 1 else 2 * x
theorem unz_zig (u : Int) (h : 0 ≤ u) : unz (zig u) = u := by
  unfold unz zig
  by_cases z : u % 2 = 1
  · rw [if_pos z, if_pos (by omega)]; omega
  · rw [if_neg z, if_neg (by omega)]; omega

theorem itake_end (at_ i : Nat) (hi : i ≤ 6) (hat : at_ ≤ 2000000) (v c : Int) (k fu : Nat) (x : Int) (hx : x = zig v) : impl_takeNumber.j0 k fu (at_ : Int) (i : Int) c x = some ((tnf v c i at_).1, ((tnf v c i at_).2.1 : Int), (tnf v c i at_).2.2) := by
  have ha : wrap64 (wrap64 ((at_ : Int) + (i : Int)) + 1) = ((at_ + i + 1 : Nat) : Int) := by
    rw [wrap_id (x := (at_ : Int) + (i : Int)) (by omega) (by omega), wrap_id (by omega) (by omega)]; rfl
  rw [impl_takeNumber.j0_eq, ha]
  unfold tnf
  rw [← hx]
  by_cases y0 : c = 0
  · rw [if_pos y0]
    by_cases y1 : (i : Int) > 0
    · rw [if_pos y1, if_pos (Or.inl ⟨y0, by omega⟩)]; rfl
    · rw [if_neg y1]
      by_cases y2 : x < (-1099511627776 : Int)
      · rw [if_pos y2, if_pos (Or.inr (Or.inl y2))]; rfl
      · rw [if_neg y2]
        by_cases y3 : x > (1099511627776 : Int)
        · rw [if_pos y3, if_pos (Or.inr (Or.inr y3))]; rfl
        · rw [if_neg y3, if_neg (by omega)]
  · rw [if_neg y0]
    by_cases y2 : x < (-1099511627776 : Int)
    · rw [if_pos y2, if_pos (Or.inr (Or.inl y2))]; rfl
    · rw [if_neg y2]
      by_cases y3 : x > (1099511627776 : Int)
      · rw [if_pos y3, if_pos (Or.inr (Or.inr y3))]; rfl
      · rw [if_neg y3, if_neg (by omega)]
theorem itake_loop (b : List Int) (hb : Bs b) (at_ : Nat) (hlen : b.length ≤ 2000000) (hat : at_ ≤ b.length) (K : Nat) : ∀ (d i k : Nat) (u : Int), i + d = 7 → d + 1 ≤ k → 0 ≤ u → u < P7 i →
    impl_takeNumber.l0 K k b (at_ : Int) u (i : Int) = some ((scan b at_ d i u).1, ((scan b at_ d i u).2.1 : Int), (scan b at_ d i u).2.2) := by
  intro d
  induction d with
  | zero =>
    intro i k u hi hk hu hu2
    obtain ⟨k, rfl⟩ : ∃ m, k = m + 1 := ⟨k - 1, by omega⟩
    rw [impl_takeNumber.l0_eq, if_neg (by omega)]
    rfl
  | succ d ih =>
    intro i k u hi hk hu hu2
    obtain ⟨k, rfl⟩ : ∃ m, k = m + 1 := ⟨k - 1, by omega⟩
    have hw : wrap64 ((at_ : Int) + (i : Int)) = ((at_ + i : Nat) : Int) := by
      rw [wrap_id (by omega) (by omega)]; rfl
    have h7 : wrap64 (7 * (i : Int)) = ((7 * i : Nat) : Int) := by
      rw [wrap_id (by omega) (by omega)]; rfl
    have hc := hb.L (at_ + i)
    have hr := round_of b hb at_ i u (by omega) hu hu2
    rw [impl_takeNumber.l0_eq, if_pos (by omega), hw, h7, rd_L, Int.toNat_natCast]
    rw [scan]
    by_cases c1 : at_ + i < b.length
    · have ho := or_gen (7 * i) (by omega) u (L b (at_ + i) % 128) hu hu2 (by omega) (by omega)
      have hP : (2 : Int) ^ (7 * i) = P7 i := rfl
      rw [hP] at ho
      rw [if_pos c1, if_pos (by omega), if_pos (by omega), if_pos (by omega), if_pos (by omega), if_pos (by omega), wrap_id (x := L b (at_ + i)) (by omega) (by omega), Int.tmod_eq_emod_of_nonneg hc.1, hP, ho.1, ho.2]
      by_cases c2 : L b (at_ + i) ≥ 128
      · rw [if_pos c2, if_pos c2, wrap_next (show i < 7 by omega) (by omega)]
        exact ih (i + 1) k _ (by omega) (by omega) hr.1 hr.2.1
      · rw [if_neg c2, if_neg c2]
        generalize u + L b (at_ + i) % 128 * P7 i = v at hr ⊢
        rw [Int.tmod_eq_emod_of_nonneg hr.1]
        by_cases z : v % 2 = 1
        · rw [if_pos z]
          refine itake_end at_ i (by omega) (by omega) v _ K k _ ?_
          unfold zig
          rw [if_pos z, wrap_id (x := v + 1) (by omega) (by omega), wrap_id (x := 0 - (v + 1)) (by omega) (by omega), show (0 : Int) - (v + 1) = -(v + 1) by omega, Int.neg_tdiv, Int.tdiv_eq_ediv_of_nonneg (by omega), wrap_id (by omega) (by omega)]
        · rw [if_neg z]
          refine itake_end at_ i (by omega) (by omega) v _ K k _ ?_
          unfold zig
          rw [if_neg z, Int.tdiv_eq_ediv_of_nonneg hr.1, wrap_id (by omega) (by omega)]
    · rw [if_neg c1, if_neg (by omega)]
      rfl
theorem itake_f (b : List Int) (hb : Bs b) (at_ : Nat) (hlen : b.length ≤ 2000000) (hat : at_ ≤ b.length) (k : Nat) (hk : 16 ≤ k) : impl_takeNumber.f k b (at_ : Int) = some ((tk b at_).1, ((tk b at_).2.1 : Int), (tk b at_).2.2) := by
  obtain ⟨k, rfl⟩ : ∃ m, k = m + 1 := ⟨k - 1, by omega⟩
  rw [impl_takeNumber.f_eq, if_neg (by omega)]
  have := itake_loop b hb at_ hlen hat k 7 0 k 0 (by omega) (by omega) (by omega) (by decide)
  rw [scan76 b at_ hb 6 0 0 (by omega) (by omega)] at this
  exact this
theorem wrap8 (x : Int) : IntKind.u8.wrap x = x % 256 := rfl
theorem put_loop (K : Nat) : ∀ (d k : Nat) (acc : List Int) (u : Int), 0 ≤ u → u < P7 (d + 1) → u < 4611686018427387904 → acc.length + d ≤ 1000 → d < k → spec_PutNumber.l0 K k u acc = some (acc ++ vi d u) := by
  intro d
  induction d with
  | zero =>
    intro k acc u h0 h1 _ hl hk
    obtain ⟨k, rfl⟩ : ∃ m, k = m + 1 := ⟨k - 1, by omega⟩
    have e : P7 (0 + 1) = 128 := by decide
    rw [spec_PutNumber.l0_eq, if_neg (by omega), if_pos (by omega)]
    rfl
  | succ d ih =>
    intro k acc u h0 h1 h2 hl hk
    obtain ⟨k, rfl⟩ : ∃ m, k = m + 1 := ⟨k - 1, by omega⟩
    rw [spec_PutNumber.l0_eq]
    unfold vi
    by_cases c : u ≥ 128
    · have hd := Int.emod_add_mul_ediv u 128
      have := P7_succ (d + 1)
      rw [if_pos c, if_pos c, if_pos (by omega), Int.tmod_eq_emod_of_nonneg h0, Int.tdiv_eq_ediv_of_nonneg h0, wrap_id (x := 128 + u % 128) (by omega) (by omega), wrap_id (x := u / 128) (by omega) (by omega), ih k _ (u / 128) (by omega) (by omega) (by omega) (by simp; omega) (by omega), List.append_assoc, wrap8]
      rfl
    · rw [if_neg c, if_neg c, if_pos (by omega), wrap8]
theorem in_is (a b c : Int) (k : Nat) (hk : 1 ≤ k) : spec_l01In.f k a b c = some (decide (b ≤ a ∧ a ≤ c)) := by
  obtain ⟨k, rfl⟩ : ∃ m, k = m + 1 := ⟨k - 1, by omega⟩
  rw [spec_l01In.f_eq]
  by_cases h : b ≤ a
  · rw [if_pos h]; simp [h]
  · rw [if_neg h, decide_eq_false (fun g => h g.1)]
theorem put_f (x : Int) (h1 : -1099511627776 ≤ x) (h2 : x ≤ 1099511627776) (k : Nat) (hk : 10 ≤ k) : spec_PutNumber.f k x = some (vi 6 (unz x)) := by
  obtain ⟨k, rfl⟩ : ∃ m, k = m + 1 := ⟨k - 1, by omega⟩
  have e : P7 (6 + 1) = 562949953421312 := by decide
  rw [spec_PutNumber.f_eq, in_is _ _ _ _ (by omega)]
  simp only [bs]
  rw [not_ite, if_pos (decide_eq_true ⟨h1, h2⟩)]
  unfold unz
  by_cases c : x < 0
  · rw [if_pos c, if_pos c, wrap_id (x := -2 * x) (by omega) (by omega), wrap_id (by omega) (by omega), spec_PutNumber.j0_eq, put_loop k 6 k [] (-2 * x - 1) (by omega) (by omega) (by omega) (by decide) (by omega), List.nil_append]
  · rw [if_neg c, if_neg c, wrap_id (x := 2 * x) (by omega) (by omega), spec_PutNumber.j0_eq, put_loop k 6 k [] (2 * x) (by omega) (by omega) (by omega) (by decide) (by omega), List.nil_append]
theorem put_out (x : Int) (h : x < -1099511627776 ∨ x > 1099511627776) (k : Nat) (hk : 2 ≤ k) : spec_PutNumber.f k x = some [] := by
  obtain ⟨k, rfl⟩ : ∃ m, k = m + 1 := ⟨k - 1, by omega⟩
  rw [spec_PutNumber.f_eq, in_is _ _ _ _ (by omega)]
  simp only [bs]
  rw [not_ite, if_neg (by simp; omega)]
theorem same_f (a b : List Int) (hn : a.length ≤ 2000000) (k : Nat) (hk : a.length + 1 < k) : spec_l01Same.f k a b = some (decide (a = b)) := by
  obtain ⟨K, rfl⟩ : ∃ m, k = m + 1 := ⟨k - 1, by omega⟩
  rw [spec_l01Same.f_eq]
  by_cases c : (a.length : Int) = (b.length : Int)
  · rw [if_neg (by omega)]
    have key : ∀ (d k i : Nat), i + d = a.length → d < k → spec_l01Same.l0 K k a b (i : Int) = some (decide (a.drop i = b.drop i)) := by
      intro d
      induction d with
      | zero =>
        intro k i hi hk
        obtain ⟨k, rfl⟩ : ∃ m, k = m + 1 := ⟨k - 1, by omega⟩
        rw [spec_l01Same.l0_eq, if_neg (by omega), List.drop_eq_nil_of_le (by omega), List.drop_eq_nil_of_le (by omega)]
        rfl
      | succ d ih =>
        intro k i hi hk
        obtain ⟨k, rfl⟩ : ∃ m, k = m + 1 := ⟨k - 1, by omega⟩
        rw [spec_l01Same.l0_eq, if_pos (by omega), if_pos (by omega), if_pos (by omega), if_pos (by omega), if_pos (by omega), rd_at a i (by omega), rd_at b i (by omega), drop_cons a i (by omega), drop_cons b i (by omega)]
        by_cases e : a[i] = b[i]
        · rw [if_neg (by simpa using e), wrap_next (show i < a.length by omega) (by omega), ih k (i + 1) (by omega) (by omega)]
          congr 1
          exact decide_eq_decide.mpr ⟨fun h => by rw [e, h], fun h => (List.cons.inj h).2⟩
        · rw [if_pos e, decide_eq_false (fun h => e (List.cons.inj h).1)]
    have := key a.length K 0 (by omega) (by omega)
    simpa using this
  · rw [if_pos c, decide_eq_false (fun h => c (by rw [h]))]
theorem cut_nat (l : List Int) (i j : Nat) : cut l (i : Int) (j : Int) = (l.take j).drop i := by simp [cut]
theorem stake_end (b : List Int) (hb : Bs b) (at_ i : Nat) (hlen : b.length ≤ 2000000) (hi : i ≤ 5) (h : at_ + i < b.length) (hc : L b (at_ + i) < 128) (hs : ∀ a ∈ (b.take (at_ + i)).drop at_, 128 ≤ a ∧ a < 256) (k fu : Nat) (hk : 50 ≤ k) :
    spec_TakeNumber.j0 k fu b (at_ : Int) (i : Int) (zig (val ((b.take (at_ + i + 1)).drop at_))) = some ((tnf (val ((b.take (at_ + i + 1)).drop at_)) (L b (at_ + i)) i at_).1, ((tnf (val ((b.take (at_ + i + 1)).drop at_)) (L b (at_ + i)) i at_).2.1 : Int), (tnf (val ((b.take (at_ + i + 1)).drop at_)) (L b (at_ + i)) i at_).2.2) := by
  have hcc := hb.L (at_ + i)
  have hw : wrap64 (wrap64 ((at_ : Int) + (i : Int)) + 1) = ((at_ + i + 1 : Nat) : Int) := by
    rw [wrap_id (x := (at_ : Int) + (i : Int)) (by omega) (by omega), wrap_id (by omega) (by omega)]; rfl
  have hsl : ((b.take (at_ + i)).drop at_).length = i := by rw [List.length_drop, List.length_take]; omega
  have hvv := vi_val (L b (at_ + i)) ⟨hcc.1, hc⟩ ((b.take (at_ + i)).drop at_) 6 hs (by omega)
  have hv0 := val_nonneg ((b.take (at_ + i + 1)).drop at_)
  have huz := unz_zig _ hv0
  have hne : ((b.take (at_ + i)).drop at_ = [] ↔ i = 0) := by
    rw [← List.length_eq_zero_iff, hsl]
  rw [← take_seg b at_ i h] at hvv
  have hl2 : ((b.take (at_ + i + 1)).drop at_).length = i + 1 := by rw [List.length_drop, List.length_take]; omega
  rw [spec_TakeNumber.j0_eq, hw, cut_nat]
  generalize (b.take (at_ + i + 1)).drop at_ = seg at hvv hv0 huz hl2 ⊢
  unfold tnf
  by_cases g : zig (val seg) < -1099511627776 ∨ zig (val seg) > 1099511627776
  · rw [if_pos (Or.inr g), put_out _ g _ (by omega)]
    simp only [bs]
    rw [if_pos (by omega), if_pos (by omega), if_pos (by omega), same_f _ _ (by simp) k (by simp; omega)]
    simp only [bs]
    rw [not_ite, if_neg]
    · rfl
    · rw [decide_eq_false (fun e => by rw [← e] at hl2; simp at hl2)]
      decide
  · rw [put_f _ (by omega) (by omega) k (by omega), huz]
    simp only [bs]
    have hlv := vi_length 6 (val seg)
    rw [if_pos (by omega), if_pos (by omega), if_pos (by omega), same_f _ _ (by omega) k (by omega)]
    simp only [bs]
    rw [not_ite]
    by_cases y : L b (at_ + i) = 0 ∧ 0 < i
    · rw [if_pos (Or.inl y), if_neg]
      · rfl
      · rw [decide_eq_false]
        · decide
        · intro e
          rcases hvv.1 e with e1 | e1
          · have := hne.1 e1; omega
          · exact e1 y.1
    · have hvs : vi 6 (val seg) = seg := by
        apply hvv.2
        by_cases z : i = 0
        · exact Or.inl (hne.2 z)
        · right
          intro e
          exact y ⟨e, by omega⟩
      rw [decide_eq_true hvs, if_pos rfl, if_neg (fun e => e.elim y g)]
theorem stake_loop (b : List Int) (hb : Bs b) (at_ : Nat) (hlen : b.length ≤ 2000000) (hat : at_ ≤ b.length) (K : Nat) (hK : 50 ≤ K) : ∀ (d i k : Nat), i + d = 6 → at_ + i ≤ b.length → d < k → (∀ a ∈ (b.take (at_ + i)).drop at_, 128 ≤ a ∧ a < 256) →
    spec_TakeNumber.l0 K k b (at_ : Int) (val ((b.take (at_ + i)).drop at_)) (i : Int) = some ((scan b at_ d i (val ((b.take (at_ + i)).drop at_))).1, ((scan b at_ d i (val ((b.take (at_ + i)).drop at_))).2.1 : Int), (scan b at_ d i (val ((b.take (at_ + i)).drop at_))).2.2) := by
  intro d
  induction d with
  | zero =>
    intro i k hi hai hk hs
    obtain ⟨k, rfl⟩ : ∃ m, k = m + 1 := ⟨k - 1, by omega⟩
    rw [spec_TakeNumber.l0_eq, if_neg (by omega)]
    rfl
  | succ d ih =>
    intro i k hi hai hk hs
    obtain ⟨k, rfl⟩ : ∃ m, k = m + 1 := ⟨k - 1, by omega⟩
    have hw : wrap64 ((at_ : Int) + (i : Int)) = ((at_ + i : Nat) : Int) := by
      rw [wrap_id (by omega) (by omega)]; rfl
    have h7 : IntKind.u64.wrap (wrap64 (7 * (i : Int))) = ((7 * i : Nat) : Int) := by
      rw [wrap_id (x := 7 * (i : Int)) (by omega) (by omega)]
      show (7 * (i : Int)) % 18446744073709551616 = _
      omega
    have hwl : wrap64 ((b.length : Int) - (at_ : Int)) = (b.length : Int) - (at_ : Int) := wrap_id (by omega) (by omega)
    have hc := hb.L (at_ + i)
    have hsl : ((b.take (at_ + i)).drop at_).length = i := by rw [List.length_drop, List.length_take]; omega
    have hv0 := val_nonneg ((b.take (at_ + i)).drop at_)
    have hv1 := val_lt ((b.take (at_ + i)).drop at_)
    rw [hsl] at hv1
    have hr := round_of b hb at_ i _ (by omega) hv0 hv1
    rw [spec_TakeNumber.l0_eq, if_pos (by omega), hwl, hw, h7, rd_L, Int.toNat_natCast]
    rw [scan]
    by_cases c1 : at_ + i < b.length
    · have hseg := take_seg b at_ i c1
      have hval : val ((b.take (at_ + i + 1)).drop at_) = val ((b.take (at_ + i)).drop at_) + L b (at_ + i) % 128 * P7 i := by
        rw [hseg, val_snoc, hsl]
      have ho := or_gen (7 * i) (by omega) _ (L b (at_ + i) % 128) hv0 hv1 (by omega) (by omega)
      have hP : (2 : Int) ^ (7 * i) = P7 i := rfl
      rw [hP] at ho
      rw [if_pos c1, if_pos (by omega), if_pos (by omega), if_pos (by omega), if_pos (by omega), if_pos (by omega), wrap_id (x := L b (at_ + i)) (by omega) (by omega), Int.tmod_eq_emod_of_nonneg hc.1, hP, ho.1, ← hval]
      rw [← hval] at hr
      rw [wrap_id (x := val ((b.take (at_ + i + 1)).drop at_)) (by omega) (by omega)]
      by_cases c2 : L b (at_ + i) ≥ 128
      · rw [if_pos c2, if_pos c2, wrap_next (show i < 7 by omega) (by omega)]
        refine ih (i + 1) k (by omega) (by omega) (by omega) ?_
        intro a ha
        rw [show at_ + (i + 1) = at_ + i + 1 from rfl, hseg, List.mem_append, List.mem_singleton] at ha
        rcases ha with ha | rfl
        · exact hs a ha
        · exact ⟨c2, hc.2⟩
      · rw [if_neg c2, if_neg c2]
        have he := stake_end b hb at_ i hlen (by omega) c1 (by omega) hs K k (by omega)
        rw [Int.tmod_eq_emod_of_nonneg hr.1, Int.tdiv_eq_ediv_of_nonneg hr.1]
        have hz : ∀ v : Int, 0 ≤ v → v < 562949953421312 → (v % 2 = 1 → wrap64 (wrap64 (0 - wrap64 (v / 2)) - 1) = zig v) ∧ (¬ v % 2 = 1 → wrap64 (v / 2) = zig v) := by
          intro v h0 h1
          unfold zig
          refine ⟨fun z => ?_, fun z => ?_⟩
          · rw [if_pos z, wrap_id (x := v / 2) (by omega) (by omega), wrap_id (x := 0 - (v / 2)) (by omega) (by omega), wrap_id (by omega) (by omega)]
            omega
          · rw [if_neg z, wrap_id (x := v / 2) (by omega) (by omega)]
        have hz := hz _ hr.1 hr.2.2
        by_cases z : val ((b.take (at_ + i + 1)).drop at_) % 2 = 1
        · rw [if_pos z, hz.1 z, he]
        · rw [if_neg z, hz.2 z, he]
    · rw [if_neg c1, if_neg (by omega)]
      rfl
theorem stake_f (b : List Int) (hb : Bs b) (at_ : Nat) (hlen : b.length ≤ 2000000) (hat : at_ ≤ b.length) (k : Nat) (hk : 80 ≤ k) : spec_TakeNumber.f k b (at_ : Int) = some ((tk b at_).1, ((tk b at_).2.1 : Int), (tk b at_).2.2) := by
  obtain ⟨k, rfl⟩ : ∃ m, k = m + 1 := ⟨k - 1, by omega⟩
  rw [spec_TakeNumber.f_eq, if_neg (by omega)]
  by_cases c : at_ = b.length
  · rw [if_pos (by omega)]
    have e : tk b at_ = (0, 0, false) := by
      unfold tk scan
      rw [if_neg (by omega)]
    rw [e]
    rfl
  · rw [if_neg (by omega)]
    have hd : (b.take (at_ + 0)).drop at_ = [] := by
      apply List.drop_eq_nil_of_le
      rw [List.length_take]
      omega
    have := stake_loop b hb at_ hlen hat k (by omega) 6 0 k (by omega) (by omega) (by omega) (by rw [hd]; intro a ha; cases ha)
    rw [hd] at this
    exact this
end Go.Vm.Pu
namespace Go.Vm.Pu
open Go Go.RowKit Go.Vm
set_option linter.unusedVariables false
set_option linter.unusedSimpArgs false
theorem modulus_is (f : Int) (k : Nat) (hk : 1 ≤ k) : spec_Modulus.f k f = some (md f) := by
  obtain ⟨k, rfl⟩ : ∃ m, k = m + 1 := ⟨k - 1, by omega⟩
  rw [spec_Modulus.f_eq]
  unfold md
  simp only [apply_ite some]
theorem fieldOf_is (f : Int) (k : Nat) (hk : 1 ≤ k) : impl_fieldOf.f k f = some (md f, gn f, tw f, decide (md f ≠ 0)) := by
  obtain ⟨k, rfl⟩ : ∃ m, k = m + 1 := ⟨k - 1, by omega⟩
  rw [impl_fieldOf.f_eq]
  by_cases c : 0 ≤ f ∧ f ≤ 8
  · rcases nine c.1 c.2 with rfl | rfl | rfl | rfl | rfl | rfl | rfl | rfl | rfl <;> rfl
  · obtain ⟨h1, h2, h3⟩ := md_out c
    rw [h1, h2, h3]
    by_cases c0 : f < 0
    · rw [if_pos c0]; rfl
    · rw [if_neg c0, if_pos (by omega)]; rfl
/-- Few numbers that are not too great. -/
def Wd (l : List Int) : Prop := ∀ x ∈ l, -1099511627776 ≤ x ∧ x ≤ 1099511627776
instance (l : List Int) : Decidable (Wd l) := inferInstanceAs (Decidable (∀ x ∈ l, -1099511627776 ≤ x ∧ x ≤ 1099511627776))
def Ww (l : List Int) : Prop := l.length ≤ 400 ∧ Wd l
instance (l : List Int) : Decidable (Ww l) := by unfold Ww; exact inferInstance
theorem Wd_cons {a : Int} {l : List Int} : Wd (a :: l) ↔ (-1099511627776 ≤ a ∧ a ≤ 1099511627776) ∧ Wd l := by
  constructor
  · intro h
    exact ⟨h a List.mem_cons_self, fun x hx => h x (List.mem_cons_of_mem _ hx)⟩
  · rintro ⟨h1, h2⟩ x hx
    rcases List.mem_cons.1 hx with rfl | hx
    · exact h1
    · exact h2 x hx
theorem swords_f (l : List Int) (hn : l.length ≤ 2000000) (k : Nat) (hk : l.length + 2 < k) : spec_l10Words.f k l = some (decide (Ww l)) := by
  obtain ⟨k, rfl⟩ : ∃ m, k = m + 1 := ⟨k - 1, by omega⟩
  rw [spec_l10Words.f_eq]
  by_cases c : (l.length : Int) > 400
  · rw [if_pos c, decide_eq_false (fun h => by have := h.1; omega)]
  · rw [if_neg c]
    have := loop_list (fun fu (_ : Unit) i => spec_l10Words.l0 k fu l i) l 0 (fun _ _ => True) (fun r _ => decide (Wd r)) (by
      intro fu s _ _
      simp only [spec_l10Words.l0_eq]
      rw [if_neg (by omega), decide_eq_true (show Wd [] from fun x hx => by cases hx)]) (by
      intro fu i s h _ _
      simp only [spec_l10Words.l0_eq]
      rw [if_pos (by omega), if_pos (by omega), if_pos (by omega), rd_at l i h, in_is _ _ _ _ (by omega)]
      simp only [bs, not_ite]
      by_cases c : -1099511627776 ≤ l[i] ∧ l[i] ≤ 1099511627776
      · left
        refine ⟨(), ?_, trivial, ?_⟩
        · rw [if_pos (decide_eq_true c), wrap_next h (by omega)]
        · rw [decide_eq_decide, Wd_cons]
          exact ⟨fun h => h.2, fun h => ⟨c, h⟩⟩
      · right
        rw [if_neg (by simpa using c), decide_eq_false (fun h => c (Wd_cons.1 h).1)]) k () (by omega) trivial
    rw [this]
    congr 1
    rw [decide_eq_decide]
    exact ⟨fun h => ⟨by omega, h⟩, fun h => h.2⟩
theorem iwords_f (l : List Int) (hn : l.length ≤ 2000000) (k : Nat) (hk : l.length + 2 < k) : impl_areWords.f k l = some (decide (Ww l)) := by
  obtain ⟨k, rfl⟩ : ∃ m, k = m + 1 := ⟨k - 1, by omega⟩
  rw [impl_areWords.f_eq]
  have := loop_list (fun fu (_ : Unit) i => impl_areWords.l0 k fu l l (l.length : Int) i) l 0 (fun _ _ => True) (fun r _ => decide (l.length ≤ 400 ∧ Wd r)) (by
    intro fu s _ _
    simp only [impl_areWords.l0_eq]
    rw [if_neg (by omega)]
    congr 1
    rw [decide_eq_decide]
    exact ⟨fun h => ⟨by omega, fun x hx => by cases hx⟩, fun h => by have := h.1; omega⟩) (by
    intro fu i s h _ _
    simp only [impl_areWords.l0_eq]
    rw [if_pos (by omega), if_pos (by omega), if_pos (by omega), rd_at l i h]
    by_cases c1 : l[i] < -1099511627776
    · right
      rw [if_pos c1, decide_eq_false (fun h => by have := (Wd_cons.1 h.2).1; omega)]
    · rw [if_neg c1]
      by_cases c2 : l[i] > 1099511627776
      · right
        rw [if_pos c2, decide_eq_false (fun h => by have := (Wd_cons.1 h.2).1; omega)]
      · left
        refine ⟨(), ?_, trivial, ?_⟩
        · rw [if_neg c2, wrap_next h (by omega)]
        · rw [decide_eq_decide, Wd_cons]
          exact ⟨fun h => ⟨h.1, h.2.2⟩, fun h => ⟨h.1, ⟨by omega, by omega⟩, h.2⟩⟩) k () (by omega) trivial
  exact this
def uB (a : Int) : Prop := a ≠ 1 ∧ a ≠ 2 ∧ a ≠ 7
instance (a : Int) : Decidable (uB a) := by unfold uB; exact inferInstance
/-- A valid job. -/
def JobP (a f : Int) (A B : List Int) (n : Int) : Prop := (1 ≤ a ∧ a ≤ 11) ∧ md f ≠ 0 ∧ (a = 6 → f = 0) ∧ Ww A ∧ Ww B ∧ (0 ≤ n ∧ n ≤ 400) ∧ (uB a ∨ B.length = 0) ∧ (a = 11 ∨ n = 0)
instance (a f : Int) (A B : List Int) (n : Int) : Decidable (JobP a f A B n) := by unfold JobP; exact inferInstance
theorem has_is (l : List Int) (a : Int) (hn : l.length ≤ 2000000) (k : Nat) (hk : l.length + 1 < k) : spec_l01Has.f k l a = some (decide (a ∈ l)) := by
  obtain ⟨k, rfl⟩ : ∃ m, k = m + 1 := ⟨k - 1, by omega⟩
  rw [spec_l01Has.f_eq]
  exact loop_list (fun fu (_ : Unit) i => spec_l01Has.l0 k fu l a i) l 0 (fun _ _ => True) (fun r _ => decide (a ∈ r)) (by
    intro fu s _ _
    simp only [spec_l01Has.l0_eq]
    rw [if_neg (by omega)]
    simp) (by
    intro fu i s h _ _
    simp only [spec_l01Has.l0_eq]
    rw [if_pos (by omega), if_pos (by omega), if_pos (by omega), rd_at l i h]
    by_cases c : l[i] = a
    · right
      rw [if_pos c]
      simp [c]
    · left
      refine ⟨(), ?_, trivial, ?_⟩
      · rw [if_neg c, wrap_next h (by omega)]
      · have c' : ¬ a = l[i] := fun e => c e.symm
        rw [decide_eq_decide, List.mem_cons]
        exact ⟨fun h => h.resolve_left c', Or.inr⟩) k () (by omega) trivial
theorem susesB_f (a : Int) (ha : 1 ≤ a ∧ a ≤ 11) (k : Nat) (hk : 11 < k) : spec_l10UsesB.f k a = some (decide (uB a)) := by
  obtain ⟨k, rfl⟩ : ∃ m, k = m + 1 := ⟨k - 1, by omega⟩
  rw [spec_l10UsesB.f_eq, has_is ([3, 4, 5, 6, 8, 9, 10, 11] : List Int) a (by decide) k (by simp; omega)]
  simp only [bs]
  congr 1
  rw [decide_eq_decide]
  unfold uB
  simp only [List.mem_cons, List.not_mem_nil, or_false]
  omega
theorem iusesB_f (a : Int) (k : Nat) (hk : 1 ≤ k) : impl_usesB.f k a = some (decide (uB a)) := by
  obtain ⟨k, rfl⟩ : ∃ m, k = m + 1 := ⟨k - 1, by omega⟩
  rw [impl_usesB.f_eq]
  by_cases c1 : a = 1
  · rw [if_neg (by omega), decide_eq_false (fun h => h.1 c1)]
  · rw [if_pos c1]
    by_cases c2 : a = 2
    · rw [if_neg (by omega), decide_eq_false (fun h => h.2.1 c2)]
    · rw [if_pos c2]
      congr 1
      rw [decide_eq_decide]
      exact ⟨fun h => ⟨c1, c2, h⟩, fun h => h.2.2⟩
theorem tail_job (a n : Int) : (if a = 11 then some true else some (decide (n = 0))) = some (decide (a = 11 ∨ n = 0)) := by
  by_cases c : a = 11
  · rw [if_pos c, decide_eq_true (Or.inl c)]
  · rw [if_neg c]
    congr 1
    rw [decide_eq_decide]
    exact ⟨Or.inr, fun h => h.resolve_left c⟩
theorem sjobOk_f (a f : Int) (A B : List Int) (n : Int) (hA : A.length ≤ 2000000) (hB : B.length ≤ 2000000) (k : Nat) (hk : A.length + B.length + 30 < k) : spec_JobOk.f k a f A B n = some (decide (JobP a f A B n)) := by
  obtain ⟨k, rfl⟩ : ∃ m, k = m + 1 := ⟨k - 1, by omega⟩
  have bad : ¬ ((1 ≤ a ∧ a ≤ 11) ∧ md f ≠ 0 ∧ (a = 6 → f = 0)) → some false = some (decide (JobP a f A B n)) := fun h => by rw [decide_eq_false (fun g => h ⟨g.1, g.2.1, g.2.2.1⟩)]
  have good : (1 ≤ a ∧ a ≤ 11) ∧ md f ≠ 0 ∧ (a = 6 → f = 0) → spec_JobOk.j0 k a f A B n = some (decide (JobP a f A B n)) := by
    intro h
    rw [spec_JobOk.j0_eq, swords_f A hA k (by omega)]
    simp only [bs, not_ite]
    by_cases wA : Ww A
    · rw [if_pos (decide_eq_true wA), swords_f B hB k (by omega)]
      simp only [bs, not_ite]
      by_cases wB : Ww B
      · rw [if_pos (decide_eq_true wB), in_is _ _ _ _ (by omega)]
        simp only [bs, not_ite]
        by_cases wn : 0 ≤ n ∧ n ≤ 400
        · rw [if_pos (decide_eq_true wn), susesB_f a h.1 k (by omega)]
          simp only [bs, tail_job]
          by_cases u : uB a
          · rw [if_pos (decide_eq_true u)]
            congr 1
            rw [decide_eq_decide]
            exact ⟨fun g => ⟨h.1, h.2.1, h.2.2, wA, wB, wn, Or.inl u, g⟩, fun g => g.2.2.2.2.2.2.2⟩
          · rw [if_neg (by simpa using u)]
            by_cases z : (B.length : Int) = 0
            · rw [if_pos z]
              congr 1
              rw [decide_eq_decide]
              exact ⟨fun g => ⟨h.1, h.2.1, h.2.2, wA, wB, wn, Or.inr (by omega), g⟩, fun g => g.2.2.2.2.2.2.2⟩
            · rw [if_neg z, decide_eq_false (fun g => g.2.2.2.2.2.2.1.elim u (fun e => z (by omega)))]
        · rw [if_neg (by simpa using wn), decide_eq_false (fun g => wn g.2.2.2.2.2.1)]
      · rw [if_neg (by simpa using wB), decide_eq_false (fun g => wB g.2.2.2.2.1)]
    · rw [if_neg (by simpa using wA), decide_eq_false (fun g => wA g.2.2.2.1)]
  rw [spec_JobOk.f_eq, in_is _ _ _ _ (by omega)]
  simp only [bs, not_ite]
  by_cases h1 : 1 ≤ a ∧ a ≤ 11
  · rw [if_pos (decide_eq_true h1), modulus_is _ _ (by omega)]
    simp only [bs]
    by_cases h2 : md f = 0
    · rw [if_pos h2, bad (fun g => g.2.1 h2)]
    · rw [if_neg h2]
      by_cases h3 : a = 6
      · rw [if_pos h3]
        by_cases h4 : f = 0
        · rw [if_neg (by simpa using h4), good ⟨h1, h2, fun _ => h4⟩]
        · rw [if_pos h4, bad (fun g => h4 (g.2.2 h3))]
      · rw [if_neg h3, good ⟨h1, h2, fun e => absurd e h3⟩]
  · rw [if_neg (by simpa using h1), bad (fun g => h1 g.1)]
theorem ijobOk_f (a f : Int) (A B : List Int) (n : Int) (hA : A.length ≤ 2000000) (hB : B.length ≤ 2000000) (k : Nat) (hk : A.length + B.length + 30 < k) : impl_isJob.f k a f A B n = some (decide (JobP a f A B n)) := by
  obtain ⟨k, rfl⟩ : ∃ m, k = m + 1 := ⟨k - 1, by omega⟩
  have bad : ¬ ((1 ≤ a ∧ a ≤ 11) ∧ md f ≠ 0 ∧ (a = 6 → f = 0)) → some false = some (decide (JobP a f A B n)) := fun h => by rw [decide_eq_false (fun g => h ⟨g.1, g.2.1, g.2.2.1⟩)]
  have good : (1 ≤ a ∧ a ≤ 11) ∧ md f ≠ 0 ∧ (a = 6 → f = 0) → impl_isJob.j0 k a f A B n = some (decide (JobP a f A B n)) := by
    intro h
    rw [impl_isJob.j0_eq, iwords_f A hA k (by omega)]
    simp only [bs, not_ite]
    by_cases wA : Ww A
    · rw [if_pos (decide_eq_true wA), iwords_f B hB k (by omega)]
      simp only [bs, not_ite]
      by_cases wB : Ww B
      · rw [if_pos (decide_eq_true wB)]
        by_cases n1 : n < 0
        · rw [if_pos n1, decide_eq_false (fun g => by have := g.2.2.2.2.2.1; omega)]
        · rw [if_neg n1]
          by_cases n2 : n > 400
          · rw [if_pos n2, decide_eq_false (fun g => by have := g.2.2.2.2.2.1; omega)]
          · have wn : 0 ≤ n ∧ n ≤ 400 := by omega
            rw [if_neg n2, iusesB_f a k (by omega)]
            simp only [bs, tail_job]
            by_cases u : uB a
            · rw [if_pos (decide_eq_true u)]
              congr 1
              rw [decide_eq_decide]
              exact ⟨fun g => ⟨h.1, h.2.1, h.2.2, wA, wB, wn, Or.inl u, g⟩, fun g => g.2.2.2.2.2.2.2⟩
            · rw [if_neg (by simpa using u)]
              by_cases z : (B.length : Int) = 0
              · rw [if_pos z]
                congr 1
                rw [decide_eq_decide]
                exact ⟨fun g => ⟨h.1, h.2.1, h.2.2, wA, wB, wn, Or.inr (by omega), g⟩, fun g => g.2.2.2.2.2.2.2⟩
              · rw [if_neg z, decide_eq_false (fun g => g.2.2.2.2.2.2.1.elim u (fun e => z (by omega)))]
      · rw [if_neg (by simpa using wB), decide_eq_false (fun g => wB g.2.2.2.2.1)]
    · rw [if_neg (by simpa using wA), decide_eq_false (fun g => wA g.2.2.2.1)]
  rw [impl_isJob.f_eq, fieldOf_is _ _ (by omega)]
  simp only [bs, not_ite]
  by_cases h2 : md f = 0
  · rw [if_neg (by simpa using h2), bad (fun g => g.2.1 h2)]
  · rw [if_pos (decide_eq_true h2)]
    by_cases h1 : a < 1
    · rw [if_pos h1, bad (fun g => by omega)]
    · rw [if_neg h1]
      by_cases h1' : a > 11
      · rw [if_pos h1', bad (fun g => by omega)]
      · rw [if_neg h1']
        by_cases h3 : a = 6
        · rw [if_pos h3]
          by_cases h4 : f = 0
          · rw [if_neg (by simpa using h4), good ⟨⟨by omega, by omega⟩, h2, fun _ => h4⟩]
          · rw [if_pos h4, bad (fun g => h4 (g.2.2 h3))]
        · rw [if_neg h3, good ⟨⟨by omega, by omega⟩, h2, fun e => absurd e h3⟩]
end Go.Vm.Pu
namespace Go.Vm.Pu
open Go Go.RowKit Go.Vm
set_option linter.unusedVariables false
set_option linter.unusedSimpArgs false
/-- So many numbers, one behind the other. -/
def items (b : List Int) : Nat → Nat → List Int → List Int × Nat × Bool
  | 0, at_, acc => (acc, at_, true)
  | n + 1, at_, acc => if (tk b at_).2.2 = true then items b n (tk b at_).2.1 (acc ++ [(tk b at_).1]) else ([], 0, false)
/-- A list: its length ahead. -/
def tl (b : List Int) (at_ : Nat) : List Int × Nat × Bool := if (tk b at_).2.2 = true ∧ 0 ≤ (tk b at_).1 ∧ (tk b at_).1 ≤ 400 then items b (tk b at_).1.toNat (tk b at_).2.1 [] else ([], 0, false)
theorem items_at (b : List Int) : ∀ (n at_ : Nat) (acc : List Int), at_ ≤ b.length → (items b n at_ acc).2.1 ≤ b.length ∧ (items b n at_ acc).1.length ≤ acc.length + n ∧ ((items b n at_ acc).2.2 = false → items b n at_ acc = ([], 0, false)) := by
  intro n
  induction n with
  | zero => intro at_ acc h; exact ⟨h, Nat.le_refl _, fun h => by simp [items] at h⟩
  | succ n ih =>
    intro at_ acc h
    unfold items
    by_cases c : (tk b at_).2.2 = true
    · rw [if_pos c]
      have := ih (tk b at_).2.1 (acc ++ [(tk b at_).1]) (tk_at b at_).1
      refine ⟨this.1, ?_, this.2.2⟩
      have h2 := this.2.1
      rw [List.length_append, List.length_singleton] at h2
      omega
    · rw [if_neg c]
      exact ⟨Nat.zero_le _, by simp, fun _ => rfl⟩
theorem tl_at (b : List Int) (at_ : Nat) : (tl b at_).2.1 ≤ b.length ∧ (tl b at_).1.length ≤ 400 ∧ ((tl b at_).2.2 = false → tl b at_ = ([], 0, false)) := by
  unfold tl
  by_cases c : (tk b at_).2.2 = true ∧ 0 ≤ (tk b at_).1 ∧ (tk b at_).1 ≤ 400
  · rw [if_pos c]
    have := items_at b (tk b at_).1.toNat (tk b at_).2.1 [] (tk_at b at_).1
    refine ⟨this.1, ?_, this.2.2⟩
    have h2 := this.2.1
    simp only [List.length_nil] at h2
    omega
  · rw [if_neg c]
    exact ⟨Nat.zero_le _, by simp, fun _ => rfl⟩
theorem stl_loop (b : List Int) (hb : Bs b) (hlen : b.length ≤ 2000000) (n : Nat) (hn : n ≤ 400) (K : Nat) (hK : 80 ≤ K) : ∀ (d i at_ k : Nat) (acc : List Int), i + d = n → at_ ≤ b.length → acc.length + d ≤ 1000 → d < k →
    spec_l10TakeList.l0 K k b (at_ : Int) (n : Int) (i : Int) acc = some (((items b d at_ acc).2.1 : Int), (items b d at_ acc).2.2, (items b d at_ acc).1) := by
  intro d
  induction d with
  | zero =>
    intro i at_ k acc hi hat hacc hk
    obtain ⟨k, rfl⟩ : ∃ m, k = m + 1 := ⟨k - 1, by omega⟩
    rw [spec_l10TakeList.l0_eq, if_neg (by omega)]
    rfl
  | succ d ih =>
    intro i at_ k acc hi hat hacc hk
    obtain ⟨k, rfl⟩ : ∃ m, k = m + 1 := ⟨k - 1, by omega⟩
    rw [spec_l10TakeList.l0_eq, if_pos (by omega), stake_f b hb at_ hlen hat K (by omega)]
    simp only [bs, not_ite]
    rw [items]
    by_cases c : (tk b at_).2.2 = true
    · rw [if_pos c, if_pos c, if_pos (by omega), wrap_next (show i < n by omega) (by omega)]
      exact ih (i + 1) _ k _ (by omega) (tk_at b at_).1 (by simp; omega) (by omega)
    · rw [if_neg c, if_neg c]
      rfl
theorem stl_f (b : List Int) (hb : Bs b) (hlen : b.length ≤ 2000000) (at_ : Nat) (hat : at_ ≤ b.length) (k : Nat) (hk : 600 ≤ k) : spec_l10TakeList.f k b (at_ : Int) = some (((tl b at_).2.1 : Int), (tl b at_).2.2, (tl b at_).1) := by
  obtain ⟨k, rfl⟩ : ∃ m, k = m + 1 := ⟨k - 1, by omega⟩
  rw [spec_l10TakeList.f_eq, stake_f b hb at_ hlen hat k (by omega)]
  simp only [bs, not_ite]
  unfold tl
  by_cases c : (tk b at_).2.2 = true
  · rw [if_pos c, in_is _ _ _ _ (by omega)]
    simp only [bs, not_ite]
    by_cases d : 0 ≤ (tk b at_).1 ∧ (tk b at_).1 ≤ 400
    · rw [if_pos (decide_eq_true d), if_pos ⟨c, d⟩]
      have := stl_loop b hb hlen (tk b at_).1.toNat (by omega) k (by omega) (tk b at_).1.toNat 0 (tk b at_).2.1 k [] (by omega) (tk_at b at_).1 (by simp; omega) (by omega)
      rw [Int.toNat_of_nonneg d.1] at this
      exact this
    · rw [if_neg (by simpa using d), if_neg (fun h => d h.2)]
      rfl
  · rw [if_neg c, if_neg (fun h => c h.1)]
    rfl
def badJob : Int × Int × List Int × List Int × Int × Bool := (0, 0, [], [], 0, false)
/-- What both decode. -/
def djEnd (b : List Int) (f0 f1 : Int) (A : List Int) (f4 : Int) (B : List Int × Nat × Bool) : Int × Int × List Int × List Int × Int × Bool :=
  if B.2.2 = true ∧ B.2.1 = b.length ∧ JobP f0 f1 A B.1 f4 then (f0, f1, A, B.1, f4, true) else badJob
def djA (b : List Int) (f0 f1 f4 : Int) (A : List Int × Nat × Bool) : Int × Int × List Int × List Int × Int × Bool :=
  if A.2.2 = true then djEnd b f0 f1 A.1 f4 (tl b A.2.1) else badJob
def dj (b : List Int) : Int × Int × List Int × List Int × Int × Bool :=
  if b.length < 2 then badJob else (if (tk b 2).2.2 = true then djA b (L b 0) (L b 1) (tk b 2).1 (tl b (tk b 2).2.1) else badJob)
/-- The order in which the program hands it on. -/
def jv (x : Int × Int × List Int × List Int × Int × Bool) : Int × Int × Int × Bool × List Int × List Int := (x.1, x.2.1, x.2.2.2.2.1, x.2.2.2.2.2, x.2.2.1, x.2.2.2.1)
theorem sdecode_f (b : List Int) (hb : Bs b) (hlen : b.length ≤ 2000000) (k : Nat) (hk : 2000 ≤ k) : spec_DecodeJob.f k b = some (jv (dj b)) := by
  have b0 := hb.L 0
  have b1 := hb.L 1
  obtain ⟨k, rfl⟩ : ∃ m, k = m + 1 := ⟨k - 1, by omega⟩
  rw [spec_DecodeJob.f_eq]
  unfold dj
  by_cases c : (b.length : Int) < 2
  · rw [if_pos c, if_pos (by omega)]
    rfl
  · have s2 := stake_f b hb 2 hlen (by omega) k (by omega)
    have r0 : rdI b 0 = L b 0 := rd_L b 0
    have r1 : rdI b 1 = L b 1 := rd_L b 1
    rw [show ((2 : Nat) : Int) = 2 from rfl] at s2
    rw [if_neg c, if_pos (by omega), if_pos (by omega), s2, if_neg (by omega)]
    simp only [bs, not_ite]
    rw [r0, r1, wrap_id (x := L b 0) (by omega) (by omega), wrap_id (x := L b 1) (by omega) (by omega)]
    by_cases h1 : (tk b 2).2.2 = true
    · rw [if_pos h1, if_pos h1, stl_f b hb hlen _ (tk_at b 2).1 k (by omega)]
      simp only [bs]
      have tA := tl_at b (tk b 2).2.1
      generalize tl b (tk b 2).2.1 = A at tA ⊢
      unfold djA
      by_cases h2 : A.2.2 = true
      · rw [if_pos h2, if_pos h2, stl_f b hb hlen _ tA.1 k (by omega)]
        simp only [bs]
        have tB := tl_at b A.2.1
        generalize tl b A.2.1 = B at tB ⊢
        unfold djEnd
        by_cases h3 : B.2.2 = true
        · rw [if_pos h3]
          by_cases h4 : (B.2.1 : Int) = (b.length : Int)
          · rw [if_neg (by simpa using h4), sjobOk_f _ _ _ _ _ (by omega) (by omega) k (by omega)]
            simp only [bs]
            by_cases h5 : JobP (L b 0) (L b 1) A.1 B.1 (tk b 2).1
            · rw [if_pos (decide_eq_true h5), if_pos ⟨h3, by omega, h5⟩]
              rfl
            · rw [if_neg (by simpa using h5), if_neg (fun h => h5 h.2.2)]
              rfl
          · rw [if_pos h4, if_neg (fun h => h4 (by omega))]
            rfl
        · rw [if_neg h3, if_neg (fun h => h3 h.1)]
          rfl
      · rw [if_neg h2, if_neg h2]
        rfl
    · rw [if_neg h1, if_neg h1]
      rfl
theorem ij0_f (b : List Int) (hlen : b.length ≤ 2000000) (at_ : Nat) (f0 f1 : Int) (A B : List Int) (f4 : Int) (hA : A.length ≤ 500) (hB : B.length ≤ 500) (k : Nat) (hk : 1100 ≤ k) (x y z : Int) :
    impl_DecodeJob.j0 k b (at_ : Int) x y z f0 f1 f4 A B = some (jv (djEnd b f0 f1 A f4 (B, at_, true))) := by
  rw [impl_DecodeJob.j0_eq]
  unfold djEnd
  by_cases d : (at_ : Int) = (b.length : Int)
  · rw [if_neg (by simpa using d), ijobOk_f _ _ _ _ _ (by omega) (by omega) k (by omega)]
    simp only [bs, not_ite]
    by_cases e : JobP f0 f1 A B f4
    · rw [if_pos (decide_eq_true e), if_pos ⟨trivial, by omega, e⟩]
      rfl
    · rw [if_neg (by simpa using e), if_neg (fun h => e h.2.2)]
      rfl
  · rw [if_pos d, if_neg (fun h => d (by have h2 := h.2.1; simp only at h2; omega))]
    rfl
theorem il1_no (b : List Int) (at_ m i : Int) (f0 f1 : Int) (A B : List Int) (f4 : Int) (K k : Nat) (hk : 1 ≤ k) : impl_DecodeJob.l1 K k b at_ false m i f0 f1 f4 A B = some (jv badJob) := by
  obtain ⟨k, rfl⟩ : ∃ m, k = m + 1 := ⟨k - 1, by omega⟩
  rw [impl_DecodeJob.l1_eq]
  rfl
theorem il0_no (b : List Int) (at_ m i : Int) (f0 f1 : Int) (A : List Int) (f4 : Int) (K k : Nat) (hk : 1 ≤ k) : impl_DecodeJob.l0 K k b at_ false m i f0 f1 f4 A = some (jv badJob) := by
  obtain ⟨k, rfl⟩ : ∃ m, k = m + 1 := ⟨k - 1, by omega⟩
  rw [impl_DecodeJob.l0_eq, if_neg (by decide), if_pos (by decide)]
  rfl
theorem il1_f (b : List Int) (hb : Bs b) (hlen : b.length ≤ 2000000) (f0 f1 : Int) (A : List Int) (f4 : Int) (hA : A.length ≤ 500) (n : Nat) (hn : n ≤ 400) (K : Nat) (hK : 1100 ≤ K) : ∀ (d i at_ k : Nat) (B : List Int), i + d = n → at_ ≤ b.length → B.length + d ≤ 500 → d + 1 < k →
    impl_DecodeJob.l1 K k b (at_ : Int) true (n : Int) (i : Int) f0 f1 f4 A B = some (jv (djEnd b f0 f1 A f4 (items b d at_ B))) := by
  intro d
  induction d with
  | zero =>
    intro i at_ k B hi hat hB hk
    obtain ⟨k, rfl⟩ : ∃ m, k = m + 1 := ⟨k - 1, by omega⟩
    rw [impl_DecodeJob.l1_eq, if_pos rfl, if_neg (by omega), if_neg (by decide), ij0_f b hlen at_ f0 f1 A B f4 hA (by omega) K (by omega)]
    rfl
  | succ d ih =>
    intro i at_ k B hi hat hB hk
    obtain ⟨k, rfl⟩ : ∃ m, k = m + 1 := ⟨k - 1, by omega⟩
    rw [impl_DecodeJob.l1_eq, if_pos rfl, if_pos (by omega), itake_f b hb at_ hlen hat K (by omega)]
    simp only [bs]
    rw [if_pos (by omega), items]
    by_cases c : (tk b at_).2.2 = true
    · rw [c, if_pos rfl, wrap_next (show i < n by omega) (by omega)]
      exact ih (i + 1) _ k _ (by omega) (tk_at b at_).1 (by simp; omega) (by omega)
    · rw [if_neg c, show (tk b at_).2.2 = false by simpa using c, il1_no _ _ _ _ _ _ _ _ _ _ k (by omega)]
      unfold djEnd
      rw [if_neg (fun h => by simp at h)]
theorem ij2_f (b : List Int) (hb : Bs b) (hlen : b.length ≤ 2000000) (at_ : Nat) (hat : at_ ≤ b.length) (f0 f1 : Int) (A : List Int) (f4 : Int) (hA : A.length ≤ 500) (k : Nat) (hk : 2000 ≤ k) :
    (impl_takeNumber.f k b (at_ : Int)).bind (fun r2 => (if r2.2.2 = true then (if (r2.1 ≥ 0) then impl_DecodeJob.j2 k b r2.2.1 (decide (r2.1 ≤ 400)) r2.1 f0 f1 f4 A else impl_DecodeJob.j2 k b r2.2.1 false r2.1 f0 f1 f4 A) else impl_DecodeJob.j2 k b r2.2.1 false r2.1 f0 f1 f4 A)) = some (jv (djEnd b f0 f1 A f4 (tl b at_))) := by
  rw [itake_f b hb at_ hlen hat k (by omega)]
  simp only [bs, impl_DecodeJob.j2_eq]
  have no : ¬ ((tk b at_).2.2 = true ∧ 0 ≤ (tk b at_).1 ∧ (tk b at_).1 ≤ 400) → some (jv badJob) = some (jv (djEnd b f0 f1 A f4 (tl b at_))) := by
    intro h
    unfold tl
    rw [if_neg h]
    unfold djEnd
    rw [if_neg (fun h => by simp at h)]
  by_cases c : (tk b at_).2.2 = true
  · rw [if_pos c]
    by_cases d : (tk b at_).1 ≥ 0
    · rw [if_pos d]
      by_cases e : (tk b at_).1 ≤ 400
      · rw [decide_eq_true e]
        have := il1_f b hb hlen f0 f1 A f4 hA (tk b at_).1.toNat (by omega) k (by omega) (tk b at_).1.toNat 0 (tk b at_).2.1 k [] (by omega) (tk_at b at_).1 (by simp; omega) (by omega)
        rw [Int.toNat_of_nonneg d] at this
        rw [show ((0 : Nat) : Int) = 0 from rfl] at this
        rw [this]
        unfold tl
        rw [if_pos ⟨c, d, e⟩]
      · rw [decide_eq_false e, il1_no _ _ _ _ _ _ _ _ _ _ k (by omega)]
        exact no (fun h => e h.2.2)
    · rw [if_neg d, il1_no _ _ _ _ _ _ _ _ _ _ k (by omega)]
      exact no (fun h => d h.2.1)
  · rw [if_neg c, il1_no _ _ _ _ _ _ _ _ _ _ k (by omega)]
    exact no (fun h => c h.1)
theorem il0_f (b : List Int) (hb : Bs b) (hlen : b.length ≤ 2000000) (f0 f1 : Int) (f4 : Int) (n : Nat) (hn : n ≤ 400) (K : Nat) (hK : 2000 ≤ K) : ∀ (d i at_ k : Nat) (A : List Int), i + d = n → at_ ≤ b.length → A.length + d ≤ 500 → d + 1 < k →
    impl_DecodeJob.l0 K k b (at_ : Int) true (n : Int) (i : Int) f0 f1 f4 A = some (jv (djA b f0 f1 f4 (items b d at_ A))) := by
  intro d
  induction d with
  | zero =>
    intro i at_ k A hi hat hA hk
    obtain ⟨k, rfl⟩ : ∃ m, k = m + 1 := ⟨k - 1, by omega⟩
    rw [impl_DecodeJob.l0_eq, if_pos rfl, if_neg (by omega), if_neg (by decide)]
    simp only [if_true]
    exact ij2_f b hb hlen at_ hat f0 f1 A f4 (by omega) K (by omega)
  | succ d ih =>
    intro i at_ k A hi hat hA hk
    obtain ⟨k, rfl⟩ : ∃ m, k = m + 1 := ⟨k - 1, by omega⟩
    rw [impl_DecodeJob.l0_eq, if_pos rfl, if_pos (by omega), itake_f b hb at_ hlen hat K (by omega)]
    simp only [bs]
    rw [if_pos (by omega), items]
    by_cases c : (tk b at_).2.2 = true
    · rw [c, if_pos rfl, wrap_next (show i < n by omega) (by omega)]
      exact ih (i + 1) _ k _ (by omega) (tk_at b at_).1 (by simp; omega) (by omega)
    · rw [if_neg c, show (tk b at_).2.2 = false by simpa using c, il0_no _ _ _ _ _ _ _ _ _ k (by omega)]
      unfold djA
      rw [if_neg (fun h => by simp at h)]
theorem idecode_f (b : List Int) (hb : Bs b) (hlen : b.length ≤ 2000000) (k : Nat) (hk : 3000 ≤ k) : impl_DecodeJob.f k b = some (jv (dj b)) := by
  obtain ⟨k, rfl⟩ : ∃ m, k = m + 1 := ⟨k - 1, by omega⟩
  have b0 := hb.L 0
  have b1 := hb.L 1
  rw [impl_DecodeJob.f_eq]
  unfold dj
  by_cases c : (b.length : Int) < 2
  · rw [if_pos c, if_pos (by omega)]
    rfl
  · have s2 := itake_f b hb 2 hlen (by omega) k (by omega)
    have r0 : rdI b 0 = L b 0 := rd_L b 0
    have r1 : rdI b 1 = L b 1 := rd_L b 1
    rw [show ((2 : Nat) : Int) = 2 from rfl] at s2
    rw [if_neg c, if_pos (by omega), if_pos (by omega), s2, if_neg (by omega)]
    simp only [bs]
    rw [itake_f b hb _ hlen (tk_at b 2).1 k (by omega)]
    simp only [bs]
    rw [r0, r1, wrap_id (x := L b 0) (by omega) (by omega), wrap_id (x := L b 1) (by omega) (by omega)]
    simp only [impl_DecodeJob.j1_eq]
    have noA : ¬ ((tk b (tk b 2).2.1).2.2 = true ∧ 0 ≤ (tk b (tk b 2).2.1).1 ∧ (tk b (tk b 2).2.1).1 ≤ 400) → djA b (L b 0) (L b 1) (tk b 2).1 (tl b (tk b 2).2.1) = badJob := by
      intro h
      unfold tl
      rw [if_neg h]
      unfold djA
      rw [if_neg (fun h => by simp at h)]
    by_cases h1 : (tk b 2).2.2 = true
    · rw [if_pos h1, if_pos h1]
      by_cases h2 : (tk b (tk b 2).2.1).2.2 = true
      · rw [if_pos h2]
        by_cases h3 : (tk b (tk b 2).2.1).1 ≥ 0
        · rw [if_pos h3]
          by_cases h4 : (tk b (tk b 2).2.1).1 ≤ 400
          · rw [decide_eq_true h4]
            have := il0_f b hb hlen (L b 0) (L b 1) (tk b 2).1 (tk b (tk b 2).2.1).1.toNat (by omega) k (by omega) (tk b (tk b 2).2.1).1.toNat 0 (tk b (tk b 2).2.1).2.1 k [] (by omega) (tk_at b _).1 (by simp; omega) (by omega)
            rw [Int.toNat_of_nonneg h3] at this
            rw [show ((0 : Nat) : Int) = 0 from rfl] at this
            rw [this]
            unfold tl
            rw [if_pos ⟨h2, h3, h4⟩]
          · rw [decide_eq_false h4, il0_no _ _ _ _ _ _ _ _ _ k (by omega), noA (fun h => h4 h.2.2)]
        · rw [if_neg h3, il0_no _ _ _ _ _ _ _ _ _ k (by omega), noA (fun h => h3 h.2.1)]
      · rw [if_neg h2, il0_no _ _ _ _ _ _ _ _ _ k (by omega), noA (fun h => h2 h.1)]
    · rw [if_neg h1, if_neg h1, il0_no _ _ _ _ _ _ _ _ _ k (by omega)]
theorem dj_ok (b : List Int) : ((dj b).2.2.2.2.2 = true → JobP (dj b).1 (dj b).2.1 (dj b).2.2.1 (dj b).2.2.2.1 (dj b).2.2.2.2.1) ∧ (dj b).2.2.1.length ≤ 400 ∧ (dj b).2.2.2.1.length ≤ 400 := by
  have hbad : ((badJob).2.2.2.2.2 = true → JobP badJob.1 badJob.2.1 badJob.2.2.1 badJob.2.2.2.1 badJob.2.2.2.2.1) ∧ badJob.2.2.1.length ≤ 400 ∧ badJob.2.2.2.1.length ≤ 400 := ⟨fun h => by simp [badJob] at h, by simp [badJob], by simp [badJob]⟩
  unfold dj
  by_cases c : b.length < 2
  · rw [if_pos c]; exact hbad
  · rw [if_neg c]
    by_cases d : (tk b 2).2.2 = true
    · rw [if_pos d]
      unfold djA
      have tA := tl_at b (tk b 2).2.1
      by_cases e : (tl b (tk b 2).2.1).2.2 = true
      · rw [if_pos e]
        have tB := tl_at b (tl b (tk b 2).2.1).2.1
        unfold djEnd
        split
        · rename_i h
          exact ⟨fun _ => h.2.2, tA.2.1, tB.2.1⟩
        · exact hbad
      · rw [if_neg e]; exact hbad
    · rw [if_neg d]; exact hbad
end Go.Vm.Pu
namespace Go.Vm.Pu
open Go Go.RowKit Go.Vm
set_option linter.unusedVariables false
set_option linter.unusedSimpArgs false
/-- The rounds that count a number's bits. -/
def lb : Nat → Int → Int → Option Int
  | 0, _, _ => none
  | k + 1, x, a => if x > 0 then lb k (wrap64 (Int.tdiv x 2)) (wrap64 (a + 1)) else some a
theorem lb_is (K : Nat) : ∀ (k : Nat) (x a : Int), spec_l10Bits.l0 K k x a = lb k x a
  | 0, x, a => by kernel_rfl
  | k + 1, x, a => by rw [spec_l10Bits.l0_eq, lb, lb_is K k]
theorem bits_mono : ∀ (k : Nat) (x a r : Int), lb k x a = some r → ∀ m, lb (k + m) x a = some r := by
  intro k
  induction k with
  | zero => intro x a r h; simp [lb] at h
  | succ k ih =>
    intro x a r h m
    rw [show k + 1 + m = (k + m) + 1 by omega]
    simp only [lb] at h ⊢
    by_cases c : x > 0
    · rw [if_pos c] at h ⊢
      exact ih _ _ _ h m
    · rw [if_neg c] at h ⊢
      exact h
/-- How many bits a number of at most 1000 has. -/
def bl (n : Nat) : Int := (lb 12 (n : Int) 0).getD 0
set_option maxRecDepth 100000 in
theorem bits_tab1 : ∀ n : _root_.Fin 1001, lb 12 (n.val : Int) 0 = some (bl n.val) := by decide +kernel
set_option maxRecDepth 100000 in
theorem bits_tab2 : ∀ n : _root_.Fin 1001, bits_Len.f 2 (n.val : Int) = some (bl n.val) := by decide +kernel
theorem sbits_f (n : Nat) (h : n ≤ 1000) (k : Nat) (hk : 13 ≤ k) : spec_l10Bits.f k (n : Int) = some (bl n) := by
  obtain ⟨m, rfl⟩ : ∃ m, k = (12 + m) + 1 := ⟨k - 13, by omega⟩
  rw [spec_l10Bits.f_eq, lb_is]
  exact bits_mono 12 _ _ _ (bits_tab1 ⟨n, by omega⟩) m
theorem ibits_f (n : Nat) (h : n ≤ 1000) (k : Nat) (hk : 2 ≤ k) : bits_Len.f k (IntKind.u64.wrap (n : Int)) = some (bl n) := by
  obtain ⟨k, rfl⟩ : ∃ m, k = (m + 1) + 1 := ⟨k - 2, by omega⟩
  have e : IntKind.u64.wrap (n : Int) = (n : Int) := by
    show (n : Int) % 18446744073709551616 = _
    omega
  have e2 : bits_Len.f ((k + 1) + 1) (n : Int) = bits_Len.f ((0 + 1) + 1) (n : Int) := by rw [bits_Len.f_eq, bits_Len.f_eq, bits_Len64.f_eq, bits_Len64.f_eq]
  rw [e, e2]
  exact bits_tab2 ⟨n, by omega⟩
/-- A job's cost. -/
def jc (a l s v w : Int) : Int :=
  if a = 1 ∨ a = 2 then wrap64 (1 + wrap64 (l * v)) else if a = 3 ∨ a = 4 then wrap64 (1 + wrap64 (wrap64 (3 * l) * v)) else if a = 5 then wrap64 (1 + wrap64 (s * w)) else if a = 6 then wrap64 (1 + wrap64 (wrap64 (2 * s) * w)) else
  if a = 7 then wrap64 (1 + wrap64 (wrap64 (2 * l) * v)) else if a = 8 ∨ a = 9 then wrap64 (1 + wrap64 (wrap64 (s * w) * w)) else if a = 10 then wrap64 (1 + wrap64 (wrap64 (3 * s) * w)) else wrap64 (1 + wrap64 (l * l))
def cost (a : Int) (A B : List Int) : Int := jc a A.length (wrap64 ((A.length : Int) + (B.length : Int))) (bl A.length) (bl (A.length + B.length))
theorem eleven {a : Int} (h : 1 ≤ a ∧ a ≤ 11) : a = 1 ∨ a = 2 ∨ a = 3 ∨ a = 4 ∨ a = 5 ∨ a = 6 ∨ a = 7 ∨ a = 8 ∨ a = 9 ∨ a = 10 ∨ a = 11 := by omega
theorem scost_f (a f : Int) (A B : List Int) (n : Int) (h : JobP a f A B n) (k : Nat) (hk : 1000 ≤ k) : spec_JobCost.f k a f A B n = some (cost a A B) := by
  obtain ⟨k, rfl⟩ : ∃ m, k = m + 1 := ⟨k - 1, by omega⟩
  have e := eleven h.1
  have hA := h.2.2.2.1.1
  have hB := h.2.2.2.2.1.1
  have hs : wrap64 ((A.length : Int) + (B.length : Int)) = ((A.length + B.length : Nat) : Int) := by
    rw [wrap_id (by omega) (by omega)]; rfl
  rw [spec_JobCost.f_eq, sjobOk_f a f A B n (by omega) (by omega) k (by omega)]
  simp only [bs, not_ite]
  rw [if_pos (decide_eq_true h), sbits_f _ (by omega) k (by omega)]
  simp only [bs]
  rw [hs, sbits_f _ (by omega) k (by omega)]
  simp only [bs]
  unfold cost
  rw [hs]
  generalize ((A.length + B.length : Nat) : Int) = s
  generalize bl A.length = v
  generalize bl (A.length + B.length) = w
  generalize (A.length : Int) = l
  clear hA hB hs h
  rcases e with rfl | rfl | rfl | rfl | rfl | rfl | rfl | rfl | rfl | rfl | rfl <;> simp [jc, spec_JobCost.j0_eq, spec_JobCost.j1_eq, spec_JobCost.j2_eq]
theorem icost_f (a f : Int) (A B : List Int) (n : Int) (h : JobP a f A B n) (k : Nat) (hk : 1000 ≤ k) : impl_jobCost.f k a f A B n = some (cost a A B) := by
  obtain ⟨k, rfl⟩ : ∃ m, k = m + 1 := ⟨k - 1, by omega⟩
  have e := eleven h.1
  have hA := h.2.2.2.1.1
  have hB := h.2.2.2.2.1.1
  have hs : wrap64 ((A.length : Int) + (B.length : Int)) = ((A.length + B.length : Nat) : Int) := by
    rw [wrap_id (by omega) (by omega)]; rfl
  rw [impl_jobCost.f_eq, ibits_f _ (by omega) k (by omega)]
  simp only [bs]
  rw [hs, ibits_f _ (by omega) k (by omega)]
  simp only [bs]
  unfold cost
  generalize bl A.length = v
  generalize bl (A.length + B.length) = w
  generalize (A.length : Int) = l
  generalize (B.length : Int) = m
  clear hA hB hs h
  rcases e with rfl | rfl | rfl | rfl | rfl | rfl | rfl | rfl | rfl | rfl | rfl <;> simp [jc, impl_jobCost.j0_eq, impl_jobCost.j1_eq, impl_jobCost.j2_eq, impl_jobCost.j3_eq]
/-- A valid event. -/
def EvP (a0 a1 a2 a3 : Int) (D : List Int) : Prop := (0 ≤ a1 ∧ a1 ≤ 99) ∧ ((a0 = 1 ∧ a2 = 0 ∧ (100 ≤ a3 ∧ a3 ≤ 100000) ∧ D.length = 0) ∨
  (a0 = 2 ∧ (1 ≤ a2 ∧ a2 ≤ 1000000000) ∧ (dj D).2.2.2.2.2 = true ∧ a3 = cost (dj D).1 (dj D).2.2.1 (dj D).2.2.2.1) ∨ ((a0 = 3 ∨ a0 = 4) ∧ (1 ≤ a2 ∧ a2 ≤ 1000000000) ∧ a3 = 0 ∧ D.length = 0) ∨ (a0 = 5 ∧ a2 = 0 ∧ a3 = 0 ∧ D.length = 0))
instance (a0 a1 a2 a3 : Int) (D : List Int) : Decidable (EvP a0 a1 a2 a3 D) := by unfold EvP; exact inferInstance
theorem sevent_f (a0 a1 a2 a3 : Int) (D : List Int) (hb : Bs D) (hlen : D.length ≤ 2000000) (k : Nat) (hk : 4000 ≤ k) : spec_EventOk.f k a0 a1 a2 a3 D = some (decide (EvP a0 a1 a2 a3 D)) := by
  obtain ⟨k, rfl⟩ : ∃ m, k = m + 1 := ⟨k - 1, by omega⟩
  rw [spec_EventOk.f_eq, in_is _ _ _ _ (by omega)]
  simp only [bs, not_ite]
  by_cases h1 : 0 ≤ a1 ∧ a1 ≤ 99
  · rw [if_pos (decide_eq_true h1)]
    by_cases e1 : a0 = 1
    · rw [if_pos e1]
      by_cases e2 : a2 = 0
      · rw [if_pos e2, in_is _ _ _ _ (by omega)]
        simp only [bs]
        by_cases e3 : 100 ≤ a3 ∧ a3 ≤ 100000
        · rw [if_pos (decide_eq_true e3)]
          congr 1
          rw [decide_eq_decide]
          unfold EvP
          omega
        · rw [if_neg (by simpa using e3), decide_eq_false]
          unfold EvP
          omega
      · rw [if_neg e2, decide_eq_false]
        unfold EvP
        omega
    · rw [if_neg e1]
      by_cases e2 : a0 = 2
      · rw [if_pos e2, sdecode_f D hb hlen k (by omega), in_is _ _ _ _ (by omega)]
        simp only [bs, jv]
        have hok := dj_ok D
        by_cases e3 : 1 ≤ a2 ∧ a2 ≤ 1000000000
        · rw [if_pos (decide_eq_true e3)]
          by_cases e4 : (dj D).2.2.2.2.2 = true
          · rw [if_pos e4, scost_f _ _ _ _ _ (hok.1 e4) k (by omega)]
            simp only [bs]
            congr 1
            rw [decide_eq_decide]
            unfold EvP
            exact ⟨fun h => ⟨h1, Or.inr (Or.inl ⟨e2, e3, e4, h⟩)⟩, fun h => by
              rcases h.2 with h | h | h | h
              · omega
              · exact h.2.2.2
              · omega
              · omega⟩
          · rw [if_neg e4, decide_eq_false]
            unfold EvP
            rintro ⟨_, h | h | h | h⟩
            · omega
            · exact e4 h.2.2.1
            · omega
            · omega
        · rw [if_neg (by simpa using e3), decide_eq_false]
          unfold EvP
          rintro ⟨_, h | h | h | h⟩
          · omega
          · exact e3 h.2.1
          · omega
          · omega
      · rw [if_neg e2]
        have key : ∀ x : Bool, (x = true ↔ (a0 = 3 ∨ a0 = 4)) → spec_EventOk.j0 k a0 x a0 a1 a2 a3 D = some (decide (EvP a0 a1 a2 a3 D)) := by
          intro x hx
          rw [spec_EventOk.j0_eq]
          by_cases c : x = true
          · rw [if_pos c, in_is _ _ _ _ (by omega)]
            simp only [bs]
            have := hx.1 c
            by_cases e3 : 1 ≤ a2 ∧ a2 ≤ 1000000000
            · rw [if_pos (decide_eq_true e3)]
              by_cases e4 : a3 = 0
              · rw [if_pos e4]
                congr 1
                rw [decide_eq_decide]
                unfold EvP
                omega
              · rw [if_neg e4, decide_eq_false]
                unfold EvP
                omega
            · rw [if_neg (by simpa using e3), decide_eq_false]
              unfold EvP
              omega
          · rw [if_neg c]
            have hn : ¬ (a0 = 3 ∨ a0 = 4) := fun h => c (hx.2 h)
            by_cases e5 : a0 = 5
            · rw [if_pos e5]
              by_cases e6 : a2 = 0
              · rw [if_pos e6]
                by_cases e7 : a3 = 0
                · rw [if_pos e7]
                  congr 1
                  rw [decide_eq_decide]
                  unfold EvP
                  omega
                · rw [if_neg e7, decide_eq_false]
                  unfold EvP
                  omega
              · rw [if_neg e6, decide_eq_false]
                unfold EvP
                omega
            · rw [if_neg e5, decide_eq_false]
              unfold EvP
              omega
        by_cases e3 : a0 = 3
        · rw [if_pos e3, key _ (by simp [e3])]
        · rw [if_neg e3, key _ (by simp [e3])]
  · rw [if_neg (by simpa using h1), decide_eq_false (fun h => h1 h.1)]
theorem ievent_f (a0 a1 a2 a3 : Int) (D : List Int) (hb : Bs D) (hlen : D.length ≤ 2000000) (k : Nat) (hk : 4000 ≤ k) : impl_isEvent.f k a0 a1 a2 a3 D = some (decide (EvP a0 a1 a2 a3 D)) := by
  obtain ⟨k, rfl⟩ : ∃ m, k = m + 1 := ⟨k - 1, by omega⟩
  have key : (0 ≤ a1 ∧ a1 ≤ 99) → ∀ x : Bool, (x = true ↔ (1 ≤ a2 ∧ a2 ≤ 1000000000)) → impl_isEvent.j0 k x a0 a1 a2 a3 D = some (decide (EvP a0 a1 a2 a3 D)) := by
      intro h1 x hx
      rw [impl_isEvent.j0_eq]
      by_cases e1 : a0 = 1
      · rw [if_pos e1]
        by_cases e2 : a2 = 0
        · rw [if_pos e2]
          by_cases e3 : a3 ≥ 100
          · rw [if_pos e3]
            by_cases e4 : a3 ≤ 100000
            · rw [if_pos e4]
              congr 1
              rw [decide_eq_decide]
              unfold EvP
              omega
            · rw [if_neg e4, decide_eq_false]
              unfold EvP
              omega
          · rw [if_neg e3, decide_eq_false]
            unfold EvP
            omega
        · rw [if_neg e2, decide_eq_false]
          unfold EvP
          omega
      · rw [if_neg e1]
        by_cases e2 : a0 = 2
        · rw [if_pos e2, idecode_f D hb hlen k (by omega)]
          simp only [bs, jv]
          have hok := dj_ok D
          by_cases e3 : x = true
          · rw [if_pos e3]
            by_cases e4 : (dj D).2.2.2.2.2 = true
            · rw [if_pos e4, icost_f _ _ _ _ _ (hok.1 e4) k (by omega)]
              simp only [bs]
              congr 1
              rw [decide_eq_decide]
              unfold EvP
              exact ⟨fun h => ⟨h1, Or.inr (Or.inl ⟨e2, hx.1 e3, e4, h⟩)⟩, fun h => by
                rcases h.2 with h | h | h | h
                · omega
                · exact h.2.2.2
                · omega
                · omega⟩
            · rw [if_neg e4, decide_eq_false]
              unfold EvP
              rintro ⟨_, h | h | h | h⟩
              · omega
              · exact e4 h.2.2.1
              · omega
              · omega
          · rw [if_neg e3, decide_eq_false]
            unfold EvP
            rintro ⟨_, h | h | h | h⟩
            · omega
            · exact e3 (hx.2 h.2.1)
            · omega
            · omega
        · rw [if_neg e2]
          have key2 : ∀ y : Bool, (y = true ↔ (a0 = 3 ∨ a0 = 4)) → impl_isEvent.j1 k x a0 y a0 a1 a2 a3 D = some (decide (EvP a0 a1 a2 a3 D)) := by
            intro y hy
            rw [impl_isEvent.j1_eq]
            by_cases c : y = true
            · rw [if_pos c]
              have := hy.1 c
              by_cases e3 : x = true
              · have := hx.1 e3
                rw [if_pos e3]
                by_cases e4 : a3 = 0
                · rw [if_pos e4]
                  congr 1
                  rw [decide_eq_decide]
                  unfold EvP
                  omega
                · rw [if_neg e4, decide_eq_false]
                  unfold EvP
                  omega
              · have : ¬ (1 ≤ a2 ∧ a2 ≤ 1000000000) := fun h => e3 (hx.2 h)
                rw [if_neg e3, decide_eq_false]
                unfold EvP
                omega
            · rw [if_neg c]
              have hn : ¬ (a0 = 3 ∨ a0 = 4) := fun h => c (hy.2 h)
              by_cases e5 : a0 = 5
              · rw [if_pos e5]
                by_cases e6 : a2 = 0
                · rw [if_pos e6]
                  by_cases e7 : a3 = 0
                  · rw [if_pos e7]
                    congr 1
                    rw [decide_eq_decide]
                    unfold EvP
                    omega
                  · rw [if_neg e7, decide_eq_false]
                    unfold EvP
                    omega
                · rw [if_neg e6, decide_eq_false]
                  unfold EvP
                  omega
              · rw [if_neg e5, decide_eq_false]
                unfold EvP
                omega
          by_cases e3 : a0 = 3
          · rw [if_pos e3, key2 _ (by simp [e3])]
          · rw [if_neg e3, key2 _ (by simp [e3])]
  rw [impl_isEvent.f_eq]
  by_cases c : a1 < 0
  · rw [if_pos c, decide_eq_false (fun g => by have := g.1; omega)]
  · rw [if_neg c]
    by_cases d : a1 > 99
    · rw [if_pos d, decide_eq_false (fun g => by have := g.1; omega)]
    · rw [if_neg d]
      by_cases e1 : a2 ≥ 1
      · rw [if_pos e1, key ⟨by omega, by omega⟩ _ (by simp; omega)]
      · rw [if_neg e1, key ⟨by omega, by omega⟩ _ (by simp; omega)]
end Go.Vm.Pu
namespace Go.Vm.Pu
open Go Go.RowKit Go.Vm
set_option linter.unusedVariables false
set_option linter.unusedSimpArgs false
theorem toByteS_f (l : List Int) (hn : l.length ≤ 1048576) (k : Nat) (hk : l.length + 1 < k) : laws_toByteS.f k l = some l := by
  obtain ⟨k, rfl⟩ : ∃ m, k = m + 1 := ⟨k - 1, by omega⟩
  rw [laws_toByteS.f_eq, if_pos (by omega), if_pos (by omega), if_pos (by omega)]
  have := set_loop (fun fu s i => laws_toByteS.l0 k fu l i s) l id 0 (by
    intro fu s _
    simp only [laws_toByteS.l0_eq]
    rw [if_neg (by omega)]) (by
    intro fu i s h _ hs
    simp only [laws_toByteS.l0_eq]
    rw [if_pos (by omega), if_pos (by omega), if_pos (by omega), if_pos (by omega), if_pos (by omega), rd_at l i h, wrap_next h (by omega)]
    rfl) k (List.replicate (Int.toNat (l.length : Int)) 0) (by omega) (by simp)
  simpa using this
theorem eqByteS_f (l : List Int) (hn : l.length ≤ 1048576) (k : Nat) (hk : l.length + 1 < k) : laws_eqByteS.f k l l = some true := by
  obtain ⟨k, rfl⟩ : ∃ m, k = m + 1 := ⟨k - 1, by omega⟩
  rw [laws_eqByteS.f_eq, if_neg (by simp)]
  exact count_loop (fun fu i => laws_eqByteS.l0 k fu l l i) l.length 0 true (by
    intro fu _
    simp only [laws_eqByteS.l0_eq]
    rw [if_neg (by omega)]) (by
    intro fu i h _
    simp only [laws_eqByteS.l0_eq]
    rw [if_pos (by omega), if_pos (by omega), if_pos (by omega), if_pos (by omega), if_pos (by omega), if_neg (by simp), wrap_next h (by omega)]) k (by omega)
theorem Bs.of {l : List Int} (h : ∀ y ∈ l, (Lit.int .u8 y).wf = true) : Bs l := fun x hx => by
  have := wf_byte (h x hx)
  omega
theorem szBytes_f (D : List Int) (h : D.length ≤ maxLen) (m : Int) (h0 : 0 ≤ m) (h1 : m ≤ 1048576) (k : Nat) (hk : 1 ≤ k) : laws_szByteS.f k D m = some (if (D.length : Int) ≤ m then m - (D.length : Int) else -1) := by
  obtain ⟨k, rfl⟩ : ∃ m, k = m + 1 := ⟨k - 1, by omega⟩
  unfold maxLen at h
  rw [laws_szByteS.f_eq, wrap_id (x := m - (D.length : Int)) (by omega) (by omega)]
  by_cases c : m - (D.length : Int) < 0
  · rw [if_pos c, if_neg (by omega)]
  · rw [if_neg c, if_pos (by omega)]
/-- So many bytes, counted from a number on. -/
def markL (a : Int) : Nat → List Int
  | 0 => []
  | n + 1 => (a % 256) :: markL (a + 1) n
theorem markL_length (n : Nat) : ∀ a, (markL a n).length = n := by
  induction n with
  | zero => intro a; rfl
  | succ n ih => intro a; simp [markL, ih]
theorem mark_loop (n : Nat) (hn : n ≤ 2000000) (K : Nat) : ∀ (d k i : Nat) (x0 : List Int) (x1 : Int), i + d = n → x0.length = n → d < k → 0 ≤ x1 → x1 ≤ 1000000000000 + i →
    laws_markByteS.l0 K k x1 (i : Int) x0 = some (x1 + d, x0.take i ++ markL x1 d) := by
  intro d
  induction d with
  | zero =>
    intro k i x0 x1 hi hl hk h0 h1
    obtain ⟨k, rfl⟩ : ∃ m, k = m + 1 := ⟨k - 1, by omega⟩
    rw [laws_markByteS.l0_eq, if_neg (by omega), List.take_of_length_le (by omega)]
    simp [markL]
  | succ d ih =>
    intro k i x0 x1 hi hl hk h0 h1
    obtain ⟨k, rfl⟩ : ∃ m, k = m + 1 := ⟨k - 1, by omega⟩
    rw [laws_markByteS.l0_eq, if_pos (by omega), if_pos (by omega), if_pos (by omega), wrap_next (show i < n by omega) (by omega), wrap_id (x := x1 + 1) (by omega) (by omega), ih k (i + 1) _ _ (by omega) (by simpa using hl) (by omega) (by omega) (by omega)]
    simp only [Int.toNat_natCast]
    rw [set_take _ _ _ (by omega), List.append_assoc, wrap8]
    simp only [markL, List.singleton_append]
    rw [show x1 + 1 + (d : Int) = x1 + ((d + 1 : Nat) : Int) by omega]
theorem mark_f (l : List Int) (a : Int) (hn : l.length ≤ 2000000) (h0 : 0 ≤ a) (h1 : a ≤ 1000000000000) (k : Nat) (hk : l.length + 1 < k) : laws_markByteS.f k a l = some (a + l.length, markL a l.length) := by
  obtain ⟨k, rfl⟩ : ∃ m, k = m + 1 := ⟨k - 1, by omega⟩
  rw [laws_markByteS.f_eq]
  have := mark_loop l.length hn k l.length k 0 l a (by omega) rfl (by omega) h0 (by omega)
  simpa using this
abbrev Evt := Int × Int × Int × Int × List Int
end Go.Vm.Pu
namespace Go.Vm.Pu
open Go Go.RowKit Go.Vm
set_option linter.unusedVariables false
set_option linter.unusedSimpArgs false
/-- A valid frame. -/
def FrP (t s : Int) (b : List Int) : Prop := (0 ≤ t ∧ t ≤ 99) ∧ (0 ≤ s ∧ s ≤ 2147483647) ∧ b.length ≤ 5000
instance (t s : Int) (b : List Int) : Decidable (FrP t s b) := by unfold FrP; exact inferInstance
theorem sframe_f (t s : Int) (b : List Int) (k : Nat) (hk : 2 ≤ k) : spec_FrameOk.f k t s b = some (decide (FrP t s b)) := by
  obtain ⟨k, rfl⟩ : ∃ m, k = m + 1 := ⟨k - 1, by omega⟩
  rw [spec_FrameOk.f_eq, in_is _ _ _ _ (by omega)]
  simp only [bs]
  by_cases h1 : 0 ≤ t ∧ t ≤ 99
  · rw [if_pos (decide_eq_true h1), in_is _ _ _ _ (by omega)]
    simp only [bs]
    by_cases h2 : 0 ≤ s ∧ s ≤ 2147483647
    · rw [if_pos (decide_eq_true h2)]
      congr 1
      rw [decide_eq_decide]
      exact ⟨fun h => ⟨h1, h2, by omega⟩, fun h => by have := h.2.2; omega⟩
    · rw [if_neg (by simpa using h2), decide_eq_false (fun h => h2 h.2.1)]
  · rw [if_neg (by simpa using h1), decide_eq_false (fun h => h1 h.1)]
theorem iframe_f (t s : Int) (b : List Int) (k : Nat) (hk : 1 ≤ k) : impl_isFrame.f k t s b = some (decide (FrP t s b)) := by
  obtain ⟨k, rfl⟩ : ∃ m, k = m + 1 := ⟨k - 1, by omega⟩
  rw [impl_isFrame.f_eq]
  by_cases h1 : t ≥ 0
  · rw [if_pos h1]
    by_cases h2 : t ≤ 99
    · rw [if_pos h2]
      by_cases h3 : s ≥ 0
      · rw [if_pos h3]
        by_cases h4 : s ≤ 2147483647
        · rw [if_pos h4]
          congr 1
          rw [decide_eq_decide]
          exact ⟨fun h => ⟨⟨h1, h2⟩, ⟨h3, h4⟩, by omega⟩, fun h => by have := h.2.2; omega⟩
        · rw [if_neg h4, decide_eq_false (fun h => h4 h.2.1.2)]
      · rw [if_neg h3, decide_eq_false (fun h => h3 h.2.1.1)]
    · rw [if_neg h2, decide_eq_false (fun h => h2 h.1.2)]
  · rw [if_neg h1, decide_eq_false (fun h => h1 h.1.1)]
theorem bytes_is (l : List Int) (hn : l.length ≤ 2000000) (k : Nat) (hk : l.length + 1 < k) : spec_l01Bytes.f k l = some l := by
  obtain ⟨k, rfl⟩ : ∃ m, k = m + 1 := ⟨k - 1, by omega⟩
  rw [spec_l01Bytes.f_eq]
  have := append_loop (fun fu s i => spec_l01Bytes.l0 k fu l i s) l id 0 [] (by
    intro fu s _
    simp only [spec_l01Bytes.l0_eq]
    rw [if_neg (by omega)]) (by
    intro fu i s h _ hs
    simp only [List.length_nil] at hs
    simp only [spec_l01Bytes.l0_eq]
    rw [if_pos (by omega), if_pos (by omega), if_pos (by omega), if_pos (by omega), rd_at l i h, wrap_next h (by omega)]
    rfl) k (by omega)
  simpa using this
theorem join_is (a b : List Int) (ha : a.length ≤ 2000000) (hb : b.length ≤ 2000000) (k : Nat) (hk : a.length + 2 < k) (hk2 : b.length + 1 < k) : spec_l01Join.f k a b = some (a ++ b) := by
  obtain ⟨k, rfl⟩ : ∃ m, k = m + 1 := ⟨k - 1, by omega⟩
  rw [spec_l01Join.f_eq, bytes_is a ha k (by omega)]
  simp only [bs]
  have := append_loop (fun fu s i => spec_l01Join.l0 k fu b i s) b id 0 a (by
    intro fu s _
    simp only [spec_l01Join.l0_eq]
    rw [if_neg (by omega)]) (by
    intro fu i s h _ hs
    simp only [spec_l01Join.l0_eq]
    rw [if_pos (by omega), if_pos (by omega), if_pos (by omega), if_pos (by omega), rd_at b i h, wrap_next h (by omega)]
    rfl) k (by omega)
  simpa using this
set_option maxRecDepth 100000 in
theorem bl_tab : ∀ n : _root_.Fin 1001, 0 ≤ bl n.val ∧ bl n.val ≤ 10 := by decide +kernel
theorem bl_range (n : Nat) (h : n ≤ 1000) : 0 ≤ bl n ∧ bl n ≤ 10 := bl_tab ⟨n, by omega⟩
theorem mul_range {x y X Y : Int} (h1 : 0 ≤ x) (h2 : x ≤ X) (h3 : 0 ≤ y) (h4 : y ≤ Y) : 0 ≤ x * y ∧ x * y ≤ X * Y :=
  ⟨Int.mul_nonneg h1 h3, Int.mul_le_mul h2 h4 h3 (by omega)⟩
theorem cost_range (a f : Int) (A B : List Int) (n : Int) (h : JobP a f A B n) : 0 ≤ cost a A B ∧ cost a A B ≤ 1000000000 := by
  have hA := h.2.2.2.1.1
  have hB := h.2.2.2.2.1.1
  have v := bl_range A.length (by omega)
  have w := bl_range (A.length + B.length) (by omega)
  unfold cost
  rw [wrap_id (x := (A.length : Int) + (B.length : Int)) (by omega) (by omega)]
  have hl : 0 ≤ (A.length : Int) ∧ (A.length : Int) ≤ 400 := by omega
  have hs : 0 ≤ (A.length : Int) + (B.length : Int) ∧ (A.length : Int) + (B.length : Int) ≤ 800 := by omega
  generalize bl A.length = v0 at v ⊢
  generalize bl (A.length + B.length) = w0 at w ⊢
  generalize (A.length : Int) + (B.length : Int) = s at hs ⊢
  generalize (A.length : Int) = l at hl ⊢
  have lv := mul_range hl.1 hl.2 v.1 v.2
  have ll := mul_range hl.1 hl.2 hl.1 hl.2
  have sw := mul_range hs.1 hs.2 w.1 w.2
  have sww := mul_range sw.1 sw.2 w.1 w.2
  have l3 := mul_range (show 0 ≤ 3 * l by omega) (show 3 * l ≤ 1200 by omega) v.1 v.2
  have l2 := mul_range (show 0 ≤ 2 * l by omega) (show 2 * l ≤ 1200 by omega) v.1 v.2
  have s2 := mul_range (show 0 ≤ 2 * s by omega) (show 2 * s ≤ 2400 by omega) w.1 w.2
  have s3 := mul_range (show 0 ≤ 3 * s by omega) (show 3 * s ≤ 2400 by omega) w.1 w.2
  unfold jc
  rw [wrap_id (x := 3 * l) (by omega) (by omega), wrap_id (x := 2 * l) (by omega) (by omega), wrap_id (x := 2 * s) (by omega) (by omega), wrap_id (x := 3 * s) (by omega) (by omega), wrap_id (x := l * v0) (by omega) (by omega), wrap_id (x := l * l) (by omega) (by omega), wrap_id (x := s * w0) (by omega) (by omega),
    wrap_id (x := s * w0 * w0) (by omega) (by omega), wrap_id (x := 3 * l * v0) (by omega) (by omega), wrap_id (x := 2 * l * v0) (by omega) (by omega), wrap_id (x := 2 * s * w0) (by omega) (by omega), wrap_id (x := 3 * s * w0) (by omega) (by omega)]
  repeat' split
  all_goals (rw [wrap_id (by omega) (by omega)]; omega)
theorem ev_num {a0 a1 a2 a3 : Int} {D : List Int} (h : EvP a0 a1 a2 a3 D) : -1099511627776 ≤ a3 ∧ a3 ≤ 1099511627776 := by
  rcases h.2 with h | h | h | h
  · omega
  · have := cost_range _ _ _ _ _ ((dj_ok D).1 h.2.2.1)
    omega
  · omega
  · omega
/-- A number's bytes, the highest first. -/
def w4 (x : Int) : List Int := [x / 16777216 % 256, x / 65536 % 256, x / 256 % 256, x % 256]
def w2 (x : Int) : List Int := [x / 256 % 256, x % 256]
theorem big_step (K k : Nat) (x : Int) (n : Nat) (out : List Int) (h : n < out.length) (hl : out.length ≤ 100) : impl_bigEndian.l0 K (k + 1) x (n : Int) out = impl_bigEndian.l0 K k (x / 256) ((n : Int) - 1) (out.set n (x % 256)) := by
  rw [impl_bigEndian.l0_eq, if_pos (by omega), if_pos (by omega), if_pos (by omega), wrap_id (by omega) (by omega), Int.toNat_natCast, wrap8, show (2 : Int) ^ (Int.toNat 8) = 256 from rfl, Int.fdiv_eq_ediv_of_nonneg x (by decide)]
theorem big_end (K k : Nat) (x : Int) (out : List Int) : impl_bigEndian.l0 K (k + 1) x (-1) out = some out := by
  rw [impl_bigEndian.l0_eq, if_neg (by decide)]
theorem big4_f (x : Int) (k : Nat) (hk : 6 ≤ k) : impl_bigEndian.f k x 4 = some (w4 x) := by
  obtain ⟨k, rfl⟩ : ∃ m, k = (m + 5) + 1 := ⟨k - 6, by omega⟩
  have e0 : wrap64 (4 - 1) = ((3 : Nat) : Int) := wrap_id (by decide) (by decide)
  rw [impl_bigEndian.f_eq, if_pos (by decide), if_pos (by decide), if_pos (by decide), e0, big_step _ _ _ 3 _ (by simp) (by simp), show ((3 : Nat) : Int) - 1 = ((2 : Nat) : Int) from rfl, big_step _ _ _ 2 _ (by simp) (by simp), show ((2 : Nat) : Int) - 1 = ((1 : Nat) : Int) from rfl, big_step _ _ _ 1 _ (by simp) (by simp),
    show ((1 : Nat) : Int) - 1 = ((0 : Nat) : Int) from rfl, big_step _ _ _ 0 _ (by simp) (by simp), show ((0 : Nat) : Int) - 1 = -1 from rfl, big_end]
  show some [x / 256 / 256 / 256 % 256, x / 256 / 256 % 256, x / 256 % 256, x % 256] = some (w4 x)
  unfold w4
  rw [show x / 256 / 256 / 256 = x / 16777216 by omega, show x / 256 / 256 = x / 65536 by omega]
theorem big2_f (x : Int) (k : Nat) (hk : 6 ≤ k) : impl_bigEndian.f k x 2 = some (w2 x) := by
  obtain ⟨k, rfl⟩ : ∃ m, k = (m + 5) + 1 := ⟨k - 6, by omega⟩
  have e0 : wrap64 (2 - 1) = ((1 : Nat) : Int) := wrap_id (by decide) (by decide)
  rw [impl_bigEndian.f_eq, if_pos (by decide), if_pos (by decide), if_pos (by decide), e0, big_step _ _ _ 1 _ (by simp) (by simp), show ((1 : Nat) : Int) - 1 = ((0 : Nat) : Int) from rfl, big_step _ _ _ 0 _ (by simp) (by simp), show ((0 : Nat) : Int) - 1 = -1 from rfl, big_end]
  rfl
theorem byte_of (x : Int) (n : Nat) (hn : n ≤ 3) (h0 : 0 ≤ x) (h1 : x < 4294967296) : IntKind.u8.wrap (bitsOf .and .i64 (Int.fdiv x (2 ^ (8 * n))) 255) = x / 2 ^ (8 * n) % 256 := by
  have hp : (1 : Int) ≤ 2 ^ (8 * n) := by exact_mod_cast Nat.one_le_two_pow
  have hq : 0 ≤ x / 2 ^ (8 * n) := Int.ediv_nonneg h0 (by omega)
  have hq2 : x / 2 ^ (8 * n) ≤ x := Int.ediv_le_self _ h0
  rw [Int.fdiv_eq_ediv_of_nonneg x (by omega)]
  show (Go.bits .and .i64 (x / 2 ^ (8 * n)) 255) % 256 = _
  rw [show (255 : Int) = 2 ^ 8 - 1 from rfl, bits_mask .i64 62 (by decide) (fun m h1 h2 => by rw [IntKind.wrap_i64]; omega) 8 (by decide) _ hq (by omega)]
  rw [show (2 : Int) ^ 8 = 256 from rfl]
  omega
theorem wide_step (K : Nat) (x : Int) (acc : List Int) (n : Nat) (hn : n ≤ 3) (h0 : 0 ≤ x) (h1 : x < 4294967296) (ha : acc.length ≤ 100) (k : Nat) : spec_l11Wide.l0 K (k + 1) x (n : Int) acc = spec_l11Wide.l0 K k x ((n : Int) - 1) (acc ++ [x / 2 ^ (8 * n) % 256]) := by
  have h8 : IntKind.u64.wrap (wrap64 (8 * (n : Int))) = ((8 * n : Nat) : Int) := by
    rw [wrap_id (x := 8 * (n : Int)) (by omega) (by omega)]
    show (8 * (n : Int)) % 18446744073709551616 = _
    omega
  rw [spec_l11Wide.l0_eq, if_pos (by omega), h8, if_pos (by omega), if_pos (by omega), if_pos (by omega), Int.toNat_natCast, byte_of x n hn h0 h1, wrap_id (by omega) (by omega)]
theorem wide_end (K k : Nat) (x : Int) (out : List Int) : spec_l11Wide.l0 K (k + 1) x (-1) out = some out := by
  rw [spec_l11Wide.l0_eq, if_neg (by decide)]
theorem wide4_f (x : Int) (h0 : 0 ≤ x) (h1 : x < 4294967296) (k : Nat) (hk : 6 ≤ k) : spec_l11Wide.f k x 4 = some (w4 x) := by
  obtain ⟨k, rfl⟩ : ∃ m, k = (m + 5) + 1 := ⟨k - 6, by omega⟩
  have e0 : wrap64 (4 - 1) = ((3 : Nat) : Int) := wrap_id (by decide) (by decide)
  rw [spec_l11Wide.f_eq, e0, wide_step _ x _ 3 (by decide) h0 h1 (by simp), show ((3 : Nat) : Int) - 1 = ((2 : Nat) : Int) from rfl, wide_step _ x _ 2 (by decide) h0 h1 (by simp), show ((2 : Nat) : Int) - 1 = ((1 : Nat) : Int) from rfl, wide_step _ x _ 1 (by decide) h0 h1 (by simp),
    show ((1 : Nat) : Int) - 1 = ((0 : Nat) : Int) from rfl, wide_step _ x _ 0 (by decide) h0 h1 (by simp), show ((0 : Nat) : Int) - 1 = -1 from rfl, wide_end]
  show some [x / 2 ^ 24 % 256, x / 2 ^ 16 % 256, x / 2 ^ 8 % 256, x / 2 ^ 0 % 256] = some (w4 x)
  rw [show (2 : Int) ^ 24 = 16777216 from rfl, show (2 : Int) ^ 16 = 65536 from rfl, show (2 : Int) ^ 8 = 256 from rfl, show (2 : Int) ^ 0 = 1 from rfl, Int.ediv_one]
  rfl
theorem wide2_f (x : Int) (h0 : 0 ≤ x) (h1 : x < 4294967296) (k : Nat) (hk : 6 ≤ k) : spec_l11Wide.f k x 2 = some (w2 x) := by
  obtain ⟨k, rfl⟩ : ∃ m, k = (m + 5) + 1 := ⟨k - 6, by omega⟩
  have e0 : wrap64 (2 - 1) = ((1 : Nat) : Int) := wrap_id (by decide) (by decide)
  rw [spec_l11Wide.f_eq, e0, wide_step _ x _ 1 (by decide) h0 h1 (by simp), show ((1 : Nat) : Int) - 1 = ((0 : Nat) : Int) from rfl, wide_step _ x _ 0 (by decide) h0 h1 (by simp), show ((0 : Nat) : Int) - 1 = -1 from rfl, wide_end]
  show some [x / 2 ^ 8 % 256, x / 2 ^ 0 % 256] = some (w2 x)
  rw [show (2 : Int) ^ 8 = 256 from rfl, show (2 : Int) ^ 0 = 1 from rfl, Int.ediv_one]
  rfl
/-- The checksum of what follows. -/
def ck : List Int → Int × Int → Int
  | [], s => 65536 * s.2 + s.1
  | c :: l, s => ck l ((s.1 + c) % 65521, (s.2 + (s.1 + c) % 65521) % 65521)
theorem ck_range : ∀ (l : List Int) (s : Int × Int), 0 ≤ s.1 → s.1 < 65521 → 0 ≤ s.2 → s.2 < 65521 → 0 ≤ ck l s ∧ ck l s < 4294967296 := by
  intro l
  induction l with
  | nil => intro s h1 h2 h3 h4; show 0 ≤ 65536 * s.2 + s.1 ∧ 65536 * s.2 + s.1 < 4294967296; omega
  | cons c l ih =>
    intro s h1 h2 h3 h4
    exact ih _ (by simp only; omega) (by simp only; omega) (by simp only; omega) (by simp only; omega)
def CkI (s : Int × Int) : Prop := (0 ≤ s.1 ∧ s.1 < 65521) ∧ (0 ≤ s.2 ∧ s.2 < 65521)
theorem CkI.next {s : Int × Int} (h : CkI s) (c : Int) : CkI ((s.1 + c) % 65521, (s.2 + (s.1 + c) % 65521) % 65521) := by
  unfold CkI
  simp only
  omega
theorem scheck_f (b : List Int) (hb : Bs b) (hlen : b.length ≤ 2000000) (k : Nat) (hk : b.length + 1 < k) : spec_CheckSum.f k b = some (ck b (1, 0)) := by
  obtain ⟨k, rfl⟩ : ∃ m, k = m + 1 := ⟨k - 1, by omega⟩
  rw [spec_CheckSum.f_eq]
  exact loop_list (fun fu (s : Int × Int) i => spec_CheckSum.l0 k fu b s.1 s.2 i) b 0 (fun _ s => CkI s) ck (by
    intro fu s _ hs
    unfold CkI at hs
    simp only [spec_CheckSum.l0_eq]
    rw [if_neg (by omega), wrap_id (x := 65536 * s.2) (by omega) (by omega), wrap_id (by omega) (by omega)]
    rfl) (by
    intro fu i s h _ hs
    have hs' := hs
    unfold CkI at hs'
    have hc := hb _ (List.getElem_mem h)
    left
    refine ⟨_, ?_, hs.next b[i], rfl⟩
    simp only [spec_CheckSum.l0_eq]
    rw [if_pos (by omega), if_pos (by omega), if_pos (by omega), rd_at b i h, wrap_id (x := b[i]) (by omega) (by omega), wrap_id (x := s.1 + b[i]) (by omega) (by omega), Int.tmod_eq_emod_of_nonneg (show 0 ≤ s.1 + b[i] by omega),
      wrap_id (x := s.2 + (s.1 + b[i]) % 65521) (by omega) (by omega), Int.tmod_eq_emod_of_nonneg (show 0 ≤ s.2 + (s.1 + b[i]) % 65521 by omega), wrap_next h (by omega)]) k (1, 0) (by omega) (by unfold CkI; decide)
theorem icheck_f (b : List Int) (hb : Bs b) (hlen : b.length ≤ 2000000) (k : Nat) (hk : b.length + 1 < k) : impl_checkSum.f k b = some (ck b (1, 0)) := by
  obtain ⟨k, rfl⟩ : ∃ m, k = m + 1 := ⟨k - 1, by omega⟩
  rw [impl_checkSum.f_eq]
  exact loop_list (fun fu (s : Int × Int) i => impl_checkSum.l0 k fu s.1 s.2 b (b.length : Int) i) b 0 (fun _ s => CkI s) ck (by
    intro fu s _ hs
    unfold CkI at hs
    simp only [impl_checkSum.l0_eq]
    rw [if_neg (by omega), wrap_id (x := 65536 * s.2) (by omega) (by omega), wrap_id (by omega) (by omega)]
    rfl) (by
    intro fu i s h _ hs
    have hs' := hs
    unfold CkI at hs'
    have hc := hb _ (List.getElem_mem h)
    left
    refine ⟨_, ?_, hs.next b[i], rfl⟩
    simp only [impl_checkSum.l0_eq]
    rw [if_pos (by omega), if_pos (by omega), if_pos (by omega), rd_at b i h, wrap_id (x := b[i]) (by omega) (by omega), wrap_id (x := s.1 + b[i]) (by omega) (by omega), Int.tmod_eq_emod_of_nonneg (show 0 ≤ s.1 + b[i] by omega),
      wrap_id (x := s.2 + (s.1 + b[i]) % 65521) (by omega) (by omega), Int.tmod_eq_emod_of_nonneg (show 0 ≤ s.2 + (s.1 + b[i]) % 65521 by omega), wrap_next h (by omega)]) k (1, 0) (by omega) (by unfold CkI; decide)
theorem Bs.app {a b : List Int} (ha : Bs a) (hb : Bs b) : Bs (a ++ b) := fun x hx => (List.mem_append.1 hx).elim (ha x) (hb x)
theorem Bs.w4 (x : Int) : Bs (w4 x) := by
  intro y hy
  simp only [Pu.w4, List.mem_cons, List.not_mem_nil, or_false] at hy
  omega
theorem Bs.w2 (x : Int) : Bs (w2 x) := by
  intro y hy
  simp only [Pu.w2, List.mem_cons, List.not_mem_nil, or_false] at hy
  omega
theorem Bs.one (x : Int) : Bs [x % 256] := by
  intro y hy
  simp only [List.mem_cons, List.not_mem_nil, or_false] at hy
  omega
theorem Bs.vi : ∀ (d : Nat) (u : Int), Bs (vi d u) := by
  intro d
  induction d with
  | zero => intro u; exact Bs.one u
  | succ d ih =>
    intro u
    unfold Pu.vi
    split
    · intro y hy
      rcases List.mem_cons.1 hy with rfl | hy
      · omega
      · exact ih _ y hy
    · exact Bs.one u
/-- What stands between the sign and the sum. -/
def mid (t s : Int) (b : List Int) : List Int := [t % 256] ++ w4 s ++ w2 (b.length : Int) ++ b
/-- What both encode. -/
def ef (t s : Int) (b : List Int) : List Int := if FrP t s b then [199, 77] ++ mid t s b ++ w4 (ck (mid t s b) (1, 0)) else []
theorem mid_len (t s : Int) (b : List Int) : (mid t s b).length = 7 + b.length := by
  unfold mid w4 w2
  simp only [List.length_append, List.length_cons, List.length_nil]
theorem mid_bs (t s : Int) (b : List Int) (hb : Bs b) : Bs (mid t s b) := (((Bs.one t).app (Bs.w4 s)).app (Bs.w2 _)).app hb
theorem ef_len (t s : Int) (b : List Int) : (ef t s b).length ≤ 5013 := by
  unfold ef
  split
  · rename_i h
    have := h.2.2
    have hm := mid_len t s b
    unfold w4
    simp only [List.length_append, List.length_cons, List.length_nil]
    omega
  · exact Nat.zero_le _
/-- What both put. -/
def pe (a0 a1 a2 a3 : Int) (D : List Int) : List Int := if EvP a0 a1 a2 a3 D then ef a1 a2 ([a0 % 256] ++ vi 6 (unz a3) ++ D) else []
theorem pe_len (a0 a1 a2 a3 : Int) (D : List Int) : (pe a0 a1 a2 a3 D).length ≤ 5013 := by
  unfold pe
  split
  · exact ef_len _ _ _
  · exact Nat.zero_le _
theorem body_bs (a0 a3 : Int) (D : List Int) (hb : Bs D) : Bs ([a0 % 256] ++ vi 6 (unz a3) ++ D) := ((Bs.one a0).app (Bs.vi 6 _)).app hb
theorem body_len (a0 a3 : Int) (D : List Int) : ([a0 % 256] ++ vi 6 (unz a3) ++ D).length ≤ 8 + D.length := by
  have := vi_length 6 (unz a3)
  simp only [List.length_append, List.length_cons, List.length_nil]
  omega
end Go.Vm.Pu
namespace Go.Vm.Pu
open Go Go.RowKit Go.Vm
set_option linter.unusedVariables false
set_option linter.unusedSimpArgs false
theorem markDisk_f (a b : List Int) (h : a.length + b.length ≤ 1048576) (k : Nat) (hk : 1048578 < k) : laws_markDisk.f k 1 a b = some ((1 : Int) + a.length + b.length, markL 1 a.length, markL (1 + a.length) b.length) := by
  obtain ⟨k, rfl⟩ : ∃ m, k = m + 1 := ⟨k - 1, by omega⟩
  rw [laws_markDisk.f_eq]
  simp only [mark_f a 1 (by omega) (by omega) (by omega) k (by omega), mark_f b (1 + a.length) (by omega) (by omega) (by omega) k (by omega), bs]
theorem specDiskOk_f (a b : List Int) (h : a.length + b.length ≤ 1048576) (k : Nat) (hk : 1 ≤ k) : spec_DiskOk.f k a b = some (decide (a.length + b.length ≤ 60000)) := by
  obtain ⟨k, rfl⟩ : ∃ m, k = m + 1 := ⟨k - 1, by omega⟩
  rw [spec_DiskOk.f_eq]
  by_cases c : (a.length : Int) ≤ 60000
  · rw [if_pos c, wrap_id (by omega) (by omega)]
    congr 1
    exact decide_eq_decide.mpr (by omega)
  · rw [if_neg c, decide_eq_false (by omega)]
theorem isDisk_f (a b : List Int) (h : a.length + b.length ≤ 1048576) (k : Nat) (hk : 1 ≤ k) : impl_isDisk.f k a b = some (decide (a.length + b.length ≤ 60000)) := by
  obtain ⟨k, rfl⟩ : ∃ m, k = m + 1 := ⟨k - 1, by omega⟩
  rw [impl_isDisk.f_eq, wrap_id (by omega) (by omega)]
  congr 1
  exact decide_eq_decide.mpr (by omega)
theorem l18Copy_f (a b : List Int) (h : a.length + b.length ≤ 1048576) (k : Nat) (hk : 1048578 < k) : spec_l18Copy.f k a b = some (a, b) := by
  obtain ⟨k, rfl⟩ : ∃ m, k = m + 1 := ⟨k - 1, by omega⟩
  rw [spec_l18Copy.f_eq]
  simp only [bytes_is a (by omega) k (by omega), bytes_is b (by omega) k (by omega), bs]
theorem copyDisk_f (a b : List Int) (h : a.length + b.length ≤ 1048576) (k : Nat) (hk : 1 ≤ k) : impl_copyDisk.f k a b = some (a, b) := by
  obtain ⟨k, rfl⟩ : ∃ m, k = m + 1 := ⟨k - 1, by omega⟩
  rw [impl_copyDisk.f_eq, if_pos (by omega), if_pos (by omega), List.nil_append, List.nil_append]
theorem szDisk_f (a b : List Int) (ha : a.length ≤ maxLen) (hb : b.length ≤ maxLen) (k : Nat) (hk : 2 ≤ k) : laws_szDisk.f k a b 1048576 = some (if a.length + b.length ≤ 1048576 then 1048576 - (a.length : Int) - b.length else -1) := by
  obtain ⟨k, rfl⟩ : ∃ m, k = m + 1 := ⟨k - 1, by omega⟩
  rw [laws_szDisk.f_eq, szBytes_f a ha _ (by omega) (by omega) k (by omega)]
  simp only [bs]
  by_cases c : (a.length : Int) ≤ 1048576
  · rw [if_pos c, if_neg (by omega), szBytes_f b hb _ (by omega) (by omega) k (by omega)]
    simp only [bs]
    by_cases c2 : (b.length : Int) ≤ 1048576 - (a.length : Int)
    · rw [if_pos c2, if_neg (by omega), if_pos (by omega)]
    · rw [if_neg c2, if_pos (by omega), if_neg (by omega)]
  · rw [if_neg c, if_pos (by omega), if_neg (by omega)]
theorem toDisk_f (a b : List Int) (h : a.length + b.length ≤ 1048576) (k : Nat) (hk : 1048578 < k) : laws_toDisk.f k a b = some (a, b) := by
  obtain ⟨k, rfl⟩ : ∃ m, k = m + 1 := ⟨k - 1, by omega⟩
  rw [laws_toDisk.f_eq]
  simp only [toByteS_f a (by omega) k (by omega), toByteS_f b (by omega) k (by omega), bs]
theorem eqDisk_f (a b : List Int) (h : a.length + b.length ≤ 1048576) (k : Nat) (hk : 1048578 < k) : laws_eqDisk.f k a b a b = some true := by
  obtain ⟨k, rfl⟩ : ∃ m, k = m + 1 := ⟨k - 1, by omega⟩
  rw [laws_eqDisk.f_eq]
  simp only [eqByteS_f a (by omega) k (by omega), eqByteS_f b (by omega) k (by omega), bs, not_ite, if_true]
end Go.Vm.Pu
namespace Go.Vm.Pu
open Go Go.RowKit Go.Vm
set_option linter.unusedVariables false
set_option linter.unusedSimpArgs false
theorem itake_short (b : List Int) (h : b.length < 2) (k : Nat) (hk : 3 ≤ k) : impl_takeNumber.f k b 1 = some (0, 0, false) := by
  obtain ⟨k, rfl⟩ : ∃ m, k = (m + 1) + 1 := ⟨k - 2, by omega⟩
  have e : wrap64 (1 + 0) = 1 := wrap_id (by decide) (by decide)
  rw [impl_takeNumber.f_eq, if_neg (by decide), impl_takeNumber.l0_eq, if_pos (by decide), e, if_neg (by omega)]
theorem Bs.drop {l : List Int} (h : Bs l) (n : Nat) : Bs (l.drop n) := fun x hx => h x (List.mem_of_mem_drop hx)
def badEvent : Int × Int × Int × Int × List Int × Bool := (0, 0, 0, 0, [], false)
/-- What both take. -/
def te (t s : Int) (b : List Int) : Int × Int × Int × Int × List Int × Bool :=
  if FrP t s b ∧ 2 ≤ b.length ∧ (tk b 1).2.2 = true ∧ EvP (L b 0) t s (tk b 1).1 (b.drop (tk b 1).2.1) then (L b 0, t, s, (tk b 1).1, b.drop (tk b 1).2.1, true) else badEvent
theorem te_len (t s : Int) (b : List Int) : (te t s b).2.2.2.2.1.length ≤ b.length := by
  unfold te
  split
  · show (b.drop _).length ≤ _
    rw [List.length_drop]
    omega
  · exact Nat.zero_le _
/-- The order in which the program hands it on. -/
def tv (x : Int × Int × Int × Int × List Int × Bool) : Int × Int × Int × Int × Bool × List Int := (x.1, x.2.1, x.2.2.1, x.2.2.2.1, x.2.2.2.2.2, x.2.2.2.2.1)
theorem cut_end (l : List Int) (i : Nat) : cut l (i : Int) (l.length : Int) = l.drop i := by
  rw [cut_nat, List.take_of_length_le (Nat.le_refl _)]
theorem stakeEvent_f (t s : Int) (b : List Int) (hb : Bs b) (hlen : b.length ≤ 1048576) (k : Nat) (hk : 1048600 ≤ k) : spec_TakeEvent.f k t s b = some (tv (te t s b)) := by
  obtain ⟨k, rfl⟩ : ∃ m, k = m + 1 := ⟨k - 1, by omega⟩
  rw [spec_TakeEvent.f_eq, sframe_f _ _ _ _ (by omega)]
  simp only [bs, not_ite]
  unfold te
  by_cases h1 : FrP t s b
  · rw [if_pos (decide_eq_true h1)]
    by_cases h2 : (b.length : Int) < 2
    · rw [if_pos h2, if_neg (fun h => by have := h.2.1; omega)]
      rfl
    · rw [if_neg h2]
      have hL := hb.L 0
      have htk := tk_at b 1
      have s1 := stake_f b hb 1 (by omega) (by omega) k (by omega)
      rw [show ((1 : Nat) : Int) = 1 from rfl] at s1
      rw [s1]
      simp only [bs]
      have r0 : rdI b 0 = L b 0 := rd_L b 0
      by_cases h3 : (tk b 1).2.2 = true
      · rw [if_pos h3, if_pos (by omega), if_pos (by omega), if_pos (by omega), cut_end, bytes_is _ (by rw [List.length_drop]; omega) k (by rw [List.length_drop]; omega), r0, wrap_id (x := L b 0) (by omega) (by omega)]
        simp only [bs]
        rw [sevent_f _ _ _ _ _ (hb.drop _) (by rw [List.length_drop]; omega) k (by omega)]
        simp only [bs]
        by_cases h4 : EvP (L b 0) t s (tk b 1).1 (b.drop (tk b 1).2.1)
        · rw [if_pos (decide_eq_true h4), if_pos ⟨h1, by omega, h3, h4⟩]
          rfl
        · rw [if_neg (by simpa using h4), if_neg (fun h => h4 h.2.2.2)]
          rfl
      · rw [if_neg h3, if_neg (fun h => h3 h.2.2.1)]
        rfl
  · rw [if_neg (by simpa using h1), if_neg (fun h => h1 h.1)]
    rfl
theorem itakeEvent_f (t s : Int) (b : List Int) (hb : Bs b) (hlen : b.length ≤ 1048576) (k : Nat) (hk : 1048600 ≤ k) : impl_takeEvent.f k t s b = some (tv (te t s b)) := by
  obtain ⟨k, rfl⟩ : ∃ m, k = m + 1 := ⟨k - 1, by omega⟩
  rw [impl_takeEvent.f_eq]
  unfold te
  by_cases h2 : b.length < 2
  · rw [itake_short b h2 k (by omega)]
    simp only [bs, not_ite]
    rw [if_neg (by decide), if_neg (fun h => by have := h.2.1; omega)]
    rfl
  · have hL := hb.L 0
    have htk := tk_at b 1
    have s1 := itake_f b hb 1 (by omega) (by omega) k (by omega)
    rw [show ((1 : Nat) : Int) = 1 from rfl] at s1
    rw [s1]
    simp only [bs, not_ite]
    by_cases h3 : (tk b 1).2.2 = true
    · rw [if_pos h3, iframe_f _ _ _ _ (by omega)]
      simp only [bs]
      by_cases h1 : FrP t s b
      · have r0 : rdI b 0 = L b 0 := rd_L b 0
        rw [if_pos (decide_eq_true h1), if_pos (by omega), if_pos (by omega), if_pos (by omega), cut_end, if_pos (by rw [List.length_drop]; omega), r0, wrap_id (x := L b 0) (by omega) (by omega), List.nil_append, ievent_f _ _ _ _ _ (hb.drop _) (by rw [List.length_drop]; omega) k (by omega)]
        simp only [bs]
        by_cases h4 : EvP (L b 0) t s (tk b 1).1 (b.drop (tk b 1).2.1)
        · rw [if_pos (decide_eq_true h4), if_pos ⟨h1, by omega, h3, h4⟩]
          rfl
        · rw [if_neg (by simpa using h4), if_neg (fun h => h4 h.2.2.2)]
          rfl
      · rw [if_neg (by simpa using h1), if_neg (fun h => h1 h.1)]
        rfl
    · rw [if_neg h3, if_neg (fun h => h3 h.2.2.1)]
      rfl
/-! ### frames -/
/-- A number's bytes read, the highest first. -/
def be : List Int → Int → Int
  | [], x => x
  | c :: l, x => be l (256 * x + c)
theorem p256_pos : ∀ n : Nat, (0 : Int) < 256 ^ n
  | 0 => by decide
  | n + 1 => by
    have := p256_pos n
    rw [Int.pow_succ]
    omega
theorem be_range : ∀ (l : List Int) (x : Int), Bs l → 0 ≤ x → 0 ≤ be l x ∧ be l x < (x + 1) * 256 ^ l.length := by
  intro l
  induction l with
  | nil => intro x _ h; show 0 ≤ x ∧ x < (x + 1) * 1; omega
  | cons c l ih =>
    intro x hb h
    have hc := hb c List.mem_cons_self
    obtain ⟨h1, h2⟩ := ih (256 * x + c) (fun y hy => hb y (List.mem_cons_of_mem _ hy)) (by omega)
    refine ⟨h1, ?_⟩
    have hp := p256_pos l.length
    have : (256 * x + c + 1) * 256 ^ l.length ≤ ((x + 1) * 256) * 256 ^ l.length := Int.mul_le_mul_of_nonneg_right (by omega) (by omega)
    rw [List.length_cons, Int.pow_succ, Int.mul_comm (256 ^ l.length) 256, ← Int.mul_assoc]
    exact Int.lt_of_lt_of_le h2 this
theorem p256 : ∀ n : Nat, n ≤ 4 → (256 : Int) ^ n ≤ 4294967296 := by
  intro n h
  have : n = 0 ∨ n = 1 ∨ n = 2 ∨ n = 3 ∨ n = 4 := by omega
  rcases this with rfl | rfl | rfl | rfl | rfl <;> decide
theorem sread_loop (b : List Int) (hb : Bs b) (hn : b.length ≤ 4) (K : Nat) : ∀ (d k i : Nat) (x : Int), i + d = b.length → d < k → 0 ≤ x → x < 256 ^ i → spec_l11Read.l0 K k b x (i : Int) = some (be (b.drop i) x) := by
  intro d
  induction d with
  | zero =>
    intro k i x hi hk _ _
    obtain ⟨k, rfl⟩ : ∃ m, k = m + 1 := ⟨k - 1, by omega⟩
    rw [spec_l11Read.l0_eq, if_neg (by omega), List.drop_eq_nil_of_le (by omega)]
    rfl
  | succ d ih =>
    intro k i x hi hk h0 h1
    obtain ⟨k, rfl⟩ : ∃ m, k = m + 1 := ⟨k - 1, by omega⟩
    have hc := hb _ (List.getElem_mem (show i < b.length by omega))
    have hp := p256 i (by omega)
    have hs : (256 : Int) ^ (i + 1) = 256 ^ i * 256 := Int.pow_succ 256 i
    rw [spec_l11Read.l0_eq, if_pos (by omega), if_pos (by omega), if_pos (by omega), rd_at b i (by omega), drop_cons b i (by omega), be, wrap_id (x := 256 * x) (by omega) (by omega), wrap_id (x := b[i]) (by omega) (by omega), wrap_id (x := 256 * x + b[i]) (by omega) (by omega), wrap_next (show i < b.length by omega) (by omega)]
    exact ih k (i + 1) _ (by omega) (by omega) (by omega) (by omega)
theorem sread_f (b : List Int) (hb : Bs b) (hn : b.length ≤ 4) (k : Nat) (hk : 6 ≤ k) : spec_l11Read.f k b = some (be b 0) := by
  obtain ⟨k, rfl⟩ : ∃ m, k = m + 1 := ⟨k - 1, by omega⟩
  rw [spec_l11Read.f_eq]
  have := sread_loop b hb hn k b.length k 0 0 (by omega) (by omega) (by decide) (by decide)
  simpa using this
theorem iread_loop (b : List Int) (hb : Bs b) (hn : b.length ≤ 4) (K : Nat) : ∀ (d k i : Nat) (x : Int), i + d = b.length → d < k → 0 ≤ x → x < 256 ^ i → impl_numberIn.l0 K k x b (b.length : Int) (i : Int) = some (be (b.drop i) x) := by
  intro d
  induction d with
  | zero =>
    intro k i x hi hk _ _
    obtain ⟨k, rfl⟩ : ∃ m, k = m + 1 := ⟨k - 1, by omega⟩
    rw [impl_numberIn.l0_eq, if_neg (by omega), List.drop_eq_nil_of_le (by omega)]
    rfl
  | succ d ih =>
    intro k i x hi hk h0 h1
    obtain ⟨k, rfl⟩ : ∃ m, k = m + 1 := ⟨k - 1, by omega⟩
    have hc := hb _ (List.getElem_mem (show i < b.length by omega))
    have hp := p256 i (by omega)
    have hs : (256 : Int) ^ (i + 1) = 256 ^ i * 256 := Int.pow_succ 256 i
    have ho : bitsOf .or .i64 (x * 256) b[i] = 256 * x + b[i] := by
      show Go.bits .or .i64 (x * 256) b[i] = _
      have h62 : (2 : Int) ^ 62 = 4611686018427387904 := by decide
      rw [bits_join .i64 62 (by decide) (fun m h1 h2 => by rw [IntKind.wrap_i64]; omega) 8 (x * 256) b[i] (by omega) (by rw [show (2 : Int) ^ 8 = 256 from rfl]; exact Int.mul_emod_left _ _) (by omega) hc.1 (by rw [show (2 : Int) ^ 8 = 256 from rfl]; exact hc.2) (by omega)]
      omega
    rw [impl_numberIn.l0_eq, if_pos (by omega), if_pos (by omega), if_pos (by omega), rd_at b i (by omega), drop_cons b i (by omega), be, show (2 : Int) ^ (Int.toNat 8) = 256 from rfl, wrap_id (x := x * 256) (by omega) (by omega), wrap_id (x := b[i]) (by omega) (by omega), ho, wrap_next (show i < b.length by omega) (by omega)]
    exact ih k (i + 1) _ (by omega) (by omega) (by omega) (by omega)
theorem iread_f (b : List Int) (hb : Bs b) (hn : b.length ≤ 4) (k : Nat) (hk : 6 ≤ k) : impl_numberIn.f k b = some (be b 0) := by
  obtain ⟨k, rfl⟩ : ∃ m, k = m + 1 := ⟨k - 1, by omega⟩
  rw [impl_numberIn.f_eq]
  have := iread_loop b hb hn k b.length k 0 0 (by omega) (by omega) (by decide) (by decide)
  simpa using this
theorem Bs.seg {l : List Int} (h : Bs l) (n m : Nat) : Bs ((l.take n).drop m) := fun x hx => h x (List.mem_of_mem_take (List.mem_of_mem_drop hx))
/-- A frame's length, as it is told. -/
def lg2 (b : List Int) : Int := be ((b.take 9).drop 7) 0
/-- The head can't be a frame's: so many bytes are looked at. -/
def hdBad (b : List Int) : Prop := (0 < b.length ∧ L b 0 ≠ 199) ∨ (1 < b.length ∧ L b 1 ≠ 77) ∨ (2 < b.length ∧ L b 2 > 99) ∨ (3 < b.length ∧ L b 3 > 127) ∨ (7 < b.length ∧ L b 7 > 19)
instance (b : List Int) : Decidable (hdBad b) := by unfold hdBad; exact inferInstance
def hdBad9 (b : List Int) : Prop := hdBad b ∨ (8 < b.length ∧ lg2 b > 5000)
instance (b : List Int) : Decidable (hdBad9 b) := by unfold hdBad9; exact inferInstance
/-- The sum compared. -/
def cmpS (b : List Int) (n : Nat) (s : List Int) : Nat → Nat → Int
  | 0, _ => 0
  | d + 1, i => if n + i = b.length then 1 else if L b (n + i) ≠ L s i then 2 else cmpS b n s d (i + 1)
theorem cmpS_cases (b : List Int) (n : Nat) (s : List Int) : ∀ d i : Nat, cmpS b n s d i = 0 ∨ cmpS b n s d i = 1 ∨ cmpS b n s d i = 2 := by
  intro d
  induction d with
  | zero => intro i; exact Or.inl rfl
  | succ d ih =>
    intro i
    rw [cmpS]
    split
    · exact Or.inr (Or.inl rfl)
    · split
      · exact Or.inr (Or.inr rfl)
      · exact ih (i + 1)
theorem cmpS_len (b : List Int) (n : Nat) (s : List Int) : ∀ d i : Nat, n + i ≤ b.length → cmpS b n s d i = 0 → n + i + d ≤ b.length := by
  intro d
  induction d with
  | zero => intro i h _; omega
  | succ d ih =>
    intro i h hc
    rw [cmpS] at hc
    split at hc
    · exact absurd hc (by decide)
    · split at hc
      · exact absurd hc (by decide)
      · have := ih (i + 1) (by omega) hc
        omega
/-- What both decode: tenant, number, length, kind of the answer, body. -/
def df (b : List Int) : Int × Int × Int × Int × List Int :=
  if hdBad9 b then (0, 0, 0, 2, []) else if b.length < 9 then (0, 0, 0, 1, []) else if (b.length : Int) < 9 + lg2 b then (0, 0, 0, 1, []) else
    if cmpS b (9 + lg2 b).toNat (w4 (ck ((b.take (9 + lg2 b).toNat).drop 2) (1, 0))) 4 0 = 0 then (L b 2, be ((b.take 7).drop 3) 0, 13 + lg2 b, 0, (b.take (9 + lg2 b).toNat).drop 9)
    else (0, 0, 0, cmpS b (9 + lg2 b).toNat (w4 (ck ((b.take (9 + lg2 b).toNat).drop 2) (1, 0))) 4 0, [])
theorem w4_length (x : Int) : (w4 x).length = 4 := rfl
theorem lg2_range (b : List Int) (hb : Bs b) : 0 ≤ lg2 b ∧ lg2 b < 4294967296 := by
  have h := be_range ((b.take 9).drop 7) 0 (hb.seg 9 7) (by decide)
  have hl : ((b.take 9).drop 7).length ≤ 4 := by rw [List.length_drop, List.length_take]; omega
  have hp := p256 _ hl
  unfold lg2
  rw [Int.zero_add, Int.one_mul] at h
  omega
/-! #### the one side -/
theorem shead_loop (b : List Int) (hb : Bs b) (hlen : b.length ≤ 2000000) (K : Nat) (hK : 20 ≤ K) : ∀ (d k i : Nat), i + d = 9 → d < k → i ≤ b.length →
    spec_l11Head.l0 K k b (i : Int) = some (decide (¬ ((i ≤ 0 ∧ 0 < b.length ∧ L b 0 ≠ 199) ∨ (i ≤ 1 ∧ 1 < b.length ∧ L b 1 ≠ 77) ∨ (i ≤ 2 ∧ 2 < b.length ∧ L b 2 > 99) ∨ (i ≤ 3 ∧ 3 < b.length ∧ L b 3 > 127) ∨ (i ≤ 7 ∧ 7 < b.length ∧ L b 7 > 19) ∨ (i ≤ 8 ∧ 8 < b.length ∧ lg2 b > 5000)))) := by
  intro d
  induction d with
  | zero =>
    intro k i hi hk hl
    obtain ⟨k, rfl⟩ : ∃ m, k = m + 1 := ⟨k - 1, by omega⟩
    rw [spec_l11Head.l0_eq]
    have : decide (¬ ((i ≤ 0 ∧ 0 < b.length ∧ L b 0 ≠ 199) ∨ (i ≤ 1 ∧ 1 < b.length ∧ L b 1 ≠ 77) ∨ (i ≤ 2 ∧ 2 < b.length ∧ L b 2 > 99) ∨ (i ≤ 3 ∧ 3 < b.length ∧ L b 3 > 127) ∨ (i ≤ 7 ∧ 7 < b.length ∧ L b 7 > 19) ∨ (i ≤ 8 ∧ 8 < b.length ∧ lg2 b > 5000))) = true := decide_eq_true (by omega)
    rw [this]
    by_cases c : (i : Int) < (b.length : Int)
    · rw [if_pos c, if_neg (by omega)]
    · rw [if_neg c]
  | succ d ih =>
    intro k i hi hk hl
    obtain ⟨k, rfl⟩ : ∃ m, k = m + 1 := ⟨k - 1, by omega⟩
    rw [spec_l11Head.l0_eq]
    by_cases c : (i : Int) < (b.length : Int)
    · have hc := hb.L i
      have nx : wrap64 ((i : Int) + 1) = ((i + 1 : Nat) : Int) := wrap_next (show i < b.length by omega) (by omega)
      have ih := ih k (i + 1) (by omega) (by omega) (by omega)
      rw [if_pos c, if_pos (by omega), if_pos (by omega), if_pos (by omega), rd_L, wrap_id (x := L b i) (by omega) (by omega), nx, ih]
      have hi9 : i = 0 ∨ i = 1 ∨ i = 2 ∨ i = 3 ∨ i = 4 ∨ i = 5 ∨ i = 6 ∨ i = 7 ∨ i = 8 := by omega
      rcases hi9 with rfl | rfl | rfl | rfl | rfl | rfl | rfl | rfl | rfl
      · rw [if_pos (by decide)]
        by_cases e : L b 0 ≠ 199
        · rw [if_pos e]; congr 1; exact (decide_eq_false (by omega)).symm
        · rw [if_neg e]; congr 1; exact decide_eq_decide.mpr (by omega)
      · rw [if_neg (by decide), if_pos (by decide)]
        by_cases e : L b 1 ≠ 77
        · rw [if_pos e]; congr 1; exact (decide_eq_false (by omega)).symm
        · rw [if_neg e]; congr 1; exact decide_eq_decide.mpr (by omega)
      · rw [if_neg (by decide), if_neg (by decide), if_pos (by decide)]
        by_cases e : L b 2 > 99
        · rw [if_pos e]; congr 1; exact (decide_eq_false (by omega)).symm
        · rw [if_neg e]; congr 1; exact decide_eq_decide.mpr (by omega)
      · rw [if_neg (by decide), if_neg (by decide), if_neg (by decide), if_pos (by decide)]
        by_cases e : L b 3 > 127
        · rw [if_pos e]; congr 1; exact (decide_eq_false (by omega)).symm
        · rw [if_neg e]; congr 1; exact decide_eq_decide.mpr (by omega)
      · rw [if_neg (by decide), if_neg (by decide), if_neg (by decide), if_neg (by decide), if_neg (by decide), if_neg (by decide)]; congr 1; exact decide_eq_decide.mpr (by omega)
      · rw [if_neg (by decide), if_neg (by decide), if_neg (by decide), if_neg (by decide), if_neg (by decide), if_neg (by decide)]; congr 1; exact decide_eq_decide.mpr (by omega)
      · rw [if_neg (by decide), if_neg (by decide), if_neg (by decide), if_neg (by decide), if_neg (by decide), if_neg (by decide)]; congr 1; exact decide_eq_decide.mpr (by omega)
      · rw [if_neg (by decide), if_neg (by decide), if_neg (by decide), if_neg (by decide), if_pos (by decide)]
        by_cases e : L b 7 > 19
        · rw [if_pos e]; congr 1; exact (decide_eq_false (by omega)).symm
        · rw [if_neg e]; congr 1; exact decide_eq_decide.mpr (by omega)
      · rw [if_neg (by decide), if_neg (by decide), if_neg (by decide), if_neg (by decide), if_neg (by decide), if_pos (by decide), if_pos (by omega), show cut b 7 9 = (b.take 9).drop 7 from cut_nat b 7 9, sread_f _ (hb.seg 9 7) (by rw [List.length_drop, List.length_take]; omega) K (by omega)]
        simp only [bs]
        have hlg : be ((b.take 9).drop 7) 0 = lg2 b := rfl
        rw [hlg]
        by_cases e : lg2 b > 5000
        · rw [if_pos e]; congr 1; exact (decide_eq_false (by omega)).symm
        · rw [if_neg e]; congr 1; exact decide_eq_decide.mpr (by omega)
    · rw [if_neg c]
      congr 1
      exact (decide_eq_true (by omega)).symm
theorem shead_f (b : List Int) (hb : Bs b) (hlen : b.length ≤ 2000000) (k : Nat) (hk : 30 ≤ k) : spec_l11Head.f k b = some (decide (¬ hdBad9 b)) := by
  obtain ⟨k, rfl⟩ : ∃ m, k = m + 1 := ⟨k - 1, by omega⟩
  rw [spec_l11Head.f_eq]
  have := shead_loop b hb hlen k (by omega) 9 k 0 (by omega) (by omega) (by omega)
  rw [show ((0 : Nat) : Int) = 0 from rfl] at this
  rw [this]
  congr 1
  unfold hdBad9 hdBad
  exact decide_eq_decide.mpr (by omega)
theorem scmp_loop (b : List Int) (n : Nat) (s : List Int) (hs : s.length = 4) (hn : n ≤ b.length) (hlen : b.length ≤ 2000000) (hb : Bs b) (h9 : 9 ≤ n) (K : Nat) (hK : 2000010 ≤ K) (x y : Int) : ∀ (d k i : Nat), i + d = 4 → d < k → n + i ≤ b.length →
    spec_DecodeFrame.l0 K k b (n : Int) (i : Int) x y 0 0 s = some (if cmpS b n s d i = 0 then (L b 2, be ((b.take 7).drop 3) 0, (n : Int) + 4, 0, (b.take n).drop 9) else (0, 0, 0, cmpS b n s d i, [])) := by
  intro d
  induction d with
  | zero =>
    intro k i hi hk hl
    obtain ⟨k, rfl⟩ : ∃ m, k = m + 1 := ⟨k - 1, by omega⟩
    have h2 := hb.L 2
    rw [spec_DecodeFrame.l0_eq, if_neg (by omega), if_pos (by omega), if_pos (by omega), show cut b 3 7 = (b.take 7).drop 3 from cut_nat b 3 7, sread_f _ (hb.seg 7 3) (by rw [List.length_drop, List.length_take]; omega) K (by omega)]
    simp only [bs]
    rw [if_pos (by omega), if_pos (by omega), show cut b 9 (n : Int) = (b.take n).drop 9 from cut_nat b 9 n, bytes_is _ (by rw [List.length_drop, List.length_take]; omega) K (by rw [List.length_drop, List.length_take]; omega)]
    simp only [bs]
    rw [show rdI b 2 = L b 2 from rd_L b 2, wrap_id (x := L b 2) (by omega) (by omega), wrap_id (x := (n : Int) + 4) (by omega) (by omega)]
    rfl
  | succ d ih =>
    intro k i hi hk hl
    obtain ⟨k, rfl⟩ : ∃ m, k = m + 1 := ⟨k - 1, by omega⟩
    rw [spec_DecodeFrame.l0_eq, if_pos (by omega), wrap_id (x := (n : Int) + (i : Int)) (by omega) (by omega), cmpS]
    by_cases c : n + i = b.length
    · rw [if_pos (by omega), if_pos c]
      rfl
    · rw [if_neg (by omega), if_neg c, if_pos (by omega), if_pos (by omega), if_pos (by omega), if_pos (by omega), show (n : Int) + (i : Int) = ((n + i : Nat) : Int) from rfl, rd_L, rd_L]
      by_cases e : L b (n + i) ≠ L s i
      · rw [if_pos e, if_pos e]
        rfl
      · rw [if_neg e, if_neg e, wrap_next (show i < 4 by omega) (by omega)]
        exact ih k (i + 1) (by omega) (by omega) (by omega)
theorem sdf_f (b : List Int) (hb : Bs b) (hlen : b.length ≤ 1048576) (k : Nat) (hk : 2000020 ≤ k) : spec_DecodeFrame.f k b = some (df b) := by
  obtain ⟨k, rfl⟩ : ∃ m, k = m + 1 := ⟨k - 1, by omega⟩
  have hg := lg2_range b hb
  rw [spec_DecodeFrame.f_eq, shead_f b hb (by omega) k (by omega)]
  simp only [bs, not_ite]
  unfold df
  by_cases h1 : hdBad9 b
  · rw [if_neg (by simpa using h1), if_pos h1]
  · rw [if_pos (by simpa using h1), if_neg h1]
    by_cases h2 : b.length < 9
    · rw [if_pos (by omega), if_pos h2]
    · have hlg : be ((b.take 9).drop 7) 0 = lg2 b := rfl
      have h5 : lg2 b ≤ 5000 := by
        unfold hdBad9 at h1
        omega
      rw [if_neg (by omega), if_neg h2, if_pos (by omega), show cut b 7 9 = (b.take 9).drop 7 from cut_nat b 7 9, sread_f _ (hb.seg 9 7) (by rw [List.length_drop, List.length_take]; omega) k (by omega)]
      simp only [bs]
      rw [hlg, wrap_id (x := 9 + lg2 b) (by omega) (by omega)]
      by_cases h3 : (b.length : Int) < 9 + lg2 b
      · rw [if_pos h3, if_pos h3]
      · obtain ⟨n, hn⟩ : ∃ n : Nat, 9 + lg2 b = (n : Int) := ⟨(9 + lg2 b).toNat, by omega⟩
        have hck := ck_range ((b.take n).drop 2) (1, 0) (by decide) (by decide) (by decide) (by decide)
        rw [if_neg h3, if_neg h3, hn, Int.toNat_natCast, if_pos (by omega), if_pos (by omega), show cut b 2 (n : Int) = (b.take n).drop 2 from cut_nat b 2 n, scheck_f _ (hb.seg n 2) (by rw [List.length_drop, List.length_take]; omega) k (by rw [List.length_drop, List.length_take]; omega)]
        simp only [bs]
        rw [wide4_f _ hck.1 hck.2 k (by omega)]
        simp only [bs]
        have := scmp_loop b n (w4 (ck ((b.take n).drop 2) (1, 0))) rfl (by omega) (by omega) hb (by omega) k (by omega) 0 0 4 k 0 (by omega) (by omega) (by omega)
        rw [show ((0 : Nat) : Int) = 0 from rfl] at this
        rw [this, show (13 : Int) + lg2 b = (n : Int) + 4 by omega]
/-! #### the other side -/
theorem icmp_loop (b : List Int) (n : Nat) (s : List Int) (g : Int) (hg : 9 + g = (n : Int)) (hs : s.length = 4) (hn : n ≤ b.length) (hlen : b.length ≤ 2000000) (hb : Bs b) (h9 : 9 ≤ n) (K : Nat) (hK : 20 ≤ K) (x y : Int) : ∀ (d k i : Nat), i + d = 4 → d < k → n + i ≤ b.length →
    impl_decodeFrame.l0 K k b (b.length : Int) g 4 (i : Int) x y s = some (if cmpS b n s d i = 0 then (L b 2, be ((b.take 7).drop 3) 0, 13 + g, 0, (b.take n).drop 9) else (0, 0, 0, cmpS b n s d i, [])) := by
  intro d
  induction d with
  | zero =>
    intro k i hi hk hl
    obtain ⟨k, rfl⟩ : ∃ m, k = m + 1 := ⟨k - 1, by omega⟩
    have h2 := hb.L 2
    rw [impl_decodeFrame.l0_eq, if_neg (by omega), if_pos (by omega), if_pos (by omega), show cut b 3 7 = (b.take 7).drop 3 from cut_nat b 3 7, iread_f _ (hb.seg 7 3) (by rw [List.length_drop, List.length_take]; omega) K (by omega)]
    simp only [bs]
    rw [wrap_id (x := 9 + g) (by omega) (by omega), wrap_id (x := 13 + g) (by omega) (by omega), hg, if_pos (by omega), if_pos (by omega), show cut b 9 (n : Int) = (b.take n).drop 9 from cut_nat b 9 n, if_pos (by rw [List.length_drop, List.length_take]; omega)]
    rw [show rdI b 2 = L b 2 from rd_L b 2, wrap_id (x := L b 2) (by omega) (by omega), List.nil_append]
    rfl
  | succ d ih =>
    intro k i hi hk hl
    obtain ⟨k, rfl⟩ : ∃ m, k = m + 1 := ⟨k - 1, by omega⟩
    rw [impl_decodeFrame.l0_eq, if_pos (by omega), if_pos (by omega), if_pos (by omega), wrap_id (x := 9 + g) (by omega) (by omega), hg, wrap_id (x := (n : Int) + (i : Int)) (by omega) (by omega), cmpS]
    by_cases c : n + i = b.length
    · rw [if_pos (by omega), if_pos c]
      rfl
    · rw [if_neg (by omega), if_neg c, if_pos (by omega), if_pos (by omega), show (n : Int) + (i : Int) = ((n + i : Nat) : Int) from rfl, rd_L, rd_L]
      by_cases e : L b (n + i) ≠ L s i
      · rw [if_pos e, if_pos e]
        rfl
      · rw [if_neg e, if_neg e, wrap_next (show i < 4 by omega) (by omega)]
        exact ih k (i + 1) (by omega) (by omega) (by omega)
theorem ij0D (b : List Int) (hb : Bs b) (hlen : b.length ≤ 1048576) (k : Nat) (hk : 2000010 ≤ k) (t : Bool) (ht : t = true ↔ hdBad b) : impl_decodeFrame.j0 k b (b.length : Int) t 0 0 = some (df b) := by
  have hg := lg2_range b hb
  rw [impl_decodeFrame.j0_eq]
  unfold df
  by_cases h1 : hdBad b
  · rw [if_pos (ht.2 h1), if_pos (show hdBad9 b from Or.inl h1)]
  · rw [if_neg (fun h => h1 (ht.1 h))]
    by_cases h2 : b.length < 9
    · have h9 : ¬ hdBad9 b := by unfold hdBad9; exact fun h => h.elim h1 fun h => by omega
      rw [if_pos (by omega), if_neg h9, if_pos h2]
    · have hlg : be ((b.take 9).drop 7) 0 = lg2 b := rfl
      rw [if_neg (by omega), if_pos (by omega), show cut b 7 9 = (b.take 9).drop 7 from cut_nat b 7 9, iread_f _ (hb.seg 9 7) (by rw [List.length_drop, List.length_take]; omega) k (by omega)]
      simp only [bs]
      rw [hlg]
      by_cases h4 : lg2 b > 5000
      · rw [if_pos h4, if_pos (show hdBad9 b from Or.inr ⟨by omega, h4⟩)]
      · have h9 : ¬ hdBad9 b := by unfold hdBad9; exact fun h => h.elim h1 fun h => by omega
        rw [if_neg h4, if_neg h9, if_neg h2, wrap_id (x := 9 + lg2 b) (by omega) (by omega)]
        by_cases h3 : (b.length : Int) < 9 + lg2 b
        · rw [if_pos h3, if_pos h3]
        · obtain ⟨n, hn⟩ : ∃ n : Nat, 9 + lg2 b = (n : Int) := ⟨(9 + lg2 b).toNat, by omega⟩
          rw [if_neg h3, if_neg h3, hn, Int.toNat_natCast, if_pos (by omega), if_pos (by omega), show cut b 2 (n : Int) = (b.take n).drop 2 from cut_nat b 2 n, icheck_f _ (hb.seg n 2) (by rw [List.length_drop, List.length_take]; omega) k (by rw [List.length_drop, List.length_take]; omega)]
          simp only [bs]
          rw [big4_f _ k (by omega)]
          simp only [bs]
          have := icmp_loop b n (w4 (ck ((b.take n).drop 2) (1, 0))) (lg2 b) hn rfl (by omega) (by omega) hb (by omega) k (by omega) 0 0 4 k 0 (by omega) (by omega) (by omega)
          rw [show ((0 : Nat) : Int) = 0 from rfl] at this
          exact this
theorem idf_f (b : List Int) (hb : Bs b) (hlen : b.length ≤ 1048576) (k : Nat) (hk : 2000020 ≤ k) : impl_decodeFrame.f k b = some (df b) := by
  obtain ⟨k, rfl⟩ : ∃ m, k = m + 1 := ⟨k - 1, by omega⟩
  have j0 := fun t ht => ij0D b hb hlen k (by omega) t ht
  have r0 : rdI b 0 = L b 0 := rd_L b 0
  have r1 : rdI b 1 = L b 1 := rd_L b 1
  have r2 : rdI b 2 = L b 2 := rd_L b 2
  have r3 : rdI b 3 = L b 3 := rd_L b 3
  have r7 : rdI b 7 = L b 7 := rd_L b 7
  have b7 := hb.L 7
  -- the last look
  have j4 : ∀ t : Bool, (t = true ↔ ((0 < b.length ∧ L b 0 ≠ 199) ∨ (1 < b.length ∧ L b 1 ≠ 77) ∨ (2 < b.length ∧ L b 2 > 99) ∨ (3 < b.length ∧ L b 3 > 127))) → impl_decodeFrame.j4 k b (b.length : Int) t 0 0 = some (df b) := by
    intro t ht
    rw [impl_decodeFrame.j4_eq]
    by_cases c : t = true
    · rw [if_pos c]
      exact j0 t ⟨fun _ => by have := ht.1 c; unfold hdBad; omega, fun _ => c⟩
    · have hn : ¬ _ := fun h => c (ht.2 h)
      rw [if_neg c]
      by_cases d : (b.length : Int) > 7
      · rw [if_pos d, if_pos (by omega), r7, wrap_id (x := L b 7) (by omega) (by omega)]
        exact j0 _ (by unfold hdBad; simp only [decide_eq_true_eq]; omega)
      · rw [if_neg d]
        exact j0 _ (by unfold hdBad; simp only [Bool.false_eq_true, false_iff]; omega)
  have j3 : ∀ t : Bool, (t = true ↔ ((0 < b.length ∧ L b 0 ≠ 199) ∨ (1 < b.length ∧ L b 1 ≠ 77) ∨ (2 < b.length ∧ L b 2 > 99))) → impl_decodeFrame.j3 k b (b.length : Int) t 0 0 = some (df b) := by
    intro t ht
    rw [impl_decodeFrame.j3_eq]
    by_cases c : t = true
    · rw [if_pos c]
      exact j0 t ⟨fun _ => by have := ht.1 c; unfold hdBad; omega, fun _ => c⟩
    · have hn : ¬ _ := fun h => c (ht.2 h)
      rw [if_neg c]
      by_cases d : (b.length : Int) > 3
      · rw [if_pos d, if_pos (by omega), r3]
        exact j4 _ (by simp only [decide_eq_true_eq]; omega)
      · rw [if_neg d]
        exact j4 _ (by simp only [Bool.false_eq_true, false_iff]; omega)
  have j2 : ∀ t : Bool, (t = true ↔ ((0 < b.length ∧ L b 0 ≠ 199) ∨ (1 < b.length ∧ L b 1 ≠ 77))) → impl_decodeFrame.j2 k b (b.length : Int) t 0 0 = some (df b) := by
    intro t ht
    rw [impl_decodeFrame.j2_eq]
    by_cases c : t = true
    · rw [if_pos c]
      exact j0 t ⟨fun _ => by have := ht.1 c; unfold hdBad; omega, fun _ => c⟩
    · have hn : ¬ _ := fun h => c (ht.2 h)
      rw [if_neg c]
      by_cases d : (b.length : Int) > 2
      · rw [if_pos d, if_pos (by omega), r2]
        exact j3 _ (by simp only [decide_eq_true_eq]; omega)
      · rw [if_neg d]
        exact j3 _ (by simp only [Bool.false_eq_true, false_iff]; omega)
  have j1 : ∀ t : Bool, (t = true ↔ (0 < b.length ∧ L b 0 ≠ 199)) → impl_decodeFrame.j1 k b (b.length : Int) t 0 0 = some (df b) := by
    intro t ht
    rw [impl_decodeFrame.j1_eq]
    by_cases c : t = true
    · rw [if_pos c]
      exact j0 t ⟨fun _ => by have := ht.1 c; unfold hdBad; omega, fun _ => c⟩
    · have hn : ¬ _ := fun h => c (ht.2 h)
      rw [if_neg c]
      by_cases d : (b.length : Int) > 1
      · rw [if_pos d, if_pos (by omega), r1]
        exact j2 _ (by simp only [decide_eq_true_eq]; omega)
      · rw [if_neg d]
        exact j2 _ (by simp only [Bool.false_eq_true, false_iff]; omega)
  rw [impl_decodeFrame.f_eq]
  by_cases d : (b.length : Int) > 0
  · rw [if_pos d, if_pos (by omega), r0]
    exact j1 _ (by simp only [decide_eq_true_eq]; omega)
  · rw [if_neg d]
    exact j1 _ (by simp only [Bool.false_eq_true, false_iff]; omega)
end Go.Vm.Pu
namespace Go.Vm.Pu
open Go Go.RowKit Go.Vm
set_option linter.unusedVariables false
set_option linter.unusedSimpArgs false
theorem df_ok (b : List Int) (hb : Bs b) : ((df b).2.2.2.1 = 0 → 0 < (df b).2.2.1 ∧ (df b).2.2.1 ≤ (b.length : Int)) ∧ ((df b).2.2.2.1 = 0 ∨ (df b).2.2.2.1 = 1 ∨ (df b).2.2.2.1 = 2) ∧ Bs (df b).2.2.2.2 ∧ (df b).2.2.2.2.length ≤ b.length := by
  have hg := lg2_range b hb
  unfold df
  by_cases h1 : hdBad9 b
  · rw [if_pos h1]
    exact ⟨fun h => absurd h (by decide), Or.inr (Or.inr rfl), fun x hx => (by cases hx), Nat.zero_le _⟩
  · rw [if_neg h1]
    by_cases h2 : b.length < 9
    · rw [if_pos h2]
      exact ⟨fun h => absurd h (by decide), Or.inr (Or.inl rfl), fun x hx => (by cases hx), Nat.zero_le _⟩
    · rw [if_neg h2]
      by_cases h3 : (b.length : Int) < 9 + lg2 b
      · rw [if_pos h3]
        exact ⟨fun h => absurd h (by decide), Or.inr (Or.inl rfl), fun x hx => (by cases hx), Nat.zero_le _⟩
      · rw [if_neg h3]
        have hcs := cmpS_cases b (9 + lg2 b).toNat (w4 (ck ((b.take (9 + lg2 b).toNat).drop 2) (1, 0))) 4 0
        have hcl := cmpS_len b (9 + lg2 b).toNat (w4 (ck ((b.take (9 + lg2 b).toNat).drop 2) (1, 0))) 4 0 (by omega)
        generalize cmpS b (9 + lg2 b).toNat (w4 (ck ((b.take (9 + lg2 b).toNat).drop 2) (1, 0))) 4 0 = c at hcs hcl ⊢
        by_cases h4 : c = 0
        · rw [if_pos h4]
          have := hcl h4
          refine ⟨fun _ => ⟨by simp only; omega, by simp only; omega⟩, Or.inl rfl, hb.seg _ _, ?_⟩
          simp only [List.length_drop, List.length_take]
          omega
        · rw [if_neg h4]
          refine ⟨fun h => absurd h h4, by simp only; omega, fun x hx => (by cases hx), Nat.zero_le _⟩
def evOf (x : Int × Int × Int × Int × List Int × Bool) : Evt := (x.1, x.2.1, x.2.2.1, x.2.2.2.1, x.2.2.2.2.1)
/-- What both read from a place on. -/
def scn (all : List Int) : Nat → Nat → List Evt → Nat × Int × List Evt
  | 0, at_, out => (at_, 0, out)
  | d + 1, at_, out =>
    if at_ < all.length then
      if (df (all.drop at_)).2.2.2.1 = 1 then (at_, 1, out) else if (df (all.drop at_)).2.2.2.1 = 2 then (at_, 2, out) else
      if (te (df (all.drop at_)).1 (df (all.drop at_)).2.1 (df (all.drop at_)).2.2.2.2).2.2.2.2.2 = true then
        scn all d (at_ + (df (all.drop at_)).2.2.1.toNat) (out ++ [evOf (te (df (all.drop at_)).1 (df (all.drop at_)).2.1 (df (all.drop at_)).2.2.2.2)])
      else (at_, 2, out)
    else (at_, 0, out)
theorem scn_at (all : List Int) (hb : Bs all) : ∀ (d at_ : Nat) (out : List Evt), at_ ≤ all.length → (scn all d at_ out).1 ≤ all.length := by
  intro d
  induction d with
  | zero => intro at_ out h; exact h
  | succ d ih =>
    intro at_ out h
    have hd := df_ok (all.drop at_) (hb.drop _)
    rw [scn]
    split
    · split
      · exact h
      · split
        · exact h
        · split
          · have h0 : (df (all.drop at_)).2.2.2.1 = 0 := by omega
            have := hd.1 h0
            rw [List.length_drop] at this
            exact ih _ _ (by omega)
          · exact h
    · exact h
theorem sscan_loop (all : List Int) (hb : Bs all) (hlen : all.length ≤ 1048576) (K : Nat) (hK : 2000030 ≤ K) : ∀ (d k at_ : Nat) (out : List Evt), all.length ≤ at_ + d → at_ ≤ all.length → d < k → out.length + d ≤ 4000000 →
    spec_l18Scan.l0 K k all (at_ : Int) out = some (((scn all d at_ out).1 : Int), (scn all d at_ out).2.1, (scn all d at_ out).2.2) := by
  intro d
  induction d with
  | zero =>
    intro k at_ out h1 h2 hk hl
    obtain ⟨k, rfl⟩ : ∃ m, k = m + 1 := ⟨k - 1, by omega⟩
    rw [spec_l18Scan.l0_eq, if_neg (by omega)]
    rfl
  | succ d ih =>
    intro k at_ out h1 h2 hk hl
    obtain ⟨k, rfl⟩ : ∃ m, k = m + 1 := ⟨k - 1, by omega⟩
    have hd := df_ok (all.drop at_) (hb.drop _)
    rw [spec_l18Scan.l0_eq, scn]
    by_cases c : at_ < all.length
    · rw [if_pos (by omega), if_pos (by omega), if_pos (by omega), if_pos c, cut_end, sdf_f _ (hb.drop _) (by rw [List.length_drop]; omega) K (by omega)]
      simp only [bs]
      by_cases e1 : (df (all.drop at_)).2.2.2.1 = 1
      · rw [if_pos e1, if_pos e1]
      · rw [if_neg e1, if_neg e1]
        by_cases e2 : (df (all.drop at_)).2.2.2.1 = 2
        · rw [if_pos e2, if_pos e2]
        · have h0 : (df (all.drop at_)).2.2.2.1 = 0 := by omega
          have hn := hd.1 h0
          have hbl := hd.2.2.2
          rw [List.length_drop] at hn hbl
          rw [if_neg e2, if_neg e2, stakeEvent_f _ _ _ hd.2.2.1 (by omega) K (by omega)]
          simp only [bs, not_ite, tv]
          by_cases e3 : (te (df (all.drop at_)).1 (df (all.drop at_)).2.1 (df (all.drop at_)).2.2.2.2).2.2.2.2.2 = true
          · rw [if_pos e3, if_pos e3, if_pos (by omega), wrap_id (by omega) (by omega), show (at_ : Int) + (df (all.drop at_)).2.2.1 = ((at_ + (df (all.drop at_)).2.2.1.toNat : Nat) : Int) by omega]
            exact ih k _ _ (by omega) (by omega) (by omega) (by simp; omega)
          · rw [if_neg e3, if_neg e3]
    · rw [if_neg (by omega), if_neg c]
theorem sscan_f (all : List Int) (hb : Bs all) (hlen : all.length ≤ 1048576) (k : Nat) (hk : 2000040 ≤ k) : spec_l18Scan.f k all = some (((scn all all.length 0 []).1 : Int), (scn all all.length 0 []).2.1, (scn all all.length 0 []).2.2) := by
  obtain ⟨k, rfl⟩ : ∃ m, k = m + 1 := ⟨k - 1, by omega⟩
  rw [spec_l18Scan.f_eq]
  exact sscan_loop all hb hlen k (by omega) all.length k 0 [] (by omega) (by omega) (by omega) (by simp; omega)
theorem iread_log (all : List Int) (hb : Bs all) (hlen : all.length ≤ 1048576) (K : Nat) (hK : 2000030 ≤ K) : ∀ (d k at_ : Nat) (out : List Evt), all.length ≤ at_ + d → at_ ≤ all.length → d < k → out.length + d ≤ 4000000 →
    impl_readDisk.l0 K k (at_ : Int) all out = some (((scn all d at_ out).1 : Int), (scn all d at_ out).2.1, (scn all d at_ out).2.2) := by
  intro d
  induction d with
  | zero =>
    intro k at_ out h1 h2 hk hl
    obtain ⟨k, rfl⟩ : ∃ m, k = m + 1 := ⟨k - 1, by omega⟩
    rw [impl_readDisk.l0_eq, if_pos (by omega)]
    rfl
  | succ d ih =>
    intro k at_ out h1 h2 hk hl
    obtain ⟨k, rfl⟩ : ∃ m, k = m + 1 := ⟨k - 1, by omega⟩
    have hd := df_ok (all.drop at_) (hb.drop _)
    rw [impl_readDisk.l0_eq, scn]
    by_cases c : at_ < all.length
    · rw [if_neg (by omega), if_pos (by omega), if_pos (by omega), if_pos c, cut_end, idf_f _ (hb.drop _) (by rw [List.length_drop]; omega) K (by omega)]
      simp only [bs]
      by_cases e1 : (df (all.drop at_)).2.2.2.1 = 1
      · rw [if_pos e1, if_pos e1]
      · have hbl := hd.2.2.2
        rw [List.length_drop] at hbl
        rw [if_neg e1, if_neg e1, itakeEvent_f _ _ _ hd.2.2.1 (by omega) K (by omega)]
        simp only [bs, not_ite, tv]
        by_cases e2 : (df (all.drop at_)).2.2.2.1 = 2
        · rw [if_pos (by omega), if_pos e2]
        · have h0 : (df (all.drop at_)).2.2.2.1 = 0 := by omega
          have hn := hd.1 h0
          rw [List.length_drop] at hn
          rw [if_neg (by omega), if_neg e2]
          by_cases e3 : (te (df (all.drop at_)).1 (df (all.drop at_)).2.1 (df (all.drop at_)).2.2.2.2).2.2.2.2.2 = true
          · rw [if_pos e3, if_pos e3, if_pos (by omega), wrap_id (by omega) (by omega), show (at_ : Int) + (df (all.drop at_)).2.2.1 = ((at_ + (df (all.drop at_)).2.2.1.toNat : Nat) : Int) by omega]
            exact ih k _ _ (by omega) (by omega) (by omega) (by simp; omega)
          · rw [if_neg e3, if_neg e3]
    · rw [if_pos (by omega), if_neg c]
theorem iread_disk (a b : List Int) (ha : Bs a) (hb : Bs b) (hlen : a.length + b.length ≤ 1048576) (k : Nat) (hk : 2000040 ≤ k) : impl_readDisk.f k a b = some (((scn (a ++ b) (a ++ b).length 0 []).1 : Int), (scn (a ++ b) (a ++ b).length 0 []).2.1, (scn (a ++ b) (a ++ b).length 0 []).2.2) := by
  obtain ⟨k, rfl⟩ : ∃ m, k = m + 1 := ⟨k - 1, by omega⟩
  rw [impl_readDisk.f_eq, if_pos (by omega), List.nil_append, if_pos (by omega)]
  have hl : (a ++ b).length = a.length + b.length := List.length_append
  exact iread_log (a ++ b) (ha.app hb) (by omega) k (by omega) (a ++ b).length k 0 [] (by omega) (by omega) (by omega) (by simp; omega)
end Go.Vm.Pu
namespace Go.Vm.Pu
open Go Go.RowKit Go.Vm
set_option linter.unusedVariables false
set_option linter.unusedSimpArgs false
/-- What both answer. -/
def rp (a b : List Int) : Bool × List Int × List Int :=
  if a.length + b.length ≤ 60000 then (if (scn (a ++ b) (a ++ b).length 0 []).2.1 = 2 then (false, a, b) else (true, (a ++ b).take (scn (a ++ b) (a ++ b).length 0 []).1, [])) else (false, a, b)
theorem rp_len (a b : List Int) (h : a.length + b.length ≤ 1048576) : (rp a b).2.1.length + (rp a b).2.2.length ≤ 1048576 := by
  unfold rp
  split
  · split
    · exact h
    · simp only [List.length_take, List.length_append, List.length_nil]; omega
  · exact h
theorem cut_front (l : List Int) (i : Nat) : cut l 0 (i : Int) = l.take i := by
  have := cut_nat l 0 i
  rw [List.drop_zero] at this
  exact this
theorem srp_f (a b : List Int) (ha : Bs a) (hb : Bs b) (h : a.length + b.length ≤ 1048576) (k : Nat) (hk : 2000050 ≤ k) : spec_RepairDisk.f k a b = some (rp a b) := by
  obtain ⟨k, rfl⟩ : ∃ m, k = m + 1 := ⟨k - 1, by omega⟩
  rw [spec_RepairDisk.f_eq, specDiskOk_f a b h k (by omega)]
  simp only [bs, not_ite, l18Copy_f a b h k (by omega)]
  unfold rp
  by_cases c : a.length + b.length ≤ 60000
  · have hl : (a ++ b).length = a.length + b.length := List.length_append
    have hat := scn_at (a ++ b) (ha.app hb) (a ++ b).length 0 [] (Nat.zero_le _)
    rw [if_pos (decide_eq_true c), if_pos c, join_is a b (by omega) (by omega) k (by omega) (by omega)]
    simp only [bs]
    rw [sscan_f _ (ha.app hb) (by omega) k (by omega)]
    simp only [bs]
    by_cases e : (scn (a ++ b) (a ++ b).length 0 []).2.1 = 2
    · rw [if_pos e, if_pos e]
    · rw [if_neg e, if_neg e, if_pos (by omega), if_pos (by omega), cut_front, bytes_is _ (by rw [List.length_take]; omega) k (by rw [List.length_take]; omega)]
      simp only [bs]
  · rw [if_neg (by simpa using c), if_neg c]
theorem irp_f (a b : List Int) (ha : Bs a) (hb : Bs b) (h : a.length + b.length ≤ 1048576) (k : Nat) (hk : 2000050 ≤ k) : impl_RepairDisk.f k a b = some (rp a b) := by
  obtain ⟨k, rfl⟩ : ∃ m, k = m + 1 := ⟨k - 1, by omega⟩
  rw [impl_RepairDisk.f_eq, copyDisk_f a b h k (by omega)]
  simp only [bs, not_ite]
  rw [isDisk_f a b h k (by omega)]
  simp only [bs]
  unfold rp
  by_cases c : a.length + b.length ≤ 60000
  · have hl : (a ++ b).length = a.length + b.length := List.length_append
    have hat := scn_at (a ++ b) (ha.app hb) (a ++ b).length 0 [] (Nat.zero_le _)
    rw [if_pos (decide_eq_true c), if_pos c, iread_disk a b ha hb h k (by omega)]
    simp only [bs]
    by_cases e : (scn (a ++ b) (a ++ b).length 0 []).2.1 = 2
    · rw [if_pos e, if_pos e]
    · rw [if_neg e, if_neg e, if_pos (by omega), if_pos (by omega), if_pos (by omega), cut_front, if_pos (by rw [List.length_take]; omega), List.nil_append]
  · rw [if_neg (by simpa using c), if_neg c]
end Go.Vm.Pu
namespace Go.Vm.Pu
open Go Go.RowKit Go.Vm
set_option linter.unusedVariables false
set_option linter.unusedSimpArgs false
abbrev EvT : Ty := .pair (.int .i64) (.pair (.int .i64) (.pair (.int .i64) (.pair (.int .i64) (.row (.int .u8)))))
theorem rdE (l : List Evt) (i : Nat) (h : i < l.length) : rd EvT l (i : Int) = l[i] := by
  simp [rd, List.getD, h]
def evTot : List Evt → Int
  | [] => 0
  | e :: l => 4 + (e.2.2.2.2.length : Int) + evTot l
theorem evTot_pos : ∀ l, 0 ≤ evTot l
  | [] => by simp [evTot]
  | e :: l => by have := evTot_pos l; simp only [evTot]; omega
def markEv : Int → List Evt → List Evt
  | _, [] => []
  | m, e :: l => (m, m + 1, m + 1 + 1, m + 1 + 1 + 1, markL (m + 1 + 1 + 1 + 1) e.2.2.2.2.length) :: markEv (m + 1 + 1 + 1 + 1 + (e.2.2.2.2.length : Int)) l
theorem markEv_length : ∀ (l : List Evt) (m : Int), (markEv m l).length = l.length
  | [], m => rfl
  | e :: l, m => by simp [markEv, markEv_length l]
theorem rd_setE (l : List Evt) (i : Nat) (h : i < l.length) (x : Evt) : rd EvT (l.set (Int.toNat (i : Int)) x) (i : Int) = x := by
  rw [rdE _ i (by simpa using h)]; simp
theorem evTot_le (B : Nat) : ∀ (l : List Evt), (∀ e ∈ l, e.2.2.2.2.length ≤ B) → evTot l ≤ (4 + (B : Int)) * (l.length : Int)
  | [], _ => by simp [evTot]
  | e :: l, h => by
    have h1 := evTot_le B l fun x hx => h x (List.mem_cons_of_mem _ hx)
    have h2 := h e (by simp)
    simp only [evTot, List.length_cons]
    rw [show ((l.length + 1 : Nat) : Int) = (l.length : Int) + 1 by omega, Int.mul_add]
    omega
end Go.Vm.Pu
