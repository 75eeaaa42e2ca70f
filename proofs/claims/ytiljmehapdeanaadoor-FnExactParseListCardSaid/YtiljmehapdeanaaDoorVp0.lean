/- Plain lemmas on numbers, lists and rounds. -/
import Derived.Test.YtiljmehapdeanaaDoorQ
import Derived.RowKit
namespace Go.Vm.Pu
open Go Go.RowKit Go.Vm
set_option linter.unusedVariables false
set_option linter.unusedSimpArgs false
/-- A value handed on; told so that simp rewrites by it instead of computing (the kernel else unfolds what follows). -/
theorem bs {α β : Type} (x : α) (f : α → Option β) : (some x).bind f = f x := (Option.bind_some x f).trans (Eq.refl _)
theorem wrap_id {x : Int} (h1 : -9223372036854775808 ≤ x) (h2 : x ≤ 9223372036854775807) : wrap64 x = x := by
  unfold wrap64
  rw [IntKind.wrap_i64]; omega
theorem rd_at (l : List Int) (i : Nat) (h : i < l.length) : rdI l (i : Int) = l[i] := by
  simp [rdI, List.getD, h]
theorem rd_mem (l : List Int) (i : Int) (h0 : 0 ≤ i) (h : i < l.length) : rdI l i ∈ l := by
  obtain ⟨n, rfl⟩ := Int.eq_ofNat_of_zero_le h0
  have hn : n < l.length := by omega
  rw [rd_at l n hn]
  exact List.getElem_mem hn
theorem set_take {α : Type} (l : List α) (i : Nat) (a : α) (h : i < l.length) : (l.set i a).take (i + 1) = l.take i ++ [a] := by
  rw [List.take_succ_eq_append_getElem (by simpa using h), List.take_set_of_le (by omega)]
  simp
theorem drop_cons {α : Type} (l : List α) (i : Nat) (h : i < l.length) : l.drop i = l[i] :: l.drop (i + 1) := List.drop_eq_getElem_cons h
theorem cast_succ (i : Nat) : (i : Int) + 1 = ((i + 1 : Nat) : Int) := rfl
theorem wf_bounds {x : Int} (h : (Lit.int .i64 x).wf = true) : -9223372036854775808 ≤ x ∧ x ≤ 9223372036854775807 := by
  simp only [Lit.wf, Bool.and_eq_true, decide_eq_true_eq] at h
  exact h
theorem wf_byte {x : Int} (h : (Lit.int .u8 x).wf = true) : 0 ≤ x ∧ x ≤ 255 := by
  simp only [Lit.wf, Bool.and_eq_true, decide_eq_true_eq] at h
  exact h

/-- A loop over a list by its index: each round goes on, or ends with what the rest of the list is worth. -/
theorem loop_list {α σ R : Type} (F : Nat → σ → Int → Option R) (l : List α) (K : Nat) (Inv : Nat → σ → Prop) (G : List α → σ → R)
    (hnil : ∀ k s, K ≤ k → Inv l.length s → F (k + 1) s (l.length : Int) = some (G [] s))
    (hcons : ∀ k i s (h : i < l.length), K ≤ k → Inv i s → (∃ s', F (k + 1) s (i : Int) = F k s' ((i + 1 : Nat) : Int) ∧ Inv (i + 1) s' ∧ G (l[i] :: l.drop (i + 1)) s = G (l.drop (i + 1)) s') ∨ F (k + 1) s (i : Int) = some (G (l[i] :: l.drop (i + 1)) s))
    (k : Nat) (s : σ) (hk : l.length + K < k) (h0 : Inv 0 s) : F k s 0 = some (G l s) := by
  have key : ∀ (d k i : Nat) (s : σ), i + d = l.length → d + K < k → Inv i s → F k s (i : Int) = some (G (l.drop i) s) := by
    intro d
    induction d with
    | zero =>
      intro k i s hi hk h
      obtain ⟨k, rfl⟩ : ∃ m, k = m + 1 := ⟨k - 1, by omega⟩
      obtain rfl : i = l.length := by omega
      rw [hnil k s (by omega) h, List.drop_length]
    | succ d ih =>
      intro k i s hi hk h
      obtain ⟨k, rfl⟩ : ∃ m, k = m + 1 := ⟨k - 1, by omega⟩
      rw [drop_cons l i (by omega)]
      rcases hcons k i s (by omega) (by omega) h with ⟨s', e, h', g⟩ | e
      · rw [e, g]
        exact ih k (i + 1) s' (by omega) (by omega) h'
      · exact e
  have := key l.length k 0 s (by omega) (by omega) h0
  simpa using this
/-- A loop that sets element after element. -/
theorem set_loop {α β : Type} (F : Nat → List β → Int → Option (List β)) (l : List α) (f : α → β) (K : Nat)
    (hnil : ∀ k s, K ≤ k → F (k + 1) s (l.length : Int) = some s)
    (hcons : ∀ k i s (h : i < l.length), K ≤ k → s.length = l.length → F (k + 1) s (i : Int) = F k (s.set i (f l[i])) ((i + 1 : Nat) : Int))
    (k : Nat) (s : List β) (hk : l.length + K < k) (hs : s.length = l.length) : F k s 0 = some (l.map f) := by
  have key : ∀ (d k i : Nat) (s : List β), i + d = l.length → d + K < k → s.length = l.length → F k s (i : Int) = some (s.take i ++ (l.drop i).map f) := by
    intro d
    induction d with
    | zero =>
      intro k i s hi hk hs
      obtain ⟨k, rfl⟩ : ∃ m, k = m + 1 := ⟨k - 1, by omega⟩
      obtain rfl : i = l.length := by omega
      rw [hnil k s (by omega), List.drop_length, List.take_of_length_le (by omega)]
      simp
    | succ d ih =>
      intro k i s hi hk hs
      obtain ⟨k, rfl⟩ : ∃ m, k = m + 1 := ⟨k - 1, by omega⟩
      rw [hcons k i s (by omega) (by omega) hs, ih k (i + 1) _ (by omega) (by omega) (by simpa using hs), set_take _ _ _ (by omega), drop_cons l i (by omega), List.map_cons, List.append_assoc]
      rfl
  have := key l.length k 0 s (by omega) (by omega) hs
  simpa using this
/-- A loop that appends an element a round. -/
theorem append_loop {α β : Type} (F : Nat → List β → Int → Option (List β)) (l : List α) (f : α → β) (K : Nat) (s0 : List β)
    (hnil : ∀ k s, K ≤ k → F (k + 1) s (l.length : Int) = some s)
    (hcons : ∀ k i s (h : i < l.length), K ≤ k → s.length = s0.length + i → F (k + 1) s (i : Int) = F k (s ++ [f l[i]]) ((i + 1 : Nat) : Int))
    (k : Nat) (hk : l.length + K < k) : F k s0 0 = some (s0 ++ l.map f) := by
  have key : ∀ (d k i : Nat) (s : List β), i + d = l.length → d + K < k → s.length = s0.length + i → F k s (i : Int) = some (s ++ (l.drop i).map f) := by
    intro d
    induction d with
    | zero =>
      intro k i s hi hk hs
      obtain ⟨k, rfl⟩ : ∃ m, k = m + 1 := ⟨k - 1, by omega⟩
      obtain rfl : i = l.length := by omega
      rw [hnil k s (by omega), List.drop_length]
      simp
    | succ d ih =>
      intro k i s hi hk hs
      obtain ⟨k, rfl⟩ : ∃ m, k = m + 1 := ⟨k - 1, by omega⟩
      rw [hcons k i s (by omega) (by omega) hs, ih k (i + 1) _ (by omega) (by omega) (by simp [hs]; omega), drop_cons l i (by omega), List.map_cons, List.append_assoc]
      rfl
  have := key l.length k 0 s0 (by omega) (by omega) (by simp)
  simpa using this
/-- A loop that goes on for n rounds, and then ends. -/
theorem count_loop {R : Type} (F : Nat → Int → Option R) (n K : Nat) (r : R) (hend : ∀ k, K ≤ k → F (k + 1) (n : Int) = some r)
    (hgo : ∀ k i, i < n → K ≤ k → F (k + 1) (i : Int) = F k ((i + 1 : Nat) : Int)) (k : Nat) (hk : n + K < k) : F k 0 = some r := by
  have key : ∀ (d k i : Nat), i + d = n → d + K < k → F k (i : Int) = some r := by
    intro d
    induction d with
    | zero =>
      intro k i hi hk
      obtain ⟨k, rfl⟩ : ∃ m, k = m + 1 := ⟨k - 1, by omega⟩
      obtain rfl : i = n := by omega
      exact hend k (by omega)
    | succ d ih =>
      intro k i hi hk
      obtain ⟨k, rfl⟩ : ∃ m, k = m + 1 := ⟨k - 1, by omega⟩
      rw [hgo k i (by omega) (by omega)]
      exact ih k (i + 1) (by omega) (by omega)
  exact key n k 0 (by omega) (by omega)
theorem wrap_next {i n : Nat} (h : i < n) (hn : n ≤ 281474976710656) : wrap64 ((i : Int) + 1) = ((i + 1 : Nat) : Int) := by
  rw [wrap_id (by omega) (by omega)]; rfl
/-- The modulus of a field, 0 for none; its generator; how often 2 divides the modulus less 1. -/
def md (f : Int) : Int := if f = 0 then 17 else (if f = 1 then 97 else (if f = 2 then 193 else (if f = 3 then 257 else (if f = 4 then 7681 else (if f = 5 then 12289 else (if f = 6 then 998244353 else (if f = 7 then 469762049 else (if f = 8 then 1004535809 else 0))))))))
def gn (f : Int) : Int := if f = 0 then 3 else (if f = 1 then 5 else (if f = 2 then 5 else (if f = 3 then 3 else (if f = 4 then 17 else (if f = 5 then 11 else (if f = 6 then 3 else (if f = 7 then 3 else (if f = 8 then 3 else 0))))))))
def tw (f : Int) : Int := if f = 0 then 4 else (if f = 1 then 5 else (if f = 2 then 6 else (if f = 3 then 8 else (if f = 4 then 9 else (if f = 5 then 12 else (if f = 6 then 23 else (if f = 7 then 26 else (if f = 8 then 21 else 0))))))))
theorem nine {f : Int} (h0 : 0 ≤ f) (h8 : f ≤ 8) : f = 0 ∨ f = 1 ∨ f = 2 ∨ f = 3 ∨ f = 4 ∨ f = 5 ∨ f = 6 ∨ f = 7 ∨ f = 8 := by omega
theorem md_out {f : Int} (h : ¬ (0 ≤ f ∧ f ≤ 8)) : md f = 0 ∧ gn f = 0 ∧ tw f = 0 := by
  unfold md gn tw
  rw [if_neg (by omega), if_neg (by omega), if_neg (by omega), if_neg (by omega), if_neg (by omega), if_neg (by omega), if_neg (by omega), if_neg (by omega), if_neg (by omega)]
  rw [if_neg (by omega), if_neg (by omega), if_neg (by omega), if_neg (by omega), if_neg (by omega), if_neg (by omega), if_neg (by omega), if_neg (by omega), if_neg (by omega)]
  rw [if_neg (by omega), if_neg (by omega), if_neg (by omega), if_neg (by omega), if_neg (by omega), if_neg (by omega), if_neg (by omega), if_neg (by omega), if_neg (by omega)]
  exact ⟨rfl, rfl, rfl⟩
theorem md_in {f : Int} (h : md f ≠ 0) : 0 ≤ f ∧ f ≤ 8 := by
  by_cases c : 0 ≤ f ∧ f ≤ 8
  · exact c
  · exact absurd (md_out c).1 h
theorem md_pos {f : Int} (h : md f ≠ 0) : 17 ≤ md f ∧ md f ≤ 1004535809 := by
  obtain ⟨h0, h8⟩ := md_in h
  rcases nine h0 h8 with rfl | rfl | rfl | rfl | rfl | rfl | rfl | rfl | rfl <;> decide
theorem md_nonneg (f : Int) : 0 ≤ md f := by
  by_cases h : md f = 0
  · omega
  · have := md_pos h; omega
/-- All numbers are elements. -/
def El (p : Int) (l : List Int) : Prop := ∀ x ∈ l, 0 ≤ x ∧ x < p
instance (p : Int) (l : List Int) : Decidable (El p l) := inferInstanceAs (Decidable (∀ x ∈ l, 0 ≤ x ∧ x < p))
theorem El.nil (p : Int) : El p [] := fun x hx => by cases hx
theorem El.at {p : Int} {l : List Int} (h : El p l) (i : Nat) (hi : i < l.length) : 0 ≤ l[i] ∧ l[i] < p := h _ (List.getElem_mem hi)
/-- A list's element, 0 beyond its end. -/
def L (l : List Int) (i : Nat) : Int := l.getD i 0
theorem L_at (l : List Int) (i : Nat) (h : i < l.length) : L l i = l[i] := by simp [L, List.getD, h]
theorem L_out (l : List Int) (i : Nat) (h : l.length ≤ i) : L l i = 0 := by simp [L, List.getD, h]
theorem rd_L (l : List Int) (i : Nat) : rdI l (i : Int) = L l i := by simp [rdI, L]
theorem L_el {p : Int} (hp : 0 < p) {l : List Int} (h : El p l) (i : Nat) : 0 ≤ L l i ∧ L l i < p := by
  by_cases c : i < l.length
  · rw [L_at l i c]; exact h.at i c
  · rw [L_out l i (by omega)]; omega
/-- The list of a function's values. -/
def fl (n : Nat) (g : Nat → Int) : List Int := (List.range n).map g
theorem fl_length (n : Nat) (g : Nat → Int) : (fl n g).length = n := by simp [fl]
theorem L_fl (n : Nat) (g : Nat → Int) (i : Nat) (h : i < n) : L (fl n g) i = g i := by
  rw [L_at _ _ (by rw [fl_length]; exact h)]; simp [fl]
theorem fl_L (l : List Int) : fl l.length (L l) = l := by
  apply List.ext_getElem
  · exact fl_length _ _
  · intro i h1 h2
    simp [fl, L_at l i h2]
theorem fl_congr {n : Nat} {g h : Nat → Int} (e : ∀ i, i < n → g i = h i) : fl n g = fl n h := by
  unfold fl
  exact List.map_congr_left (fun i hi => e i (List.mem_range.1 hi))
theorem fl_inj {n : Nat} {g h : Nat → Int} (e : fl n g = fl n h) (i : Nat) (hi : i < n) : g i = h i := by
  rw [← L_fl n g i hi, e, L_fl n h i hi]
theorem fl_set (n : Nat) (g : Nat → Int) (t : Nat) (v : Int) : (fl n g).set t v = fl n (fun m => if m = t then v else g m) := by
  apply List.ext_getElem
  · simp [fl_length]
  · intro i h1 h2
    simp only [fl, List.getElem_set, List.getElem_map, List.getElem_range]
    by_cases c : t = i
    · rw [if_pos c, if_pos c.symm]
    · rw [if_neg c, if_neg (Ne.symm c)]
theorem fl_snoc (n : Nat) (g : Nat → Int) : fl n g ++ [g n] = fl (n + 1) g := by simp [fl, List.range_succ]
theorem fl_zero (n : Nat) : List.replicate n (0 : Int) = fl n (fun _ => 0) := by
  apply List.ext_getElem
  · simp [fl]
  · intro i h1 h2; simp [fl]
theorem fl_el {p : Int} {n : Nat} {g : Nat → Int} (h : ∀ i, i < n → 0 ≤ g i ∧ g i < p) : El p (fl n g) := by
  intro x hx
  obtain ⟨i, hi, rfl⟩ := List.mem_map.1 hx
  exact h i (List.mem_range.1 hi)
theorem list_ext {a b : List Int} (hl : a.length = b.length) (h : ∀ i, i < a.length → L a i = L b i) : a = b := by
  rw [← fl_L a, ← fl_L b, ← hl]
  exact fl_congr h
/-- Sums. -/
def sumN (n : Nat) (g : Nat → Int) : Int := match n with
  | 0 => 0
  | n + 1 => sumN n g + g n
theorem sumN_congr {n : Nat} {g h : Nat → Int} (e : ∀ i, i < n → g i = h i) : sumN n g = sumN n h := by
  induction n with
  | zero => rfl
  | succ n ih => simp only [sumN]; rw [ih (fun i hi => e i (by omega)), e n (by omega)]
theorem sumN_zero {n : Nat} {g : Nat → Int} (e : ∀ i, i < n → g i = 0) : sumN n g = 0 := by
  induction n with
  | zero => rfl
  | succ n ih => simp only [sumN]; rw [ih (fun i hi => e i (by omega)), e n (by omega)]; rfl
theorem emod_range (x : Int) {p : Int} (hp : 0 < p) : 0 ≤ x % p ∧ x % p < p := ⟨Int.emod_nonneg x (by omega), Int.emod_lt_of_pos x hp⟩
theorem tmod_nonneg' {x : Int} (p : Int) (h : 0 ≤ x) : Int.tmod x p = x % p := Int.tmod_eq_emod_of_nonneg h
theorem reduce_int (x p : Int) (hp : 0 < p) : (if Int.tmod x p < 0 then Int.tmod x p + p else Int.tmod x p) = x % p := by
  have h := Int.tmod_add_mul_tdiv x p
  have h1 : x % p = (Int.tmod x p) % p := by
    conv => lhs; rw [← h]
    rw [Int.add_mul_emod_self_left]
  have h2 : Int.tmod x p < p := Int.tmod_lt_of_pos x hp
  have h3 : -p < Int.tmod x p := by
    have := Int.lt_tmod_of_pos x hp
    omega
  rw [h1]
  by_cases c : Int.tmod x p < 0
  · rw [if_pos c, ← Int.add_emod_right, Int.emod_eq_of_lt (by omega) (by omega)]
  · rw [if_neg c, Int.emod_eq_of_lt (by omega) h2]
theorem prod_range {x y p : Int} (hp : p ≤ 1004535809) (hx : 0 ≤ x ∧ x < p) (hy : 0 ≤ y ∧ y < p) : 0 ≤ x * y ∧ x * y ≤ 1009092191563284481 := by
  refine ⟨Int.mul_nonneg hx.1 hy.1, ?_⟩
  have := Int.mul_le_mul (show x ≤ 1004535809 by omega) (show y ≤ 1004535809 by omega) hy.1 (by omega)
  omega
/-- A test turned round. -/
theorem not_ite {α : Type} (b : Bool) (x y : α) : (if (!b) = true then x else y) = if b = true then y else x := by cases b <;> rfl
end Go.Vm.Pu
